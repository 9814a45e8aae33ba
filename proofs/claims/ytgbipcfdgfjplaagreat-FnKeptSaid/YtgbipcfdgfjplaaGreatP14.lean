/-
  Parts of the proofs for this seat: G7 G8 SN SN2 G9.
-/
import Derived.Test.YtgbipcfdgfjplaaGreatP5
import Derived.Test.YtgbipcfdgfjplaaGreatP8
import Derived.Test.YtgbipcfdgfjplaaGreatP11
set_option linter.unusedSectionVars false
set_option linter.unusedSimpArgs false
set_option linter.unusedVariables false
set_option maxRecDepth 100000
set_option maxHeartbeats 4000000
namespace Go.Proofs.YtgbipcfdgfjplaaGreat
open Go.AM
theorem Wy:((((∀l fr cc cn cl i r,Im (Zcb l fr cc cn cl i=some r) (if i<(l.length:Int)then qG l i (λe1=>qH cc i (λe2=>qB (ZeI e1 e2 cn cl) (Zcb l fr cc cn cl (w (i+1))=some r) (some (.own 4,[.arr 181 3 true (l.map Zq.c),.arr 185 2 fr (cc.map Zc.c),.arr 3 1 true (cn.map ic),.arr 3 1 true (cl.map ic),.arr 42 1 true (([]:XS).map isc)])=some r)))else if(cl.length:Int)=(cn.length:Int)then cl.length<=68719476736/\some (.own 4,[.arr 181 3 true (l.map Zq.c),.arr 185 2 fr (cc.map Zc.c),.arr 3 1 true (cn.map ic),.arr 3 1 true (cl.map ic),.arr 42 1 true (([cl]).map isc)])=some r else Zcc l fr cc cn cl true ([]:XS) 0=some r))/\
 (∀l fr cc cn cl cp cd v r,Im (Zcc l fr cc cn cl cp cd v=some r) (if v<=9 then cl.length<=68719476736/\cl.length+1<=68719476736/\((∃(v1:List Zq),∃v2,∃(v3:List Zc),∃(v4:WA),∃(v5:WA),∃(v6:XS),JU l fr cc cn (cl++[v])=some (.own 4,[.arr 181 3 true (v1.map Zq.c),.arr 185 2 v2 (v3.map Zc.c),.arr 3 1 true (v4.map ic),.arr 3 1 true (v5.map ic),.arr 42 1 true (v6.map isc)])/\cd.length+v6.length<=68719476736/\Zcc v1 v2 v3 v4 cl (cp && flat (v6.map isc)) (cd++v6) (w (v+1))=some r)\/(∃(v7:List Zq),∃v8,∃(v9:List Zc),∃(v10:WA),∃(v11:WA),∃v12,∃(v13:XS),JU l fr cc cn (cl++[v])=some (.own 4,[.arr 181 3 true (v7.map Zq.c),.arr 185 2 v8 (v9.map Zc.c),.arr 3 1 true (v10.map ic),.arr 3 1 true (v11.map ic),.arr 42 1 v12 (v13.map isc)])/\cd.length+v13.length<=68719476736/\Zcc v7 v8 v9 v10 cl (cp && flat (v13.map isc)) (cd++v13) (w (v+1))=some r))else some (.own 4,[.arr 181 3 true (l.map Zq.c),.arr 185 2 fr (cc.map Zc.c),.arr 3 1 true (cn.map ic),.arr 3 1 true (cl.map ic),.arr 42 1 cp (cd.map isc)])=some r)))/\
 ((∀x fr x1 x2 x3 r,Im (JU x fr x1 x2 x3=some r) (Zcb x fr x1 x2 x3 0=some r))/\
 (∀d q l fr cc co i r,Im (JW d q l fr cc co i=some r) (if i<(q.Atoms.length:Int)then ¬i<0/\if(andI (shrI co i) 1)=1 then qG q.Atoms i (λe1=>(∃v7 v8 v9,UF d e1.Name=some (.tup [.agg [.t (.str v7),I v8,.t .nil],Bo v9],[])/\l.length+1<=68719476736/\cc.length+1<=68719476736/\JW d q (l++[(⟨v7,v8,[]⟩:Zq)]) false (cc++[e1]) co (w (i+1))=some r)\/(∃(v14:XS),∃v15,∃v16,UF d e1.Name=some (.tup [.agg [.t (.str v15),I v16,.own 0],Bo true],[.arr 42 1 true (v14.map isc)])/\l.length+1<=68719476736/\cc.length+1<=68719476736/\JW d q (l++[(⟨v15,v16,v14⟩:Zq)]) false (cc++[e1]) co (w (i+1))=some r))else JW d q l fr cc co (w (i+1))=some r else qO 3 1 ic (UE q co) (λv17=>(∃(v19:List Zq),∃v20,∃(v21:List Zc),∃(v22:WA),∃(v23:WA),∃(v24:XS),JU l fr cc v17 ([]:WA)=some (.own 4,[.arr 181 3 true (v19.map Zq.c),.arr 185 2 v20 (v21.map Zc.c),.arr 3 1 true (v22.map ic),.arr 3 1 true (v23.map ic),.arr 42 1 true (v24.map isc)])/\some (.tup [.agg [.own 0,.own 1],Bo true],[.arr 3 1 true (v22.map ic),.arr 42 1 true (v24.map isc)])=some r)\/(∃(v25:List Zq),∃v26,∃(v27:List Zc),∃(v28:WA),∃(v29:WA),∃v30,∃(v31:XS),JU l fr cc v17 ([]:WA)=some (.own 4,[.arr 181 3 true (v25.map Zq.c),.arr 185 2 v26 (v27.map Zc.c),.arr 3 1 true (v28.map ic),.arr 3 1 true (v29.map ic),.arr 42 1 v30 (v31.map isc)])/\some (.tup [.agg [.own 0,.own 1],Bo true],[.arr 3 1 true (v28.map ic),.arr 42 1 v30 (v31.map isc)])=some r))))))/\
 (((∀a a1 a2 r,Im (JV a a1 a2=some r) (qB (QL a a1) (qI (JH a1) (λv7=>qB (ZB a2 1 v7) (JW a a1 ([]:List Zq) true ([]:List Zc) a2 0=some r) (some (.tup [.agg [.t .nil,.t .nil],Bo false],[])=some r))) (some (.tup [.agg [.t .nil,.t .nil],Bo false],[])=some r)))/\
 (∀a a1 a2 r,Im (Vt a a1 a2=some r) ((JV a a1 a2=some (.tup [.agg [.t .nil,.t .nil],Bo false],[])/\qi (-1) r)\/(∃(v7:WA) (v8:XS),JV a a1 a2=some (.tup [.agg [.own 0,.own 1],Bo true],[.arr 3 1 true (v7.map ic),.arr 42 1 true (v8.map isc)])/\qi (v8.length:Int) r)\/(∃(v14:WA),∃v15,∃(v16:XS),JV a a1 a2=some (.tup [.agg [.own 0,.own 1],Bo true],[.arr 3 1 true (v14.map ic),.arr 42 1 v15 (v16.map isc)])/\qi (v16.length:Int) r))))/\
 ((∀x a r,Im (ZhJ x a=some r) (∃(v1:Zf),∃v2,Z7 x (a.length:Int)=some (I v2,[.box (v1.c.map .t)])/\qG a v2 (λe2=>some (I e2,[.box (v1.c.map .t)])=some r)))/\
 ((∀x cd l cu i r,Im (Qo x cd l cu i=some r) (if i<(l.length:Int)then if cu=true then qG l i (λe1=>if e1.Mask=x.Mask then Qo x cd l true (w (i+1))=some r else cd.length+1<=68719476736/\Qo x (cd++[e1]) l true (w (i+1))=some r)else qG l i (λe2=>if x.Mask<=e2.Mask then cd.length+1<=68719476736/\if e2.Mask=x.Mask then Qo x (cd++[x]) l true (w (i+1))=some r else cd.length+1+1<=68719476736/\Qo x ((cd++[x])++[e2]) l true (w (i+1))=some r else if e2.Mask=x.Mask then Qo x cd l false (w (i+1))=some r else cd.length+1<=68719476736/\Qo x (cd++[e2]) l false (w (i+1))=some r)else if cu=true then some (.own 0,[.arr 52 2 true (cd.map Zd.c)])=some r else cd.length+1<=68719476736/\some (.own 0,[.arr 52 2 true ((cd++[x]).map Zd.c)])=some r))/\
 (∀a a1 r,Im (UG a a1=some r) (Qo a1 ([]:List Zd) a false 0=some r))))))/\
 ((((∀c d q l k r,Im (Zcd c d q l k=some r) (if 0<k then ∃(v1:Zf),∃v2,ZeB c q=some (I v2,[.box (v1.c.map .t)])/\qI (Vt d q v2) (λv7=>∃(v14:Zf),∃v15,XC v1 8=some (Bo v15,[.box (v14.c.map .t)])/\if v15=true then ∃(v17:Zf),∃v18,ZhJ v14 ([(-1),0,3,4097])=some (I v18,[.box (v17.c.map .t)])/\qO 52 2 Zd.c (UG l (⟨v2,v18⟩:Zd)) (λv19=>Zcd v17 d q v19 (w (k-1))=some r)else qO 52 2 Zd.c (UG l (⟨v2,v7⟩:Zd)) (λv25=>Zcd v14 d q v25 (w (k-1))=some r))else some (L 2 (l.map Zd.c),[.box (c.c.map .t)])=some r))/\
 (∀x a a1 r,Im (ZhL x a a1=some r) (∃(v1:Zf),∃v2,Z7 x 4=some (I v2,[.box (v1.c.map .t)])/\Zcd v1 a a1 ([]:List Zd) v2=some r)))/\
 ((∀a r,Im (ZeL a=some r) (∃(v1:Zf) (v2:Zm) (v3:Zn) (v4:Ze) (v5:Zo),Ze9 a=some (.tup [.ptr 0 0,.agg (v2.c.map .t),.agg (v3.c.map .t),.agg (v4.c.map .t),.agg (v5.c.map .t)],[.box (v1.c.map .t)])/\∃(v7:Zf),∃v8,ZeA v1=some (I v8,[.box (v7.c.map .t)])/\∃(v14:Zf) (v15:List Zd),ZhL v7 v3 v4=some (L 2 (v15.map Zd.c),[.box (v14.c.map .t)])/\some (.tup [.agg (v2.c.map .t),.agg (v3.c.map .t),.agg (v4.c.map .t),.agg (v5.c.map .t),I v8,L 2 (v15.map Zd.c)],[])=some r))/\
 (∀a a1 a2 r,Im (ZC a a1 a2=some r) (if a1<=a then qb (decide (a<=a2)) r else qb false r))))/\
 (((∀a r,Im (JX a=some r) (if(a.size:Int)=1 then ∃b1,a[0]?=some b1/\if 97<=(b1.toNat:Int)then qb (decide ((b1.toNat:Int)<=122)) r else qb false r else qb false r))/\
 (∀s v x x1 r,Im (ZeM s v x x1=some r) (if x1<x then qG s x1 (λe1=>if v=e1 then qi x1 r else ZeM s v x (w (x1+1))=some r)else qi (-1) r)))/\
 ((∀a a1 r,Im (WX a a1=some r) (ZeM a a1 (a.length:Int) 0=some r))/\
 ((∀a a1 r,Im (VY a a1=some r) (qI (WX a a1) (λv1=>qb (decide (0<=v1)) r)))/\
 (∀s v x x1 r,Im (Zce s v x x1=some r) (if x1<x then qG s x1 (λe1=>if v=e1 then qi x1 r else Zce s v x (w (x1+1))=some r)else qi (-1) r)))))):=by
 and_intros
 all_goals(intros;unfold Im;(try simp only[Zcb,Zcc,JU,JW,JV,Vt,ZhJ,Qo,UG,Zcd,ZhL,ZeL,ZC,JX,ZeM,WX,VY,Zce,ZeI,Zc.c_def,Zq.c_def,UF,UE,Zn.c_def,Ze.c_def,QL,JH,ZB,Z7,Zf.c_def,ZeB,XC,Zd.c_def,Ze9,ZeA,Zm.c_def,Zr.c_def,Zo.c_def,mpl,dfs,qs]);(try simp only[itb]);(try simp only[itf,gS,kk]))
 all_goals(repeat' first|refine exI λ_=>?_|refine anJ λ_ _=>?_|refine anI λ_=>?_|refine orE2 ?_ ?_|exact False.elim)
 all_goals(intro h;first|rw[Zl ZlV.eq_1]|rw[Zl ZlW.eq_1]|refine ZR Z4B rfl ?_|rw[Zl ZlZ.eq_1]|refine run Z4C rfl ?_|refine run Z4D rfl ?_|refine ZR Zw7 rfl ?_|rw[Zl Zmb.eq_1]|refine run Z4E rfl ?_|rw[Zl Zmd.eq_1]|refine ZR Z4F rfl ?_|refine run Z4G rfl ?_|refine run Z4H rfl ?_|refine run Z4I rfl ?_|rw[Zl Zmg.eq_1]|refine run Z4J rfl ?_|refine run Z4K rfl ?_|rw[Zl Zmj.eq_1])
 all_goals (refine Yc ?_ h;clear h;simp +decide[*,kk,tI,tII,ZlY,ZlX,Zue,Zuf,Zma,Zug,Zuh,ZkW,Zui,Zuj,Zmc,Zuk,Zul,Zme,Zum,Zun,Zuo,Zup,Zmh,Zuq,Zur,Zmk])
abbrev Zgg:=uq Wy.1.1.1.1
abbrev Zxy:=uq Wy.1.1.1.2
abbrev Zxz:=uq Wy.1.1.2.1
abbrev Zpu:=uq Wy.1.1.2.2
abbrev Zpv:=uq Wy.1.2.1.1
abbrev Zx0:=uq Wy.1.2.1.2
abbrev Z7n:=uq Wy.1.2.2.1
abbrev Zx1:=uq Wy.1.2.2.2.1
abbrev Z7o:=uq Wy.1.2.2.2.2
abbrev Zpw:=uq Wy.2.1.1.1
abbrev Z7p:=uq Wy.2.1.1.2
abbrev Z7q:=uq Wy.2.1.2.1
abbrev Z7r:=uq Wy.2.1.2.2
abbrev Z7s:=uq Wy.2.2.1.1
abbrev Zx2:=uq Wy.2.2.1.2
abbrev Z7t:=uq Wy.2.2.2.1
abbrev Z7u:=uq Wy.2.2.2.2.1
abbrev Zx3:=uq Wy.2.2.2.2.2
theorem Zx4:(∀a a1 r,Im (ZhM a a1=some r) (Zce a a1 (a.length:Int) 0=some r))/\
 (∀a a1 r,Im (ZeN a a1=some r) (qI (ZhM a a1) (λv=>qb (decide (0<=v)) r))):=by
 and_intros
 all_goals(intros;unfold Im;(try simp only[ZhM,ZeN,Zce,mpl,dfs,qs]);(try simp only[itb]);(try simp only[itf,gS,kk]))
 all_goals(repeat' first|refine exI λ_=>?_|refine anJ λ_ _=>?_|refine anI λ_=>?_|refine orE2 ?_ ?_|exact False.elim)
 all_goals(intro h;first|refine run Z4L rfl ?_|refine run Z4M rfl ?_)
 all_goals (refine Yc ?_ h;clear h;simp +decide[*,kk,tI,tII,Zus,Zut])
abbrev Z7v:=uq Zx4.1
abbrev Z7w:=uq Zx4.2
theorem Wz:((((∀q cn x x1 x2 r,Im (JZ q cn x x1 x2=some r) (if x2<x1 then qG x x2 (λe1=>qB (JX e1.Name) (qB (ZC (e1.Vars.length:Int) 1 3) (ZeP q cn e1 x x1 x2 e1.Vars (e1.Vars.length:Int) 0=some r) (qb false r)) (qb false r))else qV (ZeN cn false) (λv5=>qb (!v5) r)))/\
 (∀q cn a x x1 x2 x3 x4 x5 r,Im (ZeP q cn a x x1 x2 x3 x4 x5=some r) (if x5<x4 then qG x3 x5 (λe1=>qB (ZC e1 0 (w (q.Zk-1))) (x5.toNat<=a.Vars.length/\qB (VY (a.Vars.take x5.toNat) e1) (qb false r) (qG cn e1 (λe4=>ZeP q (cn.set e1.toNat true) a x x1 x2 x3 x4 (w (x5+1))=some r))) (qb false r))else JZ q cn x x1 (w (x2+1))=some r)))/\
 ((∀q cd cl v r,Im (Zaa q cd cl v=some r) (if v<q.Zk then Zcg q cd cl v q.Atoms (q.Atoms.length:Int) 0=some r else some (.own 0,[.arr 3 1 true (cd.map ic)])=some r))/\
 (∀q cd cl v x x1 x2 r,Im (Zcg q cd cl v x x1 x2=some r) (if x2<x1 then qG x x2 (λe1=>¬x2<0/\if(andI (shrI cl x2) 1)=1 then qB (VY e1.Vars v) (cd.length+1<=68719476736/\Zaa q (cd++[v]) cl (w (v+1))=some r) (Zcg q cd cl v x x1 (w (x2+1))=some r)else Zcg q cd cl v x x1 (w (x2+1))=some r)else Zaa q cd cl (w (v+1))=some r))))/\
 (((∀a a1 r,Im (Zcf a a1=some r) (Zaa a ([]:WA) a1 0=some r))/\
 (∀cd b x x1 x2 r,Im (Zch cd b x x1 x2=some r) (if x2<x1 then qG x x2 (λe1=>qB (VY b e1) (cd.length+1<=68719476736/\Zch (cd++[e1]) b x x1 (w (x2+1))=some r) (Zch cd b x x1 (w (x2+1))=some r))else some (.own 0,[.arr 3 1 true (cd.map ic)])=some r)))/\
 ((∀a a1 r,Im (ZhT a a1=some r) (Zch ([]:WA) a1 a (a.length:Int) 0=some r))/\
 ((∀a a1 a2 a3 r,Im (Zci a a1 a2 a3=some r) (if a1.Kind=1 then qB (ZC a1.Zc 0 (w ((a.Atoms.length:Int)-1))) (if a1.Order=0 then ¬a1.Zc<0/\qG a.Atoms a1.Zc (λe2=>∃e3,e2.Vars[0]?=some e3/\some (.tup [.agg [I (shlI 1 a1.Zc),I e3,I (-1),I (-1)],Bo true],[])=some r)else some (.tup [.agg [I 0,I (-1),I (-1),I (-1)],Bo false],[])=some r) (some (.tup [.agg [I 0,I (-1),I (-1),I (-1)],Bo false],[])=some r)else if a1.Zc=0 then if a1.Kind=2 then if(a3.length:Int)<1 then some (.tup [.agg [I 0,I (-1),I (-1),I (-1)],Bo false],[])=some r else 0<=(w ((a3.length:Int)-1))/\∃e4,a3[(w ((a3.length:Int)-1)).toNat]?=some e4/\qG a2 e4 (λe5=>qO 3 1 ic (Zcf a e5.Mask) (λv6=>qB (VY v6 a1.Order) (if e5.Order=a1.Order then some (.tup [.agg [I 0,I (-1),I (-1),I (-1)],Bo false],[])=some r else some (.tup [.agg [I e5.Mask,I a1.Order,I e4,I (-1)],Bo true],[])=some r) (some (.tup [.agg [I 0,I (-1),I (-1),I (-1)],Bo false],[])=some r)))else if(a3.length:Int)<2 then some (.tup [.agg [I 0,I (-1),I (-1),I (-1)],Bo false],[])=some r else 0<=(w ((a3.length:Int)-2))/\∃e8,a3[(w ((a3.length:Int)-2)).toNat]?=some e8/\0<=(w ((a3.length:Int)-1))/\∃e9,a3[(w ((a3.length:Int)-1)).toNat]?=some e9/\qG a2 e8 (λe10=>qG a2 e9 (λe11=>qO 3 1 ic (Zcf a e10.Mask) (λv7=>qO 3 1 ic (Zcf a e11.Mask) (λv8=>qO 3 1 ic (ZhT v7 v8) (λv9=>if(andI e10.Mask e11.Mask)=0 then if(v9.length:Int)=0 then some (.tup [.agg [I (orI e10.Mask e11.Mask),I (-1),I e8,I e9],Bo false],[])=some r else if a1.Kind=3 then some (.tup [.agg [I (orI e10.Mask e11.Mask),I (-1),I e8,I e9],Bo (decide (a1.Order=0))],[])=some r else if a1.Kind=5 then some (.tup [.agg [I (orI e10.Mask e11.Mask),I e10.Order,I e8,I e9],Bo (decide (a1.Order=0))],[])=some r else if a1.Kind=4 then qB (VY v9 a1.Order) (if e10.Order=a1.Order then some (.tup [.agg [I (orI e10.Mask e11.Mask),I a1.Order,I e8,I e9],Bo (decide (e11.Order=a1.Order))],[])=some r else some (.tup [.agg [I (orI e10.Mask e11.Mask),I a1.Order,I e8,I e9],Bo false],[])=some r) (some (.tup [.agg [I (orI e10.Mask e11.Mask),I a1.Order,I e8,I e9],Bo false],[])=some r)else some (.tup [.agg [I (orI e10.Mask e11.Mask),I (-1),I e8,I e9],Bo false],[])=some r else some (.tup [.agg [I (orI e10.Mask e11.Mask),I (-1),I e8,I e9],Bo false],[])=some r)))))else some (.tup [.agg [I 0,I (-1),I (-1),I (-1)],Bo false],[])=some r))/\
 (∀q co cc x x1 x2 r,Im (Zab q co cc x x1 x2=some r) (if x2<x1 then qG x x2 (λe1=>qS Za.c (Zci q e1 co cc) (λv2 v3=>if v3=true then co.length+1<=68719476736/\if 0<=v2.Right then 0<=(w ((cc.length:Int)-2))/\(w ((cc.length:Int)-2)).toNat<=cc.length/\(w ((cc.length:Int)-2)).toNat+1<=68719476736/\Zab q (co++[v2]) ((cc.take ((w ((cc.length:Int)-2)).toNat))++[x2]) x x1 (w (x2+1))=some r else if 0<=v2.Left then 0<=(w ((cc.length:Int)-1))/\(w ((cc.length:Int)-1)).toNat<=cc.length/\(w ((cc.length:Int)-1)).toNat+1<=68719476736/\Zab q (co++[v2]) ((cc.take ((w ((cc.length:Int)-1)).toNat))++[x2]) x x1 (w (x2+1))=some r else cc.length+1<=68719476736/\Zab q (co++[v2]) (cc++[x2]) x x1 (w (x2+1))=some r else some (.tup [.t .nil,Bo false],[])=some r))else if(cc.length:Int)=1 then some (.tup [.own 0,Bo true],[.arr 113 4 true (co.map Za.c)])=some r else some (.tup [.t .nil,Bo false],[])=some r))))))/\
 ((((∀a a1 r,Im (QM a a1=some r) (qB (JY a) (qB (ZC (a1.Steps.length:Int) 1 14) (Zab a ([]:List Za) ([]:WA) a1.Steps (a1.Steps.length:Int) 0=some r) (some (.tup [.t .nil,Bo false],[])=some r)) (some (.tup [.t .nil,Bo false],[])=some r)))/\
 (∀a a1 r,Im (Zmt a a1=some r) (qb (decide (a.Name=a1)) r)))/\
 ((∀s f x x1 r,Im (ZeR s f x x1=some r) (if x1<x then qG s x1 (λe1=>qB (Zmt e1 f) (qi x1 r) (ZeR s f x (w (x1+1))=some r))else qi (-1) r))/\
 (∀a a1 r,Im (ZhV a a1=some r) (ZeR a a1 (a.length:Int) 0=some r))))/\
 (((∀cu cp x x1 x2 r,Im (ZeS cu cp x x1 x2=some r) (if x2<x1 then qG x x2 (λe1=>qB (ZC e1 0 9) (ZeS cu cp x x1 (w (x2+1))=some r) (qb false r))else qb (decide ((cu.length:Int)=cp)) r))/\
 (∀a a1 r,Im (Zac a a1=some r) (ZeS a a1 a (a.length:Int) 0=some r)))/\
 ((∀a r,Im (ZhW a=some r) (qb (!(decide (a=a))) r))/\
 ((∀a a1 r,Im (ZhX a a1=some r) (qV (ZhW a) (λv1=>qV (ZhW a1) (λv2=>if v1=true then if v2=true then qi 0 r else qi (-1) r else if v2=true then qi 1 r else if a<a1 then qi (-1) r else if a1<a then qi 1 r else qi 0 r))))/\
 (∀s1 s2 x x1 x2 r,Im (Zcj s1 s2 x x1 x2=some r) (if x2<x1 then qG x x2 (λe1=>if(s2.length:Int)<=x2 then qi 1 r else qH s2 x2 (λe2=>qI (ZhX e1 e2) (λv4=>if v4=0 then Zcj s1 s2 x x1 (w (x2+1))=some r else qi v4 r)))else if(s1.length:Int)<(s2.length:Int)then qi (-1) r else qi 0 r)))))):=by
 and_intros
 all_goals(intros;unfold Im;(try simp only[JZ,ZeP,Zaa,Zcg,Zcf,Zch,ZhT,Zci,Zab,QM,Zmt,ZeR,ZhV,ZeS,Zac,ZhW,ZhX,Zcj,JX,ZC,ZeN,VY,Ze.c_def,Zj.c_def,Za.c_def,JY,Zq.c_def,mpl,dfs,qs]);(try simp only[itb]);(try simp only[itf,gS,kk]))
 all_goals(repeat' first|refine exI λ_=>?_|refine anJ λ_ _=>?_|refine anI λ_=>?_|refine orE2 ?_ ?_|exact False.elim)
 all_goals(intro h;first|rw[Zl ZhN.eq_1]|rw[Zl Zml.eq_1]|rw[Zl ZhQ.eq_1]|rw[Zl Zmn.eq_1]|refine run Z4O rfl ?_|rw[Zl Zmp.eq_1]|refine run Z4P rfl ?_|refine run Z4Q rfl ?_|rw[Zl Zmr.eq_1]|refine run Z4R rfl ?_|refine run Z4S rfl ?_|rw[Zl Zmv.eq_1]|refine run Z4T rfl ?_|rw[Zl Zmy.eq_1]|refine run Z4U rfl ?_|refine run Z4V rfl ?_|refine run Z4W rfl ?_|rw[Zl Zm1.eq_1])
 all_goals (refine Yc ?_ h;clear h;simp +decide[*,kk,tI,tII,ZhO,Zmm,ZhR,Zmo,Zuu,Zuv,Zmq,Zuw,Zux,Zuy,Zms,Zuz,Zu0,Zmw,Zu1,Zmz,Zu2,Zu3,Zu4,Zm2])
abbrev Zx5:=uq Wz.1.1.1.1
abbrev Zx6:=uq Wz.1.1.1.2
abbrev Zx7:=uq Wz.1.1.2.1
abbrev Zx8:=uq Wz.1.1.2.2
abbrev Z7x:=uq Wz.1.2.1.1
abbrev Zx9:=uq Wz.1.2.1.2
abbrev Z7y:=uq Wz.1.2.2.1
abbrev Jb:=uq Wz.1.2.2.2.1
abbrev ZxA:=uq Wz.1.2.2.2.2
abbrev Z7z:=uq Wz.2.1.1.1
abbrev Z70:=uq Wz.2.1.1.2
abbrev ZxB:=uq Wz.2.1.2.1
abbrev Z71:=uq Wz.2.1.2.2
abbrev ZxC:=uq Wz.2.2.1.1
abbrev Z72:=uq Wz.2.2.1.2
abbrev ZxD:=uq Wz.2.2.2.1
abbrev Z73:=uq Wz.2.2.2.2.1
abbrev ZxE:=uq Wz.2.2.2.2.2
theorem Zdb:((∀a a1 r,Im (Zm3 a a1=some r) (Zcj a a1 a (a.length:Int) 0=some r))/\
 ((∀a a1 r,Im (ZhY a a1=some r) (qI (Zm3 a a1) (λv=>qi v r)))/\
 (∀c i r,Im (ZeT c i=some r) (if i<(c.length:Int)then 0<=(w (i-1))/\∃e1,c[(w (i-1)).toNat]?=some e1/\qG c i (λe2=>qI (ZhY e1 e2) (λv1=>if 0<=v1 then qb false r else ZeT c (w (i+1))=some r))else qb true r))))/\
 ((∀a r,Im (ZhZ a=some r) (ZeT a 1=some r))/\
 ((∀t x x1 x2 r,Im (ZeV t x x1 x2=some r) (if x2<x1 then qG x x2 (λe1=>qB (Zac e1 t.Arity) (ZeV t x x1 (w (x2+1))=some r) (qb false r))else qB (JX t.Name) (qB (ZC t.Arity 1 3) (if(t.Rows.length:Int)<=8 then qV (ZhZ t.Rows) (λv2=>qb v2 r)else qb false r) (qb false r)) (qb false r)))/\
 (∀a r,Im (ZeU a=some r) (ZeV a a.Rows (a.Rows.length:Int) 0=some r)))):=by
 and_intros
 all_goals(intros;unfold Im;(try simp only[Zm3,ZhY,ZeT,ZhZ,ZeV,ZeU,Zac,JX,ZC,Zcj,mpl,dfs,qs]);(try simp only[itb]);(try simp only[itf,gS,kk]))
 all_goals(repeat' first|refine exI λ_=>?_|refine anJ λ_ _=>?_|refine anI λ_=>?_|refine orE2 ?_ ?_|exact False.elim)
 all_goals(intro h;first|refine run Z4X rfl ?_|refine run Z4Y rfl ?_|rw[Zl Zm5.eq_1]|refine run Z4Z rfl ?_|rw[Zl Zm8.eq_1]|refine run Z5a rfl ?_)
 all_goals (refine Yc ?_ h;clear h;simp +decide[*,kk,tI,tII,Zu5,Zu6,Zm6,Zu7,Zm9,Zu8])
abbrev Z74:=uq Zdb.1.1
abbrev Z75:=uq Zdb.1.2.1
abbrev Zpx:=uq Zdb.1.2.2
abbrev Z76:=uq Zdb.2.1
abbrev ZxF:=uq Zdb.2.2.1
abbrev Z77:=uq Zdb.2.2.2
theorem Z78{a:Ze}{r:XR}(h:(∃(v:Bool),ZC a.Zk 1 4=some (Bo v,[])/\(if v=true then(∃(v1:Bool),ZC (a.Atoms.length:Int) 1 4=some (Bo v1,[])/\(if v1=true then(0<=a.Zk/\(a.Zk.toNat*1<=room/\(a.Zk<=140737488355328/\(JZ a (List.replicate (a.Zk).toNat false) a.Atoms (a.Atoms.length:Int) 0=some r))))else(some (Bo false,[])=some r)))else(some (Bo false,[])=some r)))):JY a=some r:=by
 unfold JY;refine run Z4N rfl ?_;obtain⟨v,q1,h⟩:=h;unfold ZC at q1
 try simp at q1
 by_cases q2:v=true
 .rw[Ya q2]at h;obtain⟨v1,q3,h⟩:=h;unfold ZC at q3
  try simp at q3
  by_cases q4:v1=true
  .rw[Ya q4]at h;obtain⟨q5,h⟩:=h;obtain⟨q6,h⟩:=h;have zq6:=q6;try simp at zq6
   obtain⟨q7,h⟩:=h;refine Yc ?_ h;clear h;simp +decide[*,ZhP,tI,tII,JZ]
  .rw[Yb q4]at h;refine Yc ?_ h;clear h;simp +decide[*,ZhP,tI,tII]
 .rw[Yb q2]at h;refine Yc ?_ h;clear h;simp +decide[*,ZhP,tI,tII]
end Go.Proofs.YtgbipcfdgfjplaaGreat
namespace Go.AM
theorem Wg(l:XS)(i:Nat)(e:WA):(l.map isc).set i [.lst 1 (e.map ic)]=(l.set i e).map isc:=by rw[List.map_set];rfl
theorem Jc(l:WA)(v:Int):l.map ic++[[.int .i64 v]]=(l++[v]).map ic:=by simp
theorem Wh(a b:Int)(k:IntKind):binT .shr (.int .u64 a) (.int k b)=if b<0 then none else some (.int .u64 (shrI a b)):=by simp[binT,shrI,IntKind.bits]
end Go.AM
namespace Go.Proofs.YtgbipcfdgfjplaaGreat
open Go.AM
theorem Zjd(l:List Zg)(a b:Int)(c:Bool):l.map Zg.c++[[.int .i64 a,.int .i64 b,.bool c]]=(l++[(⟨a,b,c⟩:Zg)]).map Zg.c:=by simp
theorem W0:((((∀db x x1 x2 r,Im (Zck db x x1 x2=some r) (if x2<x1 then qG x x2 (λe1=>qB (ZeU e1) (if 0<x2 then 0<=(w (x2-1))/\∃e3,db.Tables[(w (x2-1)).toNat]?=some e3/\if(Op.bytesLess e3.Name.toList e1.Name.toList)=true then Zck db x x1 (w (x2+1))=some r else qb false r else Zck db x x1 (w (x2+1))=some r) (qb false r))else qb (decide ((db.Tables.length:Int)<=6)) r))/\
 (∀a r,Im (Zia a=some r) (Zck a a.Tables (a.Tables.length:Int) 0=some r)))/\
 ((∀a r,Im (VZ a=some r) (a.length<=68719476736/\some (.own 0,[.arr 3 1 true (a.map ic)])=some r))/\
 (∀cl x x1 x2 r,Im (ZeW cl x x1 x2=some r) (if x2<x1 then qG x x2 (λe1=>qO 3 1 ic (VZ e1) (λv1=>cl.length+1<=68719476736/\ZeW (cl++[v1]) x x1 (w (x2+1))=some r))else some (.own 0,[.arr 42 1 true (cl.map isc)])=some r))))/\
 (((∀a r,Im (K8 a=some r) (ZeW ([]:XS) a (a.length:Int) 0=some r))/\
 (∀a r,Im (ZmG a=some r) (qO 42 1 isc (K8 a.Rows) (λv=>some (.agg [.t (.str a.Name),I a.Arity,.own 0],[.arr 42 1 true (v.map isc)])=some r))))/\
 ((∀a a1 r,Im (Zad a a1=some r) (qI (ZhV a.Tables a1) (λv=>if v<0 then some (.tup [.agg [.t (.str (⟨#[]⟩:V5)),I 0,.t .nil],Bo false],[])=some r else qB (Zia a) (qG a.Tables v (λe3=>∃(v6:XS),∃v7,∃v8,ZmG e3=some (.agg [.t (.str v7),I v8,.own 0],[.arr 42 1 true (v6.map isc)])/\some (.tup [.agg [.t (.str v7),I v8,.own 0],Bo true],[.arr 42 1 true (v6.map isc)])=some r)) (some (.tup [.agg [.t (.str (⟨#[]⟩:V5)),I 0,.t .nil],Bo false],[])=some r))))/\
 ((∀db x x1 x2 r,Im (ZeX db x x1 x2=some r) (if x2<x1 then qG x x2 (λe1=>(∃v1 v2,Zad db e1.Name=some (.tup [.agg [.t (.str v1),I v2,.t .nil],Bo false],[])/\qb false r)\/(∃(v3:XS),∃v4,∃v5,Zad db e1.Name=some (.tup [.agg [.t (.str v4),I v5,.own 0],Bo true],[.arr 42 1 true (v3.map isc)])/\if v5=(e1.Vars.length:Int)then ZeX db x x1 (w (x2+1))=some r else qb false r))else qb true r))/\
 (∀a a1 r,Im (Zcl a a1=some r) (qB (JY a1) (ZeX a a1.Atoms (a1.Atoms.length:Int) 0=some r) (qb false r)))))))/\
 ((((∀a x x1 x2 x3 r,Im (ZmK a x x1 x2 x3=some r) (if x3<x2 then qG x1 x3 (λe1=>ZeY a x ([]:WA) x1 e1 x2 x3 (x.length:Int) 0=some r)else some (.tup [.agg [.own 0,.t .nil],Bo true],[.arr 3 1 true (x.map ic)])=some r))/\
 (∀a x x1 x2 cd x3 x4 x5 x6 r,Im (ZeY a x x1 x2 cd x3 x4 x5 x6=some r) (if x6<x5 then qG x x6 (λe1=>qI (WX a.Vars e1) (λv1=>qG cd v1 (λe3=>x1.length+1<=68719476736/\ZeY a x (x1++[e3]) x2 cd x3 x4 x5 (w (x6+1))=some r)))else Zai a x ([x1]) x2 x3 (w (x4+1))=some r)))/\
 ((∀a x x1 x2 x3 x4 r,Im (Zai a x x1 x2 x3 x4=some r) (if x4<x3 then qG x2 x4 (λe1=>ZeZ a x x1 ([]:WA) x2 e1 x3 x4 (x.length:Int) 0=some r)else some (.tup [.agg [.own 0,.own 1],Bo true],[.arr 3 1 true (x.map ic),.arr 42 1 true (x1.map isc)])=some r))/\
 (∀a x x1 x2 x3 cd x4 x5 x6 x7 r,Im (ZeZ a x x1 x2 x3 cd x4 x5 x6 x7=some r) (if x7<x6 then qG x x7 (λe1=>qI (WX a.Vars e1) (λv1=>qG cd v1 (λe3=>x2.length+1<=68719476736/\ZeZ a x x1 (x2++[e3]) x3 cd x4 x5 x6 (w (x7+1))=some r)))else x1.length+1<=68719476736/\Zai a x (x1++[x2]) x3 x4 (w (x5+1))=some r))))/\
 (((∀a a1 a2 r,Im (Zah a a1 a2=some r) (qB (Zcl a a1) (qB (ZC a2 0 (w ((a1.Atoms.length:Int)-1))) (qG a1.Atoms a2 (λe3=>(∃v6 v7,Zad a e3.Name=some (.tup [.agg [.t (.str v6),I v7,.t .nil],Bo false],[])/\qO 3 1 ic (VZ e3.Vars) (λv9=>∃(v10:WA),Zae v9=some (.tup [],[.arr 3 1 true (v10.map ic)])/\ZuG e3 v10 0 0=some r))\/(∃(v11:XS),∃v12,∃v13,Zad a e3.Name=some (.tup [.agg [.t (.str v12),I v13,.own 0],Bo true],[.arr 42 1 true (v11.map isc)])/\qO 3 1 ic (VZ e3.Vars) (λv14=>∃(v15:WA),Zae v14=some (.tup [],[.arr 3 1 true (v15.map ic)])/\ZmK e3 v15 v11 (v11.length:Int) 0=some r)))) (some (.tup [.agg [.t .nil,.t .nil],Bo false],[])=some r)) (some (.tup [.agg [.t .nil,.t .nil],Bo false],[])=some r)))/\
 (∀c cc x x1 x2 r,Im (Zcn c cc x x1 x2=some r) (if x2<x1 then qG x x2 (λe1=>qB (ZC e1 0 (w (cc-1))) (if 0<x2 then 0<=(w (x2-1))/\∃e3,c[(w (x2-1)).toNat]?=some e3/\if e1<=e3 then qb false r else Zcn c cc x x1 (w (x2+1))=some r else Zcn c cc x x1 (w (x2+1))=some r) (qb false r))else qb true r)))/\
 ((∀a a1 r,Im (ZmO a a1=some r) (Zcn a a1 a (a.length:Int) 0=some r))/\
 ((∀a r,Im (ZmP a=some r) (qV (ZmO a 4) (λv=>qb v r)))/\
 (∀s x x1 x2 r,Im (Zco s x x1 x2=some r) (if x2<x1 then qG x x2 (λe1=>qB (Zac e1 (s.Vars.length:Int)) (Zco s x x1 (w (x2+1))=some r) (qb false r))else qB (ZmP s.Vars) (qb (decide ((s.Rows.length:Int)<=4096)) r) (qb false r))))))):=by
 and_intros
 all_goals(intros;unfold Im;(try simp only[Zck,Zia,VZ,ZeW,K8,ZmG,Zad,ZeX,Zcl,ZmK,ZeY,Zai,ZeZ,Zah,Zcn,ZmO,ZmP,Zco,ZeU,Zq.c_def,ZhV,Zn.c_def,JY,Ze.c_def,WX,ZC,Zae,Zac,ZuG,mpl,dfs,qs]);(try simp only[itb]);(try simp only[itf,gS,kk]))
 all_goals(repeat' first|refine exI λ_=>?_|refine anJ λ_ _=>?_|refine anI λ_=>?_|refine orE2 ?_ ?_|exact False.elim)
 all_goals(intro h;first|rw[Zl ZmB.eq_1]|refine run Z5b rfl ?_|refine run Z5c rfl ?_|rw[Zl ZmE.eq_1]|refine run Z5d rfl ?_|refine run Z5e rfl ?_|refine run Z5f rfl ?_|rw[Zl ZmI.eq_1]|refine run Z5g rfl ?_|rw[Zl Zaf.eq_1]|rw[Zl Zib.eq_1]|refine run Z5h rfl ?_|rw[Zl ZmM.eq_1]|refine run Z5i rfl ?_|refine run Z5j rfl ?_|rw[Zl ZmR.eq_1])
 all_goals (refine Yc ?_ h;clear h;simp +decide[*,kk,tI,tII,ZmC,Zu9,ZuA,ZmF,ZuB,ZuC,ZuD,ZmJ,ZuE,Zag,Zid,Zic,ZuF,ZmN,ZuH,ZuI,ZmS])
abbrev ZxG:=uq W0.1.1.1.1
abbrev Z79:=uq W0.1.1.1.2
abbrev Z7A:=uq W0.1.1.2.1
abbrev ZxH:=uq W0.1.1.2.2
abbrev Z7B:=uq W0.1.2.1.1
abbrev Z7C:=uq W0.1.2.1.2
abbrev Z7D:=uq W0.1.2.2.1
abbrev ZxI:=uq W0.1.2.2.2.1
abbrev Z7E:=uq W0.1.2.2.2.2
abbrev Z7F:=uq W0.2.1.1.1
abbrev ZxJ:=uq W0.2.1.1.2
abbrev ZxK:=uq W0.2.1.2.1
abbrev ZxL:=uq W0.2.1.2.2
abbrev Z7G:=uq W0.2.2.1.1
abbrev ZxM:=uq W0.2.2.1.2
abbrev Z7H:=uq W0.2.2.2.1
abbrev Z7I:=uq W0.2.2.2.2.1
abbrev ZxN:=uq W0.2.2.2.2.2
theorem ZxO:(∀a r,Im (Ua a=some r) (Zco a a.Rows (a.Rows.length:Int) 0=some r))/\
 (∀x a a1 r,Im (UH x a a1=some r) (qG a x (λe1=>qH a1 x (λe2=>some (I (w (e1-e2)),[.box [I x]])=some r)))):=by
 and_intros
 all_goals(intros;unfold Im;(try simp only[Ua,UH,Zco,mpl,dfs,qs]);(try simp only[itb]);(try simp only[itf,gS,kk]))
 all_goals(repeat' first|refine exI λ_=>?_|refine anJ λ_ _=>?_|refine anI λ_=>?_|refine orE2 ?_ ?_|exact False.elim)
 all_goals(intro h;first|refine run Z5k rfl ?_|refine ZR Z5l rfl ?_)
 all_goals (refine Yc ?_ h;clear h;simp +decide[*,kk,tI,tII,ZuJ,ZuK])
abbrev Z7J:=uq ZxO.1
abbrev Z7K:=uq ZxO.2
theorem ZxP{fr:Bool}{c:XS}{x a b i:Int}{r:XR}(h:(if i<b then(Zaj fr c x a b i i=some r)else(some (.tup [],[.arr 42 1 fr (c.map isc),.box [I x]])=some r))):QN fr c x a b i=some r:=by
 unfold QN;rw[Zl Zif.eq_1]
 try simp only[itb]at h
 try simp only[itf,gS,kk]at h
 rcases h with⟨q1,h⟩|⟨q1,h⟩
 all_goals (refine Yc ?_ h;clear h;simp +decide[*,-List.map_set,Wg,Wh,kk,tI,tII,Zaj])
theorem Zje{fr:Bool}{c:XS}{x a b i j:Int}{r:XR}(h:(if a<j then(0<=j/\(∃(e1:WA),c[j.toNat]?=some e1/\(0<=(w (j-1))/\(∃(e2:WA),c[(w (j-1)).toNat]?=some e2/\(∃(v:Int) (v1:Int),UH x e1 e2=some (I v1,[.box [I v]])/\(if v1<0 then(∃(e4:WA),(c.set j.toNat e2)[(w (j-1)).toNat]?=some e4/\(Zaj false ((c.set j.toNat e2).set ((w (j-1)).toNat) e1) v a b i (w (j-1))=some r))else(QN fr c v a b (w (i+1))=some r)))))))else(QN fr c x a b (w (i+1))=some r))):Zaj fr c x a b i j=some r:=by
 unfold Zaj;rw[Zl ZmT.eq_1];simp only[UH,mpl,dfs]at h
 try simp only[itb]at h
 try simp only[itf,gS,kk]at h
 rcases h with⟨q1,q2,e1,⟨g3,q3⟩,q4,e2,⟨g5,q5⟩,v,v1,q6,(⟨q7,e4,⟨g8,q8⟩,h⟩|⟨q7,h⟩)⟩|⟨q1,h⟩
 all_goals (refine Yc ?_ h;clear h;simp +decide[*,-List.map_set,Wg,Wh,kk,tI,tII,Zaj,QN,ZmU])
theorem Z7L{fr:Bool}{x:XS}{x1 a a1:Int}{r:XR}(h:(QN fr x x1 a a1 (w (a+1))=some r)):Zcp fr x x1 a a1=some r:=by
 unfold Zcp;refine ZR Z5m rfl ?_;refine Yc ?_ h;clear h;simp +decide[*,-List.map_set,Wg,Wh,kk,tI,tII,ZuL,QN]
theorem ZxQ{fr:Bool}{c:XS}{x a b n i:Int}{r:XR}(h:(if i<n then(0<=(w (b+i))/\(∃(e1:WA),c[(w (b+i)).toNat]?=some e1/\(0<=(w (a+i))/\(∃(e2:WA),c[(w (a+i)).toNat]?=some e2/\(∃(e3:WA),(c.set ((w (a+i)).toNat) e1)[(w (b+i)).toNat]?=some e3/\(Zal false ((c.set ((w (a+i)).toNat) e1).set ((w (b+i)).toNat) e2) x a b n (w (i+1))=some r))))))else(some (.tup [],[.arr 42 1 fr (c.map isc),.box [I x]])=some r))):Zal fr c x a b n i=some r:=by
 unfold Zal;rw[Zl ZmV.eq_1]
 try simp only[itb]at h
 try simp only[itf,gS,kk]at h
 rcases h with⟨q1,q2,e1,⟨g3,q3⟩,q4,e2,⟨g5,q5⟩,e3,⟨g6,q6⟩,h⟩|⟨q1,h⟩
 all_goals (refine Yc ?_ h;clear h;simp +decide[*,-List.map_set,Wg,Wh,kk,tI,tII,Zal])
theorem Z7M{fr:Bool}{x:XS}{x1 a a1 a2:Int}{r:XR}(h:(Zal fr x x1 a a1 a2 0=some r)):Zak fr x x1 a a1 a2=some r:=by
 unfold Zak;refine ZR Z5n rfl ?_;refine Yc ?_ h;clear h;simp +decide[*,-List.map_set,Wg,Wh,kk,tI,tII,ZuN,Zal]
end Go.Proofs.YtgbipcfdgfjplaaGreat
