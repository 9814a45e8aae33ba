/-
  Parts of the proofs for this seat: G8 G9 G10 G11.
-/
import Derived.Test.YtcfaekfjkeobhaaGreatP9
set_option linter.unusedSectionVars false
set_option linter.unusedSimpArgs false
set_option linter.unusedVariables false
set_option maxRecDepth 100000
set_option maxHeartbeats 4000000
namespace Go.Proofs.YtcfaekfjkeobhaaGreat
open Go.AM
theorem Zdf:((((∀cc fr l m x cd k r,Im (Znc cc fr l m x cd k=some r) (if k<(x.Zv.length:Int)then qG x.Zv k (λe1=>qI (Zh0 l e1) (λv4=>qG l v4 (λe3=>qI (Zh0 l (w (x.mask-e1))) (λv12=>qG l v12 (λe5=>∃(v18:List Int) (v19:List Za),Zky cc cd m e3 e5 3 0 (-1)=some (.tup [],[.arr 3 1 true (v18.map ic),.arr 126 4 true (v19.map Za.c)])/\Znd v18 fr l m x v19 e5 k e1 (w (x.mask-e1)) (-1)=some r)))))else Zkz cd true ([]:List Za) cc fr l 0=some r))/\
 (∀cc fr l m x cd b k cn cl o r,Im (Znd cc fr l m x cd b k cn cl o=some r) (if o<4 then qI (Zna l cn o) (λv=>if 0<=v then qH l v (λe2=>∃(v9:List Int) (v10:List Za),Zky cc cd m e2 b 5 0 o=some (.tup [],[.arr 3 1 true (v9.map ic),.arr 126 4 true (v10.map Za.c)])/\Znd v9 fr l m x v10 b k cn cl (w (o+1))=some r)else Znd cc fr l m x cd b k cn cl (w (o+1))=some r)else Zh1 cc fr l m x cd k cn cl 0=some r)))/\
 ((∀cd fr co x cu x1 o r,Im (Zkz cd fr co x cu x1 o=some r) (if o<=4 then qG cd o (λe1=>if 0<e1.Mask then co.length+1<=68719476736/\Zkz cd false (co++[e1]) x cu x1 (w (o+1))=some r else Zkz cd fr co x cu x1 (w (o+1))=some r)else some (.own 2,[.arr 3 1 true (x.map ic),.arr 126 4 cu (x1.map Za.c),.arr 126 4 fr (co.map Za.c)])=some r))/\
 (∀cc fr l m x cd k cn cl e r,Im (Zh1 cc fr l m x cd k cn cl e=some r) (qG x.shared k (λe1=>if e<(e1.length:Int)then qG e1 e (λe2=>(∃(v9:Za),Zgf cc fr l m cn e2=some (.agg (v9.c.map .t),[.arr 3 1 true (cc.map ic),.arr 126 4 fr (l.map Za.c)])/\((∃(v12:Za),Zgf cc fr l m cl e2=some (.agg (v12.c.map .t),[.arr 3 1 true (cc.map ic),.arr 126 4 fr (l.map Za.c)])/\∃(v16:List Int) (v17:List Za),Zky cc cd m v9 v12 4 e2 e2=some (.tup [],[.arr 3 1 true (v16.map ic),.arr 126 4 true (v17.map Za.c)])/\Zh1 v16 fr l m x v17 k cn cl (w (e+1))=some r)\/(∃(v18:List Zb),∃v19,∃v20,∃v21,Zgf cc fr l m cl e2=some (.agg [I v19,I v20,I v21,.own 2],[.arr 3 1 true (cc.map ic),.arr 126 4 fr (l.map Za.c),.arr 162 3 true (v18.map Zb.c)])/\∃(v22:List Int) (v23:List Za) (v24:List Zb),Zql cc cd v18 m v9 v19 v20 v21 4 e2 e2=some (.tup [],[.arr 3 1 true (v22.map ic),.arr 126 4 true (v23.map Za.c),.arr 162 3 true (v24.map Zb.c)])/\Zh1 v22 fr l m x v23 k cn cl (w (e+1))=some r)))\/(∃(v25:List Zb),∃v26,∃v27,∃v28,Zgf cc fr l m cn e2=some (.agg [I v26,I v27,I v28,.own 2],[.arr 3 1 true (cc.map ic),.arr 126 4 fr (l.map Za.c),.arr 162 3 true (v25.map Zb.c)])/\((∃(v29:Za),Zgf cc fr l m cl e2=some (.agg (v29.c.map .t),[.arr 3 1 true (cc.map ic),.arr 126 4 fr (l.map Za.c)])/\∃(v31:List Int) (v32:List Za) (v33:List Zb),Zqm cc cd v25 m v26 v27 v28 v29 4 e2 e2=some (.tup [],[.arr 3 1 true (v31.map ic),.arr 126 4 true (v32.map Za.c),.arr 162 3 true (v33.map Zb.c)])/\Zh1 v31 fr l m x v32 k cn cl (w (e+1))=some r)\/(∃(v34:List Zb),∃v35,∃v36,∃v37,Zgf cc fr l m cl e2=some (.agg [I v35,I v36,I v37,.own 2],[.arr 3 1 true (cc.map ic),.arr 126 4 fr (l.map Za.c),.arr 162 3 true (v34.map Zb.c)])/\∃(v38:List Int) (v39:List Za) (v40:List Zb) (v41:List Zb),Zqn cc cd v25 v34 m v26 v27 v28 v35 v36 v37 4 e2 e2=some (.tup [],[.arr 3 1 true (v38.map ic),.arr 126 4 true (v39.map Za.c),.arr 162 3 true (v40.map Zb.c),.arr 162 3 true (v41.map Zb.c)])/\Zh1 v38 fr l m x v39 k cn cl (w (e+1))=some r))))else Znc cc fr l m x cd (w (k+1))=some r)))))/\
 (((∀x fr x1 a a1 r,Im (Zus x fr x1 a a1=some r) (Znc x fr x1 a a1 (List.replicate 5 (⟨0,0,0,(⟨[]⟩:Plan)⟩:Za)) 0=some r))/\
 (∀cp cc m q fr co i r,Im (Zne cp cc m q fr co i=some r) (if i<(cp.length:Int)then qG cp i (λe1=>if(andI e1.mask (w (e1.mask-1)))=0 then qO 3 1 ic (Zkp e1.mask) (λv4=>∃e3,v4[0]?=some e3/\qG q.Atoms e3 (λe4=>∃e5,e4.Vars[0]?=some e5/\qG cc e1.mask (λe6=>qI (Zdx m.Scan e6 0 e6) (λv22=>∃(v25:List Zb),Zix e3=some (.agg [.own 0],[.arr 162 3 true (v25.map Zb.c)])/\co.length+1<=68719476736/\Zne cp cc m q fr (co++[(⟨e1.mask,e5,v22,(⟨v25⟩:Plan)⟩:Za)]) (w (i+1))=some r))))else ∃v29,∃(v30:List Za),Zus cc fr co m e1=some (.own 2,[.arr 3 1 true (cc.map ic),.arr 126 4 fr (co.map Za.c),.arr 126 4 v29 (v30.map Za.c)])/\co.length+v30.length<=68719476736/\Zne cp cc m q (fr && flat (v30.map Za.c)) (co++v30) (w (i+1))=some r)else some (.own 2,[.arr 220 3 true (cp.map Z2.c),.arr 3 1 true (cc.map ic),.arr 126 4 fr (co.map Za.c)])=some r)))/\
 ((∀x x1 a a1 r,Im (Zi3 x x1 a a1=some r) (Zne x x1 a a1 true ([]:List Za) 0=some r))/\
 ((∀x a a1 r,Im (Zqq x a a1=some r) (qB (Zhy a) (qB (Zkx a1 x) (qO 220 3 Z2.c (Zhz a1) (λv9=>∃v12,∃(v13:List Za),Zi3 v9 x a a1=some (.own 2,[.arr 220 3 true (v9.map Z2.c),.arr 3 1 true (x.map ic),.arr 126 4 v12 (v13.map Za.c)])/\some (.own 1,[.arr 3 1 true (x.map ic),.arr 126 4 v12 (v13.map Za.c)])=some r)) (some (.own 1,[.arr 3 1 true (x.map ic),.arr 126 4 true (([]:List Za).map Za.c)])=some r)) (some (.own 1,[.arr 3 1 true (x.map ic),.arr 126 4 true (([]:List Za).map Za.c)])=some r)))/\
 (∀a a1 r,Im (Zel a a1=some r) (qI (Zh0 a a1) (λv=>if v<0 then some (.tup [.agg [I 0,I 0,I 0,.t .nil],Bo false],[])=some r else qG a v (λe2=>e2.Plan.Steps.length<=68719476736/\some (.tup [.agg [I e2.Mask,I e2.Order,I e2.Cost,.own 0],Bo true],[.arr 162 3 true (e2.Plan.Steps.map Zb.c)])=some r))))))))/\
 ((((∀x a a1 r,Im (Zut x a a1=some r) ((∃(v:List Int),∃v1,∃(v2:List Za),Zqq x a a1=some (.own 1,[.arr 3 1 true (v.map ic),.arr 126 4 v1 (v2.map Za.c)])/\qI (Zch a1) (λv4=>(∃v9 v10 v11,Zel v2 v4=some (.tup [.agg [I v9,I v10,I v11,.t .nil],Bo false],[])/\some (.tup [.agg [I v9,I v10,I v11,.t .nil],Bo false],[.arr 3 1 true (v.map ic)])=some r)\/(∃(v12:List Zb),∃v13,∃v14,∃v15,Zel v2 v4=some (.tup [.agg [I v13,I v14,I v15,.own 0],Bo true],[.arr 162 3 true (v12.map Zb.c)])/\some (.tup [.agg [I v13,I v14,I v15,.own 1],Bo true],[.arr 3 1 true (v.map ic),.arr 162 3 true (v12.map Zb.c)])=some r)))\/(∃(v16:List Int) (v17:List Za),Zqq x a a1=some (.own 1,[.arr 3 1 true (v16.map ic),.arr 126 4 true (v17.map Za.c)])/\qI (Zch a1) (λv18=>(∃v22 v23 v24,Zel v17 v18=some (.tup [.agg [I v22,I v23,I v24,.t .nil],Bo false],[])/\some (.tup [.agg [I v22,I v23,I v24,.t .nil],Bo false],[.arr 3 1 true (v16.map ic)])=some r)\/(∃(v25:List Zb),∃v26,∃v27,∃v28,Zel v17 v18=some (.tup [.agg [I v26,I v27,I v28,.own 0],Bo true],[.arr 162 3 true (v25.map Zb.c)])/\some (.tup [.agg [I v26,I v27,I v28,.own 1],Bo true],[.arr 3 1 true (v16.map ic),.arr 162 3 true (v25.map Zb.c)])=some r)))))/\
 (∀x a a1 r,Im (Znf x a a1=some r) ((∃(v:List Int),∃v1,∃v2,∃v3,Zut x a a1=some (.tup [.agg [I v1,I v2,I v3,.t .nil],Bo false],[.arr 3 1 true (v.map ic)])/\some (.tup [.agg [.own 1],Bo false],[.arr 3 1 true (v.map ic),.arr 162 3 true (([]:List Zb).map Zb.c)])=some r)\/(∃(v4:List Int),∃(v5:List Zb),∃v6,∃v7,∃v8,Zut x a a1=some (.tup [.agg [I v6,I v7,I v8,.own 1],Bo true],[.arr 3 1 true (v4.map ic),.arr 162 3 true (v5.map Zb.c)])/\some (.tup [.agg [.own 1],Bo true],[.arr 3 1 true (v4.map ic),.arr 162 3 true (v5.map Zb.c)])=some r))))/\
 ((∀a b i r,Im (Zqr a b i=some r) (if i<(a.length:Int)then qG a i (λe1=>qH b i (λe2=>if e1<e2 then qb false r else Zqr a b (w (i+1))=some r))else qb true r))/\
 (∀a a1 r,Im (Zh2 a a1=some r) (if(a.length:Int)=(a1.length:Int)then Zqr a a1 0=some r else qb false r))))/\
 (((∀a r,Im (Zi4 a=some r) (if 0<(a.Low.length:Int)then qB (Zkt a.Low) (qB (Zkt a.High) (qV (Zh2 a.High a.Low) (λv9=>qb v9 r)) (qb false r)) (qb false r)else qb false r))/\
 (∀a a1 r,Im (Zk0 a a1=some r) (qB (Zi4 a) (qB (Zh2 a1 a.Low) (qV (Zh2 a.High a1) (λv9=>qb v9 r)) (qb false r)) (qb false r))))/\
 ((∀a a1 r,Im (Zuu a a1=some r) (∃(v:List Zf),∃v1,Ziz a a1=some (.tup [.own 0,Bo v1],[.arr 178 4 true (v.map Zf.c)])/\if v1=true then 0<=(w ((v.length:Int)-1))/\∃e2,v[(w ((v.length:Int)-1)).toNat]?=some e2/\qi e2.Mask r else qi 0 r))/\
 ((∀a a1 r,Im (Zi5 a a1=some r) (qB (Zi4 a1.Box) (qI (Zch a) (λv4=>if(a1.Box.Low.length:Int)=(w (v4+1))then qI (Zuu a a1.Plan) (λv9=>if v9=v4 then if 0<v4 then qV (Zbv a1.Percent 100 1000) (λv12=>qb v12 r)else qb false r else qb false r)else qb false r)) (qb false r)))/\
 (∀a a1 a2 a3 a4 r,Im (Zqs a a1 a2 a3 a4=some r) (qG a2 a3 (λe1=>qA Zj.c (Ze8 a a1) (λv4=>if e1.Left<0 then qG a4 e1.Mask (λe3=>qI (Zdx v4 e3 0 e3) (λv12=>qi v12 r))else if e1.Right<0 then qG a2 e1.Left (λe5=>qG a4 e5.Mask (λe6=>qG a4 e1.Mask (λe7=>qI (Zdx v4 e6 0 e7) (λv25=>qi v25 r))))else qG a2 e1.Left (λe9=>qG a4 e9.Mask (λe10=>qG a2 e1.Right (λe11=>qG a4 e11.Mask (λe12=>qG a4 e1.Mask (λe13=>qI (Zdx v4 e10 e12 e13) (λv42=>qi v42 r)))))))))))))):=by
 and_intros
 all_goals(intros;unfold Im;(try simp only[Znc,Znd,Zkz,Zh1,Zus,Zne,Zi3,Zqq,Zel,Zut,Znf,Zqr,Zh2,Zi4,Zk0,Zuu,Zi5,Zqs,Zh0,Zky,Zd.c_def,Zj.c_def,Plan.c_def,Za.c_def,Zna,Zgf,Zql,Zqm,Zqn,Zb.c_def,Zkp,Zdx,Zix,Z2.c_def,Zhy,Zkx,Zhz,Zc.c_def,Zch,Zkt,Box.c_def,Ziz,Zbv,Ze8,mpl,dfs,qs]);(try simp only[itb]);(try simp only[itf,gS,kk]))
 all_goals(repeat' first|refine exI λ_=>?_|refine anJ λ_ _=>?_|refine anI λ_=>?_|refine orE2 ?_ ?_|exact False.elim)
 all_goals(intro h;first|rw[Zl Zqo.eq_1]|rw[Zl Zz3.eq_1]|rw[Zl Zz6.eq_1]|rw[Zl Zz4.eq_1]|refine runM Zbnj rfl ?_|rw[Zl Zz8.eq_1]|refine runM Zbnk rfl ?_|refine runM Zbnl rfl ?_|refine run Zbnm rfl ?_|refine runM Zbnn rfl ?_|refine runM Zbno rfl ?_|rw[Zl Z0a.eq_1]|refine run Zbnp rfl ?_|refine run Zbnq rfl ?_|refine run Zbnr rfl ?_|refine run Zbns rfl ?_|refine run Zbnt rfl ?_|refine run Zbnu rfl ?_)
 all_goals (refine Ya ?_ h;clear h;simp +decide[*,kk,tI,tII,Zqp,Z97,Zz5,Z98,Zz7,Zur,Z99,Zbaa,Zz9,Zbab,Zbac,Zbad,Zbae,Zbaf,Z0b,Zbag,Zbah,Zbai,Zbaj,Zbak,Zbal])
abbrev Zbet:=uq Zdf.1.1.1.1
abbrev Zbeu:=uq Zdf.1.1.1.2
abbrev Z24:=uq Zdf.1.1.2.1
abbrev Zbev:=uq Zdf.1.1.2.2
abbrev Zbru:=uq Zdf.1.2.1.1
abbrev Z25:=uq Zdf.1.2.1.2
abbrev Zbrv:=uq Zdf.1.2.2.1
abbrev Z26:=uq Zdf.1.2.2.2.1
abbrev Z27:=uq Zdf.1.2.2.2.2
abbrev Zbew:=uq Zdf.2.1.1.1
abbrev Zbex:=uq Zdf.2.1.1.2
abbrev Zbey:=uq Zdf.2.1.2.1
abbrev Zbrw:=uq Zdf.2.1.2.2
abbrev Zbrx:=uq Zdf.2.2.1.1
abbrev Zbry:=uq Zdf.2.2.1.2
abbrev Zbrz:=uq Zdf.2.2.2.1
abbrev Zbr0:=uq Zdf.2.2.2.2.1
abbrev Zbr1:=uq Zdf.2.2.2.2.2
theorem Zdg:((((∀m p cu co cp i r,Im (Zqt m p cu co cp i=some r) (if i<(co.length:Int)then qG p.Steps i (λe1=>qI (Zqs m e1.Kind co i cp) (λv6=>cu.length+1<=68719476736/\Zqt m p (cu++[v6]) co cp (w (i+1))=some r))else some (.own 0,[.arr 3 1 true (cu.map ic)])=some r))/\
 (∀a a1 a2 a3 r,Im (Zuv a a1 a2 a3=some r) (∃(v:List Zf),∃v1,Ziz a1 a2=some (.tup [.own 0,Bo v1],[.arr 178 4 true (v.map Zf.c)])/\if v1=true then qB (Zkx a1 a3) (Zqt a a2 ([]:List Int) v a3 0=some r) (some (.own 0,[.arr 3 1 true (([]:List Int).map ic)])=some r)else some (.own 0,[.arr 3 1 true (([]:List Int).map ic)])=some r)))/\
 ((∀l n i r,Im (Zqu l n i=some r) (if i<(l.length:Int)then qG l i (λe1=>Zqu l (w (n+e1)) (w (i+1))=some r)else qi n r))/\
 (∀a a1 a2 a3 r,Im (Zuw a a1 a2 a3=some r) (qO 3 1 ic (Zuv a a1 a2 a3) (λv=>if(v.length:Int)=0 then qi (-1) r else Zqu v 0 0=some r)))))/\
 (((∀a a1 a2 a3 r,Im (Zk1 a a1 a2 a3=some r) (qO 3 1 ic (Zhw a3) (λv=>qI (Zuw a a1 a2 v) (λv6=>qi v6 r))))/\
 (∀a a1 a2 r,Im (Zi6 a a1 a2=some r) (qO 220 3 Z2.c (Zhz a1) (λv=>qO 3 1 ic (Zhw a2.Box.Low) (λv6=>∃v10,∃(v11:List Za),Zi3 v v6 a a1=some (.own 2,[.arr 220 3 true (v.map Z2.c),.arr 3 1 true (v6.map ic),.arr 126 4 v10 (v11.map Za.c)])/\qI (Zch a1) (λv12=>(∃v14 v15 v16,Zel v11 v12=some (.tup [.agg [I v14,I v15,I v16,.t .nil],Bo false],[])/\qb false r)\/(∃(v17:List Zb),∃v18,∃v19,∃v20,Zel v11 v12=some (.tup [.agg [I v18,I v19,I v20,.own 0],Bo true],[.arr 162 3 true (v17.map Zb.c)])/\qI (Zk1 a a1 a2.Plan a2.Box.High) (λv21=>qb (decide ((w (v21*100))<=(w (a2.Percent*v20)))) r))))))))/\
 ((∀a a1 a2 r,Im (Zqv a a1 a2=some r) (qB (Zhy a) (qI (Zch a1) (λv6=>qB (Zft a1 v6) (qB (Zi5 a1 a2) (qV (Zi6 a a1 a2) (λv14=>qb v14 r)) (qb false r)) (qb false r))) (qb false r)))/\
 ((∀m q cl cd cc x x1 x2 l cn r,Im (Zi7 m q cl cd cc x x1 x2 l cn=some r) (if cn=true then Zdy m q cl cd cc x x1 x2 l false 0=some r else some (.tup [.agg [.own 0,.own 1,.own 2,I cc],Bo true],[.arr 162 3 true (x.map Zb.c),.arr 3 1 true (x1.map ic),.arr 3 1 true (x2.map ic)])=some r))/\
 (∀m q cl cd cc x x1 x2 l cn k r,Im (Zdy m q cl cd cc x x1 x2 l cn k=some r) (if k<(l.length:Int)then qG x2 k (λe1=>qH cl.High k (λe2=>if e1<e2 then qB (Zi6 m q (⟨(⟨x⟩:Plan),(⟨x1,(x2.set k.toNat (w (e1+1)))⟩:Box),cc⟩:Region)) (Zuz m q cl cd cc x x1 (x2.set k.toNat (w (e1+1))) l true k=some r) (Zuz m q cl cd cc x x1 ((x2.set k.toNat (w (e1+1))).set k.toNat (w ((w (e1+1))-1))) l cn k=some r)else qH x1 k (λe4=>qH cl.Low k (λe5=>if e5<e4 then qB (Zi6 m q (⟨(⟨x⟩:Plan),(⟨(x1.set k.toNat (w (e4-1))),x2⟩:Box),cc⟩:Region)) (Zdy m q cl cd cc x (x1.set k.toNat (w (e4-1))) x2 l true (w (k+1))=some r) (Zdy m q cl cd cc x ((x1.set k.toNat (w (e4-1))).set k.toNat (w ((w (e4-1))+1))) x2 l cn (w (k+1))=some r)else Zdy m q cl cd cc x x1 x2 l cn (w (k+1))=some r))))else Zi7 m q cl cd cc x x1 x2 l cn=some r))))))/\
 ((((∀m q cl cd cc x x1 x2 l cn k r,Im (Zuz m q cl cd cc x x1 x2 l cn k=some r) (qG x1 k (λe1=>qH cl.Low k (λe2=>if e2<e1 then qB (Zi6 m q (⟨(⟨x⟩:Plan),(⟨(x1.set k.toNat (w (e1-1))),x2⟩:Box),cc⟩:Region)) (Zdy m q cl cd cc x (x1.set k.toNat (w (e1-1))) x2 l true (w (k+1))=some r) (Zdy m q cl cd cc x ((x1.set k.toNat (w (e1-1))).set k.toNat (w ((w (e1-1))+1))) x2 l cn (w (k+1))=some r)else Zdy m q cl cd cc x x1 x2 l cn (w (k+1))=some r))))/\
 (∀a a1 a2 a3 a4 a5 r,Im (Zgg a a1 a2 a3 a4 a5=some r) (a2.Steps.length<=68719476736/\a4.length<=68719476736/\qB (Zk0 a3 a4) (qB (Zqv a a1 (⟨a2,(⟨a4,a4⟩:Box),a5⟩:Region)) (Zi7 a a1 a3 0 a5 a2.Steps a4 a4 a4 true=some r) (some (.tup [.agg [.own 0,.own 1,.own 2,I 0],Bo false],[.arr 162 3 true (([]:List Zb).map Zb.c),.arr 3 1 true (([]:List Int).map ic),.arr 3 1 true (([]:List Int).map ic)])=some r)) (some (.tup [.agg [.own 0,.own 1,.own 2,I 0],Bo false],[.arr 162 3 true (([]:List Zb).map Zb.c),.arr 3 1 true (([]:List Int).map ic),.arr 3 1 true (([]:List Int).map ic)])=some r))))/\
 ((∀x r,Im (Zng x=some r) (∃(v:Zh) (v1:Zd),Zpl x=some (.agg (v1.c.map .t),[.box (v.c.map .t)])/\∃(v6:Zh) (v7:Zc),Zp4 v=some (.agg (v7.c.map .t),[.box (v6.c.map .t)])/\∃(v10:Zh) (v11:Box),Zp5 v6 v7=some (.agg (v11.c.map .t),[.box (v10.c.map .t)])/\∃(v12:Zh) (v13:List Int),Zp6 v10 v11=some (L 1 (v13.map ic),[.box (v12.c.map .t)])/\qI (Zch v7) (λv14=>∃(v17:Zh) (v18:Plan),Zge v12 v7 v14=some (.agg (v18.c.map .t),[.box (v17.c.map .t)])/\qO 3 1 ic (Zhw v13) (λv21=>∃(v22:List Int),∃(v23:List Zb),∃v24,Znf v21 v1 v7=some (.tup [.agg [.own 1],Bo v24],[.arr 3 1 true (v22.map ic),.arr 162 3 true (v23.map Zb.c)])/\if v24=true then ∃(v25:Zh),∃v26,Zc2 v17 3=some (Bo v26,[.box (v25.c.map .t)])/\if v26=true then ∃(v27:Zh),∃(v28:List Int),∃v29,Zdw v25 ([100,120,200,400,1000])=some (I v29,[.box (v27.c.map .t),.arr 3 1 true (v28.map ic)])/\∃(v30:List Zb),∃(v31:List Int),∃(v32:List Int),∃v33,∃v34,Zgg v1 v7 v18 v11 v13 v29=some (.tup [.agg [.own 0,.own 1,.own 2,I v33],Bo v34],[.arr 162 3 true (v30.map Zb.c),.arr 3 1 true (v31.map ic),.arr 3 1 true (v32.map ic)])/\some (.tup [.agg (v1.c.map .t),.agg (v7.c.map .t),.agg (v11.c.map .t),L 1 (v13.map ic),.agg [L 3 (v30.map Zb.c),L 1 (v31.map ic),L 1 (v32.map ic),I v33]],[.box (v27.c.map .t)])=some r else ∃(v35:Zh),∃(v36:List Int),∃v37,Zdw v25 ([100,120,200,400,1000])=some (I v37,[.box (v35.c.map .t),.arr 3 1 true (v36.map ic)])/\∃(v38:List Zb),∃(v39:List Int),∃(v40:List Int),∃v41,∃v42,Zgg v1 v7 (⟨v23⟩:Plan) v11 v13 v37=some (.tup [.agg [.own 0,.own 1,.own 2,I v41],Bo v42],[.arr 162 3 true (v38.map Zb.c),.arr 3 1 true (v39.map ic),.arr 3 1 true (v40.map ic)])/\some (.tup [.agg (v1.c.map .t),.agg (v7.c.map .t),.agg (v11.c.map .t),L 1 (v13.map ic),.agg [L 3 (v38.map Zb.c),L 1 (v39.map ic),L 1 (v40.map ic),I v41]],[.box (v35.c.map .t)])=some r else ∃(v43:Zh),∃(v44:List Int),∃v45,Zdw v17 ([100,120,200,400,1000])=some (I v45,[.box (v43.c.map .t),.arr 3 1 true (v44.map ic)])/\∃(v46:List Zb),∃(v47:List Int),∃(v48:List Int),∃v49,∃v50,Zgg v1 v7 v18 v11 v13 v45=some (.tup [.agg [.own 0,.own 1,.own 2,I v49],Bo v50],[.arr 162 3 true (v46.map Zb.c),.arr 3 1 true (v47.map ic),.arr 3 1 true (v48.map ic)])/\some (.tup [.agg (v1.c.map .t),.agg (v7.c.map .t),.agg (v11.c.map .t),L 1 (v13.map ic),.agg [L 3 (v46.map Zb.c),L 1 (v47.map ic),L 1 (v48.map ic),I v49]],[.box (v43.c.map .t)])=some r))))/\
 (∀x a r,Im (Zu0 x a=some r) (∃(v:Zh),∃v1,Zbg x (a.length:Int)=some (I v1,[.box (v.c.map .t)])/\qG a v1 (λe2=>some (I e2,[.box (v.c.map .t)])=some r)))))/\
 (((∀a r,Im (Z0g a=some r) (a.Low.length<=68719476736/\a.High.length<=68719476736/\some (.agg (a.c.map .t),[])=some r))/\
 (∀x r,Im (Zu1 x=some r) (∃(v:Zh) (v1:Zd) (v2:Zc) (v3:Box) (v4:List Int) (v5:Region),Zng x=some (.tup [.agg (v1.c.map .t),.agg (v2.c.map .t),.agg (v3.c.map .t),L 1 (v4.map ic),.agg (v5.c.map .t)],[.box (v.c.map .t)])/\∃(v6:Zh),∃v7,Zbg v 8=some (I v7,[.box (v6.c.map .t)])/\if v7=0 then ∃(v10:Zh),∃v11,Zu0 v6 ([99,100,150,1001])=some (I v11,[.box (v10.c.map .t)])/\some (.tup [.agg (v1.c.map .t),.agg (v2.c.map .t),.agg [L 3 (v5.Plan.Steps.map Zb.c),L 1 (v5.Box.Low.map ic),L 1 (v5.Box.High.map ic),I v11]],[.box (v10.c.map .t)])=some r else if v7=1 then qA Box.c (Z0g v3) (λv12=>some (.tup [.agg (v1.c.map .t),.agg (v2.c.map .t),.agg [L 3 (v5.Plan.Steps.map Zb.c),L 1 (v12.Low.map ic),L 1 (v12.High.map ic),I v5.Percent]],[.box (v6.c.map .t)])=some r)else if v7=2 then qI (Zch v2) (λv14=>∃(v17:Zh) (v18:Plan),Zge v6 v2 v14=some (.agg (v18.c.map .t),[.box (v17.c.map .t)])/\some (.tup [.agg (v1.c.map .t),.agg (v2.c.map .t),.agg [L 3 (v18.Steps.map Zb.c),L 1 (v5.Box.Low.map ic),L 1 (v5.Box.High.map ic),I v5.Percent]],[.box (v17.c.map .t)])=some r)else some (.tup [.agg (v1.c.map .t),.agg (v2.c.map .t),.agg (v5.c.map .t)],[.box (v6.c.map .t)])=some r)))/\
 ((∀a r,Im (Zu2 a=some r) (∃(v:Zh),Zkh a=some (.ptr 0 0,[.box (v.c.map .t)])/\∃(v6:Zh) (v7:Zd) (v8:Zc) (v9:Region),Zu1 v=some (.tup [.agg (v7.c.map .t),.agg (v8.c.map .t),.agg (v9.c.map .t)],[.box (v6.c.map .t)])/\some (.tup [.agg (v7.c.map .t),.agg (v8.c.map .t),.agg (v9.c.map .t)],[])=some r))/\
 ((∀a a1 a2 r,Im (Zbj a a1 a2=some r) (if a1<=a then qb (decide (a<=a2)) r else qb false r))/\
 (∀a r,Im (Zqy a=some r) (if(a.size:Int)=1 then ∃b1,a[0]?=some b1/\if 97<=(b1.toNat:Int)then qb (decide ((b1.toNat:Int)<=122)) r else qb false r else qb false r)))))):=by
 and_intros
 all_goals(intros;unfold Im;(try simp only[Zqt,Zuv,Zqu,Zuw,Zk1,Zi6,Zqv,Zi7,Zdy,Zgg,Zng,Zu0,Z0g,Zu1,Zu2,Zbj,Zqy,Zqs,Zd.c_def,Zj.c_def,Zf.c_def,Ziz,Zkx,Plan.c_def,Zc.c_def,Zhw,Zhz,Zi3,Zch,Zel,Z2.c_def,Za.c_def,Zhy,Zft,Zi5,Box.c_def,Region.c_def,tI,Zk0,Zpl,Zp4,Zp5,Zp6,Zge,Znf,Zc2,Zdw,Zh.c_def,Zbg,Zkh,Zuz,mpl,dfs,qs]);(try simp only[itb]);(try simp only[itf,gS,kk]))
 all_goals(repeat' first|refine exI λ_=>?_|refine anJ λ_ _=>?_|refine anI λ_=>?_|refine orE2 ?_ ?_|exact False.elim)
 all_goals(intro h;first|rw[Zl Z0c.eq_1]|refine run Zbnv rfl ?_|rw[Zl Z0e.eq_1]|refine run Zbnw rfl ?_|refine run Zbnx rfl ?_|refine run Zbny rfl ?_|refine run Zbnz rfl ?_|rw[Zl Zqw.eq_1]|rw[Zl Zuy.eq_1]|rw[Zir Zux.eq_1]|refine run Zbn0 rfl ?_|refine runM Zbn1 rfl ?_|refine runM Zbdf rfl ?_|refine run Zbn2 rfl ?_|refine runM Zbn3 rfl ?_|refine run Zbn4 rfl ?_|refine run Zbn5 rfl ?_|refine run Zbn6 rfl ?_)
 all_goals (refine Ya ?_ h;clear h;simp +decide[*,kk,tI,tII,Z0d,Zbam,Z0f,Zban,Zbao,Zbap,Zbaq,Zqx,Zux,Zbar,Zbat,Zbas,Zyi,Zbau,Zbaw,Zbav,Zbax,Zbay,Zbaz])
abbrev Zbez:=uq Zdg.1.1.1.1
abbrev Zbr2:=uq Zdg.1.1.1.2
abbrev Zbe0:=uq Zdg.1.1.2.1
abbrev Zbr3:=uq Zdg.1.1.2.2
abbrev Zbr4:=uq Zdg.1.2.1.1
abbrev Zbr5:=uq Zdg.1.2.1.2
abbrev Zbr6:=uq Zdg.1.2.2.1
abbrev Zbe1:=uq Zdg.1.2.2.2.1
abbrev Zvz:=uq Zdg.1.2.2.2.2
abbrev Zbe2:=uq Zdg.2.1.1.1
abbrev Z28:=uq Zdg.2.1.1.2
abbrev Z29:=uq Zdg.2.1.2.1
abbrev Zbr7:=uq Zdg.2.1.2.2
abbrev Zbr8:=uq Zdg.2.2.1.1
abbrev Zv0:=uq Zdg.2.2.1.2
abbrev Zbr9:=uq Zdg.2.2.2.1
abbrev Zbsa:=uq Zdg.2.2.2.2.1
abbrev Zbsb:=uq Zdg.2.2.2.2.2
theorem Z3a:(∀s v x x1 r,Im (Zqz s v x x1=some r) (if x1<x then qG s x1 (λe1=>if v=e1 then qi x1 r else Zqz s v x (w (x1+1))=some r)else qi (-1) r))/\
 ((∀a a1 r,Im (Zu3 a a1=some r) (Zqz a a1 (a.length:Int) 0=some r))/\
 (∀a a1 r,Im (Zh3 a a1=some r) (qI (Zu3 a a1) (λv1=>qb (decide (0<=v1)) r)))):=by
 and_intros
 all_goals(intros;unfold Im;(try simp only[Zqz,Zu3,Zh3,mpl,dfs,qs]);(try simp only[itb]);(try simp only[itf,gS,kk]))
 all_goals(repeat' first|refine exI λ_=>?_|refine anJ λ_ _=>?_|refine anI λ_=>?_|refine orE2 ?_ ?_|exact False.elim)
 all_goals(intro h;first|rw[Zl Z0h.eq_1]|refine run Zbn7 rfl ?_|refine run Zbn8 rfl ?_)
 all_goals (refine Ya ?_ h;clear h;simp +decide[*,kk,tI,tII,Z0i,Zba0,Zba1])
abbrev Zbe3:=uq Z3a.1
abbrev Zbsc:=uq Z3a.2.1
abbrev Zbsd:=uq Z3a.2.2
theorem Zdh:((((∀s v x x1 r,Im (Zq0 s v x x1=some r) (if x1<x then qG s x1 (λe1=>if v=e1 then qi x1 r else Zq0 s v x (w (x1+1))=some r)else qi (-1) r))/\
 (∀a a1 r,Im (Zu4 a a1=some r) (Zq0 a a1 (a.length:Int) 0=some r)))/\
 ((∀a a1 r,Im (Zu5 a a1=some r) (qI (Zu4 a a1) (λv1=>qb (decide (0<=v1)) r)))/\
 (∀q cd x x1 x2 r,Im (Zk2 q cd x x1 x2=some r) (if x2<x1 then qG x x2 (λe1=>qB (Zqy e1.Name) (qB (Zbj (e1.Vars.length:Int) 1 3) (Zq1 q cd e1 x x1 x2 e1.Vars (e1.Vars.length:Int) 0=some r) (qb false r)) (qb false r))else qV (Zu5 cd false) (λv4=>qb (!v4) r)))))/\
 (((∀q cd a x x1 x2 x3 x4 x5 r,Im (Zq1 q cd a x x1 x2 x3 x4 x5=some r) (if x5<x4 then qG x3 x5 (λe1=>qB (Zbj e1 0 (w (q.Ze-1))) (x5.toNat<=a.Vars.length/\qB (Zh3 (a.Vars.take x5.toNat) e1) (qb false r) (qG cd e1 (λe4=>Zq1 q (cd.set e1.toNat true) a x x1 x2 x3 x4 (w (x5+1))=some r))) (qb false r))else Zk2 q cd x x1 (w (x2+1))=some r))/\
 (∀cl x x1 x2 r,Im (Zq2 cl x x1 x2=some r) (if x2<x1 then qG x x2 (λe1=>qB (Zbj e1 0 7) (Zq2 cl x x1 (w (x2+1))=some r) (qb false r))else qb (decide ((cl.length:Int)<=16)) r)))/\
 ((∀a r,Im (Zk3 a=some r) (Zq2 a a (a.length:Int) 0=some r))/\
 ((∀a b x x1 r,Im (Zq3 a b x x1=some r) (if x1<x then qG a x1 (λe1=>qH b x1 (λe2=>if e1<e2 then qb false r else Zq3 a b x (w (x1+1))=some r))else qb true r))/\
 (∀a a1 r,Im (Zk4 a a1=some r) (if(a.length:Int)=(a1.length:Int)then Zq3 a a1 (a.length:Int) 0=some r else qb false r))))))/\
 ((((∀a r,Im (Zh4 a=some r) (qB (Zk3 a.Low) (qB (Zk3 a.High) (if 0<(a.Low.length:Int)then qV (Zk4 a.High a.Low) (λv3=>qb v3 r)else qb false r) (qb false r)) (qb false r)))/\
 (∀a r,Im (Zdz a=some r) (qB (Zgh a) (¬(a.Atoms.length:Int)<0/\qi (w ((shlI 1 (a.Atoms.length:Int))-1)) r) (qi 0 r))))/\
 ((∀a a1 r,Im (Zq4 a a1=some r) (qB (Zh4 a1) (qI (Zdz a) (λv2=>qb (decide ((a1.Low.length:Int)=(w (v2+1)))) r)) (qb false r)))/\
 (∀q c cc v r,Im (Zk5 q c cc v=some r) (if v<q.Ze then Znh q c cc v q.Atoms (q.Atoms.length:Int) 0=some r else some (.own 0,[.arr 3 1 true (c.map ic)])=some r))))/\
 (((∀q c cc v x x1 x2 r,Im (Znh q c cc v x x1 x2=some r) (if x2<x1 then qG x x2 (λe1=>¬x2<0/\if(andI (shrI cc x2) 1)=1 then qB (Zh3 e1.Vars v) (c.length+1<=68719476736/\Zk5 q (c++[v]) cc (w (v+1))=some r) (Znh q c cc v x x1 (w (x2+1))=some r)else Znh q c cc v x x1 (w (x2+1))=some r)else Zk5 q c cc (w (v+1))=some r))/\
 (∀a a1 r,Im (Zg5 a a1=some r) (Zk5 a ([]:List Int) a1 0=some r)))/\
 ((∀c b x x1 x2 r,Im (Zni c b x x1 x2=some r) (if x2<x1 then qG x x2 (λe1=>qB (Zh3 b e1) (c.length+1<=68719476736/\Zni (c++[e1]) b x x1 (w (x2+1))=some r) (Zni c b x x1 (w (x2+1))=some r))else some (.own 0,[.arr 3 1 true (c.map ic)])=some r))/\
 ((∀a a1 r,Im (Zi8 a a1=some r) (Zni ([]:List Int) a1 a (a.length:Int) 0=some r))/\
 (∀a a1 a2 a3 r,Im (Zk6 a a1 a2 a3=some r) (if a1.Kind=1 then qB (Zbj a1.Atom 0 (w ((a.Atoms.length:Int)-1))) (if a1.Order=0 then ¬a1.Atom<0/\qG a.Atoms a1.Atom (λe2=>∃e3,e2.Vars[0]?=some e3/\some (.tup [.agg [I (shlI 1 a1.Atom),I e3,I (-1),I (-1)],Bo true],[])=some r)else some (.tup [.agg [I 0,I (-1),I (-1),I (-1)],Bo false],[])=some r) (some (.tup [.agg [I 0,I (-1),I (-1),I (-1)],Bo false],[])=some r)else if a1.Atom=0 then if a1.Kind=2 then if(a3.length:Int)<1 then some (.tup [.agg [I 0,I (-1),I (-1),I (-1)],Bo false],[])=some r else 0<=(w ((a3.length:Int)-1))/\∃e4,a3[(w ((a3.length:Int)-1)).toNat]?=some e4/\qG a2 e4 (λe5=>qO 3 1 ic (Zg5 a e5.Mask) (λv5=>qB (Zh3 v5 a1.Order) (if e5.Order=a1.Order then some (.tup [.agg [I 0,I (-1),I (-1),I (-1)],Bo false],[])=some r else some (.tup [.agg [I e5.Mask,I a1.Order,I e4,I (-1)],Bo true],[])=some r) (some (.tup [.agg [I 0,I (-1),I (-1),I (-1)],Bo false],[])=some r)))else if(a3.length:Int)<2 then some (.tup [.agg [I 0,I (-1),I (-1),I (-1)],Bo false],[])=some r else 0<=(w ((a3.length:Int)-2))/\∃e8,a3[(w ((a3.length:Int)-2)).toNat]?=some e8/\0<=(w ((a3.length:Int)-1))/\∃e9,a3[(w ((a3.length:Int)-1)).toNat]?=some e9/\qG a2 e8 (λe10=>qG a2 e9 (λe11=>qO 3 1 ic (Zg5 a e10.Mask) (λv6=>qO 3 1 ic (Zg5 a e11.Mask) (λv7=>qO 3 1 ic (Zi8 v6 v7) (λv8=>if(andI e10.Mask e11.Mask)=0 then if(v8.length:Int)=0 then some (.tup [.agg [I (orI e10.Mask e11.Mask),I (-1),I e8,I e9],Bo false],[])=some r else if a1.Kind=3 then some (.tup [.agg [I (orI e10.Mask e11.Mask),I (-1),I e8,I e9],Bo (decide (a1.Order=0))],[])=some r else if a1.Kind=5 then some (.tup [.agg [I (orI e10.Mask e11.Mask),I e10.Order,I e8,I e9],Bo (decide (a1.Order=0))],[])=some r else if a1.Kind=4 then qB (Zh3 v8 a1.Order) (if e10.Order=a1.Order then some (.tup [.agg [I (orI e10.Mask e11.Mask),I a1.Order,I e8,I e9],Bo (decide (e11.Order=a1.Order))],[])=some r else some (.tup [.agg [I (orI e10.Mask e11.Mask),I a1.Order,I e8,I e9],Bo false],[])=some r) (some (.tup [.agg [I (orI e10.Mask e11.Mask),I a1.Order,I e8,I e9],Bo false],[])=some r)else some (.tup [.agg [I (orI e10.Mask e11.Mask),I (-1),I e8,I e9],Bo false],[])=some r else some (.tup [.agg [I (orI e10.Mask e11.Mask),I (-1),I e8,I e9],Bo false],[])=some r)))))else some (.tup [.agg [I 0,I (-1),I (-1),I (-1)],Bo false],[])=some r)))))):=by
 and_intros
 all_goals(intros;unfold Im;(try simp only[Zq0,Zu4,Zu5,Zk2,Zq1,Zq2,Zk3,Zq3,Zk4,Zh4,Zdz,Zq4,Zk5,Znh,Zg5,Zni,Zi8,Zk6,Zqy,Zbj,Zh3,Zgh,Zc.c_def,Box.c_def,mpl,dfs,qs]);(try simp only[itb]);(try simp only[itf,gS,kk]))
 all_goals(repeat' first|refine exI λ_=>?_|refine anJ λ_ _=>?_|refine anI λ_=>?_|refine orE2 ?_ ?_|exact False.elim)
 all_goals(intro h;first|rw[Zl Z0j.eq_1]|refine run Zbn9 rfl ?_|refine run Zboa rfl ?_|rw[Zl Zu6.eq_1]|rw[Zl Z0l.eq_1]|rw[Zl Z0n.eq_1]|refine run Zboc rfl ?_|rw[Zl Z0p.eq_1]|refine run Zbod rfl ?_|refine run Zboe rfl ?_|refine run Zbof rfl ?_|refine run Zbog rfl ?_|rw[Zl Zu9.eq_1]|rw[Zl Z0r.eq_1]|refine run Zboh rfl ?_|rw[Zl Z0t.eq_1]|refine run Zboi rfl ?_|refine run Zboj rfl ?_)
 all_goals (refine Ya ?_ h;clear h;simp +decide[*,kk,tI,tII,Z0k,Zba2,Zba3,Zu7,Z0m,Z0o,Zba4,Z0q,Zba5,Zba6,Zba7,Zba8,Zva,Z0s,Zba9,Zbba,Z0u,Zbbb,Zbbc])
abbrev Zbe4:=uq Zdh.1.1.1.1
abbrev Zbse:=uq Zdh.1.1.1.2
abbrev Zbsf:=uq Zdh.1.1.2.1
abbrev Zbe5:=uq Zdh.1.1.2.2
abbrev Zbe6:=uq Zdh.1.2.1.1
abbrev Zbe7:=uq Zdh.1.2.1.2
abbrev Zbsg:=uq Zdh.1.2.2.1
abbrev Zbe8:=uq Zdh.1.2.2.2.1
abbrev Zbsh:=uq Zdh.1.2.2.2.2
abbrev Zbsi:=uq Zdh.2.1.1.1
abbrev Zbsj:=uq Zdh.2.1.1.2
abbrev Zbsk:=uq Zdh.2.1.2.1
abbrev Zbe9:=uq Zdh.2.1.2.2
abbrev Zbfa:=uq Zdh.2.2.1.1
abbrev Zbsl:=uq Zdh.2.2.1.2
abbrev Zbfb:=uq Zdh.2.2.2.1
abbrev Zbsm:=uq Zdh.2.2.2.2.1
abbrev Zjo:=uq Zdh.2.2.2.2.2
theorem Zsa:((∀q cd cc x x1 x2 r,Im (Zk7 q cd cc x x1 x2=some r) (if x2<x1 then qG x x2 (λe1=>qS Zf.c (Zk6 q e1 cd cc) (λv v1=>if v1=true then cd.length+1<=68719476736/\if 0<=v.Right then 0<=(w ((cc.length:Int)-2))/\(w ((cc.length:Int)-2)).toNat<=cc.length/\(w ((cc.length:Int)-2)).toNat+1<=68719476736/\Zk7 q (cd++[v]) ((cc.take ((w ((cc.length:Int)-2)).toNat))++[x2]) x x1 (w (x2+1))=some r else if 0<=v.Left then 0<=(w ((cc.length:Int)-1))/\(w ((cc.length:Int)-1)).toNat<=cc.length/\(w ((cc.length:Int)-1)).toNat+1<=68719476736/\Zk7 q (cd++[v]) ((cc.take ((w ((cc.length:Int)-1)).toNat))++[x2]) x x1 (w (x2+1))=some r else cc.length+1<=68719476736/\Zk7 q (cd++[v]) (cc++[x2]) x x1 (w (x2+1))=some r else some (.tup [.t .nil,Bo false],[])=some r))else if(cc.length:Int)=1 then some (.tup [.own 0,Bo true],[.arr 178 4 true (cd.map Zf.c)])=some r else some (.tup [.t .nil,Bo false],[])=some r))/\
 (∀a a1 r,Im (Zi9 a a1=some r) (qB (Zgh a) (qB (Zbj (a1.Steps.length:Int) 1 14) (Zk7 a ([]:List Zf) ([]:List Int) a1.Steps (a1.Steps.length:Int) 0=some r) (some (.tup [.t .nil,Bo false],[])=some r)) (some (.tup [.t .nil,Bo false],[])=some r))))/\
 ((∀a a1 r,Im (Zvb a a1=some r) ((Zi9 a a1=some (.tup [.t .nil,Bo false],[])/\qi 0 r)\/(∃(v:List Zf),Zi9 a a1=some (.tup [.own 0,Bo true],[.arr 178 4 true (v.map Zf.c)])/\0<=(w ((v.length:Int)-1))/\∃e3,v[(w ((v.length:Int)-1)).toNat]?=some e3/\qi e3.Mask r)))/\
 ((∀a a1 r,Im (Znj a a1=some r) (qB (Zgh a) (qB (Zq4 a a1.Box) (qI (Zvb a a1.Plan) (λv2=>qI (Zdz a) (λv3=>if v2=v3 then qV (Zbj a1.Percent 100 1000) (λv4=>qb v4 r)else qb false r))) (qb false r)) (qb false r)))/\
 (∀a a1 r,Im (Zk8 a a1=some r) (qB (Zgh a) (¬(a.Atoms.length:Int)<0/\qV (Zbj a1 0 (w ((shlI 1 (a.Atoms.length:Int))-1))) (λv=>qb v r)) (qb false r))))):=by
 and_intros
 all_goals(intros;unfold Im;(try simp only[Zk7,Zi9,Zvb,Znj,Zk8,Zk6,Zb.c_def,Zc.c_def,Zf.c_def,Zgh,Zbj,Plan.c_def,Zq4,Zdz,Box.c_def,mpl,dfs,qs]);(try simp only[itb]);(try simp only[itf,gS,kk]))
 all_goals(repeat' first|refine exI λ_=>?_|refine anJ λ_ _=>?_|refine anI λ_=>?_|refine orE2 ?_ ?_|exact False.elim)
 all_goals(intro h;first|rw[Zl Z0v.eq_1]|refine run Zbok rfl ?_|refine run Zbol rfl ?_|refine run Zbom rfl ?_|refine run Zbon rfl ?_)
 all_goals (refine Ya ?_ h;clear h;simp +decide[*,kk,tI,tII,Zbbd,Z0w,Zbbe,Zbbf,Zbbg,Zbbh])
abbrev Zbfc:=uq Zsa.1.1
abbrev Zbsn:=uq Zsa.1.2
abbrev Zbso:=uq Zsa.2.1
abbrev Zbsp:=uq Zsa.2.2.1
abbrev Zbsq:=uq Zsa.2.2.2
theorem Zbsr{a:Zc}{r:AV×List Blk}(h:(∃(v:Bool),Zbj a.Ze 1 4=some (Bo v,[])/\(if v=true then(∃(v1:Bool),Zbj (a.Atoms.length:Int) 1 4=some (Bo v1,[])/\(if v1=true then(0<=a.Ze/\(a.Ze.toNat*1<=room/\(a.Ze<=140737488355328/\(Zk2 a (List.replicate (a.Ze).toNat false) a.Atoms (a.Atoms.length:Int) 0=some r))))else(some (Bo false,[])=some r)))else(some (Bo false,[])=some r)))):Zgh a=some r:=by
 unfold Zgh;refine run Zbob rfl ?_;obtain⟨v,q1,h⟩:=h;unfold Zbj at q1
 try simp at q1
 by_cases q2:v=true
 .rw[if_pos q2]at h;obtain⟨v1,q3,h⟩:=h;unfold Zbj at q3
  try simp at q3
  by_cases q4:v1=true
  .rw[if_pos q4]at h;obtain⟨q5,h⟩:=h;obtain⟨q6,h⟩:=h;have zq6:=q6;try simp at zq6
   obtain⟨q7,h⟩:=h;refine Ya ?_ h;clear h;simp +decide[*,Zu8,tI,tII,Zk2]
  .rw[if_neg q4]at h;refine Ya ?_ h;clear h;simp +decide[*,Zu8,tI,tII]
 .rw[if_neg q2]at h;refine Ya ?_ h;clear h;simp +decide[*,Zu8,tI,tII]
theorem Zdi:((((∀cn cd cc x x1 x2 r,Im (Zk9 cn cd cc x x1 x2=some r) (if x2<x1 then qG x x2 (λe1=>¬x2<0/\if(andI (shrI cd x2) 1)=0 then qO 3 1 ic (Zi8 e1.Vars cn) (λv1=>if 0<(v1.length:Int)then Zk9 cn cd (orI cc (shlI 1 x2)) x x1 (w (x2+1))=some r else Zk9 cn cd cc x x1 (w (x2+1))=some r)else Zk9 cn cd cc x x1 (w (x2+1))=some r)else qi cc r))/\
 (∀a a1 r,Im (Zvc a a1=some r) (qO 3 1 ic (Zg5 a a1) (λv=>Zk9 v a1 0 a.Atoms (a.Atoms.length:Int) 0=some r))))/\
 ((∀q cd co r,Im (Zq5 q cd co=some r) (qI (Zvc q co) (λv=>if(orI co (andI v cd))=co then qb (decide (co=cd)) r else Zq5 q cd (orI co (andI v cd))=some r)))/\
 (∀a a1 r,Im (Zh5 a a1=some r) (if a1=0 then qb false r else Zq5 a a1 (andI a1 (w (0-a1)))=some r))))/\
 (((∀a a1 r,Im (Zla a a1=some r) (qB (Zk8 a a1) (qV (Zh5 a a1) (λv1=>qb v1 r)) (qb false r)))/\
 (∀x r,Im (Zg6 x=some r) (some (.bsl 1 5,[.box (x.c.map .t),.box [.ptr 0 0,.ptr 0 6,.ptr 0 12,.ptr 0 18,.ptr 0 24]])=some r)))/\
 ((∀x r,Im (Zvd x=some r) (some (.bsl 1 5,[.box (x.c.map .t),.box [.ptr 0 0,.ptr 0 1,.ptr 0 2,.ptr 0 3,.ptr 0 4]])=some r))/\
 ((∀o x x1 x2 r,Im (Zja o x x1 x2=some r) (if x2<x1 then qG x x2 (λe1=>qB (Zbj e1.Add (-99) 99) (qB (Zbj e1.From 1 8192) (if 0<x2 then 0<=(w (x2-1))/\∃e4,o.Steps[(w (x2-1)).toNat]?=some e4/\if e1.From<=e4.From then qb false r else Zja o x x1 (w (x2+1))=some r else Zja o x x1 (w (x2+1))=some r) (qb false r)) (qb false r))else qb (decide ((o.Steps.length:Int)<=4)) r))/\
 (∀a r,Im (Zcr a=some r) (Zvd a=some (.bsl 1 5,[.box (a.c.map .t),.box [.ptr 0 0,.ptr 0 1,.ptr 0 2,.ptr 0 3,.ptr 0 4]])/\Zew a 5 0=some r))))))/\
 ((((∀cc a r,Im (Znk cc a=some r) (if a<=7 then Zlb cc a 0=some r else some (.own 0,[.arr 35 1 true (cc.map isc)])=some r))/\
 (∀cc a b r,Im (Zlb cc a b=some r) (if b<=7 then Znl cc a b 0=some r else Znk cc (w (a+1))=some r)))/\
 ((∀cc a b c r,Im (Znl cc a b c=some r) (if c<=7 then cc.length+1<=68719476736/\Znl (cc++[[a,b,c]]) a b (w (c+1))=some r else Zlb cc a (w (b+1))=some r))/\
 (∀r,Im (Zem=some r) (Znk ([]:List (List Int)) 0=some r))))/\
 (((∀a r,Im (Zh6 a=some r) (a.length<=68719476736/\some (.own 0,[.arr 3 1 true (a.map ic)])=some r))/\
 (∀a r,Im (Zjb a=some r) (qB (Zbj a 0 7) (if a=0 then qi 0 r else ¬(w (2*(w (a-1))))<0/\qi (shlI 1 (w (2*(w (a-1))))) r) (qi (-1) r))))/\
 ((∀cp cl n x x1 x2 r,Im (Znn cp cl n x x1 x2=some r) (if x2<x1 then qG x x2 (λe1=>if e1.From<=(w (cp+cl))then Znn cp cl (w (n+e1.Add)) x x1 (w (x2+1))=some r else Znn cp cl n x x1 (w (x2+1))=some r)else qi n r))/\
 ((∀a a1 a2 a3 r,Im (Znm a a1 a2 a3=some r) (Znn a1 a2 (w ((w ((w ((w (a.Fixed+(w (a.Zo*a1))))+(w (a.Zq*a2))))+(w (a.Zs*a3))))+(w ((w (a.Zr*a1))*a2)))) a.Steps (a.Steps.length:Int) 0=some r))/\
 (∀a a1 r,Im (Zfu a a1=some r) (∃e1,a1[0]?=some e1/\qI (Zjb e1) (λv1=>∃e3,a1[1]?=some e3/\qI (Zjb e3) (λv2=>∃e5,a1[2]?=some e5/\qI (Zjb e5) (λv3=>qI (Znm a v1 v2 v3) (λv4=>qi v4 r)))))))))):=by
 and_intros
 all_goals(intros;unfold Im;(try simp only[Zk9,Zvc,Zq5,Zh5,Zla,Zg6,Zvd,Zja,Zcr,Znk,Zlb,Znl,Zem,Zh6,Zjb,Znn,Znm,Zfu,Zi8,Zg5,Zc.c_def,Zk8,Zbj,Zj.c_def,Zew,mpl,dfs,qs]);(try simp only[itb]);(try simp only[itf,gS,kk]))
 all_goals(repeat' first|refine exI λ_=>?_|refine anJ λ_ _=>?_|refine anI λ_=>?_|refine orE2 ?_ ?_|exact False.elim)
 all_goals(intro h;first|rw[Zl Z0x.eq_1]|refine run Zboo rfl ?_|rw[Zl Z0z.eq_1]|refine run Zbop rfl ?_|refine run Zboq rfl ?_|refine runM Zbor rfl ?_|refine runM Zbos rfl ?_|rw[Zl Z01.eq_1]|refine run Zbot rfl ?_|rw[Zl Zq6.eq_1]|rw[Zl Zve.eq_1]|rw[Zl Z04.eq_1]|refine run Zbou rfl ?_|refine run Zbov rfl ?_|refine run Zbow rfl ?_|rw[Zl Z06.eq_1]|refine run Zbox rfl ?_|refine run Zboy rfl ?_)
 all_goals (refine Ya ?_ h;clear h;simp +decide[*,kk,tI,tII,Zbbi,Z0y,Zbbj,Zbbk,Zbbl,Zbbm,Zbbn,Z02,Zbbo,Zq7,Zvf,Z05,Zbbp,Zbbq,Zbbr,Zbbs,Z07,Zbbt,Zbbu])
abbrev Zbfd:=uq Zdi.1.1.1.1
abbrev Zbss:=uq Zdi.1.1.1.2
abbrev Zbfe:=uq Zdi.1.1.2.1
abbrev Zbff:=uq Zdi.1.1.2.2
abbrev Zbst:=uq Zdi.1.2.1.1
abbrev Zbfg:=uq Zdi.1.2.1.2
abbrev Zbsu:=uq Zdi.1.2.2.1
abbrev Zbfh:=uq Zdi.1.2.2.2.1
abbrev Zbsv:=uq Zdi.1.2.2.2.2
abbrev Zbfi:=uq Zdi.2.1.1.1
abbrev Zbfj:=uq Zdi.2.1.1.2
abbrev Zbfk:=uq Zdi.2.1.2.1
abbrev Zbsw:=uq Zdi.2.1.2.2
abbrev Zbfl:=uq Zdi.2.2.1.1
abbrev Zbsx:=uq Zdi.2.2.1.2
abbrev Zbfm:=uq Zdi.2.2.2.1
abbrev Zbsy:=uq Zdi.2.2.2.2.1
abbrev Zbsz:=uq Zdi.2.2.2.2.2
theorem Z3b:(∀o x x1 x2 r,Im (Zjc o x x1 x2=some r) (if x2<x1 then qG x x2 (λe1=>Zfv o x e1 x1 x2 (e1.length:Int) 0=some r)else some (.tup [.t .nil,.t .nil,Bo false],[])=some r))/\
 ((∀o x t x1 x2 x3 x4 r,Im (Zfv o x t x1 x2 x3 x4=some r) (if x4<x3 then qG t x4 (λe1=>if e1=7 then Zfv o x t x1 x2 x3 (w (x4+1))=some r else qO 3 1 ic (Zh6 t) (λv=>qH v x4 (λe3=>qI (Zfu o (v.set x4.toNat (w (e3+1)))) (λv1=>qI (Zfu o t) (λv2=>if v1<v2 then some (.tup [L 1 (t.map ic),.own 0,Bo true],[.arr 3 1 true ((v.set x4.toNat (w (e3+1))).map ic)])=some r else Zfv o x t x1 x2 x3 (w (x4+1))=some r)))))else Zjc o x x1 (w (x2+1))=some r))/\
 (∀a r,Im (Zci a=some r) (qB (Zcr a) (qO 35 1 isc Zem (λv=>Zjc a v (v.length:Int) 0=some r)) (some (.tup [.t .nil,.t .nil,Bo false],[])=some r)))):=by
 and_intros
 all_goals(intros;unfold Im;(try simp only[Zjc,Zfv,Zci,Zh6,Zfu,Zj.c_def,Zcr,Zem,mpl,dfs,qs]);(try simp only[itb]);(try simp only[itf,gS,kk]))
 all_goals(repeat' first|refine exI λ_=>?_|refine anJ λ_ _=>?_|refine anI λ_=>?_|refine orE2 ?_ ?_|exact False.elim)
 all_goals(intro h;first|rw[Zl Zvg.eq_1]|rw[Zl Z08.eq_1]|refine run Zboz rfl ?_)
 all_goals (refine Ya ?_ h;clear h;simp +decide[*,kk,tI,tII,Zvh,Zbbv,Z09,Zbbw])
abbrev Zbfn:=uq Z3b.1
abbrev Z3c:=uq Z3b.2.1
abbrev Zbs0:=uq Z3b.2.2
theorem Zn8{o:Zj}{x x1:Int}{r:AV×List Blk}(h:(if x1<x then(if x1=0 then(∃(v:Bool),Zbj o.Fixed (-99) 99=some (Bo v,[])/\(if v=true then(Zew o x (w (x1+1))=some r)else(some (Bo false,[])=some r)))else(if x1=1 then(∃(v1:Bool),Zbj o.Zo (-99) 99=some (Bo v1,[])/\(if v1=true then(Zew o x (w (x1+1))=some r)else(some (Bo false,[])=some r)))else(if x1=2 then(∃(v2:Bool),Zbj o.Zq (-99) 99=some (Bo v2,[])/\(if v2=true then(Zew o x (w (x1+1))=some r)else(some (Bo false,[])=some r)))else(if x1=3 then(∃(v3:Bool),Zbj o.Zs (-99) 99=some (Bo v3,[])/\(if v3=true then(Zew o x (w (x1+1))=some r)else(some (Bo false,[])=some r)))else(if x1=4 then(∃(v4:Bool),Zbj o.Zr (-99) 99=some (Bo v4,[])/\(if v4=true then(Zew o x (w (x1+1))=some r)else(some (Bo false,[])=some r)))else False)))))else(Zja o o.Steps (o.Steps.length:Int) 0=some r))):Zew o x x1=some r:=by
 unfold Zew;rw[Zl Z00.eq_1];by_cases q1:x1<x
 .rw[if_pos q1]at h;by_cases q2:x1=0
  .rw[if_pos q2]at h;subst q2;obtain⟨v,q3,h⟩:=h;unfold Zbj at q3
   try simp at q3
   by_cases q4:v=true
   .rw[if_pos q4]at h;refine Ya ?_ h;clear h;simp +decide[*,tI,tII,Zew]
   .rw[if_neg q4]at h;refine Ya ?_ h;clear h;simp +decide[*,tI,tII]
  .rw[if_neg q2]at h;replace q2:=eq_false q2;by_cases q5:x1=1
   .rw[if_pos q5]at h;subst q5;obtain⟨v1,q6,h⟩:=h;unfold Zbj at q6
    try simp at q6
    by_cases q7:v1=true
    .rw[if_pos q7]at h;refine Ya ?_ h;clear h;simp +decide[*,tI,tII,Zew]
    .rw[if_neg q7]at h;refine Ya ?_ h;clear h;simp +decide[*,tI,tII]
   .rw[if_neg q5]at h;replace q5:=eq_false q5;by_cases q8:x1=2
    .rw[if_pos q8]at h;subst q8;obtain⟨v2,q9,h⟩:=h;unfold Zbj at q9
     try simp at q9
     by_cases q10:v2=true
     .rw[if_pos q10]at h;refine Ya ?_ h;clear h;simp +decide[*,tI,tII,Zew]
     .rw[if_neg q10]at h;refine Ya ?_ h;clear h;simp +decide[*,tI,tII]
    .rw[if_neg q8]at h;replace q8:=eq_false q8;by_cases q11:x1=3
     .rw[if_pos q11]at h;subst q11;obtain⟨v3,q12,h⟩:=h;unfold Zbj at q12
      try simp at q12
      by_cases q13:v3=true
      .rw[if_pos q13]at h;refine Ya ?_ h;clear h;simp +decide[*,tI,tII,Zew]
      .rw[if_neg q13]at h;refine Ya ?_ h;clear h;simp +decide[*,tI,tII]
     .rw[if_neg q11]at h;replace q11:=eq_false q11;by_cases q14:x1=4
      .rw[if_pos q14]at h;subst q14;obtain⟨v4,q15,h⟩:=h;unfold Zbj at q15
       try simp at q15
       by_cases q16:v4=true
       .rw[if_pos q16]at h;refine Ya ?_ h;clear h;simp +decide[*,tI,tII,Zew]
       .rw[if_neg q16]at h;refine Ya ?_ h;clear h;simp +decide[*,tI,tII]
      .rw[if_neg q14]at h;replace q14:=eq_false q14;cases h
 .rw[if_neg q1]at h;refine Ya ?_ h;clear h;simp +decide[*,tI,tII,Zja,Z03]
end Go.Proofs.YtcfaekfjkeobhaaGreat
