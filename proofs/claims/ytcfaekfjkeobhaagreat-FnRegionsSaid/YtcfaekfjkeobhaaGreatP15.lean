/-
  Parts of the proofs for this seat: G19 G20 G21 G22.
-/
import Derived.Test.YtcfaekfjkeobhaaGreatP9
set_option linter.unusedSectionVars false
set_option linter.unusedSimpArgs false
set_option linter.unusedVariables false
set_option maxRecDepth 100000
set_option maxHeartbeats 4000000
namespace Go.Proofs.YtcfaekfjkeobhaaGreat
open Go.AM
theorem Zdj:((((∀a a1 a2 r,Im (Zro a a1 a2=some r) ((qO 3 1 ic (Zh7 a2) (λv=>qI (Zrn a a1 v) (λv2=>qi v2 r)))\/(Zh7 a2=some (.t .nil,[])/\qI (Zbcu a a1) (λv5=>qi v5 r))))/\
 (∀a a1 a2 r,Im (Zib a a1 a2=some r) (qI (Zns a a1 a2.Plan a2.Box.High) (λv=>qI (Zro a a1 a2.Box.Low) (λv2=>qb (decide ((w (100*v))<=(w (a2.Percent*v2)))) r)))))/\
 ((∀a a1 a2 r,Im (Zlm a a1 a2=some r) (qB (Zle a a1 a2) (qV (Zib a a1 a2) (λv2=>qb v2 r)) (qb false r)))/\
 (∀b n x x1 r,Im (Zrp b n x x1=some r) (if x1<x then qG b.High x1 (λe1=>qH b.Low x1 (λe2=>Zrp b (w (n*(w ((w (e1-e2))+1)))) x (w (x1+1))=some r))else qi n r))))/\
 (((∀a r,Im (Zn4 a=some r) (Zrp a 1 (a.Low.length:Int) 0=some r))/\
 (∀a r,Im (Zvm a=some r) (qB (Zh4 a) (qI (Zn4 a) (λv2=>qi (if 401<v2 then 401 else v2) r)) (qi 0 r))))/\
 ((∀b cc cd i r,Im (Zrr b cc cd i=some r) (if 0<=i then qH b.High i (λe1=>qH b.Low i (λe2=>qH cc i (λe3=>¬(w ((w (e1-e2))+1))=0/\Zrr b (cc.set i.toNat (w (e3+(Int.tmod cd (w ((w (e1-e2))+1)))))) (w (Int.tdiv cd (w ((w (e1-e2))+1)))) (w (i-1))=some r)))else some (.tup [.own 0,Bo true],[.arr 3 1 true (cc.map ic)])=some r))/\
 ((∀a a1 r,Im (Zrq a a1=some r) (qB (Zh4 a) (qI (Zn4 a) (λv2=>qB (Zbj a1 0 (w (v2-1))) (qO 3 1 ic (Zh6 a.Low) (λv5=>Zrr a v5 a1 (w ((v5.length:Int)-1))=some r)) (some (.tup [.t .nil,Bo false],[])=some r))) (some (.tup [.t .nil,Bo false],[])=some r)))/\
 (∀b cc n i r,Im (Zn5 b cc n i=some r) (if i<n then(Zrq b i=some (.tup [.t .nil,Bo false],[])/\cc.length+1<=68719476736/\Zn5 b (cc++[[]]) n (w (i+1))=some r)\/(∃(v2:List Int),Zrq b i=some (.tup [.own 0,Bo true],[.arr 3 1 true (v2.map ic)])/\cc.length+1<=68719476736/\Zn5 b (cc++[v2]) n (w (i+1))=some r)else some (.own 0,[.arr 35 1 true (cc.map isc)])=some r))))))/\
 ((((∀a r,Im (Zrs a=some r) (qI (Zvm a) (λv=>if 400<v then some (.t .nil,[])=some r else Zn5 a ([]:List (List Int)) v 0=some r)))/\
 (∀m q cl x x1 x2 r,Im (Zrt m q cl x x1 x2=some r) (if x2<x1 then qG x x2 (λe1=>qI (Zns m q cl.Plan e1) (λv2=>qI (Zro m q e1) (λv3=>if(w (cl.Percent*v3))<(w (100*v2))then qb false r else Zrt m q cl x x1 (w (x2+1))=some r)))else qb true r)))/\
 ((∀a a1 a2 r,Im (Zvn a a1 a2=some r) ((Zrs a2.Box=some (.t .nil,[])/\qB (Zle a a1 a2) (qb false r) (qb false r))\/(qO 35 1 isc (Zrs a2.Box) (λv3=>qB (Zle a a1 a2) (if(v3.length:Int)=0 then qb false r else Zrt a a1 a2 v3 (v3.length:Int) 0=some r) (qb false r)))))/\
 (∀b n i r,Im (Zrv b n i=some r) (if i<(b.Low.length:Int)then qG b.High i (λe1=>qH b.Low i (λe2=>Zrv b (if(w (n*(w ((w (e1-e2))+1))))<401 then(w (n*(w ((w (e1-e2))+1))))else 401) (w (i+1))=some r))else qi n r))))/\
 (((∀a r,Im (Zru a=some r) (qB (Zi4 a) (Zrv a 1 0=some r) (qi 0 r)))/\
 (∀b cc cd i r,Im (Zrw b cc cd i=some r) (if 0<=i then qH b.High i (λe1=>qH b.Low i (λe2=>¬(w ((w (e1-e2))+1))=0/\qH cc i (λe3=>Zrw b (cc.set i.toNat (w (e2+(Int.tmod cd (w ((w (e1-e2))+1)))))) (w (Int.tdiv cd (w ((w (e1-e2))+1)))) (w (i-1))=some r)))else if 0<cd then some (.tup [.own 0,Bo false],[.arr 3 1 true (([]:List Int).map ic)])=some r else some (.tup [.own 0,Bo true],[.arr 3 1 true (cc.map ic)])=some r)))/\
 ((∀a a1 r,Im (Zvo a a1=some r) (qB (Zi4 a) (if a1<0 then some (.tup [.own 0,Bo false],[.arr 3 1 true (([]:List Int).map ic)])=some r else a.Low.length<=68719476736/\Zrw a a.Low a1 (w ((a.Low.length:Int)-1))=some r) (some (.tup [.own 0,Bo false],[.arr 3 1 true (([]:List Int).map ic)])=some r)))/\
 ((∀m q cl cn n co i r,Im (Zn6 m q cl cn n co i=some r) (if i<n then ∃(v:List Int),∃v1,Zvo cl.Box i=some (.tup [.own 0,Bo v1],[.arr 3 1 true (v.map ic)])/\qO 3 1 ic (Zhw v) (λv2=>∃v3,∃(v4:List Za),Zi3 cn v2 m q=some (.own 2,[.arr 220 3 true (cn.map Z2.c),.arr 3 1 true (v2.map ic),.arr 126 4 v3 (v4.map Za.c)])/\((∃v5 v6 v7,Zel v4 co=some (.tup [.agg [I v5,I v6,I v7,.t .nil],Bo false],[])/\qI (Zk1 m q cl.Plan v) (λv8=>if(w (cl.Percent*v7))<(w (v8*100))then qb false r else Zn6 m q cl cn n co (w (i+1))=some r))\/(∃(v9:List Zb),∃v10,∃v11,∃v12,Zel v4 co=some (.tup [.agg [I v10,I v11,I v12,.own 0],Bo true],[.arr 162 3 true (v9.map Zb.c)])/\qI (Zk1 m q cl.Plan v) (λv13=>if(w (cl.Percent*v12))<(w (v13*100))then qb false r else Zn6 m q cl cn n co (w (i+1))=some r))))else qb true r))/\
 (∀a a1 a2 r,Im (Zvp a a1 a2=some r) (qI (Zru a2.Box) (λv=>qB (Zhy a) (qI (Zch a1) (λv3=>qB (Zft a1 v3) (qB (Zi5 a1 a2) (if 400<v then qb false r else qO 220 3 Z2.c (Zhz a1) (λv9=>Zn6 a a1 a2 v9 v v3 0=some r)) (qb false r)) (qb false r))) (qb false r)))))))):=by
 and_intros
 all_goals(intros;unfold Im;(try simp only[Zro,Zib,Zlm,Zrp,Zn4,Zvm,Zrr,Zrq,Zn5,Zrs,Zrt,Zvn,Zrv,Zru,Zrw,Zvo,Zn6,Zvp,Zh7,Zrn,Zbcu,Zd.c_def,Zj.c_def,Zc.c_def,Zns,Plan.c_def,Zle,Box.c_def,Region.c_def,Zh4,Zbj,Zh6,tI,Zi4,Zhw,Zi3,Zel,Zk1,Z2.c_def,Za.c_def,Zhy,Zch,Zft,Zi5,Zhz,mpl,dfs,qs]);(try simp only[itb]);(try simp only[itf,gS,kk]))
 all_goals(repeat' first|refine exI λ_=>?_|refine anJ λ_ _=>?_|refine anI λ_=>?_|refine orE2 ?_ ?_|exact False.elim)
 all_goals(intro h;first|refine run Zbpq rfl ?_|refine run Zbpr rfl ?_|refine run Zbps rfl ?_|rw[Zl Z11.eq_1]|refine run Zbpt rfl ?_|refine run Zbpu rfl ?_|rw[Zl Z13.eq_1]|refine run Zbpv rfl ?_|rw[Zl Z15.eq_1]|refine run Zbpw rfl ?_|rw[Zl Z17.eq_1]|refine run Zbpx rfl ?_|rw[Zl Z19.eq_1]|refine run Zbpy rfl ?_|rw[Zl Z2b.eq_1]|refine run Zbpz rfl ?_|rw[Zl Z2d.eq_1]|refine run Zbp0 rfl ?_)
 all_goals (refine Ya ?_ h;clear h;simp +decide[*,kk,tI,tII,Zbcv,Zbcw,Zbcx,Z12,Zbcy,Zbcz,Z14,Zbc0,Z16,Zbc1,Z18,Zbc2,Z2a,Zbc3,Z2c,Zbc4,Z2e,Zbc5])
abbrev Zbtq:=uq Zdj.1.1.1.1
abbrev Zbtr:=uq Zdj.1.1.1.2
abbrev Zbts:=uq Zdj.1.1.2.1
abbrev Zbgb:=uq Zdj.1.1.2.2
abbrev Zbgc:=uq Zdj.1.2.1.1
abbrev Zbtt:=uq Zdj.1.2.1.2
abbrev Zbgd:=uq Zdj.1.2.2.1
abbrev Zbtu:=uq Zdj.1.2.2.2.1
abbrev Zbge:=uq Zdj.1.2.2.2.2
abbrev Zbgf:=uq Zdj.2.1.1.1
abbrev Zbgg:=uq Zdj.2.1.1.2
abbrev Zbgh:=uq Zdj.2.1.2.1
abbrev Zbgi:=uq Zdj.2.1.2.2
abbrev Zbtv:=uq Zdj.2.2.1.1
abbrev Zbgj:=uq Zdj.2.2.1.2
abbrev Zbtw:=uq Zdj.2.2.2.1
abbrev Zbgk:=uq Zdj.2.2.2.2.1
abbrev Zbtx:=uq Zdj.2.2.2.2.2
theorem Zbgl:(∀a r,Im (Zvq a=some r) (∃(v:Zh),Zkh a=some (.ptr 0 0,[.box (v.c.map .t)])/\∃(v1:Zh) (v2:Zd) (v3:Zc) (v4:Box) (v5:List Int) (v6:Region),Zng v=some (.tup [.agg (v2.c.map .t),.agg (v3.c.map .t),.agg (v4.c.map .t),L 1 (v5.map ic),.agg (v6.c.map .t)],[.box (v1.c.map .t)])/\if(v6.Plan.Steps.length:Int)=0 then qI (Zch v3) (λv7=>∃(v8:Zh) (v9:Plan),Zge v1 v3 v7=some (.agg (v9.c.map .t),[.box (v8.c.map .t)])/\∃(v10:Zh),∃(v11:List Int),∃v12,Zdw v8 ([100,120,200,99,1000])=some (I v12,[.box (v10.c.map .t),.arr 3 1 true (v11.map ic)])/\some (.tup [.agg (v2.c.map .t),.agg (v3.c.map .t),.agg (v9.c.map .t),.agg (v4.c.map .t),L 1 (v5.map ic),I v12],[])=some r)else ∃(v13:Zh),∃(v14:List Int),∃v15,Zdw v1 ([100,120,200,99,1000])=some (I v15,[.box (v13.c.map .t),.arr 3 1 true (v14.map ic)])/\some (.tup [.agg (v2.c.map .t),.agg (v3.c.map .t),.agg (v6.Plan.c.map .t),.agg (v4.c.map .t),L 1 (v5.map ic),I v15],[])=some r))/\
 (∀a a1 r,Im (Zrx a a1=some r) (qB (Zh4 a) (qB (Zk4 a1 a.Low) (qV (Zk4 a.High a1) (λv7=>qb v7 r)) (qb false r)) (qb false r))):=by
 and_intros
 all_goals(intros;unfold Im;(try simp only[Zvq,Zrx,Zkh,Zng,Zch,Zge,Zdw,Box.c_def,Zh.c_def,Zd.c_def,Zj.c_def,Plan.c_def,Zc.c_def,Region.c_def,Zh4,Zk4,mpl,dfs,qs]);(try simp only[itb]);(try simp only[itf,gS,kk]))
 all_goals(repeat' first|refine exI λ_=>?_|refine anJ λ_ _=>?_|refine anI λ_=>?_|refine orE2 ?_ ?_|exact False.elim)
 all_goals(intro h;first|refine run Zbp1 rfl ?_|refine run Zbp2 rfl ?_)
 all_goals (refine Ya ?_ h;clear h;simp +decide[*,kk,tI,tII,Zbc7,Zbc6,Zbc8])
abbrev Zbgm:=uq Zbgl.1
abbrev Zbty:=uq Zbgl.2
theorem Zds:((((∀m q cn cl cc x x1 x2 cd co r,Im (Zjm m q cn cl cc x x1 x2 cd co=some r) (if co=true then Zd1 m q cn cl cc x x1 x2 cd false (cd.length:Int) 0=some r else some (.tup [.agg [.own 0,.own 1,.own 2,I cc],Bo true],[.arr 162 3 true (x.map Zb.c),.arr 3 1 true (x1.map ic),.arr 3 1 true (x2.map ic)])=some r))/\
 (∀m q cn cl cc x x1 x2 cd co x3 x4 r,Im (Zd1 m q cn cl cc x x1 x2 cd co x3 x4=some r) (if x4<x3 then qG x2 x4 (λe1=>qH cn.High x4 (λe2=>if e1<e2 then qB (Zib m q (⟨(⟨x⟩:Plan),(⟨x1,(x2.set x4.toNat (w (e1+1)))⟩:Box),cc⟩:Region)) (Zvt m q cn cl cc x x1 (x2.set x4.toNat (w (e1+1))) cd true x4 x3 x4=some r) (Zvt m q cn cl cc x x1 ((x2.set x4.toNat (w (e1+1))).set x4.toNat (w ((w (e1+1))-1))) cd co x4 x3 x4=some r)else qH x1 x4 (λe4=>qH cn.Low x4 (λe5=>if e5<e4 then qB (Zib m q (⟨(⟨x⟩:Plan),(⟨(x1.set x4.toNat (w (e4-1))),x2⟩:Box),cc⟩:Region)) (Zd1 m q cn cl cc x (x1.set x4.toNat (w (e4-1))) x2 cd true x3 (w (x4+1))=some r) (Zd1 m q cn cl cc x ((x1.set x4.toNat (w (e4-1))).set x4.toNat (w ((w (e4-1))+1))) x2 cd co x3 (w (x4+1))=some r)else Zd1 m q cn cl cc x x1 x2 cd co x3 (w (x4+1))=some r))))else Zjm m q cn cl cc x x1 x2 cd co=some r)))/\
 ((∀m q cn cl cc x x1 x2 cd co i x3 x4 r,Im (Zvt m q cn cl cc x x1 x2 cd co i x3 x4=some r) (qG x1 i (λe1=>qH cn.Low i (λe2=>if e2<e1 then qB (Zib m q (⟨(⟨x⟩:Plan),(⟨(x1.set i.toNat (w (e1-1))),x2⟩:Box),cc⟩:Region)) (Zd1 m q cn cl cc x (x1.set i.toNat (w (e1-1))) x2 cd true x3 (w (x4+1))=some r) (Zd1 m q cn cl cc x ((x1.set i.toNat (w (e1-1))).set i.toNat (w ((w (e1-1))+1))) x2 cd co x3 (w (x4+1))=some r)else Zd1 m q cn cl cc x x1 x2 cd co x3 (w (x4+1))=some r))))/\
 (∀a a1 a2 a3 a4 a5 r,Im (Zln a a1 a2 a3 a4 a5=some r) (∃(v:List Zb),Zfx a2=some (.agg [.own 0],[.arr 162 3 true (v.map Zb.c)])/\qO 3 1 ic (Zh6 a4) (λv1=>qB (Zrx a3 a4) (qB (Zlm a a1 (⟨(⟨v⟩:Plan),(⟨v1,v1⟩:Box),a5⟩:Region)) (Zjm a a1 a3 0 a5 v v1 v1 a4 true=some r) (some (.tup [.agg [.t .nil,.t .nil,.t .nil,I 0],Bo false],[])=some r)) (some (.tup [.agg [.t .nil,.t .nil,.t .nil,I 0],Bo false],[])=some r))))))/\
 (((∀s2 x x1 r,Im (Z2g s2 x x1=some r) (if x1<x then False else qb true r))/\
 (∀a r,Im (Z2f a=some r) (if 0=(a.length:Int)then Z2g a 0 0=some r else qb false r)))/\
 ((∀a r,Im (Z2h a=some r) (qV (Z2f a.Steps) (λv=>qb v r)))/\
 (∀s2 x x1 r,Im (Z2i s2 x x1=some r) (if x1<x then False else qb true r)))))/\
 ((((∀a r,Im (Zr2 a=some r) (if 0=(a.length:Int)then Z2i a 0 0=some r else qb false r))/\
 (∀a r,Im (Z2j a=some r) (qB (Zr2 a.Low) (qV (Zr2 a.High) (λv1=>qb v1 r)) (qb false r))))/\
 ((∀cl a r,Im (Zvw cl a=some r) (qB (Z2h a.Plan) (qB (Z2j a.Box) (qb (decide (cl=a.Percent)) r) (qb false r)) (qb false r)))/\
 (∀a a1 r,Im (Z2k a a1=some r) (if(a.length:Int)=(a1.length:Int)then Zlo a a1 (a.length:Int) 0=some r else qb false r))))/\
 (((∀a a1 r,Im (Z2l a a1=some r) (qV (Z2k a.Steps a1.Steps) (λv=>qb v r)))/\
 (∀s1 s2 x x1 r,Im (Zr4 s1 s2 x x1=some r) (if x1<x then qG s1 x1 (λe1=>qH s2 x1 (λe2=>if e1=e2 then Zr4 s1 s2 x (w (x1+1))=some r else qb false r))else qb true r)))/\
 ((∀a a1 r,Im (Zr3 a a1=some r) (if(a.length:Int)=(a1.length:Int)then Zr4 a a1 (a.length:Int) 0=some r else qb false r))/\
 ((∀a a1 r,Im (Z2m a a1=some r) (qB (Zr3 a.Low a1.Low) (qV (Zr3 a.High a1.High) (λv1=>qb v1 r)) (qb false r)))/\
 (∀a a1 r,Im (Zr5 a a1=some r) (qB (Z2l a.Plan a1.Plan) (qB (Z2m a.Box a1.Box) (qb (decide (a.Percent=a1.Percent)) r) (qb false r)) (qb false r))))))):=by
 and_intros
 all_goals(intros;unfold Im;(try simp only[Zjm,Zd1,Zln,Z2g,Z2f,Z2h,Z2i,Zr2,Z2j,Zvw,Z2k,Z2l,Zr4,Zr3,Z2m,Zr5,Zib,Box.c_def,Zd.c_def,Zj.c_def,Plan.c_def,Zc.c_def,Region.c_def,tI,Zfx,Zh6,Zrx,Zlm,Zb.c_def,Zvt,Zlo,mpl,dfs,qs]);(try simp only[itb]);(try simp only[itf,gS,kk]))
 all_goals(repeat' first|refine exI λ_=>?_|refine anJ λ_ _=>?_|refine anI λ_=>?_|refine orE2 ?_ ?_|exact False.elim)
 all_goals(intro h;first|rw[Zl Zry.eq_1]|rw[Zl Zvs.eq_1]|rw[Zir Zvr.eq_1]|refine run Zbp3 rfl ?_|rw[Zl Zr0.eq_1]|refine run Zbp4 rfl ?_|refine run Zbp5 rfl ?_|rw[Zl Zvu.eq_1]|refine run Zbp6 rfl ?_|refine run Zbp7 rfl ?_|refine run Zbp8 rfl ?_)
 all_goals (refine Ya ?_ h;clear h;simp +decide[*,kk,tI,tII,Zrz,Zvr,Zbc9,Zr1,Zbda,Zbdb,Zvv,Zbdc,Zbdd,Zbde])
abbrev Zbgn:=uq Zds.1.1.1.1
abbrev Zv2:=uq Zds.1.1.1.2
abbrev Zbgo:=uq Zds.1.1.2.1
abbrev Z3f:=uq Zds.1.1.2.2
abbrev Zbtz:=uq Zds.1.2.1.1
abbrev Zbt0:=uq Zds.1.2.1.2
abbrev Zbt1:=uq Zds.1.2.2.1
abbrev Zbt2:=uq Zds.1.2.2.2
abbrev Zbt3:=uq Zds.2.1.1.1
abbrev Zbt4:=uq Zds.2.1.1.2
abbrev Zbt5:=uq Zds.2.1.2.1
abbrev Zbt6:=uq Zds.2.1.2.2
abbrev Zbt7:=uq Zds.2.2.1.1
abbrev Zbgp:=uq Zds.2.2.1.2
abbrev Zbt8:=uq Zds.2.2.2.1
abbrev Zbt9:=uq Zds.2.2.2.2.1
abbrev Zbua:=uq Zds.2.2.2.2.2
theorem Zbgq{s1 s2:List Zb}{x x1:Int}{r:AV×List Blk}(h:(if x1<x then(0<=x1/\(∃(e1:Zb),s1[x1.toNat]?=some e1/\(∃(e2:Zb),s2[x1.toNat]?=some e2/\(if e1.Kind=e2.Kind/\e1.Atom=e2.Atom/\e1.Order=e2.Order then(Zlo s1 s2 x (w (x1+1))=some r)else(some (Bo false,[])=some r)))))else(some (Bo true,[])=some r))):Zlo s1 s2 x x1=some r:=by
 unfold Zlo;rw[Zl Zr0.eq_1]
 try simp only[itb]at h
 try simp only[itf,gS,kk]at h
 rcases h with⟨q1,q2,e1,⟨g3,q3⟩,e2,⟨g4,q4⟩,(⟨q5,h⟩|⟨q5,h⟩)⟩|⟨q1,h⟩
 all_goals try obtain⟨z1,z2,z3⟩:=of_eq_true q5
 all_goals (refine Ya ?_ h;clear h;simp +decide[*,kk,tI,tII,Zlo,Zr1])
end Go.Proofs.YtcfaekfjkeobhaaGreat
