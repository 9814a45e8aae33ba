/-
  Parts of the proofs for this seat: G11 G12 G13 G14 G15.
-/
import Derived.Test.YtnnjbejcffjgfaaGreatP11
import Derived.Test.YtnnjbejcffjgfaaGreatP12
set_option linter.unusedSectionVars false
set_option linter.unusedSimpArgs false
set_option linter.unusedVariables false
set_option maxRecDepth 100000
set_option maxHeartbeats 4000000
namespace Go.Proofs.YtnnjbejcffjgfaaGreat
open Go.AM
theorem Zyi{p:Program}{cd:Za}{d:Zm}{cc:Int}{r:AV×List Blk}(h:(∃(v:Int),Zu6 d=some (I v,[])/\(if 0<=v then(∃(v1:Int),Zu9 d v=some (I v1,[])/\(if v1<0 then(some (.tup [.agg [I 0,I 0,.own 0,.own 1],Bo false],[.arr 149 2 true (([]:List Za).map Za.c),.arr 149 2 true (([]:List Za).map Za.c)])=some r)else(if cc=299 then(some (.tup [.agg [I 0,I 0,.own 0,.own 1],Bo false],[.arr 149 2 true (([]:List Za).map Za.c),.arr 149 2 true (([]:List Za).map Za.c)])=some r)else((∃(v2:List Int) (v3:List Int) (v4:List (List Za)) (v5:List Za) (v6:List Za) (v7:Za) (v8:Bool),Zmr d v1 v=some (.tup [.agg [.own 0,.own 1,.own 2,.own 3,.own 4,I v7.Num,I v7.Den],Bo v8],[.arr 3 1 true (v2.map ic),.arr 3 1 true (v3.map ic),.arr 179 1 true (v4.map (lc 2 Za.c)),.arr 149 2 true (v5.map Za.c),.arr 149 2 true (v6.map Za.c)])/\(if v8=true then(Zge p cd (⟨v2,v3,v4,v5,v6,v7⟩:Zm) (w (cc+1))=some r)else(some (.tup [.agg [I 0,I 0,.own 0,.own 1],Bo false],[.arr 149 2 true (([]:List Za).map Za.c),.arr 149 2 true (([]:List Za).map Za.c)])=some r)))\/(∃(v9:List Int) (v10:List Int) (v11:Bool) (v12:List (List Za)) (v13:List Za) (v14:List Za) (v15:Za),Zmr d v1 v=some (.tup [.agg [.own 0,.own 1,.own 2,.own 3,.own 4,I v15.Num,I v15.Den],Bo true],[.arr 3 1 true (v9.map ic),.arr 3 1 true (v10.map ic),.arr 179 1 v11 (v12.map (lc 2 Za.c)),.arr 149 2 true (v13.map Za.c),.arr 149 2 true (v14.map Za.c)])/\(Zge p cd (⟨v9,v10,v12,v13,v14,v15⟩:Zm) (w (cc+1))=some r))))))else(0<=(p.Objective.length:Int)/\((p.Objective.length:Int)<=(p.Objective.length:Int)/\((p.Objective.length:Int).toNat*8<=room/\((p.Objective.length:Int)<=140737488355328/\(∃(v16:List Za),Zgd (List.replicate ((p.Objective.length:Int)).toNat 0)=some (.own 0,[.arr 149 2 true (v16.map Za.c)])/\(0<=(p.Rows.length:Int)/\((p.Rows.length:Int)<=(p.Rows.length:Int)/\((p.Rows.length:Int).toNat*8<=room/\((p.Rows.length:Int)<=140737488355328/\(∃(v17:List Za),Zgd (List.replicate ((p.Rows.length:Int)).toNat 0)=some (.own 0,[.arr 149 2 true (v17.map Za.c)])/\(Zmt cd d d.Value v16 v17 (p.Objective.length:Int) d.Basic (d.Basic.length:Int) 0=some r)))))))))))))):Zge p cd d cc=some r:=by
 unfold Zge;rw[Zd Zbc2.eq_1];obtain⟨v,q1,h⟩:=h;unfold Zu6 at q1
 try simp at q1
 by_cases q2:0<=v
 .rw[if_pos q2]at h;obtain⟨v1,q3,h⟩:=h;unfold Zu9 at q3
  try simp at q3
  by_cases q4:v1<0
  .rw[if_pos q4]at h;refine Yf ?_ h;clear h;simp +decide[*,tI,tII]
  .rw[if_neg q4]at h;by_cases q5:cc=299
   .rw[if_pos q5]at h;replace q5:=eq_true q5;refine Yf ?_ h;clear h;simp +decide[*,tI,tII]
   .rw[if_neg q5]at h;replace q5:=eq_false q5;rcases h with h|h
    .obtain⟨v2,v3,v4,v5,v6,v7,v8,q6,h⟩:=h;unfold Zmr at q6
     try simp at q6
     by_cases q7:v8=true
     .rw[if_pos q7]at h;refine Yf ?_ h;clear h;simp +decide[*,tI,tII,Zge]
     .rw[if_neg q7]at h;refine Yf ?_ h;clear h;simp +decide[*,tI,tII]
    .obtain⟨v9,v10,v11,v12,v13,v14,v15,q8,h⟩:=h;unfold Zmr at q8
     try simp at q8
     refine Yf ?_ h;clear h;simp +decide[*,tI,tII,Zge]
 .rw[if_neg q2]at h;obtain⟨q9,h⟩:=h;have zq9:=q9;try simp at zq9
  obtain⟨q10,h⟩:=h;have zq10:=q10;try simp at zq10
  obtain⟨q11,h⟩:=h;have zq11:=q11;try simp at zq11
  obtain⟨q12,h⟩:=h;have zq12:=q12;try simp at zq12
  obtain⟨v16,q13,h⟩:=h;unfold Zgd at q13
  try simp at q13
  obtain⟨q14,h⟩:=h;have zq14:=q14;try simp at zq14
  obtain⟨q15,h⟩:=h;have zq15:=q15;try simp at zq15
  obtain⟨q16,h⟩:=h;have zq16:=q16;try simp at zq16
  obtain⟨q17,h⟩:=h;have zq17:=q17;try simp at zq17
  obtain⟨v17,q18,h⟩:=h;unfold Zgd at q18
  try simp at q18
  refine Yf ?_ h;clear h;simp +decide[*,tI,tII,Zmt,Zbc7]
theorem Zdd:((((∀cd d cc x x1 n x2 x3 x4 r,Im (Zmt cd d cc x x1 n x2 x3 x4=some r) (if x4<x3 then qG x2 x4 (λe1=>if e1<n then qH d.Limits x4 (λe2=>qG x e1 (λe3=>Zmt cd d cc (x.set e1.toNat e2) x1 n x2 x3 (w (x4+1))=some r))else Zmt cd d cc x x1 n x2 x3 (w (x4+1))=some r)else Zp1 cd d cc x x1 n d.Free (d.Free.length:Int) 0=some r))/\
 (∀cd d cc x x1 n x2 x3 x4 r,Im (Zp1 cd d cc x x1 n x2 x3 x4=some r) (if x4<x3 then qG x2 x4 (λe1=>if n<=e1 then qH d.Costs x4 (λe2=>qA Za.c (Zfp e2) (λv11=>0<=(w (e1-n))/\∃e4,x1[(w (e1-n)).toNat]?=some e4/\Zp1 cd d cc x (x1.set ((w (e1-n)).toNat) v11) n x2 x3 (w (x4+1))=some r))else Zp1 cd d cc x x1 n x2 x3 (w (x4+1))=some r)else some (.tup [.agg [I cc.Num,I cc.Den,.own 0,.own 1],Bo true],[.arr 149 2 true (x.map Za.c),.arr 149 2 true (x1.map Za.c)])=some r)))/\
 ((∀a r,Im (Zvg a=some r) (∃(v:List Int),∃(v1:List Int),∃(v2:List (List Za)),∃(v3:List Za),∃(v4:List Za),∃(v5:Za),∃v6,Zu3 a=some (.tup [.agg [.own 0,.own 1,.own 2,.own 3,.own 4,I v5.Num,I v5.Den],Bo v6],[.arr 3 1 true (v.map ic),.arr 3 1 true (v1.map ic),.arr 179 1 true (v2.map (lc 2 Za.c)),.arr 149 2 true (v3.map Za.c),.arr 149 2 true (v4.map Za.c)])/\if v6=true then Zge a (⟨0,0⟩:Za) (⟨v,v1,v2,v3,v4,v5⟩:Zm) 0=some r else some (.tup [.agg [I 0,I 0,.own 0,.own 1],Bo false],[.arr 149 2 true (([]:List Za).map Za.c),.arr 149 2 true (([]:List Za).map Za.c)])=some r))/\
 (∀a a1 a2 r,Im (Z2c a a1 a2=some r) (∃(v:List Int),∃(v1:List (List Int)),∃(v2:List Int),∃(v3:List Zo),∃v4,Z12 a a1 a2=some (.tup [.agg [.own 0,.own 1,.own 2],.own 3,Bo v4],[.arr 3 1 true (v.map ic),.arr 56 1 true (v1.map isc),.arr 3 1 true (v2.map ic),.arr 251 3 true (v3.map Zo.c)])/\if v4=true then ∃(v7:List Za),∃(v8:List Za),∃(v9:Za),∃v10,Zvg (⟨v,v1,v2⟩:Program)=some (.tup [.agg [I v9.Num,I v9.Den,.own 0,.own 1],Bo v10],[.arr 149 2 true (v7.map Za.c),.arr 149 2 true (v8.map Za.c)])/\some (.tup [.agg [I v9.Num,I v9.Den,.own 0,.own 1],Bo v10],[.arr 149 2 true (v7.map Za.c),.arr 149 2 true (v8.map Za.c)])=some r else some (.tup [.agg [I 0,I 0,.own 0,.own 1],Bo false],[.arr 149 2 true (([]:List Za).map Za.c),.arr 149 2 true (([]:List Za).map Za.c)])=some r))))/\
 (((∀a a1 a2 r,Im (Z2d a a1 a2=some r) (∃(v:List Za),∃(v1:List Za),∃(v2:Za),∃v3,Z2c a a1 a2=some (.tup [.agg [I v2.Num,I v2.Den,.own 0,.own 1],Bo v3],[.arr 149 2 true (v.map Za.c),.arr 149 2 true (v1.map Za.c)])/\some (.tup [.agg (v2.c.map .t),Bo v3],[])=some r))/\
 (∀a r,Im (Z2e a=some r) (qB (Zcm a) (¬a.Den=0/\if(w ((w (Int.tdiv a.Num a.Den))*a.Den))<a.Num then qi (w ((w (Int.tdiv a.Num a.Den))+1)) r else qi (w (Int.tdiv a.Num a.Den)) r) (qi 0 r))))/\
 ((∀k cv cp p r,Im (Zvh k cv cp p=some r) (if 0<cv then ¬cp<0/\if(shlI 1 cp)<(w (p*k))then qb false r else Zvh k (w (cv-1)) cp (w (p*k))=some r else qb true r))/\
 ((∀a a1 a2 r,Im (Z2f a a1 a2=some r) (Zvh a a1 a2 1=some r))/\
 (∀cu k r,Im (Zvi cu k=some r) (if k<4096 then qB (Z2f (w (k+1)) cu.Den cu.Num) (Zvi cu (w (k+1))=some r) (qi k r)else qi k r))))))/\
 ((((∀a r,Im (Z2g a=some r) (qB (Zcm a) (if a.Num<0 then qi (-1) r else if 40<a.Num then qI (Z2e a) (λv7=>if 12<=v7 then qi 4096 r else ¬v7<0/\qi (shlI 1 v7) r)else if a.Num<a.Den then qi 1 r else Zvi a 1=some r) (qi (-1) r)))/\
 (∀a a1 a2 r,Im (Zvj a a1 a2=some r) (qB (Zc6 a a1 a2) (qB (Zuk a a1 a2) (qi 0 r) (qS Za.c (Z2d a a1 a2) (λv11 v12=>if v12=true then qI (Z2g v11) (λv13=>qi v13 r)else qi 4096 r))) (qi (-1) r))))/\
 ((∀a a1 a2 r,Im (Z2h a a1 a2=some r) (qI (Zt9 a a1 a2) (λv=>qI (Zue a a1 a2) (λv7=>(Zb9 a2=some (.t .nil,[])/\some (.own 0,[.arr 3 1 true (([(-1),v,v7,(-1),(-1)]).map ic)])=some r)\/(qO 3 1 ic (Zb9 a2) (λv13=>if(v13.length:Int)=2 then ∃e5,v13[0]?=some e5/\∃e6,v13[1]?=some e6/\qI (Zuj a a1 e5 e6) (λv14=>∃e8,([(-1),v,v7,(-1),(-1)])[3]?=some e8/\if 1<(v13.length:Int)then qI (Zvj a a1 a2) (λv15=>∃e10,(([(-1),v,v7,(-1),(-1)]).set 3 v14)[4]?=some e10/\some (.own 0,[.arr 3 1 true (((([(-1),v,v7,(-1),(-1)]).set 3 v14).set 4 v15).map ic)])=some r)else some (.own 0,[.arr 3 1 true ((([(-1),v,v7,(-1),(-1)]).set 3 v14).map ic)])=some r)else if 1<(v13.length:Int)then qI (Zvj a a1 a2) (λv16=>∃e12,([(-1),v,v7,(-1),(-1)])[4]?=some e12/\some (.own 0,[.arr 3 1 true ((([(-1),v,v7,(-1),(-1)]).set 4 v16).map ic)])=some r)else some (.own 0,[.arr 3 1 true (([(-1),v,v7,(-1),(-1)]).map ic)])=some r))))))/\
 (∀x cl cn x1 x2 r,Im (Zkk x cl cn x1 x2=some r) (if x2<x1 then qG x x2 (λe1=>if 0<=e1 then if cn=0 then Zkk x e1 x2 x1 (w (x2+1))=some r else if e1<cl then Zkk x e1 x2 x1 (w (x2+1))=some r else Zkk x cl cn x1 (w (x2+1))=some r else Zkk x cl cn x1 (w (x2+1))=some r)else some (.tup [I cl,I cn],[])=some r))))/\
 (((∀a a1 a2 r,Im (Zvk a a1 a2=some r) (qO 3 1 ic (Z2h a a1 a2) (λv=>Zkk v (-1) 0 (v.length:Int) 0=some r)))/\
 (∀a r,Im (Zip a=some r) (if(a.size:Int)=1 then ∃b1,a[0]?=some b1/\if 97<=(b1.toNat:Int)then qb (decide ((b1.toNat:Int)<=122)) r else qb false r else qb false r)))/\
 ((∀a a1 a2 r,Im (Z0 a a1 a2=some r) (if a1<=a then qb (decide (a<=a2)) r else qb false r))/\
 ((∀co n i r,Im (Zvm co n i=some r) (if i<(co.length:Int)then qG co i (λe1=>qB (Z0 e1 0 9) (Zvm co n (w (i+1))=some r) (qb false r))else qb (decide ((co.length:Int)=n)) r))/\
 (∀a a1 r,Im (Zvl a a1=some r) (Zvm a a1 0=some r)))))):=by
 and_intros
 all_goals(intros;unfold Im;(try simp only[Zmt,Zp1,Zvg,Z2c,Z2d,Z2e,Zvh,Z2f,Zvi,Z2g,Zvj,Z2h,Zkk,Zvk,Zip,Z0,Zvm,Zvl,Zfp,Za.c_def,Zu3,Program.c_def,Z12,Zl.c_def,Zi.c_def,Zc.c_def,Zh.c_def,Zcm,Zc6,Zuk,Zt9,Zue,Zb9,Zuj,Zge,mpl,dfs,qs]);(try simp only[itb]);(try simp only[itf,gS,kk]))
 all_goals(repeat' first|refine exI λ_=>?_|refine anJ λ_ _=>?_|refine anI λ_=>?_|refine orE2 ?_ ?_|exact False.elim)
 all_goals(intro h;first|rw[Zd Zbc3.eq_1]|rw[Zd Zbc4.eq_1]|refine run Zchw rfl ?_|refine run Zchx rfl ?_|refine run Zchy rfl ?_|refine run Zchz rfl ?_|rw[Zd Zbc9.eq_1]|refine run Zch0 rfl ?_|rw[Zd Zbdc.eq_1]|refine run Zch1 rfl ?_|refine run Zch2 rfl ?_|refine run Zch3 rfl ?_|rw[Zd Zbdf.eq_1]|refine run Zch4 rfl ?_|refine run Zch5 rfl ?_|refine run Zch6 rfl ?_|rw[Zd Zbdi.eq_1]|refine run Zch7 rfl ?_)
 all_goals (refine Yf ?_ h;clear h;simp +decide[*,kk,tI,tII,Zbtb,Zbc6,Zbtc,Zbc5,Zbtd,Zbte,Zbtf,Zbti,Zbth,Zbda,Zbtj,Zbdd,Zbtk,Zbtl,Zbto,Zbtm,Zbtn,Zbtp,Zbdg,Zbtq,Zbtr,Zbts,Zbdj,Zbtt])
abbrev Zbjb:=uq Zdd.1.1.1.1
abbrev Zbjc:=uq Zdd.1.1.1.2
abbrev Zb0f:=uq Zdd.1.1.2.1
abbrev Zbjd:=uq Zdd.1.1.2.2
abbrev Zcoe:=uq Zdd.1.2.1.1
abbrev Zcof:=uq Zdd.1.2.1.2
abbrev Zb0g:=uq Zdd.1.2.2.1
abbrev Zcog:=uq Zdd.1.2.2.2.1
abbrev Zb0h:=uq Zdd.1.2.2.2.2
abbrev Zcoh:=uq Zdd.2.1.1.1
abbrev Zcoi:=uq Zdd.2.1.1.2
abbrev Zcoj:=uq Zdd.2.1.2.1
abbrev Zb0i:=uq Zdd.2.1.2.2
abbrev Zcok:=uq Zdd.2.2.1.1
abbrev Zcol:=uq Zdd.2.2.1.2
abbrev Zcom:=uq Zdd.2.2.2.1
abbrev Zb0j:=uq Zdd.2.2.2.2.1
abbrev Zcon:=uq Zdd.2.2.2.2.2
theorem Zbje:(∀a b i r,Im (Zvn a b i=some r) (if i<(a.length:Int)then if i<(b.length:Int)then qG a i (λe1=>qH b i (λe2=>if e1<e2 then qi (-1) r else if e2<e1 then qi 1 r else Zvn a b (w (i+1))=some r))else Zvo a b i false=some r else Zvo a b i false=some r))/\
 ((∀a b i x r,Im (Zvo a b i x=some r) (if(a.length:Int)<(b.length:Int)then qi (-1) r else if(b.length:Int)<(a.length:Int)then qi 1 r else qi 0 r))/\
 (∀a a1 r,Im (Zd1 a a1=some r) (Zvn a a1 0=some r))):=by
 and_intros
 all_goals(intros;unfold Im;(try simp only[Zvn,Zd1,Zvo,mpl,dfs,qs]);(try simp only[itb]);(try simp only[itf,gS,kk]))
 all_goals(repeat' first|refine exI λ_=>?_|refine anJ λ_ _=>?_|refine anI λ_=>?_|refine orE2 ?_ ?_|exact False.elim)
 all_goals(intro h;first|rw[Zd Zbdl.eq_1]|rw[Ev_eq Z2j.eq_1]|refine run Zch8 rfl ?_)
 all_goals (refine Yf ?_ h;clear h;simp +decide[*,kk,tI,tII,Zbtu])
abbrev Zb0k:=uq Zbje.1
abbrev Zcoo:=uq Zbje.2.1
abbrev Zcop:=uq Zbje.2.2
theorem Zde:((((∀t i r,Im (Zp2 t i=some r) (if i<(t.Rows.length:Int)then qG t.Rows i (λe1=>qB (Zvl e1 t.Arity) (if 0<i then 0<=(w (i-1))/\∃e3,t.Rows[(w (i-1)).toNat]?=some e3/\qI (Zd1 e3 e1) (λv4=>if 0<=v4 then qb false r else Zp2 t (w (i+1))=some r)else Zp2 t (w (i+1))=some r) (qb false r))else qb true r))/\
 (∀a r,Im (Zhp a=some r) (qB (Zip a.Name) (qB (Z0 a.Arity 1 3) (if 8<(a.Rows.length:Int)then qb false r else Zp2 a 0=some r) (qb false r)) (qb false r))))/\
 ((∀d i r,Im (Zp3 d i=some r) (if i<(d.Tables.length:Int)then qG d.Tables i (λe1=>qB (Zhp e1) (if 0<i then 0<=(w (i-1))/\∃e3,d.Tables[(w (i-1)).toNat]?=some e3/\if(Op.bytesLess e3.Name.toList e1.Name.toList)=true then Zp3 d (w (i+1))=some r else qb false r else Zp3 d (w (i+1))=some r) (qb false r))else qb (decide ((d.Tables.length:Int)<=6)) r))/\
 (∀a r,Im (Zmu a=some r) (Zp3 a 0=some r))))/\
 (((∀cc m v r,Im (Zmv cc m v=some r) (if v<3 then ¬v<0/\if(andI (shrI m v) 1)=1 then cc.length+1<=68719476736/\Zmv (cc++[v]) m (w (v+1))=some r else Zmv cc m (w (v+1))=some r else some (.own 0,[.arr 3 1 true (cc.map ic)])=some r))/\
 (∀a r,Im (Zeq a=some r) (Zmv ([]:List Int) a 0=some r)))/\
 ((∀cc n m r,Im (Zmw cc n m=some r) (qB (Z0 n 1 3) (¬n<0/\if m<(shlI 1 n)then qO 3 1 ic (Zeq m) (λv1=>cc.length+1<=68719476736/\Zmw (cc++[v1]) n (w (m+1))=some r)else some (.own 0,[.arr 56 1 true (cc.map isc)])=some r) (some (.own 0,[.arr 56 1 true (cc.map isc)])=some r)))/\
 ((∀a r,Im (Zvr a=some r) (Zmw ([]:List (List Int)) a 1=some r))/\
 (∀t c i r,Im (Zp5 t c i=some r) (if i<(c.length:Int)then qG c i (λe1=>qB (Z0 e1 0 (w (t.Arity-1))) (if 0<i then 0<=(w (i-1))/\∃e3,c[(w (i-1)).toNat]?=some e3/\if e1<=e3 then qb false r else Zp5 t c (w (i+1))=some r else Zp5 t c (w (i+1))=some r) (qb false r))else qV (Zhp t) (λv4=>qb v4 r)))))))/\
 ((((∀a a1 r,Im (Zp4 a a1=some r) (Zp5 a a1 0=some r))/\
 (∀cc cn c i r,Im (Zvu cc cn c i=some r) (if i<(c.length:Int)then qG c i (λe1=>qB (Z0 e1 0 (w ((cn.length:Int)-1))) (qG cn e1 (λe3=>cc.length+1<=68719476736/\Zvu (cc++[e3]) cn c (w (i+1))=some r)) (some (.tup [.own 0,Bo false],[.arr 3 1 true (([]:List Int).map ic)])=some r))else some (.tup [.own 0,Bo true],[.arr 3 1 true (cc.map ic)])=some r)))/\
 ((∀a a1 r,Im (Zkl a a1=some r) (Zvu ([]:List Int) a a1 0=some r))/\
 (∀cc co cn cp i r,Im (Ziq cc co cn cp i=some r) (if i<(co.length:Int)then qG co i (λe1=>qI (Zd1 e1 cn) (λv1=>if v1=0 then if 0<v1 then e1.length<=68719476736/\cc.length+1<=68719476736/\Ziq (cc++[e1]) co cn true (w (i+1))=some r else e1.length<=68719476736/\cc.length+1<=68719476736/\Ziq (cc++[e1]) co cn true (w (i+1))=some r else if 0<v1 then if cp=true then e1.length<=68719476736/\cc.length+1<=68719476736/\Ziq (cc++[e1]) co cn true (w (i+1))=some r else cn.length<=68719476736/\cc.length+1<=68719476736/\e1.length<=68719476736/\cc.length+1+1<=68719476736/\Ziq ((cc++[cn])++[e1]) co cn true (w (i+1))=some r else e1.length<=68719476736/\cc.length+1<=68719476736/\Ziq (cc++[e1]) co cn cp (w (i+1))=some r))else if cp=true then some (.own 0,[.arr 56 1 true (cc.map isc)])=some r else cn.length<=68719476736/\cc.length+1<=68719476736/\some (.own 0,[.arr 56 1 true ((cc++[cn]).map isc)])=some r))))/\
 (((∀a a1 r,Im (Zp7 a a1=some r) (Ziq ([]:List (List Int)) a a1 false 0=some r))/\
 (∀t cd cl c i r,Im (Zvx t cd cl c i=some r) (if i<(t.Rows.length:Int)then qG t.Rows i (λe1=>∃(v1:List Int),∃v2,Zkl e1 c=some (.tup [.own 0,Bo v2],[.arr 3 1 true (v1.map ic)])/\qO 56 1 isc (Zp7 cd v1) (λv3=>Zvx t v3 cl c (w (i+1))=some r))else Zp9 t cd cl c 0=some r)))/\
 ((∀t cd cl c k r,Im (Zp9 t cd cl c k=some r) (if k<(cd.length:Int)then Zqa t cd cl c k 0 0=some r else some (.tup [.own 0,.own 1],[.arr 56 1 true (cd.map isc),.arr 3 1 true (cl.map ic)])=some r))/\
 ((∀t cd cl c k n i r,Im (Zqa t cd cl c k n i=some r) (if i<(t.Rows.length:Int)then qG t.Rows i (λe1=>∃(v1:List Int),∃v2,Zkl e1 c=some (.tup [.own 0,Bo v2],[.arr 3 1 true (v1.map ic)])/\qG cd k (λe3=>qI (Zd1 v1 e3) (λv4=>if v4=0 then Zqa t cd cl c k (w (n+1)) (w (i+1))=some r else Zqa t cd cl c k n (w (i+1))=some r)))else cl.length+1<=68719476736/\Zp9 t cd (cl++[n]) c (w (k+1))=some r))/\
 (∀a a1 r,Im (Zp8 a a1=some r) (qB (Zp4 a a1) (Zvx a ([]:List (List Int)) ([]:List Int) a1 0=some r) (some (.tup [.own 0,.own 1],[.arr 56 1 true (([]:List (List Int)).map isc),.arr 3 1 true (([]:List Int).map ic)])=some r))))))):=by
 and_intros
 all_goals(intros;unfold Im;(try simp only[Zp2,Zhp,Zp3,Zmu,Zmv,Zeq,Zmw,Zvr,Zp5,Zp4,Zvu,Zkl,Ziq,Zp7,Zvx,Zp9,Zqa,Zp8,Zvl,Zd1,Zip,Z0,Ze.c_def,mpl,dfs,qs]);(try simp only[itb]);(try simp only[itf,gS,kk]))
 all_goals(repeat' first|refine exI λ_=>?_|refine anJ λ_ _=>?_|refine anI λ_=>?_|refine orE2 ?_ ?_|exact False.elim)
 all_goals(intro h;first|rw[Zd Zvp.eq_1]|refine run Zbyc rfl ?_|rw[Zd Zbdp.eq_1]|refine run Zch9 rfl ?_|rw[Zd Zbdr.eq_1]|refine run Zcia rfl ?_|rw[Zd Zbdu.eq_1]|refine run Zcib rfl ?_|rw[Zd Zvs.eq_1]|refine run Zbyd rfl ?_|rw[Zd Zbdz.eq_1]|refine run Zcic rfl ?_|rw[Zd Zvv.eq_1]|refine run Zbye rfl ?_|rw[Zd Zbd3.eq_1]|rw[Zd Z2l.eq_1]|rw[Zd Zbd4.eq_1]|refine run Zcid rfl ?_)
 all_goals (refine Yf ?_ h;clear h;simp +decide[*,kk,tI,tII,Zvq,Zbdn,Zbdq,Zbtv,Zbtw,Zbds,Zbtx,Zbdv,Zbty,Zvt,Zbdx,Zbd0,Zbtz,Zbt0,Zbt1,Zbd1,Zvw,Zbd2,Zbd7,Z2m,Zbt2,Zbd6,Zbd5,Zbt3])
abbrev Zb0l:=uq Zde.1.1.1.1
abbrev Zcoq:=uq Zde.1.1.1.2
abbrev Zb0m:=uq Zde.1.1.2.1
abbrev Zcor:=uq Zde.1.1.2.2
abbrev Zi3:=uq Zde.1.2.1.1
abbrev Zb0n:=uq Zde.1.2.1.2
abbrev Zb0o:=uq Zde.1.2.2.1
abbrev Zcos:=uq Zde.1.2.2.2.1
abbrev Zb0p:=uq Zde.1.2.2.2.2
abbrev Zcot:=uq Zde.2.1.1.1
abbrev Zb0q:=uq Zde.2.1.1.2
abbrev Zcou:=uq Zde.2.1.2.1
abbrev Zb0r:=uq Zde.2.1.2.2
abbrev Zcov:=uq Zde.2.2.1.1
abbrev Zb0s:=uq Zde.2.2.1.2
abbrev Zb0t:=uq Zde.2.2.2.1
abbrev Zb0u:=uq Zde.2.2.2.2.1
abbrev Zcow:=uq Zde.2.2.2.2.2
theorem Zk8:(((∀t cv cu co cp cn cl l i r,Im (Zbd9 t cv cu co cp cn cl l i=some r) (if i<(l.length:Int)then qG l i (λe1=>∃(v:List (List Int)) (v1:List Int),Zp8 t e1=some (.tup [.own 0,.own 1],[.arr 56 1 true (v.map isc),.arr 3 1 true (v1.map ic)])/\Zvy t cv cu co cp cn cl false ([(⟨e1,v,v1⟩:Zg)]) l (w (i+1))=some r)else some (.agg [.t (.str cp),I cn,I cl,.t .nil],[])=some r))/\
 (∀t cv cu co cp cn cl fr x l i r,Im (Zvy t cv cu co cp cn cl fr x l i=some r) (if i<(l.length:Int)then qG l i (λe1=>∃(v:List (List Int)) (v1:List Int),Zp8 t e1=some (.tup [.own 0,.own 1],[.arr 56 1 true (v.map isc),.arr 3 1 true (v1.map ic)])/\x.length+1<=68719476736/\Zvy t cv cu co cp cn cl false (x++[(⟨e1,v,v1⟩:Zg)]) l (w (i+1))=some r)else some (.agg [.t (.str cp),I cn,I cl,.own 0],[.arr 200 3 fr (x.map Zg.c)])=some r)))/\
 ((∀a r,Im (Zhq a=some r) (qB (Zhp a) (qO 56 1 isc (Zvr a.Arity) (λv=>Zbd9 a (⟨#[]⟩:ByteArray) 0 0 a.Name a.Arity (a.Rows.length:Int) v 0=some r)) (some (.agg [.t (.str (⟨#[]⟩:ByteArray)),I 0,I 0,.t .nil],[])=some r)))/\
 (∀d cc cd i r,Im (Zbeb d cc cd i=some r) (if i<(d.Tables.length:Int)then qG d.Tables i (λe1=>(∃v v1 v2,Zhq e1=some (.agg [.t (.str v),I v1,I v2,.t .nil],[])/\Zmx d cc cd true ([(⟨v,v1,v2,[]⟩:Zf)]) (w (i+1))=some r)\/(∃v3,∃(v4:List Zg),∃v5,∃v6,∃v7,Zhq e1=some (.agg [.t (.str v5),I v6,I v7,.own 0],[.arr 200 3 v3 (v4.map Zg.c)])/\Zmx d cc cd v3 ([(⟨v5,v6,v7,v4⟩:Zf)]) (w (i+1))=some r))else some (.tup [.agg [I cd,.t .nil],Bo true],[])=some r))))/\
 (((∀d cc cd fr x i r,Im (Zmx d cc cd fr x i=some r) (if i<(d.Tables.length:Int)then qG d.Tables i (λe1=>(∃v v1 v2,Zhq e1=some (.agg [.t (.str v),I v1,I v2,.t .nil],[])/\x.length+1<=68719476736/\Zmx d cc cd fr (x++[(⟨v,v1,v2,[]⟩:Zf)]) (w (i+1))=some r)\/(∃v3,∃(v4:List Zg),∃v5,∃v6,∃v7,Zhq e1=some (.agg [.t (.str v5),I v6,I v7,.own 0],[.arr 200 3 v3 (v4.map Zg.c)])/\x.length+1<=68719476736/\Zmx d cc cd (fr && v3) (x++[(⟨v5,v6,v7,v4⟩:Zf)]) (w (i+1))=some r))else some (.tup [.agg [I cd,.own 0],Bo true],[.arr 141 4 fr (x.map Zf.c)])=some r))/\
 (∀a a1 r,Im (Zqb a a1=some r) (qB (Zmu a) (qB (Z0 a1 1 999) (Zbeb a 0 a1 0=some r) (some (.tup [.agg [I 0,.t .nil],Bo false],[])=some r)) (some (.tup [.agg [I 0,.t .nil],Bo false],[])=some r))))/\
 ((∀cc b i r,Im (Zbee cc b i=some r) (if i<0 then False else qb true r))/\
 (∀cc a r,Im (Zv1 cc a=some r) (if cc=a.Version then if 0=(a.Tables.length:Int)then Zbee cc a 0=some r else qb false r else qb false r)))):=by
 and_intros
 all_goals(intros;unfold Im;(try simp only[Zbd9,Zvy,Zhq,Zbeb,Zmx,Zqb,Zbee,Zv1,Zp8,Ze.c_def,Zhp,Zvr,Zmu,Z0,Zi.c_def,mpl,dfs,qs]);(try simp only[itb]);(try simp only[itf,gS,kk]))
 all_goals(repeat' first|refine exI λ_=>?_|refine anJ λ_ _=>?_|refine anI λ_=>?_|refine orE2 ?_ ?_|exact False.elim)
 all_goals(intro h;first|rw[Zd Z2n.eq_1]|refine run Zcie rfl ?_|rw[Zd Z2p.eq_1]|refine run Zcif rfl ?_|rw[Zd Zvz.eq_1]|refine run Zbyf rfl ?_)
 all_goals (refine Yf ?_ h;clear h;simp +decide[*,kk,tI,tII,Z2o,Zbt4,Z2q,Zbt5,Zv0,Zbed])
abbrev Zcox:=uq Zk8.1.1.1
abbrev Zb0v:=uq Zk8.1.1.2
abbrev Zcoy:=uq Zk8.1.2.1
abbrev Zcoz:=uq Zk8.1.2.2
abbrev Zb0w:=uq Zk8.2.1.1
abbrev Zco0:=uq Zk8.2.1.2
abbrev Zco1:=uq Zk8.2.2.1
abbrev Zco2:=uq Zk8.2.2.2
theorem Zdf:((((∀t cc c cl cd i r,Im (Zbeg t cc c cl cd i=some r) (if i<(t.Rows.length:Int)then qG t.Rows i (λe1=>e1.length<=68719476736/\Zv3 t cc c cl cd ([e1]) (w (i+1))=some r)else some (.agg [.t (.str cl),I cd,.t .nil],[])=some r))/\
 (∀t cc c cl cd x i r,Im (Zv3 t cc c cl cd x i=some r) (if i<(t.Rows.length:Int)then qG t.Rows i (λe1=>e1.length<=68719476736/\x.length+1<=68719476736/\Zv3 t cc c cl cd (x++[e1]) (w (i+1))=some r)else some (.agg [.t (.str cl),I cd,.own 0],[.arr 56 1 true (x.map isc)])=some r)))/\
 ((∀a r,Im (Zv2 a=some r) (Zbeg a (⟨#[]⟩:ByteArray) 0 a.Name a.Arity 0=some r))/\
 (∀d cc c co i r,Im (Zv4 d cc c co i=some r) (if i<(d.Tables.length:Int)then qB (Zmu d) (qG d.Tables i (λe2=>if e2.Name=co then(∃v6 v7,Zv2 e2=some (.agg [.t (.str v6),I v7,.t .nil],[])/\some (.tup [.agg [.t (.str v6),I v7,.t .nil],Bo true],[])=some r)\/(∃(v8:List (List Int)),∃v9,∃v10,Zv2 e2=some (.agg [.t (.str v9),I v10,.own 0],[.arr 56 1 true (v8.map isc)])/\some (.tup [.agg [.t (.str v9),I v10,.own 0],Bo true],[.arr 56 1 true (v8.map isc)])=some r)else Zv4 d cc c co (w (i+1))=some r)) (some (.tup [.agg [.t (.str (⟨#[]⟩:ByteArray)),I 0,.t .nil],Bo false],[])=some r)else some (.tup [.agg [.t (.str (⟨#[]⟩:ByteArray)),I 0,.t .nil],Bo false],[])=some r))))/\
 (((∀a a1 r,Im (Zch a a1=some r) (Zv4 a (⟨#[]⟩:ByteArray) 0 a1 0=some r))/\
 (∀cc c i r,Im (Zbek cc c i=some r) (if i<0 then False else qb true r)))/\
 ((∀cc c r,Im (Zmy cc c=some r) (qB (Zip cc) (qB (Z0 c 1 3) (Zbek cc c 0=some r) (qb false r)) (qb false r)))/\
 ((∀cc c cn i r,Im (Zqc cc c cn i=some r) (if i<(cn.length:Int)then qG cn i (λe1=>qB (Z0 e1 0 (w (c-1))) (if 0<i then 0<=(w (i-1))/\∃e3,cn[(w (i-1)).toNat]?=some e3/\if e1<=e3 then qb false r else Zqc cc c cn (w (i+1))=some r else Zqc cc c cn (w (i+1))=some r) (qb false r))else qV (Zmy cc c) (λv8=>qb v8 r)))/\
 (∀cc c a r,Im (Z2t cc c a=some r) (Zqc cc c a 0=some r))))))/\
 ((((∀l x i r,Im (Zv5 l x i=some r) (if i<(l.length:Int)then qG l i (λe1=>if e1=x then qb true r else Zv5 l x (w (i+1))=some r)else qb false r))/\
 (∀a a1 r,Im (Zer a a1=some r) (Zv5 a a1 0=some r)))/\
 ((∀a a1 r,Im (Zqd a a1=some r) ((∃v v1 v2,Zch a a1.Name=some (.tup [.agg [.t (.str v),I v1,.t .nil],Bo v2],[])/\if v2=true then qB (Z2t v v1 a1.From) (qB (Z0 a1.To 0 (w (v1-1))) (qV (Zer a1.From a1.To) (λv8=>qb (!v8) r)) (qb false r)) (qb false r)else qb false r)\/(∃(v11:List (List Int)),∃v12,∃v13,Zch a a1.Name=some (.tup [.agg [.t (.str v12),I v13,.own 0],Bo true],[.arr 56 1 true (v11.map isc)])/\qB (Zp4 (⟨v12,v13,v11⟩:Ze) a1.From) (qB (Z0 a1.To 0 (w (v13-1))) (qV (Zer a1.From a1.To) (λv15=>qb (!v15) r)) (qb false r)) (qb false r))))/\
 (∀d f cc c k r,Im (Zbeq d f cc c k=some r) (if k<0 then qB (Zqd d f) False (some (.own 0,[.arr 3 1 true (([]:List Int).map ic)])=some r)else some (.own 0,[.arr 3 1 true (([]:List Int).map ic)])=some r))))/\
 (((∀d f cc c x k r,Im (Zqe d f cc c x k=some r) (if k<(x.length:Int)then qB (Zqd d f) (qG x k (λe2=>∃(v6:List Int),∃v7,Zkl e2 f.From=some (.tup [.own 0,Bo v7],[.arr 3 1 true (v6.map ic)])/\Zis d f cc c x v6 k 0=some r)) (some (.own 0,[.arr 3 1 true (([]:List Int).map ic)])=some r)else some (.own 0,[.arr 3 1 true (([]:List Int).map ic)])=some r))/\
 (∀d f cc c x y k i r,Im (Zis d f cc c x y k i=some r) (if i<k then qG x i (λe1=>∃(v3:List Int),∃v4,Zkl e1 f.From=some (.tup [.own 0,Bo v4],[.arr 3 1 true (v3.map ic)])/\qI (Zd1 v3 y) (λv6=>if v6=0 then qG e1 f.To (λe4=>qG x k (λe5=>qH e5 f.To (λe6=>if e4=e6 then Zis d f cc c x y k (w (i+1))=some r else some (.own 0,[.arr 3 1 true (([i,k]).map ic)])=some r)))else Zis d f cc c x y k (w (i+1))=some r))else Zqe d f cc c x (w (k+1))=some r)))/\
 ((∀a a1 r,Im (Z2u a a1=some r) ((∃v v1 v2,Zch a a1.Name=some (.tup [.agg [.t (.str v),I v1,.t .nil],Bo v2],[])/\Zbeq a a1 v v1 0=some r)\/(∃(v3:List (List Int)),∃v4,∃v5,Zch a a1.Name=some (.tup [.agg [.t (.str v4),I v5,.own 0],Bo true],[.arr 56 1 true (v3.map isc)])/\Zqe a a1 v4 v5 v3 0=some r)))/\
 ((∀a a1 r,Im (Zv9 a a1=some r) (qB (Zqd a a1) (qO 3 1 ic (Z2u a a1) (λv3=>qb (decide ((v3.length:Int)=0)) r)) (qb false r)))/\
 (∀a a1 r,Im (Zqf a a1=some r) ((∃v v1 v2,Zch a a1.Name=some (.tup [.agg [.t (.str v),I v1,.t .nil],Bo v2],[])/\((∃v3 v4 v5,Zch a a1.Into=some (.tup [.agg [.t (.str v3),I v4,.t .nil],Bo v5],[])/\if v2=true then if v5=true then qB (Z0 a1.Column 0 (w (v1-1))) (qV (Z0 a1.IntoColumn 0 (w (v4-1))) (λv8=>qb v8 r)) (qb false r)else qb false r else qb false r)\/(∃(v11:List (List Int)),∃v12,∃v13,Zch a a1.Into=some (.tup [.agg [.t (.str v12),I v13,.own 0],Bo true],[.arr 56 1 true (v11.map isc)])/\if v2=true then qB (Z0 a1.Column 0 (w (v1-1))) (qV (Z0 a1.IntoColumn 0 (w (v13-1))) (λv14=>qb v14 r)) (qb false r)else qb false r)))\/(∃(v15:List (List Int)),∃v16,∃v17,Zch a a1.Name=some (.tup [.agg [.t (.str v16),I v17,.own 0],Bo true],[.arr 56 1 true (v15.map isc)])/\((∃v18 v19 v20,Zch a a1.Into=some (.tup [.agg [.t (.str v18),I v19,.t .nil],Bo v20],[])/\if v20=true then qB (Z0 a1.Column 0 (w (v17-1))) (qV (Z0 a1.IntoColumn 0 (w (v19-1))) (λv21=>qb v21 r)) (qb false r)else qb false r)\/(∃(v22:List (List Int)),∃v23,∃v24,Zch a a1.Into=some (.tup [.agg [.t (.str v23),I v24,.own 0],Bo true],[.arr 56 1 true (v22.map isc)])/\qB (Z0 a1.Column 0 (w (v17-1))) (qV (Z0 a1.IntoColumn 0 (w (v24-1))) (λv25=>qb v25 r)) (qb false r)))))))))):=by
 and_intros
 all_goals(intros;unfold Im;(try simp only[Zbeg,Zv3,Zv2,Zv4,Zch,Zbek,Zmy,Zqc,Z2t,Zv5,Zer,Zqd,Zbeq,Zqe,Zis,Z2u,Zv9,Zqf,Zmu,Zi.c_def,Ze.c_def,Zip,Z0,Zp4,Zk.c_def,Zkl,Zd1,mpl,dfs,qs]);(try simp only[itb]);(try simp only[itf,gS,kk]))
 all_goals(repeat' first|refine exI λ_=>?_|refine anJ λ_ _=>?_|refine anI λ_=>?_|refine orE2 ?_ ?_|exact False.elim)
 all_goals(intro h;first|rw[Zd Z2r.eq_1]|refine run Zcig rfl ?_|rw[Zd Zbei.eq_1]|refine run Zcih rfl ?_|rw[Zd Zvp.eq_1]|refine run Zbyc rfl ?_|rw[Zd Zvs.eq_1]|refine run Zbyd rfl ?_|rw[Zd Zbem.eq_1]|refine run Zcii rfl ?_|refine run Zcij rfl ?_|rw[Zd Zv7.eq_1]|rw[Zd Zbeo.eq_1]|refine run Zcik rfl ?_|refine run Zcil rfl ?_|refine run Zcim rfl ?_)
 all_goals (refine Yf ?_ h;clear h;simp +decide[*,kk,tI,tII,Z2s,Zbt6,Zbej,Zbt7,Zvq,Zbdn,Zvt,Zbdx,Zben,Zbt8,Zbt9,Zv8,Zbep,Zbua,Zbub,Zbuc])
abbrev Zco3:=uq Zdf.1.1.1.1
abbrev Zb0x:=uq Zdf.1.1.1.2
abbrev Zco4:=uq Zdf.1.1.2.1
abbrev Zb0y:=uq Zdf.1.1.2.2
abbrev Zco5:=uq Zdf.1.2.1.1
abbrev Zb0z:=uq Zdf.1.2.1.2
abbrev Zb00:=uq Zdf.1.2.2.1
abbrev Zb01:=uq Zdf.1.2.2.2.1
abbrev Zco6:=uq Zdf.1.2.2.2.2
abbrev Zb02:=uq Zdf.2.1.1.1
abbrev Zco7:=uq Zdf.2.1.1.2
abbrev Zco8:=uq Zdf.2.1.2.1
abbrev Zco9:=uq Zdf.2.1.2.2
abbrev Zb03:=uq Zdf.2.2.1.1
abbrev Zb04:=uq Zdf.2.2.1.2
abbrev Zb05:=uq Zdf.2.2.2.1
abbrev Zcpa:=uq Zdf.2.2.2.2.1
abbrev Zcpb:=uq Zdf.2.2.2.2.2
theorem Zdg:((((∀x cn cl cc cd c v r,Im (Zgf x cn cl cc cd c v=some r) (if v<=9 then Zwa x cn cl cc cd c v false false 0=some r else some (.own 0,[.arr 3 1 true (cn.map ic)])=some r))/\
 (∀x cn cl cc cd c x1 v r,Im (Zgg x cn cl cc cd c x1 v=some r) (if v<=9 then Zwb x cn cl cc cd c x1 v false false 0=some r else some (.own 0,[.arr 3 1 true (cn.map ic)])=some r)))/\
 ((∀x cn cl cc x1 cd c v r,Im (Zgh x cn cl cc x1 cd c v=some r) (if v<=9 then Zqk x cn cl cc x1 cd c v false false 0=some r else some (.own 0,[.arr 3 1 true (cn.map ic)])=some r))/\
 (∀x cn cl cc x1 cd c x2 v r,Im (Zgi x cn cl cc x1 cd c x2 v=some r) (if v<=9 then Zql x cn cl cc x1 cd c x2 v false false 0=some r else some (.own 0,[.arr 3 1 true (cn.map ic)])=some r))))/\
 (((∀x cn cl cc cd c v co cp i r,Im (Zwa x cn cl cc cd c v co cp i=some r) (if i<0 then if co=true then Zwa x cn cl cc cd c v true cp (w (i+1))=some r else False else Zqm x cn cl cc cd c v co cp 0=some r))/\
 (∀x cn cl cc cd c x1 v co cp i r,Im (Zwb x cn cl cc cd c x1 v co cp i=some r) (if i<0 then if co=true then Zwb x cn cl cc cd c x1 v true cp (w (i+1))=some r else False else Zmz x cn cl cc cd c x1 v co cp 0=some r)))/\
 ((∀x cn cl cc x1 cd c v co cp i r,Im (Zqk x cn cl cc x1 cd c v co cp i=some r) (if i<(x1.length:Int)then if co=true then Zqk x cn cl cc x1 cd c v true cp (w (i+1))=some r else qG x1 i (λe1=>qG e1 x.Column (λe2=>Zqk x cn cl cc x1 cd c v (decide (e2=v)) cp (w (i+1))=some r))else Zqn x cn cl cc x1 cd c v co cp 0=some r))/\
 ((∀x cn cl cc x1 cd c x2 v co cp i r,Im (Zql x cn cl cc x1 cd c x2 v co cp i=some r) (if i<(x1.length:Int)then if co=true then Zql x cn cl cc x1 cd c x2 v true cp (w (i+1))=some r else qG x1 i (λe1=>qG e1 x.Column (λe2=>Zql x cn cl cc x1 cd c x2 v (decide (e2=v)) cp (w (i+1))=some r))else Zm0 x cn cl cc x1 cd c x2 v co cp 0=some r))/\
 (∀x cn cl cc cd c v co cp i r,Im (Zqm x cn cl cc cd c v co cp i=some r) (if i<0 then if cp=true then Zqm x cn cl cc cd c v co true (w (i+1))=some r else False else if co=true then if cp=true then Zgf x cn cl cc cd c (w (v+1))=some r else cn.length+1<=68719476736/\Zgf x (cn++[v]) cl cc cd c (w (v+1))=some r else Zgf x cn cl cc cd c (w (v+1))=some r))))))/\
 ((((∀x cn cl cc cd c x1 v co cp i r,Im (Zmz x cn cl cc cd c x1 v co cp i=some r) (if i<(x1.length:Int)then if cp=true then Zmz x cn cl cc cd c x1 v co true (w (i+1))=some r else qG x1 i (λe1=>qG e1 x.IntoColumn (λe2=>Zmz x cn cl cc cd c x1 v co (decide (e2=v)) (w (i+1))=some r))else if co=true then if cp=true then Zgg x cn cl cc cd c x1 (w (v+1))=some r else cn.length+1<=68719476736/\Zgg x (cn++[v]) cl cc cd c x1 (w (v+1))=some r else Zgg x cn cl cc cd c x1 (w (v+1))=some r))/\
 (∀x cn cl cc x1 cd c v co cp i r,Im (Zqn x cn cl cc x1 cd c v co cp i=some r) (if i<0 then if cp=true then Zqn x cn cl cc x1 cd c v co true (w (i+1))=some r else False else if co=true then if cp=true then Zgh x cn cl cc x1 cd c (w (v+1))=some r else cn.length+1<=68719476736/\Zgh x (cn++[v]) cl cc x1 cd c (w (v+1))=some r else Zgh x cn cl cc x1 cd c (w (v+1))=some r)))/\
 ((∀x cn cl cc x1 cd c x2 v co cp i r,Im (Zm0 x cn cl cc x1 cd c x2 v co cp i=some r) (if i<(x2.length:Int)then if cp=true then Zm0 x cn cl cc x1 cd c x2 v co true (w (i+1))=some r else qG x2 i (λe1=>qG e1 x.IntoColumn (λe2=>Zm0 x cn cl cc x1 cd c x2 v co (decide (e2=v)) (w (i+1))=some r))else if co=true then if cp=true then Zgi x cn cl cc x1 cd c x2 (w (v+1))=some r else cn.length+1<=68719476736/\Zgi x (cn++[v]) cl cc x1 cd c x2 (w (v+1))=some r else Zgi x cn cl cc x1 cd c x2 (w (v+1))=some r))/\
 (∀a a1 r,Im (Zber a a1=some r) (qB (Zqf a a1) ((∃v1 v2 v3,Zch a a1.Name=some (.tup [.agg [.t (.str v1),I v2,.t .nil],Bo v3],[])/\((∃v4 v5 v6,Zch a a1.Into=some (.tup [.agg [.t (.str v4),I v5,.t .nil],Bo v6],[])/\Zgf a1 ([]:List Int) v1 v2 v4 v5 0=some r)\/(∃(v7:List (List Int)),∃v8,∃v9,Zch a a1.Into=some (.tup [.agg [.t (.str v8),I v9,.own 0],Bo true],[.arr 56 1 true (v7.map isc)])/\Zgg a1 ([]:List Int) v1 v2 v8 v9 v7 0=some r)))\/(∃(v10:List (List Int)),∃v11,∃v12,Zch a a1.Name=some (.tup [.agg [.t (.str v11),I v12,.own 0],Bo true],[.arr 56 1 true (v10.map isc)])/\((∃v13 v14 v15,Zch a a1.Into=some (.tup [.agg [.t (.str v13),I v14,.t .nil],Bo v15],[])/\Zgh a1 ([]:List Int) v11 v12 v10 v13 v14 0=some r)\/(∃(v16:List (List Int)),∃v17,∃v18,Zch a a1.Into=some (.tup [.agg [.t (.str v17),I v18,.own 0],Bo true],[.arr 56 1 true (v16.map isc)])/\Zgi a1 ([]:List Int) v11 v12 v10 v17 v18 v16 0=some r)))) (some (.own 0,[.arr 3 1 true (([]:List Int).map ic)])=some r)))))/\
 (((∀a a1 r,Im (Z2v a a1=some r) (qB (Zqf a a1) (qO 3 1 ic (Zber a a1) (λv1=>qb (decide ((v1.length:Int)=0)) r)) (qb false r)))/\
 (∀d cv cu i r,Im (Zwd d cv cu i=some r) (if i<(cv.length:Int)then qG cv i (λe1=>qB (Zv9 d e1) (Zwd d cv cu (w (i+1))=some r) (qb false r))else Zwe d cu 0=some r)))/\
 ((∀d cu i r,Im (Zwe d cu i=some r) (if i<(cu.length:Int)then qG cu i (λe1=>qB (Z2v d e1) (Zwe d cu (w (i+1))=some r) (qb false r))else qb true r))/\
 ((∀a a1 a2 r,Im (Zqo a a1 a2=some r) (if 8<(a1.length:Int)then qb false r else if 8<(a2.length:Int)then qb false r else Zwd a a1 a2 0=some r))/\
 (∀a b i r,Im (Zm1 a b i=some r) (if i<(a.Groups.length:Int)then qG a.Groups i (λe1=>qH b.Groups i (λe2=>qI (Zd1 e1.Columns e2.Columns) (λv4=>if v4=0 then qI (Zd1 e1.Counts e2.Counts) (λv7=>if v7=0 then if(e1.Values.length:Int)=(e2.Values.length:Int)then Zqq a b e1 e2 i 0=some r else qb false r else qb false r)else qb false r)))else qb true r)))))):=by
 and_intros
 all_goals(intros;unfold Im;(try simp only[Zgf,Zgg,Zgh,Zgi,Zwa,Zwb,Zqk,Zql,Zqm,Zmz,Zqn,Zm0,Zber,Z2v,Zwd,Zwe,Zqo,Zm1,Zqf,Zch,Zi.c_def,Zj.c_def,Zv9,Zk.c_def,Zd1,Zqq,mpl,dfs,qs]);(try simp only[itb]);(try simp only[itf,gS,kk]))
 all_goals(repeat' first|refine exI λ_=>?_|refine anJ λ_ _=>?_|refine anI λ_=>?_|refine orE2 ?_ ?_|exact False.elim)
 all_goals(intro h;first|rw[Zd Ze5.eq_1]|rw[Zd Zqg.eq_1]|rw[Zd Zqh.eq_1]|refine run Zcin rfl ?_|refine run Zcio rfl ?_|rw[Zd Zbes.eq_1]|rw[Zd Zbet.eq_1]|refine run Zcip rfl ?_|rw[Zd Z2w.eq_1])
 all_goals (refine Yf ?_ h;clear h;simp +decide[*,kk,tI,tII,Ze6,Zqj,Zhr,Zqi,Zbud,Zbue,Zbev,Zbeu,Zbuf,Z2x])
abbrev Zb06:=uq Zdg.1.1.1.1
abbrev Zb07:=uq Zdg.1.1.1.2
abbrev Zb08:=uq Zdg.1.1.2.1
abbrev Zb09:=uq Zdg.1.1.2.2
abbrev Zcpc:=uq Zdg.1.2.1.1
abbrev Zcpd:=uq Zdg.1.2.1.2
abbrev Zb1a:=uq Zdg.1.2.2.1
abbrev Zb1b:=uq Zdg.1.2.2.2.1
abbrev Zcpe:=uq Zdg.1.2.2.2.2
abbrev Zb1c:=uq Zdg.2.1.1.1
abbrev Zcpf:=uq Zdg.2.1.1.2
abbrev Zb1d:=uq Zdg.2.1.2.1
abbrev Zcpg:=uq Zdg.2.1.2.2
abbrev Zcph:=uq Zdg.2.2.1.1
abbrev Zb1e:=uq Zdg.2.2.1.2
abbrev Zb1f:=uq Zdg.2.2.2.1
abbrev Zcpi:=uq Zdg.2.2.2.2.1
abbrev Zb1g:=uq Zdg.2.2.2.2.2
theorem Zyj:((∀a b x y i k r,Im (Zqq a b x y i k=some r) (if k<(x.Values.length:Int)then qG x.Values k (λe1=>qH y.Values k (λe2=>qI (Zd1 e1 e2) (λv2=>if v2=0 then Zqq a b x y i (w (k+1))=some r else qb false r)))else Zm1 a b (w (i+1))=some r))/\
 (∀a a1 r,Im (Zqp a a1=some r) (if a.Name=a1.Name then if a.Arity=a1.Arity then if a.RowCount=a1.RowCount then if(a.Groups.length:Int)=(a1.Groups.length:Int)then Zm1 a a1 0=some r else qb false r else qb false r else qb false r else qb false r)))/\
 ((∀a b i r,Im (Zwg a b i=some r) (if i<(a.Tables.length:Int)then qG a.Tables i (λe1=>qH b.Tables i (λe2=>qB (Zqp e1 e2) (Zwg a b (w (i+1))=some r) (qb false r)))else qb true r))/\
 ((∀a a1 r,Im (Z2y a a1=some r) (if a.Version=a1.Version then if(a.Tables.length:Int)=(a1.Tables.length:Int)then Zwg a a1 0=some r else qb false r else qb false r))/\
 (∀a r,Im (Zwh a=some r) ((∃v v1,Zqb a.Zi a.Zl.Version=some (.tup [.agg [I v,.t .nil],Bo v1],[])/\if v1=true then qB (Zv1 v a.Zl) (qV (Zqo a.Zi a.Dependencies a.Inclusions) (λv2=>qb v2 r)) (qb false r)else qb false r)\/(∃v3,∃(v4:List Zf),∃v5,Zqb a.Zi a.Zl.Version=some (.tup [.agg [I v5,.own 0],Bo true],[.arr 141 4 v3 (v4.map Zf.c)])/\qB (Z2y (⟨v5,v4⟩:Zl) a.Zl) (qV (Zqo a.Zi a.Dependencies a.Inclusions) (λv6=>qb v6 r)) (qb false r)))))):=by
 and_intros
 all_goals(intros;unfold Im;(try simp only[Zqq,Zqp,Zwg,Z2y,Zwh,Zd1,Zf.c_def,Zqb,Zv1,Zqo,Zl.c_def,Zi.c_def,Zk.c_def,Zj.c_def,Zm1,mpl,dfs,qs]);(try simp only[itb]);(try simp only[itf,gS,kk]))
 all_goals(repeat' first|refine exI λ_=>?_|refine anJ λ_ _=>?_|refine anI λ_=>?_|refine orE2 ?_ ?_|exact False.elim)
 all_goals(intro h;first|rw[Zd Zbew.eq_1]|refine run Zciq rfl ?_|rw[Zd Zvz.eq_1]|refine run Zbyf rfl ?_|refine run Zcir rfl ?_)
 all_goals (refine Yf ?_ h;clear h;simp +decide[*,kk,tI,tII,Zbex,Zbug,Zv0,Zbed,Zbuh])
abbrev Zb1h:=uq Zyj.1.1
abbrev Zcpj:=uq Zyj.1.2
abbrev Zb1i:=uq Zyj.2.1
abbrev Zcpk:=uq Zyj.2.2.1
abbrev Zcpl:=uq Zyj.2.2.2
theorem Zdh:((((∀q cv i r,Im (Zqr q cv i=some r) (if i<(q.Atoms.length:Int)then qG q.Atoms i (λe1=>qB (Zip e1.Name) (qB (Z0 (e1.Vars.length:Int) 1 3) (Zwj q e1 cv i 0=some r) (qb false r)) (qb false r))else ¬q.Zp<0/\qb (decide (cv=(w ((shlI 1 q.Zp)-1)))) r))/\
 (∀q a cv i k r,Im (Zwj q a cv i k=some r) (if k<(a.Vars.length:Int)then qG a.Vars k (λe1=>qB (Z0 e1 0 (w (q.Zp-1))) (k.toNat<=a.Vars.length/\qB (Zer (a.Vars.take k.toNat) e1) (qb false r) (¬e1<0/\Zwj q a (orI cv (shlI 1 e1)) i (w (k+1))=some r)) (qb false r))else Zqr q cv (w (i+1))=some r)))/\
 ((∀a r,Im (Zm2 a=some r) (qB (Z0 a.Zp 1 4) (qB (Z0 (a.Atoms.length:Int) 1 4) (Zqr a 0 0=some r) (qb false r)) (qb false r)))/\
 (∀d q i r,Im (Zqs d q i=some r) (if i<(q.Atoms.length:Int)then qG q.Atoms i (λe1=>(∃v4 v5 v6,Zch d e1.Name=some (.tup [.agg [.t (.str v4),I v5,.t .nil],Bo v6],[])/\if v6=true then if v5=(e1.Vars.length:Int)then Zqs d q (w (i+1))=some r else qb false r else qb false r)\/(∃(v8:List (List Int)),∃v9,∃v10,Zch d e1.Name=some (.tup [.agg [.t (.str v9),I v10,.own 0],Bo true],[.arr 56 1 true (v8.map isc)])/\if v10=(e1.Vars.length:Int)then Zqs d q (w (i+1))=some r else qb false r))else qb true r))))/\
 (((∀a a1 r,Im (Z21 a a1=some r) (qB (Zm2 a1) (Zqs a a1 0=some r) (qb false r)))/\
 (∀a r,Im (Zfr a=some r) (qB (Zm2 a) (¬(a.Atoms.length:Int)<0/\qi (w ((shlI 1 (a.Atoms.length:Int))-1)) r) (qi 0 r))))/\
 ((∀a a1 a2 r,Im (Zct a a1 a2=some r) (qB (Zwh a) (qB (Z21 a.Zi a1) (qI (Zfr a1) (λv8=>qV (Z0 a2 1 v8) (λv11=>qb v11 r))) (qb false r)) (qb false r)))/\
 ((∀cy cz dc i r,Im (Zbe3 cy cz dc i=some r) (if i<0 then False else if dc=true then some (.own 0,[.arr 56 1 true (cy.map isc)])=some r else cz.length<=68719476736/\cy.length+1<=68719476736/\some (.own 0,[.arr 56 1 true ((cy++[cz]).map isc)])=some r))/\
 (∀a r,Im (Z22 a=some r) (Zbe3 ([]:List (List Int)) a false 0=some r))))))/\
 ((((∀cp co cl cc cu i r,Im (Zbe5 cp co cl cc cu i=some r) (if i<(cu.length:Int)then qG cu i (λe1=>qO 56 1 isc (Z22 e1) (λv4=>Zwk cp co cl cc v4 cu (w (i+1))=some r))else qB (Zmy cl cc) (some (.tup [.agg [.t (.str cl),I cc,.own 0],Bo true],[.arr 56 1 true (([]:List (List Int)).map isc)])=some r) (some (.tup [.agg [.t (.str (⟨#[]⟩:ByteArray)),I 0,.own 0],Bo false],[.arr 56 1 true (([]:List (List Int)).map isc)])=some r)))/\
 (∀cp co cl cc x cu i r,Im (Zwk cp co cl cc x cu i=some r) (if i<(cu.length:Int)then if(x.length:Int)<=8 then qG cu i (λe1=>qO 56 1 isc (Zp7 x e1) (λv4=>Zwk cp co cl cc v4 cu (w (i+1))=some r))else qB (Zhp (⟨cl,cc,x⟩:Ze)) (some (.tup [.agg [.t (.str cl),I cc,.own 0],Bo true],[.arr 56 1 true (x.map isc)])=some r) (some (.tup [.agg [.t (.str (⟨#[]⟩:ByteArray)),I 0,.own 0],Bo false],[.arr 56 1 true (([]:List (List Int)).map isc)])=some r)else qB (Zhp (⟨cl,cc,x⟩:Ze)) (some (.tup [.agg [.t (.str cl),I cc,.own 0],Bo true],[.arr 56 1 true (x.map isc)])=some r) (some (.tup [.agg [.t (.str (⟨#[]⟩:ByteArray)),I 0,.own 0],Bo false],[.arr 56 1 true (([]:List (List Int)).map isc)])=some r))))/\
 ((∀a a1 a2 r,Im (Z25 a a1 a2=some r) (Zbe5 (⟨#[]⟩:ByteArray) 0 a a1 a2 0=some r))/\
 (∀a r,Im (Z26 a=some r) (if(a.Groups.length:Int)=0 then some (.tup [.agg [.t (.str (⟨#[]⟩:ByteArray)),I 0,.own 0],Bo false],[.arr 56 1 true (([]:List (List Int)).map isc)])=some r else 0<=(w ((a.Groups.length:Int)-1))/\∃e1,a.Groups[(w ((a.Groups.length:Int)-1)).toNat]?=some e1/\∃(v4:List (List Int)),∃v5,∃v6,∃v7,Z25 a.Name a.Arity e1.Values=some (.tup [.agg [.t (.str v5),I v6,.own 0],Bo v7],[.arr 56 1 true (v4.map isc)])/\some (.tup [.agg [.t (.str v5),I v6,.own 0],Bo v7],[.arr 56 1 true (v4.map isc)])=some r))))/\
 (((∀a r,Im (Zit a=some r) (∃(v:List (List Int)),∃v1,∃v2,∃v3,Z26 a=some (.tup [.agg [.t (.str v1),I v2,.own 0],Bo v3],[.arr 56 1 true (v.map isc)])/\(if v3=true then(∃v4 v5 v6,Zhq (⟨v1,v2,v⟩:Ze)=some (.agg [.t (.str v4),I v5,I v6,.t .nil],[])/\qV (Zbuo v4 v5 v6 a) (λv8=>qb v8 r))\/(∃v11,∃(v12:List Zg),∃v13,∃v14,∃v15,Zhq (⟨v1,v2,v⟩:Ze)=some (.agg [.t (.str v13),I v14,I v15,.own 0],[.arr 200 3 v11 (v12.map Zg.c)])/\qV (Zqp (⟨v13,v14,v15,v12⟩:Zf) a) (λv16=>qb v16 r))else qb false r)))/\
 (∀s cp co cn cl cc cd i r,Im (Z28 s cp co cn cl cc cd i=some r) (if i<(s.Groups.length:Int)then qG s.Groups i (λe1=>e1.Columns.length<=68719476736/\e1.Counts.length<=68719476736/\Zbe6 s cp co cn cl cc cd e1.Columns e1.Counts i 0=some r)else some (.agg [.t (.str cl),I cc,I cd,.own 0],[.arr 200 3 true (([]:List Zg).map Zg.c)])=some r)))/\
 ((∀s cp co cn cl cc cd x x1 i k r,Im (Zbe6 s cp co cn cl cc cd x x1 i k=some r) (qG s.Groups i (λe1=>if k<(e1.Values.length:Int)then qG e1.Values k (λe2=>e2.length<=68719476736/\Zwl s cp co cn cl cc cd x ([e2]) x1 i (w (k+1))=some r)else Zhs s cp co cn cl cc cd ([(⟨x,[],x1⟩:Zg)]) (w (i+1))=some r)))/\
 ((∀s cp co cn cl cc cd x x1 x2 i k r,Im (Zwl s cp co cn cl cc cd x x1 x2 i k=some r) (qG s.Groups i (λe1=>if k<(e1.Values.length:Int)then qG e1.Values k (λe2=>e2.length<=68719476736/\x1.length+1<=68719476736/\Zwl s cp co cn cl cc cd x (x1++[e2]) x2 i (w (k+1))=some r)else Zhs s cp co cn cl cc cd ([(⟨x,x1,x2⟩:Zg)]) (w (i+1))=some r)))/\
 (∀s cp co cn cl cc cd x i r,Im (Zhs s cp co cn cl cc cd x i=some r) (if i<(s.Groups.length:Int)then qG s.Groups i (λe1=>e1.Columns.length<=68719476736/\e1.Counts.length<=68719476736/\Z29 s cp co cn cl cc cd x e1.Columns e1.Counts i 0=some r)else some (.agg [.t (.str cl),I cc,I cd,.own 0],[.arr 200 3 true (x.map Zg.c)])=some r)))))):=by
 and_intros
 all_goals(intros;unfold Im;(try simp only[Zqr,Zwj,Zm2,Zqs,Z21,Zfr,Zct,Zbe3,Z22,Zbe5,Zwk,Z25,Z26,Zit,Z28,Zbe6,Zwl,Zhs,Zip,Z0,Zer,Zch,Zi.c_def,Zc.c_def,Zwh,Zl.c_def,Zh.c_def,Zmy,Zp7,Zhp,Ze.c_def,Zhq,Zbuo,Zqp,Zf.c_def,Z29,mpl,dfs,qs]);(try simp only[itb]);(try simp only[itf,gS,kk]))
 all_goals(repeat' first|refine exI λ_=>?_|refine anJ λ_ _=>?_|refine anI λ_=>?_|refine orE2 ?_ ?_|exact False.elim)
 all_goals(intro h;first|rw[Zd Z2z.eq_1]|rw[Zd Zbey.eq_1]|refine run Zcis rfl ?_|rw[Zd Zbe1.eq_1]|refine run Zcit rfl ?_|refine run Zciu rfl ?_|refine run Zciv rfl ?_|rw[Zd Zvv.eq_1]|refine run Zbye rfl ?_|rw[Zd Z23.eq_1]|refine run Zciw rfl ?_|refine run Zcix rfl ?_|refine run Zciy rfl ?_|rw[Zd Zkn.eq_1]|rw[Zd Zm3.eq_1])
 all_goals (refine Yf ?_ h;clear h;simp +decide[*,kk,tI,tII,Z20,Zbez,Zbui,Zbe2,Zbuj,Zbuk,Zbul,Zbd1,Zvw,Zbd2,Z24,Zbum,Zbun,Zbup,Zko,Zm5,Zm4])
abbrev Zb1j:=uq Zdh.1.1.1.1
abbrev Zb1k:=uq Zdh.1.1.1.2
abbrev Zcpm:=uq Zdh.1.1.2.1
abbrev Zb1l:=uq Zdh.1.1.2.2
abbrev Zcpn:=uq Zdh.1.2.1.1
abbrev Zcpo:=uq Zdh.1.2.1.2
abbrev Zcpp:=uq Zdh.1.2.2.1
abbrev Zcpq:=uq Zdh.1.2.2.2.1
abbrev Zcpr:=uq Zdh.1.2.2.2.2
abbrev Zcps:=uq Zdh.2.1.1.1
abbrev Zb1m:=uq Zdh.2.1.1.2
abbrev Zcpt:=uq Zdh.2.1.2.1
abbrev Zcpu:=uq Zdh.2.1.2.2
abbrev Zcpv:=uq Zdh.2.2.1.1
abbrev Zcpw:=uq Zdh.2.2.1.2
abbrev Zcpx:=uq Zdh.2.2.2.1
abbrev Zb1n:=uq Zdh.2.2.2.2.1
abbrev Zb1o:=uq Zdh.2.2.2.2.2
theorem Zyk:((∀s co cl cc cp cn cd x x1 x2 i k r,Im (Z29 s co cl cc cp cn cd x x1 x2 i k=some r) (qG s.Groups i (λe1=>if k<(e1.Values.length:Int)then qG e1.Values k (λe2=>e2.length<=68719476736/\Zwm s co cl cc cp cn cd x x1 ([e2]) x2 i (w (k+1))=some r)else x.length+1<=68719476736/\Zhs s co cl cc cp cn cd (x++[(⟨x1,[],x2⟩:Zg)]) (w (i+1))=some r)))/\
 (∀s co cl cc cp cn cd x x1 x2 x3 i k r,Im (Zwm s co cl cc cp cn cd x x1 x2 x3 i k=some r) (qG s.Groups i (λe1=>if k<(e1.Values.length:Int)then qG e1.Values k (λe2=>e2.length<=68719476736/\x2.length+1<=68719476736/\Zwm s co cl cc cp cn cd x x1 (x2++[e2]) x3 i (w (k+1))=some r)else x.length+1<=68719476736/\Zhs s co cl cc cp cn cd (x++[(⟨x1,x2,x3⟩:Zg)]) (w (i+1))=some r))))/\
 ((∀a r,Im (Z27 a=some r) (Z28 a (⟨#[]⟩:ByteArray) 0 0 a.Name a.Arity a.RowCount 0=some r))/\
 ((∀c co cl cc cu i r,Im (Zqu c co cl cc cu i=some r) (if i<(c.Tables.length:Int)then qG c.Tables i (λe1=>if e1.Name=cu then qB (Zit e1) (∃(v:List Zg),∃v1,∃v2,∃v3,Z27 e1=some (.agg [.t (.str v1),I v2,I v3,.own 0],[.arr 200 3 true (v.map Zg.c)])/\some (.tup [.agg [.t (.str v1),I v2,I v3,.own 0],Bo true],[.arr 200 3 true (v.map Zg.c)])=some r) (Zqu c co cl cc cu (w (i+1))=some r)else Zqu c co cl cc cu (w (i+1))=some r)else some (.tup [.agg [.t (.str (⟨#[]⟩:ByteArray)),I 0,I 0,.own 0],Bo false],[.arr 200 3 true (([]:List Zg).map Zg.c)])=some r))/\
 (∀a a1 r,Im (Zwn a a1=some r) (Zqu a (⟨#[]⟩:ByteArray) 0 0 a1 0=some r)))):=by
 and_intros
 all_goals(intros;unfold Im;(try simp only[Z29,Zwm,Z27,Zqu,Zwn,Zit,Zf.c_def,Zhs,Z28,mpl,dfs,qs]);(try simp only[itb]);(try simp only[itf,gS,kk]))
 all_goals(repeat' first|refine exI λ_=>?_|refine anJ λ_ _=>?_|refine anI λ_=>?_|refine orE2 ?_ ?_|exact False.elim)
 all_goals(intro h;first|rw[Zd Zm3.eq_1]|refine run Zciz rfl ?_|rw[Zd Zbe8.eq_1]|refine run Zci0 rfl ?_)
 all_goals (refine Yf ?_ h;clear h;simp +decide[*,kk,tI,tII,Zm5,Zm4,Zbuq,Zbe9,Zbur])
abbrev Zcpy:=uq Zyk.1.1
abbrev Zb1p:=uq Zyk.1.2
abbrev Zcpz:=uq Zyk.2.1
abbrev Zcp0:=uq Zyk.2.2.1
abbrev Zcp1:=uq Zyk.2.2.2
end Go.Proofs.YtnnjbejcffjgfaaGreat
