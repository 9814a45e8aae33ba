/-
  Parts of the proofs for this seat: G11 G12 G13 G14 G15.
-/
import Derived.Test.YtnnjbejcffjgfaaGreatP11
import Derived.Test.YtnnjbejcffjgfaaGreatP12
set_option linter.unusedSimpArgs false
set_option linter.unusedVariables false
set_option maxRecDepth 100000
set_option maxHeartbeats 4000000
namespace Go.Proofs.YtnnjbejcffjgfaaGreat
open Go.AM
theorem Zuu{p:Program}{cd:Za}{d:Zl}{cc:Int}{r:AV×List Blk}(h:(∃(v:Int),Zr4 d=some (I v,[])/\(if 0<=v then(∃(v1:Int),Zr7 d v=some (I v1,[])/\(if v1<0 then(some (.tup [.agg [I 0,I 0,.own 0,.own 1],Bo false],[.arr 149 2 true (([]:List Za).map Za.c),.arr 149 2 true (([]:List Za).map Za.c)])=some r)else(if cc=299 then(some (.tup [.agg [I 0,I 0,.own 0,.own 1],Bo false],[.arr 149 2 true (([]:List Za).map Za.c),.arr 149 2 true (([]:List Za).map Za.c)])=some r)else((∃(v2:List Int) (v3:List Int) (v4:List (List Za)) (v5:List Za) (v6:List Za) (v7:Za) (v8:Bool),Zkt d v1 v=some (.tup [.agg [.own 0,.own 1,.own 2,.own 3,.own 4,I v7.Num,I v7.Den],Bo v8],[.arr 3 1 true (v2.map ic),.arr 3 1 true (v3.map ic),.arr 179 1 true (v4.map (lc 2 Za.c)),.arr 149 2 true (v5.map Za.c),.arr 149 2 true (v6.map Za.c)])/\(if v8=true then(Zfm p cd (⟨v2,v3,v4,v5,v6,v7⟩:Zl) (w (cc+1))=some r)else(some (.tup [.agg [I 0,I 0,.own 0,.own 1],Bo false],[.arr 149 2 true (([]:List Za).map Za.c),.arr 149 2 true (([]:List Za).map Za.c)])=some r)))\/(∃(v9:List Int) (v10:List Int) (v11:Bool) (v12:List (List Za)) (v13:List Za) (v14:List Za) (v15:Za),Zkt d v1 v=some (.tup [.agg [.own 0,.own 1,.own 2,.own 3,.own 4,I v15.Num,I v15.Den],Bo true],[.arr 3 1 true (v9.map ic),.arr 3 1 true (v10.map ic),.arr 179 1 v11 (v12.map (lc 2 Za.c)),.arr 149 2 true (v13.map Za.c),.arr 149 2 true (v14.map Za.c)])/\(Zfm p cd (⟨v9,v10,v12,v13,v14,v15⟩:Zl) (w (cc+1))=some r))))))else(0<=(p.Objective.length:Int)/\((p.Objective.length:Int)<=(p.Objective.length:Int)/\((p.Objective.length:Int).toNat*8<=room/\((p.Objective.length:Int)<=140737488355328/\(∃(v16:List Za),Zfl (List.replicate ((p.Objective.length:Int)).toNat 0)=some (.own 0,[.arr 149 2 true (v16.map Za.c)])/\(0<=(p.Rows.length:Int)/\((p.Rows.length:Int)<=(p.Rows.length:Int)/\((p.Rows.length:Int).toNat*8<=room/\((p.Rows.length:Int)<=140737488355328/\(∃(v17:List Za),Zfl (List.replicate ((p.Rows.length:Int)).toNat 0)=some (.own 0,[.arr 149 2 true (v17.map Za.c)])/\(Zkv cd d d.Value v16 v17 (p.Objective.length:Int) d.Basic (d.Basic.length:Int) 0=some r)))))))))))))):Zfm p cd d cc=some r:=by
 unfold Zfm;rw[Ze Z6g.eq_1];obtain⟨v,q1,h⟩:=h;unfold Zr4 at q1
 try simp at q1
 by_cases q2:0<=v
 .rw[if_pos q2]at h;obtain⟨v1,q3,h⟩:=h;unfold Zr7 at q3
  try simp at q3
  by_cases q4:v1<0
  .rw[if_pos q4]at h;refine Yf ?_ h;clear h;simp +decide[*,tI,tII]
  .rw[if_neg q4]at h;by_cases q5:cc=299
   .rw[if_pos q5]at h;replace q5:=eq_true q5;refine Yf ?_ h;clear h;simp +decide[*,tI,tII]
   .rw[if_neg q5]at h;replace q5:=eq_false q5;rcases h with h|h
    .obtain⟨v2,v3,v4,v5,v6,v7,v8,q6,h⟩:=h;unfold Zkt at q6
     try simp at q6
     by_cases q7:v8=true
     .rw[if_pos q7]at h;refine Yf ?_ h;clear h;simp +decide[*,tI,tII,Zfm]
     .rw[if_neg q7]at h;refine Yf ?_ h;clear h;simp +decide[*,tI,tII]
    .obtain⟨v9,v10,v11,v12,v13,v14,v15,q8,h⟩:=h;unfold Zkt at q8
     try simp at q8
     refine Yf ?_ h;clear h;simp +decide[*,tI,tII,Zfm]
 .rw[if_neg q2]at h;obtain⟨q9,h⟩:=h;have zq9:=q9;try simp at zq9
  obtain⟨q10,h⟩:=h;have zq10:=q10;try simp at zq10
  obtain⟨q11,h⟩:=h;have zq11:=q11;try simp at zq11
  obtain⟨q12,h⟩:=h;have zq12:=q12;try simp at zq12
  obtain⟨v16,q13,h⟩:=h;unfold Zfl at q13
  try simp at q13
  obtain⟨q14,h⟩:=h;have zq14:=q14;try simp at zq14
  obtain⟨q15,h⟩:=h;have zq15:=q15;try simp at zq15
  obtain⟨q16,h⟩:=h;have zq16:=q16;try simp at zq16
  obtain⟨q17,h⟩:=h;have zq17:=q17;try simp at zq17
  obtain⟨v17,q18,h⟩:=h;unfold Zfl at q18
  try simp at q18
  refine Yf ?_ h;clear h;simp +decide[*,tI,tII,Zkv,Z6l]
theorem Zc2:((((∀⦃cd d cc x x1 n x2 x3 x4 r⦄,Im (Zkv cd d cc x x1 n x2 x3 x4=some r) (if x4<x3 then(0<=x4/\(∃e1,x2[x4.toNat]?=some e1/\(if e1<n then(∃e2,d.Limits[x4.toNat]?=some e2/\(0<=e1/\(∃e3,x[e1.toNat]?=some e3/\(Zkv cd d cc (x.set e1.toNat e2) x1 n x2 x3 (w (x4+1))=some r))))else(Zkv cd d cc x x1 n x2 x3 (w (x4+1))=some r))))else(Zno cd d cc x x1 n d.Free (d.Free.length:Int) 0=some r)))/\
 (∀⦃cd d cc x x1 n x2 x3 x4 r⦄,Im (Zno cd d cc x x1 n x2 x3 x4=some r) (if x4<x3 then(0<=x4/\(∃e1,x2[x4.toNat]?=some e1/\(if n<=e1 then(∃e2,d.Costs[x4.toNat]?=some e2/\(∃(v11:Za),Zez e2=some (.agg (v11.c.map .t),[])/\(0<=(w (e1-n))/\(∃e4,x1[(w (e1-n)).toNat]?=some e4/\(Zno cd d cc x (x1.set ((w (e1-n)).toNat) v11) n x2 x3 (w (x4+1))=some r)))))else(Zno cd d cc x x1 n x2 x3 (w (x4+1))=some r))))else(some (.tup [.agg [I cc.Num,I cc.Den,.own 0,.own 1],Bo true],[.arr 149 2 true (x.map Za.c),.arr 149 2 true (x1.map Za.c)])=some r))))/\
 ((∀⦃a r⦄,Im (Zsd a=some r) (∃(v:List Int),∃(v1:List Int),∃(v2:List (List Za)),∃(v3:List Za),∃(v4:List Za),∃(v5:Za),∃v6,Zr1 a=some (.tup [.agg [.own 0,.own 1,.own 2,.own 3,.own 4,I v5.Num,I v5.Den],Bo v6],[.arr 3 1 true (v.map ic),.arr 3 1 true (v1.map ic),.arr 179 1 true (v2.map (lc 2 Za.c)),.arr 149 2 true (v3.map Za.c),.arr 149 2 true (v4.map Za.c)])/\(if v6=true then(Zfm a (⟨0,0⟩:Za) (⟨v,v1,v2,v3,v4,v5⟩:Zl) 0=some r)else(some (.tup [.agg [I 0,I 0,.own 0,.own 1],Bo false],[.arr 149 2 true (([]:List Za).map Za.c),.arr 149 2 true (([]:List Za).map Za.c)])=some r))))/\
 (∀⦃a a1 a2 r⦄,Im (Zxy a a1 a2=some r) (∃(v:List Int),∃(v1:List (List Int)),∃(v2:List Int),∃(v3:List Zk),∃v4,Zxq a a1 a2=some (.tup [.agg [.own 0,.own 1,.own 2],.own 3,Bo v4],[.arr 3 1 true (v.map ic),.arr 56 1 true (v1.map isc),.arr 3 1 true (v2.map ic),.arr 251 3 true (v3.map Zk.c)])/\(if v4=true then(∃(v7:List Za),∃(v8:List Za),∃(v9:Za),∃v10,Zsd (⟨v,v1,v2⟩:Program)=some (.tup [.agg [I v9.Num,I v9.Den,.own 0,.own 1],Bo v10],[.arr 149 2 true (v7.map Za.c),.arr 149 2 true (v8.map Za.c)])/\(some (.tup [.agg [I v9.Num,I v9.Den,.own 0,.own 1],Bo v10],[.arr 149 2 true (v7.map Za.c),.arr 149 2 true (v8.map Za.c)])=some r))else(some (.tup [.agg [I 0,I 0,.own 0,.own 1],Bo false],[.arr 149 2 true (([]:List Za).map Za.c),.arr 149 2 true (([]:List Za).map Za.c)])=some r))))))/\
 (((∀⦃a a1 a2 r⦄,Im (Zxz a a1 a2=some r) (∃(v:List Za),∃(v1:List Za),∃(v2:Za),∃v3,Zxy a a1 a2=some (.tup [.agg [I v2.Num,I v2.Den,.own 0,.own 1],Bo v3],[.arr 149 2 true (v.map Za.c),.arr 149 2 true (v1.map Za.c)])/\(some (.tup [.agg (v2.c.map .t),Bo v3],[])=some r)))/\
 (∀⦃a r⦄,Im (Zx0 a=some r) (∃v,Zcd a=some (Bo v,[])/\(if v=true then(¬a.Den=0/\(if(w ((w (Int.tdiv a.Num a.Den))*a.Den))<a.Num then(some (I (w ((w (Int.tdiv a.Num a.Den))+1)),[])=some r)else(some (I (w (Int.tdiv a.Num a.Den)),[])=some r)))else(some (I 0,[])=some r)))))/\
 ((∀⦃k cv cp p r⦄,Im (Zse k cv cp p=some r) (if 0<cv then(¬cp<0/\(if(shlI 1 cp)<(w (p*k))then(some (Bo false,[])=some r)else(Zse k (w (cv-1)) cp (w (p*k))=some r)))else(some (Bo true,[])=some r)))/\
 ((∀⦃a a1 a2 r⦄,Im (Zx1 a a1 a2=some r) (Zse a a1 a2 1=some r))/\
 (∀⦃cu k r⦄,Im (Zsf cu k=some r) (if k<4096 then(∃v,Zx1 (w (k+1)) cu.Den cu.Num=some (Bo v,[])/\(if v=true then(Zsf cu (w (k+1))=some r)else(some (I k,[])=some r)))else(some (I k,[])=some r)))))))/\
 ((((∀⦃a r⦄,Im (Zx2 a=some r) (∃v,Zcd a=some (Bo v,[])/\(if v=true then(if a.Num<0 then(some (I (-1),[])=some r)else(if 40<a.Num then(∃v7,Zx0 a=some (I v7,[])/\(if 12<=v7 then(some (I 4096,[])=some r)else(¬v7<0/\(some (I (shlI 1 v7),[])=some r))))else(if a.Num<a.Den then(some (I 1,[])=some r)else(Zsf a 1=some r))))else(some (I (-1),[])=some r))))/\
 (∀⦃a a1 a2 r⦄,Im (Zsg a a1 a2=some r) (∃v,Zfj a a1 a2=some (Bo v,[])/\(if v=true then(∃v7,Zrj a a1 a2=some (Bo v7,[])/\(if v7=true then(some (I 0,[])=some r)else(∃(v11:Za),∃v12,Zxz a a1 a2=some (.tup [.agg (v11.c.map .t),Bo v12],[])/\(if v12=true then(∃v13,Zx2 v11=some (I v13,[])/\(some (I v13,[])=some r))else(some (I 4096,[])=some r)))))else(some (I (-1),[])=some r)))))/\
 ((∀⦃a a1 a2 r⦄,Im (Zx3 a a1 a2=some r) (∃v,Zq9 a a1 a2=some (I v,[])/\(∃v7,Zrd a a1 a2=some (I v7,[])/\((Zdd a2=some (.t .nil,[])/\(some (.own 0,[.arr 3 1 true (([(-1),v,v7,(-1),(-1)]).map ic)])=some r))\/(∃(v13:List Int),Zdd a2=some (.own 0,[.arr 3 1 true (v13.map ic)])/\(if(v13.length:Int)=2 then(∃e5,v13[0]?=some e5/\(∃e6,v13[1]?=some e6/\(∃v14,Zri a a1 e5 e6=some (I v14,[])/\(∃e8,([(-1),v,v7,(-1),(-1)])[3]?=some e8/\(if 1<(v13.length:Int)then(∃v15,Zsg a a1 a2=some (I v15,[])/\(∃e10,(([(-1),v,v7,(-1),(-1)]).set 3 v14)[4]?=some e10/\(some (.own 0,[.arr 3 1 true (((([(-1),v,v7,(-1),(-1)]).set 3 v14).set 4 v15).map ic)])=some r)))else(some (.own 0,[.arr 3 1 true ((([(-1),v,v7,(-1),(-1)]).set 3 v14).map ic)])=some r))))))else(if 1<(v13.length:Int)then(∃v16,Zsg a a1 a2=some (I v16,[])/\(∃e12,([(-1),v,v7,(-1),(-1)])[4]?=some e12/\(some (.own 0,[.arr 3 1 true ((([(-1),v,v7,(-1),(-1)]).set 4 v16).map ic)])=some r)))else(some (.own 0,[.arr 3 1 true (([(-1),v,v7,(-1),(-1)]).map ic)])=some r))))))))/\
 (∀⦃x cl cn x1 x2 r⦄,Im (Zi3 x cl cn x1 x2=some r) (if x2<x1 then(0<=x2/\(∃e1,x[x2.toNat]?=some e1/\(if 0<=e1 then(if cn=0 then(Zi3 x e1 x2 x1 (w (x2+1))=some r)else(if e1<cl then(Zi3 x e1 x2 x1 (w (x2+1))=some r)else(Zi3 x cl cn x1 (w (x2+1))=some r)))else(Zi3 x cl cn x1 (w (x2+1))=some r))))else(some (.tup [I cl,I cn],[])=some r)))))/\
 (((∀⦃a a1 a2 r⦄,Im (Zx4 a a1 a2=some r) (∃(v:List Int),Zx3 a a1 a2=some (.own 0,[.arr 3 1 true (v.map ic)])/\(Zi3 v (-1) 0 (v.length:Int) 0=some r)))/\
 (∀⦃a a1 a2 r⦄,Im (Zx5 a a1 a2=some r) (∃v,Zfj a a1 a2=some (Bo v,[])/\(if v=true then(∃v7 v8,Zx4 a a1 a2=some (.tup [I v7,I v8],[])/\(some (I v7,[])=some r))else(some (I (-1),[])=some r)))))/\
 ((∀⦃a r⦄,Im (Zhk a=some r) (if(a.size:Int)=1 then(∃b1,a[0]?=some b1/\(if 97<=(b1.toNat:Int)then(some (Bo (decide ((b1.toNat:Int)<=122)),[])=some r)else(some (Bo false,[])=some r)))else(some (Bo false,[])=some r)))/\
 ((∀⦃a a1 a2 r⦄,Im (Zv a a1 a2=some r) (if a1<=a then(some (Bo (decide (a<=a2)),[])=some r)else(some (Bo false,[])=some r)))/\
 (∀⦃co n i r⦄,Im (Znp co n i=some r) (if i<(co.length:Int)then(0<=i/\(∃e1,co[i.toNat]?=some e1/\(∃v7,Zv e1 0 9=some (Bo v7,[])/\(if v7=true then(Znp co n (w (i+1))=some r)else(some (Bo false,[])=some r)))))else(some (Bo (decide ((co.length:Int)=n)),[])=some r))))))):=by
 and_intros
 all_goals intros
 all_goals unfold Im
 all_goals try simp only[Zkv,Zno,Zsd,Zxy,Zxz,Zx0,Zse,Zx1,Zsf,Zx2,Zsg,Zx3,Zi3,Zx4,Zx5,Zhk,Zv,Znp,Zez,Za.c_def,Zr1,Program.c_def,Zxq,Zn.c_def,Zh.c_def,Zg.c_def,Zj.c_def,Zcd,Zfj,Zrj,Zq9,Zrd,Zdd,Zri,Zfm,mpl,dfs]
 all_goals try simp only[itb]
 all_goals try simp only[itf,gS,kk]
 all_goals repeat' first|refine exI λ_=>?_|refine anJ λ_ _=>?_|refine anI λ_=>?_|refine orE2 ?_ ?_|exact False.elim
 all_goals (intro h;first|rw[Ze Z6h.eq_1]|rw[Ze Z6i.eq_1]|refine run Zb5b rfl ?_|refine run Zb5c rfl ?_|refine run Zb5d rfl ?_|refine run Zb5e rfl ?_|rw[Ze Z6m.eq_1]|refine run Zb5f rfl ?_|rw[Ze Z6o.eq_1]|refine run Zb5g rfl ?_|refine run Zb5h rfl ?_|refine run Zb5i rfl ?_|rw[Ze Z6q.eq_1]|refine run Zb5j rfl ?_|refine run Zb5k rfl ?_|refine run Zb5l rfl ?_|refine run Zb5m rfl ?_|rw[Ze Z6s.eq_1])
 all_goals (refine Yf ?_ h;clear h;simp +decide[*,kk,tI,tII,Zbju,Z6k,Zbjv,Z6j,Zbjw,Zbjx,Zbjy,Zbj0,Zbjz,Z6n,Zbj1,Z6p,Zbj2,Zbj3,Zbj6,Zbj4,Zbj5,Zbj7,Z6r,Zbj8,Zbj9,Zbka,Zbkb,Z6t])
abbrev Zbaq:=Zc2.1.1.1.1
abbrev Zbar:=Zc2.1.1.1.2
abbrev Zbpw:=Zc2.1.1.2.1
abbrev Zbas:=Zc2.1.1.2.2
abbrev Zca3:=Zc2.1.2.1.1
abbrev Zca4:=Zc2.1.2.1.2
abbrev Zbpx:=Zc2.1.2.2.1
abbrev Zca5:=Zc2.1.2.2.2.1
abbrev Zbpy:=Zc2.1.2.2.2.2
abbrev Zca6:=Zc2.2.1.1.1
abbrev Zca7:=Zc2.2.1.1.2
abbrev Zca8:=Zc2.2.1.2.1
abbrev Zbpz:=Zc2.2.1.2.2
abbrev Zca9:=Zc2.2.2.1.1
abbrev Zcba:=Zc2.2.2.1.2
abbrev Zcbb:=Zc2.2.2.2.1
abbrev Zcbc:=Zc2.2.2.2.2.1
abbrev Zbp0:=Zc2.2.2.2.2.2
theorem Zz1:((∀⦃a a1 r⦄,Im (Zsh a a1=some r) (Znp a a1 0=some r))/\
 (∀⦃a b i r⦄,Im (Zsi a b i=some r) (if i<(a.length:Int)then(if i<(b.length:Int)then(0<=i/\(∃e1,a[i.toNat]?=some e1/\(∃e2,b[i.toNat]?=some e2/\(if e1<e2 then(some (I (-1),[])=some r)else(if e2<e1 then(some (I 1,[])=some r)else(Zsi a b (w (i+1))=some r))))))else(Zsj a b i false=some r))else(Zsj a b i false=some r))))/\
 ((∀⦃a b i x r⦄,Im (Zsj a b i x=some r) (if(a.length:Int)<(b.length:Int)then(some (I (-1),[])=some r)else(if(b.length:Int)<(a.length:Int)then(some (I 1,[])=some r)else(some (I 0,[])=some r))))/\
 (∀⦃a a1 r⦄,Im (Zdn a a1=some r) (Zsi a a1 0=some r))):=by
 and_intros
 all_goals intros
 all_goals unfold Im
 all_goals try simp only[Zsh,Zsi,Zdn,Znp,Zsj,mpl,dfs]
 all_goals try simp only[itb]
 all_goals try simp only[itf,gS,kk]
 all_goals repeat' first|refine exI λ_=>?_|refine anJ λ_ _=>?_|refine anI λ_=>?_|refine orE2 ?_ ?_|exact False.elim
 all_goals (intro h;first|refine run Zb5n rfl ?_|rw[Ze Z6u.eq_1]|rw[Ev_eq Zx6.eq_1]|refine run Zb5o rfl ?_)
 all_goals (refine Yf ?_ h;clear h;simp +decide[*,kk,tI,tII,Zbkc,Zbkd])
abbrev Zcbd:=Zz1.1.1
abbrev Zbp1:=Zz1.1.2
abbrev Zcbe:=Zz1.2.1
abbrev Zcbf:=Zz1.2.2
theorem Zc3:((((∀⦃t i r⦄,Im (Znq t i=some r) (if i<(t.Rows.length:Int)then(0<=i/\(∃e1,t.Rows[i.toNat]?=some e1/\(∃v2,Zsh e1 t.Arity=some (Bo v2,[])/\(if v2=true then(if 0<i then(0<=(w (i-1))/\(∃e3,t.Rows[(w (i-1)).toNat]?=some e3/\(∃v5,Zdn e3 e1=some (I v5,[])/\(if 0<=v5 then(some (Bo false,[])=some r)else(Znq t (w (i+1))=some r)))))else(Znq t (w (i+1))=some r))else(some (Bo false,[])=some r)))))else(some (Bo true,[])=some r)))/\
 (∀⦃a r⦄,Im (Zgs a=some r) (∃v1,Zhk a.Name=some (Bo v1,[])/\(if v1=true then(∃v2,Zv a.Arity 1 3=some (Bo v2,[])/\(if v2=true then(if 8<(a.Rows.length:Int)then(some (Bo false,[])=some r)else(Znq a 0=some r))else(some (Bo false,[])=some r)))else(some (Bo false,[])=some r)))))/\
 ((∀⦃d i r⦄,Im (Znr d i=some r) (if i<(d.Tables.length:Int)then(0<=i/\(∃e1,d.Tables[i.toNat]?=some e1/\(∃v2,Zgs e1=some (Bo v2,[])/\(if v2=true then(if 0<i then(0<=(w (i-1))/\(∃e3,d.Tables[(w (i-1)).toNat]?=some e3/\(if(Op.bytesLess e3.Name.toList e1.Name.toList)=true then(Znr d (w (i+1))=some r)else(some (Bo false,[])=some r))))else(Znr d (w (i+1))=some r))else(some (Bo false,[])=some r)))))else(some (Bo (decide ((d.Tables.length:Int)<=6)),[])=some r)))/\
 (∀⦃a r⦄,Im (Zkw a=some r) (Znr a 0=some r))))/\
 (((∀⦃cc m v r⦄,Im (Zkx cc m v=some r) (if v<3 then(¬v<0/\(if(andI (shrI m v) 1)=1 then(cc.length+1<=68719476736/\(Zkx (cc++[v]) m (w (v+1))=some r))else(Zkx cc m (w (v+1))=some r)))else(some (.own 0,[.arr 3 1 true (cc.map ic)])=some r)))/\
 (∀⦃a r⦄,Im (Zd5 a=some r) (Zkx ([]:List Int) a 0=some r)))/\
 ((∀⦃cc n m r⦄,Im (Zky cc n m=some r) (∃v1,Zv n 1 3=some (Bo v1,[])/\(if v1=true then(¬n<0/\(if m<(shlI 1 n)then(∃(v2:List Int),Zd5 m=some (.own 0,[.arr 3 1 true (v2.map ic)])/\(cc.length+1<=68719476736/\(Zky (cc++[v2]) n (w (m+1))=some r)))else(some (.own 0,[.arr 56 1 true (cc.map isc)])=some r)))else(some (.own 0,[.arr 56 1 true (cc.map isc)])=some r))))/\
 ((∀⦃a r⦄,Im (Zsm a=some r) (Zky ([]:List (List Int)) a 1=some r))/\
 (∀⦃t c i r⦄,Im (Znt t c i=some r) (if i<(c.length:Int)then(0<=i/\(∃e1,c[i.toNat]?=some e1/\(∃v2,Zv e1 0 (w (t.Arity-1))=some (Bo v2,[])/\(if v2=true then(if 0<i then(0<=(w (i-1))/\(∃e3,c[(w (i-1)).toNat]?=some e3/\(if e1<=e3 then(some (Bo false,[])=some r)else(Znt t c (w (i+1))=some r))))else(Znt t c (w (i+1))=some r))else(some (Bo false,[])=some r)))))else(∃v5,Zgs t=some (Bo v5,[])/\(some (Bo v5,[])=some r))))))))/\
 ((((∀⦃a a1 r⦄,Im (Zns a a1=some r) (Znt a a1 0=some r))/\
 (∀⦃cc cn c i r⦄,Im (Zsp cc cn c i=some r) (if i<(c.length:Int)then(0<=i/\(∃e1,c[i.toNat]?=some e1/\(∃v2,Zv e1 0 (w ((cn.length:Int)-1))=some (Bo v2,[])/\(if v2=true then(0<=e1/\(∃e3,cn[e1.toNat]?=some e3/\(cc.length+1<=68719476736/\(Zsp (cc++[e3]) cn c (w (i+1))=some r))))else(some (.tup [.own 0,Bo false],[.arr 3 1 true (([]:List Int).map ic)])=some r)))))else(some (.tup [.own 0,Bo true],[.arr 3 1 true (cc.map ic)])=some r))))/\
 ((∀⦃a a1 r⦄,Im (Zi4 a a1=some r) (Zsp ([]:List Int) a a1 0=some r))/\
 (∀⦃cc co cn cp i r⦄,Im (Zhl cc co cn cp i=some r) (if i<(co.length:Int)then(0<=i/\(∃e1,co[i.toNat]?=some e1/\(∃v2,Zdn e1 cn=some (I v2,[])/\(if v2=0 then(if 0<v2 then(e1.length<=68719476736/\(cc.length+1<=68719476736/\(Zhl (cc++[e1]) co cn true (w (i+1))=some r)))else(e1.length<=68719476736/\(cc.length+1<=68719476736/\(Zhl (cc++[e1]) co cn true (w (i+1))=some r))))else(if 0<v2 then(if cp=true then(e1.length<=68719476736/\(cc.length+1<=68719476736/\(Zhl (cc++[e1]) co cn true (w (i+1))=some r)))else(cn.length<=68719476736/\(cc.length+1<=68719476736/\(e1.length<=68719476736/\(cc.length+1+1<=68719476736/\(Zhl ((cc++[cn])++[e1]) co cn true (w (i+1))=some r))))))else(e1.length<=68719476736/\(cc.length+1<=68719476736/\(Zhl (cc++[e1]) co cn cp (w (i+1))=some r))))))))else(if cp=true then(some (.own 0,[.arr 56 1 true (cc.map isc)])=some r)else(cn.length<=68719476736/\(cc.length+1<=68719476736/\(some (.own 0,[.arr 56 1 true ((cc++[cn]).map isc)])=some r))))))))/\
 (((∀⦃a a1 r⦄,Im (Znu a a1=some r) (Zhl ([]:List (List Int)) a a1 false 0=some r))/\
 (∀⦃t cd cl c i r⦄,Im (Zss t cd cl c i=some r) (if i<(t.Rows.length:Int)then(0<=i/\(∃e1,t.Rows[i.toNat]?=some e1/\(∃(v2:List Int),∃v3,Zi4 e1 c=some (.tup [.own 0,Bo v3],[.arr 3 1 true (v2.map ic)])/\(∃(v4:List (List Int)),Znu cd v2=some (.own 0,[.arr 56 1 true (v4.map isc)])/\(Zss t v4 cl c (w (i+1))=some r)))))else(Znw t cd cl c 0=some r))))/\
 ((∀⦃t cd cl c k r⦄,Im (Znw t cd cl c k=some r) (if k<(cd.length:Int)then(Znx t cd cl c k 0 0=some r)else(some (.tup [.own 0,.own 1],[.arr 56 1 true (cd.map isc),.arr 3 1 true (cl.map ic)])=some r)))/\
 ((∀⦃t cd cl c k n i r⦄,Im (Znx t cd cl c k n i=some r) (if i<(t.Rows.length:Int)then(0<=i/\(∃e1,t.Rows[i.toNat]?=some e1/\(∃(v2:List Int),∃v3,Zi4 e1 c=some (.tup [.own 0,Bo v3],[.arr 3 1 true (v2.map ic)])/\(0<=k/\(∃e3,cd[k.toNat]?=some e3/\(∃v5,Zdn v2 e3=some (I v5,[])/\(if v5=0 then(Znx t cd cl c k (w (n+1)) (w (i+1))=some r)else(Znx t cd cl c k n (w (i+1))=some r))))))))else(cl.length+1<=68719476736/\(Znw t cd (cl++[n]) c (w (k+1))=some r))))/\
 (∀⦃a a1 r⦄,Im (Znv a a1=some r) (∃v1,Zns a a1=some (Bo v1,[])/\(if v1=true then(Zss a ([]:List (List Int)) ([]:List Int) a1 0=some r)else(some (.tup [.own 0,.own 1],[.arr 56 1 true (([]:List (List Int)).map isc),.arr 3 1 true (([]:List Int).map ic)])=some r)))))))):=by
 and_intros
 all_goals intros
 all_goals unfold Im
 all_goals try simp only[Znq,Zgs,Znr,Zkw,Zkx,Zd5,Zky,Zsm,Znt,Zns,Zsp,Zi4,Zhl,Znu,Zss,Znw,Znx,Znv,Zsh,Zdn,Zhk,Zv,Zc.c_def,mpl,dfs]
 all_goals try simp only[itb]
 all_goals try simp only[itf,gS,kk]
 all_goals repeat' first|refine exI λ_=>?_|refine anJ λ_ _=>?_|refine anI λ_=>?_|refine orE2 ?_ ?_|exact False.elim
 all_goals (intro h;first|rw[Ze Zsk.eq_1]|refine run Zbns rfl ?_|rw[Ze Z6w.eq_1]|refine run Zb5p rfl ?_|rw[Ze Z6y.eq_1]|refine run Zb5q rfl ?_|rw[Ze Z60.eq_1]|refine run Zb5r rfl ?_|rw[Ze Zsn.eq_1]|refine run Zbnt rfl ?_|rw[Ze Z63.eq_1]|refine run Zb5s rfl ?_|rw[Ze Zsq.eq_1]|refine run Zbnu rfl ?_|rw[Ze Z67.eq_1]|rw[Ze Zx7.eq_1]|rw[Ze Z68.eq_1]|refine run Zb5t rfl ?_)
 all_goals (refine Yf ?_ h;clear h;simp +decide[*,kk,tI,tII,Zsl,Z6v,Z6x,Zbke,Zbkf,Z6z,Zbkg,Z61,Zbkh,Zso,Z62,Z64,Zbki,Zbkj,Zbkk,Z65,Zsr,Z66,Z7b,Zx8,Zbkl,Z7a,Z69,Zbkm])
abbrev Zbp2:=Zc3.1.1.1.1
abbrev Zcbg:=Zc3.1.1.1.2
abbrev Zbp3:=Zc3.1.1.2.1
abbrev Zcbh:=Zc3.1.1.2.2
abbrev Zhw:=Zc3.1.2.1.1
abbrev Zbp4:=Zc3.1.2.1.2
abbrev Zbp5:=Zc3.1.2.2.1
abbrev Zcbi:=Zc3.1.2.2.2.1
abbrev Zbp6:=Zc3.1.2.2.2.2
abbrev Zcbj:=Zc3.2.1.1.1
abbrev Zbp7:=Zc3.2.1.1.2
abbrev Zcbk:=Zc3.2.1.2.1
abbrev Zbp8:=Zc3.2.1.2.2
abbrev Zcbl:=Zc3.2.2.1.1
abbrev Zbp9:=Zc3.2.2.1.2
abbrev Zbqa:=Zc3.2.2.2.1
abbrev Zbqb:=Zc3.2.2.2.2.1
abbrev Zcbm:=Zc3.2.2.2.2.2
theorem Zjk:(((∀⦃t cv cu co cp cn cl l i r⦄,Im (Z7c t cv cu co cp cn cl l i=some r) (if i<(l.length:Int)then(0<=i/\(∃e1,l[i.toNat]?=some e1/\(∃(v1:List (List Int)) (v2:List Int),Znv t e1=some (.tup [.own 0,.own 1],[.arr 56 1 true (v1.map isc),.arr 3 1 true (v2.map ic)])/\(Zst t cv cu co cp cn cl false ([(⟨e1,v1,v2⟩:Zf)]) l (w (i+1))=some r))))else(some (.agg [.t (.str cp),I cn,I cl,.t .nil],[])=some r)))/\
 (∀⦃t cv cu co cp cn cl fr x l i r⦄,Im (Zst t cv cu co cp cn cl fr x l i=some r) (if i<(l.length:Int)then(0<=i/\(∃e1,l[i.toNat]?=some e1/\(∃(v1:List (List Int)) (v2:List Int),Znv t e1=some (.tup [.own 0,.own 1],[.arr 56 1 true (v1.map isc),.arr 3 1 true (v2.map ic)])/\(x.length+1<=68719476736/\(Zst t cv cu co cp cn cl false (x++[(⟨e1,v1,v2⟩:Zf)]) l (w (i+1))=some r)))))else(some (.agg [.t (.str cp),I cn,I cl,.own 0],[.arr 200 3 fr (x.map Zf.c)])=some r))))/\
 ((∀⦃a r⦄,Im (Zgt a=some r) (∃v,Zgs a=some (Bo v,[])/\(if v=true then(∃(v1:List (List Int)),Zsm a.Arity=some (.own 0,[.arr 56 1 true (v1.map isc)])/\(Z7c a (⟨#[]⟩:ByteArray) 0 0 a.Name a.Arity (a.Rows.length:Int) v1 0=some r))else(some (.agg [.t (.str (⟨#[]⟩:ByteArray)),I 0,I 0,.t .nil],[])=some r))))/\
 (∀⦃d cc cd i r⦄,Im (Z7d d cc cd i=some r) (if i<(d.Tables.length:Int)then(0<=i/\(∃e1,d.Tables[i.toNat]?=some e1/\((∃v1 v2 v3,Zgt e1=some (.agg [.t (.str v1),I v2,I v3,.t .nil],[])/\(Zkz d cc cd true ([(⟨v1,v2,v3,[]⟩:Zd)]) (w (i+1))=some r))\/(∃v4,∃(v5:List Zf),∃v6,∃v7,∃v8,Zgt e1=some (.agg [.t (.str v6),I v7,I v8,.own 0],[.arr 200 3 v4 (v5.map Zf.c)])/\(Zkz d cc cd v4 ([(⟨v6,v7,v8,v5⟩:Zd)]) (w (i+1))=some r)))))else(some (.tup [.agg [I cd,.t .nil],Bo true],[])=some r)))))/\
 (((∀⦃d cc cd fr x i r⦄,Im (Zkz d cc cd fr x i=some r) (if i<(d.Tables.length:Int)then(0<=i/\(∃e1,d.Tables[i.toNat]?=some e1/\((∃v1 v2 v3,Zgt e1=some (.agg [.t (.str v1),I v2,I v3,.t .nil],[])/\(x.length+1<=68719476736/\(Zkz d cc cd fr (x++[(⟨v1,v2,v3,[]⟩:Zd)]) (w (i+1))=some r)))\/(∃v4,∃(v5:List Zf),∃v6,∃v7,∃v8,Zgt e1=some (.agg [.t (.str v6),I v7,I v8,.own 0],[.arr 200 3 v4 (v5.map Zf.c)])/\(x.length+1<=68719476736/\(Zkz d cc cd (fr && v4) (x++[(⟨v6,v7,v8,v5⟩:Zd)]) (w (i+1))=some r))))))else(some (.tup [.agg [I cd,.own 0],Bo true],[.arr 141 4 fr (x.map Zd.c)])=some r)))/\
 (∀⦃a a1 r⦄,Im (Zny a a1=some r) (∃v,Zkw a=some (Bo v,[])/\(if v=true then(∃v1,Zv a1 1 999=some (Bo v1,[])/\(if v1=true then(Z7d a 0 a1 0=some r)else(some (.tup [.agg [I 0,.t .nil],Bo false],[])=some r)))else(some (.tup [.agg [I 0,.t .nil],Bo false],[])=some r)))))/\
 ((∀⦃cc b i r⦄,Im (Z7f cc b i=some r) (if i<0 then False else(some (Bo true,[])=some r)))/\
 (∀⦃cc a r⦄,Im (Zsw cc a=some r) (if cc=a.Version then(if 0=(a.Tables.length:Int)then(Z7f cc a 0=some r)else(some (Bo false,[])=some r))else(some (Bo false,[])=some r))))):=by
 and_intros
 all_goals intros
 all_goals unfold Im
 all_goals try simp only[Z7c,Zst,Zgt,Z7d,Zkz,Zny,Z7f,Zsw,Znv,Zc.c_def,Zgs,Zsm,Zkw,Zv,Zh.c_def,mpl,dfs]
 all_goals try simp only[itb]
 all_goals try simp only[itf,gS,kk]
 all_goals repeat' first|refine exI λ_=>?_|refine anJ λ_ _=>?_|refine anI λ_=>?_|refine orE2 ?_ ?_|exact False.elim
 all_goals (intro h;first|rw[Ze Zx9.eq_1]|refine run Zb5u rfl ?_|rw[Ze Zyb.eq_1]|refine run Zb5v rfl ?_|rw[Ze Zsu.eq_1]|refine run Zbnv rfl ?_)
 all_goals (refine Yf ?_ h;clear h;simp +decide[*,kk,tI,tII,Zya,Zbkn,Zyc,Zbko,Zsv,Z7e])
abbrev Zcbn:=Zjk.1.1.1
abbrev Zbqc:=Zjk.1.1.2
abbrev Zcbo:=Zjk.1.2.1
abbrev Zcbp:=Zjk.1.2.2
abbrev Zbqd:=Zjk.2.1.1
abbrev Zcbq:=Zjk.2.1.2
abbrev Zcbr:=Zjk.2.2.1
abbrev Zcbs:=Zjk.2.2.2
theorem Zc4:((((∀⦃t cc c cl cd i r⦄,Im (Z7g t cc c cl cd i=some r) (if i<(t.Rows.length:Int)then(0<=i/\(∃e1,t.Rows[i.toNat]?=some e1/\(e1.length<=68719476736/\(Zsy t cc c cl cd ([e1]) (w (i+1))=some r))))else(some (.agg [.t (.str cl),I cd,.t .nil],[])=some r)))/\
 (∀⦃t cc c cl cd x i r⦄,Im (Zsy t cc c cl cd x i=some r) (if i<(t.Rows.length:Int)then(0<=i/\(∃e1,t.Rows[i.toNat]?=some e1/\(e1.length<=68719476736/\(x.length+1<=68719476736/\(Zsy t cc c cl cd (x++[e1]) (w (i+1))=some r)))))else(some (.agg [.t (.str cl),I cd,.own 0],[.arr 56 1 true (x.map isc)])=some r))))/\
 ((∀⦃a r⦄,Im (Zsx a=some r) (Z7g a (⟨#[]⟩:ByteArray) 0 a.Name a.Arity 0=some r))/\
 (∀⦃d cc c co i r⦄,Im (Zsz d cc c co i=some r) (if i<(d.Tables.length:Int)then(∃v,Zkw d=some (Bo v,[])/\(if v=true then(0<=i/\(∃e2,d.Tables[i.toNat]?=some e2/\(if e2.Name=co then((∃v6 v7,Zsx e2=some (.agg [.t (.str v6),I v7,.t .nil],[])/\(some (.tup [.agg [.t (.str v6),I v7,.t .nil],Bo true],[])=some r))\/(∃(v8:List (List Int)),∃v9,∃v10,Zsx e2=some (.agg [.t (.str v9),I v10,.own 0],[.arr 56 1 true (v8.map isc)])/\(some (.tup [.agg [.t (.str v9),I v10,.own 0],Bo true],[.arr 56 1 true (v8.map isc)])=some r)))else(Zsz d cc c co (w (i+1))=some r))))else(some (.tup [.agg [.t (.str (⟨#[]⟩:ByteArray)),I 0,.t .nil],Bo false],[])=some r)))else(some (.tup [.agg [.t (.str (⟨#[]⟩:ByteArray)),I 0,.t .nil],Bo false],[])=some r)))))/\
 (((∀⦃a a1 r⦄,Im (Zb8 a a1=some r) (Zsz a (⟨#[]⟩:ByteArray) 0 a1 0=some r))/\
 (∀⦃cc c i r⦄,Im (Z7j cc c i=some r) (if i<0 then False else(some (Bo true,[])=some r))))/\
 ((∀⦃cc c r⦄,Im (Zk0 cc c=some r) (∃v,Zhk cc=some (Bo v,[])/\(if v=true then(∃v3,Zv c 1 3=some (Bo v3,[])/\(if v3=true then(Z7j cc c 0=some r)else(some (Bo false,[])=some r)))else(some (Bo false,[])=some r))))/\
 ((∀⦃cc c cn i r⦄,Im (Znz cc c cn i=some r) (if i<(cn.length:Int)then(0<=i/\(∃e1,cn[i.toNat]?=some e1/\(∃v3,Zv e1 0 (w (c-1))=some (Bo v3,[])/\(if v3=true then(if 0<i then(0<=(w (i-1))/\(∃e3,cn[(w (i-1)).toNat]?=some e3/\(if e1<=e3 then(some (Bo false,[])=some r)else(Znz cc c cn (w (i+1))=some r))))else(Znz cc c cn (w (i+1))=some r))else(some (Bo false,[])=some r)))))else(∃v8,Zk0 cc c=some (Bo v8,[])/\(some (Bo v8,[])=some r))))/\
 (∀⦃cc c a r⦄,Im (Zyf cc c a=some r) (Znz cc c a 0=some r))))))/\
 ((((∀⦃l x i r⦄,Im (Zs0 l x i=some r) (if i<(l.length:Int)then(0<=i/\(∃e1,l[i.toNat]?=some e1/\(if e1=x then(some (Bo true,[])=some r)else(Zs0 l x (w (i+1))=some r))))else(some (Bo false,[])=some r)))/\
 (∀⦃a a1 r⦄,Im (Ze1 a a1=some r) (Zs0 a a1 0=some r)))/\
 ((∀⦃a a1 r⦄,Im (Zn0 a a1=some r) ((∃v v1 v2,Zb8 a a1.Name=some (.tup [.agg [.t (.str v),I v1,.t .nil],Bo v2],[])/\(if v2=true then(∃v3,Zyf v v1 a1.From=some (Bo v3,[])/\(if v3=true then(∃v6,Zv a1.To 0 (w (v1-1))=some (Bo v6,[])/\(if v6=true then(∃v8,Ze1 a1.From a1.To=some (Bo v8,[])/\(some (Bo (!v8),[])=some r))else(some (Bo false,[])=some r)))else(some (Bo false,[])=some r)))else(some (Bo false,[])=some r)))\/(∃(v11:List (List Int)),∃v12,∃v13,Zb8 a a1.Name=some (.tup [.agg [.t (.str v12),I v13,.own 0],Bo true],[.arr 56 1 true (v11.map isc)])/\(∃v14,Zns (⟨v12,v13,v11⟩:Zc) a1.From=some (Bo v14,[])/\(if v14=true then(∃v15,Zv a1.To 0 (w (v13-1))=some (Bo v15,[])/\(if v15=true then(∃v16,Ze1 a1.From a1.To=some (Bo v16,[])/\(some (Bo (!v16),[])=some r))else(some (Bo false,[])=some r)))else(some (Bo false,[])=some r))))))/\
 (∀⦃d f cc c k r⦄,Im (Z7o d f cc c k=some r) (if k<0 then(∃v,Zn0 d f=some (Bo v,[])/\(if v=true then False else(some (.own 0,[.arr 3 1 true (([]:List Int).map ic)])=some r)))else(some (.own 0,[.arr 3 1 true (([]:List Int).map ic)])=some r)))))/\
 (((∀⦃d f cc c x k r⦄,Im (Zn1 d f cc c x k=some r) (if k<(x.length:Int)then(∃v,Zn0 d f=some (Bo v,[])/\(if v=true then(0<=k/\(∃e2,x[k.toNat]?=some e2/\(∃(v6:List Int),∃v7,Zi4 e2 f.From=some (.tup [.own 0,Bo v7],[.arr 3 1 true (v6.map ic)])/\(Zhm d f cc c x v6 k 0=some r))))else(some (.own 0,[.arr 3 1 true (([]:List Int).map ic)])=some r)))else(some (.own 0,[.arr 3 1 true (([]:List Int).map ic)])=some r)))/\
 (∀⦃d f cc c x y k i r⦄,Im (Zhm d f cc c x y k i=some r) (if i<k then(0<=i/\(∃e1,x[i.toNat]?=some e1/\(∃(v3:List Int),∃v4,Zi4 e1 f.From=some (.tup [.own 0,Bo v4],[.arr 3 1 true (v3.map ic)])/\(∃v6,Zdn v3 y=some (I v6,[])/\(if v6=0 then(0<=f.To/\(∃e4,e1[f.To.toNat]?=some e4/\(0<=k/\(∃e5,x[k.toNat]?=some e5/\(∃e6,e5[f.To.toNat]?=some e6/\(if e4=e6 then(Zhm d f cc c x y k (w (i+1))=some r)else(some (.own 0,[.arr 3 1 true (([i,k]).map ic)])=some r)))))))else(Zhm d f cc c x y k (w (i+1))=some r))))))else(Zn1 d f cc c x (w (k+1))=some r))))/\
 ((∀⦃a a1 r⦄,Im (Zyg a a1=some r) ((∃v v1 v2,Zb8 a a1.Name=some (.tup [.agg [.t (.str v),I v1,.t .nil],Bo v2],[])/\(Z7o a a1 v v1 0=some r))\/(∃(v3:List (List Int)),∃v4,∃v5,Zb8 a a1.Name=some (.tup [.agg [.t (.str v4),I v5,.own 0],Bo true],[.arr 56 1 true (v3.map isc)])/\(Zn1 a a1 v4 v5 v3 0=some r))))/\
 ((∀⦃a a1 r⦄,Im (Zs3 a a1=some r) (∃v,Zn0 a a1=some (Bo v,[])/\(if v=true then(∃(v3:List Int),Zyg a a1=some (.own 0,[.arr 3 1 true (v3.map ic)])/\(some (Bo (decide ((v3.length:Int)=0)),[])=some r))else(some (Bo false,[])=some r))))/\
 (∀⦃a a1 r⦄,Im (Zn2 a a1=some r) ((∃v v1 v2,Zb8 a a1.Name=some (.tup [.agg [.t (.str v),I v1,.t .nil],Bo v2],[])/\((∃v3 v4 v5,Zb8 a a1.Into=some (.tup [.agg [.t (.str v3),I v4,.t .nil],Bo v5],[])/\(if v2=true then(if v5=true then(∃v6,Zv a1.Column 0 (w (v1-1))=some (Bo v6,[])/\(if v6=true then(∃v8,Zv a1.IntoColumn 0 (w (v4-1))=some (Bo v8,[])/\(some (Bo v8,[])=some r))else(some (Bo false,[])=some r)))else(some (Bo false,[])=some r))else(some (Bo false,[])=some r)))\/(∃(v11:List (List Int)),∃v12,∃v13,Zb8 a a1.Into=some (.tup [.agg [.t (.str v12),I v13,.own 0],Bo true],[.arr 56 1 true (v11.map isc)])/\(if v2=true then(∃v14,Zv a1.Column 0 (w (v1-1))=some (Bo v14,[])/\(if v14=true then(∃v15,Zv a1.IntoColumn 0 (w (v13-1))=some (Bo v15,[])/\(some (Bo v15,[])=some r))else(some (Bo false,[])=some r)))else(some (Bo false,[])=some r)))))\/(∃(v16:List (List Int)),∃v17,∃v18,Zb8 a a1.Name=some (.tup [.agg [.t (.str v17),I v18,.own 0],Bo true],[.arr 56 1 true (v16.map isc)])/\((∃v19 v20 v21,Zb8 a a1.Into=some (.tup [.agg [.t (.str v19),I v20,.t .nil],Bo v21],[])/\(if v21=true then(∃v22,Zv a1.Column 0 (w (v18-1))=some (Bo v22,[])/\(if v22=true then(∃v23,Zv a1.IntoColumn 0 (w (v20-1))=some (Bo v23,[])/\(some (Bo v23,[])=some r))else(some (Bo false,[])=some r)))else(some (Bo false,[])=some r)))\/(∃(v24:List (List Int)),∃v25,∃v26,Zb8 a a1.Into=some (.tup [.agg [.t (.str v25),I v26,.own 0],Bo true],[.arr 56 1 true (v24.map isc)])/\(∃v27,Zv a1.Column 0 (w (v18-1))=some (Bo v27,[])/\(if v27=true then(∃v28,Zv a1.IntoColumn 0 (w (v26-1))=some (Bo v28,[])/\(some (Bo v28,[])=some r))else(some (Bo false,[])=some r)))))))))))):=by
 and_intros
 all_goals intros
 all_goals unfold Im
 all_goals try simp only[Z7g,Zsy,Zsx,Zsz,Zb8,Z7j,Zk0,Znz,Zyf,Zs0,Ze1,Zn0,Z7o,Zn1,Zhm,Zyg,Zs3,Zn2,Zkw,Zh.c_def,Zc.c_def,Zhk,Zv,Zns,Zm.c_def,Zi4,Zdn,mpl,dfs]
 all_goals try simp only[itb]
 all_goals try simp only[itf,gS,kk]
 all_goals repeat' first|refine exI λ_=>?_|refine anJ λ_ _=>?_|refine anI λ_=>?_|refine orE2 ?_ ?_|exact False.elim
 all_goals (intro h;first|rw[Ze Zyd.eq_1]|refine run Zb5w rfl ?_|rw[Ze Z7h.eq_1]|refine run Zb5x rfl ?_|rw[Ze Zsk.eq_1]|refine run Zbns rfl ?_|rw[Ze Zsn.eq_1]|refine run Zbnt rfl ?_|rw[Ze Z7k.eq_1]|refine run Zb5y rfl ?_|refine run Zb5z rfl ?_|rw[Ze Zs1.eq_1]|rw[Ze Z7m.eq_1]|refine run Zb50 rfl ?_|refine run Zb51 rfl ?_|refine run Zb52 rfl ?_)
 all_goals (refine Yf ?_ h;clear h;simp +decide[*,kk,tI,tII,Zye,Zbkp,Z7i,Zbkq,Zsl,Z6v,Zso,Z62,Z7l,Zbkr,Zbks,Zs2,Z7n,Zbkt,Zbku,Zbkv])
abbrev Zcbt:=Zc4.1.1.1.1
abbrev Zbqe:=Zc4.1.1.1.2
abbrev Zcbu:=Zc4.1.1.2.1
abbrev Zbqf:=Zc4.1.1.2.2
abbrev Zcbv:=Zc4.1.2.1.1
abbrev Zbqg:=Zc4.1.2.1.2
abbrev Zbqh:=Zc4.1.2.2.1
abbrev Zbqi:=Zc4.1.2.2.2.1
abbrev Zcbw:=Zc4.1.2.2.2.2
abbrev Zbqj:=Zc4.2.1.1.1
abbrev Zcbx:=Zc4.2.1.1.2
abbrev Zcby:=Zc4.2.1.2.1
abbrev Zcbz:=Zc4.2.1.2.2
abbrev Zbqk:=Zc4.2.2.1.1
abbrev Zbql:=Zc4.2.2.1.2
abbrev Zbqm:=Zc4.2.2.2.1
abbrev Zcb0:=Zc4.2.2.2.2.1
abbrev Zcb1:=Zc4.2.2.2.2.2
theorem Zc5:((((∀⦃x cn cl cc cd c v r⦄,Im (Zfn x cn cl cc cd c v=some r) (if v<=9 then(Zs4 x cn cl cc cd c v false false 0=some r)else(some (.own 0,[.arr 3 1 true (cn.map ic)])=some r)))/\
 (∀⦃x cn cl cc cd c x1 v r⦄,Im (Zfo x cn cl cc cd c x1 v=some r) (if v<=9 then(Zs5 x cn cl cc cd c x1 v false false 0=some r)else(some (.own 0,[.arr 3 1 true (cn.map ic)])=some r))))/\
 ((∀⦃x cn cl cc x1 cd c v r⦄,Im (Zfp x cn cl cc x1 cd c v=some r) (if v<=9 then(Zn7 x cn cl cc x1 cd c v false false 0=some r)else(some (.own 0,[.arr 3 1 true (cn.map ic)])=some r)))/\
 (∀⦃x cn cl cc x1 cd c x2 v r⦄,Im (Zfq x cn cl cc x1 cd c x2 v=some r) (if v<=9 then(Zn8 x cn cl cc x1 cd c x2 v false false 0=some r)else(some (.own 0,[.arr 3 1 true (cn.map ic)])=some r)))))/\
 (((∀⦃x cn cl cc cd c v co cp i r⦄,Im (Zs4 x cn cl cc cd c v co cp i=some r) (if i<0 then(if co=true then(Zs4 x cn cl cc cd c v true cp (w (i+1))=some r)else False)else(Zn9 x cn cl cc cd c v co cp 0=some r)))/\
 (∀⦃x cn cl cc cd c x1 v co cp i r⦄,Im (Zs5 x cn cl cc cd c x1 v co cp i=some r) (if i<0 then(if co=true then(Zs5 x cn cl cc cd c x1 v true cp (w (i+1))=some r)else False)else(Zk1 x cn cl cc cd c x1 v co cp 0=some r))))/\
 ((∀⦃x cn cl cc x1 cd c v co cp i r⦄,Im (Zn7 x cn cl cc x1 cd c v co cp i=some r) (if i<(x1.length:Int)then(if co=true then(Zn7 x cn cl cc x1 cd c v true cp (w (i+1))=some r)else(0<=i/\(∃e1,x1[i.toNat]?=some e1/\(0<=x.Column/\(∃e2,e1[x.Column.toNat]?=some e2/\(Zn7 x cn cl cc x1 cd c v (decide (e2=v)) cp (w (i+1))=some r))))))else(Zoa x cn cl cc x1 cd c v co cp 0=some r)))/\
 ((∀⦃x cn cl cc x1 cd c x2 v co cp i r⦄,Im (Zn8 x cn cl cc x1 cd c x2 v co cp i=some r) (if i<(x1.length:Int)then(if co=true then(Zn8 x cn cl cc x1 cd c x2 v true cp (w (i+1))=some r)else(0<=i/\(∃e1,x1[i.toNat]?=some e1/\(0<=x.Column/\(∃e2,e1[x.Column.toNat]?=some e2/\(Zn8 x cn cl cc x1 cd c x2 v (decide (e2=v)) cp (w (i+1))=some r))))))else(Zk2 x cn cl cc x1 cd c x2 v co cp 0=some r)))/\
 (∀⦃x cn cl cc cd c v co cp i r⦄,Im (Zn9 x cn cl cc cd c v co cp i=some r) (if i<0 then(if cp=true then(Zn9 x cn cl cc cd c v co true (w (i+1))=some r)else False)else(if co=true then(if cp=true then(Zfn x cn cl cc cd c (w (v+1))=some r)else(cn.length+1<=68719476736/\(Zfn x (cn++[v]) cl cc cd c (w (v+1))=some r)))else(Zfn x cn cl cc cd c (w (v+1))=some r))))))))/\
 ((((∀⦃x cn cl cc cd c x1 v co cp i r⦄,Im (Zk1 x cn cl cc cd c x1 v co cp i=some r) (if i<(x1.length:Int)then(if cp=true then(Zk1 x cn cl cc cd c x1 v co true (w (i+1))=some r)else(0<=i/\(∃e1,x1[i.toNat]?=some e1/\(0<=x.IntoColumn/\(∃e2,e1[x.IntoColumn.toNat]?=some e2/\(Zk1 x cn cl cc cd c x1 v co (decide (e2=v)) (w (i+1))=some r))))))else(if co=true then(if cp=true then(Zfo x cn cl cc cd c x1 (w (v+1))=some r)else(cn.length+1<=68719476736/\(Zfo x (cn++[v]) cl cc cd c x1 (w (v+1))=some r)))else(Zfo x cn cl cc cd c x1 (w (v+1))=some r))))/\
 (∀⦃x cn cl cc x1 cd c v co cp i r⦄,Im (Zoa x cn cl cc x1 cd c v co cp i=some r) (if i<0 then(if cp=true then(Zoa x cn cl cc x1 cd c v co true (w (i+1))=some r)else False)else(if co=true then(if cp=true then(Zfp x cn cl cc x1 cd c (w (v+1))=some r)else(cn.length+1<=68719476736/\(Zfp x (cn++[v]) cl cc x1 cd c (w (v+1))=some r)))else(Zfp x cn cl cc x1 cd c (w (v+1))=some r)))))/\
 ((∀⦃x cn cl cc x1 cd c x2 v co cp i r⦄,Im (Zk2 x cn cl cc x1 cd c x2 v co cp i=some r) (if i<(x2.length:Int)then(if cp=true then(Zk2 x cn cl cc x1 cd c x2 v co true (w (i+1))=some r)else(0<=i/\(∃e1,x2[i.toNat]?=some e1/\(0<=x.IntoColumn/\(∃e2,e1[x.IntoColumn.toNat]?=some e2/\(Zk2 x cn cl cc x1 cd c x2 v co (decide (e2=v)) (w (i+1))=some r))))))else(if co=true then(if cp=true then(Zfq x cn cl cc x1 cd c x2 (w (v+1))=some r)else(cn.length+1<=68719476736/\(Zfq x (cn++[v]) cl cc x1 cd c x2 (w (v+1))=some r)))else(Zfq x cn cl cc x1 cd c x2 (w (v+1))=some r))))/\
 (∀⦃a a1 r⦄,Im (Z7p a a1=some r) (∃v1,Zn2 a a1=some (Bo v1,[])/\(if v1=true then((∃v2 v3 v4,Zb8 a a1.Name=some (.tup [.agg [.t (.str v2),I v3,.t .nil],Bo v4],[])/\((∃v5 v6 v7,Zb8 a a1.Into=some (.tup [.agg [.t (.str v5),I v6,.t .nil],Bo v7],[])/\(Zfn a1 ([]:List Int) v2 v3 v5 v6 0=some r))\/(∃(v8:List (List Int)),∃v9,∃v10,Zb8 a a1.Into=some (.tup [.agg [.t (.str v9),I v10,.own 0],Bo true],[.arr 56 1 true (v8.map isc)])/\(Zfo a1 ([]:List Int) v2 v3 v9 v10 v8 0=some r))))\/(∃(v11:List (List Int)),∃v12,∃v13,Zb8 a a1.Name=some (.tup [.agg [.t (.str v12),I v13,.own 0],Bo true],[.arr 56 1 true (v11.map isc)])/\((∃v14 v15 v16,Zb8 a a1.Into=some (.tup [.agg [.t (.str v14),I v15,.t .nil],Bo v16],[])/\(Zfp a1 ([]:List Int) v12 v13 v11 v14 v15 0=some r))\/(∃(v17:List (List Int)),∃v18,∃v19,Zb8 a a1.Into=some (.tup [.agg [.t (.str v18),I v19,.own 0],Bo true],[.arr 56 1 true (v17.map isc)])/\(Zfq a1 ([]:List Int) v12 v13 v11 v18 v19 v17 0=some r)))))else(some (.own 0,[.arr 3 1 true (([]:List Int).map ic)])=some r))))))/\
 (((∀⦃a a1 r⦄,Im (Zyh a a1=some r) (∃v1,Zn2 a a1=some (Bo v1,[])/\(if v1=true then(∃(v2:List Int),Z7p a a1=some (.own 0,[.arr 3 1 true (v2.map ic)])/\(some (Bo (decide ((v2.length:Int)=0)),[])=some r))else(some (Bo false,[])=some r))))/\
 (∀⦃d cv cu i r⦄,Im (Zs6 d cv cu i=some r) (if i<(cv.length:Int)then(0<=i/\(∃e1,cv[i.toNat]?=some e1/\(∃v2,Zs3 d e1=some (Bo v2,[])/\(if v2=true then(Zs6 d cv cu (w (i+1))=some r)else(some (Bo false,[])=some r)))))else(Zs7 d cu 0=some r))))/\
 ((∀⦃d cu i r⦄,Im (Zs7 d cu i=some r) (if i<(cu.length:Int)then(0<=i/\(∃e1,cu[i.toNat]?=some e1/\(∃v2,Zyh d e1=some (Bo v2,[])/\(if v2=true then(Zs7 d cu (w (i+1))=some r)else(some (Bo false,[])=some r)))))else(some (Bo true,[])=some r)))/\
 ((∀⦃a a1 a2 r⦄,Im (Zob a a1 a2=some r) (if 8<(a1.length:Int)then(some (Bo false,[])=some r)else(if 8<(a2.length:Int)then(some (Bo false,[])=some r)else(Zs6 a a1 a2 0=some r))))/\
 (∀⦃a b i r⦄,Im (Zk3 a b i=some r) (if i<(a.Groups.length:Int)then(0<=i/\(∃e1,a.Groups[i.toNat]?=some e1/\(∃e2,b.Groups[i.toNat]?=some e2/\(∃v5,Zdn e1.Columns e2.Columns=some (I v5,[])/\(if v5=0 then(∃v8,Zdn e1.Counts e2.Counts=some (I v8,[])/\(if v8=0 then(if(e1.Values.length:Int)=(e2.Values.length:Int)then(Zod a b e1 e2 i 0=some r)else(some (Bo false,[])=some r))else(some (Bo false,[])=some r)))else(some (Bo false,[])=some r))))))else(some (Bo true,[])=some r))))))):=by
 and_intros
 all_goals intros
 all_goals unfold Im
 all_goals try simp only[Zfn,Zfo,Zfp,Zfq,Zs4,Zs5,Zn7,Zn8,Zn9,Zk1,Zoa,Zk2,Z7p,Zyh,Zs6,Zs7,Zob,Zk3,Zn2,Zb8,Zh.c_def,Zi.c_def,Zs3,Zm.c_def,Zdn,Zod,mpl,dfs]
 all_goals try simp only[itb]
 all_goals try simp only[itf,gS,kk]
 all_goals repeat' first|refine exI λ_=>?_|refine anJ λ_ _=>?_|refine anI λ_=>?_|refine orE2 ?_ ?_|exact False.elim
 all_goals (intro h;first|rw[Ze Zee.eq_1]|rw[Ze Zn3.eq_1]|rw[Ze Zn4.eq_1]|refine run Zb53 rfl ?_|refine run Zb54 rfl ?_|rw[Ze Z7q.eq_1]|rw[Ze Z7r.eq_1]|refine run Zb55 rfl ?_|rw[Ze Zyi.eq_1])
 all_goals (refine Yf ?_ h;clear h;simp +decide[*,kk,tI,tII,Zef,Zn6,Zgu,Zn5,Zbkw,Zbkx,Z7t,Z7s,Zbky,Zyj])
abbrev Zbqn:=Zc5.1.1.1.1
abbrev Zbqo:=Zc5.1.1.1.2
abbrev Zbqp:=Zc5.1.1.2.1
abbrev Zbqq:=Zc5.1.1.2.2
abbrev Zcb2:=Zc5.1.2.1.1
abbrev Zcb3:=Zc5.1.2.1.2
abbrev Zbqr:=Zc5.1.2.2.1
abbrev Zbqs:=Zc5.1.2.2.2.1
abbrev Zcb4:=Zc5.1.2.2.2.2
abbrev Zbqt:=Zc5.2.1.1.1
abbrev Zcb5:=Zc5.2.1.1.2
abbrev Zbqu:=Zc5.2.1.2.1
abbrev Zcb6:=Zc5.2.1.2.2
abbrev Zcb7:=Zc5.2.2.1.1
abbrev Zbqv:=Zc5.2.2.1.2
abbrev Zbqw:=Zc5.2.2.2.1
abbrev Zcb8:=Zc5.2.2.2.2.1
abbrev Zbqx:=Zc5.2.2.2.2.2
theorem Zuv:((∀⦃a b x y i k r⦄,Im (Zod a b x y i k=some r) (if k<(x.Values.length:Int)then(0<=k/\(∃e1,x.Values[k.toNat]?=some e1/\(∃e2,y.Values[k.toNat]?=some e2/\(∃v3,Zdn e1 e2=some (I v3,[])/\(if v3=0 then(Zod a b x y i (w (k+1))=some r)else(some (Bo false,[])=some r))))))else(Zk3 a b (w (i+1))=some r)))/\
 (∀⦃a a1 r⦄,Im (Zoc a a1=some r) (if a.Name=a1.Name then(if a.Arity=a1.Arity then(if a.RowCount=a1.RowCount then(if(a.Groups.length:Int)=(a1.Groups.length:Int)then(Zk3 a a1 0=some r)else(some (Bo false,[])=some r))else(some (Bo false,[])=some r))else(some (Bo false,[])=some r))else(some (Bo false,[])=some r))))/\
 ((∀⦃a b i r⦄,Im (Zs8 a b i=some r) (if i<(a.Tables.length:Int)then(0<=i/\(∃e1,a.Tables[i.toNat]?=some e1/\(∃e2,b.Tables[i.toNat]?=some e2/\(∃v3,Zoc e1 e2=some (Bo v3,[])/\(if v3=true then(Zs8 a b (w (i+1))=some r)else(some (Bo false,[])=some r))))))else(some (Bo true,[])=some r)))/\
 ((∀⦃a a1 r⦄,Im (Zyk a a1=some r) (if a.Version=a1.Version then(if(a.Tables.length:Int)=(a1.Tables.length:Int)then(Zs8 a a1 0=some r)else(some (Bo false,[])=some r))else(some (Bo false,[])=some r)))/\
 (∀⦃a r⦄,Im (Zs9 a=some r) ((∃v v1,Zny a.Zh a.Zn.Version=some (.tup [.agg [I v,.t .nil],Bo v1],[])/\(if v1=true then(∃v2,Zsw v a.Zn=some (Bo v2,[])/\(if v2=true then(∃v3,Zob a.Zh a.Dependencies a.Inclusions=some (Bo v3,[])/\(some (Bo v3,[])=some r))else(some (Bo false,[])=some r)))else(some (Bo false,[])=some r)))\/(∃v4,∃(v5:List Zd),∃v6,Zny a.Zh a.Zn.Version=some (.tup [.agg [I v6,.own 0],Bo true],[.arr 141 4 v4 (v5.map Zd.c)])/\(∃v7,Zyk (⟨v6,v5⟩:Zn) a.Zn=some (Bo v7,[])/\(if v7=true then(∃v8,Zob a.Zh a.Dependencies a.Inclusions=some (Bo v8,[])/\(some (Bo v8,[])=some r))else(some (Bo false,[])=some r)))))))):=by
 and_intros
 all_goals intros
 all_goals unfold Im
 all_goals try simp only[Zod,Zoc,Zs8,Zyk,Zs9,Zdn,Zd.c_def,Zny,Zsw,Zob,Zn.c_def,Zh.c_def,Zm.c_def,Zi.c_def,Zk3,mpl,dfs]
 all_goals try simp only[itb]
 all_goals try simp only[itf,gS,kk]
 all_goals repeat' first|refine exI λ_=>?_|refine anJ λ_ _=>?_|refine anI λ_=>?_|refine orE2 ?_ ?_|exact False.elim
 all_goals (intro h;first|rw[Ze Z7u.eq_1]|refine run Zb56 rfl ?_|rw[Ze Zsu.eq_1]|refine run Zbnv rfl ?_|refine run Zb57 rfl ?_)
 all_goals (refine Yf ?_ h;clear h;simp +decide[*,kk,tI,tII,Z7v,Zbkz,Zsv,Z7e,Zbk0])
abbrev Zbqy:=Zuv.1.1
abbrev Zcb9:=Zuv.1.2
abbrev Zbqz:=Zuv.2.1
abbrev Zcca:=Zuv.2.2.1
abbrev Zccb:=Zuv.2.2.2
theorem Zc6:((((∀⦃q cv i r⦄,Im (Zoe q cv i=some r) (if i<(q.Atoms.length:Int)then(0<=i/\(∃e1,q.Atoms[i.toNat]?=some e1/\(∃v4,Zhk e1.Name=some (Bo v4,[])/\(if v4=true then(∃v8,Zv (e1.Vars.length:Int) 1 3=some (Bo v8,[])/\(if v8=true then(Zta q e1 cv i 0=some r)else(some (Bo false,[])=some r)))else(some (Bo false,[])=some r)))))else(¬q.Zt<0/\(some (Bo (decide (cv=(w ((shlI 1 q.Zt)-1)))),[])=some r))))/\
 (∀⦃q a cv i k r⦄,Im (Zta q a cv i k=some r) (if k<(a.Vars.length:Int)then(0<=k/\(∃e1,a.Vars[k.toNat]?=some e1/\(∃v4,Zv e1 0 (w (q.Zt-1))=some (Bo v4,[])/\(if v4=true then(k.toNat<=a.Vars.length/\(∃v8,Ze1 (a.Vars.take k.toNat) e1=some (Bo v8,[])/\(if v8=true then(some (Bo false,[])=some r)else(¬e1<0/\(Zta q a (orI cv (shlI 1 e1)) i (w (k+1))=some r)))))else(some (Bo false,[])=some r)))))else(Zoe q cv (w (i+1))=some r))))/\
 ((∀⦃a r⦄,Im (Zk4 a=some r) (∃v,Zv a.Zt 1 4=some (Bo v,[])/\(if v=true then(∃v4,Zv (a.Atoms.length:Int) 1 4=some (Bo v4,[])/\(if v4=true then(Zoe a 0 0=some r)else(some (Bo false,[])=some r)))else(some (Bo false,[])=some r))))/\
 (∀⦃d q i r⦄,Im (Zof d q i=some r) (if i<(q.Atoms.length:Int)then(0<=i/\(∃e1,q.Atoms[i.toNat]?=some e1/\((∃v4 v5 v6,Zb8 d e1.Name=some (.tup [.agg [.t (.str v4),I v5,.t .nil],Bo v6],[])/\(if v6=true then(if v5=(e1.Vars.length:Int)then(Zof d q (w (i+1))=some r)else(some (Bo false,[])=some r))else(some (Bo false,[])=some r)))\/(∃(v8:List (List Int)),∃v9,∃v10,Zb8 d e1.Name=some (.tup [.agg [.t (.str v9),I v10,.own 0],Bo true],[.arr 56 1 true (v8.map isc)])/\(if v10=(e1.Vars.length:Int)then(Zof d q (w (i+1))=some r)else(some (Bo false,[])=some r))))))else(some (Bo true,[])=some r)))))/\
 (((∀⦃a a1 r⦄,Im (Zyn a a1=some r) (∃v,Zk4 a1=some (Bo v,[])/\(if v=true then(Zof a a1 0=some r)else(some (Bo false,[])=some r))))/\
 (∀⦃a r⦄,Im (Zog a=some r) (∃v,Zk4 a=some (Bo v,[])/\(if v=true then(¬(a.Atoms.length:Int)<0/\(some (I (w ((shlI 1 (a.Atoms.length:Int))-1)),[])=some r))else(some (I 0,[])=some r)))))/\
 ((∀⦃a a1 a2 r⦄,Im (Zfr a a1 a2=some r) (∃v,Zs9 a=some (Bo v,[])/\(if v=true then(∃v4,Zyn a.Zh a1=some (Bo v4,[])/\(if v4=true then(∃v8,Zog a1=some (I v8,[])/\(∃v11,Zv a2 1 v8=some (Bo v11,[])/\(some (Bo v11,[])=some r)))else(some (Bo false,[])=some r)))else(some (Bo false,[])=some r))))/\
 ((∀⦃cy cz dc i r⦄,Im (Z70 cy cz dc i=some r) (if i<0 then False else(if dc=true then(some (.own 0,[.arr 56 1 true (cy.map isc)])=some r)else(cz.length<=68719476736/\(cy.length+1<=68719476736/\(some (.own 0,[.arr 56 1 true ((cy++[cz]).map isc)])=some r))))))/\
 (∀⦃a r⦄,Im (Zyo a=some r) (Z70 ([]:List (List Int)) a false 0=some r))))))/\
 ((((∀⦃cp co cl cc cu i r⦄,Im (Z71 cp co cl cc cu i=some r) (if i<(cu.length:Int)then(0<=i/\(∃e1,cu[i.toNat]?=some e1/\(∃(v4:List (List Int)),Zyo e1=some (.own 0,[.arr 56 1 true (v4.map isc)])/\(Ztb cp co cl cc v4 cu (w (i+1))=some r))))else(∃v8,Zk0 cl cc=some (Bo v8,[])/\(if v8=true then(some (.tup [.agg [.t (.str cl),I cc,.own 0],Bo true],[.arr 56 1 true (([]:List (List Int)).map isc)])=some r)else(some (.tup [.agg [.t (.str (⟨#[]⟩:ByteArray)),I 0,.own 0],Bo false],[.arr 56 1 true (([]:List (List Int)).map isc)])=some r)))))/\
 (∀⦃cp co cl cc x cu i r⦄,Im (Ztb cp co cl cc x cu i=some r) (if i<(cu.length:Int)then(if(x.length:Int)<=8 then(0<=i/\(∃e1,cu[i.toNat]?=some e1/\(∃(v4:List (List Int)),Znu x e1=some (.own 0,[.arr 56 1 true (v4.map isc)])/\(Ztb cp co cl cc v4 cu (w (i+1))=some r))))else(∃v8,Zgs (⟨cl,cc,x⟩:Zc)=some (Bo v8,[])/\(if v8=true then(some (.tup [.agg [.t (.str cl),I cc,.own 0],Bo true],[.arr 56 1 true (x.map isc)])=some r)else(some (.tup [.agg [.t (.str (⟨#[]⟩:ByteArray)),I 0,.own 0],Bo false],[.arr 56 1 true (([]:List (List Int)).map isc)])=some r))))else(∃v11,Zgs (⟨cl,cc,x⟩:Zc)=some (Bo v11,[])/\(if v11=true then(some (.tup [.agg [.t (.str cl),I cc,.own 0],Bo true],[.arr 56 1 true (x.map isc)])=some r)else(some (.tup [.agg [.t (.str (⟨#[]⟩:ByteArray)),I 0,.own 0],Bo false],[.arr 56 1 true (([]:List (List Int)).map isc)])=some r))))))/\
 ((∀⦃a a1 a2 r⦄,Im (Zyr a a1 a2=some r) (Z71 (⟨#[]⟩:ByteArray) 0 a a1 a2 0=some r))/\
 (∀⦃a r⦄,Im (Zys a=some r) (if(a.Groups.length:Int)=0 then(some (.tup [.agg [.t (.str (⟨#[]⟩:ByteArray)),I 0,.own 0],Bo false],[.arr 56 1 true (([]:List (List Int)).map isc)])=some r)else(0<=(w ((a.Groups.length:Int)-1))/\(∃e1,a.Groups[(w ((a.Groups.length:Int)-1)).toNat]?=some e1/\(∃(v4:List (List Int)),∃v5,∃v6,∃v7,Zyr a.Name a.Arity e1.Values=some (.tup [.agg [.t (.str v5),I v6,.own 0],Bo v7],[.arr 56 1 true (v4.map isc)])/\(some (.tup [.agg [.t (.str v5),I v6,.own 0],Bo v7],[.arr 56 1 true (v4.map isc)])=some r))))))))/\
 (((∀⦃a r⦄,Im (Zhn a=some r) (∃(v:List (List Int)),∃v1,∃v2,∃v3,Zys a=some (.tup [.agg [.t (.str v1),I v2,.own 0],Bo v3],[.arr 56 1 true (v.map isc)])/\(if v3=true then((∃v4 v5 v6,Zgt (⟨v1,v2,v⟩:Zc)=some (.agg [.t (.str v4),I v5,I v6,.t .nil],[])/\(∃v8,Zbk7 v4 v5 v6 a=some (Bo v8,[])/\(some (Bo v8,[])=some r)))\/(∃v11,∃(v12:List Zf),∃v13,∃v14,∃v15,Zgt (⟨v1,v2,v⟩:Zc)=some (.agg [.t (.str v13),I v14,I v15,.own 0],[.arr 200 3 v11 (v12.map Zf.c)])/\(∃v16,Zoc (⟨v13,v14,v15,v12⟩:Zd) a=some (Bo v16,[])/\(some (Bo v16,[])=some r))))else(some (Bo false,[])=some r))))/\
 (∀⦃s cp co cn cl cc cd i r⦄,Im (Zyu s cp co cn cl cc cd i=some r) (if i<(s.Groups.length:Int)then(0<=i/\(∃e1,s.Groups[i.toNat]?=some e1/\(e1.Columns.length<=68719476736/\(e1.Counts.length<=68719476736/\(Z72 s cp co cn cl cc cd e1.Columns e1.Counts i 0=some r)))))else(some (.agg [.t (.str cl),I cc,I cd,.own 0],[.arr 200 3 true (([]:List Zf).map Zf.c)])=some r))))/\
 ((∀⦃s cp co cn cl cc cd x x1 i k r⦄,Im (Z72 s cp co cn cl cc cd x x1 i k=some r) (0<=i/\(∃e1,s.Groups[i.toNat]?=some e1/\(if k<(e1.Values.length:Int)then(0<=k/\(∃e2,e1.Values[k.toNat]?=some e2/\(e2.length<=68719476736/\(Ztc s cp co cn cl cc cd x ([e2]) x1 i (w (k+1))=some r))))else(Zgv s cp co cn cl cc cd ([(⟨x,[],x1⟩:Zf)]) (w (i+1))=some r)))))/\
 ((∀⦃s cp co cn cl cc cd x x1 x2 i k r⦄,Im (Ztc s cp co cn cl cc cd x x1 x2 i k=some r) (0<=i/\(∃e1,s.Groups[i.toNat]?=some e1/\(if k<(e1.Values.length:Int)then(0<=k/\(∃e2,e1.Values[k.toNat]?=some e2/\(e2.length<=68719476736/\(x1.length+1<=68719476736/\(Ztc s cp co cn cl cc cd x (x1++[e2]) x2 i (w (k+1))=some r)))))else(Zgv s cp co cn cl cc cd ([(⟨x,x1,x2⟩:Zf)]) (w (i+1))=some r)))))/\
 (∀⦃s cp co cn cl cc cd x i r⦄,Im (Zgv s cp co cn cl cc cd x i=some r) (if i<(s.Groups.length:Int)then(0<=i/\(∃e1,s.Groups[i.toNat]?=some e1/\(e1.Columns.length<=68719476736/\(e1.Counts.length<=68719476736/\(Zyv s cp co cn cl cc cd x e1.Columns e1.Counts i 0=some r)))))else(some (.agg [.t (.str cl),I cc,I cd,.own 0],[.arr 200 3 true (x.map Zf.c)])=some r))))))):=by
 and_intros
 all_goals intros
 all_goals unfold Im
 all_goals try simp only[Zoe,Zta,Zk4,Zof,Zyn,Zog,Zfr,Z70,Zyo,Z71,Ztb,Zyr,Zys,Zhn,Zyu,Z72,Ztc,Zgv,Zhk,Zv,Ze1,Zb8,Zh.c_def,Zg.c_def,Zs9,Zn.c_def,Zj.c_def,Zk0,Znu,Zgs,Zc.c_def,Zgt,Zbk7,Zoc,Zd.c_def,Zyv,mpl,dfs]
 all_goals try simp only[itb]
 all_goals try simp only[itf,gS,kk]
 all_goals repeat' first|refine exI λ_=>?_|refine anJ λ_ _=>?_|refine anI λ_=>?_|refine orE2 ?_ ?_|exact False.elim
 all_goals (intro h;first|rw[Ze Zyl.eq_1]|rw[Ze Z7w.eq_1]|refine run Zb58 rfl ?_|rw[Ze Z7y.eq_1]|refine run Zb59 rfl ?_|refine run Zb6a rfl ?_|refine run Zb6b rfl ?_|rw[Ze Zsq.eq_1]|refine run Zbnu rfl ?_|rw[Ze Zyp.eq_1]|refine run Zb6c rfl ?_|refine run Zb6d rfl ?_|refine run Zb6e rfl ?_|rw[Ze Zi5.eq_1]|rw[Ze Zk5.eq_1])
 all_goals (refine Yf ?_ h;clear h;simp +decide[*,kk,tI,tII,Zym,Z7x,Zbk1,Z7z,Zbk2,Zbk3,Zbk4,Z65,Zsr,Z66,Zyq,Zbk5,Zbk6,Zbk8,Zi6,Zk7,Zk6])
abbrev Zbq0:=Zc6.1.1.1.1
abbrev Zbq1:=Zc6.1.1.1.2
abbrev Zccc:=Zc6.1.1.2.1
abbrev Zbq2:=Zc6.1.1.2.2
abbrev Zccd:=Zc6.1.2.1.1
abbrev Zcce:=Zc6.1.2.1.2
abbrev Zccf:=Zc6.1.2.2.1
abbrev Zccg:=Zc6.1.2.2.2.1
abbrev Zcch:=Zc6.1.2.2.2.2
abbrev Zcci:=Zc6.2.1.1.1
abbrev Zbq3:=Zc6.2.1.1.2
abbrev Zccj:=Zc6.2.1.2.1
abbrev Zcck:=Zc6.2.1.2.2
abbrev Zccl:=Zc6.2.2.1.1
abbrev Zccm:=Zc6.2.2.1.2
abbrev Zccn:=Zc6.2.2.2.1
abbrev Zbq4:=Zc6.2.2.2.2.1
abbrev Zbq5:=Zc6.2.2.2.2.2
theorem Zuw:((∀⦃s co cl cc cp cn cd x x1 x2 i k r⦄,Im (Zyv s co cl cc cp cn cd x x1 x2 i k=some r) (0<=i/\(∃e1,s.Groups[i.toNat]?=some e1/\(if k<(e1.Values.length:Int)then(0<=k/\(∃e2,e1.Values[k.toNat]?=some e2/\(e2.length<=68719476736/\(Ztd s co cl cc cp cn cd x x1 ([e2]) x2 i (w (k+1))=some r))))else(x.length+1<=68719476736/\(Zgv s co cl cc cp cn cd (x++[(⟨x1,[],x2⟩:Zf)]) (w (i+1))=some r))))))/\
 (∀⦃s co cl cc cp cn cd x x1 x2 x3 i k r⦄,Im (Ztd s co cl cc cp cn cd x x1 x2 x3 i k=some r) (0<=i/\(∃e1,s.Groups[i.toNat]?=some e1/\(if k<(e1.Values.length:Int)then(0<=k/\(∃e2,e1.Values[k.toNat]?=some e2/\(e2.length<=68719476736/\(x2.length+1<=68719476736/\(Ztd s co cl cc cp cn cd x x1 (x2++[e2]) x3 i (w (k+1))=some r)))))else(x.length+1<=68719476736/\(Zgv s co cl cc cp cn cd (x++[(⟨x1,x2,x3⟩:Zf)]) (w (i+1))=some r)))))))/\
 ((∀⦃a r⦄,Im (Zyt a=some r) (Zyu a (⟨#[]⟩:ByteArray) 0 0 a.Name a.Arity a.RowCount 0=some r))/\
 ((∀⦃c co cl cc cu i r⦄,Im (Zoh c co cl cc cu i=some r) (if i<(c.Tables.length:Int)then(0<=i/\(∃e1,c.Tables[i.toNat]?=some e1/\(if e1.Name=cu then(∃v,Zhn e1=some (Bo v,[])/\(if v=true then(∃(v1:List Zf),∃v2,∃v3,∃v4,Zyt e1=some (.agg [.t (.str v2),I v3,I v4,.own 0],[.arr 200 3 true (v1.map Zf.c)])/\(some (.tup [.agg [.t (.str v2),I v3,I v4,.own 0],Bo true],[.arr 200 3 true (v1.map Zf.c)])=some r))else(Zoh c co cl cc cu (w (i+1))=some r)))else(Zoh c co cl cc cu (w (i+1))=some r))))else(some (.tup [.agg [.t (.str (⟨#[]⟩:ByteArray)),I 0,I 0,.own 0],Bo false],[.arr 200 3 true (([]:List Zf).map Zf.c)])=some r)))/\
 (∀⦃a a1 r⦄,Im (Zte a a1=some r) (Zoh a (⟨#[]⟩:ByteArray) 0 0 a1 0=some r)))):=by
 and_intros
 all_goals intros
 all_goals unfold Im
 all_goals try simp only[Zyv,Ztd,Zyt,Zoh,Zte,Zhn,Zd.c_def,Zgv,Zyu,mpl,dfs]
 all_goals try simp only[itb]
 all_goals try simp only[itf,gS,kk]
 all_goals repeat' first|refine exI λ_=>?_|refine anJ λ_ _=>?_|refine anI λ_=>?_|refine orE2 ?_ ?_|exact False.elim
 all_goals (intro h;first|rw[Ze Zk5.eq_1]|refine run Zb6f rfl ?_|rw[Ze Z73.eq_1]|refine run Zb6g rfl ?_)
 all_goals (refine Yf ?_ h;clear h;simp +decide[*,kk,tI,tII,Zk7,Zk6,Zbk9,Z74,Zbla])
abbrev Zcco:=Zuw.1.1
abbrev Zbq6:=Zuw.1.2
abbrev Zccp:=Zuw.2.1
abbrev Zccq:=Zuw.2.2.1
abbrev Zccr:=Zuw.2.2.2
end Go.Proofs.YtnnjbejcffjgfaaGreat
