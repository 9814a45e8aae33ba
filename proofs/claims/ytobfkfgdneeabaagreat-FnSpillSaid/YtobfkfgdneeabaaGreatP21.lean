/-
  Parts of the proofs for this seat: G19 G20 G21 SN SN2.
-/
import Derived.Test.YtobfkfgdneeabaaGreatP13
import Derived.Test.YtobfkfgdneeabaaGreatP14
set_option linter.all false
set_option maxRecDepth 100000
set_option maxHeartbeats 4000000
namespace Go.Proofs.YtobfkfgdneeabaaGreat
open Go.AM
def ZNI:iM XO λx x1 x2 r=>if x2<x1 then qL (w (1+x2)) λk2=>qL (r (some (.tup [I k2,.t .nil,.t .nil],[]))) λk1=>if x2=0 then qB (WS x.Scan) ((WH x.Scan=some (.tup [.t .nil,.t .nil,Bo false],[])/\Vb UF (λu2=>r (Il x u2 k2 x1 x2 (u2.length:Int) 0)))\/(∃(u2:V2) (u3:V2),WH x.Scan=some (.tup [L 1 (u3.map ic),.own 0,Bo true],[.arr 3 1 true (u2.map ic)])/\r (some (.tup [I k2,L 1 (u3.map ic),.own 0],[.arr 3 1 true (u2.map ic)])))) k1 else if x2=1 then qB (WS x.Sort_) ((WH x.Sort_=some (.tup [.t .nil,.t .nil,Bo false],[])/\Vb UF (λu2=>r (In x u2 k2 x1 x2 (u2.length:Int) 0)))\/(∃(u2:V2) (u3:V2),WH x.Sort_=some (.tup [L 1 (u3.map ic),.own 0,Bo true],[.arr 3 1 true (u2.map ic)])/\r (some (.tup [I k2,L 1 (u3.map ic),.own 0],[.arr 3 1 true (u2.map ic)])))) k1 else if x2=2 then qB (WS x.Hash) ((WH x.Hash=some (.tup [.t .nil,.t .nil,Bo false],[])/\Vb UF (λu2=>r (Io x u2 k2 x1 x2 (u2.length:Int) 0)))\/(∃(u2:V2) (u3:V2),WH x.Hash=some (.tup [L 1 (u3.map ic),.own 0,Bo true],[.arr 3 1 true (u2.map ic)])/\r (some (.tup [I k2,L 1 (u3.map ic),.own 0],[.arr 3 1 true (u2.map ic)])))) k1 else if x2=3 then qB (WS x.Merge) ((WH x.Merge=some (.tup [.t .nil,.t .nil,Bo false],[])/\Vb UF (λu2=>r (Ip x u2 k2 x1 x2 (u2.length:Int) 0)))\/(∃(u2:V2) (u3:V2),WH x.Merge=some (.tup [L 1 (u3.map ic),.own 0,Bo true],[.arr 3 1 true (u2.map ic)])/\r (some (.tup [I k2,L 1 (u3.map ic),.own 0],[.arr 3 1 true (u2.map ic)])))) k1 else if x2=4 then qB (WS x.Nested) ((WH x.Nested=some (.tup [.t .nil,.t .nil,Bo false],[])/\Vb UF (λu2=>r (Iq x u2 k2 x1 x2 (u2.length:Int) 0)))\/(∃(u2:V2) (u3:V2),WH x.Nested=some (.tup [L 1 (u3.map ic),.own 0,Bo true],[.arr 3 1 true (u2.map ic)])/\r (some (.tup [I k2,L 1 (u3.map ic),.own 0],[.arr 3 1 true (u2.map ic)])))) k1 else False else r (some (.tup [I 0,.t .nil,.t .nil],[])):=by
 refine qu ?_;intro x x1 x2 r;unfold Im;intro h;unfold XO;(try simp only[ZxW,Bm]);rw[Zk Zpn.eq_1];by_cases q1:x2<x1
 .rw[Ya q1]at h;by_cases q2:x2=0
  .rw[Ya q2]at h;subst q2;obtain⟨v,q3,h⟩:=h;unfold WS at q3
   try simp[Bm]at q3
   by_cases q4:v=true
   .rw[Ya q4]at h;rcases h with h|h
    .obtain⟨q5,h⟩:=h;unfold WH at q5
     try simp[Bm]at q5
     obtain⟨v1,q6,h⟩:=h;unfold UF at q6
     try simp[Bm]at q6
     refine Yd ?_ h;clear h;simp +decide[*,tI,Ax,Il,TS,ZxW,Bm]
    .obtain⟨v2,v3,q7,h⟩:=h;unfold WH at q7
     try simp[Bm]at q7
     refine Yd ?_ h;clear h;simp +decide[*,tI,Ax,Bm]
   .rw[Yb q4]at h;refine Yd ?_ h;clear h;simp +decide[*,tI,Ax,Bm]
  .rw[Yb q2]at h;replace q2:=eq_false q2;by_cases q8:x2=1
   .rw[Ya q8]at h;subst q8;obtain⟨v4,q9,h⟩:=h;unfold WS at q9
    try simp[Bm]at q9
    by_cases q10:v4=true
    .rw[Ya q10]at h;rcases h with h|h
     .obtain⟨q11,h⟩:=h;unfold WH at q11
      try simp[Bm]at q11
      obtain⟨v5,q12,h⟩:=h;unfold UF at q12
      try simp[Bm]at q12
      refine Yd ?_ h;clear h;simp +decide[*,tI,Ax,In,TS,ZxW,Bm]
     .obtain⟨v6,v7,q13,h⟩:=h;unfold WH at q13
      try simp[Bm]at q13
      refine Yd ?_ h;clear h;simp +decide[*,tI,Ax,Bm]
    .rw[Yb q10]at h;refine Yd ?_ h;clear h;simp +decide[*,tI,Ax,Bm]
   .rw[Yb q8]at h;replace q8:=eq_false q8;by_cases BK:x2=2
    .rw[Ya BK]at h;subst BK;obtain⟨v8,B9,h⟩:=h;unfold WS at B9
     try simp[Bm]at B9
     by_cases q16:v8=true
     .rw[Ya q16]at h;rcases h with h|h
      .obtain⟨CU,h⟩:=h;unfold WH at CU
       try simp[Bm]at CU
       obtain⟨v9,Ca,h⟩:=h;unfold UF at Ca
       try simp[Bm]at Ca
       refine Yd ?_ h;clear h;simp +decide[*,tI,Ax,Io,TS,ZxW,Bm]
      .obtain⟨v10,v11,CV,h⟩:=h;unfold WH at CV
       try simp[Bm]at CV
       refine Yd ?_ h;clear h;simp +decide[*,tI,Ax,Bm]
     .rw[Yb q16]at h;refine Yd ?_ h;clear h;simp +decide[*,tI,Ax,Bm]
    .rw[Yb BK]at h;replace BK:=eq_false BK;by_cases D1:x2=3
     .rw[Ya D1]at h;subst D1;obtain⟨v12,DR,h⟩:=h;unfold WS at DR
      try simp[Bm]at DR
      by_cases q22:v12=true
      .rw[Ya q22]at h;rcases h with h|h
       .obtain⟨q23,h⟩:=h;unfold WH at q23
        try simp[Bm]at q23
        obtain⟨v13,q24,h⟩:=h;unfold UF at q24
        try simp[Bm]at q24
        refine Yd ?_ h;clear h;simp +decide[*,tI,Ax,Ip,TS,ZxW,Bm]
       .obtain⟨v14,v15,Ee,h⟩:=h;unfold WH at Ee
        try simp[Bm]at Ee
        refine Yd ?_ h;clear h;simp +decide[*,tI,Ax,Bm]
      .rw[Yb q22]at h;refine Yd ?_ h;clear h;simp +decide[*,tI,Ax,Bm]
     .rw[Yb D1]at h;replace D1:=eq_false D1;by_cases Ef:x2=4
      .rw[Ya Ef]at h;subst Ef;obtain⟨v16,GZ,h⟩:=h;unfold WS at GZ
       try simp[Bm]at GZ
       by_cases NV:v16=true
       .rw[Ya NV]at h;rcases h with h|h
        .obtain⟨IQ,h⟩:=h;unfold WH at IQ
         try simp[Bm]at IQ
         obtain⟨v17,q30,h⟩:=h;unfold UF at q30
         try simp[Bm]at q30
         refine Yd ?_ h;clear h;simp +decide[*,tI,Ax,Iq,TS,ZxW,Bm]
        .obtain⟨v18,v19,IR,h⟩:=h;unfold WH at IR
         try simp[Bm]at IR
         refine Yd ?_ h;clear h;simp +decide[*,tI,Ax,Bm]
       .rw[Yb NV]at h;refine Yd ?_ h;clear h;simp +decide[*,tI,Ax,Bm]
      .rw[Yb Ef]at h;replace Ef:=eq_false Ef;cases h
 .rw[Yb q1]at h;refine Yd ?_ h;clear h;simp +decide[*,tI,Ax,ZxV,Bm]
abbrev aI:=uq ZNI
def ZNJ:((((iM Il λo x kind x1 x2 x3 x4 r=>if x4<x3 then qG x x4 (λu1=>qI (Kp o.Scan u1) (λu2=>if u2<1 then Mc kind u1 r else r (Il o x kind x1 x2 x3 (w (x4+1)))))else r (XO o x1 (w (x2+1))))/\
 (iM In λo x kind x1 x2 x3 x4 r=>if x4<x3 then qG x x4 (λu1=>qI (Kp o.Sort_ u1) (λu2=>if u2<1 then Mc kind u1 r else r (In o x kind x1 x2 x3 (w (x4+1)))))else r (XO o x1 (w (x2+1)))))/\
 ((iM Io λo x kind x1 x2 x3 x4 r=>if x4<x3 then qG x x4 (λu1=>qI (Kp o.Hash u1) (λu2=>if u2<1 then Mc kind u1 r else r (Io o x kind x1 x2 x3 (w (x4+1)))))else r (XO o x1 (w (x2+1))))/\
 (iM Ip λo x kind x1 x2 x3 x4 r=>if x4<x3 then qG x x4 (λu1=>qI (Kp o.Merge u1) (λu2=>if u2<1 then Mc kind u1 r else r (Ip o x kind x1 x2 x3 (w (x4+1)))))else r (XO o x1 (w (x2+1))))))/\
 (((iM Iq λo x kind x1 x2 x3 x4 r=>if x4<x3 then qG x x4 (λu1=>qI (Kp o.Nested u1) (λu2=>if u2<1 then Mc kind u1 r else r (Iq o x kind x1 x2 x3 (w (x4+1)))))else r (XO o x1 (w (x2+1))))/\
 (iM TQ λa r=>Ko a=some (.bsl 1 5,[.box (a.c.map .t),.box [.ptr 0 0,.ptr 0 6,.ptr 0 12,.ptr 0 18,.ptr 0 24]])/\r (XO a 5 0)))/\
 ((iM M4 λa r=>(∃(u1:V2),∃u2,∃(u3:V2),TQ a=some (.tup [I u2,L 1 (u3.map ic),.own 0],[.arr 3 1 true (u1.map ic)])/\qb (decide (u2=0)) r)\/(∃u1,TQ a=some (.tup [I u1,.t .nil,.t .nil],[])/\qb (decide (u1=0)) r)\/(∃u1,∃(u2:V2),TQ a=some (.tup [I u1,L 1 (u2.map ic),.t .nil],[])/\qb (decide (u1=0)) r))/\
 (iM TT λa r=>if(a.size:Int)=1 then ∃u1,a[0]?=some u1/\if 97<=(u1.toNat:Int)then qb (decide ((u1.toNat:Int)<=122)) r else qb false r else qb false r))))/\
 ((((iM lZ λs v x x1 r=>if x1<x then qG s x1 (λu1=>if v=u1 then qi x1 r else r (lZ s v x (w (x1+1))))else qi (-1) r)/\
 (iM UG λa a1 r=>r (lZ a a1 (a.length:Int) 0)))/\
 ((iM GJ λa a1 r=>qI (UG a a1) (λu1=>qb (decide (0<=u1)) r))/\
 (iM l0 λs v x x1 r=>if x1<x then qG s x1 (λu1=>if v=u1 then qi x1 r else r (l0 s v x (w (x1+1))))else qi (-1) r)))/\
 (((iM Zpo λa a1 r=>r (l0 a a1 (a.length:Int) 0))/\
 (iM Zpp λa a1 r=>qI (Zpo a a1) (λu1=>qb (decide (0<=u1)) r)))/\
 ((iM M5 λq seen x x1 x2 r=>if x2<x1 then qG x x2 (λu1=>qB (TT u1.Name) (qB (Xd (u1.Vars.length:Int) 1 3) (r (l8 q seen u1 x x1 x2 u1.Vars (u1.Vars.length:Int) 0)) (qb false r)) (qb false r))else qV (Zpp seen false) (λu1=>qb (!u1) r))/\
 ((iM l8 λq seen a x x1 x2 x3 x4 x5 r=>if x5<x4 then qG x3 x5 (λu1=>qB (Xd u1 0 (w (q.Zi-1))) (x5.toNat<=a.Vars.length/\qB (GJ (a.Vars.take x5.toNat) u1) (qb false r) (qG seen u1 (λu4=>r (l8 q (seen.set u1.toNat true) a x x1 x2 x3 x4 (w (x5+1)))))) (qb false r))else r (M5 q seen x x1 (w (x2+1))))/\
 (iM Zps λa a1 r=>qb (decide (a.Name=a1)) r))))):=by
 refine qu ?_
 and_intros
 all_goals(intros;unfold Im;(try simp only[Il,In,Io,Ip,Iq,TQ,M4,TT,lZ,UG,GJ,l0,Zpo,Zpp,M5,l8,Zps,Kp,Zy.c_def,Ko,Zt.c_def,Xd,XO,TS,Bm,ZxW,Zyg,A7,AY]);(try simp only[AZ]);(try simp only[A0,gS,kk]))
 all_goals(repeat' first|refine Bs λ_=>?_|refine Br λ_ _=>?_|refine Bq λ_=>?_|refine AL ?_ ?_|exact False.elim)
 all_goals(intro h;first|rw[Zk ZxT.eq_1]|refine run ZKW rfl ?_|refine run ZKX rfl ?_|refine run ZKY rfl ?_|rw[Zk ZxY.eq_1]|refine run ZKZ rfl ?_|refine run ZLa rfl ?_|rw[Zk Zyb.eq_1]|refine run ZLb rfl ?_|refine run ZLc rfl ?_|rw[Zk Zpq.eq_1]|rw[Zk Zyd.eq_1]|refine run ZLe rfl ?_)
 all_goals (refine Yd ?_ h;clear h;simp +decide[*,kk,tI,Ax,ZxU,Z9G,Z9H,Z9I,ZxZ,Z9J,Z9K,Zyc,Z9L,Z9M,Zyf,Zye,Z9N])
abbrev Wz:=uq ZNJ
def ZNK:iM Ir λa r=>qB (Xd a.Zi 1 4) (qB (Xd (a.Atoms.length:Int) 1 4) (0<=a.Zi/\a.Zi.toNat*1<=room/\a.Zi<=140737488355328/\r (M5 a (List.replicate (a.Zi).toNat false) a.Atoms (a.Atoms.length:Int) 0)) (qb false r)) (qb false r):=by
 refine qu ?_;intro a r;unfold Im;intro h;unfold Ir;(try simp only[Bm]);refine run ZLd rfl ?_;obtain⟨v,q1,h⟩:=h;unfold Xd at q1
 try simp[Bm]at q1
 by_cases q2:v=true
 .rw[Ya q2]at h;obtain⟨v1,q3,h⟩:=h;unfold Xd at q3
  try simp[Bm]at q3
  by_cases q4:v1=true
  .rw[Ya q4]at h;obtain⟨q5,h⟩:=h;obtain⟨q6,h⟩:=h;have zq6:=q6;try simp[Bm]at zq6
   obtain⟨q7,h⟩:=h;refine Yd ?_ h;clear h;simp +decide[*,Zpr,tI,Ax,M5,Zyg,Bm]
  .rw[Yb q4]at h;refine Yd ?_ h;clear h;simp +decide[*,Zpr,tI,Ax,Bm]
 .rw[Yb q2]at h;refine Yd ?_ h;clear h;simp +decide[*,Zpr,tI,Ax,Bm]
abbrev ZNL:=uq ZNK
def ZNM:((((iM l9 λs f x x1 r=>if x1<x then qG s x1 (λu1=>qB (Zps u1 f) (qi x1 r) (r (l9 s f x (w (x1+1)))))else qi (-1) r)/\
 (iM Zpt λa a1 r=>r (l9 a a1 (a.length:Int) 0)))/\
 ((iM mA λrow arity x x1 x2 r=>if x2<x1 then qG x x2 (λu1=>qB (Xd u1 0 9) (r (mA row arity x x1 (w (x2+1)))) (qb false r))else qb (decide ((row.length:Int)=arity)) r)/\
 (iM TU λa a1 r=>r (mA a a1 a (a.length:Int) 0))))/\
 (((iM Zpu λa r=>qb (!(decide (a=a))) r)/\
 (iM Zpv λa a1 r=>qV (Zpu a) (λu1=>qV (Zpu a1) (λu2=>if u1=true then if u2=true then qi 0 r else qi (-1) r else if u2=true then qi 1 r else if a<a1 then qi (-1) r else if a1<a then qi 1 r else qi 0 r))))/\
 ((iM mB λs1 s2 x x1 x2 r=>if x2<x1 then qG x x2 (λu1=>if(s2.length:Int)<=x2 then qi 1 r else qH s2 x2 (λu2=>qI (Zpv u1 u2) (λu3=>if u3=0 then r (mB s1 s2 x x1 (w (x2+1)))else qi u3 r)))else if(s1.length:Int)<(s2.length:Int)then qi (-1) r else qi 0 r)/\
 ((iM Zyq λa a1 r=>r (mB a a1 a (a.length:Int) 0))/\
 (iM Zpw λa a1 r=>qI (Zyq a a1) (λu1=>qi u1 r))))))/\
 ((((iM mC λrows i r=>if i<(rows.length:Int)then 0<=(w (i-1))/\∃u1,rows[(w (i-1)).toNat]?=some u1/\qG rows i (λu2=>qI (Zpw u1 u2) (λu3=>if 0<=u3 then qb false r else r (mC rows (w (i+1)))))else qb true r)/\
 (iM Zpx λa r=>r (mC a 1)))/\
 ((iM mD λt x x1 x2 r=>qL (qb false r) λk1=>if x2<x1 then qG x x2 (λu1=>qB (TU u1 t.Arity) (r (mD t x x1 (w (x2+1)))) k1)else qB (TT t.Name) (qB (Xd t.Arity 1 3) (if(t.Rows.length:Int)<=8 then qV (Zpx t.Rows) (λu3=>qb u3 r)else k1) k1) k1)/\
 (iM Zpy λa r=>r (mD a a.Rows (a.Rows.length:Int) 0))))/\
 (((iM mF λdb x x1 x2 r=>if x2<x1 then qG x x2 (λu1=>qB (Zpy u1) (qL (r (mF db x x1 (w (x2+1)))) λk1=>if 0<x2 then 0<=(w (x2-1))/\∃u3,db.Tables[(w (x2-1)).toNat]?=some u3/\if(Op.bytesLess u3.Name.toList u1.Name.toList)=true then k1 else qb false r else k1) (qb false r))else qb (decide ((db.Tables.length:Int)<=6)) r)/\
 (iM mE λa r=>r (mF a a.Tables (a.Tables.length:Int) 0)))/\
 ((iM mG λout x x1 x2 r=>if x2<x1 then qG x x2 (λu1=>AX (VX u1) (λu2=>qN out (r (mG (out++[u2]) x x1 (w (x2+1))))))else Q6 out r)/\
 ((iM Is λa r=>r (mG ([]:XS) a (a.length:Int) 0))/\
 (iM Zpz λa r=>Vb (Is a.Rows) (λu1=>r (some (.agg [.t (.str a.Name),I a.Arity,.own 0],[.arr 38 1 true (u1.map Ae)])))))))):=by
 refine qu ?_
 and_intros
 all_goals(intros;unfold Im;(try simp only[l9,Zpt,mA,TU,Zpu,Zpv,mB,Zyq,Zpw,mC,Zpx,mD,Zpy,mF,mE,mG,Is,Zpz,Zps,Zl.c_def,Xd,TT,VX,Bm,A7,AY]);(try simp only[AZ]);(try simp only[A0,gS,kk]))
 all_goals(repeat' first|refine Bs λ_=>?_|refine Br λ_ _=>?_|refine Bq λ_=>?_|refine AL ?_ ?_|exact False.elim)
 all_goals(intro h;first|rw[Zk Zyi.eq_1]|refine run ZLf rfl ?_|rw[Zk Zyl.eq_1]|refine run ZLg rfl ?_|refine run ZLh rfl ?_|refine run ZLi rfl ?_|rw[Zk Zyo.eq_1]|refine run ZLj rfl ?_|refine run ZLk rfl ?_|rw[Zk Zys.eq_1]|refine run ZLl rfl ?_|rw[Zk Zyv.eq_1]|refine run ZLm rfl ?_|rw[Zk Zyy.eq_1]|refine run ZLn rfl ?_|rw[Zk Zy1.eq_1]|refine run ZLo rfl ?_|refine run ZLp rfl ?_)
 all_goals (refine Yd ?_ h;clear h;simp +decide[*,kk,tI,Ax,Zyj,Z9O,Zym,Z9P,Z9Q,Z9R,Zyp,Z9S,Z9T,Zyt,Z9U,Zyw,Z9V,Zyz,Z9W,Zy2,Z9X,Z9Y])
abbrev Wo:=uq ZNM
def ZNN:(((iM It λa a1 r=>qI (Zpt a.Tables a1) (λu1=>if u1<0 then R6 r else qB (mE a) (qG a.Tables u1 (λu3=>∃(u4:XS),∃u5,∃u6,Zpz u3=some (.agg [.t (.str u5),I u6,.own 0],[.arr 38 1 true (u4.map Ae)])/\r (some (.tup [.agg [.t (.str u5),I u6,.own 0],Bo true],[.arr 38 1 true (u4.map Ae)])))) (R6 r)))/\
 (iM mH λdb x x1 x2 r=>if x2<x1 then qG x x2 (λu1=>(∃u2 u3,It db u1.Name=some (.tup [.agg [.t (.str u2),I u3,.t .nil],Bo false],[])/\qb false r)\/(∃(u2:XS),∃u3,∃u4,It db u1.Name=some (.tup [.agg [.t (.str u3),I u4,.own 0],Bo true],[.arr 38 1 true (u2.map Ae)])/\if u4=(u1.Vars.length:Int)then r (mH db x x1 (w (x2+1)))else qb false r))else qb true r))/\
 ((iM GK λa a1 r=>qB (Ir a1) (r (mH a a1.Atoms (a1.Atoms.length:Int) 0)) (qb false r))/\
 (iM M6 λq out mask v r=>if v<q.Zi then r (mJ q out mask v q.Atoms (q.Atoms.length:Int) 0)else Bn out r)))/\
 (((iM mJ λq out mask v x x1 x2 r=>if x2<x1 then qG x x2 (λu1=>¬x2<0/\qL (r (mJ q out mask v x x1 (w (x2+1)))) λk1=>if(Ai (As mask x2) 1)=1 then qB (GJ u1.Vars v) (qN out (r (M6 q (out++[v]) mask (w (v+1))))) k1 else k1)else r (M6 q out mask (w (v+1))))/\
 (iM TV λa a1 r=>r (M6 a ([]:V2) a1 0)))/\
 ((iM TW λout b x x1 x2 r=>if x2<x1 then qG x x2 (λu1=>qB (GJ b u1) (qN out (r (TW (out++[u1]) b x x1 (w (x2+1))))) (r (TW out b x x1 (w (x2+1)))))else Bn out r)/\
 ((iM Zp2 λa a1 r=>r (TW ([]:V2) a1 a (a.length:Int) 0))/\
 (iM M7 λa a1 a2 a3 r=>if a1.Kind=1 then qB (Xd a1.Zd 0 (w ((a.Atoms.length:Int)-1))) (if a1.Order=0 then ¬a1.Zd<0/\qG a.Atoms a1.Zd (λu2=>∃u3,u2.Vars[0]?=some u3/\r (some (.tup [.agg [I (Ac 1 a1.Zd),I u3,I (-1),I (-1)],Bo true],[])))else JZ r) (JZ r)else if a1.Zd=0 then qL (a3.length:Int) λk2=>qL (w (k2-1)) λk4=>if a1.Kind=2 then if k2<1 then JZ r else 0<=k4/\∃u1,a3[k4.toNat]?=some u1/\qG a2 u1 (λu2=>AX (TV a u2.Mask) (λu3=>qB (GJ u3 a1.Order) (if u2.Order=a1.Order then JZ r else r (some (.tup [.agg [I u2.Mask,I a1.Order,I u1,I (-1)],Bo true],[]))) (JZ r)))else if k2<2 then JZ r else 0<=(w (k2-2))/\∃u1,a3[(w (k2-2)).toNat]?=some u1/\0<=k4/\∃u2,a3[k4.toNat]?=some u2/\qG a2 u1 (λu3=>qG a2 u2 (λu4=>AX (TV a u3.Mask) (λu5=>AX (TV a u4.Mask) (λu6=>AX (Zp2 u5 u6) (λu7=>qL (Az u3.Mask u4.Mask) λk1=>qL (Mf k1 u1 u2 r) λk5=>if(Ai u3.Mask u4.Mask)=0 then if(u7.length:Int)=0 then k5 else if a1.Kind=3 then r (some (.tup [.agg [I k1,I (-1),I u1,I u2],Bo (decide (a1.Order=0))],[]))else if a1.Kind=5 then r (some (.tup [.agg [I k1,I u3.Order,I u1,I u2],Bo (decide (a1.Order=0))],[]))else if a1.Kind=4 then qL (r (some (.tup [.agg [I k1,I a1.Order,I u1,I u2],Bo false],[]))) λk3=>qB (GJ u7 a1.Order) (if u3.Order=a1.Order then r (some (.tup [.agg [I k1,I a1.Order,I u1,I u2],Bo (decide (u4.Order=a1.Order))],[]))else k3) k3 else k5 else k5)))))else JZ r)))):=by
 refine qu ?_
 and_intros
 all_goals(intros;unfold Im;(try simp only[It,mH,GK,M6,mJ,TV,TW,Zp2,M7,Zpt,mE,Zpz,Zj.c_def,Zl.c_def,Ir,Zc.c_def,GJ,Xd,Bm,Zy9,A7,AY]);(try simp only[AZ]);(try simp only[A0,gS,kk]))
 all_goals(repeat' first|refine Bs λ_=>?_|refine Br λ_ _=>?_|refine Bq λ_=>?_|refine AL ?_ ?_|exact False.elim)
 all_goals(intro h;first|refine run ZLq rfl ?_|rw[Zk Zy4.eq_1]|refine run ZLr rfl ?_|rw[Zk Zp0.eq_1]|rw[Zk Zy6.eq_1]|refine run ZLs rfl ?_|rw[Zk ZyA.eq_1]|refine run ZLt rfl ?_|refine run ZLu rfl ?_)
 all_goals (refine Yd ?_ h;clear h;simp +decide[*,kk,tI,Ax,Z9Z,Zy5,ZAa,Zy8,Zy7,ZAb,ZAc,ZyB,ZAd,ZAe])
abbrev Vn:=uq ZNN
def ZNO:((((iM mK λq info stack x x1 x2 r=>qL (stack.length:Int) λk1=>if x2<x1 then qG x x2 (λu1=>∃(u2:Zf),∃u3,M7 q u1 info stack=some (.tup [.agg (u2.c.map .t),Bo u3],[])/\if u3=true then qN info (qL (mK q (info++[u2])) λk2=>if 0<=u2.Right then qL (w (k1-2)) λk3=>0<=k3/\k3.toNat<=stack.length/\k3.toNat+1<=68719476736/\r (k2 ((stack.take (k3.toNat))++[x2]) x x1 (w (x2+1)))else if 0<=u2.Left then qL (w (k1-1)) λk4=>0<=k4/\k4.toNat<=stack.length/\k4.toNat+1<=68719476736/\r (k2 ((stack.take (k4.toNat))++[x2]) x x1 (w (x2+1)))else qN stack (r (k2 (stack++[x2]) x x1 (w (x2+1)))))else Sa r)else if k1=1 then Zno info r else Sa r)/\
 (iM UH λa a1 r=>qB (Ir a) (qB (Xd (a1.Steps.length:Int) 1 14) (r (mK a ([]:List Zf) ([]:V2) a1.Steps (a1.Steps.length:Int) 0)) (Sa r)) (Sa r)))/\
 ((iM mL λa a1 r=>(UH a a1=some (.tup [.t .nil,Bo false],[])/\qb false r)\/(Me (UH a a1) (λu1=>qb true r)))/\
 (iM mN λlocation x x1 x2 r=>if x2<x1 then qG x x2 (λu1=>qB (Xd u1 0 7) (r (mN location x x1 (w (x2+1)))) (qb false r))else qb (decide ((location.length:Int)<=16)) r)))/\
 (((iM mM λa r=>r (mN a a (a.length:Int) 0))/\
 (iM mO λa b x x1 r=>if x1<x then qG a x1 (λu1=>qH b x1 (λu2=>if u1<u2 then qb false r else r (mO a b x (w (x1+1)))))else qb true r))/\
 ((iM Zp4 λa a1 r=>if(a.length:Int)=(a1.length:Int)then r (mO a a1 (a.length:Int) 0)else qb false r)/\
 ((iM Iu λa r=>qB (mM a.Low) (qB (mM a.High) (if 0<(a.Low.length:Int)then qV (Zp4 a.High a.Low) (λu3=>qb u3 r)else qb false r) (qb false r)) (qb false r))/\
 (iM Zp5 λa r=>qB (Ir a) (¬(a.Atoms.length:Int)<0/\qi (w ((Ac 1 (a.Atoms.length:Int))-1)) r) (qi 0 r))))))/\
 ((((iM TX λa a1 r=>qB (Iu a1) (qI (Zp5 a) (λu2=>qb (decide ((a1.Low.length:Int)=(w (u2+1)))) r)) (qb false r))/\
 (iM TZ λout x x1 x2 r=>if x2<x1 then qG x x2 (λu1=>if 3<=u1.Kind then qN out (r (TZ (out++[x2]) x x1 (w (x2+1))))else r (TZ out x x1 (w (x2+1))))else Bn out r))/\
 ((iM TY λa r=>r (TZ ([]:V2) a.Steps (a.Steps.length:Int) 0))/\
 (iM mP λb info x x1 x2 r=>if x2<x1 then qG x x2 (λu1=>qG info u1 (λu2=>qG b.Low u2.Mask (λu3=>qH b.High u2.Mask (λu4=>if u3<u4 then qi u2.Mask r else r (mP b info x x1 (w (x2+1)))))))else qi 0 r)))/\
 (((iM M8 λa a1 a2 r=>(UH a a1=some (.tup [.t .nil,Bo false],[])/\qi 0 r)\/(Me (UH a a1) (λu1=>qB (TX a a2) (AX (TY a1) (λu3=>r (mP a2 u1 u3 (u3.length:Int) 0))) (qi 0 r))))/\
 (iM mQ λinfo step r=>qG info step (λu1=>if 0<=u1.Left then r (mQ info u1.Left)else qi step r)))/\
 ((iM Zp7 λa a1 r=>r (mQ a a1))/\
 ((iM Zp8 λa r=>qM a.Steps (R9 a.Steps r))/\
 (iM T0 λa a1 a2 r=>(UH a a1=some (.tup [.t .nil,Bo false],[])/\Gl r)\/(Me (UH a a1) (λu1=>qB (Xd a2 0 (w ((u1.length:Int)-1))) (qI (Zp7 u1 a2) (λu3=>0<=u3/\qL (w (a2+1)) λk1=>0<=k1/\u3.toNat<=k1.toNat/\k1.toNat<=a1.Steps.length/\Qb (Zp8 (⟨((a1.Steps.take (k1.toNat)).drop u3.toNat)⟩:Zr)) (λu4=>gC u4 r))) (Gl r)))))))):=by
 refine qu ?_
 and_intros
 all_goals(intros;unfold Im;(try simp only[mK,UH,mL,mN,mM,mO,Zp4,Iu,Zp5,TX,TZ,TY,mP,M8,mQ,Zp7,Zp8,T0,M7,Zn.c_def,Zc.c_def,Zf.c_def,Ir,Xd,Zr.c_def,Box.c_def,Bm,A7,AY]);(try simp only[AZ]);(try simp only[A0,gS,kk]))
 all_goals(repeat' first|refine Bs λ_=>?_|refine Br λ_ _=>?_|refine Bq λ_=>?_|refine AL ?_ ?_|exact False.elim)
 all_goals(intro h;first|rw[Zk ZyC.eq_1]|refine run ZLv rfl ?_|refine run ZLw rfl ?_|rw[Zk ZyF.eq_1]|refine run ZLx rfl ?_|rw[Zk ZyI.eq_1]|refine run ZLy rfl ?_|refine run ZLz rfl ?_|refine run ZL0 rfl ?_|refine run ZL1 rfl ?_|rw[Zk ZyK.eq_1]|refine run ZL2 rfl ?_|rw[Zk ZyN.eq_1]|refine run ZL3 rfl ?_|rw[Zk ZyQ.eq_1]|refine run ZL4 rfl ?_|refine run ZL5 rfl ?_|refine run ZL6 rfl ?_)
 all_goals (refine Yd ?_ h;clear h;simp +decide[*,kk,tI,Ax,ZAf,ZyD,ZAg,ZAh,ZyG,ZAi,ZyJ,ZAj,ZAk,ZAl,ZAm,ZAn,ZyL,ZAo,ZyO,ZAp,ZyR,ZAq,ZAr,ZAs])
abbrev WN:=uq ZNO
def ZNP:(((iM mR λq p info x mask x1 x2 r=>qL (z7 ([]:List Zn) r) λk1=>if x2<x1 then qG x x2 (λu1=>qG info u1 (λu2=>if u2.Mask=mask then((T0 q p u1=some (.tup [.agg [.t .nil],Bo false],[])/\k1)\/(fX (T0 q p u1) (λu3=>r (some (.tup [.agg [L 3 (u3.map Zn.c)],Bo true],[])))))else r (mR q p info x mask x1 (w (x2+1)))))else k1)/\
 (iM Iv λa a1 a2 r=>(UH a a1=some (.tup [.t .nil,Bo false],[])/\z7 ([]:List Zn) r)\/(Me (UH a a1) (λu1=>AX (TY a1) (λu2=>r (mR a a1 u1 u2 a2 (u2.length:Int) 0))))))/\
 ((iM Zza λa x x1 x2 x3 r=>if x3<x2 then qG x1 x3 (λu1=>r (mT a x ([]:V2) x1 u1 x2 x3 (x.length:Int) 0))else Qd x r)/\
 ((iM mT λa x x1 x2 row x3 x4 x5 x6 r=>if x6<x5 then qG x x6 (λu1=>qI (UG a.Vars u1) (λu2=>qG row u2 (λu3=>qN x1 (r (mT a x (x1++[u3]) x2 row x3 x4 x5 (w (x6+1)))))))else r (Na a x ([x1]) x2 x3 (w (x4+1))))/\
 (iM Na λa x x1 x2 x3 x4 r=>if x4<x3 then qG x2 x4 (λu1=>r (mU a x x1 ([]:V2) x2 u1 x3 x4 (x.length:Int) 0))else VR x x1 r))))/\
 (((iM mU λa x x1 x2 x3 row x4 x5 x6 x7 r=>if x7<x6 then qG x x7 (λu1=>qI (UG a.Vars u1) (λu2=>qG row u2 (λu3=>qN x2 (r (mU a x x1 (x2++[u3]) x3 row x4 x5 x6 (w (x7+1)))))))else qN x1 (r (Na a x (x1++[x2]) x3 x4 (w (x5+1)))))/\
 (iM mS λa a1 a2 r=>qB (GK a a1) (qB (Xd a2 0 (w ((a1.Atoms.length:Int)-1))) (qG a1.Atoms a2 (λu3=>(∃u4 u5,It a u3.Name=some (.tup [.agg [.t (.str u4),I u5,.t .nil],Bo false],[])/\AX (VX u3.Vars) (λu6=>fY (M9 u6) (λu7=>r (ZAv u3 u7 0 0))))\/(∃(u4:XS),∃u5,∃u6,It a u3.Name=some (.tup [.agg [.t (.str u5),I u6,.own 0],Bo true],[.arr 38 1 true (u4.map Ae)])/\AX (VX u3.Vars) (λu7=>fY (M9 u7) (λu8=>r (Zza u3 u8 u4 (u4.length:Int) 0)))))) (BQ r)) (BQ r)))/\
 ((iM mV λcolumns arity x x1 x2 r=>if x2<x1 then qG x x2 (λu1=>qB (Xd u1 0 (w (arity-1))) (qL (r (mV columns arity x x1 (w (x2+1)))) λk1=>if 0<x2 then 0<=(w (x2-1))/\∃u3,columns[(w (x2-1)).toNat]?=some u3/\if u1<=u3 then qb false r else k1 else k1) (qb false r))else qb true r)/\
 ((iM Zzf λa a1 r=>r (mV a a1 a (a.length:Int) 0))/\
 (iM ZpB λa r=>qV (Zzf a 4) (λu1=>qb u1 r))))):=by
 refine qu ?_
 and_intros
 all_goals(intros;unfold Im;(try simp only[mR,Iv,Zza,mT,Na,mU,mS,mV,Zzf,ZpB,T0,Zr.c_def,Zc.c_def,UH,TY,UG,GK,Xd,It,VX,M9,Zj.c_def,ZAv,Bm,ZpA,ZyZ,Zzb,A7,AY]);(try simp only[AZ]);(try simp only[A0,gS,kk]))
 all_goals(repeat' first|refine Bs λ_=>?_|refine Br λ_ _=>?_|refine Bq λ_=>?_|refine AL ?_ ?_|exact False.elim)
 all_goals(intro h;first|rw[Zk ZyT.eq_1]|refine run ZL7 rfl ?_|rw[Zk Zp9.eq_1]|rw[Zk ZyV.eq_1]|refine run ZL8 rfl ?_|rw[Zk Zzd.eq_1]|refine run ZL9 rfl ?_|refine run ZLA rfl ?_)
 all_goals (refine Yd ?_ h;clear h;simp +decide[*,kk,tI,Ax,ZyU,ZAt,ZyY,ZyX,ZyW,ZAu,Zze,ZAw,ZAx])
abbrev UI:=uq ZNP
end Go.Proofs.YtobfkfgdneeabaaGreat
namespace Go.AM
def Vo(l:XS)(i:Nat)(e:V2):(l.map Ae).set i [.lst 1 (e.map ic)]=(l.set i e).map Ae:=by rw[List.map_set];rfl
def Zq4(l:V2)(v:Int):l.map ic++[[.int .i64 v]]=(l++[v]).map ic:=by simp
def Vp(a b:Int)(k:IntKind):AK .shr (.int .u64 a) (.int k b)=if b<0 then none else some (.int .u64 (As a b)):=by simp[AK,As,IntKind.bits]
end Go.AM
namespace Go.Proofs.YtobfkfgdneeabaaGreat
open Go.AM
def pI(l:List Zu)(a b:Int)(c:Bool):l.map Zu.c++[[.int .i64 a,.int .i64 b,.bool c]]=(l++[(⟨a,b,c⟩:Zu)]).map Zu.c:=by simp
