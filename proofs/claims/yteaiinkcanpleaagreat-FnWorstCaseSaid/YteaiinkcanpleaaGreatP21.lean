/-
  Parts of the proofs for this seat: G25 G26 G27.
-/
import Derived.Test.YteaiinkcanpleaaGreatP12
set_option linter.all false
set_option maxRecDepth 100000
set_option maxHeartbeats 4000000
namespace Go.Proofs.YteaiinkcanpleaaGreat
open Go.AM
def ZKU:((((iM R8 λvars mask out x x1 x2 r=>if x2<x1 then qG x x2 (λu1=>¬x2<0/\qL (r (R8 vars mask out x x1 (w (x2+1)))) λk1=>if(Ah (Au mask x2) 1)=0 then AO (HE u1.Vars vars) (λu2=>if 0<(u2.length:Int)then r (R8 vars mask (At out (Ac 1 x2)) x x1 (w (x2+1)))else k1)else k1)else qi out r)/\
 (iM Zps λa a1 r=>AO (J5 a a1) (λu1=>r (R8 u1 a1 0 a.Atoms (a.Atoms.length:Int) 0))))/\
 ((iM iJ λq mask got r=>qI (Zps q got) (λu1=>qL (At got (Ah u1 mask)) λk1=>if k1=got then qb (decide (got=mask)) r else r (iJ q mask k1)))/\
 (iM F3 λa a1 r=>if a1=0 then qb false r else r (iJ a a1 (Ah a1 (w (0-a1)))))))/\
 (((iM L8 λa a1 r=>qB (L7 a a1) (qV (F3 a a1) (λu2=>qb u2 r)) (qb false r))/\
 (iM J6 λx r=>r (some (.bsl 1 5,[.box (x.c.map .t),.box [.ptr 0 0,.ptr 0 6,.ptr 0 12,.ptr 0 18,.ptr 0 24]]))))/\
 ((iM Zpt λx r=>r (some (.bsl 1 5,[.box (x.c.map .t),.box [.ptr 0 0,.ptr 0 1,.ptr 0 2,.ptr 0 3,.ptr 0 4]])))/\
 ((iM L9 λo x x1 x2 r=>if x2<x1 then qG x x2 (λu1=>qB (Xj u1.Add (-99) 99) (qB (Xj u1.From 1 8192) (qL (r (L9 o x x1 (w (x2+1)))) λk1=>if 0<x2 then 0<=(w (x2-1))/\∃u4,o.Steps[(w (x2-1)).toNat]?=some u4/\if u1.From<=u4.From then qb false r else k1 else k1) (qb false r)) (qb false r))else qb (decide ((o.Steps.length:Int)<=4)) r)/\
 (iM WX λa r=>Zpt a=some (.bsl 1 5,[.box (a.c.map .t),.box [.ptr 0 0,.ptr 0 1,.ptr 0 2,.ptr 0 3,.ptr 0 4]])/\r (J7 a 5 0))))))/\
 ((((iM R9 λout a r=>if a<=7 then r (Mb out a 0)else Kb out r)/\
 (iM Mb λout a b r=>if b<=7 then r (Sa out a b 0)else r (R9 out (w (a+1)))))/\
 ((iM Sa λout a b c r=>if c<=7 then qN out (r (Sa (out++[[a,b,c]]) a b (w (c+1))))else r (Mb out a (w (b+1))))/\
 (iM UQ λr=>r (R9 ([]:WA) 0))))/\
 (((iM Mc λa r=>qM a (AZ a r))/\
 (iM HG λa r=>qB (Xj a 0 7) (if a=0 then qi 0 r else ¬(w (2*(w (a-1))))<0/\qi (Ac 1 (w (2*(w (a-1))))) r) (qi (-1) r)))/\
 ((iM Sc λleft right n x x1 x2 r=>if x2<x1 then qG x x2 (λu1=>if u1.From<=(w (left+right))then r (Sc left right (w (n+u1.Add)) x x1 (w (x2+1)))else r (Sc left right n x x1 (w (x2+1))))else qi n r)/\
 ((iM Sb λa a1 a2 a3 r=>r (Sc a1 a2 (w ((w ((w ((w (a.Fixed+(w (a.ZR*a1))))+(w (a.ZS*a2))))+(w (a.ZT*a3))))+(w ((w (a.ZU*a1))*a2)))) a.Steps (a.Steps.length:Int) 0))/\
 (iM Km λa a1 r=>∃u1,a1[0]?=some u1/\qI (HG u1) (λu2=>∃u3,a1[1]?=some u3/\qI (HG u3) (λu4=>∃u5,a1[2]?=some u5/\qI (HG u5) (λu6=>qI (Sb a u2 u4 u6) (λu7=>qi u7 r))))))))):=by
 refine qu ?_
 and_intros
 all_goals(intros;unfold Im;(try simp only[R8,Zps,iJ,F3,L8,J6,Zpt,L9,WX,R9,Mb,Sa,UQ,Mc,HG,Sc,Sb,Km,HE,J5,Zc.c_def,L7,Xj,Zz.c_def,J7,Aq,Zzr,Zzs,Bc,A8]);(try simp only[Bd]);(try simp only[Be,gS,kk]))
 all_goals(repeat' first|refine Bp λ_=>?_|refine Bn λ_ _=>?_|refine Bm λ_=>?_|refine AH ?_ ?_|exact False.elim)
 all_goals(intro h;first|rw[Zl Zzg.eq_1]|refine run ZIZ rfl ?_|rw[Zl Zzi.eq_1]|refine run ZJa rfl ?_|refine run ZJb rfl ?_|refine XH ZJc rfl ?_|refine XH ZJd rfl ?_|rw[Zl Zzk.eq_1]|refine run ZJe rfl ?_|rw[Zl Zpv.eq_1]|rw[Zl Zpu.eq_1]|rw[Zl Zzn.eq_1]|refine run ZJf rfl ?_|refine run ZJg rfl ?_|refine run ZJh rfl ?_|rw[Zl Zzt.eq_1]|refine run ZJi rfl ?_|refine run ZJj rfl ?_)
 all_goals (refine Ye ?_ h;clear h;simp +decide[*,kk,tI,Av,Z8U,Zzh,Z8V,Z8X,Z8Y,Z8Z,Z9a,Zzl,Z9b,Zzq,Zzp,Zzo,Z9c,Z9d,Z9e,Z9f,Zzu,Z9g,Z9h])
abbrev Wp:=uq ZKU
def ZKV:(iM HH λo x x1 x2 r=>if x2<x1 then qG x x2 (λu1=>r (F4 o x u1 x1 x2 (u1.length:Int) 0))else vH r)/\
 ((iM F4 λo x t x1 x2 x3 x4 r=>if x4<x3 then qG t x4 (λu1=>qL (r (F4 o x t x1 x2 x3 (w (x4+1)))) λk1=>if u1=7 then k1 else AO (Mc t) (λu2=>qH u2 x4 (λu3=>qL (u2.set x4.toNat (w (u3+1))) λk2=>qI (Km o k2) (λu4=>qI (Km o t) (λu5=>if u4<u5 then r (some (.tup [L 1 (t.map ic),.own 0,Bo true],[.arr 3 1 true (k2.map ic)]))else k1)))))else r (HH o x x1 (w (x2+1))))/\
 (iM WE λa r=>qB (WX a) (Uc UQ (λu2=>r (HH a u2 (u2.length:Int) 0))) (vH r))):=by
 refine qu ?_
 and_intros
 all_goals(intros;unfold Im;(try simp only[HH,F4,WE,Mc,Km,Zz.c_def,WX,UQ,Aq,Zzy,Bc,A8]);(try simp only[Bd]);(try simp only[Be,gS,kk]))
 all_goals(repeat' first|refine Bp λ_=>?_|refine Bn λ_ _=>?_|refine Bm λ_=>?_|refine AH ?_ ?_|exact False.elim)
 all_goals(intro h;first|rw[Zl Zpx.eq_1]|rw[Zl Zzv.eq_1]|refine run ZJk rfl ?_)
 all_goals (refine Ye ?_ h;clear h;simp +decide[*,kk,tI,Av,Zzx,Z9i,Zzw,Z9j])
abbrev kI:=uq ZKV
def ZKW:iM J7 λo x x1 r=>if x1<x then qL (r (J7 o x (w (x1+1)))) λk1=>qL (qb false r) λk2=>if x1=0 then qB (Xj o.Fixed (-99) 99) k1 k2 else if x1=1 then qB (Xj o.ZR (-99) 99) k1 k2 else if x1=2 then qB (Xj o.ZS (-99) 99) k1 k2 else if x1=3 then qB (Xj o.ZT (-99) 99) k1 k2 else if x1=4 then qB (Xj o.ZU (-99) 99) k1 k2 else False else r (L9 o o.Steps (o.Steps.length:Int) 0):=by
 refine qu ?_;intro o x x1 r;unfold Im;intro h;unfold J7
 try simp only[Aq]
 rw[Zl Zzj.eq_1];by_cases q1:x1<x
 .rw[Ya q1]at h;by_cases q2:x1=0
  .rw[Ya q2]at h;subst q2;obtain⟨v,q3,h⟩:=h;unfold Xj at q3
   try simp[Aq]at q3
   by_cases q4:v=true
   .rw[Ya q4]at h;refine Ye ?_ h;clear h;simp +decide[*,tI,Av,J7,Aq]
   .rw[Yb q4]at h;refine Ye ?_ h;clear h;simp +decide[*,tI,Av,Aq]
  .rw[Yb q2]at h;replace q2:=eq_false q2;by_cases q5:x1=1
   .rw[Ya q5]at h;subst q5;obtain⟨v1,q6,h⟩:=h;unfold Xj at q6
    try simp[Aq]at q6
    by_cases q7:v1=true
    .rw[Ya q7]at h;refine Ye ?_ h;clear h;simp +decide[*,tI,Av,J7,Aq]
    .rw[Yb q7]at h;refine Ye ?_ h;clear h;simp +decide[*,tI,Av,Aq]
   .rw[Yb q5]at h;replace q5:=eq_false q5;by_cases q8:x1=2
    .rw[Ya q8]at h;subst q8;obtain⟨v2,q9,h⟩:=h;unfold Xj at q9
     try simp[Aq]at q9
     by_cases q10:v2=true
     .rw[Ya q10]at h;refine Ye ?_ h;clear h;simp +decide[*,tI,Av,J7,Aq]
     .rw[Yb q10]at h;refine Ye ?_ h;clear h;simp +decide[*,tI,Av,Aq]
    .rw[Yb q8]at h;replace q8:=eq_false q8;by_cases q11:x1=3
     .rw[Ya q11]at h;subst q11;obtain⟨v3,q12,h⟩:=h;unfold Xj at q12
      try simp[Aq]at q12
      by_cases q13:v3=true
      .rw[Ya q13]at h;refine Ye ?_ h;clear h;simp +decide[*,tI,Av,J7,Aq]
      .rw[Yb q13]at h;refine Ye ?_ h;clear h;simp +decide[*,tI,Av,Aq]
     .rw[Yb q11]at h;replace q11:=eq_false q11;by_cases Bv:x1=4
      .rw[Ya Bv]at h;subst Bv;obtain⟨v4,BN,h⟩:=h;unfold Xj at BN
       try simp[Aq]at BN
       by_cases q16:v4=true
       .rw[Ya q16]at h;refine Ye ?_ h;clear h;simp +decide[*,tI,Av,J7,Aq]
       .rw[Yb q16]at h;refine Ye ?_ h;clear h;simp +decide[*,tI,Av,Aq]
      .rw[Yb Bv]at h;replace Bv:=eq_false Bv;cases h
 .rw[Yb q1]at h;refine Ye ?_ h;clear h;simp +decide[*,tI,Av,L9,Zzm,Aq]
abbrev Sx:=uq ZKW
def ZKX:iM XW λx x1 x2 r=>if x2<x1 then qL (w (1+x2)) λk2=>qL (r (some (.tup [I k2,.t .nil,.t .nil],[]))) λk1=>if x2=0 then qB (WX x.Scan) ((WE x.Scan=some (.tup [.t .nil,.t .nil,Bo false],[])/\Uc UQ (λu2=>r (HI x u2 k2 x1 x2 (u2.length:Int) 0)))\/(∃(u2:WL) (u3:WL),WE x.Scan=some (.tup [L 1 (u3.map ic),.own 0,Bo true],[.arr 3 1 true (u2.map ic)])/\r (some (.tup [I k2,L 1 (u3.map ic),.own 0],[.arr 3 1 true (u2.map ic)])))) k1 else if x2=1 then qB (WX x.Sort_) ((WE x.Sort_=some (.tup [.t .nil,.t .nil,Bo false],[])/\Uc UQ (λu2=>r (HJ x u2 k2 x1 x2 (u2.length:Int) 0)))\/(∃(u2:WL) (u3:WL),WE x.Sort_=some (.tup [L 1 (u3.map ic),.own 0,Bo true],[.arr 3 1 true (u2.map ic)])/\r (some (.tup [I k2,L 1 (u3.map ic),.own 0],[.arr 3 1 true (u2.map ic)])))) k1 else if x2=2 then qB (WX x.Hash) ((WE x.Hash=some (.tup [.t .nil,.t .nil,Bo false],[])/\Uc UQ (λu2=>r (HK x u2 k2 x1 x2 (u2.length:Int) 0)))\/(∃(u2:WL) (u3:WL),WE x.Hash=some (.tup [L 1 (u3.map ic),.own 0,Bo true],[.arr 3 1 true (u2.map ic)])/\r (some (.tup [I k2,L 1 (u3.map ic),.own 0],[.arr 3 1 true (u2.map ic)])))) k1 else if x2=3 then qB (WX x.Merge) ((WE x.Merge=some (.tup [.t .nil,.t .nil,Bo false],[])/\Uc UQ (λu2=>r (HL x u2 k2 x1 x2 (u2.length:Int) 0)))\/(∃(u2:WL) (u3:WL),WE x.Merge=some (.tup [L 1 (u3.map ic),.own 0,Bo true],[.arr 3 1 true (u2.map ic)])/\r (some (.tup [I k2,L 1 (u3.map ic),.own 0],[.arr 3 1 true (u2.map ic)])))) k1 else if x2=4 then qB (WX x.Nested) ((WE x.Nested=some (.tup [.t .nil,.t .nil,Bo false],[])/\Uc UQ (λu2=>r (HM x u2 k2 x1 x2 (u2.length:Int) 0)))\/(∃(u2:WL) (u3:WL),WE x.Nested=some (.tup [L 1 (u3.map ic),.own 0,Bo true],[.arr 3 1 true (u2.map ic)])/\r (some (.tup [I k2,L 1 (u3.map ic),.own 0],[.arr 3 1 true (u2.map ic)])))) k1 else False else r (some (.tup [I 0,.t .nil,.t .nil],[])):=by
 refine qu ?_;intro x x1 x2 r;unfold Im;intro h;unfold XW
 try simp only[F5,Aq]
 rw[Zl Zpy.eq_1];by_cases q1:x2<x1
 .rw[Ya q1]at h;by_cases q2:x2=0
  .rw[Ya q2]at h;subst q2;obtain⟨v,q3,h⟩:=h;unfold WX at q3
   try simp[Aq]at q3
   by_cases q4:v=true
   .rw[Ya q4]at h;rcases h with h|h
    .obtain⟨q5,h⟩:=h;unfold WE at q5
     try simp[Aq]at q5
     obtain⟨v1,q6,h⟩:=h;unfold UQ at q6
     try simp[Aq]at q6
     refine Ye ?_ h;clear h;simp +decide[*,tI,Av,HI,KM,F5,Aq]
    .obtain⟨v2,v3,q7,h⟩:=h;unfold WE at q7
     try simp[Aq]at q7
     refine Ye ?_ h;clear h;simp +decide[*,tI,Av,Aq]
   .rw[Yb q4]at h;refine Ye ?_ h;clear h;simp +decide[*,tI,Av,Aq]
  .rw[Yb q2]at h;replace q2:=eq_false q2;by_cases q8:x2=1
   .rw[Ya q8]at h;subst q8;obtain⟨v4,q9,h⟩:=h;unfold WX at q9
    try simp[Aq]at q9
    by_cases q10:v4=true
    .rw[Ya q10]at h;rcases h with h|h
     .obtain⟨q11,h⟩:=h;unfold WE at q11
      try simp[Aq]at q11
      obtain⟨v5,q12,h⟩:=h;unfold UQ at q12
      try simp[Aq]at q12
      refine Ye ?_ h;clear h;simp +decide[*,tI,Av,HJ,KM,F5,Aq]
     .obtain⟨v6,v7,q13,h⟩:=h;unfold WE at q13
      try simp[Aq]at q13
      refine Ye ?_ h;clear h;simp +decide[*,tI,Av,Aq]
    .rw[Yb q10]at h;refine Ye ?_ h;clear h;simp +decide[*,tI,Av,Aq]
   .rw[Yb q8]at h;replace q8:=eq_false q8;by_cases Bv:x2=2
    .rw[Ya Bv]at h;subst Bv;obtain⟨v8,BN,h⟩:=h;unfold WX at BN
     try simp[Aq]at BN
     by_cases q16:v8=true
     .rw[Ya q16]at h;rcases h with h|h
      .obtain⟨EP,h⟩:=h;unfold WE at EP
       try simp[Aq]at EP
       obtain⟨v9,Cq,h⟩:=h;unfold UQ at Cq
       try simp[Aq]at Cq
       refine Ye ?_ h;clear h;simp +decide[*,tI,Av,HK,KM,F5,Aq]
      .obtain⟨v10,v11,Dz,h⟩:=h;unfold WE at Dz
       try simp[Aq]at Dz
       refine Ye ?_ h;clear h;simp +decide[*,tI,Av,Aq]
     .rw[Yb q16]at h;refine Ye ?_ h;clear h;simp +decide[*,tI,Av,Aq]
    .rw[Yb Bv]at h;replace Bv:=eq_false Bv;by_cases EE:x2=3
     .rw[Ya EE]at h;subst EE;obtain⟨v12,HV,h⟩:=h;unfold WX at HV
      try simp[Aq]at HV
      by_cases q22:v12=true
      .rw[Ya q22]at h;rcases h with h|h
       .obtain⟨q23,h⟩:=h;unfold WE at q23
        try simp[Aq]at q23
        obtain⟨v13,q24,h⟩:=h;unfold UQ at q24
        try simp[Aq]at q24
        refine Ye ?_ h;clear h;simp +decide[*,tI,Av,HL,KM,F5,Aq]
       .obtain⟨v14,v15,HW,h⟩:=h;unfold WE at HW
        try simp[Aq]at HW
        refine Ye ?_ h;clear h;simp +decide[*,tI,Av,Aq]
      .rw[Yb q22]at h;refine Ye ?_ h;clear h;simp +decide[*,tI,Av,Aq]
     .rw[Yb EE]at h;replace EE:=eq_false EE;by_cases Mw:x2=4
      .rw[Ya Mw]at h;subst Mw;obtain⟨v16,HX,h⟩:=h;unfold WX at HX
       try simp[Aq]at HX
       by_cases HY:v16=true
       .rw[Ya HY]at h;rcases h with h|h
        .obtain⟨HZ,h⟩:=h;unfold WE at HZ
         try simp[Aq]at HZ
         obtain⟨v17,q30,h⟩:=h;unfold UQ at q30
         try simp[Aq]at q30
         refine Ye ?_ h;clear h;simp +decide[*,tI,Av,HM,KM,F5,Aq]
        .obtain⟨v18,v19,q31,h⟩:=h;unfold WE at q31
         try simp[Aq]at q31
         refine Ye ?_ h;clear h;simp +decide[*,tI,Av,Aq]
       .rw[Yb HY]at h;refine Ye ?_ h;clear h;simp +decide[*,tI,Av,Aq]
      .rw[Yb Mw]at h;replace Mw:=eq_false Mw;cases h
 .rw[Yb q1]at h;refine Ye ?_ h;clear h;simp +decide[*,tI,Av,Zz1,Aq]
abbrev Sy:=uq ZKX
def ZKY:((((iM HI λo x kind x1 x2 x3 x4 r=>if x4<x3 then qG x x4 (λu1=>qI (Km o.Scan u1) (λu2=>if u2<1 then La kind u1 r else r (HI o x kind x1 x2 x3 (w (x4+1)))))else r (XW o x1 (w (x2+1))))/\
 (iM HJ λo x kind x1 x2 x3 x4 r=>if x4<x3 then qG x x4 (λu1=>qI (Km o.Sort_ u1) (λu2=>if u2<1 then La kind u1 r else r (HJ o x kind x1 x2 x3 (w (x4+1)))))else r (XW o x1 (w (x2+1)))))/\
 ((iM HK λo x kind x1 x2 x3 x4 r=>if x4<x3 then qG x x4 (λu1=>qI (Km o.Hash u1) (λu2=>if u2<1 then La kind u1 r else r (HK o x kind x1 x2 x3 (w (x4+1)))))else r (XW o x1 (w (x2+1))))/\
 (iM HL λo x kind x1 x2 x3 x4 r=>if x4<x3 then qG x x4 (λu1=>qI (Km o.Merge u1) (λu2=>if u2<1 then La kind u1 r else r (HL o x kind x1 x2 x3 (w (x4+1)))))else r (XW o x1 (w (x2+1))))))/\
 (((iM HM λo x kind x1 x2 x3 x4 r=>if x4<x3 then qG x x4 (λu1=>qI (Km o.Nested u1) (λu2=>if u2<1 then La kind u1 r else r (HM o x kind x1 x2 x3 (w (x4+1)))))else r (XW o x1 (w (x2+1))))/\
 (iM Se λa r=>J6 a=some (.bsl 1 5,[.box (a.c.map .t),.box [.ptr 0 0,.ptr 0 6,.ptr 0 12,.ptr 0 18,.ptr 0 24]])/\r (XW a 5 0)))/\
 ((iM Sf λa r=>(∃(u1:WL),∃u2,∃(u3:WL),Se a=some (.tup [I u2,L 1 (u3.map ic),.own 0],[.arr 3 1 true (u1.map ic)])/\qb (decide (u2=0)) r)\/(∃u1,Se a=some (.tup [I u1,.t .nil,.t .nil],[])/\qb (decide (u1=0)) r)\/(∃u1,∃(u2:WL),Se a=some (.tup [I u1,L 1 (u2.map ic),.t .nil],[])/\qb (decide (u1=0)) r))/\
 ((iM iN λa a1 a2 r=>qB (iH a1 a2) (qI (UP a1) (λu2=>qB (L8 a1 u2) (qV (Sf a) (λu4=>qb u4 r)) (qb false r))) (qb false r))/\
 (iM Md λout location x x1 x2 r=>if x2<x1 then qG x x2 (λu1=>qI (HG u1) (λu2=>qN out (r (Md (out++[u2]) location x x1 (w (x2+1))))))else qB (HD location) (AZ out r) (KC r))))))/\
 ((((iM HN λa r=>r (Md ([]:WL) a a (a.length:Int) 0))/\
 (iM iO λq sizes x x1 x2 r=>if x2<x1 then qG x x2 (λu1=>qB (Xj u1 0 4096) (r (iO q sizes x x1 (w (x2+1)))) (qb false r))else qB (KL q) (qI (UP q) (λu2=>qb (decide ((sizes.length:Int)=(w (u2+1)))) r)) (qb false r)))/\
 ((iM Me λa a1 r=>r (iO a a1 a1 (a1.length:Int) 0))/\
 (iM Sg λq out mask r=>qI (UP q) (λu1=>if mask<=u1 then qB (F3 q mask) (qN out (r (Sg q (out++[mask]) (w (mask+1))))) (r (Sg q out (w (mask+1))))else AZ out r))))/\
 (((iM iP λa r=>r (Sg a ([]:WL) 1))/\
 (iM Si λout mask i r=>if i<4 then ¬i<0/\if(Ah (Au mask i) 1)=1 then qN out (r (Si (out++[i]) mask (w (i+1))))else r (Si out mask (w (i+1)))else AZ out r))/\
 ((iM Sh λa r=>qB (Xj a 0 15) (r (Si ([]:WL) a 0)) (KC r))/\
 ((iM iQ λa r=>Ju ([(⟨1,a,0⟩:Zk)]) r)/\
 (iM WK λa a1 a2 a3 r=>qB (WX a) (qB (Xj a1 0 4096) (qB (Xj a2 0 4096) (qB (Xj a3 0 4096) (qI (Sb a a1 a2 a3) (λu5=>qi u5 r)) (qi 0 r)) (qi 0 r)) (qi 0 r)) (qi 0 r)))))):=by
 refine qu ?_
 and_intros
 all_goals(intros;unfold Im;(try simp only[HI,HJ,HK,HL,HM,Se,Sf,iN,Md,HN,iO,Me,Sg,iP,Si,Sh,iQ,WK,Km,Zz.c_def,J6,Zf.c_def,iH,UP,L8,Zu.c_def,Box.c_def,Zc.c_def,HG,HD,Xj,KL,F3,WX,Sb,XW,KM,Aq,F5,Bc,A8]);(try simp only[Bd]);(try simp only[Be,gS,kk]))
 all_goals(repeat' first|refine Bp λ_=>?_|refine Bn λ_ _=>?_|refine Bm λ_=>?_|refine AH ?_ ?_|exact False.elim)
 all_goals(intro h;first|rw[Zl Zzz.eq_1]|refine run ZJl rfl ?_|refine run ZJm rfl ?_|refine run ZJn rfl ?_|rw[Zl Zz3.eq_1]|refine run ZJo rfl ?_|rw[Zl Zz6.eq_1]|refine run ZJp rfl ?_|rw[Zl Zz8.eq_1]|refine run ZJq rfl ?_|rw[Zl ZzA.eq_1]|refine run ZJr rfl ?_|refine run ZJs rfl ?_|refine run ZJt rfl ?_)
 all_goals (refine Ye ?_ h;clear h;simp +decide[*,kk,tI,Av,Zz0,Z9k,Z9l,Z9m,Zz4,Z9n,Zz7,Z9o,Z9p,Zz9,Z9q,Z9r,ZzB,Z9s,Z9t,Z9u])
abbrev Wf:=uq ZKY
def ZKZ:((iM VL λm info out sizes x x1 x2 r=>if x2<x1 then qG x x2 (λu1=>qH info x2 (λu2=>qG sizes u2.Mask (λu3=>qL (iV m info out u1 sizes x2) λk1=>qL (iW m info out u1 sizes x2) λk2=>if 0<=u2.Left then qH info u2.Left (λu4=>qG sizes u4.Mask (λu5=>if 0<=u2.Right then qH info u2.Right (λu6=>qG sizes u6.Mask (λu7=>r (k1 u5 u7 x x1 x2)))else r (k2 u5 0 x x1 x2 false)))else if 0<=u2.Right then qH info u2.Right (λu4=>qG sizes u4.Mask (λu5=>r (k1 u3 u5 x x1 x2)))else r (k2 u3 0 x x1 x2 false))))else AZ out r)/\
 (iM Mf λa a1 a2 a3 r=>(HF a1 a2=some (.tup [.t .nil,Bo false],[])/\KC r)\/(vG (HF a1 a2) (λu1=>qB (Me a1 a3) (r (VL a u1 ([]:WL) a3 a2.Steps (a2.Steps.length:Int) 0)) (KC r)))))/\
 ((iM iY λn x x1 x2 r=>if x2<x1 then qG x x2 (λu1=>r (iY (w (n+u1)) x x1 (w (x2+1))))else qi n r)/\
 (iM iX λa r=>r (iY 0 a (a.length:Int) 0))):=by
 refine qu ?_
 and_intros
 all_goals(intros;unfold Im;(try simp only[VL,Mf,iY,iX,HF,Me,Ze.c_def,Zc.c_def,iV,iW,Aq,Bc,A8]);(try simp only[Bd]);(try simp only[Be,gS,kk]))
 all_goals(repeat' first|refine Bp λ_=>?_|refine Bn λ_ _=>?_|refine Bm λ_=>?_|refine AH ?_ ?_|exact False.elim)
 all_goals(intro h;first|rw[Zl iT.eq_1]|refine run ZJu rfl ?_|rw[Zl ZzD.eq_1]|refine run ZJv rfl ?_)
 all_goals (refine Ye ?_ h;clear h;simp +decide[*,kk,tI,Av,Z9v,iU,Z9w,ZzE,Z9x])
abbrev H0:=uq ZKZ
def ZLa:iM iV λm info out x sizes i left right x1 x2 x3 r=>J6 m=some (.bsl 1 5,[.box (m.c.map .t),.box [.ptr 0 0,.ptr 0 6,.ptr 0 12,.ptr 0 18,.ptr 0 24]])/\qL (w (x.Kind-1)) λk1=>qL (w (x3+1)) λk2=>qL (VL m info) λk3=>if k1=0 then qG info i (λu1=>qG sizes u1.Mask (λu2=>qI (WK m.Scan left right u2) (λu3=>qN out (r (k3 (out++[u3]) sizes x1 x2 k2)))))else if k1=1 then qG info i (λu1=>qG sizes u1.Mask (λu2=>qI (WK m.Sort_ left right u2) (λu3=>qN out (r (k3 (out++[u3]) sizes x1 x2 k2)))))else if k1=2 then qG info i (λu1=>qG sizes u1.Mask (λu2=>qI (WK m.Hash left right u2) (λu3=>qN out (r (k3 (out++[u3]) sizes x1 x2 k2)))))else if k1=3 then qG info i (λu1=>qG sizes u1.Mask (λu2=>qI (WK m.Merge left right u2) (λu3=>qN out (r (k3 (out++[u3]) sizes x1 x2 k2)))))else if k1=4 then qG info i (λu1=>qG sizes u1.Mask (λu2=>qI (WK m.Nested left right u2) (λu3=>qN out (r (k3 (out++[u3]) sizes x1 x2 k2)))))else False:=by
 refine qu ?_;intro m info out x sizes i left right x1 x2 x3 r;unfold Im;intro h;unfold iV
 try simp only[Aq]
 rw[Cb iS.eq_1];obtain⟨q1,h⟩:=h;unfold J6 at q1
 try simp[Aq]at q1
 by_cases q2:(w (x.Kind-1))=0
 .rw[Ya q2]at h;obtain⟨q3,h⟩:=h;obtain⟨e2,q4,h⟩:=h;have gq4:=We q4;have kq4:=Wm q4;obtain⟨q5,h⟩:=h;obtain⟨e3,q6,h⟩:=h;have gq6:=We q6;have kq6:=Wm q6;obtain⟨v,q7,h⟩:=h;unfold WK at q7
  try simp[Aq]at q7
  obtain⟨q8,h⟩:=h;have rq8:=Vf (b:=8) q8 Z;have sq8:=Vg q8
  try simp[*]at rq8
  try simp[*]at sq8
  refine Ye ?_ h;clear h;simp +decide[*,tI,Av,VL,Aq]
 .rw[Yb q2]at h;replace q2:=eq_false q2;by_cases q9:(w (x.Kind-1))=1
  .rw[Ya q9]at h;obtain⟨q10,h⟩:=h;obtain⟨e5,q11,h⟩:=h;have j9:=We q11;have kG:=Wm q11;obtain⟨q12,h⟩:=h;obtain⟨e6,q13,h⟩:=h;have AaJ:=We q13;have AaK:=Wm q13;obtain⟨v1,Bv,h⟩:=h;unfold WK at Bv
   try simp[Aq]at Bv
   obtain⟨BN,h⟩:=h;have Mx:=Vf (b:=8) BN Z;have My:=Vg BN
   try simp[*]at Mx
   try simp[*]at My
   refine Ye ?_ h;clear h;simp +decide[*,tI,Av,VL,Aq]
  .rw[Yb q9]at h;replace q9:=eq_false q9;by_cases q16:(w (x.Kind-1))=2
   .rw[Ya q16]at h;obtain⟨EP,h⟩:=h;obtain⟨e8,Cq,h⟩:=h;have AaL:=We Cq;have AaM:=Wm Cq;obtain⟨Dz,h⟩:=h;obtain⟨e9,EE,h⟩:=h;have AaN:=We EE;have AaO:=Wm EE;obtain⟨v2,HV,h⟩:=h;unfold WK at HV
    try simp[Aq]at HV
    obtain⟨q22,h⟩:=h;have Mz:=Vf (b:=8) q22 Z;have MA:=Vg q22
    try simp[*]at Mz
    try simp[*]at MA
    refine Ye ?_ h;clear h;simp +decide[*,tI,Av,VL,Aq]
   .rw[Yb q16]at h;replace q16:=eq_false q16;by_cases q23:(w (x.Kind-1))=3
    .rw[Ya q23]at h;obtain⟨q24,h⟩:=h;obtain⟨e11,HW,h⟩:=h;have AaP:=We HW;have AaQ:=Wm HW;obtain⟨Mw,h⟩:=h;obtain⟨e12,HX,h⟩:=h;have AaR:=We HX;have AaS:=Wm HX;obtain⟨v3,HY,h⟩:=h;unfold WK at HY
     try simp[Aq]at HY
     obtain⟨HZ,h⟩:=h;have MB:=Vf (b:=8) HZ Z;have MC:=Vg HZ
     try simp[*]at MB
     try simp[*]at MC
     refine Ye ?_ h;clear h;simp +decide[*,tI,Av,VL,Aq]
    .rw[Yb q23]at h;replace q23:=eq_false q23;by_cases q30:(w (x.Kind-1))=4
     .rw[Ya q30]at h;obtain⟨q31,h⟩:=h;obtain⟨e14,q32,h⟩:=h;have AaT:=We q32;have AaU:=Wm q32;obtain⟨q33,h⟩:=h;obtain⟨e15,kJ,h⟩:=h;have AaV:=We kJ;have AaW:=Wm kJ;obtain⟨v4,q35,h⟩:=h;unfold WK at q35
      try simp[Aq]at q35
      obtain⟨kK,h⟩:=h;have MD:=Vf (b:=8) kK Z;have ME:=Vg kK
      try simp[*]at MD
      try simp[*]at ME
      refine Ye ?_ h;clear h;simp +decide[*,tI,Av,VL,Aq]
     .rw[Yb q30]at h;replace q30:=eq_false q30;cases h
abbrev ZLb:=uq ZLa
def ZLc:iM iW λm info out x sizes i left right x1 x2 x3 x4 r=>J6 m=some (.bsl 1 5,[.box (m.c.map .t),.box [.ptr 0 0,.ptr 0 6,.ptr 0 12,.ptr 0 18,.ptr 0 24]])/\qL (w (x.Kind-1)) λk1=>qL (w (x3+1)) λk2=>qL (VL m info) λk3=>if k1=0 then qG info i (λu1=>qG sizes u1.Mask (λu2=>qI (WK m.Scan left right u2) (λu3=>qN out (r (k3 (out++[u3]) sizes x1 x2 k2)))))else if k1=1 then qG info i (λu1=>qG sizes u1.Mask (λu2=>qI (WK m.Sort_ left right u2) (λu3=>qN out (r (k3 (out++[u3]) sizes x1 x2 k2)))))else if k1=2 then qG info i (λu1=>qG sizes u1.Mask (λu2=>qI (WK m.Hash left right u2) (λu3=>qN out (r (k3 (out++[u3]) sizes x1 x2 k2)))))else if k1=3 then qG info i (λu1=>qG sizes u1.Mask (λu2=>qI (WK m.Merge left right u2) (λu3=>qN out (r (k3 (out++[u3]) sizes x1 x2 k2)))))else if k1=4 then qG info i (λu1=>qG sizes u1.Mask (λu2=>qI (WK m.Nested left right u2) (λu3=>qN out (r (k3 (out++[u3]) sizes x1 x2 k2)))))else False:=by
 refine qu ?_;intro m info out x sizes i left right x1 x2 x3 x4 r;unfold Im;intro h;unfold iW
 try simp only[Aq]
 rw[Cb iS.eq_1];obtain⟨q1,h⟩:=h;unfold J6 at q1
 try simp[Aq]at q1
 by_cases q2:(w (x.Kind-1))=0
 .rw[Ya q2]at h;obtain⟨q3,h⟩:=h;obtain⟨e2,q4,h⟩:=h;have gq4:=We q4;have kq4:=Wm q4;obtain⟨q5,h⟩:=h;obtain⟨e3,q6,h⟩:=h;have gq6:=We q6;have kq6:=Wm q6;obtain⟨v,q7,h⟩:=h;unfold WK at q7
  try simp[Aq]at q7
  obtain⟨q8,h⟩:=h;have rq8:=Vf (b:=8) q8 Z;have sq8:=Vg q8
  try simp[*]at rq8
  try simp[*]at sq8
  refine Ye ?_ h;clear h;simp +decide[*,tI,Av,VL,Aq]
 .rw[Yb q2]at h;replace q2:=eq_false q2;by_cases q9:(w (x.Kind-1))=1
  .rw[Ya q9]at h;obtain⟨q10,h⟩:=h;obtain⟨e5,q11,h⟩:=h;have j9:=We q11;have kG:=Wm q11;obtain⟨q12,h⟩:=h;obtain⟨e6,q13,h⟩:=h;have AaJ:=We q13;have AaK:=Wm q13;obtain⟨v1,Bv,h⟩:=h;unfold WK at Bv
   try simp[Aq]at Bv
   obtain⟨BN,h⟩:=h;have Mx:=Vf (b:=8) BN Z;have My:=Vg BN
   try simp[*]at Mx
   try simp[*]at My
   refine Ye ?_ h;clear h;simp +decide[*,tI,Av,VL,Aq]
  .rw[Yb q9]at h;replace q9:=eq_false q9;by_cases q16:(w (x.Kind-1))=2
   .rw[Ya q16]at h;obtain⟨EP,h⟩:=h;obtain⟨e8,Cq,h⟩:=h;have AaL:=We Cq;have AaM:=Wm Cq;obtain⟨Dz,h⟩:=h;obtain⟨e9,EE,h⟩:=h;have AaN:=We EE;have AaO:=Wm EE;obtain⟨v2,HV,h⟩:=h;unfold WK at HV
    try simp[Aq]at HV
    obtain⟨q22,h⟩:=h;have Mz:=Vf (b:=8) q22 Z;have MA:=Vg q22
    try simp[*]at Mz
    try simp[*]at MA
    refine Ye ?_ h;clear h;simp +decide[*,tI,Av,VL,Aq]
   .rw[Yb q16]at h;replace q16:=eq_false q16;by_cases q23:(w (x.Kind-1))=3
    .rw[Ya q23]at h;obtain⟨q24,h⟩:=h;obtain⟨e11,HW,h⟩:=h;have AaP:=We HW;have AaQ:=Wm HW;obtain⟨Mw,h⟩:=h;obtain⟨e12,HX,h⟩:=h;have AaR:=We HX;have AaS:=Wm HX;obtain⟨v3,HY,h⟩:=h;unfold WK at HY
     try simp[Aq]at HY
     obtain⟨HZ,h⟩:=h;have MB:=Vf (b:=8) HZ Z;have MC:=Vg HZ
     try simp[*]at MB
     try simp[*]at MC
     refine Ye ?_ h;clear h;simp +decide[*,tI,Av,VL,Aq]
    .rw[Yb q23]at h;replace q23:=eq_false q23;by_cases q30:(w (x.Kind-1))=4
     .rw[Ya q30]at h;obtain⟨q31,h⟩:=h;obtain⟨e14,q32,h⟩:=h;have AaT:=We q32;have AaU:=Wm q32;obtain⟨q33,h⟩:=h;obtain⟨e15,kJ,h⟩:=h;have AaV:=We kJ;have AaW:=Wm kJ;obtain⟨v4,q35,h⟩:=h;unfold WK at q35
      try simp[Aq]at q35
      obtain⟨kK,h⟩:=h;have MD:=Vf (b:=8) kK Z;have ME:=Vg kK
      try simp[*]at MD
      try simp[*]at ME
      refine Ye ?_ h;clear h;simp +decide[*,tI,Av,VL,Aq]
     .rw[Yb q30]at h;replace q30:=eq_false q30;cases h
abbrev ZLd:=uq ZLc
def ZLe:iM F6 λa a1 a2 a3 r=>(Mf a a1 a2 a3=some (.t .nil,[])/\qi (-1) r)\/(AO (Mf a a1 a2 a3) (λu1=>u1≠[]/\qI (iX u1) (λu2=>qi u2 r))):=by
 refine qu ?_;intro a a1 a2 a3 r;unfold Im;intro h;unfold F6
 try simp only[Aq]
 refine run ZJw rfl ?_;rcases h with h|h
 .obtain⟨q1,h⟩:=h;unfold Mf at q1
  try simp[Aq]at q1
  refine Ye ?_ h;clear h;simp +decide[*,ZzF,tI,Av,Aq]
 .obtain⟨v,q2,h⟩:=h;unfold Mf at q2
  try simp[Aq]at q2
  obtain⟨q3,h⟩:=h;obtain⟨yq3,Acf,eq3⟩:=List.exists_cons_of_ne_nil q3
  first|subst eq3|skip
  obtain⟨v1,q4,h⟩:=h;unfold iX at q4
  try simp[Aq]at q4
  refine Ye ?_ h;clear h;simp +decide[*,ZzF,tI,Av,Aq]
abbrev ZLf:=uq ZLe
