/-
  Parts of the proofs for this seat: LE L36.
-/
import Derived.Test.YtgnfoghkbpkgjaaGreatP17
set_option linter.unusedSimpArgs false
set_option linter.unusedVariables false
set_option maxRecDepth 100000
set_option maxHeartbeats 4000000
namespace Go.Proofs.YtgnfoghkbpkgjaaGreat
open Go.AM
theorem Zblh(m:Zk)(d:Zl)(q:Zd)(p:Plan)(bud:Int):∀(k:Nat) (lo hi:List Int) (t:Int),(lbF m d q p bud k lo hi t).1.length=lo.length∧(lbF m d q p bud k lo hi t).2.1.length=hi.length
 |0,_,_,_=>⟨rfl,rfl⟩
 |k+1,lo,hi,t=>by
  unfold lbF;split
  ·exact⟨rfl,rfl⟩
  ·have h:=Zwj (dcs (spF m d q p (Zck q.Zi q.Atoms p.Steps lo hi) bud)).2.2 lo hi 0;split
   ·have:=Zblh m d q p bud k (laF (dcs (spF m d q p (Zck q.Zi q.Atoms p.Steps lo hi) bud)).2.2 lo hi 0).1 (laF (dcs (spF m d q p (Zck q.Zi q.Atoms p.Steps lo hi) bud)).2.2 lo hi 0).2.1 (w (t+(dcs (spF m d q p (Zck q.Zi q.Atoms p.Steps lo hi) bud)).2.1));exact⟨this.1.trans h.1,this.2.trans h.2⟩
   ·exact h
theorem lbsF_len(m:Zk)(d:Zl)(q:Zd)(p:Plan)(b:Box)(bud:Int):(lbsF m d q p b bud).2.1.length=b.Low.length∧(lbsF m d q p b bud).2.2.1.length=b.High.length:=by
 unfold lbsF;split
 ·exact Zblh m d q p bud 4 b.Low b.High 0
 ·exact⟨rfl,rfl⟩
theorem Zblj(m:Zk)(d:Zl)(q:Zd)(p:Plan)(x:Box)(b:Int)(hm:m.okay)(hd:d.okay)(hq:q.okay)(hp:p.okay)(hx:x.okay)(hb:OkI b):C Zbnm [.agg (m.c.map .t),.agg (d.c.map .t),.agg (q.c.map .t),.agg (p.c.map .t),.agg (x.c.map .t),I b] []=some (Bo true,[]):=by
 refine run Zb08 rfl ?_;have e1:=fun l=>Zb3x m.Scan.Fixed m.Scan.Z0 m.Scan.Z1 m.Scan.Z2 m.Scan.Z3 m.Scan.Steps m.Sort_.Fixed m.Sort_.Z0 m.Sort_.Z1 m.Sort_.Z2 m.Sort_.Z3 m.Sort_.Steps m.Hash.Fixed m.Hash.Z0 m.Hash.Z1 m.Hash.Z2 m.Hash.Z3 m.Hash.Steps m.Merge.Fixed m.Merge.Z0 m.Merge.Z1 m.Merge.Z2 m.Merge.Z3 m.Merge.Steps m.Nested.Fixed m.Nested.Z0 m.Nested.Z1 m.Nested.Z2 m.Nested.Z3 m.Nested.Steps l
 by_cases h1:Zk.sz m (1048576)<0
 ·simp[Zk0,e1,h1]
 obtain⟨b1,g1⟩:=Zk.sz_ok m _ hm (by omega) (by omega) (by omega:0≤Zk.sz m (1048576));have u1:=(Zk.ct m _ hm (by omega) (by omega) (by omega:0≤Zk.sz m (1048576))).2;unfold Z5i at u1;have e2:=fun l=>Zb3d d.Tables l (hd)
 by_cases h2:Zl.sz d (Zk.sz m (1048576))<0
 ·simp[Zk0,e1,h1,e2,h2]
 obtain⟨b2,g2⟩:=Zl.sz_ok d _ hd (by omega) (by omega) (by omega:0≤Zl.sz d (Zk.sz m (1048576)));have u2:=(Zl.ct d _ hd (by omega) (by omega) (by omega:0≤Zl.sz d (Zk.sz m (1048576)))).2;unfold Z5e at u2;have e3:=fun l=>Zb3m q.Zi q.Atoms l (hq.2)
 by_cases h3:Zd.sz q (Zl.sz d (Zk.sz m (1048576)))<0
 ·simp[Zk0,e1,h1,e2,h2,e3,h3]
 obtain⟨b3,g3⟩:=Zd.sz_ok q _ hq (by omega) (by omega) (by omega:0≤Zd.sz q (Zl.sz d (Zk.sz m (1048576))));have u3:=(Zd.ct q _ hq (by omega) (by omega) (by omega:0≤Zd.sz q (Zl.sz d (Zk.sz m (1048576))))).2;unfold Z5g at u3;have e4:=fun l=>c_szPlan p.Steps l
 by_cases h4:Plan.sz p (Zd.sz q (Zl.sz d (Zk.sz m (1048576))))<0
 ·simp[Zk0,e1,h1,e2,h2,e3,h3,e4,h4]
 obtain⟨b4,g4⟩:=Plan.sz_ok p _ hp (by omega) (by omega) (by omega:0≤Plan.sz p (Zd.sz q (Zl.sz d (Zk.sz m (1048576)))));have u4:=(Plan.ct p _ hp (by omega) (by omega) (by omega:0≤Plan.sz p (Zd.sz q (Zl.sz d (Zk.sz m (1048576)))))).2;unfold Z5j at u4;have e5:=fun l=>c_szBox x.Low x.High l
 by_cases h5:Box.sz x (Plan.sz p (Zd.sz q (Zl.sz d (Zk.sz m (1048576)))))<0
 ·simp[Zk0,e1,h1,e2,h2,e3,h3,e4,h4,e5,h5]
 obtain⟨b5,g5⟩:=Box.sz_ok x _ hx (by omega) (by omega) (by omega:0≤Box.sz x (Plan.sz p (Zd.sz q (Zl.sz d (Zk.sz m (1048576))))));have u5:=(Box.ct x _ hx (by omega) (by omega) (by omega:0≤Box.sz x (Plan.sz p (Zd.sz q (Zl.sz d (Zk.sz m (1048576))))))).2;unfold nt_Box at u5;have t1:=Zb3v m.Scan.Fixed m.Scan.Z0 m.Scan.Z1 m.Scan.Z2 m.Scan.Z3 m.Scan.Steps m.Sort_.Fixed m.Sort_.Z0 m.Sort_.Z1 m.Sort_.Z2 m.Sort_.Z3 m.Sort_.Steps m.Hash.Fixed m.Hash.Z0 m.Hash.Z1 m.Hash.Z2 m.Hash.Z3 m.Hash.Steps m.Merge.Fixed m.Merge.Z0 m.Merge.Z1 m.Merge.Z2 m.Merge.Z3 m.Merge.Steps m.Nested.Fixed m.Nested.Z0 m.Nested.Z1 m.Nested.Z2 m.Nested.Z3 m.Nested.Steps (g1.1) (g1.2.1) (g1.2.2.1) (g1.2.2.2.1) (g1.2.2.2.2);have q1:=fun y0 y1 y2 y3 y4 y5 y6 y7 y8 y9 y10 y11 y12 y13 y14 y15 y16 y17 y18 y19 y20 y21 y22 y23 y24 y25 y26 y27 y28 y29=>Zb3w m.Scan.Fixed m.Scan.Z0 m.Scan.Z1 m.Scan.Z2 m.Scan.Z3 m.Scan.Steps m.Sort_.Fixed m.Sort_.Z0 m.Sort_.Z1 m.Sort_.Z2 m.Sort_.Z3 m.Sort_.Steps m.Hash.Fixed m.Hash.Z0 m.Hash.Z1 m.Hash.Z2 m.Hash.Z3 m.Hash.Steps m.Merge.Fixed m.Merge.Z0 m.Merge.Z1 m.Merge.Z2 m.Merge.Z3 m.Merge.Steps m.Nested.Fixed m.Nested.Z0 m.Nested.Z1 m.Nested.Z2 m.Nested.Z3 m.Nested.Steps y0 y1 y2 y3 y4 y5 y6 y7 y8 y9 y10 y11 y12 y13 y14 y15 y16 y17 y18 y19 y20 y21 y22 y23 y24 y25 y26 y27 y28 y29 (g1.1) (g1.2.1) (g1.2.2.1) (g1.2.2.2.1) (g1.2.2.2.2)
 have t2:=Zb3b d.Tables (g2);have q2:=fun y0=>Zb3c d.Tables y0 (g2)
 have t3:=Zb3k q.Zi q.Atoms (g3);have q3:=fun y0 y1=>Zb3l q.Zi q.Atoms y0 y1 (g3)
 have t4:=c_toPlan p.Steps (g4);have q4:=fun y0=>c_eqPlan p.Steps y0 (g4)
 have t5:=c_toBox x.Low x.High (g5.1) (g5.2);have q5:=fun y0 y1=>Zbk4 x.Low x.High y0 y1 (g5.1) (g5.2)
 have m1:=fun a0 a1 a2 a3 a4=>Zb4u a0 a1 a2 a3 a4 m.Scan.Fixed m.Scan.Z0 m.Scan.Z1 m.Scan.Z2 m.Scan.Z3 m.Scan.Steps m.Sort_.Fixed m.Sort_.Z0 m.Sort_.Z1 m.Sort_.Z2 m.Sort_.Z3 m.Sort_.Steps m.Hash.Fixed m.Hash.Z0 m.Hash.Z1 m.Hash.Z2 m.Hash.Z3 m.Hash.Steps m.Merge.Fixed m.Merge.Z0 m.Merge.Z1 m.Merge.Z2 m.Merge.Z3 m.Merge.Steps m.Nested.Fixed m.Nested.Z0 m.Nested.Z1 m.Nested.Z2 m.Nested.Z3 m.Nested.Steps (1) (by omega) (by omega) (g1.1) (g1.2.1) (g1.2.2.1) (g1.2.2.2.1) (g1.2.2.2.2)
 have m2:=fun a0=>Zb4t a0 d.Tables (1+(Zr m.Scan.Steps:Int)+(Zr m.Sort_.Steps:Int)+(Zr m.Hash.Steps:Int)+(Zr m.Merge.Steps:Int)+(Zr m.Nested.Steps:Int)) (by omega) (by omega) (g2)
 have m3:=fun a0=>Zb4w a0 q.Zi q.Atoms (1+(Zr m.Scan.Steps:Int)+(Zr m.Sort_.Steps:Int)+(Zr m.Hash.Steps:Int)+(Zr m.Merge.Steps:Int)+(Zr m.Nested.Steps:Int)+(Zcy d.Tables:Int)) (by omega) (by omega) (g3)
 have m4:=fun a0=>Zb4v a0 p.Steps (1+(Zr m.Scan.Steps:Int)+(Zr m.Sort_.Steps:Int)+(Zr m.Hash.Steps:Int)+(Zr m.Merge.Steps:Int)+(Zr m.Nested.Steps:Int)+(Zcy d.Tables:Int)+(Zc7 q.Atoms:Int)) (by omega) (by omega) (g4)
 have m5:=fun a0 a1=>Zbla a0 a1 x.Low x.High (1+(Zr m.Scan.Steps:Int)+(Zr m.Sort_.Steps:Int)+(Zr m.Hash.Steps:Int)+(Zr m.Merge.Steps:Int)+(Zr m.Nested.Steps:Int)+(Zcy d.Tables:Int)+(Zc7 q.Atoms:Int)+(Zdk p.Steps:Int)) (by omega) (by omega) (g5.1) (g5.2)
 have zk:¬(1+(Zr m.Scan.Steps:Int)+(Zr m.Sort_.Steps:Int)+(Zr m.Hash.Steps:Int)+(Zr m.Merge.Steps:Int)+(Zr m.Nested.Steps:Int)+(Zcy d.Tables:Int)+(Zc7 q.Atoms:Int)+(Zdk p.Steps:Int)+(x.Low.length:Int)+(x.High.length:Int)<0):=by omega
 have nm:LeM m:=⟨by have:=g1.1;omega,by have:=g1.2.1;omega,by have:=g1.2.2.1;omega,by have:=g1.2.2.2.1;omega,by have:=g1.2.2.2.2;omega⟩;have nq:LeQ q:=⟨by have:=g3.1;omega,fun x hx=>by have:=(g3.2 x hx).2;omega⟩;have nd:LeD d:=⟨by have:=g2.1;omega,fun t ht=>⟨by have:=(g2.2 t ht).2.1;omega,fun r hr=>by have:=(g2.2 t ht).2.2 r hr;omega⟩⟩;have nx:LeZ x:=⟨by have:=g5.1;omega,by have:=g5.2;omega⟩;have s0:=Zb44 nm nd nq p x nx b;have s1:=Zb43 nm nd nq p x nx b;obtain⟨l1,l2⟩:=lbsF_len m d q p x b;obtain⟨x1,x2⟩:=nx;unfold Zvd at s0;unfold Zu8 at s1;simp only[Zk.c_def,Zl.c_def,Zd.c_def,Plan.c_def,Box.c_def,Yu,Ycw]at s0 s1;revert s0 s1 l1 l2;generalize lbsF m d q p x b=z;obtain⟨ok,lo,hi,t⟩:=z;intro l1 l2 s0 s1;simp only[lbR,bxR,tI]at s0 s1 l1 l2;have a1:SmA lo:=by show lo.length≤4294967296;omega
 have a2:SmA hi:=by show hi.length≤4294967296;omega
 have qq:=Zbk4 lo hi lo hi a1 a2;simp only[tI]at qq;have mm:=fun e f=>Zbla e f lo hi 1 (by omega) (by omega) a1 a2
 have hh:=Zb4s lo hi 1 (by omega) (by omega) a1 a2;simp only[tI]at hh;have zz:¬(1+(lo.length:Int)+(hi.length:Int)<0):=by omega
 simp +decide[Zk0,e1,h1,e2,h2,e3,h3,e4,h4,e5,h5,t1,q1,t2,q2,t3,q3,t4,q4,t5,q5,m1,m2,m3,m4,m5,zk,s0,s1,qq,mm,hh,zz]
end Go.Proofs.YtgnfoghkbpkgjaaGreat
