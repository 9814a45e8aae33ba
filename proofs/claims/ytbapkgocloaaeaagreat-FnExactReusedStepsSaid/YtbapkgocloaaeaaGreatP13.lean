/-
  Parts of the proofs for this seat: L18.
-/
import Derived.Test.YtbapkgocloaaeaaGreatP12
set_option linter.unusedSimpArgs false
set_option linter.unusedVariables false
set_option maxRecDepth 100000
set_option maxHeartbeats 4000000
/- part: L18 -/
namespace Go.Proofs.YtbapkgocloaaeaaGreat
open Go.AM
theorem Z1v:C Zmj [.t .nil,L 1 []] []=some (Bo true,[]):=by
 refine run Zqy rfl ?_
 simp [Zic,EvL_eq Zgx.eq_1]
theorem Zr1 (m:Zf) (q:Zd) (p:Plan) (ks:List Kept) (hm:m.okay) (hq:q.okay) (hp:p.okay) (hks:OkL Kept.okay ks):C Zsa [.agg (m.c.map .t),.agg (q.c.map .t),.agg (p.c.map .t),L 2 (ks.map Kept.c)] []=some (Bo true,[]):=by
 refine run Zy0 rfl ?_
 have e1:=fun l=>Z0r m.Scan.Fixed m.Scan.Zi m.Scan.Zj m.Scan.Zk m.Scan.Zl m.Scan.Steps m.Sort_.Fixed m.Sort_.Zi m.Sort_.Zj m.Sort_.Zk m.Sort_.Zl m.Sort_.Steps m.Hash.Fixed m.Hash.Zi m.Hash.Zj m.Hash.Zk m.Hash.Zl m.Hash.Steps m.Merge.Fixed m.Merge.Zi m.Merge.Zj m.Merge.Zk m.Merge.Zl m.Merge.Steps m.Nested.Fixed m.Nested.Zi m.Nested.Zj m.Nested.Zk m.Nested.Zl m.Nested.Steps l
 by_cases h1:Zf.sz m (1048576)<0
 ·simp [Zex,e1,h1]
 obtain ⟨b1,g1⟩:=Zf.sz_ok m _ hm (by omega) (by omega) (by omega:0≤Zf.sz m (1048576))
 have u1:=(Zf.ct m _ hm (by omega) (by omega) (by omega:0≤Zf.sz m (1048576))).2
 unfold Zlw at u1
 have e2:=fun l=>Z0g q.Zg q.Atoms l (hq.2)
 by_cases h2:Zd.sz q (Zf.sz m (1048576))<0
 ·simp [Zex,e1,h1,e2,h2]
 obtain ⟨b2,g2⟩:=Zd.sz_ok q _ hq (by omega) (by omega) (by omega:0≤Zd.sz q (Zf.sz m (1048576)))
 have u2:=(Zd.ct q _ hq (by omega) (by omega) (by omega:0≤Zd.sz q (Zf.sz m (1048576)))).2
 unfold Zir at u2
 have e3:=fun l=>c_szPlan p.Steps l
 by_cases h3:Plan.sz p (Zd.sz q (Zf.sz m (1048576)))<0
 ·simp [Zex,e1,h1,e2,h2,e3,h3]
 obtain ⟨b3,g3⟩:=Plan.sz_ok p _ hp (by omega) (by omega) (by omega:0≤Plan.sz p (Zd.sz q (Zf.sz m (1048576))))
 have u3:=(Plan.ct p _ hp (by omega) (by omega) (by omega:0≤Plan.sz p (Zd.sz q (Zf.sz m (1048576))))).2
 unfold Zis at u3
 have e4:=fun (es:List (List T)) l=>Z03 es l
 by_cases h4:sz1 ks.length (Plan.sz p (Zd.sz q (Zf.sz m (1048576))))<0
 ·simp [Zex,e1,h1,e2,h2,e3,h3,e4,h4]
 have g4:ks.length≤1048576:=(sz1_ok hks.1 (by omega) (by omega) (by omega:0≤sz1 ks.length (Plan.sz p (Zd.sz q (Zf.sz m (1048576)))))).2
 have u4:=Z1u ks
 have t1:=Z0p m.Scan.Fixed m.Scan.Zi m.Scan.Zj m.Scan.Zk m.Scan.Zl m.Scan.Steps m.Sort_.Fixed m.Sort_.Zi m.Sort_.Zj m.Sort_.Zk m.Sort_.Zl m.Sort_.Steps m.Hash.Fixed m.Hash.Zi m.Hash.Zj m.Hash.Zk m.Hash.Zl m.Hash.Steps m.Merge.Fixed m.Merge.Zi m.Merge.Zj m.Merge.Zk m.Merge.Zl m.Merge.Steps m.Nested.Fixed m.Nested.Zi m.Nested.Zj m.Nested.Zk m.Nested.Zl m.Nested.Steps (g1.1) (g1.2.1) (g1.2.2.1) (g1.2.2.2.1) (g1.2.2.2.2)
 have q1:=fun y0 y1 y2 y3 y4 y5 y6 y7 y8 y9 y10 y11 y12 y13 y14 y15 y16 y17 y18 y19 y20 y21 y22 y23 y24 y25 y26 y27 y28 y29=>Z0q m.Scan.Fixed m.Scan.Zi m.Scan.Zj m.Scan.Zk m.Scan.Zl m.Scan.Steps m.Sort_.Fixed m.Sort_.Zi m.Sort_.Zj m.Sort_.Zk m.Sort_.Zl m.Sort_.Steps m.Hash.Fixed m.Hash.Zi m.Hash.Zj m.Hash.Zk m.Hash.Zl m.Hash.Steps m.Merge.Fixed m.Merge.Zi m.Merge.Zj m.Merge.Zk m.Merge.Zl m.Merge.Steps m.Nested.Fixed m.Nested.Zi m.Nested.Zj m.Nested.Zk m.Nested.Zl m.Nested.Steps y0 y1 y2 y3 y4 y5 y6 y7 y8 y9 y10 y11 y12 y13 y14 y15 y16 y17 y18 y19 y20 y21 y22 y23 y24 y25 y26 y27 y28 y29 (g1.1) (g1.2.1) (g1.2.2.1) (g1.2.2.2.1) (g1.2.2.2.2)
 have t2:=Z0e q.Zg q.Atoms (g2)
 have q2:=fun y0 y1=>Z0f q.Zg q.Atoms y0 y1 (g2)
 have t3:=c_toPlan p.Steps (g3)
 have q3:=fun y0=>c_eqPlan p.Steps y0 (g3)
 have i4:SmA ks:=by omega
 have t4:=Z00 ks i4
 have q4:=fun y=>Z02 ks y i4
 have m1:=fun a0 a1 a2 a3 a4=>Z1q a0 a1 a2 a3 a4 m.Scan.Fixed m.Scan.Zi m.Scan.Zj m.Scan.Zk m.Scan.Zl m.Scan.Steps m.Sort_.Fixed m.Sort_.Zi m.Sort_.Zj m.Sort_.Zk m.Sort_.Zl m.Sort_.Steps m.Hash.Fixed m.Hash.Zi m.Hash.Zj m.Hash.Zk m.Hash.Zl m.Hash.Steps m.Merge.Fixed m.Merge.Zi m.Merge.Zj m.Merge.Zk m.Merge.Zl m.Merge.Steps m.Nested.Fixed m.Nested.Zi m.Nested.Zj m.Nested.Zk m.Nested.Zl m.Nested.Steps (1) (by omega) (by omega) (g1.1) (g1.2.1) (g1.2.2.1) (g1.2.2.2.1) (g1.2.2.2.2)
 have m2:=fun a0=>Z1s a0 q.Zg q.Atoms (1+(Zh m.Scan.Steps:Int)+(Zh m.Sort_.Steps:Int)+(Zh m.Hash.Steps:Int)+(Zh m.Merge.Steps:Int)+(Zh m.Nested.Steps:Int)) (by omega) (by omega) (g2)
 have m3:=fun a0=>Z1r a0 p.Steps (1+(Zh m.Scan.Steps:Int)+(Zh m.Sort_.Steps:Int)+(Zh m.Hash.Steps:Int)+(Zh m.Merge.Steps:Int)+(Zh m.Nested.Steps:Int)+(Z4 q.Atoms:Int)) (by omega) (by omega) (g3)
 have m4:=fun a0=>Z1m a0 ks (1+(Zh m.Scan.Steps:Int)+(Zh m.Sort_.Steps:Int)+(Zh m.Hash.Steps:Int)+(Zh m.Merge.Steps:Int)+(Zh m.Nested.Steps:Int)+(Z4 q.Atoms:Int)+(Z5 p.Steps:Int)) (by omega) (by omega) i4
 have z1:¬ (1+(Zh m.Scan.Steps:Int)+(Zh m.Sort_.Steps:Int)+(Zh m.Hash.Steps:Int)+(Zh m.Merge.Steps:Int)+(Zh m.Nested.Steps:Int)+(Z4 q.Atoms:Int)+(Z5 p.Steps:Int)+(Zb8 ks:Int)<0):=by omega
 have n1:LeM m:=⟨by have:=g1.1;omega,by have:=g1.2.1;omega,by have:=g1.2.2.1;omega,by have:=g1.2.2.2.1;omega,by have:=g1.2.2.2.2;omega⟩
 have n2:LeQ q:=⟨by have:=g2.1;omega,fun x hx=>by have:=(g2.2 x hx).2;omega⟩
 have n4:Le ks:=by omega
 have s0:=Zyz m n1 q n2 p ks n4
 have s1:=Zyx m n1 q n2 p ks n4
 have hl:=Zyy m q p ks
 unfold Zh7 at s0
 unfold Zh3 at s1
 simp only [Zf.c_def,Zd.c_def,Plan.c_def,List.map_cons,List.map_nil] at s0 s1
 cases hr:Zew m q p ks with
 | none =>
  rw [hr] at s0 s1
  simp only [Option.getD_none,List.map_nil] at s0 s1
  simp +decide [Zex,e1,h1,e2,h2,e3,h3,e4,h4,t1,q1,t2,q2,t3,q3,t4,q4,m1,m2,m3,m4,z1,s0,s1,Z1v,Z06,Z1c]
 | some l =>
  have h5:l.length≤14:=hl l hr
  rw [hr] at s0 s1
  simp only [Option.getD_some] at s0 s1
  have q6:=Zrw l l (by omega)
  have m6:=fun a0=>Zry a0 l 1 (by omega) (by omega) (by omega)
  have m7:=Z1b l 1 (by omega) (by omega) (by omega)
  have z2:¬ (1+(l.length:Int)<0):=by omega
  simp +decide [Zex,e1,h1,e2,h2,e3,h3,e4,h4,t1,q1,t2,q2,t3,q3,t4,q4,m1,m2,m3,m4,z1,s0,s1,q6,m6,m7,z2]
end Go.Proofs.YtbapkgocloaaeaaGreat
