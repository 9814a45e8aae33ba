/-
  Parts of the proofs for this seat: L44.
-/
import Derived.Test.YtnnjbejcffjgfaaGreatP28
import Derived.Test.YtnnjbejcffjgfaaGreatP29
set_option linter.unusedSectionVars false
set_option linter.unusedSimpArgs false
set_option linter.unusedVariables false
set_option maxRecDepth 100000
set_option maxHeartbeats 4000000
namespace Go.Proofs.YtnnjbejcffjgfaaGreat
open Go.AM
theorem Zc17:C Z83 [.t .nil,.t (.lst 1 [])] []=some (Bo true,[]):=by
 refine run Zbli rfl ?_;simp[Zy9,Zd Zsh.eq_1]
theorem Zcbu(s:Zf)(q:Zb)(hs:s.okay)(hq:q.okay):C Zcd2 [.agg (s.c.map .t),.agg (q.c.map .t)] []=some (Bo true,[]):=by
 refine run Zcxk rfl ?_;have e1:=λl=>Zbl3 s.Zi.Tables s.Zl.Version s.Zl.Tables s.Dependencies s.Inclusions l (hs.1) (hs.2.2.1) (hs.2.2.2.1) (hs.2.2.2.2)
 by_cases h1:Zf.sz s (1048576)<0
 .simp[Zy7,e1,h1]
 obtain⟨b1,g1⟩:=Zf.sz_ok s _ hs (by omega) (by omega) (by omega:0<=Zf.sz s (1048576));have u1:=(Zf.ct s _ hs (by omega) (by omega) (by omega:0<=Zf.sz s (1048576))).2;unfold Z7s at u1;have e2:=λl=>Zbl0 q.Zp q.Atoms l (hq.2)
 by_cases h2:Zb.sz q (Zf.sz s (1048576))<0
 .simp[Zy7,e1,h1,e2,h2]
 obtain⟨b2,g2⟩:=Zb.sz_ok q _ hq (by omega) (by omega) (by omega:0<=Zb.sz q (Zf.sz s (1048576)));have u2:=(Zb.ct q _ hq (by omega) (by omega) (by omega:0<=Zb.sz q (Zf.sz s (1048576)))).2;unfold Z7r at u2;have t1:=Zbl1 s.Zi.Tables s.Zl.Version s.Zl.Tables s.Dependencies s.Inclusions (g1.1) (g1.2.1) (g1.2.2.1) (g1.2.2.2);have q1:=λy0 y1 y2 y3 y4=>Zbl2 s.Zi.Tables s.Zl.Version s.Zl.Tables s.Dependencies s.Inclusions y0 y1 y2 y3 y4 (g1.1) (g1.2.1) (g1.2.2.1) (g1.2.2.2)
 have t2:=Zbly q.Zp q.Atoms (g2);have q2:=λy0 y1=>Zblz q.Zp q.Atoms y0 y1 (g2)
 have m1:=λa0 a1 a2 a3=>Zcbm a0 a1 a2 a3 s.Zi.Tables s.Zl.Version s.Zl.Tables s.Dependencies s.Inclusions (1) (by omega) (by omega) (g1.1) (g1.2.1) (g1.2.2.1) (g1.2.2.2)
 have m2:=λa0=>Zcbl a0 q.Zp q.Atoms (1+(Zbz s.Zi.Tables:Int)+(Zb3 s.Zl.Tables:Int)+(Zc2 s.Dependencies:Int)+(Zdy s.Inclusions:Int)) (by omega) (by omega) (g2)
 have zk:¬(1+(Zbz s.Zi.Tables:Int)+(Zb3 s.Zl.Tables:Int)+(Zc2 s.Dependencies:Int)+(Zdy s.Inclusions:Int)+(Ze1 q.Atoms:Int)<0):=by omega
 have nq:LeQ q:=⟨by have:=g2.1;omega,λx hx=>by have:=(g2.2 x hx).2;omega⟩;have nd:LeD s.Zi:=⟨by have:=g1.1.1;omega,λt ht=>⟨by have:=(g1.1.2 t ht).2.1;omega,λr hr=>by have:=(g1.1.2 t ht).2.2 r hr;omega⟩⟩;have nk:LeK s.Zl:=⟨by have:=g1.2.1.1;omega,λx hx=>⟨by have:=(g1.2.1.2 x hx).2.1;omega,λy hy=>have k:=(g1.2.1.2 x hx).2.2 y hy;⟨by have:=k.1;omega,⟨by have:=k.2.1.1;omega,λr hr=>by have:=k.2.1.2 r hr;omega⟩,by have:=k.2.2;omega⟩⟩⟩;have nf:LeF s.Dependencies:=⟨by have:=g1.2.2.1.1;omega,λx hx=>by have:=(g1.2.2.1.2 x hx).2;omega⟩;have nx:Le s.Inclusions:=by have:=g1.2.2.2.1;omega
 have s0:=Zcbg (s:=s) ⟨nd,nk,nf,nx⟩ nq;have s1:=Zcbe (s:=s) ⟨nd,nk,nf,nx⟩ nq;have hl:=Zbl8 (s:=s) ⟨nd,nk,nf,nx⟩ nq;unfold Zrw at s0;unfold Zi4 at s1;simp only[Zf.c_def,Zb.c_def,tI,tII,Ys,Yco]at s0 s1;rcases ft (okQ s q 1)with ok|ok
 .rw[if_pos ok]at s1;have sm:SmA (ubsF s q):=by show _<=4294967296;omega
  have v1:=λy=>Zlx (ubsF s q) y sm
  have v2:=λa0=>Z7q a0 (ubsF s q) 1 (by omega) (by omega) sm
  have v3:=Zbl9 (ubsF s q) 1 (by omega) (by omega) sm;have z2:¬(1+((ubsF s q).length:Int)<0):=by omega
  simp +decide[Zy7,e1,h1,e2,h2,t1,q1,t2,q2,m1,m2,zk,s0,s1,v1,v2,v3,z2]
 .rw[if_neg (by rw[ok];decide)]at s1;have e0:ubsF s q=[]:=by unfold ubsF;rw[if_neg (by rw[ok];decide)]
  rw[e0]at s0;simp +decide[Zy7,e1,h1,e2,h2,t1,q1,t2,q2,m1,m2,zk,s0,s1,Zc17,Zcbi,Zcbj]
end Go.Proofs.YtnnjbejcffjgfaaGreat
