/-
  Parts of the proofs for this seat: L43.
-/
import Derived.Test.YtnnjbejcffjgfaaGreatP24
import Derived.Test.YtnnjbejcffjgfaaGreatP25
set_option linter.unusedSectionVars false
set_option linter.unusedSimpArgs false
set_option linter.unusedVariables false
set_option maxRecDepth 100000
set_option maxHeartbeats 4000000
namespace Go.Proofs.YtnnjbejcffjgfaaGreat
open Go.AM
theorem Zcbt(s:Zf)(q:Zb)(k:Int)(hs:s.okay)(hq:q.okay)(hk:OkI k):C Zcd1 [.agg (s.c.map .t),.agg (q.c.map .t),I k] []=some (Bo true,[]):=by
 refine run Zcxj rfl ?_;have e1:=λl=>Zbl3 s.Zi.Tables s.Zl.Version s.Zl.Tables s.Dependencies s.Inclusions l (hs.1) (hs.2.2.1) (hs.2.2.2.1) (hs.2.2.2.2)
 by_cases h1:Zf.sz s (1048576)<0
 .simp[Z61,e1,h1]
 obtain⟨b1,g1⟩:=Zf.sz_ok s _ hs (by omega) (by omega) (by omega:0<=Zf.sz s (1048576));have e2:=λl=>Zbl0 q.Zp q.Atoms l (hq.2)
 by_cases h2:Zb.sz q (Zf.sz s (1048576))<0
 .simp[Z61,e1,h1,e2,h2]
 obtain⟨b2,g2⟩:=Zb.sz_ok q _ hq (by omega) (by omega) (by omega:0<=Zb.sz q (Zf.sz s (1048576)));have t1:=Zbl1 s.Zi.Tables s.Zl.Version s.Zl.Tables s.Dependencies s.Inclusions (g1.1) (g1.2.1) (g1.2.2.1) (g1.2.2.2);have q1:=λy0 y1 y2 y3 y4=>Zbl2 s.Zi.Tables s.Zl.Version s.Zl.Tables s.Dependencies s.Inclusions y0 y1 y2 y3 y4 (g1.1) (g1.2.1) (g1.2.2.1) (g1.2.2.2)
 have t2:=Zbly q.Zp q.Atoms (g2);have q2:=λy0 y1=>Zblz q.Zp q.Atoms y0 y1 (g2)
 have nq:LeQ q:=⟨by have:=g2.1;omega,λx hx=>by have:=(g2.2 x hx).2;omega⟩;have nd:LeD s.Zi:=⟨by have:=g1.1.1;omega,λt ht=>⟨by have:=(g1.1.2 t ht).2.1;omega,λr hr=>by have:=(g1.1.2 t ht).2.2 r hr;omega⟩⟩;have nk:LeK s.Zl:=⟨by have:=g1.2.1.1;omega,λx hx=>⟨by have:=(g1.2.1.2 x hx).2.1;omega,λy hy=>have k:=(g1.2.1.2 x hx).2.2 y hy;⟨by have:=k.1;omega,⟨by have:=k.2.1.1;omega,λr hr=>by have:=k.2.1.2 r hr;omega⟩,by have:=k.2.2;omega⟩⟩⟩;have nf:LeF s.Dependencies:=⟨by have:=g1.2.2.1.1;omega,λx hx=>by have:=(g1.2.2.1.2 x hx).2;omega⟩;have nx:Le s.Inclusions:=by have:=g1.2.2.2.1;omega
 have s0:=Zcxi (s:=s) ⟨nd,nk,nf,nx⟩ nq k;have s1:=Zcxg (s:=s) ⟨nd,nk,nf,nx⟩ nq k;unfold Z4r at s0;unfold Z4q at s1;simp only[Zf.c_def,Zb.c_def,tI,tII,Ys,Yco]at s0 s1;simp +decide[Z61,e1,h1,e2,h2,t1,q1,t2,q2,s0,s1]
end Go.Proofs.YtnnjbejcffjgfaaGreat
