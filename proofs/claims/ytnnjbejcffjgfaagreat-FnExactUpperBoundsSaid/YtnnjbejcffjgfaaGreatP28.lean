/-
  Parts of the proofs for this seat: LR.
-/
import Derived.Test.YtnnjbejcffjgfaaGreatP24
set_option linter.unusedSectionVars false
set_option linter.unusedSimpArgs false
set_option linter.unusedVariables false
set_option maxRecDepth 100000
set_option maxHeartbeats 4000000
namespace Go.Proofs.YtnnjbejcffjgfaaGreat
open Go.AM
noncomputable def ubAt(s:Zf)(q:Zb)(m:Nat):Int:=if conn q.Atoms (m:Int)=true/\m≠0 then(upF s q m).1 else 0
noncomputable def ubL(s:Zf)(q:Zb)(k:Nat):List Int:=(List.range k).map (ubAt s q)
theorem Zbl7(s:Zf)(q:Zb)(k:Nat):ubL s q (k+1)=ubL s q k++[ubAt s q k]:=by
 unfold ubL;rw[Ybs,Y0];rfl
theorem Zof(s:Zf)(q:Zb)(k:Nat):(ubL s q k).length=k:=by simp[ubL]
noncomputable def ubsF(s:Zf)(q:Zb):List Int:=if okQ s q 1=true then ubL s q (2 ^ q.Atoms.length)else[]
theorem okQ_of{s:Zf}{q:Zb}(c:Ctx s q){m:Int}(h1:1<=m)(h2:m<2 ^ q.Atoms.length):okQ s q m=true:=by
 have e1:=c.st;have e2:=c.qf;have h3:=(Zkc c.vq).2.1;unfold okQ;rw[e1,e2,Ye,Ye];refine Zy.2 ⟨h1,?_⟩;unfold Zbm;rw[if_pos c.vq,h3];omega
section
variable{s:Zf}{q:Zb}(c:Ctx s q)
include c
theorem l_iUBs:∀k:Nat,k<=2 ^ q.Atoms.length->∀(x:List Int) (j:Nat),1<=k->x.drop j=Zfy q.Atoms k (2 ^ q.Atoms.length-k)->x.length<=16->
  Zrv s q (ubL s q k++List.replicate (2 ^ q.Atoms.length-k) 0) x x.length j=some (.own 0,[.arr Zbc 1 true ((ubL s q (2 ^ q.Atoms.length)).map ic)]):=by
 have hp:=Zn6 q.Atoms.length;have h16:2 ^ q.Atoms.length<=16:=Nat.pow_le_pow_right (by omega:0<2) (Zeo c.vq).2;refine down _ ?_ ?_
 .intro x j _ hx hl;rw[Y6,Zb7b]at hx;have:=List.drop_eq_nil_iff.1 hx;refine Zb3y ?_;rw[if_neg (by omega),Y6,List.replicate_zero,Ybl]
 .intro k hk ih x j h1 hx hl;rw[show 2 ^ q.Atoms.length-k=(2 ^ q.Atoms.length-(k+1))+1 by omega,Zbk2]at hx;rw[show 2 ^ q.Atoms.length-k=(2 ^ q.Atoms.length-(k+1))+1 by omega];rcases ft (conn q.Atoms k)with e|e
  .rw[if_pos e]at hx;have hj:j<x.length:=by
    refine Nat.lt_of_not_le λh=>?_
    rw[Ybd h]at hx;simp at hx
   have hg:x[j]?=some (k:Int):=by
    have:=congrArg (λl=>l[0]?) hx;simpa using this
   have hd:x.drop (j+1)=Zfy q.Atoms (k+1) (2 ^ q.Atoms.length-(k+1)):=by
    have:=congrArg (List.drop 1) hx;simpa[Ybt]using this
   have wk':w ((j:Int)+1)=((j+1:Nat):Int):=by rw[show((j+1:Nat):Int)=(j:Int)+1 by omega];exact Zw (by omega) (by omega)
   have hb:bndU s q k=upF s q k:=by unfold upF;rw[if_pos (okQ_of c (by omega) (by omega))]
   refine Zb3y ?_;rw[if_pos (by omega)];refine⟨by omega,_,by rw[Yh];exact hg,_,_,Zb8a c (by omega) (by omega) (okQ_of c (by omega) (by omega)),by omega,0,?_,?_⟩
   .rw[Yh,Ycg (by rw[Zof];omega),Zof,Y6,Ybq];rfl
   .rw[wk',Yh,List.set_append_right _ _ (by rw[Zof];omega),Zof,Y6,Ybq,List.set_cons_zero,hb];have ih:=ih x (j+1) (by omega) hd hl;rw[Zbl7]at ih;have ea:ubAt s q k=(upF s q k).1:=by unfold ubAt;rw[if_pos ⟨e,by omega⟩]
    rw[ea,Yz]at ih;exact ih
  .rw[if_neg (by rw[e];decide),Yb2]at hx;have ih:=ih x j (by omega) hx hl;rw[Zbl7]at ih;have ea:ubAt s q k=0:=by unfold ubAt;rw[if_neg (by rw[e];simp)]
   rw[ea,Yz]at ih;rw[Ybq];exact ih
theorem l_sUBs:∀k:Nat,k<=2 ^ q.Atoms.length->Zrx s q (ubL s q k) k=some (.own 0,[.arr Zbc 1 true ((ubL s q (2 ^ q.Atoms.length)).map ic)]):=by
 have hf:=Zjm c.vq;have hp:=Zn6 q.Atoms.length;have h16:2 ^ q.Atoms.length<=16:=Nat.pow_le_pow_right (by omega:0<2) (Zeo c.vq).2;refine down _ ?_ ?_
 .refine Zb31 ⟨_,Zjc q c.lq,?_⟩;rw[if_neg (by rw[hf];omega)]
 .intro k hk ih;have wk':w ((k:Int)+1)=((k+1:Nat):Int):=by rw[show((k+1:Nat):Int)=(k:Int)+1 by omega];exact Zw (by omega) (by omega)
  have hr:inR (k:Int) 0 (Zbm q.Zp q.Atoms)=true:=Zy.2 ⟨by omega,by rw[hf];omega⟩;have ec:Zg7 q.Zp q.Atoms k=(decide ((k:Int)≠0) && conn q.Atoms k):=by unfold Zg7;rw[c.vq,hr,Ye,Ye]
  have hl:=Zof s q k;refine Zb31 ⟨_,Zjc q c.lq,?_⟩;rw[if_pos (by rw[hf];omega)];refine⟨_,Zbk1 q c.lq k,?_⟩;rw[wk',ec];rw[Zbl7]at ih;rcases ft (decide ((k:Int)≠0) && conn q.Atoms k)with e|e
  .rw[if_pos e];refine⟨_,Zcxh c.le c.lq k,by omega,?_⟩;simp only[Yc,decide_eq_true_eq]at e;have ea:ubAt s q k=(upF s q k).1:=by unfold ubAt;rw[if_pos ⟨e.2,by omega⟩]
   rw[ea]at ih;exact ih
  .rw[if_neg (by rw[e];decide)];refine⟨by omega,?_⟩;have ea:ubAt s q k=0:=by
    unfold ubAt;rw[if_neg];rintro⟨h1,h2⟩;rw[h1,Bool.and_true]at e;exact absurd (of_decide_eq_false e) (by simp;omega)
   rw[ea]at ih;exact ih
end
theorem Zcbe{s:Zf}{q:Zb}(h:Zcs s)(hq:LeQ q):Zi4 s q=some (if okQ s q 1=true then(.own 0,[.arr Zbc 1 true ((ubsF s q).map ic)])else(.t .nil,[])):=by
 refine Zcsw ⟨_,Zjp h hq 1,?_⟩;rcases ft (okQ s q 1)with e|e
 .obtain⟨c,h1,h2⟩:=Zh9 h hq e;have hf:=Zjm c.vq;have hp:=Zn6 q.Atoms.length;have h16:2 ^ q.Atoms.length<=16:=Nat.pow_le_pow_right (by omega:0<2) (Zeo c.vq).2;have wk':w (Zbm q.Zp q.Atoms+1)=((2 ^ q.Atoms.length:Nat):Int):=by rw[hf,hp,show(2:Int) ^ q.Atoms.length-1+1=2 ^ q.Atoms.length by omega];exact Zw (by omega) (by omega)
  rw[if_pos e,if_pos e];refine⟨_,Zn1 q hq,?_⟩;rw[wk',Yh]
  refine⟨by omega,by omega,by have:(16:Nat)*8<=room:=(by decide);omega,by omega,_,Zb7d q hq c.vq,?_⟩
  have b:=l_iUBs c 1 Nat.one_le_two_pow (Zsf q.Atoms) 0 (by omega) (by rw[Yq];rfl) (by have:=Zb7c (qa:=q.Atoms) (k:=1) (n:=2 ^ q.Atoms.length-1);unfold Zsf;omega);have e0:ubL s q 1=[0]:=by simp[ubL,ubAt]
  rw[e0,List.singleton_append,<-Ybq,show 2 ^ q.Atoms.length-1+1=2 ^ q.Atoms.length by omega]at b;unfold ubsF;rw[if_pos e];exact b
 .rw[if_neg (by rw[e];decide),if_neg (by rw[e];decide)]
theorem Zcbf{s:Zf}{q:Zb}:okQ s q (Zbm q.Zp q.Atoms)=okQ s q 1:=by
 unfold okQ;congr 2;by_cases h:1<=Zbm q.Zp q.Atoms
 .rw[Zy.2 ⟨h,Int.le_refl _⟩,Zy.2 ⟨Int.le_refl _,h⟩]
 .have e1:inR (Zbm q.Zp q.Atoms) 1 (Zbm q.Zp q.Atoms)≠true:=λhh=>h (Zy.1 hh).1
  have e2:inR 1 1 (Zbm q.Zp q.Atoms)≠true:=λhh=>h (Zy.1 hh).2
  rw[Bool.eq_false_iff.2 e1,Bool.eq_false_iff.2 e2]
theorem Zcbg{s:Zf}{q:Zb}(h:Zcs s)(hq:LeQ q):Zrw s q=some (.own 0,[.arr Zbc 1 true ((ubsF s q).map ic)]):=by
 refine Zcss ⟨_,Zjc q hq,_,Zgp h hq _,?_⟩;rw[Zcbf];unfold ubsF;rcases ft (okQ s q 1)with e|e
 .obtain⟨c,h1,h2⟩:=Zh9 h hq e;rw[if_pos e,if_pos e];exact l_sUBs c 0 (Ya _)
 .rw[if_neg (by rw[e];decide),if_neg (by rw[e];decide)]
theorem Zbl8{s:Zf}{q:Zb}(h:Zcs s)(hq:LeQ q):(ubsF s q).length<=16:=by
 unfold ubsF;rcases ft (okQ s q 1)with e|e
 .obtain⟨c,_,_⟩:=Zh9 h hq e;rw[if_pos e,Zof];exact Nat.pow_le_pow_right (by omega:0<2) (Zeo c.vq).2
 .rw[if_neg (by rw[e];decide)];exact Ya _
end Go.Proofs.YtnnjbejcffjgfaaGreat
