/-
  Parts of the proofs for this seat: LR LT LU LW.
-/
import Derived.Test.YtnnjbejcffjgfaaGreatP23
set_option linter.unusedSectionVars false
set_option linter.unusedSimpArgs false
set_option linter.unusedVariables false
set_option maxRecDepth 100000
set_option maxHeartbeats 4000000
namespace Go.Proofs.YtnnjbejcffjgfaaGreat
open Go.AM
noncomputable def ubAt(s:Zh)(q:Zc)(m:Nat):Int:=if conn q.Atoms (m:Int)=true/\m≠0 then(upF s q m).1 else 0
noncomputable def ubL(s:Zh)(q:Zc)(k:Nat):List Int:=(List.range k).map (ubAt s q)
theorem Zbk7(s:Zh)(q:Zc)(k:Nat):ubL s q (k+1)=ubL s q k++[ubAt s q k]:=by
 unfold ubL;rw[Ybs,Y0];rfl
theorem Zn5(s:Zh)(q:Zc)(k:Nat):(ubL s q k).length=k:=by simp[ubL]
noncomputable def ubsF(s:Zh)(q:Zc):List Int:=if okQ s q 1=true then ubL s q (2 ^ q.Atoms.length)else[]
theorem okQ_of{s:Zh}{q:Zc}(c:Ctx s q){m:Int}(h1:1<=m)(h2:m<2 ^ q.Atoms.length):okQ s q m=true:=by
 have e1:=c.st;have e2:=c.qf;have h3:=(Zj7 c.vq).2.1;unfold okQ;rw[e1,e2,Ye,Ye];refine Zy.2 ⟨h1,?_⟩;unfold Zbm;rw[if_pos c.vq,h3];omega
section
variable{s:Zh}{q:Zc}(c:Ctx s q)
include c
theorem l_iUBs:∀k:Nat,k<=2 ^ q.Atoms.length->∀(x:List Int) (j:Nat),1<=k->x.drop j=Zfy q.Atoms k (2 ^ q.Atoms.length-k)->x.length<=16->
  Zrr s q (ubL s q k++List.replicate (2 ^ q.Atoms.length-k) 0) x x.length j=some (.own 0,[.arr Zbc 1 true ((ubL s q (2 ^ q.Atoms.length)).map ic)]):=by
 have hp:=Zn3 q.Atoms.length;have h16:2 ^ q.Atoms.length<=16:=Nat.pow_le_pow_right (by omega:0<2) (Zen c.vq).2;refine down _ ?_ ?_
 .intro x j _ hx hl;rw[Y6,Zb6t]at hx;have:=List.drop_eq_nil_iff.1 hx;refine Zb3g _ _ _ _ _ _ _ ?_;rw[if_neg (by omega),Y6,List.replicate_zero,Ybl]
 .intro k hk ih x j h1 hx hl;rw[show 2 ^ q.Atoms.length-k=(2 ^ q.Atoms.length-(k+1))+1 by omega,Zbkr]at hx;rw[show 2 ^ q.Atoms.length-k=(2 ^ q.Atoms.length-(k+1))+1 by omega];rcases ft (conn q.Atoms k)with e|e
  .rw[if_pos e]at hx;have hj:j<x.length:=by
    refine Nat.lt_of_not_le λh=>?_
    rw[Ybd h]at hx;simp at hx
   have hg:x[j]?=some (k:Int):=by
    have:=congrArg (λl=>l[0]?) hx;simpa using this
   have hd:x.drop (j+1)=Zfy q.Atoms (k+1) (2 ^ q.Atoms.length-(k+1)):=by
    have:=congrArg (List.drop 1) hx;simpa[Ybt]using this
   have wk':w ((j:Int)+1)=((j+1:Nat):Int):=by rw[show((j+1:Nat):Int)=(j:Int)+1 by omega];exact Zw (by omega) (by omega)
   have hb:bndU s q k=upF s q k:=by unfold upF;rw[if_pos (okQ_of c (by omega) (by omega))]
   refine Zb3g _ _ _ _ _ _ _ ?_;rw[if_pos (by omega)];refine⟨by omega,_,by rw[Yh];exact hg,_,_,x_least c (by omega) (by omega) (okQ_of c (by omega) (by omega)),by omega,0,?_,?_⟩
   .rw[Yh,Ycg (by rw[Zn5];omega),Zn5,Y6,Ybq];rfl
   .rw[wk',Yh,List.set_append_right _ _ (by rw[Zn5];omega),Zn5,Y6,Ybq,List.set_cons_zero,hb];have ih:=ih x (j+1) (by omega) hd hl;rw[Zbk7]at ih;have ea:ubAt s q k=(upF s q k).1:=by unfold ubAt;rw[if_pos ⟨e,by omega⟩]
    rw[ea,Yz]at ih;exact ih
  .rw[if_neg (by rw[e];decide),Yb2]at hx;have ih:=ih x j (by omega) hx hl;rw[Zbk7]at ih;have ea:ubAt s q k=0:=by unfold ubAt;rw[if_neg (by rw[e];simp)]
   rw[ea,Yz]at ih;rw[Ybq];exact ih
theorem l_sUBs:∀k:Nat,k<=2 ^ q.Atoms.length->Zrs s q (ubL s q k) k=some (.own 0,[.arr Zbc 1 true ((ubL s q (2 ^ q.Atoms.length)).map ic)]):=by
 have hf:=Zjh c.vq;have hp:=Zn3 q.Atoms.length;have h16:2 ^ q.Atoms.length<=16:=Nat.pow_le_pow_right (by omega:0<2) (Zen c.vq).2;refine down _ ?_ ?_
 .refine Zb3j _ _ _ _ _ ⟨_,Zi7 q c.lq,?_⟩;rw[if_neg (by rw[hf];omega)]
 .intro k hk ih;have wk':w ((k:Int)+1)=((k+1:Nat):Int):=by rw[show((k+1:Nat):Int)=(k:Int)+1 by omega];exact Zw (by omega) (by omega)
  have hr:inR (k:Int) 0 (Zbm q.Zp q.Atoms)=true:=Zy.2 ⟨by omega,by rw[hf];omega⟩;have ec:Zg5 q.Zp q.Atoms k=(decide ((k:Int)≠0) && conn q.Atoms k):=by unfold Zg5;rw[c.vq,hr,Ye,Ye]
  have hl:=Zn5 s q k;refine Zb3j _ _ _ _ _ ⟨_,Zi7 q c.lq,?_⟩;rw[if_pos (by rw[hf];omega)];refine⟨_,Zbkq q c.lq k,?_⟩;rw[wk',ec];rw[Zbk7]at ih;rcases ft (decide ((k:Int)≠0) && conn q.Atoms k)with e|e
  .rw[if_pos e];refine⟨_,Zcwn c.le c.lq k,by omega,?_⟩;simp only[Yc,decide_eq_true_eq]at e;have ea:ubAt s q k=(upF s q k).1:=by unfold ubAt;rw[if_pos ⟨e.2,by omega⟩]
   rw[ea]at ih;exact ih
  .rw[if_neg (by rw[e];decide)];refine⟨by omega,?_⟩;have ea:ubAt s q k=0:=by
    unfold ubAt;rw[if_neg];rintro⟨h1,h2⟩;rw[h1,Bool.and_true]at e;exact absurd (of_decide_eq_false e) (by simp;omega)
   rw[ea]at ih;exact ih
end
theorem Zcwo{s:Zh}{q:Zc}(h:Zc0 s)(hq:LeQ q):Zk3 s q=some (if okQ s q 1=true then(.own 0,[.arr Zbc 1 true ((ubsF s q).map ic)])else(.t .nil,[])):=by
 refine Zcr2 ⟨_,Zlq h hq 1,?_⟩;rcases ft (okQ s q 1)with e|e
 .obtain⟨c,h1,h2⟩:=Zjk h hq e;have hf:=Zjh c.vq;have hp:=Zn3 q.Atoms.length;have h16:2 ^ q.Atoms.length<=16:=Nat.pow_le_pow_right (by omega:0<2) (Zen c.vq).2;have wk':w (Zbm q.Zp q.Atoms+1)=((2 ^ q.Atoms.length:Nat):Int):=by rw[hf,hp,show(2:Int) ^ q.Atoms.length-1+1=2 ^ q.Atoms.length by omega];exact Zw (by omega) (by omega)
  rw[if_pos e,if_pos e];refine⟨_,Zny q hq,?_⟩;rw[wk',Yh];refine⟨by omega,by omega,by have:(16:Nat)*8<=room:=(by decide);omega,by omega,_,Zb6v q hq c.vq,?_⟩;have b:=l_iUBs c 1 Nat.one_le_two_pow (Zsa q.Atoms) 0 (by omega) (by rw[Yq];rfl) (by have:=Zb6u (qa:=q.Atoms) (k:=1) (n:=2 ^ q.Atoms.length-1);unfold Zsa;omega);have e0:ubL s q 1=[0]:=by simp[ubL,ubAt]
  rw[e0,List.singleton_append,<-Ybq,show 2 ^ q.Atoms.length-1+1=2 ^ q.Atoms.length by omega]at b;unfold ubsF;rw[if_pos e];exact b
 .rw[if_neg (by rw[e];decide),if_neg (by rw[e];decide)]
theorem Zb7s{s:Zh}{q:Zc}:okQ s q (Zbm q.Zp q.Atoms)=okQ s q 1:=by
 unfold okQ;congr 2;by_cases h:1<=Zbm q.Zp q.Atoms
 .rw[Zy.2 ⟨h,Int.le_refl _⟩,Zy.2 ⟨Int.le_refl _,h⟩]
 .have e1:inR (Zbm q.Zp q.Atoms) 1 (Zbm q.Zp q.Atoms)≠true:=λhh=>h (Zy.1 hh).1
  have e2:inR 1 1 (Zbm q.Zp q.Atoms)≠true:=λhh=>h (Zy.1 hh).2
  rw[Bool.eq_false_iff.2 e1,Bool.eq_false_iff.2 e2]
theorem Zcwp{s:Zh}{q:Zc}(h:Zc0 s)(hq:LeQ q):Zx7 s q=some (.own 0,[.arr Zbc 1 true ((ubsF s q).map ic)]):=by
 refine Zcry _ _ _ ⟨_,Zi7 q hq,_,Zgp h hq _,?_⟩;rw[Zb7s];unfold ubsF;rcases ft (okQ s q 1)with e|e
 .obtain⟨c,h1,h2⟩:=Zjk h hq e;rw[if_pos e,if_pos e];exact l_sUBs c 0 (Ya _)
 .rw[if_neg (by rw[e];decide),if_neg (by rw[e];decide)]
theorem Zb7t{s:Zh}{q:Zc}(h:Zc0 s)(hq:LeQ q):(ubsF s q).length<=16:=by
 unfold ubsF;rcases ft (okQ s q 1)with e|e
 .obtain⟨c,_,_⟩:=Zjk h hq e;rw[if_pos e,Zn5];exact Nat.pow_le_pow_right (by omega:0<2) (Zen c.vq).2
 .rw[if_neg (by rw[e];decide)];exact Ya _
theorem Z6v(n:Int):Znu n=some (I (Zcx n),[]):=by
 refine Zcsh _ _ ?_;unfold Zcx;by_cases h0:n<0
 .rw[if_pos h0,if_pos h0]
 rw[if_neg h0,if_neg h0];refine Zi5 _ _ _ ?_;rw[if_pos (by decide)];refine⟨_,Zle _,?_⟩;rw[show Zcl 0=0 from by decide];by_cases h1:n<=0
 .rw[if_pos h1,if_pos h1]
 rw[if_neg h1,if_neg h1,show w (0+1)=1 from by decide];refine Zi5 _ _ _ ?_;rw[if_pos (by decide)];refine⟨_,Zle _,?_⟩;rw[show Zcl 1=1 from by decide];by_cases h1:n<=1
 .rw[if_pos h1,if_pos h1]
 rw[if_neg h1,if_neg h1,show w (1+1)=2 from by decide];refine Zi5 _ _ _ ?_;rw[if_pos (by decide)];refine⟨_,Zle _,?_⟩;rw[show Zcl 2=4 from by decide];by_cases h1:n<=4
 .rw[if_pos h1,if_pos h1]
 rw[if_neg h1,if_neg h1,show w (2+1)=3 from by decide];refine Zi5 _ _ _ ?_;rw[if_pos (by decide)];refine⟨_,Zle _,?_⟩;rw[show Zcl 3=16 from by decide];by_cases h1:n<=16
 .rw[if_pos h1,if_pos h1]
 rw[if_neg h1,if_neg h1,show w (3+1)=4 from by decide];refine Zi5 _ _ _ ?_;rw[if_pos (by decide)];refine⟨_,Zle _,?_⟩;rw[show Zcl 4=64 from by decide];by_cases h1:n<=64
 .rw[if_pos h1,if_pos h1]
 rw[if_neg h1,if_neg h1,show w (4+1)=5 from by decide];refine Zi5 _ _ _ ?_;rw[if_pos (by decide)];refine⟨_,Zle _,?_⟩;rw[show Zcl 5=256 from by decide];by_cases h1:n<=256
 .rw[if_pos h1,if_pos h1]
 rw[if_neg h1,if_neg h1,show w (5+1)=6 from by decide];refine Zi5 _ _ _ ?_;rw[if_pos (by decide)];refine⟨_,Zle _,?_⟩;rw[show Zcl 6=1024 from by decide];by_cases h1:n<=1024
 .rw[if_pos h1,if_pos h1]
 rw[if_neg h1,if_neg h1,show w (6+1)=7 from by decide];refine Zi5 _ _ _ ?_;rw[if_pos (by decide)];refine⟨_,Zle _,?_⟩;rw[show Zcl 7=4096 from by decide];by_cases h1:n<=4096
 .rw[if_pos h1,if_pos h1]
 rw[if_neg h1,if_neg h1,show w (7+1)=8 from by decide];refine Zi5 _ _ _ ?_;rw[if_neg (by decide)]
theorem Zcwq(n:Int):Z44 n=some (I (Zcx n),[]):=by
 refine Zcr6 _ _ ⟨_,Zbu _ _ _,?_⟩;unfold Zcx;by_cases hr:inR n 0 4096=true
 .rw[hr,if_pos rfl];simp only[inR,Yc,decide_eq_true_eq]at hr;rw[if_neg (by omega)];refine Zk9 _ _ _ ⟨_,Zld _,?_⟩;rw[show Zcl 0=0 from by decide];by_cases h1:n<=0
  .rw[if_pos h1,if_pos h1]
  rw[if_neg h1,if_neg h1,show w (0+1)=1 from by decide];refine Zk9 _ _ _ ⟨_,Zld _,?_⟩;rw[show Zcl 1=1 from by decide];by_cases h1:n<=1
  .rw[if_pos h1,if_pos h1]
  rw[if_neg h1,if_neg h1,show w (1+1)=2 from by decide];refine Zk9 _ _ _ ⟨_,Zld _,?_⟩;rw[show Zcl 2=4 from by decide];by_cases h1:n<=4
  .rw[if_pos h1,if_pos h1]
  rw[if_neg h1,if_neg h1,show w (2+1)=3 from by decide];refine Zk9 _ _ _ ⟨_,Zld _,?_⟩;rw[show Zcl 3=16 from by decide];by_cases h1:n<=16
  .rw[if_pos h1,if_pos h1]
  rw[if_neg h1,if_neg h1,show w (3+1)=4 from by decide];refine Zk9 _ _ _ ⟨_,Zld _,?_⟩;rw[show Zcl 4=64 from by decide];by_cases h1:n<=64
  .rw[if_pos h1,if_pos h1]
  rw[if_neg h1,if_neg h1,show w (4+1)=5 from by decide];refine Zk9 _ _ _ ⟨_,Zld _,?_⟩;rw[show Zcl 5=256 from by decide];by_cases h1:n<=256
  .rw[if_pos h1,if_pos h1]
  rw[if_neg h1,if_neg h1,show w (5+1)=6 from by decide];refine Zk9 _ _ _ ⟨_,Zld _,?_⟩;rw[show Zcl 6=1024 from by decide];by_cases h1:n<=1024
  .rw[if_pos h1,if_pos h1]
  rw[if_neg h1,if_neg h1,show w (6+1)=7 from by decide];refine Zk9 _ _ _ ⟨_,Zld _,?_⟩;rw[show Zcl 7=4096 from by decide];rw[if_pos hr.2,if_pos hr.2]
 .rw[show inR n 0 4096=false from by simpa using hr,if_neg (by simp)];simp only[inR,Yc,decide_eq_true_eq]at hr;by_cases h0:n<0
  .rw[if_pos h0]
  .rw[if_neg h0,if_neg (by omega),if_neg (by omega),if_neg (by omega),if_neg (by omega),if_neg (by omega),if_neg (by omega),if_neg (by omega),if_neg (by omega)]
theorem take_s{α:Type}{x:List α}{i:Nat}(h:i<x.length)(f:α->Int):(x.take (i+1)).map f=(x.take i).map f++[f x[i]]:=by
 rw[List.take_add_one,Yj h,Y0];rfl
theorem l_cls(x:List Int)(hx:x.length<=1000):∀i,i<=x.length->Zya ((x.take i).map Zcx) x (x.length:Int) i=some (.own 0,[.arr Zbc 1 true ((x.map Zcx).map ic)]):=by
 refine down x.length ?_ ?_
 .refine Zb3o _ _ _ _ _ ?_;rw[if_neg (by omega),Yl]
 .intro i hi ih;have wk':w ((i:Int)+1)=((i+1:Nat):Int):=by rw[show((i+1:Nat):Int)=(i:Int)+1 by omega];exact Zw (by omega) (by omega)
  refine Zb3o _ _ _ _ _ ?_;rw[if_pos (by omega)];refine⟨by omega,x[i],by rw[Yh,Yj hi],_,Zcwq _,by simp;omega,?_⟩;rw[wk'];rw[take_s hi]at ih;exact ih
theorem Zb7u(x:List Int)(hx:x.length<=1000):Zrv x=some (.own 0,[.arr Zbc 1 true ((x.map Zcx).map ic)]) :=
 Zcr7 _ _ (by simpa using l_cls x hx 0 (Ya _))
theorem l_sBB(x y:List Int)(hx:x.length<=1000)(hl:y.length=x.length):∀i,i<=x.length->Zyh x y ((x.take i).map Zcx) ((y.take i).map Zcx) i=some (.tup [.agg [.own 0,.own 1],Bo true],[.arr Zbc 1 true ((x.map Zcx).map ic),.arr Zbc 1 true ((y.map Zcx).map ic)]):=by
 refine down x.length ?_ ?_
 .refine Zb3w _ _ _ _ _ _ ?_;rw[if_neg (by omega),Yl,<-hl,Yl]
 .intro i hi ih;have hj:i<y.length:=by omega
  have wk':w ((i:Int)+1)=((i+1:Nat):Int):=by rw[show((i+1:Nat):Int)=(i:Int)+1 by omega];exact Zw (by omega) (by omega)
  refine Zb3w _ _ _ _ _ _ ?_;rw[if_pos (by omega)];refine⟨by omega,x[i],by rw[Yh,Yj hi],_,Z6v _,by simp;omega,y[i],by rw[Yh,Yj hj],_,Z6v _,by simp;omega,?_⟩;rw[wk'];rw[take_s hi,take_s hj]at ih;exact ih
theorem x_sBB(x y:List Int)(h0:0<x.length)(hx:x.length<=1000)(hl:y.length=x.length):Z5i x y 0=some (.tup [.agg [.own 0,.own 1],Bo true],[.arr Zbc 1 true ((x.map Zcx).map ic),.arr Zbc 1 true ((y.map Zcx).map ic)]):=by
 have b:=l_sBB x y hx hl 1 h0;refine Zcsi _ _ _ _ ?_;obtain⟨a,x,rfl⟩:=List.exists_cons_of_ne_nil (List.ne_nil_of_length_pos h0);obtain⟨c,y,rfl⟩:=List.exists_cons_of_ne_nil (List.ne_nil_of_length_pos (by omega:0<y.length));rw[if_pos (by simp)];refine⟨by decide,a,rfl,_,Z6v _,c,rfl,_,Z6v _,?_⟩;rw[show w (0+1)=1 from by decide];simpa using b
def fx(xs:List Int)(v:Int):Int:=Zb4 (λx=>decide (v=x)) xs 0
theorem fx_no{xs:List Int}{v:Int}(h:has xs v=false):fx xs v<0:=by
 unfold fx;rw[Z0j _ _ _ h];decide
theorem fx_yes{xs:List Int}{v:Int}(h:has xs v=true):¬fx xs v<0:=by
 have:=Z0k (λx=>decide (v=x)) xs 0 h;unfold fx;omega
def incQ(v x:Zj):Bool:=decide (v.Name=x.Name/\v.Column=x.Column/\v.Into=x.Into/\v.IntoColumn=x.IntoColumn)
def incB(s:Zh)(a b:Atom)(v:Int):Bool:=(decide (a.Name=b.Name) && decide (fx a.Vars v=fx b.Vars v)) || s.Inclusions.any (incQ ⟨a.Name,fx a.Vars v,b.Name,fx b.Vars v⟩)
def extL(s:Zh)(q:Zc)(k:Nat)(v:Int)(l:List Nat):Bool:=l.any λa=>has (atA q a).Vars v && incB s (atA q a) (atA q k) v
def shV(q:Zc)(c:Int)(k:Nat):List Int:=(atA q k).Vars.filter (has (Zbe q c))
def extB(s:Zh)(q:Zc)(c:Int)(k:Nat):Bool:=if andI (shrI c k) 1=1 then false else match shV q c k with
 |[v]=>extL s q k v (mskL c 0 q.Atoms.length)
 |_=>false
theorem lIndexX(v:Zj)(xs:List Zj)(hx:Le xs):∀i,i<=xs.length->
  Zx9 v xs xs.length i=some (I (Zb4 (incQ v) (xs.drop i) i),[]):=by
 refine down _ ?_ ?_
 .refine Zb3k _ _ _ _ _ ?_;simp[Zb4]
 .intro i hi ih;refine Zb3k _ _ _ _ _ ?_;rw[Zs6 _ hi,if_pos (by omega),wS hi (by omega)];refine⟨by omega,_,gE hi,?_⟩;by_cases e:v.Name=xs[i].Name/\v.Column=xs[i].Column/\v.Into=xs[i].Into/\v.IntoColumn=xs[i].IntoColumn
  .rw[if_pos e,if_pos (show incQ v xs[i]=true from decide_eq_true e)]
  .rw[if_neg e,if_neg (by unfold incQ;rw[decide_eq_false e];decide)];exact ih
theorem x_contX(xs:List Zj)(v:Zj)(hx:Le xs):Zns xs v=some (Bo (xs.any (incQ v)),[]):=by
 refine Zcr1 _ _ _ ⟨_,Zcr0 _ _ _ (lIndexX v xs hx 0 (Ya _)),?_⟩;rw[Yq];rcases ft (xs.any (incQ v))with e|e
 .have:=Z0k _ _ 0 e;rw[e,decide_eq_true this]
 .rw[Z0j _ _ _ e,e];rfl
section
variable{s:Zh}{q:Zc}(c:Ctx s q)
include c
theorem atv{i:Nat}(h:i<q.Atoms.length):Le (atA q i).Vars:=by have:=c.vars3 h;omega
theorem l_iext{k:Nat}(hk:k<q.Atoms.length)(v:Int)(l:List Nat)(hl:∀i∈l,i<q.Atoms.length)(h4:l.length<=4):∀i,i<=l.length->Zk4 s q (atA q k) (l.map λn:Nat=>(n:Int)) v (fx (atA q k).Vars v) l.length i=some (Bo (extL s q k v (l.drop i)),[]):=by
 refine down _ ?_ ?_
 .refine Zb3l _ _ _ _ _ _ _ _ _ ?_;rw[if_neg (by omega),Yg];rfl
 .intro i hi ih;have hm:=hl _ (Yb hi);refine Zb3l _ _ _ _ _ _ _ _ _ ?_;rw[if_pos (by omega),wS hi (by omega),Yd hi,extL,Yck];refine⟨by omega,_,gM (m:=0) hi,by omega,_,Zez hm,_,Zb3x _ _ (atv c hm),?_⟩;rw[show Zb4 (λx=>decide (v=x)) (atA q l[i]).Vars 0=fx (atA q l[i]).Vars v from rfl];rcases ft (has (atA q l[i]).Vars v)with e|e
  .rw[if_neg (fx_yes e),e,Ye,incB];have cont:∃v_1,Zns s.Inclusions (⟨(atA q l[i]).Name,fx (atA q l[i]).Vars v,(atA q k).Name,fx (atA q k).Vars v⟩:Zj)=some (Bo v_1,[])/\(if v_1=true then(some (Bo true,[])=some (Bo ((s.Inclusions.any (incQ ⟨(atA q l[i]).Name,fx (atA q l[i]).Vars v,(atA q k).Name,fx (atA q k).Vars v⟩)) || extL s q k v (l.drop (i+1))),([]:List Blk)))else(Zk4 s q (atA q k) (l.map λn:Nat=>(n:Int)) v (fx (atA q k).Vars v) l.length ((i+1:Nat):Int)=some (Bo ((s.Inclusions.any (incQ ⟨(atA q l[i]).Name,fx (atA q l[i]).Vars v,(atA q k).Name,fx (atA q k).Vars v⟩)) || extL s q k v (l.drop (i+1))),[]))):=by
    refine⟨_,x_contX _ _ c.le.x,?_⟩;rcases ft (s.Inclusions.any (incQ ⟨(atA q l[i]).Name,fx (atA q l[i]).Vars v,(atA q k).Name,fx (atA q k).Vars v⟩))with e3|e3
    .rw[e3,if_pos rfl];rfl
    .rw[e3,if_neg (by decide),Y7];exact ih
   by_cases en:(atA q l[i]).Name=(atA q k).Name
   .rw[if_pos en];by_cases ef:fx (atA q l[i]).Vars v=fx (atA q k).Vars v
    .rw[if_pos ef,decide_eq_true en,decide_eq_true ef];rfl
    .rw[if_neg ef,decide_eq_false ef,Bool.and_false,Y7];exact cont
   .rw[if_neg en,decide_eq_false en,Y4,Y7];exact cont
  .rw[if_pos (fx_no e),e,Y4,Y7];exact ih
theorem Zb7v{got:Int}(h1:1<=got)(h2:got<2 ^ q.Atoms.length){k:Nat}(hk:k<q.Atoms.length):Z4v s q got k=some (Bo (extB s q got k),[]):=by
 have h16:=Zdn (by omega) h2 c.n4.2;have h3:=c.vars3 hk;refine Zcr3 _ _ _ _ _ ⟨by omega,_,Zez hk,_,Z5w q got c.lq c.vq,_,x_both _ _ (Zbkz c got) (by omega),by omega,?_⟩;unfold extB;by_cases eb:andI (shrI got k) 1=1
 .rw[if_pos eb,if_pos eb]
 rw[if_neg eb,if_neg eb];show(if((shV q got k).length:Int)=1 then _ else _)
 match hA:shV q got k with
 |[]=>rw[if_neg (by simp)]
 |a::b::r=>rw[if_neg (by simp;omega)]
 |[v] =>
  rw[if_pos (by rfl)];refine⟨v,by rw[show(atA q k).Vars.filter (has (varL got q.Atoms q.Zp.toNat))=[v]from hA];rfl,_,Zb3x _ _ (atv c hk),.inr ⟨_,Zlp h16,?_⟩⟩;rw[c.msk h1 h2,Yo];have:=l_iext c hk v (mskL got 0 q.Atoms.length) (λi hi=>by have:=Zed hi;omega) (by have:=Zg6 got q.Atoms.length 0;have:=c.n4;omega) 0 (Ya _);exact this
theorem x_l19c{k:Nat}(hk:k<q.Atoms.length)(v:Int):Zyb (atA q k) v=some (I (fx (atA q k).Vars v),[]):=by
 have h3:=c.vars3 hk;have l:∀i,i<=(atA q k).Vars.length->Zyc (atA q k) v i=some (I (Zb4 (λx=>decide (v=x)) ((atA q k).Vars.drop i) i),[]):=by
  refine down _ ?_ ?_
  .refine Zb3p _ _ _ _ ?_;rw[if_neg (by omega),Yg];rfl
  .intro i hi ih;refine Zb3p _ _ _ _ ?_;rw[if_pos (by omega),wS hi (by omega),Zs6 _ hi];refine⟨by omega,_,gE hi,?_⟩;by_cases e:(atA q k).Vars[i]=v
   .rw[if_pos e,if_pos (decide_eq_true e.symm)]
   .rw[if_neg e,if_neg (by rw[decide_eq_false (λh=>e h.symm)];decide)];exact ih
 exact Zcr9 _ _ _ (l 0 (Ya _))
theorem l_sinc{v:List Int}{want:Zj}{mask i k:Int}{R:Bool}(hR:Zk5 s q v mask i (w (k+1))=some (Bo R,[])):∀j,j<=s.Inclusions.length->Zrw s q v want mask i k j=some (Bo ((s.Inclusions.drop j).any (incQ want) || R),[]):=by
 have hx:=c.le.x;refine down _ ?_ ?_
 .refine Zb3r _ _ _ _ _ _ _ _ _ ?_;rw[if_neg (by omega),Yg];exact hR
 .intro j hj ih;refine Zb3r _ _ _ _ _ _ _ _ _ ?_;rw[if_pos (by omega),wS hj (by omega),Yd hj,Yck];refine⟨by omega,_,gE hj,?_⟩;by_cases e:s.Inclusions[j].Name=want.Name/\s.Inclusions[j].Column=want.Column/\s.Inclusions[j].Into=want.Into/\s.Inclusions[j].IntoColumn=want.IntoColumn
  .rw[if_pos e,show incQ want s.Inclusions[j]=true from decide_eq_true ⟨e.1.symm,e.2.1.symm,e.2.2.1.symm,e.2.2.2.symm⟩];rfl
  .rw[if_neg e,show incQ want s.Inclusions[j]=false from decide_eq_false λh=>e ⟨h.1.symm,h.2.1.symm,h.2.2.1.symm,h.2.2.2.symm⟩,Y7];exact ih
theorem l_sext{cc:Int}(cd:M16 cc){i:Nat}(hi:i<q.Atoms.length)(v:Int):∀k,k<=q.Atoms.length->Zk5 s q [v] cc i k=some (Bo (extL s q i v (mskL cc k (q.Atoms.length-k))),[]):=by
 have hn4:=c.n4;refine down _ ?_ ?_
 .refine Zb3q _ _ _ _ _ _ _ ?_;rw[if_neg (by omega),Y6];rfl
 .intro k hk ih;refine Zb3q _ _ _ _ _ _ _ ?_;rw[if_pos (by omega),show q.Atoms.length-k=(q.Atoms.length-(k+1))+1 by omega,mskL];refine⟨by omega,?_⟩;rcases ft (Zx cc k)with e|e
  .rw[if_neg (λhc=>by rw[(Zg4 cd (by omega)).1 hc]at e;cases e),e,if_pos rfl,extL,Yck];refine⟨by omega,_,Zez hk,v,rfl,_,Znx _ _ (atv c hk),?_⟩;rcases ft (has (atA q k).Vars v)with e2|e2
   .rw[e2,if_pos rfl,Ye,incB];refine⟨_,x_l19c c hk v,by omega,_,Zez hi,_,x_l19c c hi v,?_⟩;have cont:=l_sinc c (v:=[v]) (want:=⟨(atA q k).Name,fx (atA q k).Vars v,(atA q i).Name,fx (atA q i).Vars v⟩) (mask:=cc) (i:=i) (k:=k) (by rw[wS hk (by omega)];exact ih) 0 (Ya _);rw[Yq]at cont;by_cases en:(atA q k).Name=(atA q i).Name
    .rw[if_pos en];by_cases ef:fx (atA q k).Vars v=fx (atA q i).Vars v
     .rw[if_pos ef,decide_eq_true en,decide_eq_true ef];rfl
     .rw[if_neg ef,decide_eq_false ef,Bool.and_false,Y7];exact cont
    .rw[if_neg en,decide_eq_false en,Y4,Y7];exact cont
   .rw[e2,if_neg (by decide),Y4,Y7,wS hk (by omega)];exact ih
  .rw[if_pos ((Zg4 cd (by omega)).2 e),e,if_neg (by decide),wS hk (by omega)];exact ih
end
theorem Zb7w{n:Int}:∀{vs c:List Int},Zem n c vs=true->vs.Nodup/\∀v∈vs,v ∉ c
 |[],_,_=>⟨Ybj,λv hv=>by cases hv⟩
 |x::xs,c,h=>by
  simp only[Zem,Yc,Bool.not_eq_true']at h;obtain⟨h1,h2⟩:=Zb7w h.2;have hx:x ∉ c:=λhm=>by rw[Zij.2 hm]at h;exact absurd h.1.2 (by decide)
  refine⟨Yb6.2 ⟨λhm=>h2 x hm (by simp),h1⟩,?_⟩;intro v hv;rcases Yx.1 hv with rfl|hv
  .exact hx
  .exact λhp=>h2 v hv (by simp[hp])
theorem one_of{A B:List Int}(hB:B.Nodup)(h:∀x,x∈A↔x∈B){v:Int}(hA:A=[v]):B=[v]:=by
 subst hA;have hall:∀x∈B,x=v:=λx hx=>by simpa using(h x).2 hx
 match B,hB,h v with
 |[],_,hv=>exact absurd (hv.1 (by simp)) (by simp)
 |[x],_,_=>rw[hall x (by simp)]
 |x::y::r,hn,_ =>
  exfalso;have e1:=hall x (by simp);have e2:=hall y (by simp);rw[e1,e2]at hn;simp at hn
theorem Zbk8{α:Type}(p:α->Bool){l:List α}(h:l.Nodup):(l.filter p).Nodup:=List.Pairwise.filter p h
theorem Zcwr(m:Int)(qa:List Atom)(k:Nat):(varL m qa k).Nodup:=by
 unfold varL;have h:((List.range k).filter (pV m qa)).Nodup:=Zbk8 _ List.nodup_range;exact List.Pairwise.map _ (λa b hab hc=>hab (by exact_mod_cast hc)) h
section
variable{s:Zh}{q:Zc}(c:Ctx s q)
include c
theorem Zbk9{k:Nat}(hk:k<q.Atoms.length)(cc x:Int):x∈shV q cc k↔x∈Zec q cc (shlI 1 k):=by
 have hA:atA q k=q.Atoms[k]:=by unfold atA;rw[Yy,Yj hk];rfl
 have hok:Zcg q.Zp (atA q k)=true:=by
  have hv:=c.vq;simp only[Z6,Yc,Yn]at hv;rw[hA];exact hv.1.2 _ (Yb hk)
 have e:has (Zbe q (shlI 1 k)) x=has (atA q k).Vars x:=by
  rw[show has (Zbe q (shlI 1 k)) x=vin q.Atoms (shlI 1 k) x from Zbo5 c.vq _ _,hA];unfold vin;rcases ft (inR x 0 3)with ei|ei
  .rw[ei,Ye,pV_one _ c.n4.2 hk];have:=Zy.1 ei;rw[show((x.toNat:Nat):Int)=x by omega]
  .rw[ei,Y4];refine(Bool.eq_false_iff.2 λhh=>?_).symm;rw[<-hA]at hh;simp only[Zcg,Yc]at hok;have h1:=Zy.1 (Z0l hok.2 x (Zij.1 hh));have h2:=Zl5 c.vq;rw[Zy.2 ⟨h1.1,by omega⟩]at ei;cases ei
 unfold shV Zec;rw[Ycj,Ycj,e,Zij,Zij];exact And.comm
theorem Zb7x{got:Int}(h1:1<=got)(h2:got<2 ^ q.Atoms.length){k:Nat}(hk:k<q.Atoms.length):Zye s q got k=some (Bo (extB s q got k),[]):=by
 have h16:=Zdn (by omega) h2 c.n4.2;have hn4:=c.n4;have hA:atA q k=q.Atoms[k]:=by unfold atA;rw[Yy,Yj hk];rfl
 have hnA:(shV q got k).Nodup:=by
  have hv:=c.vq;simp only[Z6,Yc,Yn]at hv;have hok:=hv.1.2 _ (Yb hk);rw[<-hA]at hok;simp only[Zcg,Yc]at hok;exact Zbk8 _ (Zb7w hok.2).1
 have hnB:(Zec q got (shlI 1 k)).Nodup:=Zbk8 _ (Zcwr _ _ _);have wn:w ((q.Atoms.length:Int)-1)=(q.Atoms.length:Int)-1:=Zw (by omega) (by omega);have hf:MQ q.Atoms got:=inR_MQ c.vq (Zy.2 ⟨by omega,by rw[Zjh c.vq];omega⟩);refine Zcsa _ _ _ _ _ ⟨_,Zgp c.le c.lq got,?_⟩;rw[okQ_of c h1 h2,if_pos rfl];refine⟨_,Z8 _ _ _,?_⟩;rw[wn,Zy.2 ⟨by omega,by omega⟩,if_pos rfl];refine⟨by omega,?_⟩;unfold extB;by_cases eb:andI (shrI got k) 1=1
 .rw[if_pos eb,if_pos eb]
 rw[if_neg eb,if_neg eb];refine⟨_,Zb6x q c.lq c.vq got (shlI 1 k) hf (Zy3 c hk),?_⟩
 match hS:shV q got k with
 |[v] =>
  have hB:=one_of hnB (Zbk9 c hk got) hS;rw[hB,if_pos (by rfl)];have:=l_sext c h16 hk v 0 (Ya _)
  exact this
 |[] =>
  rw[if_neg];intro h;obtain⟨v,hv⟩:=List.length_eq_one_iff.1 (by exact_mod_cast h:(Zec q got (shlI 1 k)).length=1);have:=one_of hnA (λx=>(Zbk9 c hk got x).symm) hv
  rw[hS]at this;cases this
 |a::b::r =>
  rw[if_neg];intro h;obtain⟨v,hv⟩:=List.length_eq_one_iff.1 (by exact_mod_cast h:(Zec q got (shlI 1 k)).length=1);have:=one_of hnA (λx=>(Zbk9 c hk got x).symm) hv;rw[hS]at this;cases this
end
def sfB(s:Zh)(q:Zc):Nat->Int->Int->Bool
 |0,_,left=>decide (left=0)
 |f+1,got,left=>if left=0 then true else(mskL left 0 4).any λi=>extB s q got i && sfB s q f (orI got (shlI 1 i)) (Zr left (shlI 1 i))
theorem Z6w(s:Zh)(q:Zc)(f:Nat)(g:Int):sfB s q f g 0=true:=by
 cases f<;>rfl
theorem f_orl:∀(n:Fin 5) (g:Fin 16) (i:Fin 4),g.1<2 ^ n.1->i.1<n.1->1<=orI (g.1:Int) (shlI 1 i.1)/\orI (g.1:Int) (shlI 1 i.1)<2 ^ n.1:=by decide +kernel
theorem f_sh1:∀(n:Fin 5) (i:Fin 4),i.1<n.1->1<=shlI 1 (i.1:Int)/\shlI 1 (i.1:Int)<2 ^ n.1/\orI 0 (shlI 1 (i.1:Int))=shlI 1 (i.1:Int):=by decide +kernel
theorem f_shm:∀(m:Fin 16) (i:Fin 4),Zx (m.1:Int) i.1=true->andI (shlI 1 (i.1:Int)) m.1=shlI 1 (i.1:Int):=by decide +kernel
theorem pw_cast(k:Nat):((2:Int) ^ k)=(((2:Nat) ^ k:Nat):Int):=by push_cast;rfl
theorem orS_lt{n:Nat}(hn:n<=4){g:Int}(h:M16 g)(hg:g<2 ^ n){i:Nat}(hi:i<n):1<=orI g (shlI 1 i)/\orI g (shlI 1 i)<2 ^ n:=by
 obtain⟨a,rfl⟩:=m16 h;have e:=pw_cast n;exact f_orl ⟨n,by omega⟩ a ⟨i,by omega⟩ (by simp only;omega) hi
theorem sh_lt{n:Nat}(hn:n<=4){i:Nat}(hi:i<n):1<=shlI 1 (i:Int)/\shlI 1 (i:Int)<2 ^ n/\orI 0 (shlI 1 (i:Int))=shlI 1 (i:Int):=f_sh1 ⟨n,by omega⟩ ⟨i,by omega⟩ hi
def SfR(x:List Int)(b:Bool)(c:Int)(r:Rs):Prop :=
 (c=0/\r=some (.tup [.own 0,Bo true],[.arr 3 1 true (x.map ic)]))\/
 (c≠0/\b=true/\∃y:List Int,r=some (.tup [.own 1,Bo true],[.arr 3 1 true (x.map ic),.arr 3 1 true (y.map ic)]))\/
 (c≠0/\b=false/\r=some (.tup [.t .nil,Bo false],[.arr 3 1 true (x.map ic)]))
section
variable{s:Zh}{q:Zc}(c:Ctx s q)
include c
theorem msk_lt{left:Int}(hl:M16 left)(cc:left<2 ^ q.Atoms.length){i:Nat}(h:i∈mskL left 0 4):i<q.Atoms.length/\i<4/\Zx left i=true:=by
 have hn:=c.n4;rw[msk_n hl.1 cc hn.2]at h;obtain⟨_,h1,h2⟩:=Zed h;exact⟨by omega,by omega,h2⟩
theorem l_iso{f:Nat}{got left:Int}(cl:M16 got)(cd:1<=got)(cc:got<2 ^ q.Atoms.length)(hl:M16 left)(cn:left<2 ^ q.Atoms.length)(h0:left≠0)(hp:popc left<=f+1)(x:List Int)(hx:x.length+f+1<=1000)
  (ih:∀(y:List Int) (u l:Int),y.length+f<=1000->M16 u->1<=u->u<2 ^ q.Atoms.length->M16 l->l<2 ^ q.Atoms.length->popc l<=f->SfR y (sfB s q f u l) l (Ze7 y s q u l)) :
  ∀i,i<=(mskL left 0 4).length->SfR x (((mskL left 0 4).drop i).any λi=>extB s q got i && sfB s q f (orI got (shlI 1 i)) (Zr left (shlI 1 i))) left (Zgz x s q ((mskL left 0 4).map λn:Nat=>(n:Int)) got left (mskL left 0 4).length i):=by
 have hlen:=Zg6 left 4 0;have hn4:=c.n4;refine down _ ?_ ?_
 .refine .inr (.inr ⟨h0,by rw[Yg];rfl,?_⟩);refine Zbjl _ _ _ _ _ _ _ _ _ ?_;rw[if_neg (by omega)]
 .intro i hi ihi;obtain⟨hin,hi4,hm⟩:=msk_lt c hl cn (Yb hi);have hnext:M16 (Zr left (shlI 1 ((mskL left 0 4)[i]:Nat)))/\popc (Zr left (shlI 1 ((mskL left 0 4)[i]:Nat)))+1=popc left/\Zr left (shlI 1 ((mskL left 0 4)[i]:Nat))<=left:=by
   obtain⟨a,rfl⟩:=m16 hl;have h1:=Zlr a ⟨(mskL (a.1:Int) 0 4)[i],by omega⟩ hm;exact⟨h1.1,h1.2,f_le a ⟨(mskL (a.1:Int) 0 4)[i],by omega⟩⟩
  have hor:=orS_lt hn4.2 cl cc hin;have rcl:=ih (x++[(((mskL left 0 4)[i]:Nat):Int)]) (orI got (shlI 1 ((mskL left 0 4)[i]:Nat))) (Zr left (shlI 1 ((mskL left 0 4)[i]:Nat))) (by simp;omega) (Zdn (by omega) hor.2 hn4.2) hor.1 hor.2 hnext.1 (by omega) (by omega);rw[Yd hi,Yck];rcases ft (extB s q got (mskL left 0 4)[i])with e|e
  .rw[e,Ye]
   -- what the step does,by the answer of the search behind it
   have stp:∀r,((∃v4:List Int,Ze7 (x++[(((mskL left 0 4)[i]:Nat):Int)]) s q (orI got (shlI 1 ((mskL left 0 4)[i]:Nat))) (Zr left (shlI 1 ((mskL left 0 4)[i]:Nat)))=some (.tup [.own 0,Bo true],[.arr 3 1 true (v4.map ic)])/\some (.tup [.own 1,Bo true],[.arr 3 1 true (x.map ic),.arr 3 1 true (v4.map ic)])=some r)\/
     (∃v5:List Int,Ze7 (x++[(((mskL left 0 4)[i]:Nat):Int)]) s q (orI got (shlI 1 ((mskL left 0 4)[i]:Nat))) (Zr left (shlI 1 ((mskL left 0 4)[i]:Nat)))=some (.tup [.t .nil,Bo false],[.arr 3 1 true (v5.map ic)])/\Zgz x s q ((mskL left 0 4).map λn:Nat=>(n:Int)) got left (mskL left 0 4).length ((i+1:Nat):Int)=some r)\/
     (∃v6 v7:List Int,Ze7 (x++[(((mskL left 0 4)[i]:Nat):Int)]) s q (orI got (shlI 1 ((mskL left 0 4)[i]:Nat))) (Zr left (shlI 1 ((mskL left 0 4)[i]:Nat)))=some (.tup [.own 1,Bo true],[.arr 3 1 true (v6.map ic),.arr 3 1 true (v7.map ic)])/\some (.tup [.own 1,Bo true],[.arr 3 1 true (x.map ic),.arr 3 1 true (v7.map ic)])=some r))->
     Zgz x s q ((mskL left 0 4).map λn:Nat=>(n:Int)) got left (mskL left 0 4).length i=some r:=by
    intro r hr;refine Zbjl _ _ _ _ _ _ _ _ _ ?_;rw[if_pos (by omega),wS hi (by omega)];refine⟨by omega,_,gM (m:=0) hi,_,Zb7v c cd cc hin,?_⟩;rw[e,if_pos rfl];exact⟨_,Zyq x (by omega),by omega,by omega,hr⟩
   rcases rcl with⟨r0,r1⟩|⟨r0,r1,y,r2⟩|⟨r0,r1,r2⟩
   .rw[r0,Z6w,Bool.true_or];rw[r0]at stp r1;exact .inr (.inl ⟨h0,rfl,_,stp _ (.inl ⟨_,r1,rfl⟩)⟩)
   .rw[r1,Bool.true_or];exact .inr (.inl ⟨h0,rfl,_,stp _ (.inr (.inr ⟨_,_,r2,rfl⟩))⟩)
   .rw[r1,Y7];rcases ihi with⟨q0,_⟩|⟨_,q1,y,q2⟩|⟨_,q1,q2⟩
    .exact absurd q0 h0
    .exact .inr (.inl ⟨h0,q1,y,stp _ (.inr (.inl ⟨_,r2,q2⟩))⟩)
    .exact .inr (.inr ⟨h0,q1,stp _ (.inr (.inl ⟨_,r2,q2⟩))⟩)
  .rw[e,Y4,Y7];have stp:∀r,Zgz x s q ((mskL left 0 4).map λn:Nat=>(n:Int)) got left (mskL left 0 4).length ((i+1:Nat):Int)=some r->Zgz x s q ((mskL left 0 4).map λn:Nat=>(n:Int)) got left (mskL left 0 4).length i=some r:=by
    intro r hr;refine Zbjl _ _ _ _ _ _ _ _ _ ?_;rw[if_pos (by omega),wS hi (by omega)];refine⟨by omega,_,gM (m:=0) hi,_,Zb7v c cd cc hin,?_⟩;rw[e,if_neg (by decide)];exact hr
   rcases ihi with⟨q0,_⟩|⟨_,q1,y,q2⟩|⟨_,q1,q2⟩
   .exact absurd q0 h0
   .exact .inr (.inl ⟨h0,q1,y,stp _ q2⟩)
   .exact .inr (.inr ⟨h0,q1,stp _ q2⟩)
theorem Zcws:∀(f:Nat),f<=5->∀(x:List Int) (cd cc:Int),x.length+f<=1000->M16 cd->1<=cd->cd<2 ^ q.Atoms.length->M16 cc->cc<2 ^ q.Atoms.length->popc cc<=f->SfR x (sfB s q f cd cc) cc (Ze7 x s q cd cc):=by
 intro f
 induction f with
 |zero =>
  intro _ x cd cc hx hg hg1 hg2 hl hlt hp;have h0:cc=0:=by
   obtain⟨a,rfl⟩:=m16 hl;by_cases h:a.1=0
   .omega
   .have:=(Zy2 a h).1;omega
  refine .inl ⟨h0,Zbjm _ _ _ _ _ _ ?_⟩
  rw[if_pos h0]
 |succ f ih =>
  intro hf x cd cc hx hg hg1 hg2 hl hlt hp;by_cases h0:cc=0
  .refine .inl ⟨h0,Zbjm _ _ _ _ _ _ ?_⟩;rw[if_pos h0]
  have b:=l_iso c hg hg1 hg2 hl hlt h0 hp x (by omega) (λy u l a1 a2 a3 a4 a5 a6 a7=>ih (by omega) y u l a1 a2 a3 a4 a5 a6 a7) 0 (Ya _);rw[Yq]at b;rw[sfB,if_neg h0];have stp:∀r,Zgz x s q ((mskL cc 0 4).map λn:Nat=>(n:Int)) cd cc (mskL cc 0 4).length ((0:Nat):Int)=some r->Ze7 x s q cd cc=some r:=by
   intro r hr;refine Zbjm _ _ _ _ _ _ ?_;rw[if_neg h0];refine .inr ⟨_,Zlp hl,?_⟩;unfold Zlo;rw[Z6o,Yo];exact hr
  rcases b with⟨q0,_⟩|⟨_,q1,y,q2⟩|⟨_,q1,q2⟩
  .exact absurd q0 h0
  .exact .inr (.inl ⟨h0,q1,y,stp _ q2⟩)
  .exact .inr (.inr ⟨h0,q1,stp _ q2⟩)
end
end Go.Proofs.YtnnjbejcffjgfaaGreat
