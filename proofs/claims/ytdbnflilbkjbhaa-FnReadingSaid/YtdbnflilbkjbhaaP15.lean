/-
  Parts of the proofs for this seat: AD.
-/
import Derived.Test.YtdbnflilbkjbhaaP14
set_option linter.unusedSectionVars false
set_option linter.unusedSimpArgs false
set_option linter.unusedVariables false
set_option maxRecDepth 100000
set_option maxHeartbeats 4000000
namespace Go.Proofs.Ytdbnflilbkjbhaa
open Go.AM
@[simp] theorem Zfv(c:Int):Zd9 c=some (I (Z3 c),[]):=by
 refine Z8y ?_;cases h:inR c 0 7
 .simp[h,Zwb h]
 .rcases cls8 h with rfl|rfl|rfl|rfl|rfl|rfl|rfl|rfl<;>simp[inR,Z3,Z8,shlI]
@[simp] theorem Zfw(c:Int):Zed c=some (I (Z3 c),[]):=by
 refine Z9e ?_;have e:∀n i r,(if i<c then Zgh c (if 1<w (n*4)then w (n*4)else 1) (w (i+1))=some r else some (I n,[])=some r)->Zgh c n i=some r:=λn i r h=>Z9d h
 cases h:inR c 0 7
 .simp[h,Zwb h]
 .refine⟨_,Zcl _ _ _,?_⟩;rw[h,if_pos rfl];rcases cls8 h with rfl|rfl|rfl|rfl|rfl|rfl|rfl|rfl
  all_goals repeat (refine e _ _ _ ?_;first|(rw[if_neg (by decide)];rfl)|rw[if_pos (by decide)])
def inT(t:List Int):Prop:=∃a b c:Int,t=[a,b,c]/\(0<=a/\a<=7)/\(0<=b/\b<=7)/\(0<=c/\c<=7)
def tcl(o:Zc):List Int->Int
 |[a,b,c]=>Zmo o (Z3 a) (Z3 b) (Z3 c)
 |_=>0
theorem Zs0{c:Int}(h0:0<=c)(h7:c<=7):inR (Z3 c) 0 4096=true:=by
 have:c=0\/c=1\/c=2\/c=3\/c=4\/c=5\/c=6\/c=7:=by omega
 rcases this with rfl|rfl|rfl|rfl|rfl|rfl|rfl|rfl<;>decide
theorem Ziy(o:Zc)(hl:Le o.Steps){t:List Int}(h:inT t):Zck o t=some (I (tcl o t),[]):=by
 obtain⟨a,b,c,rfl,_⟩:=h;refine Z80 ?_;simp[hl,tcl]
theorem Zot(o:Zc)(hl:Le o.Steps)(hv:Zbn o=true){t:List Int}(h:inT t):Zgi o t=some (I (tcl o t),[]):=by
 obtain⟨a,b,c,rfl,h1,h2,h3⟩:=h;refine Z9g ?_;have c1:=Zs0 h1.1 h1.2;have c2:=Zs0 h2.1 h2.2;have c3:=Zs0 h3.1 h3.2;simp[hl,tcl,Zdi,hv,c1,c2,c3]
theorem Z10{t:List Int}(h:inT t){k:Nat}{e:Int}(hk:t[k]?=some e)(h7:e+1<=7):inT (t.set k (e+1)):=by
 obtain⟨a,b,c,rfl,h1,h2,h3⟩:=h
 match k,hk with
 |0,hk=>simp at hk;subst hk;exact⟨a+1,b,c,rfl,by omega,h2,h3⟩
 |1,hk=>simp at hk;subst hk;exact⟨a,b+1,c,rfl,h1,by omega,h3⟩
 |2,hk=>simp at hk;subst hk;exact⟨a,b,c+1,rfl,h1,h2,by omega⟩
 |k+3,hk=>simp at hk
theorem Z11{t:List Int}(h:inT t){k:Nat}(hk:k<3):∃e,t[k]?=some e/\0<=e/\e<=7:=by
 obtain⟨a,b,c,rfl,h1,h2,h3⟩:=h
 match k,hk with
 |0,_=>exact⟨a,rfl,h1⟩
 |1,_=>exact⟨b,rfl,h2⟩
 |2,_=>exact⟨c,rfl,h3⟩
theorem Zs1{t:List Int}(h:inT t):t.length=3:=by obtain⟨a,b,c,rfl,_⟩:=h;rfl
def decK(o:Zc)(t:List Int)(k:Nat):Prop:=∃e,t[k]?=some e/\e+1<=7/\tcl o (t.set k (e+1))<tcl o t
def decF(o:Zc)(t:List Int)(k:Nat):Prop:=∃j,k<=j/\j<3/\decK o t j
def decr(o:Zc):Prop:=∃t,inT t/\decF o t 0
def cheap(o:Zc):Prop:=∃t,inT t/\tcl o t<1
abbrev Zc9(X:Rs)(p:Prop):Prop:=∃(xs ys:List Int) (b:Bool),X=some (.tup [.own 0,.own 1,Bo b],[.arr Zbq 1 true (xs.map ic),.arr Zbq 1 true (ys.map ic)])/\(b=true↔p)
theorem Zc9.congr{X:Rs}{p q:Prop}(h:Zc9 X p)(e:p↔q):Zc9 X q:=by
 obtain⟨xs,ys,b,h1,h2⟩:=h;exact⟨xs,ys,b,h1,h2.trans e⟩
theorem l_fd0(o:Zc)(hl:Le o.Steps)(hv:Zbn o=true){t:List Int}(ht:inT t)(a b e:Int)(p:Prop)(hc:Zc9 (Zgl o a b (w (e+1))) p):∀k:Nat,k<=3->
  Zc9 (Zef o t a b e k) (decF o t k\/p):=by
 have h3:=Zs1 ht;refine down _ ?_ ?_
 .obtain⟨xs,ys,f,h1,h2⟩:=hc;refine⟨xs,ys,f,Z0m (by rw[if_neg (by omega)];exact h1),?_⟩;rw[h2];exact⟨.inr,λh=>h.elim (λ⟨j,a,b,_⟩=>by omega) id⟩
 .intro k hk ih;have h4:=Zbv (i:=k) (by omega);obtain⟨x,hx,x0,x7⟩:=Z11 ht hk;have wx:w (x+1)=x+1:=Z8 (by omega) (by omega);simp only[Ys,Yt]at ih;have step:decF o t k↔(decK o t k\/decF o t (k+1)):=by
   constructor
   .rintro⟨j,j1,j2,j3⟩;by_cases hj:j=k
    .subst hj;exact .inl j3
    .exact .inr ⟨j,by omega,j2,j3⟩
   .rintro(h|⟨j,j1,j2,j3⟩)
    .exact⟨k,Yg _,hk,h⟩
    .exact⟨j,by omega,j2,j3⟩
  have pre:∀r,(if x+1<=7 then(if tcl o (t.set k (x+1))<tcl o t then some (.tup [.own 0,.own 1,Bo true],[.arr Zbq 1 true (t.map ic),.arr Zbq 1 true ((t.set k (x+1)).map ic)])=some r
    else Zef o t a b e ((k:Int)+1)=some r)else Zef o t a b e ((k:Int)+1)=some r)->Zef o t a b e k=some r:=by
   intro r hr;refine Z0m ?_;rw[if_pos (by omega)];refine⟨by omega,by omega,x,by rw[Ym];exact hx,?_⟩;rw[wx,Ym,show w ((k:Int)+1)=(k:Int)+1 from h4];by_cases h7:x+1<=7
   .rw[if_pos h7]at hr|-;exact⟨_,Zot o hl hv (Z10 ht hx h7),_,Zot o hl hv ht,hr⟩
   .rw[if_neg h7]at hr|-;exact hr
  have dk:decK o t k↔(x+1<=7/\tcl o (t.set k (x+1))<tcl o t):=by
   constructor
   .rintro⟨y,y1,y2,y3⟩;rw[hx]at y1;cases y1;exact⟨y2,y3⟩
   .rintro⟨y2,y3⟩;exact⟨x,hx,y2,y3⟩
  by_cases h7:x+1<=7/\tcl o (t.set k (x+1))<tcl o t
  .refine⟨_,_,true,pre _ (by rw[if_pos h7.1,if_pos h7.2]),?_⟩;rw[step,dk];exact⟨λ_=>.inl (.inl h7),λ_=>rfl⟩
  .obtain⟨xs,ys,f,i1,i2⟩:=ih;refine⟨xs,ys,f,pre _ ?_,?_⟩
   .split
    .split
     .rename_i a1 a2;exact absurd ⟨a1,a2⟩ h7
     .exact i1
    .exact i1
   .rw[i2,step,dk];constructor
    .exact λh=>h.imp .inr id
    .exact λh=>h.imp (λh=>h.resolve_left h7) id
theorem Zjx{P:Nat->Prop}{i:Nat}{p:Prop}(hi:i<8):((∃z,i<=z/\z<=7/\P z)\/p)↔(P i\/(∃z,i+1<=z/\z<=7/\P z)\/p):=by
 constructor
 .rintro(⟨z,z1,z2,z3⟩|h)
  .by_cases hz:z=i
   .subst hz;exact .inl z3
   .exact .inr (.inl ⟨z,by omega,z2,z3⟩)
  .exact .inr (.inr h)
 .rintro(h|⟨z,z1,z2,z3⟩|h)
  .exact .inl ⟨i,Yg _,by omega,h⟩
  .exact .inl ⟨z,by omega,z2,z3⟩
  .exact .inr h
theorem Zjy{P:Nat->Prop}{p:Prop}:((∃z,8<=z/\z<=7/\P z)\/p)↔p:=⟨λh=>h.elim (λ⟨z,a,b,_⟩=>by omega) id,.inr⟩
theorem l_fd1(o:Zc)(hl:Le o.Steps)(hv:Zbn o=true)(a b:Nat)(ha:a<=7)(hb:b<=7)(p:Prop)(hc:Zc9 (Zgk o a ((b:Int)+1)) p):∀e:Nat,e<=8->
  Zc9 (Zgl o a b e) ((∃z:Nat,e<=z/\z<=7/\decF o [(a:Int),(b:Int),(z:Int)] 0)\/p):=by
 have wb:w ((b:Int)+1)=(b:Int)+1:=Z8 (by omega) (by omega);refine down _ ?_ ?_
 .refine Zc9.congr ?_ Zjy.symm;obtain⟨xs,ys,f,h1,h2⟩:=hc;exact⟨xs,ys,f,Z0l (by rw[if_neg (by omega),wb];exact h1),h2⟩
 .intro e he ih;have we:w ((e:Int)+1)=(e:Int)+1:=Z8 (by omega) (by omega);have hT:inT [(a:Int),(b:Int),(e:Int)]:=⟨a,b,e,rfl,by omega,by omega,by omega⟩;simp only[Ys,Yt]at ih;obtain⟨xs,ys,f,h1,h2⟩:=l_fd0 o hl hv hT a b e _ (by rw[we];exact ih) 0 (by omega);exact⟨xs,ys,f,Z0l (by rw[if_pos (by omega)];exact h1),h2.trans (Zjx (P:=λz:Nat=>decF o [(a:Int),(b:Int),(z:Int)] 0) he).symm⟩
theorem l_fd2(o:Zc)(hl:Le o.Steps)(hv:Zbn o=true)(a:Nat)(ha:a<=7)(p:Prop)(hc:Zc9 (Zgj o ((a:Int)+1)) p):∀b:Nat,b<=8->
  Zc9 (Zgk o a b) ((∃y:Nat,b<=y/\y<=7/\∃z:Nat,0<=z/\z<=7/\decF o [(a:Int),(y:Int),(z:Int)] 0)\/p):=by
 have wa:w ((a:Int)+1)=(a:Int)+1:=Z8 (by omega) (by omega);refine down _ ?_ ?_
 .refine Zc9.congr ?_ Zjy.symm;obtain⟨xs,ys,f,h1,h2⟩:=hc;exact⟨xs,ys,f,Z0k (by rw[if_neg (by omega),wa];exact h1),h2⟩
 .intro b hb ih;simp only[Ys,Yt]at ih;obtain⟨xs,ys,f,h1,h2⟩:=l_fd1 o hl hv a b ha (by omega) _ ih 0 (by omega);exact⟨xs,ys,f,Z0k (by rw[if_pos (by omega)];exact h1),h2.trans (Zjx (P:=λy:Nat=>∃z:Nat,0<=z/\z<=7/\decF o [(a:Int),(y:Int),(z:Int)] 0) hb).symm⟩
theorem l_fd3(o:Zc)(hl:Le o.Steps)(hv:Zbn o=true):∀a:Nat,a<=8->
  Zc9 (Zgj o a) ((∃x:Nat,a<=x/\x<=7/\∃y:Nat,0<=y/\y<=7/\∃z:Nat,0<=z/\z<=7/\decF o [(x:Int),(y:Int),(z:Int)] 0)\/False):=by
 refine down _ ?_ ?_
 .refine Zc9.congr ?_ Zjy.symm;exact⟨[],[],false,Z0j (by rw[if_neg (by omega)]),by simp⟩
 .intro a ha ih;simp only[Ys,Yt]at ih;obtain⟨xs,ys,f,h1,h2⟩:=l_fd2 o hl hv a (by omega) _ ih 0 (by omega);exact⟨xs,ys,f,Z0j (by rw[if_pos (by omega)];exact h1),h2.trans (Zjx (P:=λx:Nat=>∃y:Nat,0<=y/\y<=7/\∃z:Nat,0<=z/\z<=7/\decF o [(x:Int),(y:Int),(z:Int)] 0) ha).symm⟩
theorem Z12(o:Zc)(P:List Int->Prop):(∃t,inT t/\P t)↔∃x:Nat,0<=x/\x<=7/\∃y:Nat,0<=y/\y<=7/\∃z:Nat,0<=z/\z<=7/\P [(x:Int),(y:Int),(z:Int)]:=by
 constructor
 .rintro⟨t,⟨a,b,c,rfl,h1,h2,h3⟩,h⟩;refine⟨a.toNat,by omega,by omega,b.toNat,by omega,by omega,c.toNat,by omega,by omega,?_⟩;rw[Ycd h1.1,Ycd h2.1,Ycd h3.1];exact h
 .rintro⟨x,_,x2,y,_,y2,z,_,z2,h⟩;exact⟨_,⟨x,y,z,rfl,by omega,by omega,by omega⟩,h⟩
theorem Zba8(o:Zc)(hl:Le o.Steps)(hv:Zbn o=true):Zc9 (Zlb o) (decr o):=by
 obtain⟨xs,ys,f,h1,h2⟩:=l_fd3 o hl hv 0 (by omega);refine⟨xs,ys,f,Z9h ⟨_,Zmn o hl,?_⟩,?_⟩
 .rw[hv,if_pos rfl];exact h1
 .rw[h2,decr,Z12 o (λt=>decF o t 0)];simp
abbrev Zdj(X:Rs)(p:Prop):Prop:=∃(xs:List Int),X=some (.own 0,[.arr Zbq 1 true (xs.map ic)])/\(xs≠[]↔p)
theorem Zdj.congr{X:Rs}{p q:Prop}(h:Zdj X p)(e:p↔q):Zdj X q:=by
 obtain⟨xs,h1,h2⟩:=h;exact⟨xs,h1,h2.trans e⟩
theorem l_ch0(o:Zc)(hl:Le o.Steps)(hv:Zbn o=true)(a b:Nat)(ha:a<=7)(hb:b<=7)(p:Prop)(hc:Zdj (Zgn o a ((b:Int)+1)) p):∀e:Nat,e<=8->
  Zdj (Zh2 o a b e) ((∃z:Nat,e<=z/\z<=7/\tcl o [(a:Int),(b:Int),(z:Int)]<1)\/p):=by
 have wb:w ((b:Int)+1)=(b:Int)+1:=Z8 (by omega) (by omega);refine down _ ?_ ?_
 .refine Zdj.congr ?_ Zjy.symm;obtain⟨xs,h1,h2⟩:=hc;exact⟨xs,Zsq (by rw[if_neg (by omega),wb];exact h1),h2⟩
 .intro e he ih;have we:w ((e:Int)+1)=(e:Int)+1:=Z8 (by omega) (by omega);have hT:inT [(a:Int),(b:Int),(e:Int)]:=⟨a,b,e,rfl,by omega,by omega,by omega⟩;simp only[Ys,Yt]at ih;refine Zdj.congr ?_ (Zjx he).symm;by_cases h:tcl o [(a:Int),(b:Int),(e:Int)]<1
  .refine⟨[a,b,e],Zsq ?_,by simp[h]⟩;rw[if_pos (by omega)];exact⟨_,Zot o hl hv hT,by rw[if_pos h]⟩
  .obtain⟨xs,h1,h2⟩:=ih;refine⟨xs,Zsq ?_,by rw[h2];simp[h]⟩;rw[if_pos (by omega)];exact⟨_,Zot o hl hv hT,by rw[if_neg h,we];exact h1⟩
theorem l_ch1(o:Zc)(hl:Le o.Steps)(hv:Zbn o=true)(a:Nat)(ha:a<=7)(p:Prop)(hc:Zdj (Zgm o ((a:Int)+1)) p):∀b:Nat,b<=8->
  Zdj (Zgn o a b) ((∃y:Nat,b<=y/\y<=7/\∃z:Nat,0<=z/\z<=7/\tcl o [(a:Int),(y:Int),(z:Int)]<1)\/p):=by
 have wa:w ((a:Int)+1)=(a:Int)+1:=Z8 (by omega) (by omega);refine down _ ?_ ?_
 .refine Zdj.congr ?_ Zjy.symm;obtain⟨xs,h1,h2⟩:=hc;exact⟨xs,Z0o (by rw[if_neg (by omega),wa];exact h1),h2⟩
 .intro b hb ih;simp only[Ys,Yt]at ih;obtain⟨xs,h1,h2⟩:=l_ch0 o hl hv a b ha (by omega) _ ih 0 (by omega);exact⟨xs,Z0o (by rw[if_pos (by omega)];exact h1),h2.trans (Zjx (P:=λy:Nat=>∃z:Nat,0<=z/\z<=7/\tcl o [(a:Int),(y:Int),(z:Int)]<1) hb).symm⟩
theorem l_ch2(o:Zc)(hl:Le o.Steps)(hv:Zbn o=true):∀a:Nat,a<=8->
  Zdj (Zgm o a) ((∃x:Nat,a<=x/\x<=7/\∃y:Nat,0<=y/\y<=7/\∃z:Nat,0<=z/\z<=7/\tcl o [(x:Int),(y:Int),(z:Int)]<1)\/False):=by
 refine down _ ?_ ?_
 .refine Zdj.congr ?_ Zjy.symm;exact⟨[],Z0n (by rw[if_neg (by omega)]),by simp⟩
 .intro a ha ih;simp only[Ys,Yt]at ih;obtain⟨xs,h1,h2⟩:=l_ch1 o hl hv a (by omega) _ ih 0 (by omega);exact⟨xs,Z0n (by rw[if_pos (by omega)];exact h1),h2.trans (Zjx (P:=λx:Nat=>∃y:Nat,0<=y/\y<=7/\∃z:Nat,0<=z/\z<=7/\tcl o [(x:Int),(y:Int),(z:Int)]<1) ha).symm⟩
theorem Zba9(o:Zc)(hl:Le o.Steps)(hv:Zbn o=true):Zdj (Zle o) (cheap o):=by
 obtain⟨xs,h1,h2⟩:=l_ch2 o hl hv 0 (by omega);refine⟨xs,Z9i h1,?_⟩;rw[h2,cheap,Z12 o (λt=>tcl o t<1)];simp
def rowC(a b:Int)(c:Nat):List (List Int):=(List.range' c (8-c)).map λz:Nat=>[a,b,(z:Int)]
def rowB(a:Int)(b:Nat):List (List Int):=(List.range' b (8-b)).flatMap λy:Nat=>rowC a y 0
def rowA(a:Nat):List (List Int):=(List.range' a (8-a)).flatMap λx:Nat=>rowB x 0
theorem Zs2{i:Nat}(h:i<8):List.range' i (8-i)=i::List.range' (i+1) (8-(i+1)):=by
 rw[show 8-i=(8-(i+1))+1 by omega,Ycl]
theorem rowC_len(a b:Int)(c:Nat):(rowC a b c).length=8-c:=by simp[rowC]
theorem rowB_len(a:Int):(rowB a 0).length=64:=rfl
theorem l_tr0(a b:Nat)(hb:b<=7)(r:AV×List Blk):∀c:Nat,c<=8->∀out:List (List Int),out.length<=1000000->Ze9 (out++rowC a b c) a ((b:Int)+1)=some r->Zgd out a b c=some r:=by
 have wb:w ((b:Int)+1)=(b:Int)+1:=Z8 (by omega) (by omega);have key:∀c:Nat,c<=8->∀out:List (List Int),out.length<=1000000+c->Ze9 (out++rowC a b c) a ((b:Int)+1)=some r->Zgd out a b c=some r:=by
  refine down _ ?_ ?_
  .intro out ho h;refine Zz9 ?_;rw[if_neg (by omega),wb];simpa[rowC]using h
  .intro c hc ih out ho h;have wc:w ((c:Int)+1)=(c:Int)+1:=Z8 (by omega) (by omega);refine Zz9 ?_;rw[if_pos (by omega),wc];refine⟨by omega,?_⟩
   have ih:=ih (out++[[(a:Int),(b:Int),(c:Int)]]) (by simp;omega) (by
    rw[rowC,Zs2 hc]at h
    simpa[rowC]using h)
   simpa using ih
 exact λc hc out ho h=>key c hc out (by omega) h
theorem l_tr1(a:Nat)(ha:a<=7)(r:AV×List Blk):∀b:Nat,b<=8->∀out:List (List Int),out.length<=100000+8*b->Zgc (out++rowB a b) ((a:Int)+1)=some r->Ze9 out a b=some r:=by
 have wa:w ((a:Int)+1)=(a:Int)+1:=Z8 (by omega) (by omega);refine down _ ?_ ?_
 .intro out ho h;refine Zz8 ?_;rw[if_neg (by omega),wa];simpa[rowB]using h
 .intro b hb ih out ho h;refine Zz8 ?_;rw[if_pos (by omega)];refine l_tr0 a b (by omega) r 0 (by omega) out (by omega) ?_
  have ih:=ih (out++rowC a b 0) (by rw[Ye,rowC_len];omega) (by
   rw[rowB,Zs2 hb]at h
   simpa[rowB]using h)
  simpa using ih
theorem l_tr2:∀a:Nat,a<=8->∀out:List (List Int),out.length<=64*a->Zgc out a=some (.own 0,[.arr Zwi 1 true ((out++rowA a).map isc)]):=by
 refine down _ ?_ ?_
 .intro out ho;refine Zz7 ?_;rw[if_neg (by omega)];simp[rowA]
 .intro a ha ih out ho;refine Zz7 ?_;rw[if_pos (by omega)];refine l_tr1 a (by omega) _ 0 (by omega) out (by omega) ?_;have ih:=ih (out++rowB a 0) (by rw[Ye,rowB_len];omega);rw[rowA,Zs2 ha];simpa[rowA]using ih
def allT:List (List Int):=rowA 0
theorem Zjz:Zcv=some (.own 0,[.arr Zwi 1 true (allT.map isc)]):=Z8w (l_tr2 0 (by omega) [] (by simp))
theorem Zdy(t:List Int):t∈allT↔inT t:=by
 simp only[allT,rowA,rowB,rowC,Yct,Y5,List.mem_range'_1,inT];constructor
 .rintro⟨x,hx,y,hy,z,hz,rfl⟩;exact⟨x,y,z,rfl,by omega,by omega,by omega⟩
 .rintro⟨a,b,c,rfl,h1,h2,h3⟩;refine⟨a.toNat,by omega,b.toNat,by omega,c.toNat,by omega,?_⟩;rw[Ycd h1.1,Ycd h2.1,Ycd h3.1]
set_option maxRecDepth 100000 in
theorem Zj0:allT.length=512:=rfl
@[simp] theorem Zbba(xs:List Int)(h:xs.length<=68719476736):Zk5 xs=some (.own 0,[.arr Zbq 1 true (xs.map ic)]):=Z8x ⟨h,rfl⟩
abbrev GoodI(X:Rs)(p:Prop):Prop:=(p/\∃xs ys:List Int,X=some (.tup [L 1 (xs.map ic),.own 0,Bo true],[.arr Zbq 1 true (ys.map ic)]))\/(¬p/\X=some (.tup [.t .nil,.t .nil,Bo false],[]))
theorem l_id0(o:Zc)(hl:Le o.Steps)(ts:List (List Int)){t:List Int}(ht:inT t)(n i:Int)(p:Prop)(hc:GoodI (Zev o ts n (w (i+1))) p):∀k:Nat,k<=3->
  GoodI (Zc6 o ts t n i 3 k) (decF o t k\/p):=by
 have h3:=Zs1 ht;refine down _ ?_ ?_
 .have e:(decF o t 3\/p)↔p:=⟨λh=>h.elim (λ⟨j,a,b,_⟩=>by omega) id,.inr⟩;rcases hc with⟨h,xs,ys,h1⟩|⟨h,h1⟩
  .exact .inl ⟨e.2 h,xs,ys,Zsp (by rw[if_neg (by omega)];exact h1)⟩
  .exact .inr ⟨λhc=>h (e.1 hc),Zsp (by rw[if_neg (by omega)];exact h1)⟩
 .intro k hk ih;have h4:=Zbv (i:=k) (by omega);obtain⟨x,hx,x0,x7⟩:=Z11 ht hk;have wx:w (x+1)=x+1:=Z8 (by omega) (by omega);simp only[Ys,Yt]at ih;have step:decF o t k↔(decK o t k\/decF o t (k+1)):=by
   constructor
   .rintro⟨j,j1,j2,j3⟩;by_cases hj:j=k
    .subst hj;exact .inl j3
    .exact .inr ⟨j,by omega,j2,j3⟩
   .rintro(h|⟨j,j1,j2,j3⟩)
    .exact⟨k,Yg _,hk,h⟩
    .exact⟨j,by omega,j2,j3⟩
  have dk:decK o t k↔(x+1<=7/\tcl o (t.set k (x+1))<tcl o t):=by
   constructor
   .rintro⟨y,y1,y2,y3⟩;rw[hx]at y1;cases y1;exact⟨y2,y3⟩
   .rintro⟨y2,y3⟩;exact⟨x,hx,y2,y3⟩
  have pre:∀r,(if x+1<=7 then(if tcl o (t.set k (x+1))<tcl o t then some (.tup [L 1 (t.map ic),.own 0,Bo true],[.arr Zbq 1 true ((t.set k (x+1)).map ic)])=some r
    else Zc6 o ts t n i 3 ((k:Int)+1)=some r)else Zc6 o ts t n i 3 ((k:Int)+1)=some r)->Zc6 o ts t n i 3 k=some r:=by
   intro r hr;refine Zsp ?_;rw[if_pos (by omega)];refine⟨by omega,x,by rw[Ym];exact hx,?_⟩;rw[show w ((k:Int)+1)=(k:Int)+1 from h4];by_cases h7:x=7
   .rw[if_pos h7];rw[if_neg (by omega)]at hr;exact hr
   .rw[if_neg h7];have h8:x+1<=7:=by omega
    rw[if_pos h8]at hr;refine⟨t,Zbba t (by omega),x,by rw[Ym];exact hx,?_⟩;rw[wx,Ym];exact⟨_,Ziy o hl (Z10 ht hx h8),_,Ziy o hl ht,hr⟩
  by_cases h7:x+1<=7/\tcl o (t.set k (x+1))<tcl o t
  .exact .inl ⟨.inl (step.2 (.inl (dk.2 h7))),_,_,pre _ (by rw[if_pos h7.1,if_pos h7.2])⟩
  .have go:∀r,Zc6 o ts t n i 3 ((k:Int)+1)=some r->Zc6 o ts t n i 3 k=some r:=by
    intro r hr;refine pre r ?_;split
    .split
     .rename_i a1 a2;exact absurd ⟨a1,a2⟩ h7
     .exact hr
    .exact hr
   have e:(decF o t k\/p)↔(decF o t (k+1)\/p):=by
    rw[step,dk];exact⟨λh=>h.imp (λh=>h.resolve_left h7) id,λh=>h.imp .inr id⟩
   rcases ih with⟨h,xs,ys,h1⟩|⟨h,h1⟩
   .exact .inl ⟨e.2 h,xs,ys,go _ h1⟩
   .exact .inr ⟨λhc=>h (e.1 hc),go _ h1⟩
theorem l_id1(o:Zc)(hl:Le o.Steps)(ts:List (List Int))(c:∀t∈ts,inT t)(hn:ts.length<=1000):∀i,i<=ts.length->GoodI (Zev o ts ts.length i) (∃t∈ts.drop i,decF o t 0):=by
 refine down _ ?_ ?_
 .refine .inr ⟨by simp,Z0b (by rw[if_neg (by omega)])⟩
 .intro i hi ih;have h4:=Zbv (i:=i) (by omega);have ht:=c _ (Yk hi);simp only[Ys,Yt]at ih;have b:=l_id0 o hl ts ht ts.length i _ (by rw[show w ((i:Int)+1)=(i:Int)+1 from h4];exact ih) 0 (by omega);have go:∀r,Zc6 o ts ts[i] ts.length i 3 0=some r->Zev o ts ts.length i=some r:=by
   intro r hr;refine Z0b ?_;rw[if_pos (by omega)];refine⟨by omega,ts[i],by rw[Ym];exact Yh hi,?_⟩;rw[Zs1 ht];exact hr
  have e:(∃t∈ts.drop i,decF o t 0)↔(decF o ts[i] 0\/∃t∈ts.drop (i+1),decF o t 0):=by
   rw[Yj hi];simp only[Yr,exists_eq_or_imp]
  rcases b with⟨h,xs,ys,h1⟩|⟨h,h1⟩
  .exact .inl ⟨e.2 h,xs,ys,go _ h1⟩
  .exact .inr ⟨λhc=>h (e.1 hc),go _ h1⟩
theorem Zmp(o:Zc)(hl:Le o.Steps)(hv:Zbn o=true):GoodI (Zbs o) (decr o):=by
 have b:=l_id1 o hl allT (λt h=>(Zdy t).1 h) (by rw[Zj0];omega) 0 (Yd _);have go:∀r,Zev o allT allT.length 0=some r->Zbs o=some r:=by
  intro r hr;refine Z81 ⟨_,Zcn o hl,?_⟩;rw[hv,if_pos rfl];exact⟨allT,Zjz,hr⟩
 have e:(∃t∈allT.drop 0,decF o t 0)↔decr o:=by
  simp only[Yn,Zdy,decr]
 rcases b with⟨h,xs,ys,h1⟩|⟨h,h1⟩
 .exact .inl ⟨e.1 h,xs,ys,go _ h1⟩
 .exact .inr ⟨λhc=>h (e.2 hc),go _ h1⟩
def Zb9(o:Zc):Prop:=Zbn o=true/\¬decr o/\¬cheap o
def mOp(m:Zj)(k:Int):Zc:=if k=1 then m.Scan else if k=2 then m.Sort_ else if k=3 then m.Hash else if k=4 then m.Merge else m.Nested
abbrev LeM(m:Zj):Prop:=Le m.Scan.Steps/\Le m.Sort_.Steps/\Le m.Hash.Steps/\Le m.Merge.Steps/\Le m.Nested.Steps
theorem LeM.op{m:Zj}(h:LeM m)(k:Int):Le (mOp m k).Steps:=by
 unfold mOp;obtain⟨h1,h2,h3,h4,h5⟩:=h
 repeat' split
 all_goals assumption
@[simp] theorem Zs3(m:Zj)(k:Int):Zfg m k=some (.agg ((mOp m k).c.map .t),[]):=by
 refine Z89 ?_;unfold mOp;by_cases h1:k=1
 .simp[h1]
 by_cases h2:k=2
 .simp[h2]
 by_cases h3:k=3
 .simp[h3]
 by_cases h4:k=4
 .simp[h4]
 .simp[h1,h2,h3,h4]
def Zdz(m:Zj):Prop:=Zb9 m.Scan/\Zb9 m.Sort_/\Zb9 m.Hash/\Zb9 m.Merge/\Zb9 m.Nested
theorem Zbbb(m:Zj)(hm:LeM m):∀k:Nat,k<=6->1<=k->
  ∃(xs ys:List Int) (n:Int),Zgo m k=some (.tup [I n,.own 0,.own 1],[.arr Zbq 1 true (xs.map ic),.arr Zbq 1 true (ys.map ic)])/\(n=0↔∀j:Nat,k<=j->j<=5->Zb9 (mOp m j)):=by
 refine down _ ?_ ?_
 .intro _;exact⟨[],[],0,Z0p (by rw[if_neg (by omega)]),⟨λ_ j h1 h2=>by omega,λ_=>rfl⟩⟩
 .intro k hk ih h1;have wk':w ((k:Int)+1)=(k:Int)+1:=Z8 (by omega) (by omega);have hl:=hm.op k;have step:(∀j:Nat,k<=j->j<=5->Zb9 (mOp m j))↔(Zb9 (mOp m k)/\∀j:Nat,k+1<=j->j<=5->Zb9 (mOp m j)):=by
   constructor
   .exact λh=>⟨h k (Yg _) (by omega),λj a b=>h j (by omega) b⟩
   .rintro⟨a,b⟩ j c d;by_cases hj:j=k
    .subst hj;exact a
    .exact b j (by omega) d
  have kne:(k:Int)≠0:=by omega
  have pre:∀r,(∃v,Zew (mOp m k)=some (Bo v,[])/\_)->Zgo m k=some r:=λr h=>Z0p (by rw[if_pos (by omega)];exact⟨mOp m k,Zs3 m k,h⟩)
  rcases tf (Zbn (mOp m k))with hv|hv
  .refine⟨[],[],k,pre _ ⟨false,by rw[Zmn _ hl,hv],by rw[if_neg (by simp)]⟩,?_⟩;rw[step];exact⟨λh=>absurd h kne,λh=>by have:=h.1.1;rw[hv]at this;cases this⟩
  .obtain⟨xs,ys,f,d1,d2⟩:=Zba8 (mOp m k) hl hv
   cases f with
   |true =>
    refine⟨xs,ys,k,pre _ ⟨true,by rw[Zmn _ hl,hv],?_⟩,?_⟩
    .rw[if_pos rfl];exact⟨xs,ys,true,d1,by rw[if_pos rfl]⟩
    .rw[step]
     exact⟨λh=>absurd h kne,λh=>absurd (d2.1 rfl) h.1.2.1⟩
   |false =>
    obtain⟨cs,c1,c2⟩:=Zba9 (mOp m k) hl hv;by_cases hc:cs=[]
    .obtain⟨xs',ys',n,i1,i2⟩:=ih (by omega);simp only[Ys,Yt]at i1;refine⟨xs',ys',n,pre _ ⟨true,by rw[Zmn _ hl,hv],?_⟩,?_⟩
     .rw[if_pos rfl];refine⟨xs,ys,false,d1,?_⟩;rw[if_neg (by simp)];refine⟨cs,c1,?_⟩;rw[hc,if_neg (by simp),wk'];exact i1
     .rw[step,i2];refine⟨λh=>⟨⟨hv,λhd=>(by have:=d2.2 hd;cases this),λhch=>(c2.2 hch) hc⟩,h⟩,λh=>h.2⟩
    .refine⟨cs,[],k,pre _ ⟨true,by rw[Zmn _ hl,hv],?_⟩,?_⟩
     .rw[if_pos rfl];refine⟨xs,ys,false,d1,?_⟩;rw[if_neg (by simp)];refine⟨cs,c1,?_⟩
      have:0<cs.length:=Yb6.2 hc
      rw[if_pos (by omega)]
     .rw[step];exact⟨λh=>absurd h kne,λh=>absurd (c2.1 hc) h.1.2.2⟩
theorem adm_iff(m:Zj):(∀j:Nat,1<=j->j<=5->Zb9 (mOp m j))↔Zdz m:=by
 constructor
 .intro h;exact⟨h 1 (by omega) (by omega),h 2 (by omega) (by omega),h 3 (by omega) (by omega),h 4 (by omega) (by omega),h 5 (by omega) (by omega)⟩
 .rintro⟨h1,h2,h3,h4,h5⟩ j a b
  have:j=1\/j=2\/j=3\/j=4\/j=5:=by omega
  rcases this with rfl|rfl|rfl|rfl|rfl
  .exact h1
  .exact h2
  .exact h3
  .exact h4
  .exact h5
open Classical in
theorem Zbbc(m:Zj)(hm:LeM m):Zlf m=some (Bo (decide (Zdz m)),[]):=by
 obtain⟨xs,ys,n,h1,h2⟩:=Zbbb m hm 1 (by omega) (by omega);refine Z9k ⟨xs,ys,n,Z9j h1,?_⟩;rw[adm_iff]at h2;by_cases h:Zdz m
 .rw[decide_eq_true h,decide_eq_true (h2.2 h)]
 .rw[decide_eq_false h,decide_eq_false (λhc=>h (h2.1 hc))]
abbrev Zbd(X:Rs)(p:Prop):Prop:=(p/\X=some (.tup [I 0,.t .nil,.t .nil],[]))\/(¬p/\∃n:Int,n≠0/\((∃xs ys:List Int,X=some (.tup [I n,L 1 (xs.map ic),.own 0],[.arr Zbq 1 true (ys.map ic)]))\/X=some (.tup [I n,.t .nil,.t .nil],[])\/∃xs:List Int,X=some (.tup [I n,L 1 (xs.map ic),.t .nil],[])))
theorem Zbd.of{X Y:Rs}{p:Prop}(h:Zbd X p)(e:∀r,X=some r->Y=some r):Zbd Y p:=by
 rcases h with⟨h,h1⟩|⟨h,n,hn,⟨xs,ys,h1⟩|h1|⟨xs,h1⟩⟩
 .exact .inl ⟨h,e _ h1⟩
 .exact .inr ⟨h,n,hn,.inl ⟨xs,ys,e _ h1⟩⟩
 .exact .inr ⟨h,n,hn,.inr (.inl (e _ h1))⟩
 .exact .inr ⟨h,n,hn,.inr (.inr ⟨xs,e _ h1⟩)⟩
theorem Zbd.congr{X:Rs}{p q:Prop}(h:Zbd X p)(e:p↔q):Zbd X q:=by
 rw[<-e];exact h
theorem Zmq{ts:List (List Int)}{j:Nat}(hj:j<ts.length){P:List Int->Prop}{p:Prop}:((∀t∈ts.drop j,P t)/\p)↔(P ts[j]/\(∀t∈ts.drop (j+1),P t)/\p):=by
 rw[Yj hj];simp only[Yr,forall_eq_or_imp,and_assoc]
theorem l_rf0(m:Zj)(hl:Le m.Scan.Steps)(ts:List (List Int))(c:∀t∈ts,inT t)(hn:ts.length<=1000)(kind:Int)(hk:kind≠0)(x1 x2:Int)(p:Prop)(hc:Zbd (Z5 m x1 (w (x2+1))) p):∀j,j<=ts.length->
  Zbd (Zfa m ts kind x1 x2 ts.length j) ((∀t∈ts.drop j,¬tcl m.Scan t<1)/\p):=by
 refine down _ ?_ ?_
 .refine(hc.of λr hr=>Z0c (by rw[if_neg (by omega)];exact hr)).congr (by simp)
 .intro j hj ih;have h4:=Zbv (i:=j) (by omega);have ht:=c _ (Yk hj);simp only[Ys,Yt]at ih;have pre:∀r,(if tcl m.Scan ts[j]<1 then some (.tup [I kind,L 1 (ts[j].map ic),.t .nil],[])=some r else Zfa m ts kind x1 x2 ts.length ((j:Int)+1)=some r)->Zfa m ts kind x1 x2 ts.length j=some r:=by
   intro r hr;refine Z0c ?_;rw[if_pos (by omega)];refine⟨by omega,ts[j],by rw[Ym];exact Yh hj,_,Ziy _ hl ht,?_⟩;rw[show w ((j:Int)+1)=(j:Int)+1 from h4];exact hr
  refine Zbd.congr ?_ (Zmq (P:=λt=>¬tcl m.Scan t<1) hj).symm;by_cases h:tcl m.Scan ts[j]<1
  .exact .inr ⟨λhc=>hc.1 h,kind,hk,.inr (.inr ⟨_,pre _ (by rw[if_pos h])⟩)⟩
  .exact(ih.of λr hr=>pre r (by rw[if_neg h];exact hr)).congr ⟨λhh=>⟨h,hh⟩,λhh=>hh.2⟩
theorem l_rf1(m:Zj)(hm:LeM m)(p:Prop)(hc:Zbd (Z5 m 5 1) p):Zbd (Z5 m 5 0) (Zb9 m.Scan/\p):=by
 have hl:Le m.Scan.Steps:=by obtain⟨h1,h2,h3,h4,h5⟩:=hm;assumption
 have w1:w (1+0)=1:=by decide
 have w2:w (0+1)=1:=by decide
 have pre:∀r,(∃v,Zbu m.Scan=some (Bo v,[])/\_)->Z5 m 5 0=some r:=λr h=>Zjt (by rw[if_pos (by omega),if_pos rfl];exact h)
 rcases tf (Zbn m.Scan)with hv|hv
 .refine .inr ⟨λh=>(by have:=h.1.1;rw[hv]at this;cases this),1,by decide,.inr (.inl (pre _ ⟨false,by rw[Zcn _ hl,hv],?_⟩))⟩;rw[if_neg (by simp),w1]
 rcases Zmp m.Scan hl hv with⟨hd,xs,ys,d1⟩|⟨hd,d1⟩
 .refine .inr ⟨λh=>h.1.2.1 hd,1,by decide,.inl ⟨xs,ys,pre _ ⟨true,by rw[Zcn _ hl,hv],?_⟩⟩⟩;rw[if_pos rfl,w1];exact .inr ⟨ys,xs,d1,rfl⟩
 .have b:=l_rf0 m hl allT (λt h=>(Zdy t).1 h) (by rw[Zj0];omega) 1 (by decide) 5 0 p (by rw[w2];exact hc) 0 (Yd _);refine(b.of λr hr=>pre r ⟨true,by rw[Zcn _ hl,hv],?_⟩).congr ?_
  .rw[if_pos rfl,w1];exact .inl ⟨d1,allT,Zjz,hr⟩
  .simp only[Yn,Zdy];constructor
   .rintro⟨h,hp⟩;exact⟨⟨hv,hd,λ⟨t,ht,hc⟩=>h t ht hc⟩,hp⟩
   .rintro⟨h,hp⟩;exact⟨λt ht hc=>h.2.2 ⟨t,ht,hc⟩,hp⟩
theorem l_rf0a(m:Zj)(hl:Le m.Sort_.Steps)(ts:List (List Int))(c:∀t∈ts,inT t)(hn:ts.length<=1000)(kind:Int)(hk:kind≠0)(x1 x2:Int)(p:Prop)(hc:Zbd (Z5 m x1 (w (x2+1))) p):∀j,j<=ts.length->
  Zbd (Zfb m ts kind x1 x2 ts.length j) ((∀t∈ts.drop j,¬tcl m.Sort_ t<1)/\p):=by
 refine down _ ?_ ?_
 .refine(hc.of λr hr=>Z0d (by rw[if_neg (by omega)];exact hr)).congr (by simp)
 .intro j hj ih;have h4:=Zbv (i:=j) (by omega);have ht:=c _ (Yk hj);simp only[Ys,Yt]at ih;have pre:∀r,(if tcl m.Sort_ ts[j]<1 then some (.tup [I kind,L 1 (ts[j].map ic),.t .nil],[])=some r else Zfb m ts kind x1 x2 ts.length ((j:Int)+1)=some r)->Zfb m ts kind x1 x2 ts.length j=some r:=by
   intro r hr;refine Z0d ?_;rw[if_pos (by omega)];refine⟨by omega,ts[j],by rw[Ym];exact Yh hj,_,Ziy _ hl ht,?_⟩;rw[show w ((j:Int)+1)=(j:Int)+1 from h4];exact hr
  refine Zbd.congr ?_ (Zmq (P:=λt=>¬tcl m.Sort_ t<1) hj).symm;by_cases h:tcl m.Sort_ ts[j]<1
  .exact .inr ⟨λhc=>hc.1 h,kind,hk,.inr (.inr ⟨_,pre _ (by rw[if_pos h])⟩)⟩
  .exact(ih.of λr hr=>pre r (by rw[if_neg h];exact hr)).congr ⟨λhh=>⟨h,hh⟩,λhh=>hh.2⟩
theorem l_rf1a(m:Zj)(hm:LeM m)(p:Prop)(hc:Zbd (Z5 m 5 2) p):Zbd (Z5 m 5 1) (Zb9 m.Sort_/\p):=by
 have hl:Le m.Sort_.Steps:=by obtain⟨h1,h2,h3,h4,h5⟩:=hm;assumption
 have w1:w (1+1)=2:=by decide
 have w2:w (1+1)=2:=by decide
 have pre:∀r,(∃v,Zbu m.Sort_=some (Bo v,[])/\_)->Z5 m 5 1=some r:=λr h=>Zjt (by rw[if_pos (by omega),if_neg (by omega),if_pos rfl];exact h)
 rcases tf (Zbn m.Sort_)with hv|hv
 .refine .inr ⟨λh=>(by have:=h.1.1;rw[hv]at this;cases this),2,by decide,.inr (.inl (pre _ ⟨false,by rw[Zcn _ hl,hv],?_⟩))⟩;rw[if_neg (by simp),w1]
 rcases Zmp m.Sort_ hl hv with⟨hd,xs,ys,d1⟩|⟨hd,d1⟩
 .refine .inr ⟨λh=>h.1.2.1 hd,2,by decide,.inl ⟨xs,ys,pre _ ⟨true,by rw[Zcn _ hl,hv],?_⟩⟩⟩;rw[if_pos rfl,w1];exact .inr ⟨ys,xs,d1,rfl⟩
 .have b:=l_rf0a m hl allT (λt h=>(Zdy t).1 h) (by rw[Zj0];omega) 2 (by decide) 5 1 p (by rw[w2];exact hc) 0 (Yd _);refine(b.of λr hr=>pre r ⟨true,by rw[Zcn _ hl,hv],?_⟩).congr ?_
  .rw[if_pos rfl,w1];exact .inl ⟨d1,allT,Zjz,hr⟩
  .simp only[Yn,Zdy];constructor
   .rintro⟨h,hp⟩;exact⟨⟨hv,hd,λ⟨t,ht,hc⟩=>h t ht hc⟩,hp⟩
   .rintro⟨h,hp⟩;exact⟨λt ht hc=>h.2.2 ⟨t,ht,hc⟩,hp⟩
theorem l_rf0b(m:Zj)(hl:Le m.Hash.Steps)(ts:List (List Int))(c:∀t∈ts,inT t)(hn:ts.length<=1000)(kind:Int)(hk:kind≠0)(x1 x2:Int)(p:Prop)(hc:Zbd (Z5 m x1 (w (x2+1))) p):∀j,j<=ts.length->
  Zbd (Zfc m ts kind x1 x2 ts.length j) ((∀t∈ts.drop j,¬tcl m.Hash t<1)/\p):=by
 refine down _ ?_ ?_
 .refine(hc.of λr hr=>Z0e (by rw[if_neg (by omega)];exact hr)).congr (by simp)
 .intro j hj ih;have h4:=Zbv (i:=j) (by omega);have ht:=c _ (Yk hj);simp only[Ys,Yt]at ih;have pre:∀r,(if tcl m.Hash ts[j]<1 then some (.tup [I kind,L 1 (ts[j].map ic),.t .nil],[])=some r else Zfc m ts kind x1 x2 ts.length ((j:Int)+1)=some r)->Zfc m ts kind x1 x2 ts.length j=some r:=by
   intro r hr;refine Z0e ?_;rw[if_pos (by omega)];refine⟨by omega,ts[j],by rw[Ym];exact Yh hj,_,Ziy _ hl ht,?_⟩;rw[show w ((j:Int)+1)=(j:Int)+1 from h4];exact hr
  refine Zbd.congr ?_ (Zmq (P:=λt=>¬tcl m.Hash t<1) hj).symm;by_cases h:tcl m.Hash ts[j]<1
  .exact .inr ⟨λhc=>hc.1 h,kind,hk,.inr (.inr ⟨_,pre _ (by rw[if_pos h])⟩)⟩
  .exact(ih.of λr hr=>pre r (by rw[if_neg h];exact hr)).congr ⟨λhh=>⟨h,hh⟩,λhh=>hh.2⟩
theorem l_rf1b(m:Zj)(hm:LeM m)(p:Prop)(hc:Zbd (Z5 m 5 3) p):Zbd (Z5 m 5 2) (Zb9 m.Hash/\p):=by
 have hl:Le m.Hash.Steps:=by obtain⟨h1,h2,h3,h4,h5⟩:=hm;assumption
 have w1:w (1+2)=3:=by decide
 have w2:w (2+1)=3:=by decide
 have pre:∀r,(∃v,Zbu m.Hash=some (Bo v,[])/\_)->Z5 m 5 2=some r:=λr h=>Zjt (by rw[if_pos (by omega),if_neg (by omega),if_neg (by omega),if_pos rfl];exact h)
 rcases tf (Zbn m.Hash)with hv|hv
 .refine .inr ⟨λh=>(by have:=h.1.1;rw[hv]at this;cases this),3,by decide,.inr (.inl (pre _ ⟨false,by rw[Zcn _ hl,hv],?_⟩))⟩;rw[if_neg (by simp),w1]
 rcases Zmp m.Hash hl hv with⟨hd,xs,ys,d1⟩|⟨hd,d1⟩
 .refine .inr ⟨λh=>h.1.2.1 hd,3,by decide,.inl ⟨xs,ys,pre _ ⟨true,by rw[Zcn _ hl,hv],?_⟩⟩⟩;rw[if_pos rfl,w1];exact .inr ⟨ys,xs,d1,rfl⟩
 .have b:=l_rf0b m hl allT (λt h=>(Zdy t).1 h) (by rw[Zj0];omega) 3 (by decide) 5 2 p (by rw[w2];exact hc) 0 (Yd _);refine(b.of λr hr=>pre r ⟨true,by rw[Zcn _ hl,hv],?_⟩).congr ?_
  .rw[if_pos rfl,w1];exact .inl ⟨d1,allT,Zjz,hr⟩
  .simp only[Yn,Zdy];constructor
   .rintro⟨h,hp⟩;exact⟨⟨hv,hd,λ⟨t,ht,hc⟩=>h t ht hc⟩,hp⟩
   .rintro⟨h,hp⟩;exact⟨λt ht hc=>h.2.2 ⟨t,ht,hc⟩,hp⟩
theorem l_rf0c(m:Zj)(hl:Le m.Merge.Steps)(ts:List (List Int))(c:∀t∈ts,inT t)(hn:ts.length<=1000)(kind:Int)(hk:kind≠0)(x1 x2:Int)(p:Prop)(hc:Zbd (Z5 m x1 (w (x2+1))) p):∀j,j<=ts.length->
  Zbd (Zfd m ts kind x1 x2 ts.length j) ((∀t∈ts.drop j,¬tcl m.Merge t<1)/\p):=by
 refine down _ ?_ ?_
 .refine(hc.of λr hr=>Z0f (by rw[if_neg (by omega)];exact hr)).congr (by simp)
 .intro j hj ih;have h4:=Zbv (i:=j) (by omega);have ht:=c _ (Yk hj);simp only[Ys,Yt]at ih;have pre:∀r,(if tcl m.Merge ts[j]<1 then some (.tup [I kind,L 1 (ts[j].map ic),.t .nil],[])=some r else Zfd m ts kind x1 x2 ts.length ((j:Int)+1)=some r)->Zfd m ts kind x1 x2 ts.length j=some r:=by
   intro r hr;refine Z0f ?_;rw[if_pos (by omega)];refine⟨by omega,ts[j],by rw[Ym];exact Yh hj,_,Ziy _ hl ht,?_⟩;rw[show w ((j:Int)+1)=(j:Int)+1 from h4];exact hr
  refine Zbd.congr ?_ (Zmq (P:=λt=>¬tcl m.Merge t<1) hj).symm;by_cases h:tcl m.Merge ts[j]<1
  .exact .inr ⟨λhc=>hc.1 h,kind,hk,.inr (.inr ⟨_,pre _ (by rw[if_pos h])⟩)⟩
  .exact(ih.of λr hr=>pre r (by rw[if_neg h];exact hr)).congr ⟨λhh=>⟨h,hh⟩,λhh=>hh.2⟩
theorem l_rf1c(m:Zj)(hm:LeM m)(p:Prop)(hc:Zbd (Z5 m 5 4) p):Zbd (Z5 m 5 3) (Zb9 m.Merge/\p):=by
 have hl:Le m.Merge.Steps:=by obtain⟨h1,h2,h3,h4,h5⟩:=hm;assumption
 have w1:w (1+3)=4:=by decide
 have w2:w (3+1)=4:=by decide
 have pre:∀r,(∃v,Zbu m.Merge=some (Bo v,[])/\_)->Z5 m 5 3=some r:=λr h=>Zjt (by rw[if_pos (by omega),if_neg (by omega),if_neg (by omega),if_neg (by omega),if_pos rfl];exact h)
 rcases tf (Zbn m.Merge)with hv|hv
 .refine .inr ⟨λh=>(by have:=h.1.1;rw[hv]at this;cases this),4,by decide,.inr (.inl (pre _ ⟨false,by rw[Zcn _ hl,hv],?_⟩))⟩;rw[if_neg (by simp),w1]
 rcases Zmp m.Merge hl hv with⟨hd,xs,ys,d1⟩|⟨hd,d1⟩
 .refine .inr ⟨λh=>h.1.2.1 hd,4,by decide,.inl ⟨xs,ys,pre _ ⟨true,by rw[Zcn _ hl,hv],?_⟩⟩⟩;rw[if_pos rfl,w1];exact .inr ⟨ys,xs,d1,rfl⟩
 .have b:=l_rf0c m hl allT (λt h=>(Zdy t).1 h) (by rw[Zj0];omega) 4 (by decide) 5 3 p (by rw[w2];exact hc) 0 (Yd _);refine(b.of λr hr=>pre r ⟨true,by rw[Zcn _ hl,hv],?_⟩).congr ?_
  .rw[if_pos rfl,w1];exact .inl ⟨d1,allT,Zjz,hr⟩
  .simp only[Yn,Zdy];constructor
   .rintro⟨h,hp⟩;exact⟨⟨hv,hd,λ⟨t,ht,hc⟩=>h t ht hc⟩,hp⟩
   .rintro⟨h,hp⟩;exact⟨λt ht hc=>h.2.2 ⟨t,ht,hc⟩,hp⟩
theorem l_rf0d(m:Zj)(hl:Le m.Nested.Steps)(ts:List (List Int))(c:∀t∈ts,inT t)(hn:ts.length<=1000)(kind:Int)(hk:kind≠0)(x1 x2:Int)(p:Prop)(hc:Zbd (Z5 m x1 (w (x2+1))) p):∀j,j<=ts.length->
  Zbd (Zfe m ts kind x1 x2 ts.length j) ((∀t∈ts.drop j,¬tcl m.Nested t<1)/\p):=by
 refine down _ ?_ ?_
 .refine(hc.of λr hr=>Z0g (by rw[if_neg (by omega)];exact hr)).congr (by simp)
 .intro j hj ih;have h4:=Zbv (i:=j) (by omega);have ht:=c _ (Yk hj);simp only[Ys,Yt]at ih;have pre:∀r,(if tcl m.Nested ts[j]<1 then some (.tup [I kind,L 1 (ts[j].map ic),.t .nil],[])=some r else Zfe m ts kind x1 x2 ts.length ((j:Int)+1)=some r)->Zfe m ts kind x1 x2 ts.length j=some r:=by
   intro r hr;refine Z0g ?_;rw[if_pos (by omega)];refine⟨by omega,ts[j],by rw[Ym];exact Yh hj,_,Ziy _ hl ht,?_⟩;rw[show w ((j:Int)+1)=(j:Int)+1 from h4];exact hr
  refine Zbd.congr ?_ (Zmq (P:=λt=>¬tcl m.Nested t<1) hj).symm;by_cases h:tcl m.Nested ts[j]<1
  .exact .inr ⟨λhc=>hc.1 h,kind,hk,.inr (.inr ⟨_,pre _ (by rw[if_pos h])⟩)⟩
  .exact(ih.of λr hr=>pre r (by rw[if_neg h];exact hr)).congr ⟨λhh=>⟨h,hh⟩,λhh=>hh.2⟩
theorem l_rf1d(m:Zj)(hm:LeM m)(p:Prop)(hc:Zbd (Z5 m 5 5) p):Zbd (Z5 m 5 4) (Zb9 m.Nested/\p):=by
 have hl:Le m.Nested.Steps:=by obtain⟨h1,h2,h3,h4,h5⟩:=hm;assumption
 have w1:w (1+4)=5:=by decide
 have w2:w (4+1)=5:=by decide
 have pre:∀r,(∃v,Zbu m.Nested=some (Bo v,[])/\_)->Z5 m 5 4=some r:=λr h=>Zjt (by rw[if_pos (by omega),if_neg (by omega),if_neg (by omega),if_neg (by omega),if_neg (by omega),if_pos rfl];exact h)
 rcases tf (Zbn m.Nested)with hv|hv
 .refine .inr ⟨λh=>(by have:=h.1.1;rw[hv]at this;cases this),5,by decide,.inr (.inl (pre _ ⟨false,by rw[Zcn _ hl,hv],?_⟩))⟩;rw[if_neg (by simp),w1]
 rcases Zmp m.Nested hl hv with⟨hd,xs,ys,d1⟩|⟨hd,d1⟩
 .refine .inr ⟨λh=>h.1.2.1 hd,5,by decide,.inl ⟨xs,ys,pre _ ⟨true,by rw[Zcn _ hl,hv],?_⟩⟩⟩;rw[if_pos rfl,w1];exact .inr ⟨ys,xs,d1,rfl⟩
 .have b:=l_rf0d m hl allT (λt h=>(Zdy t).1 h) (by rw[Zj0];omega) 5 (by decide) 5 4 p (by rw[w2];exact hc) 0 (Yd _);refine(b.of λr hr=>pre r ⟨true,by rw[Zcn _ hl,hv],?_⟩).congr ?_
  .rw[if_pos rfl,w1];exact .inl ⟨d1,allT,Zjz,hr⟩
  .simp only[Yn,Zdy];constructor
   .rintro⟨h,hp⟩;exact⟨⟨hv,hd,λ⟨t,ht,hc⟩=>h t ht hc⟩,hp⟩
   .rintro⟨h,hp⟩;exact⟨λt ht hc=>h.2.2 ⟨t,ht,hc⟩,hp⟩
open Classical in
theorem Zbbd(m:Zj)(hm:LeM m):Zk6 m=some (Bo (decide (Zdz m)),[]):=by
 have h5:Zbd (Z5 m 5 5) True:=.inl ⟨trivial,Zjt (by rw[if_neg (by omega)])⟩;have h0:=l_rf1 m hm _ (l_rf1a m hm _ (l_rf1b m hm _ (l_rf1c m hm _ (l_rf1d m hm _ h5))));have hop:Zgb m=some (.bsl 1 5,[.box (m.c.map .t),.box [.ptr 0 0,.ptr 0 6,.ptr 0 12,.ptr 0 18,.ptr 0 24]]):=Zz5 rfl;have hR:Zbd (Zhz m) (Zdz m):=(h0.of λr hr=>Z82 ⟨hop,hr⟩).congr (by simp[Zdz]);refine Z83 ?_;rcases hR with⟨h,h1⟩|⟨h,n,hn,⟨xs,ys,h1⟩|h1|⟨xs,h1⟩⟩
 .rw[decide_eq_true h];exact .inr (.inl ⟨0,h1,rfl⟩)
 .rw[decide_eq_false h];exact .inl ⟨ys,n,xs,h1,by rw[decide_eq_false hn]⟩
 .rw[decide_eq_false h];exact .inr (.inl ⟨n,h1,by rw[decide_eq_false hn]⟩)
 .rw[decide_eq_false h];exact .inr (.inr ⟨n,xs,h1,by rw[decide_eq_false hn]⟩)
end Go.Proofs.Ytdbnflilbkjbhaa
