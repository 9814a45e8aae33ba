/-
  Parts of the proofs for this seat: AD DB CM CR.
-/
import Derived.Deep.LoopGhost
import Derived.Deep.RegionLaw
import Derived.Lib.SlBy
import Derived.Lib.SliceRun
import Derived.Lib.Walk
import Derived.Shelf.RegionOpenPlain
import Derived.Test.YtdioodopdlpinaaGreatChecked
import Derived.WalkKit
import Derived.Test.YtdioodopdlpinaaGreatP7
import Derived.Test.YtdioodopdlpinaaGreatP11
set_option linter.unusedSimpArgs false
set_option linter.unusedVariables false
set_option maxRecDepth 100000
set_option maxHeartbeats 4000000
namespace Go.Proofs.YtdioodopdlpinaaGreat
open Go.AM
@[simp] theorem Zb77(c:Int):Zh2 c=some (I (Zcs c),[]):=by
 refine Zb3d ?_;cases h:inR c 0 7
 .simp[h,Zbb0 h]
 .rcases cls8 h with rfl|rfl|rfl|rfl|rfl|rfl|rfl|rfl<;>simp[inR,Zcs,Z2,shlI]
@[simp] theorem Zb78(c:Int):Zjt c=some (I (Zcs c),[]):=by
 refine Zb53 ?_;have e:∀n i r,(if i<c then Zot c (if 1<w (n*4)then w (n*4)else 1) (w (i+1))=some r else some (I n,[])=some r)->Zot c n i=some r:=λn i r h=>Zb52 h
 cases h:inR c 0 7
 .simp[h,Zbb0 h]
 .refine⟨_,Zbu _ _ _,?_⟩;rw[h,if_pos rfl];rcases cls8 h with rfl|rfl|rfl|rfl|rfl|rfl|rfl|rfl
  all_goals repeat (refine e _ _ _ ?_;first|(rw[if_neg (by decide)];rfl)|rw[if_pos (by decide)])
def inT(t:List Int):Prop:=∃a b c:Int,t=[a,b,c]/\(0<=a/\a<=7)/\(0<=b/\b<=7)/\(0<=c/\c<=7)
def tcl(o:Zq):List Int->Int
 |[a,b,c]=>Zpn o (Zcs a) (Zcs b) (Zcs c)
 |_=>0
theorem Zpo{c:Int}(h0:0<=c)(h7:c<=7):inR (Zcs c) 0 4096=true:=by
 have:c=0\/c=1\/c=2\/c=3\/c=4\/c=5\/c=6\/c=7:=by omega
 rcases this with rfl|rfl|rfl|rfl|rfl|rfl|rfl|rfl<;>decide
theorem Zl0(o:Zq)(hl:Le o.Steps){t:List Int}(h:inT t):Zgs o t=some (I (tcl o t),[]):=by
 obtain⟨a,b,c,rfl,_⟩:=h;refine Zb3f ?_;simp[hl,tcl]
theorem Zyt(o:Zq)(hl:Le o.Steps)(hv:Zcb o=true){t:List Int}(h:inT t):Zou o t=some (I (tcl o t),[]):=by
 obtain⟨a,b,c,rfl,h1,h2,h3⟩:=h;refine Zb55 ?_;have c1:=Zpo h1.1 h1.2;have c2:=Zpo h2.1 h2.2;have c3:=Zpo h3.1 h3.2;simp[hl,tcl,Zb0,hv,c1,c2,c3]
theorem Zbmj{t:List Int}(h:inT t){k:Nat}{e:Int}(hk:t[k]?=some e)(h7:e+1<=7):inT (t.set k (e+1)):=by
 obtain⟨a,b,c,rfl,h1,h2,h3⟩:=h
 match k,hk with
 |0,hk=>simp at hk;subst hk;exact⟨a+1,b,c,rfl,by omega,h2,h3⟩
 |1,hk=>simp at hk;subst hk;exact⟨a,b+1,c,rfl,h1,by omega,h3⟩
 |2,hk=>simp at hk;subst hk;exact⟨a,b,c+1,rfl,h1,h2,by omega⟩
 |k+3,hk=>simp at hk
theorem Zbmk{t:List Int}(h:inT t){k:Nat}(hk:k<3):∃e,t[k]?=some e/\0<=e/\e<=7:=by
 obtain⟨a,b,c,rfl,h1,h2,h3⟩:=h
 match k,hk with
 |0,_=>exact⟨a,rfl,h1⟩
 |1,_=>exact⟨b,rfl,h2⟩
 |2,_=>exact⟨c,rfl,h3⟩
theorem Z73{t:List Int}(h:inT t):t.length=3:=by obtain⟨a,b,c,rfl,_⟩:=h;rfl
def decK(o:Zq)(t:List Int)(k:Nat):Prop:=∃e,t[k]?=some e/\e+1<=7/\tcl o (t.set k (e+1))<tcl o t
def decF(o:Zq)(t:List Int)(k:Nat):Prop:=∃j,k<=j/\j<3/\decK o t j
def decr(o:Zq):Prop:=∃t,inT t/\decF o t 0
def cheap(o:Zq):Prop:=∃t,inT t/\tcl o t<1
abbrev Ze6(X:Rs)(p:Prop):Prop:=∃(xs ys:List Int) (b:Bool),X=some (.tup [.own 0,.own 1,Bo b],[.arr Zbc 1 true (xs.map ic),.arr Zbc 1 true (ys.map ic)])/\(b=true↔p)
theorem Ze6.congr{X:Rs}{p q:Prop}(h:Ze6 X p)(e:p↔q):Ze6 X q:=by
 obtain⟨xs,ys,b,h1,h2⟩:=h;exact⟨xs,ys,b,h1,h2.trans e⟩
theorem l_fd0(o:Zq)(hl:Le o.Steps)(hv:Zcb o=true){t:List Int}(ht:inT t)(a b e:Int)(p:Prop)(hc:Ze6 (Zoz o a b (w (e+1))) p):∀k:Nat,k<=3->
  Ze6 (Zif o t a b e k) (decF o t k\/p):=by
 have h3:=Z73 ht;refine down _ ?_ ?_
 .obtain⟨xs,ys,f,h1,h2⟩:=hc;refine⟨xs,ys,f,Zblk (by rw[if_neg (by omega)];exact h1),?_⟩;rw[h2];exact⟨.inr,λh=>h.elim (λ⟨j,a,b,_⟩=>by omega) id⟩
 .intro k hk ih;have h4:=Z6 (i:=k) (by omega);obtain⟨x,hx,x0,x7⟩:=Zbmk ht hk;have wx:w (x+1)=x+1:=Z2 (by omega) (by omega);simp only[Yt,Yu]at ih;have step:decF o t k↔(decK o t k\/decF o t (k+1)):=by
   constructor
   .rintro⟨j,j1,j2,j3⟩;by_cases hj:j=k
    .subst hj;exact .inl j3
    .exact .inr ⟨j,by omega,j2,j3⟩
   .rintro(h|⟨j,j1,j2,j3⟩)
    .exact⟨k,Yh _,hk,h⟩
    .exact⟨j,by omega,j2,j3⟩
  have pre:∀r,(if x+1<=7 then(if tcl o (t.set k (x+1))<tcl o t then some (.tup [.own 0,.own 1,Bo true],[.arr Zbc 1 true (t.map ic),.arr Zbc 1 true ((t.set k (x+1)).map ic)])=some r
    else Zif o t a b e ((k:Int)+1)=some r)else Zif o t a b e ((k:Int)+1)=some r)->Zif o t a b e k=some r:=by
   intro r hr;refine Zblk ?_;rw[if_pos (by omega)];refine⟨by omega,by omega,x,by rw[Yg];exact hx,?_⟩;rw[wx,Yg,show w ((k:Int)+1)=(k:Int)+1 from h4];by_cases h7:x+1<=7
   .rw[if_pos h7]at hr|-;exact⟨_,Zyt o hl hv (Zbmj ht hx h7),_,Zyt o hl hv ht,hr⟩
   .rw[if_neg h7]at hr|-;exact hr
  have dk:decK o t k↔(x+1<=7/\tcl o (t.set k (x+1))<tcl o t):=by
   constructor
   .rintro⟨y,y1,y2,y3⟩;rw[hx]at y1;cases y1;exact⟨y2,y3⟩
   .rintro⟨y2,y3⟩;exact⟨x,hx,y2,y3⟩
  by_cases h7:x+1<=7/\tcl o (t.set k (x+1))<tcl o t
  .refine⟨_,_,true,pre _ (by rw[if_pos h7.1,if_pos h7.2]),?_⟩;rw[step,dk];exact⟨λ_=>.inl (.inl h7),λ_=>rfl⟩
  .obtain⟨xs,ys,f,i1,i2⟩:=ih;refine⟨xs,ys,f,pre _ ?_,?_⟩
   .split
    .split
     .rename_i a1 a2;exact absurd ⟨a1,a2⟩ h7
     .exact i1
    .exact i1
   .rw[i2,step,dk];constructor
    .exact λh=>h.imp .inr id
    .exact λh=>h.imp (λh=>h.resolve_left h7) id
theorem Zpp{P:Nat->Prop}{i:Nat}{p:Prop}(hi:i<8):((∃z,i<=z/\z<=7/\P z)\/p)↔(P i\/(∃z,i+1<=z/\z<=7/\P z)\/p):=by
 constructor
 .rintro(⟨z,z1,z2,z3⟩|h)
  .by_cases hz:z=i
   .subst hz;exact .inl z3
   .exact .inr (.inl ⟨z,by omega,z2,z3⟩)
  .exact .inr (.inr h)
 .rintro(h|⟨z,z1,z2,z3⟩|h)
  .exact .inl ⟨i,Yh _,by omega,h⟩
  .exact .inl ⟨z,by omega,z2,z3⟩
  .exact .inr h
theorem Zpq{P:Nat->Prop}{p:Prop}:((∃z,8<=z/\z<=7/\P z)\/p)↔p:=⟨λh=>h.elim (λ⟨z,a,b,_⟩=>by omega) id,.inr⟩
theorem l_fd1(o:Zq)(hl:Le o.Steps)(hv:Zcb o=true)(a b:Nat)(ha:a<=7)(hb:b<=7)(p:Prop)(hc:Ze6 (Zoy o a ((b:Int)+1)) p):∀e:Nat,e<=8->
  Ze6 (Zoz o a b e) ((∃z:Nat,e<=z/\z<=7/\decF o [(a:Int),(b:Int),(z:Int)] 0)\/p):=by
 have wb:w ((b:Int)+1)=(b:Int)+1:=Z2 (by omega) (by omega);refine down _ ?_ ?_
 .refine Ze6.congr ?_ Zpq.symm;obtain⟨xs,ys,f,h1,h2⟩:=hc;exact⟨xs,ys,f,Zblj (by rw[if_neg (by omega),wb];exact h1),h2⟩
 .intro e he ih;have we:w ((e:Int)+1)=(e:Int)+1:=Z2 (by omega) (by omega);have hT:inT [(a:Int),(b:Int),(e:Int)]:=⟨a,b,e,rfl,by omega,by omega,by omega⟩;simp only[Yt,Yu]at ih;obtain⟨xs,ys,f,h1,h2⟩:=l_fd0 o hl hv hT a b e _ (by rw[we];exact ih) 0 (by omega);exact⟨xs,ys,f,Zblj (by rw[if_pos (by omega)];exact h1),h2.trans (Zpp (P:=λz:Nat=>decF o [(a:Int),(b:Int),(z:Int)] 0) he).symm⟩
theorem l_fd2(o:Zq)(hl:Le o.Steps)(hv:Zcb o=true)(a:Nat)(ha:a<=7)(p:Prop)(hc:Ze6 (Zox o ((a:Int)+1)) p):∀b:Nat,b<=8->
  Ze6 (Zoy o a b) ((∃y:Nat,b<=y/\y<=7/\∃z:Nat,0<=z/\z<=7/\decF o [(a:Int),(y:Int),(z:Int)] 0)\/p):=by
 have wa:w ((a:Int)+1)=(a:Int)+1:=Z2 (by omega) (by omega);refine down _ ?_ ?_
 .refine Ze6.congr ?_ Zpq.symm;obtain⟨xs,ys,f,h1,h2⟩:=hc;exact⟨xs,ys,f,Zbli (by rw[if_neg (by omega),wa];exact h1),h2⟩
 .intro b hb ih;simp only[Yt,Yu]at ih;obtain⟨xs,ys,f,h1,h2⟩:=l_fd1 o hl hv a b ha (by omega) _ ih 0 (by omega);exact⟨xs,ys,f,Zbli (by rw[if_pos (by omega)];exact h1),h2.trans (Zpp (P:=λy:Nat=>∃z:Nat,0<=z/\z<=7/\decF o [(a:Int),(y:Int),(z:Int)] 0) hb).symm⟩
theorem l_fd3(o:Zq)(hl:Le o.Steps)(hv:Zcb o=true):∀a:Nat,a<=8->
  Ze6 (Zox o a) ((∃x:Nat,a<=x/\x<=7/\∃y:Nat,0<=y/\y<=7/\∃z:Nat,0<=z/\z<=7/\decF o [(x:Int),(y:Int),(z:Int)] 0)\/False):=by
 refine down _ ?_ ?_
 .refine Ze6.congr ?_ Zpq.symm;exact⟨[],[],false,Zblh (by rw[if_neg (by omega)]),by simp⟩
 .intro a ha ih;simp only[Yt,Yu]at ih;obtain⟨xs,ys,f,h1,h2⟩:=l_fd2 o hl hv a (by omega) _ ih 0 (by omega);exact⟨xs,ys,f,Zblh (by rw[if_pos (by omega)];exact h1),h2.trans (Zpp (P:=λx:Nat=>∃y:Nat,0<=y/\y<=7/\∃z:Nat,0<=z/\z<=7/\decF o [(x:Int),(y:Int),(z:Int)] 0) ha).symm⟩
theorem Zbml(o:Zq)(P:List Int->Prop):(∃t,inT t/\P t)↔∃x:Nat,0<=x/\x<=7/\∃y:Nat,0<=y/\y<=7/\∃z:Nat,0<=z/\z<=7/\P [(x:Int),(y:Int),(z:Int)]:=by
 constructor
 .rintro⟨t,⟨a,b,c,rfl,h1,h2,h3⟩,h⟩;refine⟨a.toNat,by omega,by omega,b.toNat,by omega,by omega,c.toNat,by omega,by omega,?_⟩;rw[Ycs h1.1,Ycs h2.1,Ycs h3.1];exact h
 .rintro⟨x,_,x2,y,_,y2,z,_,z2,h⟩;exact⟨_,⟨x,y,z,rfl,by omega,by omega,by omega⟩,h⟩
theorem Zb79(o:Zq)(hl:Le o.Steps)(hv:Zcb o=true):Ze6 (Ztc o) (decr o):=by
 obtain⟨xs,ys,f,h1,h2⟩:=l_fd3 o hl hv 0 (by omega);refine⟨xs,ys,f,Zb56 ⟨_,Zui o hl,?_⟩,?_⟩
 .rw[hv,if_pos rfl];exact h1
 .rw[h2,decr,Zbml o (λt=>decF o t 0)];simp
abbrev Zfo(X:Rs)(p:Prop):Prop:=∃(xs:List Int),X=some (.own 0,[.arr Zbc 1 true (xs.map ic)])/\(xs≠[]↔p)
theorem Zfo.congr{X:Rs}{p q:Prop}(h:Zfo X p)(e:p↔q):Zfo X q:=by
 obtain⟨xs,h1,h2⟩:=h;exact⟨xs,h1,h2.trans e⟩
theorem l_ch0(o:Zq)(hl:Le o.Steps)(hv:Zcb o=true)(a b:Nat)(ha:a<=7)(hb:b<=7)(p:Prop)(hc:Zfo (Zo1 o a ((b:Int)+1)) p):∀e:Nat,e<=8->
  Zfo (Ztg o a b e) ((∃z:Nat,e<=z/\z<=7/\tcl o [(a:Int),(b:Int),(z:Int)]<1)\/p):=by
 have wb:w ((b:Int)+1)=(b:Int)+1:=Z2 (by omega) (by omega);refine down _ ?_ ?_
 .refine Zfo.congr ?_ Zpq.symm;obtain⟨xs,h1,h2⟩:=hc;exact⟨xs,Z7v (by rw[if_neg (by omega),wb];exact h1),h2⟩
 .intro e he ih;have we:w ((e:Int)+1)=(e:Int)+1:=Z2 (by omega) (by omega);have hT:inT [(a:Int),(b:Int),(e:Int)]:=⟨a,b,e,rfl,by omega,by omega,by omega⟩;simp only[Yt,Yu]at ih;refine Zfo.congr ?_ (Zpp he).symm;by_cases h:tcl o [(a:Int),(b:Int),(e:Int)]<1
  .refine⟨[a,b,e],Z7v ?_,by simp[h]⟩;rw[if_pos (by omega)];exact⟨_,Zyt o hl hv hT,by rw[if_pos h]⟩
  .obtain⟨xs,h1,h2⟩:=ih;refine⟨xs,Z7v ?_,by rw[h2];simp[h]⟩;rw[if_pos (by omega)];exact⟨_,Zyt o hl hv hT,by rw[if_neg h,we];exact h1⟩
theorem l_ch1(o:Zq)(hl:Le o.Steps)(hv:Zcb o=true)(a:Nat)(ha:a<=7)(p:Prop)(hc:Zfo (Zo0 o ((a:Int)+1)) p):∀b:Nat,b<=8->
  Zfo (Zo1 o a b) ((∃y:Nat,b<=y/\y<=7/\∃z:Nat,0<=z/\z<=7/\tcl o [(a:Int),(y:Int),(z:Int)]<1)\/p):=by
 have wa:w ((a:Int)+1)=(a:Int)+1:=Z2 (by omega) (by omega);refine down _ ?_ ?_
 .refine Zfo.congr ?_ Zpq.symm;obtain⟨xs,h1,h2⟩:=hc;exact⟨xs,Zblm (by rw[if_neg (by omega),wa];exact h1),h2⟩
 .intro b hb ih;simp only[Yt,Yu]at ih;obtain⟨xs,h1,h2⟩:=l_ch0 o hl hv a b ha (by omega) _ ih 0 (by omega);exact⟨xs,Zblm (by rw[if_pos (by omega)];exact h1),h2.trans (Zpp (P:=λy:Nat=>∃z:Nat,0<=z/\z<=7/\tcl o [(a:Int),(y:Int),(z:Int)]<1) hb).symm⟩
theorem l_ch2(o:Zq)(hl:Le o.Steps)(hv:Zcb o=true):∀a:Nat,a<=8->
  Zfo (Zo0 o a) ((∃x:Nat,a<=x/\x<=7/\∃y:Nat,0<=y/\y<=7/\∃z:Nat,0<=z/\z<=7/\tcl o [(x:Int),(y:Int),(z:Int)]<1)\/False):=by
 refine down _ ?_ ?_
 .refine Zfo.congr ?_ Zpq.symm;exact⟨[],Zbll (by rw[if_neg (by omega)]),by simp⟩
 .intro a ha ih;simp only[Yt,Yu]at ih;obtain⟨xs,h1,h2⟩:=l_ch1 o hl hv a (by omega) _ ih 0 (by omega);exact⟨xs,Zbll (by rw[if_pos (by omega)];exact h1),h2.trans (Zpp (P:=λx:Nat=>∃y:Nat,0<=y/\y<=7/\∃z:Nat,0<=z/\z<=7/\tcl o [(x:Int),(y:Int),(z:Int)]<1) ha).symm⟩
theorem Zb8a(o:Zq)(hl:Le o.Steps)(hv:Zcb o=true):Zfo (Ztf o) (cheap o):=by
 obtain⟨xs,h1,h2⟩:=l_ch2 o hl hv 0 (by omega);refine⟨xs,Zb57 h1,?_⟩;rw[h2,cheap,Zbml o (λt=>tcl o t<1)];simp
def rowC(a b:Int)(c:Nat):List (List Int):=(List.range' c (8-c)).map λz:Nat=>[a,b,(z:Int)]
def rowB(a:Int)(b:Nat):List (List Int):=(List.range' b (8-b)).flatMap λy:Nat=>rowC a y 0
def rowA(a:Nat):List (List Int):=(List.range' a (8-a)).flatMap λx:Nat=>rowB x 0
theorem Z74{i:Nat}(h:i<8):List.range' i (8-i)=i::List.range' (i+1) (8-(i+1)):=by
 rw[show 8-i=(8-(i+1))+1 by omega,Yc5]
theorem rowC_len(a b:Int)(c:Nat):(rowC a b c).length=8-c:=by simp[rowC]
theorem rowB_len(a:Int):(rowB a 0).length=64:=rfl
theorem l_tr0(a b:Nat)(hb:b<=7)(r:AV×List Blk):∀c:Nat,c<=8->∀out:List (List Int),out.length<=1000000->Zkt (out++rowC a b c) a ((b:Int)+1)=some r->Znn out a b c=some r:=by
 have wb:w ((b:Int)+1)=(b:Int)+1:=Z2 (by omega) (by omega);have key:∀c:Nat,c<=8->∀out:List (List Int),out.length<=1000000+c->Zkt (out++rowC a b c) a ((b:Int)+1)=some r->Znn out a b c=some r:=by
  refine down _ ?_ ?_
  .intro out ho h;refine Zbjf ?_;rw[if_neg (by omega),wb];simpa[rowC]using h
  .intro c hc ih out ho h;have wc:w ((c:Int)+1)=(c:Int)+1:=Z2 (by omega) (by omega);refine Zbjf ?_;rw[if_pos (by omega),wc];refine⟨by omega,?_⟩
   have ih:=ih (out++[[(a:Int),(b:Int),(c:Int)]]) (by simp;omega) (by
    rw[rowC,Z74 hc]at h
    simpa[rowC]using h)
   simpa using ih
 exact λc hc out ho h=>key c hc out (by omega) h
theorem l_tr1(a:Nat)(ha:a<=7)(r:AV×List Blk):∀b:Nat,b<=8->∀out:List (List Int),out.length<=100000+8*b->Znm (out++rowB a b) ((a:Int)+1)=some r->Zkt out a b=some r:=by
 have wa:w ((a:Int)+1)=(a:Int)+1:=Z2 (by omega) (by omega);refine down _ ?_ ?_
 .intro out ho h;refine Zbje ?_;rw[if_neg (by omega),wa];simpa[rowB]using h
 .intro b hb ih out ho h;refine Zbje ?_;rw[if_pos (by omega)];refine l_tr0 a b (by omega) r 0 (by omega) out (by omega) ?_
  have ih:=ih (out++rowC a b 0) (by rw[Yp,rowC_len];omega) (by
   rw[rowB,Z74 hb]at h
   simpa[rowB]using h)
  simpa using ih
theorem l_tr2:∀a:Nat,a<=8->∀out:List (List Int),out.length<=64*a->Znm out a=some (.own 0,[.arr Zkn 1 true ((out++rowA a).map isc)]):=by
 refine down _ ?_ ?_
 .intro out ho;refine Zbjd ?_;rw[if_neg (by omega)];simp[rowA]
 .intro a ha ih out ho;refine Zbjd ?_;rw[if_pos (by omega)];refine l_tr1 a (by omega) _ 0 (by omega) out (by omega) ?_;have ih:=ih (out++rowB a 0) (by rw[Yp,rowB_len];omega);rw[rowA,Z74 ha];simpa[rowA]using ih
def allT:List (List Int):=rowA 0
theorem Zpr:Zeq=some (.own 0,[.arr Zkn 1 true (allT.map isc)]):=Zb3c (l_tr2 0 (by omega) [] (by simp))
theorem Zf9(t:List Int):t∈allT↔inT t:=by
 simp only[allT,rowA,rowB,rowC,Yde,Ys,List.mem_range'_1,inT];constructor
 .rintro⟨x,hx,y,hy,z,hz,rfl⟩;exact⟨x,y,z,rfl,by omega,by omega,by omega⟩
 .rintro⟨a,b,c,rfl,h1,h2,h3⟩;refine⟨a.toNat,by omega,b.toNat,by omega,c.toNat,by omega,?_⟩;rw[Ycs h1.1,Ycs h2.1,Ycs h3.1]
set_option maxRecDepth 100000 in
theorem Zps:allT.length=512:=rfl
@[simp] theorem Zbmm(xs:List Int)(h:xs.length<=68719476736):Znc xs=some (.own 0,[.arr Zbc 1 true (xs.map ic)]):=Zb2c ⟨h,rfl⟩
abbrev GoodI(X:Rs)(p:Prop):Prop:=(p/\∃xs ys:List Int,X=some (.tup [L 1 (xs.map ic),.own 0,Bo true],[.arr Zbc 1 true (ys.map ic)]))\/(¬p/\X=some (.tup [.t .nil,.t .nil,Bo false],[]))
theorem l_id0(o:Zq)(hl:Le o.Steps)(ts:List (List Int)){t:List Int}(ht:inT t)(n i:Int)(p:Prop)(hc:GoodI (Zjf o ts n (w (i+1))) p):∀k:Nat,k<=3->
  GoodI (Zfz o ts t n i 3 k) (decF o t k\/p):=by
 have h3:=Z73 ht;refine down _ ?_ ?_
 .have e:(decF o t 3\/p)↔p:=⟨λh=>h.elim (λ⟨j,a,b,_⟩=>by omega) id,.inr⟩;rcases hc with⟨h,xs,ys,h1⟩|⟨h,h1⟩
  .exact .inl ⟨e.2 h,xs,ys,Z7s (by rw[if_neg (by omega)];exact h1)⟩
  .exact .inr ⟨λhc=>h (e.1 hc),Z7s (by rw[if_neg (by omega)];exact h1)⟩
 .intro k hk ih;have h4:=Z6 (i:=k) (by omega);obtain⟨x,hx,x0,x7⟩:=Zbmk ht hk;have wx:w (x+1)=x+1:=Z2 (by omega) (by omega);simp only[Yt,Yu]at ih;have step:decF o t k↔(decK o t k\/decF o t (k+1)):=by
   constructor
   .rintro⟨j,j1,j2,j3⟩;by_cases hj:j=k
    .subst hj;exact .inl j3
    .exact .inr ⟨j,by omega,j2,j3⟩
   .rintro(h|⟨j,j1,j2,j3⟩)
    .exact⟨k,Yh _,hk,h⟩
    .exact⟨j,by omega,j2,j3⟩
  have dk:decK o t k↔(x+1<=7/\tcl o (t.set k (x+1))<tcl o t):=by
   constructor
   .rintro⟨y,y1,y2,y3⟩;rw[hx]at y1;cases y1;exact⟨y2,y3⟩
   .rintro⟨y2,y3⟩;exact⟨x,hx,y2,y3⟩
  have pre:∀r,(if x+1<=7 then(if tcl o (t.set k (x+1))<tcl o t then some (.tup [L 1 (t.map ic),.own 0,Bo true],[.arr Zbc 1 true ((t.set k (x+1)).map ic)])=some r
    else Zfz o ts t n i 3 ((k:Int)+1)=some r)else Zfz o ts t n i 3 ((k:Int)+1)=some r)->Zfz o ts t n i 3 k=some r:=by
   intro r hr;refine Z7s ?_;rw[if_pos (by omega)];refine⟨by omega,x,by rw[Yg];exact hx,?_⟩;rw[show w ((k:Int)+1)=(k:Int)+1 from h4];by_cases h7:x=7
   .rw[if_pos h7];rw[if_neg (by omega)]at hr;exact hr
   .rw[if_neg h7];have h8:x+1<=7:=by omega
    rw[if_pos h8]at hr;refine⟨t,Zbmm t (by omega),x,by rw[Yg];exact hx,?_⟩;rw[wx,Yg];exact⟨_,Zl0 o hl (Zbmj ht hx h8),_,Zl0 o hl ht,hr⟩
  by_cases h7:x+1<=7/\tcl o (t.set k (x+1))<tcl o t
  .exact .inl ⟨.inl (step.2 (.inl (dk.2 h7))),_,_,pre _ (by rw[if_pos h7.1,if_pos h7.2])⟩
  .have go:∀r,Zfz o ts t n i 3 ((k:Int)+1)=some r->Zfz o ts t n i 3 k=some r:=by
    intro r hr;refine pre r ?_;split
    .split
     .rename_i a1 a2;exact absurd ⟨a1,a2⟩ h7
     .exact hr
    .exact hr
   have e:(decF o t k\/p)↔(decF o t (k+1)\/p):=by
    rw[step,dk];exact⟨λh=>h.imp (λh=>h.resolve_left h7) id,λh=>h.imp .inr id⟩
   rcases ih with⟨h,xs,ys,h1⟩|⟨h,h1⟩
   .exact .inl ⟨e.2 h,xs,ys,go _ h1⟩
   .exact .inr ⟨λhc=>h (e.1 hc),go _ h1⟩
theorem l_id1(o:Zq)(hl:Le o.Steps)(ts:List (List Int))(c:∀t∈ts,inT t)(hn:ts.length<=1000):∀i,i<=ts.length->GoodI (Zjf o ts ts.length i) (∃t∈ts.drop i,decF o t 0):=by
 refine down _ ?_ ?_
 .refine .inr ⟨by simp,Zbjh (by rw[if_neg (by omega)])⟩
 .intro i hi ih;have h4:=Z6 (i:=i) (by omega);have ht:=c _ (Yd hi);simp only[Yt,Yu]at ih;have b:=l_id0 o hl ts ht ts.length i _ (by rw[show w ((i:Int)+1)=(i:Int)+1 from h4];exact ih) 0 (by omega);have go:∀r,Zfz o ts ts[i] ts.length i 3 0=some r->Zjf o ts ts.length i=some r:=by
   intro r hr;refine Zbjh ?_;rw[if_pos (by omega)];refine⟨by omega,ts[i],by rw[Yg];exact Yc hi,?_⟩;rw[Z73 ht];exact hr
  have e:(∃t∈ts.drop i,decF o t 0)↔(decF o ts[i] 0\/∃t∈ts.drop (i+1),decF o t 0):=by
   rw[Yf hi];simp only[Yz,exists_eq_or_imp]
  rcases b with⟨h,xs,ys,h1⟩|⟨h,h1⟩
  .exact .inl ⟨e.2 h,xs,ys,go _ h1⟩
  .exact .inr ⟨λhc=>h (e.1 hc),go _ h1⟩
theorem Zuj(o:Zq)(hl:Le o.Steps)(hv:Zcb o=true):GoodI (Zcn o) (decr o):=by
 have b:=l_id1 o hl allT (λt h=>(Zf9 t).1 h) (by rw[Zps];omega) 0 (Ya _);have go:∀r,Zjf o allT allT.length 0=some r->Zcn o=some r:=by
  intro r hr;refine Zb3g ⟨_,Zec o hl,?_⟩;rw[hv,if_pos rfl];exact⟨allT,Zpr,hr⟩
 have e:(∃t∈allT.drop 0,decF o t 0)↔decr o:=by
  simp only[Yj,Zf9,decr]
 rcases b with⟨h,xs,ys,h1⟩|⟨h,h1⟩
 .exact .inl ⟨e.1 h,xs,ys,go _ h1⟩
 .exact .inr ⟨λhc=>h (e.2 hc),go _ h1⟩
def Zcc(o:Zq):Prop:=Zcb o=true/\¬decr o/\¬cheap o
def mOp(m:Zb)(k:Int):Zq:=if k=1 then m.Scan else if k=2 then m.Sort_ else if k=3 then m.Hash else if k=4 then m.Merge else m.Nested
abbrev LeM(m:Zb):Prop:=Le m.Scan.Steps/\Le m.Sort_.Steps/\Le m.Hash.Steps/\Le m.Merge.Steps/\Le m.Nested.Steps
theorem LeM.op{m:Zb}(h:LeM m)(k:Int):Le (mOp m k).Steps:=by
 unfold mOp;obtain⟨h1,h2,h3,h4,h5⟩:=h
 repeat' split
 all_goals assumption
@[simp] theorem Zpt(m:Zb)(k:Int):Zfm m k=some (.agg ((mOp m k).c.map .t),[]):=by
 refine Zb5z ?_;unfold mOp;by_cases h1:k=1
 .simp[h1]
 by_cases h2:k=2
 .simp[h2]
 by_cases h3:k=3
 .simp[h3]
 by_cases h4:k=4
 .simp[h4]
 .simp[h1,h2,h3,h4]
def Zd3(m:Zb):Prop:=Zcc m.Scan/\Zcc m.Sort_/\Zcc m.Hash/\Zcc m.Merge/\Zcc m.Nested
theorem Zb8b(m:Zb)(hm:LeM m):∀k:Nat,k<=6->1<=k->
  ∃(xs ys:List Int) (n:Int),Zo2 m k=some (.tup [I n,.own 0,.own 1],[.arr Zbc 1 true (xs.map ic),.arr Zbc 1 true (ys.map ic)])/\(n=0↔∀j:Nat,k<=j->j<=5->Zcc (mOp m j)):=by
 refine down _ ?_ ?_
 .intro _;exact⟨[],[],0,Zbln (by rw[if_neg (by omega)]),⟨λ_ j h1 h2=>by omega,λ_=>rfl⟩⟩
 .intro k hk ih h1;have wk':w ((k:Int)+1)=(k:Int)+1:=Z2 (by omega) (by omega);have hl:=hm.op k;have step:(∀j:Nat,k<=j->j<=5->Zcc (mOp m j))↔(Zcc (mOp m k)/\∀j:Nat,k+1<=j->j<=5->Zcc (mOp m j)):=by
   constructor
   .exact λh=>⟨h k (Yh _) (by omega),λj a b=>h j (by omega) b⟩
   .rintro⟨a,b⟩ j c d;by_cases hj:j=k
    .subst hj;exact a
    .exact b j (by omega) d
  have kne:(k:Int)≠0:=by omega
  have pre:∀r,(∃v,Zjs (mOp m k)=some (Bo v,[])/\_)->Zo2 m k=some r:=λr h=>Zbln (by rw[if_pos (by omega)];exact⟨mOp m k,Zpt m k,h⟩)
  rcases tf (Zcb (mOp m k))with hv|hv
  .refine⟨[],[],k,pre _ ⟨false,by rw[Zui _ hl,hv],by rw[if_neg (by simp)]⟩,?_⟩;rw[step];exact⟨λh=>absurd h kne,λh=>by have:=h.1.1;rw[hv]at this;cases this⟩
  .obtain⟨xs,ys,f,d1,d2⟩:=Zb79 (mOp m k) hl hv
   cases f with
   |true =>
    refine⟨xs,ys,k,pre _ ⟨true,by rw[Zui _ hl,hv],?_⟩,?_⟩
    .rw[if_pos rfl];exact⟨xs,ys,true,d1,by rw[if_pos rfl]⟩
    .rw[step]
     exact⟨λh=>absurd h kne,λh=>absurd (d2.1 rfl) h.1.2.1⟩
   |false =>
    obtain⟨cs,c1,c2⟩:=Zb8a (mOp m k) hl hv;by_cases hc:cs=[]
    .obtain⟨xs',ys',n,i1,i2⟩:=ih (by omega);simp only[Yt,Yu]at i1;refine⟨xs',ys',n,pre _ ⟨true,by rw[Zui _ hl,hv],?_⟩,?_⟩
     .rw[if_pos rfl];refine⟨xs,ys,false,d1,?_⟩;rw[if_neg (by simp)];refine⟨cs,c1,?_⟩;rw[hc,if_neg (by simp),wk'];exact i1
     .rw[step,i2];refine⟨λh=>⟨⟨hv,λhd=>(by have:=d2.2 hd;cases this),λhch=>(c2.2 hch) hc⟩,h⟩,λh=>h.2⟩
    .refine⟨cs,[],k,pre _ ⟨true,by rw[Zui _ hl,hv],?_⟩,?_⟩
     .rw[if_pos rfl];refine⟨xs,ys,false,d1,?_⟩;rw[if_neg (by simp)];refine⟨cs,c1,?_⟩
      have:0<cs.length:=Yc6.2 hc
      rw[if_pos (by omega)]
     .rw[step];exact⟨λh=>absurd h kne,λh=>absurd (c2.1 hc) h.1.2.2⟩
theorem adm_iff(m:Zb):(∀j:Nat,1<=j->j<=5->Zcc (mOp m j))↔Zd3 m:=by
 constructor
 .intro h;exact⟨h 1 (by omega) (by omega),h 2 (by omega) (by omega),h 3 (by omega) (by omega),h 4 (by omega) (by omega),h 5 (by omega) (by omega)⟩
 .rintro⟨h1,h2,h3,h4,h5⟩ j a b
  have:j=1\/j=2\/j=3\/j=4\/j=5:=by omega
  rcases this with rfl|rfl|rfl|rfl|rfl
  .exact h1
  .exact h2
  .exact h3
  .exact h4
  .exact h5
open Classical in
theorem Zbmn(m:Zb)(hm:LeM m):Zlk m=some (Bo (decide (Zd3 m)),[]):=by
 obtain⟨xs,ys,n,h1,h2⟩:=Zb8b m hm 1 (by omega) (by omega);refine Zb59 ⟨xs,ys,n,Zb58 h1,?_⟩;rw[adm_iff]at h2;by_cases h:Zd3 m
 .rw[decide_eq_true h,decide_eq_true (h2.2 h)]
 .rw[decide_eq_false h,decide_eq_false (λhc=>h (h2.1 hc))]
abbrev Zby(X:Rs)(p:Prop):Prop:=(p/\X=some (.tup [I 0,.t .nil,.t .nil],[]))\/(¬p/\∃n:Int,n≠0/\((∃xs ys:List Int,X=some (.tup [I n,L 1 (xs.map ic),.own 0],[.arr Zbc 1 true (ys.map ic)]))\/X=some (.tup [I n,.t .nil,.t .nil],[])\/∃xs:List Int,X=some (.tup [I n,L 1 (xs.map ic),.t .nil],[])))
theorem Zby.of{X Y:Rs}{p:Prop}(h:Zby X p)(e:∀r,X=some r->Y=some r):Zby Y p:=by
 rcases h with⟨h,h1⟩|⟨h,n,hn,⟨xs,ys,h1⟩|h1|⟨xs,h1⟩⟩
 .exact .inl ⟨h,e _ h1⟩
 .exact .inr ⟨h,n,hn,.inl ⟨xs,ys,e _ h1⟩⟩
 .exact .inr ⟨h,n,hn,.inr (.inl (e _ h1))⟩
 .exact .inr ⟨h,n,hn,.inr (.inr ⟨xs,e _ h1⟩)⟩
theorem Zby.congr{X:Rs}{p q:Prop}(h:Zby X p)(e:p↔q):Zby X q:=by
 rw[<-e];exact h
theorem Zuk{ts:List (List Int)}{j:Nat}(hj:j<ts.length){P:List Int->Prop}{p:Prop}:((∀t∈ts.drop j,P t)/\p)↔(P ts[j]/\(∀t∈ts.drop (j+1),P t)/\p):=by
 rw[Yf hj];simp only[Yz,forall_eq_or_imp,and_assoc]
theorem l_rf0(m:Zb)(hl:Le m.Scan.Steps)(ts:List (List Int))(cc:∀t∈ts,inT t)(hn:ts.length<=1000)(c:Int)(hk:c≠0)(x1 x2:Int)(p:Prop)(hc:Zby (Zb4 m x1 (w (x2+1))) p):∀j,j<=ts.length->
  Zby (Zji m ts c x1 x2 ts.length j) ((∀t∈ts.drop j,¬tcl m.Scan t<1)/\p):=by
 refine down _ ?_ ?_
 .refine(hc.of λr hr=>Zbji (by rw[if_neg (by omega)];exact hr)).congr (by simp)
 .intro j hj ih;have h4:=Z6 (i:=j) (by omega);have ht:=cc _ (Yd hj);simp only[Yt,Yu]at ih;have pre:∀r,(if tcl m.Scan ts[j]<1 then some (.tup [I c,L 1 (ts[j].map ic),.t .nil],[])=some r else Zji m ts c x1 x2 ts.length ((j:Int)+1)=some r)->Zji m ts c x1 x2 ts.length j=some r:=by
   intro r hr;refine Zbji ?_;rw[if_pos (by omega)];refine⟨by omega,ts[j],by rw[Yg];exact Yc hj,_,Zl0 _ hl ht,?_⟩;rw[show w ((j:Int)+1)=(j:Int)+1 from h4];exact hr
  refine Zby.congr ?_ (Zuk (P:=λt=>¬tcl m.Scan t<1) hj).symm;by_cases h:tcl m.Scan ts[j]<1
  .exact .inr ⟨λhc=>hc.1 h,c,hk,.inr (.inr ⟨_,pre _ (by rw[if_pos h])⟩)⟩
  .exact(ih.of λr hr=>pre r (by rw[if_neg h];exact hr)).congr ⟨λhh=>⟨h,hh⟩,λhh=>hh.2⟩
theorem l_rf1(m:Zb)(hm:LeM m)(p:Prop)(hc:Zby (Zb4 m 5 1) p):Zby (Zb4 m 5 0) (Zcc m.Scan/\p):=by
 have hl:Le m.Scan.Steps:=by obtain⟨h1,h2,h3,h4,h5⟩:=hm;assumption
 have w1:w (1+0)=1:=by decide
 have w2:w (0+1)=1:=by decide
 have pre:∀r,(∃v,Zct m.Scan=some (Bo v,[])/\_)->Zb4 m 5 0=some r:=λr h=>Zpl (by rw[if_pos (by omega),if_pos rfl];exact h)
 rcases tf (Zcb m.Scan)with hv|hv
 .refine .inr ⟨λh=>(by have:=h.1.1;rw[hv]at this;cases this),1,by decide,.inr (.inl (pre _ ⟨false,by rw[Zec _ hl,hv],?_⟩))⟩;rw[if_neg (by simp),w1]
 rcases Zuj m.Scan hl hv with⟨hd,xs,ys,d1⟩|⟨hd,d1⟩
 .refine .inr ⟨λh=>h.1.2.1 hd,1,by decide,.inl ⟨xs,ys,pre _ ⟨true,by rw[Zec _ hl,hv],?_⟩⟩⟩;rw[if_pos rfl,w1];exact .inr ⟨ys,xs,d1,rfl⟩
 .have b:=l_rf0 m hl allT (λt h=>(Zf9 t).1 h) (by rw[Zps];omega) 1 (by decide) 5 0 p (by rw[w2];exact hc) 0 (Ya _);refine(b.of λr hr=>pre r ⟨true,by rw[Zec _ hl,hv],?_⟩).congr ?_
  .rw[if_pos rfl,w1];exact .inl ⟨d1,allT,Zpr,hr⟩
  .simp only[Yj,Zf9];constructor
   .rintro⟨h,hp⟩;exact⟨⟨hv,hd,λ⟨t,ht,hc⟩=>h t ht hc⟩,hp⟩
   .rintro⟨h,hp⟩;exact⟨λt ht hc=>h.2.2 ⟨t,ht,hc⟩,hp⟩
theorem l_rf0a(m:Zb)(hl:Le m.Sort_.Steps)(ts:List (List Int))(cc:∀t∈ts,inT t)(hn:ts.length<=1000)(c:Int)(hk:c≠0)(x1 x2:Int)(p:Prop)(hc:Zby (Zb4 m x1 (w (x2+1))) p):∀j,j<=ts.length->
  Zby (Zjj m ts c x1 x2 ts.length j) ((∀t∈ts.drop j,¬tcl m.Sort_ t<1)/\p):=by
 refine down _ ?_ ?_
 .refine(hc.of λr hr=>Zbjj (by rw[if_neg (by omega)];exact hr)).congr (by simp)
 .intro j hj ih;have h4:=Z6 (i:=j) (by omega);have ht:=cc _ (Yd hj);simp only[Yt,Yu]at ih;have pre:∀r,(if tcl m.Sort_ ts[j]<1 then some (.tup [I c,L 1 (ts[j].map ic),.t .nil],[])=some r else Zjj m ts c x1 x2 ts.length ((j:Int)+1)=some r)->Zjj m ts c x1 x2 ts.length j=some r:=by
   intro r hr;refine Zbjj ?_;rw[if_pos (by omega)];refine⟨by omega,ts[j],by rw[Yg];exact Yc hj,_,Zl0 _ hl ht,?_⟩;rw[show w ((j:Int)+1)=(j:Int)+1 from h4];exact hr
  refine Zby.congr ?_ (Zuk (P:=λt=>¬tcl m.Sort_ t<1) hj).symm;by_cases h:tcl m.Sort_ ts[j]<1
  .exact .inr ⟨λhc=>hc.1 h,c,hk,.inr (.inr ⟨_,pre _ (by rw[if_pos h])⟩)⟩
  .exact(ih.of λr hr=>pre r (by rw[if_neg h];exact hr)).congr ⟨λhh=>⟨h,hh⟩,λhh=>hh.2⟩
theorem l_rf1a(m:Zb)(hm:LeM m)(p:Prop)(hc:Zby (Zb4 m 5 2) p):Zby (Zb4 m 5 1) (Zcc m.Sort_/\p):=by
 have hl:Le m.Sort_.Steps:=by obtain⟨h1,h2,h3,h4,h5⟩:=hm;assumption
 have w1:w (1+1)=2:=by decide
 have w2:w (1+1)=2:=by decide
 have pre:∀r,(∃v,Zct m.Sort_=some (Bo v,[])/\_)->Zb4 m 5 1=some r:=λr h=>Zpl (by rw[if_pos (by omega),if_neg (by omega),if_pos rfl];exact h)
 rcases tf (Zcb m.Sort_)with hv|hv
 .refine .inr ⟨λh=>(by have:=h.1.1;rw[hv]at this;cases this),2,by decide,.inr (.inl (pre _ ⟨false,by rw[Zec _ hl,hv],?_⟩))⟩;rw[if_neg (by simp),w1]
 rcases Zuj m.Sort_ hl hv with⟨hd,xs,ys,d1⟩|⟨hd,d1⟩
 .refine .inr ⟨λh=>h.1.2.1 hd,2,by decide,.inl ⟨xs,ys,pre _ ⟨true,by rw[Zec _ hl,hv],?_⟩⟩⟩;rw[if_pos rfl,w1];exact .inr ⟨ys,xs,d1,rfl⟩
 .have b:=l_rf0a m hl allT (λt h=>(Zf9 t).1 h) (by rw[Zps];omega) 2 (by decide) 5 1 p (by rw[w2];exact hc) 0 (Ya _);refine(b.of λr hr=>pre r ⟨true,by rw[Zec _ hl,hv],?_⟩).congr ?_
  .rw[if_pos rfl,w1];exact .inl ⟨d1,allT,Zpr,hr⟩
  .simp only[Yj,Zf9];constructor
   .rintro⟨h,hp⟩;exact⟨⟨hv,hd,λ⟨t,ht,hc⟩=>h t ht hc⟩,hp⟩
   .rintro⟨h,hp⟩;exact⟨λt ht hc=>h.2.2 ⟨t,ht,hc⟩,hp⟩
theorem l_rf0b(m:Zb)(hl:Le m.Hash.Steps)(ts:List (List Int))(cc:∀t∈ts,inT t)(hn:ts.length<=1000)(c:Int)(hk:c≠0)(x1 x2:Int)(p:Prop)(hc:Zby (Zb4 m x1 (w (x2+1))) p):∀j,j<=ts.length->
  Zby (Zjk m ts c x1 x2 ts.length j) ((∀t∈ts.drop j,¬tcl m.Hash t<1)/\p):=by
 refine down _ ?_ ?_
 .refine(hc.of λr hr=>Zbjk (by rw[if_neg (by omega)];exact hr)).congr (by simp)
 .intro j hj ih;have h4:=Z6 (i:=j) (by omega);have ht:=cc _ (Yd hj);simp only[Yt,Yu]at ih;have pre:∀r,(if tcl m.Hash ts[j]<1 then some (.tup [I c,L 1 (ts[j].map ic),.t .nil],[])=some r else Zjk m ts c x1 x2 ts.length ((j:Int)+1)=some r)->Zjk m ts c x1 x2 ts.length j=some r:=by
   intro r hr;refine Zbjk ?_;rw[if_pos (by omega)];refine⟨by omega,ts[j],by rw[Yg];exact Yc hj,_,Zl0 _ hl ht,?_⟩;rw[show w ((j:Int)+1)=(j:Int)+1 from h4];exact hr
  refine Zby.congr ?_ (Zuk (P:=λt=>¬tcl m.Hash t<1) hj).symm;by_cases h:tcl m.Hash ts[j]<1
  .exact .inr ⟨λhc=>hc.1 h,c,hk,.inr (.inr ⟨_,pre _ (by rw[if_pos h])⟩)⟩
  .exact(ih.of λr hr=>pre r (by rw[if_neg h];exact hr)).congr ⟨λhh=>⟨h,hh⟩,λhh=>hh.2⟩
theorem l_rf1b(m:Zb)(hm:LeM m)(p:Prop)(hc:Zby (Zb4 m 5 3) p):Zby (Zb4 m 5 2) (Zcc m.Hash/\p):=by
 have hl:Le m.Hash.Steps:=by obtain⟨h1,h2,h3,h4,h5⟩:=hm;assumption
 have w1:w (1+2)=3:=by decide
 have w2:w (2+1)=3:=by decide
 have pre:∀r,(∃v,Zct m.Hash=some (Bo v,[])/\_)->Zb4 m 5 2=some r:=λr h=>Zpl (by rw[if_pos (by omega),if_neg (by omega),if_neg (by omega),if_pos rfl];exact h)
 rcases tf (Zcb m.Hash)with hv|hv
 .refine .inr ⟨λh=>(by have:=h.1.1;rw[hv]at this;cases this),3,by decide,.inr (.inl (pre _ ⟨false,by rw[Zec _ hl,hv],?_⟩))⟩;rw[if_neg (by simp),w1]
 rcases Zuj m.Hash hl hv with⟨hd,xs,ys,d1⟩|⟨hd,d1⟩
 .refine .inr ⟨λh=>h.1.2.1 hd,3,by decide,.inl ⟨xs,ys,pre _ ⟨true,by rw[Zec _ hl,hv],?_⟩⟩⟩;rw[if_pos rfl,w1];exact .inr ⟨ys,xs,d1,rfl⟩
 .have b:=l_rf0b m hl allT (λt h=>(Zf9 t).1 h) (by rw[Zps];omega) 3 (by decide) 5 2 p (by rw[w2];exact hc) 0 (Ya _);refine(b.of λr hr=>pre r ⟨true,by rw[Zec _ hl,hv],?_⟩).congr ?_
  .rw[if_pos rfl,w1];exact .inl ⟨d1,allT,Zpr,hr⟩
  .simp only[Yj,Zf9];constructor
   .rintro⟨h,hp⟩;exact⟨⟨hv,hd,λ⟨t,ht,hc⟩=>h t ht hc⟩,hp⟩
   .rintro⟨h,hp⟩;exact⟨λt ht hc=>h.2.2 ⟨t,ht,hc⟩,hp⟩
theorem l_rf0c(m:Zb)(hl:Le m.Merge.Steps)(ts:List (List Int))(cc:∀t∈ts,inT t)(hn:ts.length<=1000)(c:Int)(hk:c≠0)(x1 x2:Int)(p:Prop)(hc:Zby (Zb4 m x1 (w (x2+1))) p):∀j,j<=ts.length->
  Zby (Zjl m ts c x1 x2 ts.length j) ((∀t∈ts.drop j,¬tcl m.Merge t<1)/\p):=by
 refine down _ ?_ ?_
 .refine(hc.of λr hr=>Zbjl (by rw[if_neg (by omega)];exact hr)).congr (by simp)
 .intro j hj ih;have h4:=Z6 (i:=j) (by omega);have ht:=cc _ (Yd hj);simp only[Yt,Yu]at ih;have pre:∀r,(if tcl m.Merge ts[j]<1 then some (.tup [I c,L 1 (ts[j].map ic),.t .nil],[])=some r else Zjl m ts c x1 x2 ts.length ((j:Int)+1)=some r)->Zjl m ts c x1 x2 ts.length j=some r:=by
   intro r hr;refine Zbjl ?_;rw[if_pos (by omega)];refine⟨by omega,ts[j],by rw[Yg];exact Yc hj,_,Zl0 _ hl ht,?_⟩;rw[show w ((j:Int)+1)=(j:Int)+1 from h4];exact hr
  refine Zby.congr ?_ (Zuk (P:=λt=>¬tcl m.Merge t<1) hj).symm;by_cases h:tcl m.Merge ts[j]<1
  .exact .inr ⟨λhc=>hc.1 h,c,hk,.inr (.inr ⟨_,pre _ (by rw[if_pos h])⟩)⟩
  .exact(ih.of λr hr=>pre r (by rw[if_neg h];exact hr)).congr ⟨λhh=>⟨h,hh⟩,λhh=>hh.2⟩
theorem l_rf1c(m:Zb)(hm:LeM m)(p:Prop)(hc:Zby (Zb4 m 5 4) p):Zby (Zb4 m 5 3) (Zcc m.Merge/\p):=by
 have hl:Le m.Merge.Steps:=by obtain⟨h1,h2,h3,h4,h5⟩:=hm;assumption
 have w1:w (1+3)=4:=by decide
 have w2:w (3+1)=4:=by decide
 have pre:∀r,(∃v,Zct m.Merge=some (Bo v,[])/\_)->Zb4 m 5 3=some r:=λr h=>Zpl (by rw[if_pos (by omega),if_neg (by omega),if_neg (by omega),if_neg (by omega),if_pos rfl];exact h)
 rcases tf (Zcb m.Merge)with hv|hv
 .refine .inr ⟨λh=>(by have:=h.1.1;rw[hv]at this;cases this),4,by decide,.inr (.inl (pre _ ⟨false,by rw[Zec _ hl,hv],?_⟩))⟩;rw[if_neg (by simp),w1]
 rcases Zuj m.Merge hl hv with⟨hd,xs,ys,d1⟩|⟨hd,d1⟩
 .refine .inr ⟨λh=>h.1.2.1 hd,4,by decide,.inl ⟨xs,ys,pre _ ⟨true,by rw[Zec _ hl,hv],?_⟩⟩⟩;rw[if_pos rfl,w1];exact .inr ⟨ys,xs,d1,rfl⟩
 .have b:=l_rf0c m hl allT (λt h=>(Zf9 t).1 h) (by rw[Zps];omega) 4 (by decide) 5 3 p (by rw[w2];exact hc) 0 (Ya _);refine(b.of λr hr=>pre r ⟨true,by rw[Zec _ hl,hv],?_⟩).congr ?_
  .rw[if_pos rfl,w1];exact .inl ⟨d1,allT,Zpr,hr⟩
  .simp only[Yj,Zf9];constructor
   .rintro⟨h,hp⟩;exact⟨⟨hv,hd,λ⟨t,ht,hc⟩=>h t ht hc⟩,hp⟩
   .rintro⟨h,hp⟩;exact⟨λt ht hc=>h.2.2 ⟨t,ht,hc⟩,hp⟩
theorem l_rf0d(m:Zb)(hl:Le m.Nested.Steps)(ts:List (List Int))(cc:∀t∈ts,inT t)(hn:ts.length<=1000)(c:Int)(hk:c≠0)(x1 x2:Int)(p:Prop)(hc:Zby (Zb4 m x1 (w (x2+1))) p):∀j,j<=ts.length->
  Zby (Zjm m ts c x1 x2 ts.length j) ((∀t∈ts.drop j,¬tcl m.Nested t<1)/\p):=by
 refine down _ ?_ ?_
 .refine(hc.of λr hr=>Zbjm (by rw[if_neg (by omega)];exact hr)).congr (by simp)
 .intro j hj ih;have h4:=Z6 (i:=j) (by omega);have ht:=cc _ (Yd hj);simp only[Yt,Yu]at ih;have pre:∀r,(if tcl m.Nested ts[j]<1 then some (.tup [I c,L 1 (ts[j].map ic),.t .nil],[])=some r else Zjm m ts c x1 x2 ts.length ((j:Int)+1)=some r)->Zjm m ts c x1 x2 ts.length j=some r:=by
   intro r hr;refine Zbjm ?_;rw[if_pos (by omega)];refine⟨by omega,ts[j],by rw[Yg];exact Yc hj,_,Zl0 _ hl ht,?_⟩;rw[show w ((j:Int)+1)=(j:Int)+1 from h4];exact hr
  refine Zby.congr ?_ (Zuk (P:=λt=>¬tcl m.Nested t<1) hj).symm;by_cases h:tcl m.Nested ts[j]<1
  .exact .inr ⟨λhc=>hc.1 h,c,hk,.inr (.inr ⟨_,pre _ (by rw[if_pos h])⟩)⟩
  .exact(ih.of λr hr=>pre r (by rw[if_neg h];exact hr)).congr ⟨λhh=>⟨h,hh⟩,λhh=>hh.2⟩
theorem l_rf1d(m:Zb)(hm:LeM m)(p:Prop)(hc:Zby (Zb4 m 5 5) p):Zby (Zb4 m 5 4) (Zcc m.Nested/\p):=by
 have hl:Le m.Nested.Steps:=by obtain⟨h1,h2,h3,h4,h5⟩:=hm;assumption
 have w1:w (1+4)=5:=by decide
 have w2:w (4+1)=5:=by decide
 have pre:∀r,(∃v,Zct m.Nested=some (Bo v,[])/\_)->Zb4 m 5 4=some r:=λr h=>Zpl (by rw[if_pos (by omega),if_neg (by omega),if_neg (by omega),if_neg (by omega),if_neg (by omega),if_pos rfl];exact h)
 rcases tf (Zcb m.Nested)with hv|hv
 .refine .inr ⟨λh=>(by have:=h.1.1;rw[hv]at this;cases this),5,by decide,.inr (.inl (pre _ ⟨false,by rw[Zec _ hl,hv],?_⟩))⟩;rw[if_neg (by simp),w1]
 rcases Zuj m.Nested hl hv with⟨hd,xs,ys,d1⟩|⟨hd,d1⟩
 .refine .inr ⟨λh=>h.1.2.1 hd,5,by decide,.inl ⟨xs,ys,pre _ ⟨true,by rw[Zec _ hl,hv],?_⟩⟩⟩;rw[if_pos rfl,w1];exact .inr ⟨ys,xs,d1,rfl⟩
 .have b:=l_rf0d m hl allT (λt h=>(Zf9 t).1 h) (by rw[Zps];omega) 5 (by decide) 5 4 p (by rw[w2];exact hc) 0 (Ya _);refine(b.of λr hr=>pre r ⟨true,by rw[Zec _ hl,hv],?_⟩).congr ?_
  .rw[if_pos rfl,w1];exact .inl ⟨d1,allT,Zpr,hr⟩
  .simp only[Yj,Zf9];constructor
   .rintro⟨h,hp⟩;exact⟨⟨hv,hd,λ⟨t,ht,hc⟩=>h t ht hc⟩,hp⟩
   .rintro⟨h,hp⟩;exact⟨λt ht hc=>h.2.2 ⟨t,ht,hc⟩,hp⟩
open Classical in
theorem Z75(m:Zb)(hm:LeM m):Zh3 m=some (Bo (decide (Zd3 m)),[]):=by
 have h5:Zby (Zb4 m 5 5) True:=.inl ⟨trivial,Zpl (by rw[if_neg (by omega)])⟩;have h0:=l_rf1 m hm _ (l_rf1a m hm _ (l_rf1b m hm _ (l_rf1c m hm _ (l_rf1d m hm _ h5))));have hop:Zhe m=some (.bsl 1 5,[.box (m.c.map .t),.box [.ptr 0 0,.ptr 0 6,.ptr 0 12,.ptr 0 18,.ptr 0 24]]):=Zbjb rfl;have hR:Zby (Znp m) (Zd3 m):=(h0.of λr hr=>Zb3h ⟨hop,hr⟩).congr (by simp[Zd3]);refine Zb3i ?_;rcases hR with⟨h,h1⟩|⟨h,n,hn,⟨xs,ys,h1⟩|h1|⟨xs,h1⟩⟩
 .rw[decide_eq_true h];exact .inr (.inl ⟨0,h1,rfl⟩)
 .rw[decide_eq_false h];exact .inl ⟨ys,n,xs,h1,by rw[decide_eq_false hn]⟩
 .rw[decide_eq_false h];exact .inr (.inl ⟨n,h1,by rw[decide_eq_false hn]⟩)
 .rw[decide_eq_false h];exact .inr (.inr ⟨n,xs,h1,by rw[decide_eq_false hn]⟩)
theorem wS{i n:Nat}(h:i<n)(hn:n<=1099511627776):w ((i:Int)+1)=((i+1:Nat):Int):=by
 rw[show w ((i:Int)+1)=(i:Int)+1 from Z2 (by omega) (by omega)];simp
theorem gE{α:Type}{xs:List α}{i:Nat}(h:i<xs.length):xs[(i:Int).toNat]?=some xs[i]:=by rw[Yg];exact Yc h
abbrev dig(v:Int):Bool:=inR v 0 9
def rwB(n:Int)(r:List Int):Bool:=r.all dig && decide ((r.length:Int)=n)
theorem Zb8c(r:List Int)(n:Int)(hl:Le r):∀i,i<=r.length->Zqx r n r r.length i=some (Bo ((r.drop i).all dig && decide ((r.length:Int)=n)),[]):=by
 refine down _ ?_ ?_
 .refine Zbil ?_;rw[if_neg (by omega)];simp
 .intro i hi ih;refine Zbil ?_;rw[if_pos (by omega),Yf hi,Y9,wS hi hl];refine⟨by omega,_,gE hi,_,Zca _ _ _,?_⟩;rcases tf (inR r[i] 0 9)with e|e
  .rw[e];simp[dig,e]
  .rw[e,if_pos rfl,ih];simp[dig,e]
@[simp] theorem Zb8d(r:List Int)(n:Int)(hl:Le r):Zv2 r n=some (Bo (rwB n r),[]):=Zb11 (by simpa[rwB]using Zb8c r n hl 0 (Ya _))
theorem Zb8e(r:List Int)(n:Int)(hl:Le r):∀i,i<=r.length->Zsi r n i=some (Bo ((r.drop i).all dig && decide ((r.length:Int)=n)),[]):=by
 refine down _ ?_ ?_
 .refine Zbki ?_;rw[if_neg (by omega)];simp
 .intro i hi ih;refine Zbki ?_;rw[if_pos (by omega),Yf hi,Y9,wS hi hl];refine⟨by omega,_,gE hi,_,Zbu _ _ _,?_⟩;rcases tf (inR r[i] 0 9)with e|e
  .rw[e];simp[dig,e]
  .rw[e,if_pos rfl,ih];simp[dig,e]
@[simp] theorem Zb8f(r:List Int)(n:Int)(hl:Le r):Zxa r n=some (Bo (rwB n r),[]):=Zb4x (by simpa[rwB]using Zb8e r n hl 0 (Ya _))
theorem x_cmp(a b:Int):Zv4 a b=some (I (if a<b then -1 else if b<a then 1 else 0),[]):=by
 refine Zb13 ⟨_,Zbim rfl,_,Zbim rfl,?_⟩;rw[if_neg (by simp),if_neg (by simp)];by_cases h1:a<b
 .rw[if_pos h1,if_pos h1]
 .rw[if_neg h1,if_neg h1];by_cases h2:b<a
  .rw[if_pos h2,if_pos h2]
  .rw[if_neg h2,if_neg h2]
theorem Zb8g(a b:List Int)(ha:Le a)(hb:Le b):∀i,i<=a.length->i<=b.length->Zqy a b a a.length i=some (I (cmpR (a.drop i) (b.drop i)),[]):=by
 refine down _ ?_ ?_
 .intro h;refine Zbin ?_;rw[if_neg (by omega),Yk];by_cases h2:(a.length:Int)<(b.length:Int)
  .rw[if_pos h2,Yf (l:=b) (i:=a.length) (by omega)];rfl
  .rw[if_neg h2,show a.length=b.length by omega,Yk];rfl
 .intro i hi ih h;refine Zbin ?_;rw[if_pos (by omega),Yf hi,wS hi ha];refine⟨by omega,_,gE hi,?_⟩;by_cases h2:(b.length:Int)<=(i:Int)
  .rw[if_pos h2,show b.drop i=[]from Ybo (by omega)];rfl
  .have hj:i<b.length:=by omega
   rw[if_neg h2,Yf hj];refine⟨_,gE hj,_,x_cmp _ _,?_⟩;unfold cmpR;by_cases e1:a[i]<b[i]
   .rw[if_pos e1,if_pos e1];rfl
   .rw[if_neg e1,if_neg e1];by_cases e2:b[i]<a[i]
    .rw[if_pos e2,if_pos e2];rfl
    .rw[if_neg e2,if_neg e2,if_pos rfl];exact ih (by omega)
@[simp] theorem Zb8h(a b:List Int)(ha:Le a)(hb:Le b):Zv5 a b=some (I (cmpR a b),[]) :=
 Zb15 ⟨_,Zb14 (by simpa using Zb8g a b ha hb 0 (Ya _) (Ya _)),rfl⟩
theorem Zbmo(a b:List Int)(i:Nat)(ha:i<=a.length)(hb:i<=b.length)(h:i=a.length\/i=b.length):Zsk a b i false=some (I (cmpR (a.drop i) (b.drop i)),[]):=by
 refine Zb4y ?_;by_cases h1:(a.length:Int)<(b.length:Int)
 .rw[if_pos h1,show a.drop i=[]from Ybo (by omega),Yf (l:=b) (i:=i) (by omega)];rfl
 .rw[if_neg h1];by_cases h2:(b.length:Int)<(a.length:Int)
  .rw[if_pos h2,show b.drop i=[]from Ybo (by omega),Yf (l:=a) (i:=i) (by omega)];rfl
  .rw[if_neg h2,show a.drop i=[]from Ybo (by omega),show b.drop i=[]from Ybo (by omega)];rfl
theorem Zb8i(a b:List Int)(ha:Le a)(hb:Le b):∀i,i<=a.length->i<=b.length->Zsj a b i=some (I (cmpR (a.drop i) (b.drop i)),[]):=by
 refine down _ ?_ ?_
 .intro h;refine Zbkj ?_;rw[if_neg (by omega)];exact Zbmo a b _ (Yh _) h (.inl rfl)
 .intro i hi ih h;refine Zbkj ?_;rw[if_pos (by omega)];by_cases h2:(i:Int)<(b.length:Int)
  .have hj:i<b.length:=by omega
   rw[if_pos h2];refine⟨by omega,_,gE hi,_,gE hj,?_⟩;rw[wS hi ha,Yf hi,Yf hj];unfold cmpR;by_cases e1:a[i]<b[i]
   .rw[if_pos e1,if_pos e1]
   .rw[if_neg e1,if_neg e1];by_cases e2:b[i]<a[i]
    .rw[if_pos e2,if_pos e2]
    .rw[if_neg e2,if_neg e2];exact ih (by omega)
  .rw[if_neg h2];exact Zbmo a b _ (by omega) h (.inr (by omega))
@[simp] theorem Zl1(a b:List Int)(ha:Le a)(hb:Le b):Ze2 a b=some (I (cmpR a b),[]) :=
 Zb4z (by simpa using Zb8i a b ha hb 0 (Ya _) (Ya _))
def pvA{α:Type}(xs:List α):Nat->Option α
 |0=>none
 |k+1=>xs[k]?
def nxt{α:Type}(lt:α->α->Bool)(p:Option α)(x:α):Bool:=match p with
 |none=>true
 |some q=>lt q x
def adjL{α:Type}(lt:α->α->Bool):Option α->List α->Bool
 |_,[]=>true
 |p,x::xs=>nxt lt p x && adjL lt (some x) xs
theorem Zyu{α:Type}(lt:α->α->Bool){xs:List α}{i:Nat}(hi:i<xs.length):adjL lt (pvA xs i) (xs.drop i)=(nxt lt (pvA xs i) xs[i] && adjL lt (pvA xs (i+1)) (xs.drop (i+1))):=by
 rw[Yf hi,adjL,show pvA xs (i+1)=some xs[i]from Yc hi]
def ltR(a b:List Int):Bool:=decide (cmpR a b<0)
abbrev LeT(t:Zh):Prop:=Le t.Rows/\∀r∈t.Rows,Le r
theorem wP{i n:Nat}(h0:0<i)(h:i<n)(hn:n<=1099511627776):w ((i:Int)-1)=((i-1:Nat):Int):=by
 rw[show w ((i:Int)-1)=(i:Int)-1 from Z2 (by omega) (by omega)];omega
theorem Zl2{α:Type}{xs:List α}{i:Nat}(h0:0<i)(h:i-1<xs.length):pvA xs i=some xs[i-1]:=by
 obtain⟨k,rfl⟩:∃k,i=k+1:=⟨i-1,by omega⟩;exact Yc h
theorem Zb8j(rows:List (List Int))(hl:Le rows)(hr:∀r∈rows,Le r):∀i,i<=rows.length->0<i->Zqz rows i=some (Bo (adjL ltR (pvA rows i) (rows.drop i)),[]):=by
 refine down _ ?_ ?_
 .intro h0;refine Z7r ?_;rw[if_neg (by omega)];simp[adjL]
 .intro i hi ih h0;have hp:i-1<rows.length:=by omega
  have ih':=ih (by omega);refine Z7r ?_;rw[if_pos (by omega),wP h0 hi hl,wS hi hl,Zyu _ hi,Zl2 h0 hp];refine⟨by omega,_,gE hp,by omega,_,gE hi,_,Zb8h _ _ (hr _ (Yd hp)) (hr _ (Yd hi)),?_⟩;unfold nxt ltR at *
  by_cases e:0<=cmpR rows[i-1] rows[i]
  .rw[if_pos e];simp[show ¬cmpR rows[i-1] rows[i]<0 by omega]
  .rw[if_neg e,ih'];simp[show cmpR rows[i-1] rows[i]<0 by omega]
theorem Zb8k(rows:List (List Int))(hl:Le rows)(hr:∀r∈rows,Le r):Zv6 rows=some (Bo (adjL ltR none rows),[]):=by
 refine Zb16 ?_
 cases rows with
 |nil=>refine Z7r ?_;rw[if_neg (by simp)];rfl
 |cons r rs=>exact Zb8j (r::rs) hl hr 1 (by simp) (by omega)
def Zb2(t:Zh):Bool:=nmOk t.Name && inR t.Arity 1 3 && decide ((t.Rows.length:Int)<=8) && (t.Rows.all (rwB t.Arity) && adjL ltR none t.Rows)
theorem Zb8l(t:Zh)(h:LeT t):∀i,i<=t.Rows.length->Zq0 t t.Rows t.Rows.length i=some (Bo ((t.Rows.drop i).all (rwB t.Arity) && (nmOk t.Name && inR t.Arity 1 3 && decide ((t.Rows.length:Int)<=8) && adjL ltR none t.Rows)),[]):=by
 refine down _ ?_ ?_
 .refine Zbio ?_;rw[if_neg (by omega)];refine⟨_,x_nameOk _,?_⟩;rcases tf (nmOk t.Name)with e1|e1
  .rw[e1];simp
  rw[e1,if_pos rfl];refine⟨_,Zca _ _ _,?_⟩;rcases tf (inR t.Arity 1 3)with e2|e2
  .rw[e2];simp
  rw[e2,if_pos rfl];by_cases e3:(t.Rows.length:Int)<=8
  .rw[if_pos e3];exact⟨_,Zb8k t.Rows h.1 h.2,by simp[e3]⟩
  .rw[if_neg e3];simp[e3]
 .intro i hi ih;refine Zbio ?_;rw[if_pos (by omega),Yf hi,Y9,wS hi h.1];refine⟨by omega,_,gE hi,_,Zb8d _ _ (h.2 _ (Yd hi)),?_⟩;rcases tf (rwB t.Arity t.Rows[i])with e|e
  .rw[e];simp
  .rw[e,if_pos rfl,ih];simp
@[simp] theorem Z76(t:Zh)(h:LeT t):Zjb t=some (Bo (Zb2 t),[]):=by
 refine Zb17 ?_;rw[show(0:Int)=((0:Nat):Int)from rfl,Zb8l t h 0 (Ya _)];unfold Zb2;simp only[Yj];congr 3;rw[Ybk];simp only[Ye]
 grind
theorem Zb8m(t:Zh)(h:LeT t):∀i,i<=t.Rows.length->Zn7 t i=some (Bo ((t.Rows.drop i).all (rwB t.Arity) && adjL ltR (pvA t.Rows i) (t.Rows.drop i)),[]):=by
 refine down _ ?_ ?_
 .refine Zbkk ?_;rw[if_neg (by omega)];simp[adjL]
 .intro i hi ih;have hr:=h.2 _ (Yd hi);refine Zbkk ?_;rw[Zyu _ hi,if_pos (by omega),Yf hi,Y9,wS hi h.1];refine⟨by omega,_,gE hi,_,Zb8f _ _ hr,?_⟩;rcases tf (rwB t.Arity t.Rows[i])with e|e
  .rw[e];simp
  rw[e,if_pos rfl];by_cases h0:0<i
  .have hp:i-1<t.Rows.length:=by omega
   rw[if_pos (by omega),wP h0 hi h.1,Zl2 h0 hp];refine⟨by omega,_,gE hp,_,Zl1 _ _ (h.2 _ (Yd hp)) hr,?_⟩;unfold nxt ltR at *
   by_cases e:0<=cmpR t.Rows[i-1] t.Rows[i]
   .rw[if_pos e];simp[show ¬cmpR t.Rows[i-1] t.Rows[i]<0 by omega]
   .rw[if_neg e,ih];simp[show cmpR t.Rows[i-1] t.Rows[i]<0 by omega]
  .have:i=0:=by omega
   subst this;rw[if_neg (by omega),ih];simp[pvA,nxt]
@[simp] theorem Z77(t:Zh)(h:LeT t):Zla t=some (Bo (Zb2 t),[]):=by
 refine Zb40 ⟨_,Zbmf _,?_⟩;unfold Zb2;rcases tf (nmOk t.Name)with e1|e1
 .rw[e1];simp
 rw[e1,if_pos rfl];refine⟨_,Zbu _ _ _,?_⟩;rcases tf (inR t.Arity 1 3)with e2|e2
 .rw[e2];simp
 rw[e2,if_pos rfl];by_cases e3:8<(t.Rows.length:Int)
 .rw[if_pos e3];simp[show ¬(t.Rows.length:Int)<=8 by omega]
 .rw[if_neg e3];have:=Zb8m t h 0 (Ya _);refine Yb this ?_;simp[show(t.Rows.length:Int)<=8 by omega,pvA]
def ltN(a b:Zh):Bool:=Op.bytesLess a.Name.toList b.Name.toList
abbrev LeD(d:Zm):Prop:=Le d.Tables/\∀t∈d.Tables,LeT t
def Zco(d:Zm):Bool:=d.Tables.all Zb2 && adjL ltN none d.Tables && decide ((d.Tables.length:Int)<=6)
theorem Zb8n(d:Zm)(h:LeD d):∀i,i<=d.Tables.length->Zm8 d d.Tables d.Tables.length i=some (Bo ((d.Tables.drop i).all Zb2 && adjL ltN (pvA d.Tables i) (d.Tables.drop i) && decide ((d.Tables.length:Int)<=6)),[]):=by
 refine down _ ?_ ?_
 .refine Zbip ?_;rw[if_neg (by omega)];simp[adjL]
 .intro i hi ih;refine Zbip ?_;rw[Zyu _ hi,if_pos (by omega),Yf hi,Y9,wS hi h.1];refine⟨by omega,_,gE hi,_,Z76 _ (h.2 _ (Yd hi)),?_⟩;rcases tf (Zb2 d.Tables[i])with e|e
  .rw[e];simp
  rw[e,if_pos rfl];by_cases h0:0<i
  .have hp:i-1<d.Tables.length:=by omega
   rw[if_pos (by omega),wP h0 hi h.1,Zl2 h0 hp];refine⟨by omega,_,gE hp,?_⟩;unfold nxt ltN at *
   rcases tf (Op.bytesLess d.Tables[i-1].Name.toList d.Tables[i].Name.toList)with e|e
   .rw[e];simp[e]
   .rw[e,if_pos rfl,ih];simp[e]
  .have:i=0:=by omega
   subst this;rw[if_neg (by omega),ih];simp[pvA,nxt]
@[simp] theorem Zbmp(d:Zm)(h:LeD d):Zm7 d=some (Bo (Zco d),[]):=by
 refine Zb18 ?_;have:=Zb8n d h 0 (Ya _);refine Yb this ?_;unfold Zco;simp[pvA]
theorem Zb8o(d:Zm)(h:LeD d):∀i,i<=d.Tables.length->Zn8 d i=some (Bo ((d.Tables.drop i).all Zb2 && adjL ltN (pvA d.Tables i) (d.Tables.drop i) && decide ((d.Tables.length:Int)<=6)),[]):=by
 refine down _ ?_ ?_
 .refine Zbkl ?_;rw[if_neg (by omega)];simp[adjL]
 .intro i hi ih;refine Zbkl ?_;rw[Zyu _ hi,if_pos (by omega),Yf hi,Y9,wS hi h.1];refine⟨by omega,_,gE hi,_,Z77 _ (h.2 _ (Yd hi)),?_⟩;rcases tf (Zb2 d.Tables[i])with e|e
  .rw[e];simp
  rw[e,if_pos rfl];by_cases h0:0<i
  .have hp:i-1<d.Tables.length:=by omega
   rw[if_pos (by omega),wP h0 hi h.1,Zl2 h0 hp];refine⟨by omega,_,gE hp,?_⟩;unfold nxt ltN at *
   rcases tf (Op.bytesLess d.Tables[i-1].Name.toList d.Tables[i].Name.toList)with e|e
   .rw[e];simp[e]
   .rw[e,if_pos rfl,ih];simp[e]
  .have:i=0:=by omega
   subst this;rw[if_neg (by omega),ih];simp[pvA,nxt]
@[simp] theorem Zbmq(d:Zm)(h:LeD d):Zlb d=some (Bo (Zco d),[]):=by
 refine Zb41 ?_;have:=Zb8o d h 0 (Ya _);refine Yb this ?_;unfold Zco;simp[pvA]
def Zb9(d:Zm)(n:ByteArray):Option Zh:=if Zco d=true then d.Tables.find? (λt=>decide (t.Name=n))else none
theorem Zb8p(xs:List (List Int))(hx:Le xs)(hr:∀r∈xs,r.length<=4)(hl:xs.length<=1000000):∀i,i<=xs.length->Zq3 (xs.take i) xs xs.length i=some (.own 0,[.arr 90 1 true (xs.map isc)]):=by
 refine down _ ?_ ?_
 .refine Zbit ?_;rw[if_neg (by omega),Y2]
 .intro i hi ih;refine Zbit ?_;rw[if_pos (by omega),wS hi hx];have:=hr _ (Yd hi);refine⟨by omega,_,gE hi,_,Zbmm _ (by omega),by rw[Y5];omega,?_⟩;rw[Yy hi]at ih;exact ih
theorem Zbmr(xs:List (List Int))(hr:∀r∈xs,r.length<=4)(hl:xs.length<=1000000):Znd xs=some (.own 0,[.arr 90 1 true (xs.map isc)]) :=
 Zb2d (by simpa using Zb8p xs (by omega) hr hl 0 (Ya _))
theorem Zbms{α:Type}(p:α->Bool):∀(xs:List α) (i:Nat),match xs.find? p with
  |none=>Zc2 p xs i=-1
  |some x=>∃j,Zc2 p xs i=((i+j:Nat):Int)/\xs[j]?=some x
 |[],i=>by simp[Zc2]
 |x::xs,i=>by
  unfold Zc2;rw[List.find?_cons];rcases tf (p x)with e|e
  .rw[e,if_neg (by simp)];have:=Zbms p xs (i+1);revert this;simp only
   cases xs.find? p with
   |none=>exact id
   |some y=>rintro⟨j,h1,h2⟩;exact⟨j+1,by rw[h1];congr 1;omega,by simpa using h2⟩
  .rw[e,if_pos rfl];exact⟨0,rfl,rfl⟩
theorem l_idxT(s:List Zh)(n:ByteArray)(hs:Le s):∀i,i<=s.length->Zrb s n s.length i=some (I (Zc2 (λt=>decide (t.Name=n)) (s.drop i) i),[]):=by
 refine down _ ?_ ?_
 .refine Zbi0 ?_;rw[if_neg (by omega)];simp[Zc2]
 .intro i hi ih;refine Zbi0 ?_;rw[if_pos (by omega),Z1i _ hi,wS hi hs];refine⟨by omega,_,gE hi,_,Zb2o rfl,?_⟩;split
  .rfl
  .exact ih
def lookR(o:Option Zh):AV×List Blk:=match o with
 |none=>(.tup [.agg [.t (.str ⟨#[]⟩),I 0,.t .nil],Bo false],[])
 |some t=>(.tup [.agg [.t (.str t.Name),I t.Arity,.own 0],Bo true],[.arr 90 1 true (t.Rows.map isc)])
theorem Zhp{d:Zm}(hv:Zco d=true){t:Zh}(ht:t∈d.Tables):Zb2 t=true:=by
 unfold Zco at hv;simp only[Ye]at hv;exact Yr.1 hv.1.1 t ht
theorem Zyv{t:Zh}(h:Zb2 t=true):t.Rows.length<=8:=by
 unfold Zb2 at h;simp only[Ye,decide_eq_true_eq]at h;omega
theorem Zbmt{t:Zh}(h:Zb2 t=true):∀r∈t.Rows,r.length<=3:=by
 intro r hr;unfold Zb2 at h;simp only[Ye]at h;have h1:=Yr.1 h.2.1 r hr;have h2:=h.1.1.2;unfold rwB at h1;simp only[inR,Ye,decide_eq_true_eq]at h1 h2;omega
theorem Zbmu{d:Zm}{n:ByteArray}{t:Zh}(h:Zb9 d n=some t):Zco d=true/\t∈d.Tables/\t.Name=n:=by
 unfold Zb9 at h;split at h
 .rename_i hv;exact⟨hv,List.mem_of_find?_eq_some h,by simpa using List.find?_some h⟩
 .cases h
theorem Zpu(d:Zm)(h:LeD d)(n:ByteArray):Zc4 d n=some (lookR (Zb9 d n)):=by
 have hi:=Zb2p (by simpa using l_idxT d.Tables n h.1 0 (Ya _));have hf:=Zbms (λt:Zh=>decide (t.Name=n)) d.Tables 0;refine Zb2r ⟨_,hi,?_⟩;unfold Zb9
 cases hq:d.Tables.find? (λt=>decide (t.Name=n))with
 |none =>
  rw[hq]at hf;simp only at hf;rw[hf,if_pos (by omega)]
  split<;>rfl
 |some t =>
  rw[hq]at hf;obtain⟨j,h1,h2⟩:=hf;rw[Ym]at h1;rw[h1,if_neg (by omega)];refine⟨_,Zbmp d h,?_⟩;rcases tf (Zco d)with e|e
  .rw[e];rfl
  .rw[e,if_pos rfl,if_pos rfl];have hm:=Y4 h2;have hT:=h.2 t hm;have h8:=Zyv (Zhp e hm);refine⟨by omega,t,by rw[Yg];exact h2,_,_,_,Zb2q ⟨_,Zbmr t.Rows (λr hr=>by have:=Zbmt (Zhp e hm) r hr;omega) (by omega),rfl⟩,rfl⟩
theorem Zb8q(t:Zh)(h:LeT t)(h8:t.Rows.length<=8)(h3:∀r∈t.Rows,r.length<=3)(a a':ByteArray)(b b':Int):∀i,i<=t.Rows.length->Zsx t a b a' b' (t.Rows.take i) i=some (.agg [.t (.str a'),I b',.own 0],[.arr 90 1 true (t.Rows.map isc)]):=by
 refine down _ ?_ ?_
 .refine Zbkv ?_;rw[if_neg (by omega),Y2]
 .intro i hi ih;refine Zbkv ?_;rw[if_pos (by omega),wS hi h.1];have:=h3 _ (Yd hi);rw[Yy hi]at ih;exact⟨by omega,_,gE hi,by omega,by rw[Y5];omega,ih⟩
theorem Zb8r(t:Zh)(h:LeT t)(h8:t.Rows.length<=8)(h3:∀r∈t.Rows,r.length<=3):Zsw t=some (if t.Rows=[]then(.agg [.t (.str t.Name),I t.Arity,.t .nil],[])else(.agg [.t (.str t.Name),I t.Arity,.own 0],[.arr 90 1 true (t.Rows.map isc)])):=by
 refine Zb5f ?_;refine Zb5e ?_;by_cases e:t.Rows=[]
 .rw[if_neg (by rw[e];simp),if_pos e]
 .have h0:0<t.Rows.length:=Yc6.2 e;have:=h3 _ (Yd h0);rw[if_pos (by omega),if_neg e];refine⟨by omega,_,gE h0,by omega,?_⟩;have:=Zb8q t h h8 h3 ⟨#[]⟩ t.Name 0 t.Arity 1 (by omega);rw[Yy h0]at this;rw[show w (0+1)=1 from by decide];simpa using this
def Zim(o:Option Zh):AV×List Blk:=match o with
 |none=>(.tup [.agg [.t (.str ⟨#[]⟩),I 0,.t .nil],Bo false],[])
 |some t=>if t.Rows=[]then(.tup [.agg [.t (.str t.Name),I t.Arity,.t .nil],Bo true],[])else(.tup [.agg [.t (.str t.Name),I t.Arity,.own 0],Bo true],[.arr 90 1 true (t.Rows.map isc)])
theorem Zb8s(d:Zm)(h:LeD d)(n:ByteArray):∀i,i<=d.Tables.length->Zsy d ⟨#[]⟩ 0 n i=some (Zim (if Zco d=true then(d.Tables.drop i).find? (λt=>decide (t.Name=n))else none)):=by
 refine down _ ?_ ?_
 .refine Zbkw ?_;rw[if_neg (by omega),Yk];split<;>rfl
 .intro i hi ih;refine Zbkw ?_;rw[if_pos (by omega),wS hi h.1];refine⟨_,Zbmq d h,?_⟩;rcases tf (Zco d)with e|e
  .rw[e];rfl
  rw[e,if_pos rfl]at ih|-;rw[if_pos rfl,Yf hi,List.find?_cons];have hm:=Yd hi;refine⟨by omega,_,gE hi,?_⟩;by_cases e2:d.Tables[i].Name=n
  .rw[if_pos e2];have hc:=Zb8r _ (h.2 _ hm) (Zyv (Zhp e hm)) (Zbmt (Zhp e hm));simp only[e2,decide_true,Zim];by_cases e3:d.Tables[i].Rows=[]
   .rw[if_pos e3]at hc|-;exact .inl ⟨_,_,hc,by rw[e2]⟩
   .rw[if_neg e3]at hc|-;exact .inr ⟨_,_,_,hc,by rw[e2]⟩
  .rw[if_neg e2,ih];simp only[e2,decide_false]
theorem Zpv(d:Zm)(h:LeD d)(n:ByteArray):Zcy d n=some (Zim (Zb9 d n)) :=
 Zb5g (by simpa[Zb9]using Zb8s d h n 0 (Ya _))
end Go.Proofs.YtdioodopdlpinaaGreat
namespace Go.Proofs.YtdioodopdlpinaaGreat
theorem Ze7:∀a b:List Int,cmpR b a=- cmpR a b
 |[],[]=>rfl
 |[],_::_=>rfl
 |_::_,[]=>rfl
 |x::a,y::b=>by
  have ih:=Ze7 a b;simp only[cmpR];by_cases h1:x<y
  .rw[if_neg (by omega),if_pos h1,if_pos h1];rfl
  .by_cases h2:y<x
   .rw[if_pos h2,if_neg h1,if_pos h2]
   .rw[if_neg h2,if_neg h1,if_neg h1,if_neg h2];exact ih
theorem Zga:∀a b:List Int,cmpR a b=0->a=b
 |[],[],_=>rfl
 |[],_::_,h=>by simp[cmpR]at h
 |_::_,[],h=>by simp[cmpR]at h
 |x::a,y::b,h=>by
  simp only[cmpR]at h;by_cases h1:x<y
  .rw[if_pos h1]at h;cases h
  .rw[if_neg h1]at h;by_cases h2:y<x
   .rw[if_pos h2]at h;cases h
   .rw[if_neg h2]at h;rw[Zga a b h,show x=y by omega]
theorem Zj0(a:List Int):cmpR a a=0:=by have:=Ze7 a a;omega
theorem Zpw:∀a b c:List Int,cmpR a b<=0->cmpR b c<=0->cmpR a c<=0
 |[],_,[],_,_=>by simp[cmpR]
 |[],_,_::_,_,_=>by simp[cmpR]
 |_::_,[],_,h,_=>by simp[cmpR]at h
 |_::_,_::_,[],_,h=>by simp[cmpR]at h
 |x::a,y::b,z::c,h1,h2=>by
  simp only[cmpR]at h1 h2|-;by_cases e1:x<y
  .by_cases e2:y<z
   .rw[if_pos (by omega)];decide
   .rw[if_neg e2]at h2;by_cases e3:z<y
    .rw[if_pos e3]at h2;exact absurd h2 (by decide)
    .rw[if_pos (by omega)];decide
  .rw[if_neg e1]at h1;by_cases e2:y<x
   .rw[if_pos e2]at h1;exact absurd h1 (by decide)
   .rw[if_neg e2]at h1
    have:x=y:=by omega
    subst this;by_cases e3:x<z
    .rw[if_pos e3];decide
    .rw[if_neg e3]at h2|-;by_cases e4:z<x
     .rw[if_pos e4]at h2;exact absurd h2 (by decide)
     .rw[if_neg e4]at h2|-;exact Zpw a b c h1 h2
theorem Zb8t(a b c:List Int)(h1:leR a b=true)(h2:leR b c=true):leR a c=true:=by
 unfold leR at *
 simp only[decide_eq_true_eq]at *
 exact Zpw a b c h1 h2
theorem Zb8u(a b:List Int):(leR a b || leR b a)=true:=by
 unfold leR;have:=Ze7 a b;simp only[Bool.or_eq_true,decide_eq_true_eq];omega
theorem leR_anti(a b:List Int)(h1:leR a b=true)(h2:leR b a=true):a=b:=by
 unfold leR at *
 simp only[decide_eq_true_eq]at *
 have:=Ze7 a b;exact Zga a b (by omega)
theorem Zul(rows:List (List Int)):(srtR rows).Perm rows:=List.mergeSort_perm _ _
theorem Zbmv(rows:List (List Int)):(srtR rows).Pairwise λa b=>leR a b=true:=List.pairwise_mergeSort Zb8t Zb8u rows
theorem Zb8v{rows l:List (List Int)}(hp:l.Perm rows)(hs:l.Pairwise λa b=>leR a b=true):l=srtR rows :=
 List.Perm.eq_of_pairwise (λa b _ _=>leR_anti a b) hs (Zbmv rows) (hp.trans (Zul rows).symm)
theorem Z78:∀(l:List (List Int)) (y:List Int),y∈cptR l↔y∈l
 |[],y=>by simp[cptR]
 |[a],y=>by simp[cptR]
 |a::b::l,y=>by
  unfold cptR;have ih:=Z78 (b::l) y;split
  .rename_i e;subst e;rw[ih];simp
  .rw[List.mem_cons,ih];simp
theorem Zbmw:∀l:List (List Int),(cptR l).length<=l.length
 |[]=>Nat.le_refl _
 |[a]=>Nat.le_refl _
 |a::b::l=>by
  unfold cptR;have:=Zbmw (b::l);split
  .exact Nat.le_trans this (Nat.le_succ _)
  .exact Nat.succ_le_succ this
end Go.Proofs.YtdioodopdlpinaaGreat
namespace Go.Proofs.YtdioodopdlpinaaGreat
open Go.RowKit Go.Lib
theorem Zbmx(x:Int)(w:World):Calls Tryz.prog 296 #[.int .i64 x] w λe w'=>e=.returned (.bool false)/\w'=w:=by
 go_enter Tryz.func296,Tryz.ntmps296
 go_wp2
 go_ret
 exact⟨by simp,rfl⟩
def c3(x y:Int):Int:=if x<y then -1 else if y<x then 1 else 0
theorem cmp_walk(x y:Int)(w:World):Calls Tryz.prog 282 #[.int .i64 x,.int .i64 y] w λe w'=>e=.returned (.int .i64 (c3 x y))/\w'=w:=by
 have h1:=Zbmx x w;have h2:=Zbmx y w;by_cases e1:x<y
 .go_enter Tryz.func282,Tryz.ntmps282
  go_wp2_with (first|(refine h1.mono ?_;rintro e w' ⟨rfl,rfl⟩)|(refine h2.mono ?_;rintro e w' ⟨rfl,rfl⟩))
  go_ret
  exact⟨by simp[c3,e1],rfl⟩
 .by_cases e2:y<x
  .go_enter Tryz.func282,Tryz.ntmps282
   go_wp2_with (first|(refine h1.mono ?_;rintro e w' ⟨rfl,rfl⟩)|(refine h2.mono ?_;rintro e w' ⟨rfl,rfl⟩))
   go_ret
   exact⟨by simp[c3,e1,e2],rfl⟩
  .have hc:c3 x y=0:=by unfold c3;rw[if_neg e1,if_neg e2]
   rw[hc];clear hc
   go_enter Tryz.func282,Tryz.ntmps282
   go_wp2_with (first|(refine h1.mono ?_;rintro e w' ⟨rfl,rfl⟩)|(refine h2.mono ?_;rintro e w' ⟨rfl,rfl⟩))
   go_ret
   exact⟨rfl,rfl⟩
def Zin(w:World)(v:Value)(r:List Int):Prop:=∃a c,v=.slice a r.length c/\∀j (h:j<r.length),∃g off,a=some ⟨g,off,none⟩/\w.cell? ⟨g,off+j,none⟩=some (.int .i64 r[j])
theorem Zb8w{a b:List Int}{k:Nat}(h1:k<a.length)(h2:k<b.length):cmpR (a.drop k) (b.drop k)=if c3 a[k] b[k]=0 then cmpR (a.drop (k+1)) (b.drop (k+1))else c3 a[k] b[k]:=by
 rw[List.drop_eq_getElem_cons h1,List.drop_eq_getElem_cons h2]
 conv=>lhs;unfold cmpR
 unfold c3;by_cases e1:a[k]<b[k]
 .simp[e1]
 .rw[if_neg e1,if_neg e1];by_cases e2:b[k]<a[k]
  .simp[e2]
  .simp[e2]
theorem Zb8x(v1 v2:Value)(a b:List Int)(w:World)(h1:Zin w v1 a)(h2:Zin w v2 b)(c:a.length<2305843009213693952)(cc:b.length<2305843009213693952) :
  Calls Tryz.prog 259 #[v1,v2] w λe w'=>e=.returned (.int .i64 (cmpR a b))/\w'=w:=by
 obtain⟨p1,c1,rfl,r1⟩:=h1;obtain⟨p2,c2,rfl,r2⟩:=h2;have mixed:Tryz.prog.follows Departure.mixedOrders=true:=by kernel_rfl
 have hc:=λx y=>cmp_walk x y w
 generalize hR:cmpR a b=R;have HR:Aside (cmpR (a.drop 0) (b.drop 0)=R):=hR;clear hR
 go_enter Tryz.func259,Tryz.ntmps259
 go_wp2
 go_loopg [5,6,7,8,11] a.length (λgg _ _ _ _ s11 wr=>∃kk:Nat,kk<=a.length/\a.length-kk<=gg/\s11=.int .i64 kk/\wr=w/\Aside (kk<=b.length)/\Aside (cmpR (a.drop kk) (b.drop kk)=R))
 case atStart=>exact⟨0,Nat.zero_le _,by omega,rfl,rfl,Nat.zero_le _,HR⟩
 case round =>
  obtain⟨kk,hkk,hg,rfl,rfl,A,B⟩:=hrel;by_cases hlt:kk<a.length
  .have hltz:(kk:Int)<(a.length:Int):=by omega
   obtain⟨g1,o1,rfl,d1⟩:=r1 kk hlt;by_cases hlb:kk<b.length
   .have hltb:¬(b.length:Int)<=(kk:Int):=by omega
    obtain⟨g2,o2,rfl,d2⟩:=r2 kk hlb;have hs:=Zb8w hlt hlb;have hcall:=hc a[kk] b[kk];have S:Aside (cmpR (a.drop kk) (b.drop kk)=if c3 a[kk] b[kk]=0 then cmpR (a.drop (kk+1)) (b.drop (kk+1))else c3 a[kk] b[kk]):=hs;clear hs hc r1 r2;generalize c3 a[kk] b[kk]=z at hcall S;generalize a[kk]=x at hcall d1;generalize b[kk]=y at hcall d2;by_cases hz:z=0
    .subst hz
     go_wp2_with (refine hcall.mono ?_;rintro e w' ⟨rfl,rfl⟩)
     go_roundg (a.length-(kk+1))
     case measure=>omega
     case rel =>
      refine⟨kk+1,by omega,by omega,by go_num,rfl,(show Aside _ from by show kk+1<=b.length;omega),(show Aside _ from ?_)⟩;have:=S.out;rw[B.out]at this;show cmpR (a.drop (kk+1)) (b.drop (kk+1))=R;simpa using this.symm
    .have hr:R=z:=by rw[<-B.out,S.out,if_neg hz]
     go_wp2_with (refine hcall.mono ?_;rintro e w' ⟨rfl,rfl⟩)
     go_ret
     exact⟨by subst hr;rfl,rfl⟩
   .have hltb:(b.length:Int)<=(kk:Int):=by omega
    have hr:R=1:=by
     rw[<-B.out,List.drop_eq_getElem_cons hlt,show b.drop kk=[]from List.drop_of_length_le (by omega)];rfl
    clear hc r2
    go_wp2
    go_ret
    exact⟨by subst hr;rfl,rfl⟩
  .have hltz:¬(kk:Int)<(a.length:Int):=by omega
   have he:kk=a.length:=by omega
   have hA:=A.out;by_cases hlb:(a.length:Int)<(b.length:Int)
   .have hr:R=-1:=by
     rw[<-B.out,he,List.drop_length,List.drop_eq_getElem_cons (l:=b) (i:=a.length) (by omega)];rfl
    clear hc r1 r2
    go_wp2
    go_ret
    exact⟨by subst hr;rfl,rfl⟩
   .have hr:R=0:=by
     rw[<-B.out,he,List.drop_length,show b.drop a.length=[]from List.drop_of_length_le (by omega)];rfl
    clear hc r1 r2
    go_wp2
    go_ret
    exact⟨by subst hr;rfl,rfl⟩
theorem Zb8y(v1 v2:Value)(a b:List Int)(w:World)(h1:Zin w v1 a)(h2:Zin w v2 b)(c:a.length<2305843009213693952)(cc:b.length<2305843009213693952) :
  Calls Tryz.prog 228 #[v1,v2] w λe w'=>e=.returned (.int .i64 (cmpR a b))/\w'=w:=by
 have hc:=Zb8x v1 v2 a b w h1 h2 c cc;generalize cmpR a b=R at hc|-;obtain⟨p1,c1,rfl,r1⟩:=h1;obtain⟨p2,c2,rfl,r2⟩:=h2;clear r1 r2
 go_enter Tryz.func228,Tryz.ntmps228
 go_wp2_with (refine hc.mono ?_;rintro e w' ⟨rfl,rfl⟩)
 go_ret
 exact⟨rfl,rfl⟩
end Go.Proofs.YtdioodopdlpinaaGreat
