/-
  Parts of the proofs for this seat: AD DB EV STL STM PS1 PS2 PS3.
-/
import Derived.Sort.LotA
import Derived.Test.YtgnfoghkbpkgjaaGreatP11
set_option linter.unusedSimpArgs false
set_option linter.unusedVariables false
set_option maxRecDepth 100000
set_option maxHeartbeats 4000000
namespace Go.Proofs.YtgnfoghkbpkgjaaGreat
open Go.AM
@[simp] theorem Zgr(c:Int):Zet c=some (I (Zbj c),[]):=by
 refine Zbwq ?_;cases h:inR c 0 7
 .simp[h,Z88 h]
 .rcases cls8 h with rfl|rfl|rfl|rfl|rfl|rfl|rfl|rfl<;>simp[inR,Zbj,Zo,shlI]
@[simp] theorem Zgs(c:Int):Zgi c=some (I (Zbj c),[]):=by
 refine Zbya ?_;have e:∀n i r,(if i<c then Znn c (if 1<w (n*4)then w (n*4)else 1) (w (i+1))=some r else some (I n,[])=some r)->Znn c n i=some r:=λn i r h=>Zbx9 h
 cases h:inR c 0 7
 .simp[h,Z88 h]
 .refine⟨_,Zdd _ _ _,?_⟩;rw[h,if_pos rfl];rcases cls8 h with rfl|rfl|rfl|rfl|rfl|rfl|rfl|rfl
  all_goals repeat (refine e _ _ _ ?_;first|(rw[if_neg (by decide)];rfl)|rw[if_pos (by decide)])
def inT(t:List Int):Prop:=∃a b c:Int,t=[a,b,c]/\(0<=a/\a<=7)/\(0<=b/\b<=7)/\(0<=c/\c<=7)
def tcl(o:Zk):List Int->Int
 |[a,b,c]=>Zob o (Zbj a) (Zbj b) (Zbj c)
 |_=>0
theorem Z44{c:Int}(h0:0<=c)(h7:c<=7):inR (Zbj c) 0 4096=true:=by
 have:c=0\/c=1\/c=2\/c=3\/c=4\/c=5\/c=6\/c=7:=by omega
 rcases this with rfl|rfl|rfl|rfl|rfl|rfl|rfl|rfl<;>decide
theorem Zlh(o:Zk)(hl:Le o.Steps){t:List Int}(h:inT t):Zfo o t=some (I (tcl o t),[]):=by
 obtain⟨a,b,c,rfl,_⟩:=h;refine Zbws ?_;simp[hl,tcl]
theorem Zwc(o:Zk)(hl:Le o.Steps)(hv:Zbs o=true){t:List Int}(h:inT t):Zk7 o t=some (I (tcl o t),[]):=by
 obtain⟨a,b,c,rfl,h1,h2,h3⟩:=h;refine Zbyc ?_;have c1:=Z44 h1.1 h1.2;have c2:=Z44 h2.1 h2.2;have c3:=Z44 h3.1 h3.2;simp[hl,tcl,Zdg,hv,c1,c2,c3]
theorem Zbh5{t:List Int}(h:inT t){k:Nat}{e:Int}(hk:t[k]?=some e)(h7:e+1<=7):inT (t.set k (e+1)):=by
 obtain⟨a,b,c,rfl,h1,h2,h3⟩:=h
 match k,hk with
 |0,hk=>simp at hk;subst hk;exact⟨a+1,b,c,rfl,by omega,h2,h3⟩
 |1,hk=>simp at hk;subst hk;exact⟨a,b+1,c,rfl,h1,by omega,h3⟩
 |2,hk=>simp at hk;subst hk;exact⟨a,b,c+1,rfl,h1,h2,by omega⟩
 |k+3,hk=>simp at hk
theorem Zbh6{t:List Int}(h:inT t){k:Nat}(hk:k<3):∃e,t[k]?=some e/\0<=e/\e<=7:=by
 obtain⟨a,b,c,rfl,h1,h2,h3⟩:=h
 match k,hk with
 |0,_=>exact⟨a,rfl,h1⟩
 |1,_=>exact⟨b,rfl,h2⟩
 |2,_=>exact⟨c,rfl,h3⟩
theorem Z45{t:List Int}(h:inT t):t.length=3:=by obtain⟨a,b,c,rfl,_⟩:=h;rfl
def decK(o:Zk)(t:List Int)(k:Nat):Prop:=∃e,t[k]?=some e/\e+1<=7/\tcl o (t.set k (e+1))<tcl o t
def decF(o:Zk)(t:List Int)(k:Nat):Prop:=∃j,k<=j/\j<3/\decK o t j
def decr(o:Zk):Prop:=∃t,inT t/\decF o t 0
def cheap(o:Zk):Prop:=∃t,inT t/\tcl o t<1
abbrev Zd6(X:Rs)(p:Prop):Prop:=∃(xs ys:List Int) (b:Bool),X=some (.tup [.own 0,.own 1,Bo b],[.arr Zb1 1 true (xs.map ic),.arr Zb1 1 true (ys.map ic)])/\(b=true↔p)
theorem Zd6.congr{X:Rs}{p q:Prop}(h:Zd6 X p)(e:p↔q):Zd6 X q:=by
 obtain⟨xs,ys,b,h1,h2⟩:=h;exact⟨xs,ys,b,h1,h2.trans e⟩
theorem l_fd0(o:Zk)(hl:Le o.Steps)(hv:Zbs o=true){t:List Int}(ht:inT t)(a b e:Int)(p:Prop)(hc:Zd6 (Zns o a b (w (e+1))) p):∀k:Nat,k<=3->
  Zd6 (Zhj o t a b e k) (decF o t k\/p):=by
 have h3:=Z45 ht;refine down _ ?_ ?_
 .obtain⟨xs,ys,f,h1,h2⟩:=hc;refine⟨xs,ys,f,Zbhc (by rw[if_neg (by omega)];exact h1),?_⟩;rw[h2];exact⟨.inr,λh=>h.elim (λ⟨j,a,b,_⟩=>by omega) id⟩
 .intro k hk ih;have h4:=Zbb (i:=k) (by omega);obtain⟨x,hx,x0,x7⟩:=Zbh6 ht hk;have wx:w (x+1)=x+1:=Zo (by omega) (by omega);simp only[Yba,Ybb]at ih;have step:decF o t k↔(decK o t k\/decF o t (k+1)):=by
   constructor
   .rintro⟨j,j1,j2,j3⟩;by_cases hj:j=k
    .subst hj;exact .inl j3
    .exact .inr ⟨j,by omega,j2,j3⟩
   .rintro(h|⟨j,j1,j2,j3⟩)
    .exact⟨k,Yc _,hk,h⟩
    .exact⟨j,by omega,j2,j3⟩
  have pre:∀r,(if x+1<=7 then(if tcl o (t.set k (x+1))<tcl o t then some (.tup [.own 0,.own 1,Bo true],[.arr Zb1 1 true (t.map ic),.arr Zb1 1 true ((t.set k (x+1)).map ic)])=some r
    else Zhj o t a b e ((k:Int)+1)=some r)else Zhj o t a b e ((k:Int)+1)=some r)->Zhj o t a b e k=some r:=by
   intro r hr;refine Zbhc ?_;rw[if_pos (by omega)];refine⟨by omega,by omega,x,by rw[Ye];exact hx,?_⟩;rw[wx,Ye,show w ((k:Int)+1)=(k:Int)+1 from h4];by_cases h7:x+1<=7
   .rw[if_pos h7]at hr|-;exact⟨_,Zwc o hl hv (Zbh5 ht hx h7),_,Zwc o hl hv ht,hr⟩
   .rw[if_neg h7]at hr|-;exact hr
  have dk:decK o t k↔(x+1<=7/\tcl o (t.set k (x+1))<tcl o t):=by
   constructor
   .rintro⟨y,y1,y2,y3⟩;rw[hx]at y1;cases y1;exact⟨y2,y3⟩
   .rintro⟨y2,y3⟩;exact⟨x,hx,y2,y3⟩
  by_cases h7:x+1<=7/\tcl o (t.set k (x+1))<tcl o t
  .refine⟨_,_,true,pre _ (by rw[if_pos h7.1,if_pos h7.2]),?_⟩;rw[step,dk];exact⟨λ_=>.inl (.inl h7),λ_=>rfl⟩
  .obtain⟨xs,ys,f,i1,i2⟩:=ih;refine⟨xs,ys,f,pre _ ?_,?_⟩
   .split
    .split
     .rename_i a1 a2;exact absurd ⟨a1,a2⟩ h7
     .exact i1
    .exact i1
   .rw[i2,step,dk];constructor
    .exact λh=>h.imp .inr id
    .exact λh=>h.imp (λh=>h.resolve_left h7) id
theorem Zod{P:Nat->Prop}{i:Nat}{p:Prop}(hi:i<8):((∃z,i<=z/\z<=7/\P z)\/p)↔(P i\/(∃z,i+1<=z/\z<=7/\P z)\/p):=by
 constructor
 .rintro(⟨z,z1,z2,z3⟩|h)
  .by_cases hz:z=i
   .subst hz;exact .inl z3
   .exact .inr (.inl ⟨z,by omega,z2,z3⟩)
  .exact .inr (.inr h)
 .rintro(h|⟨z,z1,z2,z3⟩|h)
  .exact .inl ⟨i,Yc _,by omega,h⟩
  .exact .inl ⟨z,by omega,z2,z3⟩
  .exact .inr h
theorem Zoe{P:Nat->Prop}{p:Prop}:((∃z,8<=z/\z<=7/\P z)\/p)↔p:=⟨λh=>h.elim (λ⟨z,a,b,_⟩=>by omega) id,.inr⟩
theorem l_fd1(o:Zk)(hl:Le o.Steps)(hv:Zbs o=true)(a b:Nat)(ha:a<=7)(hb:b<=7)(p:Prop)(hc:Zd6 (Znr o a ((b:Int)+1)) p):∀e:Nat,e<=8->
  Zd6 (Zns o a b e) ((∃z:Nat,e<=z/\z<=7/\decF o [(a:Int),(b:Int),(z:Int)] 0)\/p):=by
 have wb:w ((b:Int)+1)=(b:Int)+1:=Zo (by omega) (by omega);refine down _ ?_ ?_
 .refine Zd6.congr ?_ Zoe.symm;obtain⟨xs,ys,f,h1,h2⟩:=hc;exact⟨xs,ys,f,Zbhb (by rw[if_neg (by omega),wb];exact h1),h2⟩
 .intro e he ih;have we:w ((e:Int)+1)=(e:Int)+1:=Zo (by omega) (by omega);have hT:inT [(a:Int),(b:Int),(e:Int)]:=⟨a,b,e,rfl,by omega,by omega,by omega⟩;simp only[Yba,Ybb]at ih;obtain⟨xs,ys,f,h1,h2⟩:=l_fd0 o hl hv hT a b e _ (by rw[we];exact ih) 0 (by omega);exact⟨xs,ys,f,Zbhb (by rw[if_pos (by omega)];exact h1),h2.trans (Zod (P:=λz:Nat=>decF o [(a:Int),(b:Int),(z:Int)] 0) he).symm⟩
theorem l_fd2(o:Zk)(hl:Le o.Steps)(hv:Zbs o=true)(a:Nat)(ha:a<=7)(p:Prop)(hc:Zd6 (Znq o ((a:Int)+1)) p):∀b:Nat,b<=8->
  Zd6 (Znr o a b) ((∃y:Nat,b<=y/\y<=7/\∃z:Nat,0<=z/\z<=7/\decF o [(a:Int),(y:Int),(z:Int)] 0)\/p):=by
 have wa:w ((a:Int)+1)=(a:Int)+1:=Zo (by omega) (by omega);refine down _ ?_ ?_
 .refine Zd6.congr ?_ Zoe.symm;obtain⟨xs,ys,f,h1,h2⟩:=hc;exact⟨xs,ys,f,Zbha (by rw[if_neg (by omega),wa];exact h1),h2⟩
 .intro b hb ih;simp only[Yba,Ybb]at ih;obtain⟨xs,ys,f,h1,h2⟩:=l_fd1 o hl hv a b ha (by omega) _ ih 0 (by omega);exact⟨xs,ys,f,Zbha (by rw[if_pos (by omega)];exact h1),h2.trans (Zod (P:=λy:Nat=>∃z:Nat,0<=z/\z<=7/\decF o [(a:Int),(y:Int),(z:Int)] 0) hb).symm⟩
theorem l_fd3(o:Zk)(hl:Le o.Steps)(hv:Zbs o=true):∀a:Nat,a<=8->
  Zd6 (Znq o a) ((∃x:Nat,a<=x/\x<=7/\∃y:Nat,0<=y/\y<=7/\∃z:Nat,0<=z/\z<=7/\decF o [(x:Int),(y:Int),(z:Int)] 0)\/False):=by
 refine down _ ?_ ?_
 .refine Zd6.congr ?_ Zoe.symm;exact⟨[],[],false,Zbg9 (by rw[if_neg (by omega)]),by simp⟩
 .intro a ha ih;simp only[Yba,Ybb]at ih;obtain⟨xs,ys,f,h1,h2⟩:=l_fd2 o hl hv a (by omega) _ ih 0 (by omega);exact⟨xs,ys,f,Zbg9 (by rw[if_pos (by omega)];exact h1),h2.trans (Zod (P:=λx:Nat=>∃y:Nat,0<=y/\y<=7/\∃z:Nat,0<=z/\z<=7/\decF o [(x:Int),(y:Int),(z:Int)] 0) ha).symm⟩
theorem Zbh7(o:Zk)(P:List Int->Prop):(∃t,inT t/\P t)↔∃x:Nat,0<=x/\x<=7/\∃y:Nat,0<=y/\y<=7/\∃z:Nat,0<=z/\z<=7/\P [(x:Int),(y:Int),(z:Int)]:=by
 constructor
 .rintro⟨t,⟨a,b,c,rfl,h1,h2,h3⟩,h⟩;refine⟨a.toNat,by omega,by omega,b.toNat,by omega,by omega,c.toNat,by omega,by omega,?_⟩;rw[Ydh h1.1,Ydh h2.1,Ydh h3.1];exact h
 .rintro⟨x,_,x2,y,_,y2,z,_,z2,h⟩;exact⟨_,⟨x,y,z,rfl,by omega,by omega,by omega⟩,h⟩
theorem Zbz4(o:Zk)(hl:Le o.Steps)(hv:Zbs o=true):Zd6 (Zrc o) (decr o):=by
 obtain⟨xs,ys,f,h1,h2⟩:=l_fd3 o hl hv 0 (by omega);refine⟨xs,ys,f,Zbyd ⟨_,Zr5 o hl,?_⟩,?_⟩
 .rw[hv,if_pos rfl];exact h1
 .rw[h2,decr,Zbh7 o (λt=>decF o t 0)];simp
abbrev Zek(X:Rs)(p:Prop):Prop:=∃(xs:List Int),X=some (.own 0,[.arr Zb1 1 true (xs.map ic)])/\(xs≠[]↔p)
theorem Zek.congr{X:Rs}{p q:Prop}(h:Zek X p)(e:p↔q):Zek X q:=by
 obtain⟨xs,h1,h2⟩:=h;exact⟨xs,h1,h2.trans e⟩
theorem l_ch0(o:Zk)(hl:Le o.Steps)(hv:Zbs o=true)(a b:Nat)(ha:a<=7)(hb:b<=7)(p:Prop)(hc:Zek (Znu o a ((b:Int)+1)) p):∀e:Nat,e<=8->
  Zek (Zrf o a b e) ((∃z:Nat,e<=z/\z<=7/\tcl o [(a:Int),(b:Int),(z:Int)]<1)\/p):=by
 have wb:w ((b:Int)+1)=(b:Int)+1:=Zo (by omega) (by omega);refine down _ ?_ ?_
 .refine Zek.congr ?_ Zoe.symm;obtain⟨xs,h1,h2⟩:=hc;exact⟨xs,Z4x (by rw[if_neg (by omega),wb];exact h1),h2⟩
 .intro e he ih;have we:w ((e:Int)+1)=(e:Int)+1:=Zo (by omega) (by omega);have hT:inT [(a:Int),(b:Int),(e:Int)]:=⟨a,b,e,rfl,by omega,by omega,by omega⟩;simp only[Yba,Ybb]at ih;refine Zek.congr ?_ (Zod he).symm;by_cases h:tcl o [(a:Int),(b:Int),(e:Int)]<1
  .refine⟨[a,b,e],Z4x ?_,by simp[h]⟩;rw[if_pos (by omega)];exact⟨_,Zwc o hl hv hT,by rw[if_pos h]⟩
  .obtain⟨xs,h1,h2⟩:=ih;refine⟨xs,Z4x ?_,by rw[h2];simp[h]⟩;rw[if_pos (by omega)];exact⟨_,Zwc o hl hv hT,by rw[if_neg h,we];exact h1⟩
theorem l_ch1(o:Zk)(hl:Le o.Steps)(hv:Zbs o=true)(a:Nat)(ha:a<=7)(p:Prop)(hc:Zek (Znt o ((a:Int)+1)) p):∀b:Nat,b<=8->
  Zek (Znu o a b) ((∃y:Nat,b<=y/\y<=7/\∃z:Nat,0<=z/\z<=7/\tcl o [(a:Int),(y:Int),(z:Int)]<1)\/p):=by
 have wa:w ((a:Int)+1)=(a:Int)+1:=Zo (by omega) (by omega);refine down _ ?_ ?_
 .refine Zek.congr ?_ Zoe.symm;obtain⟨xs,h1,h2⟩:=hc;exact⟨xs,Zbhe (by rw[if_neg (by omega),wa];exact h1),h2⟩
 .intro b hb ih;simp only[Yba,Ybb]at ih;obtain⟨xs,h1,h2⟩:=l_ch0 o hl hv a b ha (by omega) _ ih 0 (by omega);exact⟨xs,Zbhe (by rw[if_pos (by omega)];exact h1),h2.trans (Zod (P:=λy:Nat=>∃z:Nat,0<=z/\z<=7/\tcl o [(a:Int),(y:Int),(z:Int)]<1) hb).symm⟩
theorem l_ch2(o:Zk)(hl:Le o.Steps)(hv:Zbs o=true):∀a:Nat,a<=8->
  Zek (Znt o a) ((∃x:Nat,a<=x/\x<=7/\∃y:Nat,0<=y/\y<=7/\∃z:Nat,0<=z/\z<=7/\tcl o [(x:Int),(y:Int),(z:Int)]<1)\/False):=by
 refine down _ ?_ ?_
 .refine Zek.congr ?_ Zoe.symm;exact⟨[],Zbhd (by rw[if_neg (by omega)]),by simp⟩
 .intro a ha ih;simp only[Yba,Ybb]at ih;obtain⟨xs,h1,h2⟩:=l_ch1 o hl hv a (by omega) _ ih 0 (by omega);exact⟨xs,Zbhd (by rw[if_pos (by omega)];exact h1),h2.trans (Zod (P:=λx:Nat=>∃y:Nat,0<=y/\y<=7/\∃z:Nat,0<=z/\z<=7/\tcl o [(x:Int),(y:Int),(z:Int)]<1) ha).symm⟩
theorem Zbz5(o:Zk)(hl:Le o.Steps)(hv:Zbs o=true):Zek (Zvo o) (cheap o):=by
 obtain⟨xs,h1,h2⟩:=l_ch2 o hl hv 0 (by omega);refine⟨xs,Zbye h1,?_⟩;rw[h2,cheap,Zbh7 o (λt=>tcl o t<1)];simp
def rowC(a b:Int)(c:Nat):List (List Int):=(List.range' c (8-c)).map λz:Nat=>[a,b,(z:Int)]
def rowB(a:Int)(b:Nat):List (List Int):=(List.range' b (8-b)).flatMap λy:Nat=>rowC a y 0
def rowA(a:Nat):List (List Int):=(List.range' a (8-a)).flatMap λx:Nat=>rowB x 0
theorem Z46{i:Nat}(h:i<8):List.range' i (8-i)=i::List.range' (i+1) (8-(i+1)):=by
 rw[show 8-i=(8-(i+1))+1 by omega,Yc7]
theorem rowC_len(a b:Int)(c:Nat):(rowC a b c).length=8-c:=by simp[rowC]
theorem rowB_len(a:Int):(rowB a 0).length=64:=rfl
theorem l_tr0(a b:Nat)(hb:b<=7)(r:AV×List Blk):∀c:Nat,c<=8->∀out:List (List Int),out.length<=1000000->Zki (out++rowC a b c) a ((b:Int)+1)=some r->Zmu out a b c=some r:=by
 have wb:w ((b:Int)+1)=(b:Int)+1:=Zo (by omega) (by omega);have key:∀c:Nat,c<=8->∀out:List (List Int),out.length<=1000000+c->Zki (out++rowC a b c) a ((b:Int)+1)=some r->Zmu out a b c=some r:=by
  refine down _ ?_ ?_
  .intro out ho h;refine Zbfv ?_;rw[if_neg (by omega),wb];simpa[rowC]using h
  .intro c hc ih out ho h;have wc:w ((c:Int)+1)=(c:Int)+1:=Zo (by omega) (by omega);refine Zbfv ?_;rw[if_pos (by omega),wc];refine⟨by omega,?_⟩
   have ih:=ih (out++[[(a:Int),(b:Int),(c:Int)]]) (by simp;omega) (by
    rw[rowC,Z46 hc]at h
    simpa[rowC]using h)
   simpa using ih
 exact λc hc out ho h=>key c hc out (by omega) h
theorem l_tr1(a:Nat)(ha:a<=7)(r:AV×List Blk):∀b:Nat,b<=8->∀out:List (List Int),out.length<=100000+8*b->Zmt (out++rowB a b) ((a:Int)+1)=some r->Zki out a b=some r:=by
 have wa:w ((a:Int)+1)=(a:Int)+1:=Zo (by omega) (by omega);refine down _ ?_ ?_
 .intro out ho h;refine Zbfu ?_;rw[if_neg (by omega),wa];simpa[rowB]using h
 .intro b hb ih out ho h;refine Zbfu ?_;rw[if_pos (by omega)];refine l_tr0 a b (by omega) r 0 (by omega) out (by omega) ?_
  have ih:=ih (out++rowC a b 0) (by rw[Yp,rowC_len];omega) (by
   rw[rowB,Z46 hb]at h
   simpa[rowB]using h)
  simpa using ih
theorem l_tr2:∀a:Nat,a<=8->∀out:List (List Int),out.length<=64*a->Zmt out a=some (.own 0,[.arr Zma 1 true ((out++rowA a).map isc)]):=by
 refine down _ ?_ ?_
 .intro out ho;refine Zbft ?_;rw[if_neg (by omega)];simp[rowA]
 .intro a ha ih out ho;refine Zbft ?_;rw[if_pos (by omega)];refine l_tr1 a (by omega) _ 0 (by omega) out (by omega) ?_;have ih:=ih (out++rowB a 0) (by rw[Yp,rowB_len];omega);rw[rowA,Z46 ha];simpa[rowA]using ih
def allT:List (List Int):=rowA 0
theorem Zof:Zdq=some (.own 0,[.arr Zma 1 true (allT.map isc)]):=Zbwp (l_tr2 0 (by omega) [] (by simp))
theorem Zfb(t:List Int):t∈allT↔inT t:=by
 simp only[allT,rowA,rowB,rowC,Yc6,Y3,List.mem_range'_1,inT];constructor
 .rintro⟨x,hx,y,hy,z,hz,rfl⟩;exact⟨x,y,z,rfl,by omega,by omega,by omega⟩
 .rintro⟨a,b,c,rfl,h1,h2,h3⟩;refine⟨a.toNat,by omega,b.toNat,by omega,c.toNat,by omega,?_⟩;rw[Ydh h1.1,Ydh h2.1,Ydh h3.1]
set_option maxRecDepth 100000 in
theorem Zog:allT.length=512:=rfl
@[simp] theorem Zoh(xs:List Int)(h:xs.length<=68719476736):Zdz xs=some (.own 0,[.arr Zb1 1 true (xs.map ic)]):=Zbvx ⟨h,rfl⟩
abbrev GoodI(X:Rs)(p:Prop):Prop:=(p/\∃xs ys:List Int,X=some (.tup [L 1 (xs.map ic),.own 0,Bo true],[.arr Zb1 1 true (ys.map ic)]))\/(¬p/\X=some (.tup [.t .nil,.t .nil,Bo false],[]))
theorem l_id0(o:Zk)(hl:Le o.Steps)(ts:List (List Int)){t:List Int}(ht:inT t)(n i:Int)(p:Prop)(hc:GoodI (Zil o ts n (w (i+1))) p):∀k:Nat,k<=3->
  GoodI (Zeu o ts t n i 3 k) (decF o t k\/p):=by
 have h3:=Z45 ht;refine down _ ?_ ?_
 .have e:(decF o t 3\/p)↔p:=⟨λh=>h.elim (λ⟨j,a,b,_⟩=>by omega) id,.inr⟩;rcases hc with⟨h,xs,ys,h1⟩|⟨h,h1⟩
  .exact .inl ⟨e.2 h,xs,ys,Z4q (by rw[if_neg (by omega)];exact h1)⟩
  .exact .inr ⟨λhc=>h (e.1 hc),Z4q (by rw[if_neg (by omega)];exact h1)⟩
 .intro k hk ih;have h4:=Zbb (i:=k) (by omega);obtain⟨x,hx,x0,x7⟩:=Zbh6 ht hk;have wx:w (x+1)=x+1:=Zo (by omega) (by omega);simp only[Yba,Ybb]at ih;have step:decF o t k↔(decK o t k\/decF o t (k+1)):=by
   constructor
   .rintro⟨j,j1,j2,j3⟩;by_cases hj:j=k
    .subst hj;exact .inl j3
    .exact .inr ⟨j,by omega,j2,j3⟩
   .rintro(h|⟨j,j1,j2,j3⟩)
    .exact⟨k,Yc _,hk,h⟩
    .exact⟨j,by omega,j2,j3⟩
  have dk:decK o t k↔(x+1<=7/\tcl o (t.set k (x+1))<tcl o t):=by
   constructor
   .rintro⟨y,y1,y2,y3⟩;rw[hx]at y1;cases y1;exact⟨y2,y3⟩
   .rintro⟨y2,y3⟩;exact⟨x,hx,y2,y3⟩
  have pre:∀r,(if x+1<=7 then(if tcl o (t.set k (x+1))<tcl o t then some (.tup [L 1 (t.map ic),.own 0,Bo true],[.arr Zb1 1 true ((t.set k (x+1)).map ic)])=some r
    else Zeu o ts t n i 3 ((k:Int)+1)=some r)else Zeu o ts t n i 3 ((k:Int)+1)=some r)->Zeu o ts t n i 3 k=some r:=by
   intro r hr;refine Z4q ?_;rw[if_pos (by omega)];refine⟨by omega,x,by rw[Ye];exact hx,?_⟩;rw[show w ((k:Int)+1)=(k:Int)+1 from h4];by_cases h7:x=7
   .rw[if_pos h7];rw[if_neg (by omega)]at hr;exact hr
   .rw[if_neg h7];have h8:x+1<=7:=by omega
    rw[if_pos h8]at hr;refine⟨t,Zoh t (by omega),x,by rw[Ye];exact hx,?_⟩;rw[wx,Ye];exact⟨_,Zlh o hl (Zbh5 ht hx h8),_,Zlh o hl ht,hr⟩
  by_cases h7:x+1<=7/\tcl o (t.set k (x+1))<tcl o t
  .exact .inl ⟨.inl (step.2 (.inl (dk.2 h7))),_,_,pre _ (by rw[if_pos h7.1,if_pos h7.2])⟩
  .have go:∀r,Zeu o ts t n i 3 ((k:Int)+1)=some r->Zeu o ts t n i 3 k=some r:=by
    intro r hr;refine pre r ?_;split
    .split
     .rename_i a1 a2;exact absurd ⟨a1,a2⟩ h7
     .exact hr
    .exact hr
   have e:(decF o t k\/p)↔(decF o t (k+1)\/p):=by
    rw[step,dk];exact⟨λh=>h.imp (λh=>h.resolve_left h7) id,λh=>h.imp .inr id⟩
   rcases ih with⟨h,xs,ys,h1⟩|⟨h,h1⟩
   .exact .inl ⟨e.2 h,xs,ys,go _ h1⟩
   .exact .inr ⟨λhc=>h (e.1 hc),go _ h1⟩
theorem l_id1(o:Zk)(hl:Le o.Steps)(ts:List (List Int))(hts:∀t∈ts,inT t)(hn:ts.length<=1000):∀i,i<=ts.length->GoodI (Zil o ts ts.length i) (∃t∈ts.drop i,decF o t 0):=by
 refine down _ ?_ ?_
 .refine .inr ⟨by simp,Zbfx (by rw[if_neg (by omega)])⟩
 .intro i hi ih;have h4:=Zbb (i:=i) (by omega);have ht:=hts _ (Yd hi);simp only[Yba,Ybb]at ih;have b:=l_id0 o hl ts ht ts.length i _ (by rw[show w ((i:Int)+1)=(i:Int)+1 from h4];exact ih) 0 (by omega);have go:∀r,Zeu o ts ts[i] ts.length i 3 0=some r->Zil o ts ts.length i=some r:=by
   intro r hr;refine Zbfx ?_;rw[if_pos (by omega)];refine⟨by omega,ts[i],by rw[Ye];exact Yg hi,?_⟩;rw[Z45 ht];exact hr
  have e:(∃t∈ts.drop i,decF o t 0)↔(decF o ts[i] 0\/∃t∈ts.drop (i+1),decF o t 0):=by
   rw[Yh hi];simp only[Yt,exists_eq_or_imp]
  rcases b with⟨h,xs,ys,h1⟩|⟨h,h1⟩
  .exact .inl ⟨e.2 h,xs,ys,go _ h1⟩
  .exact .inr ⟨λhc=>h (e.1 hc),go _ h1⟩
theorem Zr6(o:Zk)(hl:Le o.Steps)(hv:Zbs o=true):GoodI (Zb8 o) (decr o):=by
 have b:=l_id1 o hl allT (λt h=>(Zfb t).1 h) (by rw[Zog];omega) 0 (Yb _);have go:∀r,Zil o allT allT.length 0=some r->Zb8 o=some r:=by
  intro r hr;refine Zbwt ⟨_,Zdf o hl,?_⟩;rw[hv,if_pos rfl];exact⟨allT,Zof,hr⟩
 have e:(∃t∈allT.drop 0,decF o t 0)↔decr o:=by
  simp only[Yj,Zfb,decr]
 rcases b with⟨h,xs,ys,h1⟩|⟨h,h1⟩
 .exact .inl ⟨e.1 h,xs,ys,go _ h1⟩
 .exact .inr ⟨λhc=>h (e.2 hc),go _ h1⟩
def Zds(o:Zk):Prop:=Zbs o=true/\¬decr o/\¬cheap o
def mOp(m:Zi)(k:Int):Zk:=if k=1 then m.Scan else if k=2 then m.Sort_ else if k=3 then m.Hash else if k=4 then m.Merge else m.Nested
abbrev LeM(m:Zi):Prop:=Le m.Scan.Steps/\Le m.Sort_.Steps/\Le m.Hash.Steps/\Le m.Merge.Steps/\Le m.Nested.Steps
theorem LeM.op{m:Zi}(h:LeM m)(k:Int):Le (mOp m k).Steps:=by
 unfold mOp;obtain⟨h1,h2,h3,h4,h5⟩:=h
 repeat' split
 all_goals assumption
@[simp] theorem Zwd(m:Zi)(k:Int):Zhi m k=some (.agg ((mOp m k).c.map .t),[]):=by
 refine Zbx6 ?_;unfold mOp;by_cases h1:k=1
 .simp[h1]
 by_cases h2:k=2
 .simp[h2]
 by_cases h3:k=3
 .simp[h3]
 by_cases h4:k=4
 .simp[h4]
 .simp[h1,h2,h3,h4]
def Zcl(m:Zi):Prop:=Zds m.Scan/\Zds m.Sort_/\Zds m.Hash/\Zds m.Merge/\Zds m.Nested
theorem Zbz6(m:Zi)(hm:LeM m):∀k:Nat,k<=6->1<=k->
  ∃(xs ys:List Int) (n:Int),Znv m k=some (.tup [I n,.own 0,.own 1],[.arr Zb1 1 true (xs.map ic),.arr Zb1 1 true (ys.map ic)])/\(n=0↔∀j:Nat,k<=j->j<=5->Zds (mOp m j)):=by
 refine down _ ?_ ?_
 .intro _;exact⟨[],[],0,Zbhf (by rw[if_neg (by omega)]),⟨λ_ j h1 h2=>by omega,λ_=>rfl⟩⟩
 .intro k hk ih h1;have wk':w ((k:Int)+1)=(k:Int)+1:=Zo (by omega) (by omega);have hl:=hm.op k;have step:(∀j:Nat,k<=j->j<=5->Zds (mOp m j))↔(Zds (mOp m k)/\∀j:Nat,k+1<=j->j<=5->Zds (mOp m j)):=by
   constructor
   .exact λh=>⟨h k (Yc _) (by omega),λj a b=>h j (by omega) b⟩
   .rintro⟨a,b⟩ j c d;by_cases hj:j=k
    .subst hj;exact a
    .exact b j (by omega) d
  have kne:(k:Int)≠0:=by omega
  have pre:∀r,(∃v,Ziz (mOp m k)=some (Bo v,[])/\_)->Znv m k=some r:=λr h=>Zbhf (by rw[if_pos (by omega)];exact⟨mOp m k,Zwd m k,h⟩)
  rcases tf (Zbs (mOp m k))with hv|hv
  .refine⟨[],[],k,pre _ ⟨false,by rw[Zr5 _ hl,hv],by rw[if_neg (by simp)]⟩,?_⟩;rw[step];exact⟨λh=>absurd h kne,λh=>by have:=h.1.1;rw[hv]at this;cases this⟩
  .obtain⟨xs,ys,f,d1,d2⟩:=Zbz4 (mOp m k) hl hv
   cases f with
   |true =>
    refine⟨xs,ys,k,pre _ ⟨true,by rw[Zr5 _ hl,hv],?_⟩,?_⟩
    .rw[if_pos rfl];exact⟨xs,ys,true,d1,by rw[if_pos rfl]⟩
    .rw[step]
     exact⟨λh=>absurd h kne,λh=>absurd (d2.1 rfl) h.1.2.1⟩
   |false =>
    obtain⟨cs,c1,c2⟩:=Zbz5 (mOp m k) hl hv;by_cases hc:cs=[]
    .obtain⟨xs',ys',n,i1,i2⟩:=ih (by omega);simp only[Yba,Ybb]at i1;refine⟨xs',ys',n,pre _ ⟨true,by rw[Zr5 _ hl,hv],?_⟩,?_⟩
     .rw[if_pos rfl];refine⟨xs,ys,false,d1,?_⟩;rw[if_neg (by simp)];refine⟨cs,c1,?_⟩;rw[hc,if_neg (by simp),wk'];exact i1
     .rw[step,i2];refine⟨λh=>⟨⟨hv,λhd=>(by have:=d2.2 hd;cases this),λhch=>(c2.2 hch) hc⟩,h⟩,λh=>h.2⟩
    .refine⟨cs,[],k,pre _ ⟨true,by rw[Zr5 _ hl,hv],?_⟩,?_⟩
     .rw[if_pos rfl];refine⟨xs,ys,false,d1,?_⟩;rw[if_neg (by simp)];refine⟨cs,c1,?_⟩;have:0<cs.length:=Yd3.2 hc;rw[if_pos (by omega)]
     .rw[step];exact⟨λh=>absurd h kne,λh=>absurd (c2.1 hc) h.1.2.2⟩
theorem adm_iff(m:Zi):(∀j:Nat,1<=j->j<=5->Zds (mOp m j))↔Zcl m:=by
 constructor
 .intro h;exact⟨h 1 (by omega) (by omega),h 2 (by omega) (by omega),h 3 (by omega) (by omega),h 4 (by omega) (by omega),h 5 (by omega) (by omega)⟩
 .rintro⟨h1,h2,h3,h4,h5⟩ j a b;have:j=1\/j=2\/j=3\/j=4\/j=5:=by omega
  rcases this with rfl|rfl|rfl|rfl|rfl
  .exact h1
  .exact h2
  .exact h3
  .exact h4
  .exact h5
open Classical in
theorem Z47(m:Zi)(hm:LeM m):Zi0 m=some (Bo (decide (Zcl m)),[]):=by
 obtain⟨xs,ys,n,h1,h2⟩:=Zbz6 m hm 1 (by omega) (by omega);refine Zbyg ⟨xs,ys,n,Zbyf h1,?_⟩;rw[adm_iff]at h2;by_cases h:Zcl m
 .rw[decide_eq_true h,decide_eq_true (h2.2 h)]
 .rw[decide_eq_false h,decide_eq_false (λhc=>h (h2.1 hc))]
abbrev Zbl(X:Rs)(p:Prop):Prop:=(p/\X=some (.tup [I 0,.t .nil,.t .nil],[]))\/(¬p/\∃n:Int,n≠0/\((∃xs ys:List Int,X=some (.tup [I n,L 1 (xs.map ic),.own 0],[.arr Zb1 1 true (ys.map ic)]))\/X=some (.tup [I n,.t .nil,.t .nil],[])\/∃xs:List Int,X=some (.tup [I n,L 1 (xs.map ic),.t .nil],[])))
theorem Zbl.of{X Y:Rs}{p:Prop}(h:Zbl X p)(e:∀r,X=some r->Y=some r):Zbl Y p:=by
 rcases h with⟨h,h1⟩|⟨h,n,hn,⟨xs,ys,h1⟩|h1|⟨xs,h1⟩⟩
 .exact .inl ⟨h,e _ h1⟩
 .exact .inr ⟨h,n,hn,.inl ⟨xs,ys,e _ h1⟩⟩
 .exact .inr ⟨h,n,hn,.inr (.inl (e _ h1))⟩
 .exact .inr ⟨h,n,hn,.inr (.inr ⟨xs,e _ h1⟩)⟩
theorem Zbl.congr{X:Rs}{p q:Prop}(h:Zbl X p)(e:p↔q):Zbl X q:=by
 rw[<-e];exact h
theorem Zr7{ts:List (List Int)}{j:Nat}(hj:j<ts.length){P:List Int->Prop}{p:Prop}:((∀t∈ts.drop j,P t)/\p)↔(P ts[j]/\(∀t∈ts.drop (j+1),P t)/\p):=by
 rw[Yh hj];simp only[Yt,forall_eq_or_imp,and_assoc]
theorem l_rf0(m:Zi)(hl:Le m.Scan.Steps)(ts:List (List Int))(hts:∀t∈ts,inT t)(hn:ts.length<=1000)(kind:Int)(hk:kind≠0)(x1 x2:Int)(p:Prop)(hc:Zbl (Zbp m x1 (w (x2+1))) p):∀j,j<=ts.length->
  Zbl (Zio m ts kind x1 x2 ts.length j) ((∀t∈ts.drop j,¬tcl m.Scan t<1)/\p):=by
 refine down _ ?_ ?_
 .refine(hc.of λr hr=>Zbfy (by rw[if_neg (by omega)];exact hr)).congr (by simp)
 .intro j hj ih;have h4:=Zbb (i:=j) (by omega);have ht:=hts _ (Yd hj);simp only[Yba,Ybb]at ih;have pre:∀r,(if tcl m.Scan ts[j]<1 then some (.tup [I kind,L 1 (ts[j].map ic),.t .nil],[])=some r else Zio m ts kind x1 x2 ts.length ((j:Int)+1)=some r)->Zio m ts kind x1 x2 ts.length j=some r:=by
   intro r hr;refine Zbfy ?_;rw[if_pos (by omega)];refine⟨by omega,ts[j],by rw[Ye];exact Yg hj,_,Zlh _ hl ht,?_⟩;rw[show w ((j:Int)+1)=(j:Int)+1 from h4];exact hr
  refine Zbl.congr ?_ (Zr7 (P:=λt=>¬tcl m.Scan t<1) hj).symm;by_cases h:tcl m.Scan ts[j]<1
  .exact .inr ⟨λhc=>hc.1 h,kind,hk,.inr (.inr ⟨_,pre _ (by rw[if_pos h])⟩)⟩
  .exact(ih.of λr hr=>pre r (by rw[if_neg h];exact hr)).congr ⟨λhh=>⟨h,hh⟩,λhh=>hh.2⟩
theorem l_rf1(m:Zi)(hm:LeM m)(p:Prop)(hc:Zbl (Zbp m 5 1) p):Zbl (Zbp m 5 0) (Zds m.Scan/\p):=by
 have hl:Le m.Scan.Steps:=by obtain⟨h1,h2,h3,h4,h5⟩:=hm;assumption
 have w1:w (1+0)=1:=by decide
 have w2:w (0+1)=1:=by decide
 have pre:∀r,(∃v,Zcf m.Scan=some (Bo v,[])/\_)->Zbp m 5 0=some r:=λr h=>Zn6 (by rw[if_pos (by omega),if_pos rfl];exact h)
 rcases tf (Zbs m.Scan)with hv|hv
 .refine .inr ⟨λh=>(by have:=h.1.1;rw[hv]at this;cases this),1,by decide,.inr (.inl (pre _ ⟨false,by rw[Zdf _ hl,hv],?_⟩))⟩;rw[if_neg (by simp),w1]
 rcases Zr6 m.Scan hl hv with⟨hd,xs,ys,d1⟩|⟨hd,d1⟩
 .refine .inr ⟨λh=>h.1.2.1 hd,1,by decide,.inl ⟨xs,ys,pre _ ⟨true,by rw[Zdf _ hl,hv],?_⟩⟩⟩;rw[if_pos rfl,w1];exact .inr ⟨ys,xs,d1,rfl⟩
 .have b:=l_rf0 m hl allT (λt h=>(Zfb t).1 h) (by rw[Zog];omega) 1 (by decide) 5 0 p (by rw[w2];exact hc) 0 (Yb _);refine(b.of λr hr=>pre r ⟨true,by rw[Zdf _ hl,hv],?_⟩).congr ?_
  .rw[if_pos rfl,w1];exact .inl ⟨d1,allT,Zof,hr⟩
  .simp only[Yj,Zfb];constructor
   .rintro⟨h,hp⟩;exact⟨⟨hv,hd,λ⟨t,ht,hc⟩=>h t ht hc⟩,hp⟩
   .rintro⟨h,hp⟩;exact⟨λt ht hc=>h.2.2 ⟨t,ht,hc⟩,hp⟩
theorem l_rf0a(m:Zi)(hl:Le m.Sort_.Steps)(ts:List (List Int))(hts:∀t∈ts,inT t)(hn:ts.length<=1000)(kind:Int)(hk:kind≠0)(x1 x2:Int)(p:Prop)(hc:Zbl (Zbp m x1 (w (x2+1))) p):∀j,j<=ts.length->
  Zbl (Zip m ts kind x1 x2 ts.length j) ((∀t∈ts.drop j,¬tcl m.Sort_ t<1)/\p):=by
 refine down _ ?_ ?_
 .refine(hc.of λr hr=>Zbfz (by rw[if_neg (by omega)];exact hr)).congr (by simp)
 .intro j hj ih;have h4:=Zbb (i:=j) (by omega);have ht:=hts _ (Yd hj);simp only[Yba,Ybb]at ih;have pre:∀r,(if tcl m.Sort_ ts[j]<1 then some (.tup [I kind,L 1 (ts[j].map ic),.t .nil],[])=some r else Zip m ts kind x1 x2 ts.length ((j:Int)+1)=some r)->Zip m ts kind x1 x2 ts.length j=some r:=by
   intro r hr;refine Zbfz ?_;rw[if_pos (by omega)];refine⟨by omega,ts[j],by rw[Ye];exact Yg hj,_,Zlh _ hl ht,?_⟩;rw[show w ((j:Int)+1)=(j:Int)+1 from h4];exact hr
  refine Zbl.congr ?_ (Zr7 (P:=λt=>¬tcl m.Sort_ t<1) hj).symm;by_cases h:tcl m.Sort_ ts[j]<1
  .exact .inr ⟨λhc=>hc.1 h,kind,hk,.inr (.inr ⟨_,pre _ (by rw[if_pos h])⟩)⟩
  .exact(ih.of λr hr=>pre r (by rw[if_neg h];exact hr)).congr ⟨λhh=>⟨h,hh⟩,λhh=>hh.2⟩
theorem l_rf1a(m:Zi)(hm:LeM m)(p:Prop)(hc:Zbl (Zbp m 5 2) p):Zbl (Zbp m 5 1) (Zds m.Sort_/\p):=by
 have hl:Le m.Sort_.Steps:=by obtain⟨h1,h2,h3,h4,h5⟩:=hm;assumption
 have w1:w (1+1)=2:=by decide
 have w2:w (1+1)=2:=by decide
 have pre:∀r,(∃v,Zcf m.Sort_=some (Bo v,[])/\_)->Zbp m 5 1=some r:=λr h=>Zn6 (by rw[if_pos (by omega),if_neg (by omega),if_pos rfl];exact h)
 rcases tf (Zbs m.Sort_)with hv|hv
 .refine .inr ⟨λh=>(by have:=h.1.1;rw[hv]at this;cases this),2,by decide,.inr (.inl (pre _ ⟨false,by rw[Zdf _ hl,hv],?_⟩))⟩;rw[if_neg (by simp),w1]
 rcases Zr6 m.Sort_ hl hv with⟨hd,xs,ys,d1⟩|⟨hd,d1⟩
 .refine .inr ⟨λh=>h.1.2.1 hd,2,by decide,.inl ⟨xs,ys,pre _ ⟨true,by rw[Zdf _ hl,hv],?_⟩⟩⟩;rw[if_pos rfl,w1];exact .inr ⟨ys,xs,d1,rfl⟩
 .have b:=l_rf0a m hl allT (λt h=>(Zfb t).1 h) (by rw[Zog];omega) 2 (by decide) 5 1 p (by rw[w2];exact hc) 0 (Yb _);refine(b.of λr hr=>pre r ⟨true,by rw[Zdf _ hl,hv],?_⟩).congr ?_
  .rw[if_pos rfl,w1];exact .inl ⟨d1,allT,Zof,hr⟩
  .simp only[Yj,Zfb];constructor
   .rintro⟨h,hp⟩;exact⟨⟨hv,hd,λ⟨t,ht,hc⟩=>h t ht hc⟩,hp⟩
   .rintro⟨h,hp⟩;exact⟨λt ht hc=>h.2.2 ⟨t,ht,hc⟩,hp⟩
theorem l_rf0b(m:Zi)(hl:Le m.Hash.Steps)(ts:List (List Int))(hts:∀t∈ts,inT t)(hn:ts.length<=1000)(kind:Int)(hk:kind≠0)(x1 x2:Int)(p:Prop)(hc:Zbl (Zbp m x1 (w (x2+1))) p):∀j,j<=ts.length->
  Zbl (Ziq m ts kind x1 x2 ts.length j) ((∀t∈ts.drop j,¬tcl m.Hash t<1)/\p):=by
 refine down _ ?_ ?_
 .refine(hc.of λr hr=>Zbf0 (by rw[if_neg (by omega)];exact hr)).congr (by simp)
 .intro j hj ih;have h4:=Zbb (i:=j) (by omega);have ht:=hts _ (Yd hj);simp only[Yba,Ybb]at ih;have pre:∀r,(if tcl m.Hash ts[j]<1 then some (.tup [I kind,L 1 (ts[j].map ic),.t .nil],[])=some r else Ziq m ts kind x1 x2 ts.length ((j:Int)+1)=some r)->Ziq m ts kind x1 x2 ts.length j=some r:=by
   intro r hr;refine Zbf0 ?_;rw[if_pos (by omega)];refine⟨by omega,ts[j],by rw[Ye];exact Yg hj,_,Zlh _ hl ht,?_⟩;rw[show w ((j:Int)+1)=(j:Int)+1 from h4];exact hr
  refine Zbl.congr ?_ (Zr7 (P:=λt=>¬tcl m.Hash t<1) hj).symm;by_cases h:tcl m.Hash ts[j]<1
  .exact .inr ⟨λhc=>hc.1 h,kind,hk,.inr (.inr ⟨_,pre _ (by rw[if_pos h])⟩)⟩
  .exact(ih.of λr hr=>pre r (by rw[if_neg h];exact hr)).congr ⟨λhh=>⟨h,hh⟩,λhh=>hh.2⟩
theorem l_rf1b(m:Zi)(hm:LeM m)(p:Prop)(hc:Zbl (Zbp m 5 3) p):Zbl (Zbp m 5 2) (Zds m.Hash/\p):=by
 have hl:Le m.Hash.Steps:=by obtain⟨h1,h2,h3,h4,h5⟩:=hm;assumption
 have w1:w (1+2)=3:=by decide
 have w2:w (2+1)=3:=by decide
 have pre:∀r,(∃v,Zcf m.Hash=some (Bo v,[])/\_)->Zbp m 5 2=some r:=λr h=>Zn6 (by rw[if_pos (by omega),if_neg (by omega),if_neg (by omega),if_pos rfl];exact h)
 rcases tf (Zbs m.Hash)with hv|hv
 .refine .inr ⟨λh=>(by have:=h.1.1;rw[hv]at this;cases this),3,by decide,.inr (.inl (pre _ ⟨false,by rw[Zdf _ hl,hv],?_⟩))⟩;rw[if_neg (by simp),w1]
 rcases Zr6 m.Hash hl hv with⟨hd,xs,ys,d1⟩|⟨hd,d1⟩
 .refine .inr ⟨λh=>h.1.2.1 hd,3,by decide,.inl ⟨xs,ys,pre _ ⟨true,by rw[Zdf _ hl,hv],?_⟩⟩⟩;rw[if_pos rfl,w1];exact .inr ⟨ys,xs,d1,rfl⟩
 .have b:=l_rf0b m hl allT (λt h=>(Zfb t).1 h) (by rw[Zog];omega) 3 (by decide) 5 2 p (by rw[w2];exact hc) 0 (Yb _);refine(b.of λr hr=>pre r ⟨true,by rw[Zdf _ hl,hv],?_⟩).congr ?_
  .rw[if_pos rfl,w1];exact .inl ⟨d1,allT,Zof,hr⟩
  .simp only[Yj,Zfb];constructor
   .rintro⟨h,hp⟩;exact⟨⟨hv,hd,λ⟨t,ht,hc⟩=>h t ht hc⟩,hp⟩
   .rintro⟨h,hp⟩;exact⟨λt ht hc=>h.2.2 ⟨t,ht,hc⟩,hp⟩
theorem l_rf0c(m:Zi)(hl:Le m.Merge.Steps)(ts:List (List Int))(hts:∀t∈ts,inT t)(hn:ts.length<=1000)(kind:Int)(hk:kind≠0)(x1 x2:Int)(p:Prop)(hc:Zbl (Zbp m x1 (w (x2+1))) p):∀j,j<=ts.length->
  Zbl (Zir m ts kind x1 x2 ts.length j) ((∀t∈ts.drop j,¬tcl m.Merge t<1)/\p):=by
 refine down _ ?_ ?_
 .refine(hc.of λr hr=>Zbf1 (by rw[if_neg (by omega)];exact hr)).congr (by simp)
 .intro j hj ih;have h4:=Zbb (i:=j) (by omega);have ht:=hts _ (Yd hj);simp only[Yba,Ybb]at ih;have pre:∀r,(if tcl m.Merge ts[j]<1 then some (.tup [I kind,L 1 (ts[j].map ic),.t .nil],[])=some r else Zir m ts kind x1 x2 ts.length ((j:Int)+1)=some r)->Zir m ts kind x1 x2 ts.length j=some r:=by
   intro r hr;refine Zbf1 ?_;rw[if_pos (by omega)];refine⟨by omega,ts[j],by rw[Ye];exact Yg hj,_,Zlh _ hl ht,?_⟩;rw[show w ((j:Int)+1)=(j:Int)+1 from h4];exact hr
  refine Zbl.congr ?_ (Zr7 (P:=λt=>¬tcl m.Merge t<1) hj).symm;by_cases h:tcl m.Merge ts[j]<1
  .exact .inr ⟨λhc=>hc.1 h,kind,hk,.inr (.inr ⟨_,pre _ (by rw[if_pos h])⟩)⟩
  .exact(ih.of λr hr=>pre r (by rw[if_neg h];exact hr)).congr ⟨λhh=>⟨h,hh⟩,λhh=>hh.2⟩
theorem l_rf1c(m:Zi)(hm:LeM m)(p:Prop)(hc:Zbl (Zbp m 5 4) p):Zbl (Zbp m 5 3) (Zds m.Merge/\p):=by
 have hl:Le m.Merge.Steps:=by obtain⟨h1,h2,h3,h4,h5⟩:=hm;assumption
 have w1:w (1+3)=4:=by decide
 have w2:w (3+1)=4:=by decide
 have pre:∀r,(∃v,Zcf m.Merge=some (Bo v,[])/\_)->Zbp m 5 3=some r:=λr h=>Zn6 (by rw[if_pos (by omega),if_neg (by omega),if_neg (by omega),if_neg (by omega),if_pos rfl];exact h)
 rcases tf (Zbs m.Merge)with hv|hv
 .refine .inr ⟨λh=>(by have:=h.1.1;rw[hv]at this;cases this),4,by decide,.inr (.inl (pre _ ⟨false,by rw[Zdf _ hl,hv],?_⟩))⟩;rw[if_neg (by simp),w1]
 rcases Zr6 m.Merge hl hv with⟨hd,xs,ys,d1⟩|⟨hd,d1⟩
 .refine .inr ⟨λh=>h.1.2.1 hd,4,by decide,.inl ⟨xs,ys,pre _ ⟨true,by rw[Zdf _ hl,hv],?_⟩⟩⟩;rw[if_pos rfl,w1];exact .inr ⟨ys,xs,d1,rfl⟩
 .have b:=l_rf0c m hl allT (λt h=>(Zfb t).1 h) (by rw[Zog];omega) 4 (by decide) 5 3 p (by rw[w2];exact hc) 0 (Yb _);refine(b.of λr hr=>pre r ⟨true,by rw[Zdf _ hl,hv],?_⟩).congr ?_
  .rw[if_pos rfl,w1];exact .inl ⟨d1,allT,Zof,hr⟩
  .simp only[Yj,Zfb];constructor
   .rintro⟨h,hp⟩;exact⟨⟨hv,hd,λ⟨t,ht,hc⟩=>h t ht hc⟩,hp⟩
   .rintro⟨h,hp⟩;exact⟨λt ht hc=>h.2.2 ⟨t,ht,hc⟩,hp⟩
theorem l_rf0d(m:Zi)(hl:Le m.Nested.Steps)(ts:List (List Int))(hts:∀t∈ts,inT t)(hn:ts.length<=1000)(kind:Int)(hk:kind≠0)(x1 x2:Int)(p:Prop)(hc:Zbl (Zbp m x1 (w (x2+1))) p):∀j,j<=ts.length->
  Zbl (Zis m ts kind x1 x2 ts.length j) ((∀t∈ts.drop j,¬tcl m.Nested t<1)/\p):=by
 refine down _ ?_ ?_
 .refine(hc.of λr hr=>Zbf2 (by rw[if_neg (by omega)];exact hr)).congr (by simp)
 .intro j hj ih;have h4:=Zbb (i:=j) (by omega);have ht:=hts _ (Yd hj);simp only[Yba,Ybb]at ih;have pre:∀r,(if tcl m.Nested ts[j]<1 then some (.tup [I kind,L 1 (ts[j].map ic),.t .nil],[])=some r else Zis m ts kind x1 x2 ts.length ((j:Int)+1)=some r)->Zis m ts kind x1 x2 ts.length j=some r:=by
   intro r hr;refine Zbf2 ?_;rw[if_pos (by omega)];refine⟨by omega,ts[j],by rw[Ye];exact Yg hj,_,Zlh _ hl ht,?_⟩;rw[show w ((j:Int)+1)=(j:Int)+1 from h4];exact hr
  refine Zbl.congr ?_ (Zr7 (P:=λt=>¬tcl m.Nested t<1) hj).symm;by_cases h:tcl m.Nested ts[j]<1
  .exact .inr ⟨λhc=>hc.1 h,kind,hk,.inr (.inr ⟨_,pre _ (by rw[if_pos h])⟩)⟩
  .exact(ih.of λr hr=>pre r (by rw[if_neg h];exact hr)).congr ⟨λhh=>⟨h,hh⟩,λhh=>hh.2⟩
theorem l_rf1d(m:Zi)(hm:LeM m)(p:Prop)(hc:Zbl (Zbp m 5 5) p):Zbl (Zbp m 5 4) (Zds m.Nested/\p):=by
 have hl:Le m.Nested.Steps:=by obtain⟨h1,h2,h3,h4,h5⟩:=hm;assumption
 have w1:w (1+4)=5:=by decide
 have w2:w (4+1)=5:=by decide
 have pre:∀r,(∃v,Zcf m.Nested=some (Bo v,[])/\_)->Zbp m 5 4=some r:=λr h=>Zn6 (by rw[if_pos (by omega),if_neg (by omega),if_neg (by omega),if_neg (by omega),if_neg (by omega),if_pos rfl];exact h)
 rcases tf (Zbs m.Nested)with hv|hv
 .refine .inr ⟨λh=>(by have:=h.1.1;rw[hv]at this;cases this),5,by decide,.inr (.inl (pre _ ⟨false,by rw[Zdf _ hl,hv],?_⟩))⟩;rw[if_neg (by simp),w1]
 rcases Zr6 m.Nested hl hv with⟨hd,xs,ys,d1⟩|⟨hd,d1⟩
 .refine .inr ⟨λh=>h.1.2.1 hd,5,by decide,.inl ⟨xs,ys,pre _ ⟨true,by rw[Zdf _ hl,hv],?_⟩⟩⟩;rw[if_pos rfl,w1];exact .inr ⟨ys,xs,d1,rfl⟩
 .have b:=l_rf0d m hl allT (λt h=>(Zfb t).1 h) (by rw[Zog];omega) 5 (by decide) 5 4 p (by rw[w2];exact hc) 0 (Yb _);refine(b.of λr hr=>pre r ⟨true,by rw[Zdf _ hl,hv],?_⟩).congr ?_
  .rw[if_pos rfl,w1];exact .inl ⟨d1,allT,Zof,hr⟩
  .simp only[Yj,Zfb];constructor
   .rintro⟨h,hp⟩;exact⟨⟨hv,hd,λ⟨t,ht,hc⟩=>h t ht hc⟩,hp⟩
   .rintro⟨h,hp⟩;exact⟨λt ht hc=>h.2.2 ⟨t,ht,hc⟩,hp⟩
open Classical in
theorem Z48(m:Zi)(hm:LeM m):Zhg m=some (Bo (decide (Zcl m)),[]):=by
 have h5:Zbl (Zbp m 5 5) True:=.inl ⟨trivial,Zn6 (by rw[if_neg (by omega)])⟩;have h0:=l_rf1 m hm _ (l_rf1a m hm _ (l_rf1b m hm _ (l_rf1c m hm _ (l_rf1d m hm _ h5))));have hop:Zd2 m=some (.bsl 1 5,[.box (m.c.map .t),.box [.ptr 0 0,.ptr 0 6,.ptr 0 12,.ptr 0 18,.ptr 0 24]]):=Zbfr rfl;have hR:Zbl (Zmv m) (Zcl m):=(h0.of λr hr=>Zbwu ⟨hop,hr⟩).congr (by simp[Zcl]);refine Zbwv ?_;rcases hR with⟨h,h1⟩|⟨h,n,hn,⟨xs,ys,h1⟩|h1|⟨xs,h1⟩⟩
 .rw[decide_eq_true h];exact .inr (.inl ⟨0,h1,rfl⟩)
 .rw[decide_eq_false h];exact .inl ⟨ys,n,xs,h1,by rw[decide_eq_false hn]⟩
 .rw[decide_eq_false h];exact .inr (.inl ⟨n,h1,by rw[decide_eq_false hn]⟩)
 .rw[decide_eq_false h];exact .inr (.inr ⟨n,xs,h1,by rw[decide_eq_false hn]⟩)
theorem wS{i n:Nat}(h:i<n)(hn:n<=1099511627776):w ((i:Int)+1)=((i+1:Nat):Int):=by
 rw[show w ((i:Int)+1)=(i:Int)+1 from Zo (by omega) (by omega)];simp
theorem gE{α:Type}{xs:List α}{i:Nat}(h:i<xs.length):xs[(i:Int).toNat]?=some xs[i]:=by rw[Ye];exact Yg h
abbrev dig(v:Int):Bool:=inR v 0 9
def rwB(n:Int)(r:List Int):Bool:=r.all dig && decide ((r.length:Int)=n)
theorem Zbz7(r:List Int)(n:Int)(hl:Le r):∀i,i<=r.length->Zp0 r n r r.length i=some (Bo ((r.drop i).all dig && decide ((r.length:Int)=n)),[]):=by
 refine down _ ?_ ?_
 .refine Zbeu ?_;rw[if_neg (by omega)];simp
 .intro i hi ih;refine Zbeu ?_;rw[if_pos (by omega),Yh hi,Y8,wS hi hl];refine⟨by omega,_,gE hi,_,Zc2 _ _ _,?_⟩;rcases tf (inR r[i] 0 9)with e|e
  .rw[e];simp[dig,e]
  .rw[e,if_pos rfl,ih];simp[dig,e]
@[simp] theorem Zbh8(r:List Int)(n:Int)(hl:Le r):Zjy r n=some (Bo (rwB n r),[]):=Zbvq (by simpa[rwB]using Zbz7 r n hl 0 (Yb _))
theorem Zbz8(r:List Int)(n:Int)(hl:Le r):∀i,i<=r.length->Zqt r n i=some (Bo ((r.drop i).all dig && decide ((r.length:Int)=n)),[]):=by
 refine down _ ?_ ?_
 .refine Zbgb ?_;rw[if_neg (by omega)];simp
 .intro i hi ih;refine Zbgb ?_;rw[if_pos (by omega),Yh hi,Y8,wS hi hl];refine⟨by omega,_,gE hi,_,Zdd _ _ _,?_⟩;rcases tf (inR r[i] 0 9)with e|e
  .rw[e];simp[dig,e]
  .rw[e,if_pos rfl,ih];simp[dig,e]
@[simp] theorem Zbh9(r:List Int)(n:Int)(hl:Le r):Zm1 r n=some (Bo (rwB n r),[]):=Zbxe (by simpa[rwB]using Zbz8 r n hl 0 (Yb _))
theorem x_cmp(a b:Int):Zue a b=some (I (if a<b then -1 else if b<a then 1 else 0),[]):=by
 refine Zbvr ⟨_,Zbev rfl,_,Zbev rfl,?_⟩;rw[if_neg (by simp),if_neg (by simp)];by_cases h1:a<b
 .rw[if_pos h1,if_pos h1]
 .rw[if_neg h1,if_neg h1];by_cases h2:b<a
  .rw[if_pos h2,if_pos h2]
  .rw[if_neg h2,if_neg h2]
theorem Zbz9(a b:List Int)(ha:Le a)(hb:Le b):∀i,i<=a.length->i<=b.length->Zp1 a b a a.length i=some (I (cmpR (a.drop i) (b.drop i)),[]):=by
 refine down _ ?_ ?_
 .intro h;refine Zbew ?_;rw[if_neg (by omega),Ym];by_cases h2:(a.length:Int)<(b.length:Int)
  .rw[if_pos h2,Yh (l:=b) (i:=a.length) (by omega)];rfl
  .rw[if_neg h2,show a.length=b.length by omega,Ym];rfl
 .intro i hi ih h;refine Zbew ?_;rw[if_pos (by omega),Yh hi,wS hi ha];refine⟨by omega,_,gE hi,?_⟩;by_cases h2:(b.length:Int)<=(i:Int)
  .rw[if_pos h2,show b.drop i=[]from Ybw (by omega)];rfl
  .have hj:i<b.length:=by omega
   rw[if_neg h2,Yh hj];refine⟨_,gE hj,_,x_cmp _ _,?_⟩;unfold cmpR;by_cases e1:a[i]<b[i]
   .rw[if_pos e1,if_pos e1];rfl
   .rw[if_neg e1,if_neg e1];by_cases e2:b[i]<a[i]
    .rw[if_pos e2,if_pos e2];rfl
    .rw[if_neg e2,if_neg e2,if_pos rfl];exact ih (by omega)
@[simp] theorem Zb0a(a b:List Int)(ha:Le a)(hb:Le b):Zuf a b=some (I (cmpR a b),[]) :=
 Zbvt ⟨_,Zbvs (by simpa using Zbz9 a b ha hb 0 (Yb _) (Yb _)),rfl⟩
theorem Zbia(a b:List Int)(i:Nat)(ha:i<=a.length)(hb:i<=b.length)(h:i=a.length\/i=b.length):Zqv a b i false=some (I (cmpR (a.drop i) (b.drop i)),[]):=by
 refine Zbxf ?_;by_cases h1:(a.length:Int)<(b.length:Int)
 .rw[if_pos h1,show a.drop i=[]from Ybw (by omega),Yh (l:=b) (i:=i) (by omega)];rfl
 .rw[if_neg h1];by_cases h2:(b.length:Int)<(a.length:Int)
  .rw[if_pos h2,show b.drop i=[]from Ybw (by omega),Yh (l:=a) (i:=i) (by omega)];rfl
  .rw[if_neg h2,show a.drop i=[]from Ybw (by omega),show b.drop i=[]from Ybw (by omega)];rfl
theorem Zb0b(a b:List Int)(ha:Le a)(hb:Le b):∀i,i<=a.length->i<=b.length->Zqu a b i=some (I (cmpR (a.drop i) (b.drop i)),[]):=by
 refine down _ ?_ ?_
 .intro h;refine Zbgc ?_;rw[if_neg (by omega)];exact Zbia a b _ (Yc _) h (.inl rfl)
 .intro i hi ih h;refine Zbgc ?_;rw[if_pos (by omega)];by_cases h2:(i:Int)<(b.length:Int)
  .have hj:i<b.length:=by omega
   rw[if_pos h2];refine⟨by omega,_,gE hi,_,gE hj,?_⟩;rw[wS hi ha,Yh hi,Yh hj];unfold cmpR;by_cases e1:a[i]<b[i]
   .rw[if_pos e1,if_pos e1]
   .rw[if_neg e1,if_neg e1];by_cases e2:b[i]<a[i]
    .rw[if_pos e2,if_pos e2]
    .rw[if_neg e2,if_neg e2];exact ih (by omega)
  .rw[if_neg h2];exact Zbia a b _ (by omega) h (.inr (by omega))
@[simp] theorem Zbib(a b:List Int)(ha:Le a)(hb:Le b):Zm2 a b=some (I (cmpR a b),[]) :=
 Zbxg (by simpa using Zb0b a b ha hb 0 (Yb _) (Yb _))
def pvA{α:Type}(xs:List α):Nat->Option α
 |0=>none
 |k+1=>xs[k]?
def nxt{α:Type}(lt:α->α->Bool)(p:Option α)(x:α):Bool:=match p with
 |none=>true
 |some q=>lt q x
def adjL{α:Type}(lt:α->α->Bool):Option α->List α->Bool
 |_,[]=>true
 |p,x::xs=>nxt lt p x && adjL lt (some x) xs
theorem Zwe{α:Type}(lt:α->α->Bool){xs:List α}{i:Nat}(hi:i<xs.length):adjL lt (pvA xs i) (xs.drop i)=(nxt lt (pvA xs i) xs[i] && adjL lt (pvA xs (i+1)) (xs.drop (i+1))):=by
 rw[Yh hi,adjL,show pvA xs (i+1)=some xs[i]from Yg hi]
def ltR(a b:List Int):Bool:=decide (cmpR a b<0)
abbrev LeT(t:Zj):Prop:=Le t.Rows/\∀r∈t.Rows,Le r
theorem wP{i n:Nat}(h0:0<i)(h:i<n)(hn:n<=1099511627776):w ((i:Int)-1)=((i-1:Nat):Int):=by
 rw[show w ((i:Int)-1)=(i:Int)-1 from Zo (by omega) (by omega)];omega
theorem Zoi{α:Type}{xs:List α}{i:Nat}(h0:0<i)(h:i-1<xs.length):pvA xs i=some xs[i-1]:=by
 obtain⟨k,rfl⟩:∃k,i=k+1:=⟨i-1,by omega⟩;exact Yg h
theorem Zb0c(rows:List (List Int))(hl:Le rows)(hr:∀r∈rows,Le r):∀i,i<=rows.length->0<i->Zp3 rows i=some (Bo (adjL ltR (pvA rows i) (rows.drop i)),[]):=by
 refine down _ ?_ ?_
 .intro h0;refine Z4j ?_;rw[if_neg (by omega)];simp[adjL]
 .intro i hi ih h0;have hp:i-1<rows.length:=by omega
  have ih':=ih (by omega);refine Z4j ?_;rw[if_pos (by omega),wP h0 hi hl,wS hi hl,Zwe _ hi,Zoi h0 hp];refine⟨by omega,_,gE hp,by omega,_,gE hi,_,Zb0a _ _ (hr _ (Yd hp)) (hr _ (Yd hi)),?_⟩;unfold nxt ltR at *
  by_cases e:0<=cmpR rows[i-1] rows[i]
  .rw[if_pos e];simp[show ¬cmpR rows[i-1] rows[i]<0 by omega]
  .rw[if_neg e,ih'];simp[show cmpR rows[i-1] rows[i]<0 by omega]
theorem Zb0d(rows:List (List Int))(hl:Le rows)(hr:∀r∈rows,Le r):Zp2 rows=some (Bo (adjL ltR none rows),[]):=by
 refine Zbvu ?_
 cases rows with
 |nil=>refine Z4j ?_;rw[if_neg (by simp)];rfl
 |cons r rs=>exact Zb0c (r::rs) hl hr 1 (by simp) (by omega)
def Zdt(t:Zj):Bool:=nmOk t.Name && inR t.Arity 1 3 && decide ((t.Rows.length:Int)<=8) && (t.Rows.all (rwB t.Arity) && adjL ltR none t.Rows)
theorem Zb0e(t:Zj)(h:LeT t):∀i,i<=t.Rows.length->Zp4 t t.Rows t.Rows.length i=some (Bo ((t.Rows.drop i).all (rwB t.Arity) && (nmOk t.Name && inR t.Arity 1 3 && decide ((t.Rows.length:Int)<=8) && adjL ltR none t.Rows)),[]):=by
 refine down _ ?_ ?_
 .refine Zbex ?_;rw[if_neg (by omega)];refine⟨_,x_nameOk _,?_⟩;rcases tf (nmOk t.Name)with e1|e1
  .rw[e1];simp
  rw[e1,if_pos rfl];refine⟨_,Zc2 _ _ _,?_⟩;rcases tf (inR t.Arity 1 3)with e2|e2
  .rw[e2];simp
  rw[e2,if_pos rfl];by_cases e3:(t.Rows.length:Int)<=8
  .rw[if_pos e3];exact⟨_,Zb0d t.Rows h.1 h.2,by simp[e3]⟩
  .rw[if_neg e3];simp[e3]
 .intro i hi ih;refine Zbex ?_;rw[if_pos (by omega),Yh hi,Y8,wS hi h.1];refine⟨by omega,_,gE hi,_,Zbh8 _ _ (h.2 _ (Yd hi)),?_⟩;rcases tf (rwB t.Arity t.Rows[i])with e|e
  .rw[e];simp
  .rw[e,if_pos rfl,ih];simp
@[simp] theorem Zb0f(t:Zj)(h:LeT t):Zug t=some (Bo (Zdt t),[]):=by
 refine Zbvv ?_;rw[show(0:Int)=((0:Nat):Int)from rfl,Zb0e t h 0 (Yb _)];unfold Zdt;simp only[Yj];congr 3;rw[Yb8];simp only[Yf]
 grind
theorem Zb0g(t:Zj)(h:LeT t):∀i,i<=t.Rows.length->Zm3 t i=some (Bo ((t.Rows.drop i).all (rwB t.Arity) && adjL ltR (pvA t.Rows i) (t.Rows.drop i)),[]):=by
 refine down _ ?_ ?_
 .refine Zbgd ?_;rw[if_neg (by omega)];simp[adjL]
 .intro i hi ih;have hr:=h.2 _ (Yd hi);refine Zbgd ?_;rw[Zwe _ hi,if_pos (by omega),Yh hi,Y8,wS hi h.1];refine⟨by omega,_,gE hi,_,Zbh9 _ _ hr,?_⟩;rcases tf (rwB t.Arity t.Rows[i])with e|e
  .rw[e];simp
  rw[e,if_pos rfl];by_cases h0:0<i
  .have hp:i-1<t.Rows.length:=by omega
   rw[if_pos (by omega),wP h0 hi h.1,Zoi h0 hp];refine⟨by omega,_,gE hp,_,Zbib _ _ (h.2 _ (Yd hp)) hr,?_⟩;unfold nxt ltR at *
   by_cases e:0<=cmpR t.Rows[i-1] t.Rows[i]
   .rw[if_pos e];simp[show ¬cmpR t.Rows[i-1] t.Rows[i]<0 by omega]
   .rw[if_neg e,ih];simp[show cmpR t.Rows[i-1] t.Rows[i]<0 by omega]
  .have:i=0:=by omega
   subst this;rw[if_neg (by omega),ih];simp[pvA,nxt]
@[simp] theorem Zb0h(t:Zj)(h:LeT t):Zvc t=some (Bo (Zdt t),[]):=by
 refine Zbxh ⟨_,x_l4Name _,?_⟩;unfold Zdt;rcases tf (nmOk t.Name)with e1|e1
 .rw[e1];simp
 rw[e1,if_pos rfl];refine⟨_,Zdd _ _ _,?_⟩;rcases tf (inR t.Arity 1 3)with e2|e2
 .rw[e2];simp
 rw[e2,if_pos rfl];by_cases e3:8<(t.Rows.length:Int)
 .rw[if_pos e3];simp[show ¬(t.Rows.length:Int)<=8 by omega]
 .rw[if_neg e3];have:=Zb0g t h 0 (Yb _);refine Ya this ?_;simp[show(t.Rows.length:Int)<=8 by omega,pvA]
def ltN(a b:Zj):Bool:=Op.bytesLess a.Name.toList b.Name.toList
abbrev LeD(d:Zl):Prop:=Le d.Tables/\∀t∈d.Tables,LeT t
def Zfc(d:Zl):Bool:=d.Tables.all Zdt && adjL ltN none d.Tables && decide ((d.Tables.length:Int)<=6)
theorem Zb0i(d:Zl)(h:LeD d):∀i,i<=d.Tables.length->Zmh d d.Tables d.Tables.length i=some (Bo ((d.Tables.drop i).all Zdt && adjL ltN (pvA d.Tables i) (d.Tables.drop i) && decide ((d.Tables.length:Int)<=6)),[]):=by
 refine down _ ?_ ?_
 .refine Zbey ?_;rw[if_neg (by omega)];simp[adjL]
 .intro i hi ih;refine Zbey ?_;rw[Zwe _ hi,if_pos (by omega),Yh hi,Y8,wS hi h.1];refine⟨by omega,_,gE hi,_,Zb0f _ (h.2 _ (Yd hi)),?_⟩;rcases tf (Zdt d.Tables[i])with e|e
  .rw[e];simp
  rw[e,if_pos rfl];by_cases h0:0<i
  .have hp:i-1<d.Tables.length:=by omega
   rw[if_pos (by omega),wP h0 hi h.1,Zoi h0 hp];refine⟨by omega,_,gE hp,?_⟩;unfold nxt ltN at *
   rcases tf (Op.bytesLess d.Tables[i-1].Name.toList d.Tables[i].Name.toList)with e|e
   .rw[e];simp[e]
   .rw[e,if_pos rfl,ih];simp[e]
  .have:i=0:=by omega
   subst this;rw[if_neg (by omega),ih];simp[pvA,nxt]
@[simp] theorem Zb0j(d:Zl)(h:LeD d):Zuh d=some (Bo (Zfc d),[]):=by
 refine Zbvw ?_;have:=Zb0i d h 0 (Yb _);refine Ya this ?_;unfold Zfc;simp[pvA]
theorem Zb0k(d:Zl)(h:LeD d):∀i,i<=d.Tables.length->Zm4 d i=some (Bo ((d.Tables.drop i).all Zdt && adjL ltN (pvA d.Tables i) (d.Tables.drop i) && decide ((d.Tables.length:Int)<=6)),[]):=by
 refine down _ ?_ ?_
 .refine Zbge ?_;rw[if_neg (by omega)];simp[adjL]
 .intro i hi ih;refine Zbge ?_;rw[Zwe _ hi,if_pos (by omega),Yh hi,Y8,wS hi h.1];refine⟨by omega,_,gE hi,_,Zb0h _ (h.2 _ (Yd hi)),?_⟩;rcases tf (Zdt d.Tables[i])with e|e
  .rw[e];simp
  rw[e,if_pos rfl];by_cases h0:0<i
  .have hp:i-1<d.Tables.length:=by omega
   rw[if_pos (by omega),wP h0 hi h.1,Zoi h0 hp];refine⟨by omega,_,gE hp,?_⟩;unfold nxt ltN at *
   rcases tf (Op.bytesLess d.Tables[i-1].Name.toList d.Tables[i].Name.toList)with e|e
   .rw[e];simp[e]
   .rw[e,if_pos rfl,ih];simp[e]
  .have:i=0:=by omega
   subst this;rw[if_neg (by omega),ih];simp[pvA,nxt]
@[simp] theorem Zb0l(d:Zl)(h:LeD d):Zqw d=some (Bo (Zfc d),[]):=by
 refine Zbxi ?_;have:=Zb0k d h 0 (Yb _);refine Ya this ?_;unfold Zfc;simp[pvA]
def Zf0(d:Zl)(n:ByteArray):Option Zj:=if Zfc d=true then d.Tables.find? (λt=>decide (t.Name=n))else none
theorem Zb0m(xs:List (List Int))(hx:Le xs)(hr:∀r∈xs,r.length<=4)(hl:xs.length<=1000000):∀i,i<=xs.length->Zp5 (xs.take i) xs xs.length i=some (.own 0,[.arr 30 1 true (xs.map isc)]):=by
 refine down _ ?_ ?_
 .refine Zbez ?_;rw[if_neg (by omega),Ycu]
 .intro i hi ih;refine Zbez ?_;rw[if_pos (by omega),wS hi hx];have:=hr _ (Yd hi);refine⟨by omega,_,gE hi,_,Zoh _ (by omega),by rw[Ybv];omega,?_⟩;rw[Ybn hi]at ih;exact ih
theorem Z49(xs:List (List Int))(hr:∀r∈xs,r.length<=4)(hl:xs.length<=1000000):Zib xs=some (.own 0,[.arr 30 1 true (xs.map isc)]) :=
 Zbvy (by simpa using Zb0m xs (by omega) hr hl 0 (Yb _))
theorem Zbic{α:Type}(p:α->Bool):∀(xs:List α) (i:Nat),match xs.find? p with
  |none=>Zbe p xs i=-1
  |some x=>∃j,Zbe p xs i=((i+j:Nat):Int)/\xs[j]?=some x
 |[],i=>by simp[Zbe]
 |x::xs,i=>by
  unfold Zbe;rw[List.find?_cons];rcases tf (p x)with e|e
  .rw[e,if_neg (by simp)];have:=Zbic p xs (i+1);revert this;simp only
   cases xs.find? p with
   |none=>exact id
   |some y=>rintro⟨j,h1,h2⟩;exact⟨j+1,by rw[h1];congr 1;omega,by simpa using h2⟩
  .rw[e,if_pos rfl];exact⟨0,rfl,rfl⟩
theorem l_idxT(s:List Zj)(n:ByteArray)(hs:Le s):∀i,i<=s.length->Zpz s n s.length i=some (I (Zbe (λt=>decide (t.Name=n)) (s.drop i) i),[]):=by
 refine down _ ?_ ?_
 .refine Zbet ?_;rw[if_neg (by omega)];simp[Zbe]
 .intro i hi ih;refine Zbet ?_;rw[if_pos (by omega),Zh9 _ hi,wS hi hs];refine⟨by omega,_,gE hi,_,Zbvo rfl,?_⟩;split
  .rfl
  .exact ih
def lookR(o:Option Zj):AV×List Blk:=match o with
 |none=>(.tup [.agg [.t (.str ⟨#[]⟩),I 0,.t .nil],Bo false],[])
 |some t=>(.tup [.agg [.t (.str t.Name),I t.Arity,.own 0],Bo true],[.arr 30 1 true (t.Rows.map isc)])
theorem Zwf{d:Zl}(hv:Zfc d=true){t:Zj}(ht:t∈d.Tables):Zdt t=true:=by
 unfold Zfc at hv;simp only[Yf]at hv;exact Yq.1 hv.1.1 t ht
theorem Zbid{t:Zj}(h:Zdt t=true):t.Rows.length<=8:=by
 unfold Zdt at h;simp only[Yf,decide_eq_true_eq]at h;omega
theorem Zbie{t:Zj}(h:Zdt t=true):∀r∈t.Rows,r.length<=3:=by
 intro r hr;unfold Zdt at h;simp only[Yf]at h;have h1:=Yq.1 h.2.1 r hr;have h2:=h.1.1.2;unfold rwB at h1;simp only[inR,Yf,decide_eq_true_eq]at h1 h2;omega
theorem look_mem{d:Zl}{n:ByteArray}{t:Zj}(h:Zf0 d n=some t):Zfc d=true/\t∈d.Tables/\t.Name=n:=by
 unfold Zf0 at h;split at h
 .rename_i hv;exact⟨hv,List.mem_of_find?_eq_some h,by simpa using List.find?_some h⟩
 .cases h
theorem Zbif(d:Zl)(h:LeD d)(n:ByteArray):Zic d n=some (lookR (Zf0 d n)):=by
 have hi:=Zbvp (by simpa using l_idxT d.Tables n h.1 0 (Yb _));have hf:=Zbic (λt:Zj=>decide (t.Name=n)) d.Tables 0;refine Zbv0 ⟨_,hi,?_⟩;unfold Zf0
 cases hq:d.Tables.find? (λt=>decide (t.Name=n))with
 |none =>
  rw[hq]at hf;simp only at hf;rw[hf,if_pos (by omega)]
  split<;>rfl
 |some t =>
  rw[hq]at hf;obtain⟨j,h1,h2⟩:=hf;rw[Ys]at h1;rw[h1,if_neg (by omega)];refine⟨_,Zb0j d h,?_⟩;rcases tf (Zfc d)with e|e
  .rw[e];rfl
  .rw[e,if_pos rfl,if_pos rfl];have hm:=Yz h2;have hT:=h.2 t hm;have h8:=Zbid (Zwf e hm);refine⟨by omega,t,by rw[Ye];exact h2,_,_,_,Zbvz ⟨_,Z49 t.Rows (λr hr=>by have:=Zbie (Zwf e hm) r hr;omega) (by omega),rfl⟩,rfl⟩
theorem Zb0n(t:Zj)(h:LeT t)(h8:t.Rows.length<=8)(h3:∀r∈t.Rows,r.length<=3)(a a':ByteArray)(b b':Int):∀i,i<=t.Rows.length->Zqx t a b a' b' (t.Rows.take i) i=some (.agg [.t (.str a'),I b',.own 0],[.arr 30 1 true (t.Rows.map isc)]):=by
 refine down _ ?_ ?_
 .refine Zbgf ?_;rw[if_neg (by omega),Ycu]
 .intro i hi ih;refine Zbgf ?_;rw[if_pos (by omega),wS hi h.1];have:=h3 _ (Yd hi);rw[Ybn hi]at ih;exact⟨by omega,_,gE hi,by omega,by rw[Ybv];omega,ih⟩
theorem Zb0o(t:Zj)(h:LeT t)(h8:t.Rows.length<=8)(h3:∀r∈t.Rows,r.length<=3):Zm5 t=some (if t.Rows=[]then(.agg [.t (.str t.Name),I t.Arity,.t .nil],[])else(.agg [.t (.str t.Name),I t.Arity,.own 0],[.arr 30 1 true (t.Rows.map isc)])):=by
 refine Zbxk ?_;refine Zbxj ?_;by_cases e:t.Rows=[]
 .rw[if_neg (by rw[e];simp),if_pos e]
 .have h0:0<t.Rows.length:=Yd3.2 e;have:=h3 _ (Yd h0);rw[if_pos (by omega),if_neg e];refine⟨by omega,_,gE h0,by omega,?_⟩;have:=Zb0n t h h8 h3 ⟨#[]⟩ t.Name 0 t.Arity 1 (by omega);rw[Ybn h0]at this;rw[show w (0+1)=1 from by decide];simpa using this
def lookS(o:Option Zj):AV×List Blk:=match o with
 |none=>(.tup [.agg [.t (.str ⟨#[]⟩),I 0,.t .nil],Bo false],[])
 |some t=>if t.Rows=[]then(.tup [.agg [.t (.str t.Name),I t.Arity,.t .nil],Bo true],[])else(.tup [.agg [.t (.str t.Name),I t.Arity,.own 0],Bo true],[.arr 30 1 true (t.Rows.map isc)])
theorem Zb0p(d:Zl)(h:LeD d)(n:ByteArray):∀i,i<=d.Tables.length->Zqy d ⟨#[]⟩ 0 n i=some (lookS (if Zfc d=true then(d.Tables.drop i).find? (λt=>decide (t.Name=n))else none)):=by
 refine down _ ?_ ?_
 .refine Zbgg ?_;rw[if_neg (by omega),Ym];split<;>rfl
 .intro i hi ih;refine Zbgg ?_;rw[if_pos (by omega),wS hi h.1];refine⟨_,Zb0l d h,?_⟩;rcases tf (Zfc d)with e|e
  .rw[e];rfl
  rw[e,if_pos rfl]at ih|-;rw[if_pos rfl,Yh hi,List.find?_cons];have hm:=Yd hi;refine⟨by omega,_,gE hi,?_⟩;by_cases e2:d.Tables[i].Name=n
  .rw[if_pos e2];have hc:=Zb0o _ (h.2 _ hm) (Zbid (Zwf e hm)) (Zbie (Zwf e hm));simp only[e2,decide_true,lookS];by_cases e3:d.Tables[i].Rows=[]
   .rw[if_pos e3]at hc|-;exact .inl ⟨_,_,hc,by rw[e2]⟩
   .rw[if_neg e3]at hc|-;exact .inr ⟨_,_,_,hc,by rw[e2]⟩
  .rw[if_neg e2,ih];simp only[e2,decide_false]
theorem Zbig(d:Zl)(h:LeD d)(n:ByteArray):Ziu d n=some (lookS (Zf0 d n)) :=
 Zbxl (by simpa[Zf0]using Zb0p d h n 0 (Yb _))
def forOk(d:Zl)(a:Atom):Bool:=match Zf0 d a.Name with
 |none=>false
 |some t=>decide (t.Arity=(a.Vars.length:Int))
def qFor(d:Zl)(q:Ze):Bool:=Zw q.Zm q.Atoms && q.Atoms.all (forOk d)
theorem Zb0q(d:Zl)(h:LeD d)(q:Ze)(hq:LeQ q):∀i,i<=q.Atoms.length->Zp6 d q.Atoms q.Atoms.length i=some (Bo ((q.Atoms.drop i).all (forOk d)),[]):=by
 refine down _ ?_ ?_
 .refine Zbe0 ?_;rw[if_neg (by omega)];simp
 .intro i hi ih;refine Zbe0 ?_;rw[if_pos (by omega),Yh hi,Y8,wS hi hq.1];refine⟨by omega,_,gE hi,?_⟩;have hk:=Zbif d h q.Atoms[i].Name;unfold forOk at ih|-
  cases e:Zf0 d q.Atoms[i].Name with
  |none =>
   rw[e]at hk
   refine .inl ⟨_,_,hk,by simp⟩
  |some t =>
   rw[e]at hk;refine .inr ⟨_,_,_,hk,?_⟩;by_cases e2:t.Arity=(q.Atoms[i].Vars.length:Int)
   .rw[if_pos e2,ih];simp[e2]
   .rw[if_neg e2];simp[e2]
@[simp] theorem Z5a(d:Zl)(h:LeD d)(q:Ze)(hq:LeQ q):Zjz d q=some (Bo (qFor d q),[]):=by
 refine Zbv1 ⟨_,Z40 q hq,?_⟩;unfold qFor;rcases tf (Zw q.Zm q.Atoms)with e|e
 .rw[e];simp
 .rw[e,if_pos rfl];have:=Zb0q d h q hq 0 (Yb _);refine Ya this ?_;simp
theorem Zb0r(d:Zl)(h:LeD d)(q:Ze)(hq:LeQ q):∀i,i<=q.Atoms.length->Zm6 d q i=some (Bo ((q.Atoms.drop i).all (forOk d)),[]):=by
 refine down _ ?_ ?_
 .refine Zbgh ?_;rw[if_neg (by omega)];simp
 .intro i hi ih;refine Zbgh ?_;rw[if_pos (by omega),Yh hi,Y8,wS hi hq.1];refine⟨by omega,_,gE hi,?_⟩;have hk:=Zbig d h q.Atoms[i].Name;unfold forOk at ih|-
  cases e:Zf0 d q.Atoms[i].Name with
  |none =>
   rw[e]at hk
   refine .inl ⟨_,_,_,hk,by simp⟩
  |some t =>
   rw[e]at hk;simp only[lookS]at hk;by_cases e3:t.Rows=[]
   .rw[if_pos e3]at hk;refine .inl ⟨_,_,_,hk,?_⟩;rw[if_pos rfl];by_cases e2:t.Arity=(q.Atoms[i].Vars.length:Int)
    .rw[if_pos e2,ih];simp[e2]
    .rw[if_neg e2];simp[e2]
   .rw[if_neg e3]at hk;refine .inr ⟨_,_,_,hk,?_⟩;by_cases e2:t.Arity=(q.Atoms[i].Vars.length:Int)
    .rw[if_pos e2,ih];simp[e2]
    .rw[if_neg e2];simp[e2]
@[simp] theorem Z5b(d:Zl)(h:LeD d)(q:Ze)(hq:LeQ q):Zkt d q=some (Bo (qFor d q),[]):=by
 refine Zbxm ⟨_,Zv9 q hq,?_⟩;unfold qFor;rcases tf (Zw q.Zm q.Atoms)with e|e
 .rw[e];simp
 .rw[e,if_pos rfl];have:=Zb0r d h q hq 0 (Yb _);refine Ya this ?_;simp
def rowsA(d:Zl)(a:Atom):List (List Int):=match Zf0 d a.Name with
 |none=>[]
 |some t=>t.Rows
theorem Z5c{α β:Type}(f:α->List β)(k:Nat)(hf:∀x,(f x).length<=k):∀l:List α,(l.flatMap f).length<=k*l.length
 |[]=>by simp
 |x::l=>by rw[Ybr,Yp,Yr,Yc8];have:=hf x;have:=Z5c f k hf l;omega
end Go.Proofs.YtgnfoghkbpkgjaaGreat
namespace Go.Stb
open Go.Sort
variable{α:Type}[Inhabited α](k:α->Int)
def ltK(x y:α):Bool:=decide (k x<k y)
def Srt(a b:Nat)(d:Array α):Prop:=∀x y,a<=x->x<y->y<b->k d[x]!<=k d[y]!
structure Stp (a b:Nat) (d e:Array α):Prop where
 size:e.size=d.size
 out:∀x,(x<a\/b<=x)->e[x]! = d[x]!
 pres:∀P:α->Prop,(∀x,a<=x->x<b->P d[x]!)->∀x,a<=x->x<b->P e[x]!
 stab:∀v:Int,e.toList.filter (λx=>decide (k x=v))=d.toList.filter (λx=>decide (k x=v))
variable{k}
omit [Inhabited α] in
theorem swoK:SWO (ltK k) where
 irrefl x:=by simp[ltK]
 trans x y z h1 h2:=by simp only[ltK,decide_eq_true_eq]at *;omega
 ntrans x y z h1 h2:=by simp only[ltK,decide_eq_false_iff_not]at *;omega
theorem Stp.refl(a b:Nat)(d:Array α):Stp k a b d d:=⟨rfl,λ_ _=>rfl,λP h=>h,λ_=>rfl⟩
theorem Stp.trans{a b:Nat}{d e f:Array α}(h:Stp k a b d e)(g:Stp k a b e f):Stp k a b d f :=
 ⟨g.size.trans h.size,λx hx=>(g.out x hx).trans (h.out x hx),λP hp=>g.pres P (h.pres P hp),λv=>(g.stab v).trans (h.stab v)⟩
theorem Stp.mono{a b a' b':Nat}{d e:Array α}(h:Stp k a b d e)(ha:a'<=a)(hb:b<=b'):Stp k a' b' d e where
 size:=h.size
 out x hx:=h.out x (by omega)
 pres P hp x h1 h2:=by
  by_cases hx:a<=x/\x<b
  .exact h.pres P (λy y1 y2=>hp y (by omega) (by omega)) x hx.1 hx.2
  .rw[h.out x (by omega)];exact hp x h1 h2
 stab:=h.stab
theorem Srt.out{a b c d:Nat}{x y:Array α}(h:Srt k a b x)(g:Stp k c d x y)(hd:b<=c\/d<=a):Srt k a b y:=by
 intro i j h1 h2 h3;rw[g.out i (by omega),g.out j (by omega)];exact h i j h1 h2 h3
theorem Srt.sub{a b a' b':Nat}{x:Array α}(h:Srt k a b x)(ha:a<=a')(hb:b'<=b):Srt k a' b' x :=
 λi j h1 h2 h3=>h i j (by omega) h2 (by omega)
theorem Srt.le{a b:Nat}{x:Array α}(h:Srt k a b x){i j:Nat}(h1:a<=i)(h2:i<=j)(h3:j<b):k x[i]!<=k x[j]!:=by
 by_cases e:i=j
 .subst e;exact Int.le_refl _
 .exact h i j h1 (by omega) h3
theorem Zfd(d:Array α)(x:Nat)(h:x<d.size):d.toList[x]?=some d[x]!:=by
 rw[Array.getElem?_toList,Array.getElem?_eq_getElem h,getElem!_pos d x h]
theorem Z5d{l:List α}{e:Array α}(hl:l.length=e.size)(h:∀x,x<e.size->l[x]?=some e[x]!):e.toList=l:=by
 apply List.ext_getElem?;intro x;by_cases hx:x<e.size
 .rw[Zfd e x hx,h x hx]
 .rw[List.getElem?_eq_none (by simpa using hx),List.getElem?_eq_none (by omega)]
omit [Inhabited α] in
theorem Zbih(p x y s:List α)(v:Int)(h:∀a∈x,∀b∈y,k a≠k b):(p++y++x++s).filter (λa=>decide (k a=v))=(p++x++y++s).filter (λa=>decide (k a=v)):=by
 simp only[List.filter_append];by_cases hx:x.filter (λa=>decide (k a=v))=[]
 .rw[hx];simp
 .by_cases hy:y.filter (λa=>decide (k a=v))=[]
  .rw[hy];simp
  .obtain⟨a,ha⟩:=List.exists_mem_of_ne_nil _ hx;obtain⟨b,hb⟩:=List.exists_mem_of_ne_nil _ hy;simp only[List.mem_filter,decide_eq_true_eq]at ha hb;exact absurd (ha.2.trans hb.2.symm) (h a ha.1 b hb.1)
theorem swp_list(d:Array α)(i:Nat)(h:i+1<d.size):(swp d (i+1) i).toList=d.toList.take i++[d[i+1]!]++[d[i]!]++d.toList.drop (i+2):=by
 refine Z5d (by simp[swp_size];omega) λx hx=>?_
 rw[swp_size]at hx;rw[swp_get d h (show i<d.size by omega)];by_cases h1:x<i
 .rw[if_neg (by omega),if_neg (by omega),List.append_assoc,List.append_assoc,List.getElem?_append_left (by simp;omega),List.getElem?_take,if_pos h1,Zfd d x hx]
 .by_cases h2:x=i
  .subst h2;rw[if_pos rfl,List.append_assoc,List.append_assoc,List.getElem?_append_right (by simp;omega)];simp[show min x d.size=x by omega]
  .by_cases h3:x=i+1
   .subst h3;rw[if_neg (by omega),if_pos rfl,List.append_assoc,List.append_assoc,List.getElem?_append_right (by simp;omega)];simp[show min i d.size=i by omega,show i+1-i=1 by omega]
   .rw[if_neg h2,if_neg h3,List.getElem?_append_right (by simp;omega),List.getElem?_drop];rw[show i+2+(x-(d.toList.take i++[d[i+1]!]++[d[i]!]).length)=x by simp;omega];exact Zfd d x hx
theorem Z5e(d:Array α)(i:Nat)(h:i+1<d.size):d.toList=d.toList.take i++[d[i]!]++[d[i+1]!]++d.toList.drop (i+2):=by
 refine Z5d (by simp;omega) λx hx=>?_
 by_cases h1:x<i
 .rw[List.append_assoc,List.append_assoc,List.getElem?_append_left (by simp;omega),List.getElem?_take,if_pos h1,Zfd d x hx]
 .by_cases h2:x=i
  .subst h2;rw[List.append_assoc,List.append_assoc,List.getElem?_append_right (by simp;omega)];simp[show min x d.size=x by omega]
  .by_cases h3:x=i+1
   .subst h3;rw[List.append_assoc,List.append_assoc,List.getElem?_append_right (by simp;omega)];simp[show min i d.size=i by omega,show i+1-i=1 by omega]
   .rw[List.getElem?_append_right (by simp;omega),List.getElem?_drop];rw[show i+2+(x-(d.toList.take i++[d[i]!]++[d[i+1]!]).length)=x by simp;omega];exact Zfd d x hx
theorem Zwg(d:Array α)(i:Nat)(h:i+1<d.size)(hk:k d[i+1]!<k d[i]!):Stp k i (i+2) d (swp d (i+1) i):=by
 have g:=swp_get d h (show i<d.size by omega);refine⟨swp_size _ _ _,λx hx=>by rw[g,if_neg (by omega),if_neg (by omega)],λP hp x h1 h2=>?_,λv=>?_⟩
 .rw[g];split
  .exact hp _ (by omega) (by omega)
  .split
   .exact hp _ (by omega) (by omega)
   .exact hp _ h1 h2
 .rw[swp_list d i h,Z5e d i h];have hl:(d.toList.take i++[d[i]!]++[d[i+1]!]++d.toList.drop (i+2)).take i=d.toList.take i:=by rw[<-Z5e d i h]
  have hr:(d.toList.take i++[d[i]!]++[d[i+1]!]++d.toList.drop (i+2)).drop (i+2)=d.toList.drop (i+2):=by rw[<-Z5e d i h]
  rw[hl,hr];exact Zbih _ _ _ _ v (by simp;omega)
theorem swp_comm(d:Array α)(i j:Nat)(hi:i<d.size)(hj:j<d.size):swp d i j=swp d j i:=by
 refine Array.ext (by rw[swp_size,swp_size]) λx h1 h2=>?_
 have g1:=swp_get d hi hj x;have g2:=swp_get d hj hi x;rw[getElem!_pos _ x h1]at g1;rw[getElem!_pos _ x h2]at g2;rw[g1,g2];by_cases e1:x=j
 .by_cases e2:x=i
  .subst e1;subst e2;rfl
  .rw[if_pos e1,if_neg e2,if_pos e1]
 .by_cases e2:x=i
  .rw[if_neg e1,if_pos e2,if_pos e2]
  .rw[if_neg e1,if_neg e2,if_neg e2,if_neg e1]
theorem Z5f(a:Nat):∀(j:Nat) (d:Array α) (b:Nat),a<=j->j<b->b<=d.size->Stp k a b d (insInner (ltK k) a j d)
 |0,d,b,_,_,_=>by unfold insInner;exact .refl _ _ _
 |j+1,d,b,haj,hjb,hb=>by
  unfold insInner;split
  .rename_i hc;simp only[Bool.and_eq_true,decide_eq_true_eq,ltK]at hc;exact((Zwg d j (by omega) hc.2).mono (by omega) (by omega)).trans (Z5f a j _ b (by omega) (by omega) (by rw[swp_size];exact hb))
  .exact .refl _ _ _
theorem Zbii(a b:Nat):∀(n i:Nat) (d:Array α),b-i=n->a<i->b<=d.size->Stp k a b d (insOuter (ltK k) a b i d)
 |0,i,d,hn,_,_=>by rw[insOuter,if_neg (by omega)];exact .refl _ _ _
 |n+1,i,d,hn,hai,hb=>by
  rw[insOuter,if_pos (by omega)];have h1:=Z5f (k:=k) a i d b (by omega) (by omega) hb;exact h1.trans (Zbii a b n (i+1) _ (by omega) (by omega) (by rw[h1.size];exact hb))
theorem ins_stp(d:Array α)(a b:Nat)(hb:b<=d.size):Stp k a b d (insertionSort (ltK k) d a b):=Zbii a b _ _ d rfl (by omega) hb
theorem ins_srt(d:Array α)(a b:Nat)(hab:a<=b)(hb:b<=d.size):Srt k a b (insertionSort (ltK k) d a b):=by
 have h:=(insertionSort_holds (lt:=ltK k) swoK d a b hab hb).2;intro x y h1 h2 h3;have:=h x y h1 h2 h3;simp only[ltK,decide_eq_false_iff_not]at this;omega
def swr(a b:Nat):Nat->Array α->Array α
 |0,d=>d
 |n+1,d=>swp (swr a b n d) (a+n) (b+n)
theorem Zgt(a b:Nat):∀(n:Nat) (d:Array α),(swr a b n d).size=d.size
 |0,d=>rfl
 |n+1,d=>by rw[swr,swp_size,Zgt]
theorem Zbij(a b:Nat):∀(n:Nat) (d:Array α),a+n<=b->b+n<=d.size->∀x,(swr a b n d)[x]! = if a<=x/\x<a+n then d[b+(x-a)]! else if b<=x/\x<b+n then d[a+(x-b)]! else d[x]!
 |0,d,_,_,x=>by rw[if_neg (by omega),if_neg (by omega)];rfl
 |n+1,d,h1,h2,x=>by
  have ih:=Zbij a b n d (by omega) (by omega);rw[swr,swp_get _ (by rw[Zgt];omega) (by rw[Zgt];omega),ih,ih,ih];by_cases e1:x=b+n
  .subst e1;rw[if_pos rfl,if_neg (by omega),if_neg (by omega),if_neg (by omega),if_pos (by omega)];congr 1;omega
  .rw[if_neg e1];by_cases e2:x=a+n
   .subst e2;rw[if_pos rfl,if_neg (by omega),if_neg (by omega),if_pos (by omega)];congr 1;omega
   .rw[if_neg e2];by_cases e3:a<=x/\x<a+n
    .rw[if_pos e3,if_pos (by omega)]
    .rw[if_neg e3,if_neg (show ¬(a<=x/\x<a+(n+1)) by omega)];by_cases e4:b<=x/\x<b+n
     .rw[if_pos e4,if_pos (by omega)]
     .rw[if_neg e4,if_neg (by omega)]
theorem Z5g(d:Array α)(p x m y s:List α)(h:d.toList=p++(x++(m++(y++s))))(hxy:y.length=x.length){a b n:Nat}(ha:a=p.length)(hb:b=a+x.length+m.length)(hn:n=x.length) :
  (swr a b n d).toList=p++(y++(m++(x++s))):=by
 have hs:d.size=p.length+(x.length+(m.length+(y.length+s.length))):=by
  rw[<-Array.length_toList,h];simp
 have hd:∀i,i<d.size->(p++(x++(m++(y++s))))[i]?=some d[i]!:=λi hi=>by rw[<-h];exact Zfd d i hi
 refine Z5d (by rw[Zgt,hs];simp;omega) λi hi=>?_
 rw[Zgt]at hi;rw[Zbij a b n d (by omega) (by omega)];by_cases e0:i<p.length
 .have:=hd i hi;rw[List.getElem?_append_left e0]at this|-;rw[if_neg (by omega),if_neg (by omega)];exact this
 .rw[List.getElem?_append_right (by omega)];by_cases e1:i-p.length<y.length
  .have:=hd (b+(i-a)) (by omega);rw[List.getElem?_append_right (by omega),List.getElem?_append_right (by omega),List.getElem?_append_right (by omega),List.getElem?_append_left (by omega)]at this;rw[List.getElem?_append_left e1,if_pos (by omega),<-this];congr 1;omega
  .rw[List.getElem?_append_right (by omega)];by_cases e2:i-p.length-y.length<m.length
   .have:=hd i hi;rw[List.getElem?_append_right (by omega),List.getElem?_append_right (by omega),List.getElem?_append_left (by omega)]at this;rw[List.getElem?_append_left e2,if_neg (by omega),if_neg (by omega),<-this];congr 1;omega
   .rw[List.getElem?_append_right (by omega)];by_cases e3:i-p.length-y.length-m.length<x.length
    .have:=hd (a+(i-b)) (by omega);rw[List.getElem?_append_right (by omega),List.getElem?_append_left (by omega)]at this;rw[List.getElem?_append_left e3,if_neg (by omega),if_pos (by omega),<-this];congr 1;omega
    .have:=hd i hi;rw[List.getElem?_append_right (by omega),List.getElem?_append_right (by omega),List.getElem?_append_right (by omega),List.getElem?_append_right (by omega)]at this;rw[List.getElem?_append_right (by omega),if_neg (by omega),if_neg (by omega),<-this];congr 1;omega
structure Rot (a m b:Nat) (d:Array α) (i j:Nat) (e:Array α):Prop where
 size:e.size=d.size
 ex:∀P X Y S,d.toList=P++(X++(Y++S))->P.length=a->a+X.length=m->m+Y.length=b->
  ∃p x y s,e.toList=p++(x++(y++s))/\p.length=m-i/\x.length=i/\y.length=j/\p++(y++(x++s))=P++(Y++(X++S))
omit [Inhabited α] in
theorem Rot.start{a m b:Nat}(d:Array α)(h1:a<=m)(h2:m<=b):Rot a m b d (m-a) (b-m) d :=
 ⟨rfl,λP X Y S h p1 p2 p3=>⟨P,X,Y,S,h,by omega,by omega,by omega,rfl⟩⟩
theorem Rot.gt{a m b i j:Nat}{d e:Array α}(R:Rot a m b d i j e)(h:j<i)(hi:i<=m):Rot a m b d (i-j) j (swr (m-i) m j e):=by
 refine⟨(Zgt _ _ _ _).trans R.size,λP X Y S h0 p1 p2 p3=>?_⟩;obtain⟨p,x,y,s,he,q1,q2,q3,q4⟩:=R.ex P X Y S h0 p1 p2 p3;refine⟨p++y,x.drop j,x.take j,s,?_,by simp;omega,by simp;omega,by simp;omega,?_⟩
 .rw[Z5g e p (x.take j) (x.drop j) y s (by rw[he,<-List.append_assoc (x.take j),List.take_append_drop]) (by simp;omega) (by omega) (by simp;omega) (by simp;omega)];simp
 .rw[<-q4];simp only[List.append_assoc];rw[<-List.append_assoc (x.take j),List.take_append_drop]
theorem Rot.lt{a m b i j:Nat}{d e:Array α}(R:Rot a m b d i j e)(h:i<j)(hi:i<=m):Rot a m b d i (j-i) (swr (m-i) (m+j-i) i e):=by
 refine⟨(Zgt _ _ _ _).trans R.size,λP X Y S h0 p1 p2 p3=>?_⟩;obtain⟨p,x,y,s,he,q1,q2,q3,q4⟩:=R.ex P X Y S h0 p1 p2 p3;refine⟨p,y.drop (j-i),y.take (j-i),x++s,?_,by omega,by simp;omega,by simp;omega,?_⟩
 .rw[Z5g e p x (y.take (j-i)) (y.drop (j-i)) s (by rw[he,<-List.append_assoc (y.take (j-i)),List.take_append_drop]) (by simp;omega) (by omega) (by simp;omega) (by omega)]
 .rw[<-q4,<-List.append_assoc (y.take (j-i)),List.take_append_drop]
theorem Rot.eq{a m b i:Nat}{d e:Array α}(R:Rot a m b d i i e)(hi:i<=m):∀P X Y S,d.toList=P++(X++(Y++S))->P.length=a->a+X.length=m->m+Y.length=b->(swr (m-i) m i e).toList=P++(Y++(X++S)):=by
 intro P X Y S h0 p1 p2 p3;obtain⟨p,x,y,s,he,q1,q2,q3,q4⟩:=R.ex P X Y S h0 p1 p2 p3;rw[Z5g e p x [] y s he (by omega) (by omega) (by simp;omega) (by omega),<-q4];rfl
structure Rtd (a m b:Nat) (d e:Array α):Prop where
 size:e.size=d.size
 lo:∀x,a<=x->x<a+(b-m)->e[x]! = d[m+(x-a)]!
 hi:∀x,a+(b-m)<=x->x<b->e[x]! = d[a+(x-(a+(b-m)))]!
 out:∀x,(x<a\/b<=x)->e[x]! = d[x]!
 list:e.toList=d.toList.take a++((d.toList.drop m).take (b-m)++((d.toList.drop a).take (m-a)++d.toList.drop b))
omit [Inhabited α] in
theorem Z5h(d:Array α)(a m b:Nat)(h1:a<=m)(h2:m<=b)(h3:b<=d.size):d.toList=d.toList.take a++((d.toList.drop a).take (m-a)++((d.toList.drop m).take (b-m)++d.toList.drop b)):=by
 have e1:d.toList.drop b=(d.toList.drop m).drop (b-m):=by rw[List.drop_drop];congr 1;omega
 have e2:d.toList.drop m=(d.toList.drop a).drop (m-a):=by rw[List.drop_drop];congr 1;omega
 rw[e1,List.take_append_drop,e2,List.take_append_drop,List.take_append_drop]
theorem rtd_of{a m b:Nat}{d e:Array α}(h1:a<=m)(h2:m<=b)(h3:b<=d.size)(h:∀P X Y S,d.toList=P++(X++(Y++S))->P.length=a->a+X.length=m->m+Y.length=b->e.toList=P++(Y++(X++S))):Rtd a m b d e:=by
 have hl:=h _ _ _ _ (Z5h d a m b h1 h2 h3) (by simp;omega) (by simp;omega) (by simp;omega);have hs:e.size=d.size:=by rw[<-Array.length_toList,hl];simp;omega
 have hg:∀x,x<d.size->some e[x]! = (d.toList.take a++((d.toList.drop m).take (b-m)++((d.toList.drop a).take (m-a)++d.toList.drop b)))[x]?:=λx hx=>by rw[<-hl,Zfd e x (by omega)]
 refine⟨hs,λx p q=>?_,λx p q=>?_,λx p=>?_,hl⟩
 .have:=hg x (by omega);rw[List.getElem?_append_right (by simp;omega),List.getElem?_append_left (by simp;omega),List.getElem?_take,if_pos (by simp;omega),List.getElem?_drop,Zfd d _ (by simp;omega)]at this;rw[Option.some.inj this];congr 1;simp;omega
 .have:=hg x (by omega);rw[List.getElem?_append_right (by simp;omega),List.getElem?_append_right (by simp;omega),List.getElem?_append_left (by simp;omega),List.getElem?_take,if_pos (by simp;omega),List.getElem?_drop,Zfd d _ (by simp;omega)]at this;rw[Option.some.inj this];congr 1;simp;omega
 .by_cases hx:x<d.size
  .have:=hg x hx;rcases p with p|p
   .rw[List.getElem?_append_left (by simp;omega),List.getElem?_take,if_pos p,Zfd d _ hx]at this;exact Option.some.inj this
   .rw[List.getElem?_append_right (by simp;omega),List.getElem?_append_right (by simp;omega),List.getElem?_append_right (by simp;omega),List.getElem?_drop,Zfd d _ (by simp;omega)]at this;rw[Option.some.inj this];congr 1;simp;omega
  .rw[getElem!_neg e x (by omega),getElem!_neg d x hx]
theorem Rtd.stp{a m b:Nat}{d e:Array α}(R:Rtd a m b d e)(h1:a<=m)(h2:m<=b)(h3:b<=d.size)(hk:∀x y,a<=x->x<m->m<=y->y<b->k d[y]!<k d[x]!):Stp k a b d e:=by
 refine⟨R.size,R.out,λP hp x p q=>?_,λv=>?_⟩
 .by_cases hx:x<a+(b-m)
  .rw[R.lo x p hx];exact hp _ (by omega) (by omega)
  .rw[R.hi x (by omega) q];exact hp _ (by omega) (by omega)
 .have hc:=Z5h d a m b h1 h2 h3;have hl:=R.list;generalize hP:d.toList.take a=P at hc hl;generalize hX:(d.toList.drop a).take (m-a)=X at hc hl;generalize hY:(d.toList.drop m).take (b-m)=Y at hc hl;generalize d.toList.drop b=S at hc hl;rw[hl,hc]
  have:=Zbih (k:=k) P X Y S v (λx hx y hy=>by
   rw[<-hX]at hx;rw[<-hY]at hy;obtain⟨i,hi,ei⟩:=List.getElem_of_mem hx;obtain⟨j,hj,ej⟩:=List.getElem_of_mem hy;simp only[List.length_take,List.length_drop,Array.length_toList]at hi hj;rw[List.getElem_take,List.getElem_drop]at ei ej;have:=hk (a+i) (m+j) (by omega) (by omega) (by omega) (by omega);rw[getElem!_pos d _ (by omega),getElem!_pos d _ (by omega)]at this;rw[<-ei,<-ej,Array.getElem_toList,Array.getElem_toList]
   omega)
  simpa only[List.append_assoc]using this
end Go.Stb
namespace Go.Stb
open Go.Sort
variable{α:Type}[Inhabited α]{k:α->Int}
structure Shl (a q:Nat) (d e:Array α):Prop where
 size:e.size=d.size
 aq:a<=q
 le:∀x,a<=x->x<q->e[x]! = d[x+1]!
 at_:e[q]! = d[a]!
 out:∀x,(x<a\/q<x)->e[x]! = d[x]!
theorem Shl.start(a:Nat)(d:Array α):Shl a a d d:=⟨rfl,Nat.le_refl _,λx h1 h2=>by omega,rfl,λ_ _=>rfl⟩
theorem Shl.next{a q:Nat}{d e:Array α}(h:Shl a q d e)(hq:q+1<d.size):Shl a (q+1) d (swp e (q+1) q):=by
 have hs:=h.size;have haq:=h.aq;have g:=swp_get e (show q+1<e.size by omega) (show q<e.size by omega);refine⟨(swp_size _ _ _).trans hs,by omega,λx h1 h2=>?_,?_,λx hx=>?_⟩
 .rw[g];by_cases e1:x=q
  .subst e1;rw[if_pos rfl,h.out _ (by omega)]
  .rw[if_neg e1,if_neg (by omega)];exact h.le x h1 (by omega)
 .rw[g,if_neg (by omega),if_pos rfl,h.at_]
 .rw[g,if_neg (by omega),if_neg (by omega)];exact h.out x (by omega)
theorem Shl.stp{a q:Nat}{d e:Array α}(h:Shl a q d e)(hq:q+1<d.size)(hk:k d[q+1]!<k d[a]!):Stp k q (q+2) e (swp e (q+1) q) :=
 Zwg e q (by rw[h.size];exact hq) (by rw[h.at_,h.out _ (by omega)];exact hk)
theorem Shl.srt{a i b:Nat}{d e:Array α}(h:Shl a i d e)(hs:Srt k (a+1) b d)(h1:i=a\/k d[i]!<k d[a]!)(h2:i+1=b\/k d[a]!<=k d[i+1]!)(hib:i<b):Srt k a b e:=by
 have hi:=h.aq;intro x y hx hxy hy;by_cases e1:y<i
 .rw[h.le x hx (by omega),h.le y (by omega) e1];exact hs _ _ (by omega) (by omega) (by omega)
 .by_cases e2:y=i
  .subst e2;rw[h.le x hx hxy,h.at_];have:=hs.le (i:=x+1) (j:=y) (by omega) (by omega) (by omega);rcases h1 with h1|h1<;>omega
  .rw[h.out y (by omega)];by_cases e3:x=i
   .subst e3;rw[h.at_];have:=hs.le (i:=x+1) (j:=y) (by omega) (by omega) hy;rcases h2 with h2|h2<;>omega
   .by_cases e4:x<i
    .rw[h.le x hx e4];exact hs _ _ (by omega) (by omega) hy
    .rw[h.out x (by omega)];exact hs _ _ (by omega) hxy hy
structure Shr (q m:Nat) (d e:Array α):Prop where
 size:e.size=d.size
 qm:q<=m
 le:∀x,q<x->x<=m->e[x]! = d[x-1]!
 at_:e[q]! = d[m]!
 out:∀x,(x<q\/m<x)->e[x]! = d[x]!
theorem Shr.start(m:Nat)(d:Array α):Shr m m d d:=⟨rfl,Nat.le_refl _,λx h1 h2=>by omega,rfl,λ_ _=>rfl⟩
theorem Shr.next{q m:Nat}{d e:Array α}(h:Shr (q+1) m d e)(hm:m<d.size):Shr q m d (swp e (q+1) q):=by
 have hs:=h.size;have hqm:=h.qm;have g:=swp_get e (show q+1<e.size by omega) (show q<e.size by omega);refine⟨(swp_size _ _ _).trans hs,by omega,λx h1 h2=>?_,?_,λx hx=>?_⟩
 .rw[g,if_neg (by omega)];by_cases e1:x=q+1
  .subst e1;rw[if_pos rfl,h.out _ (by omega)];rfl
  .rw[if_neg e1];exact h.le x (by omega) h2
 .rw[g,if_pos rfl,h.at_]
 .rw[g,if_neg (by omega),if_neg (by omega)];exact h.out x (by omega)
theorem Shr.stp{q m:Nat}{d e:Array α}(h:Shr (q+1) m d e)(hm:m<d.size)(hk:k d[m]!<k d[q]!):Stp k q (q+2) e (swp e (q+1) q):=by
 have:=h.qm;exact Zwg e q (by rw[h.size];omega) (by rw[h.at_,h.out _ (by omega)];exact hk)
theorem Shr.srt{a i m:Nat}{d e:Array α}(h:Shr i m d e)(hs:Srt k a m d)(h1:i=a\/k d[i-1]!<=k d[m]!)(h2:i=m\/k d[m]!<k d[i]!)(hai:a<=i):Srt k a (m+1) e:=by
 have hi:=h.qm;intro x y hx hxy hy;by_cases e1:i<x
 .rw[h.le x e1 (by omega),h.le y (by omega) (by omega)];exact hs _ _ (by omega) (by omega) (by omega)
 .by_cases e2:x=i
  .subst e2;rw[h.at_,h.le y hxy (by omega)];have:=hs.le (i:=x) (j:=y-1) (by omega) (by omega) (by omega);rcases h2 with h2|h2<;>omega
  .rw[h.out x (by omega)];by_cases e3:y=i
   .subst e3;rw[h.at_];have:=hs.le (i:=x) (j:=y-1) (by omega) (by omega) (by omega);rcases h1 with h1|h1<;>omega
   .by_cases e4:i<y
    .rw[h.le y e4 (by omega)];exact hs.le (by omega) (by omega) (by omega)
    .rw[h.out y (by omega)];exact hs _ _ (by omega) hxy (by omega)
structure Cut (k:α->Int) (a m b mid s:Nat) (d:Array α):Prop where
 am:a<m
 mb:m<b
 sz:b<=d.size
 l1:a<mid
 l2:mid<b
 s1:a<=s
 s2:s<=m
 s3:s<=mid
 s4:mid+m<=s+b
 lo:Srt k a m d
 hi:Srt k m b d
 c1:(s=a\/mid+m=s+b)\/k d[s-1]!<=k d[mid+m-s]!
 c2:(s=mid\/s=m)\/k d[mid+m-s-1]!<k d[s]!
theorem rtd_triv{s m e:Nat}(d:Array α)(h1:s<=m)(h2:m<=e)(h3:e<=d.size)(h:s=m\/e=m):Rtd s m e d d:=by
 refine⟨rfl,λx p q=>?_,λx p q=>?_,λ_ _=>rfl,?_⟩
 .congr 1;omega
 .congr 1;omega
 .have hc:=Z5h d s m e h1 h2 h3;rcases h with h|h
  .rw[h,Nat.sub_self,List.take_zero]at hc|-;simpa using hc
  .rw[h,Nat.sub_self,List.take_zero]at hc|-;simpa using hc
structure Cutd (k:α->Int) (a b mid s t:Nat) (d e:Array α):Prop where
 stp:Stp k a b d e
 q1:Srt k a s e
 q2:Srt k s mid e
 q3:Srt k mid t e
 q4:Srt k t b e
 cross:∀x y,a<=x->x<mid->mid<=y->y<b->k e[x]!<=k e[y]!
theorem Cut.turn{a m b mid s:Nat}{d e:Array α}(C:Cut k a m b mid s d)(R:Rtd s m (mid+m-s) d e):Cutd k a b mid s (mid+m-s) d e:=by
 obtain⟨am,mb,sz,l1,l2,s1,s2,s3,s4,lo,hi,c1,c2⟩:=C;have hlo:∀x,s<=x->x<mid->e[x]! = d[m+(x-s)]!:=λx p q=>R.lo x p (by omega)
 have hhi:∀x,mid<=x->x<mid+m-s->e[x]! = d[s+(x-mid)]!:=λx p q=>by
  rw[R.hi x (by omega) q];congr 1;omega
 refine⟨?_,?_,?_,?_,?_,?_⟩
 .refine(R.stp s2 (by omega) (by omega) λx y p q r t=>?_).mono s1 (by omega);have h1:=lo.le (i:=s) (j:=x) s1 p q;have h2:=hi.le (i:=y) (j:=mid+m-s-1) r (by omega) (by omega);rcases c2 with c2|c2<;>omega
 .intro x y p q r;rw[R.out x (by omega),R.out y (by omega)];exact lo x y p q (by omega)
 .intro x y p q r;rw[hlo x p (by omega),hlo y (by omega) r];exact hi _ _ (by omega) (by omega) (by omega)
 .intro x y p q r;rw[hhi x p (by omega),hhi y (by omega) r];exact lo _ _ (by omega) (by omega) (by omega)
 .intro x y p q r;rw[R.out x (by omega),R.out y (by omega)];exact hi x y (by omega) q r
 .intro x y p q r t;by_cases hx:x<s
  .rw[R.out x (by omega)];by_cases hy:y<mid+m-s
   .rw[hhi y r hy];exact lo.le p (by omega) (by omega)
   .rw[R.out y (by omega)];have h1:=lo.le (i:=x) (j:=s-1) p (by omega) (by omega);have h2:=hi.le (i:=mid+m-s) (j:=y) (by omega) (by omega) t;rcases c1 with c1|c1<;>omega
  .rw[hlo x (by omega) q];by_cases hy:y<mid+m-s
   .rw[hhi y r hy];have h1:=hi.le (i:=m+(x-s)) (j:=mid+m-s-1) (by omega) (by omega) (by omega);have h2:=lo.le (i:=s) (j:=s+(y-mid)) s1 (by omega) (by omega);rcases c2 with c2|c2<;>omega
   .rw[R.out y (by omega)];exact hi.le (by omega) (by omega) t
theorem Cutd.join{a b mid s t:Nat}{d e f g:Array α}(C:Cutd k a b mid s t d e)(h1:a<=mid)(h2:mid<=b)(F:Stp k a mid e f)(F':Srt k a mid f)(G:Stp k mid b f g)(G':Srt k mid b g):Stp k a b d g/\Srt k a b g:=by
 refine⟨(C.stp.trans (F.mono (Nat.le_refl _) h2)).trans (G.mono h1 (Nat.le_refl _)),?_⟩;intro x y p q r;by_cases hy:y<mid
 .rw[G.out x (by omega),G.out y (by omega)];exact F' x y p q hy
 .by_cases hx:mid<=x
  .exact G' x y hx q r
  .have hf:∀x,a<=x->x<mid->∀z,mid<=z->z<b->k f[x]!<=k e[z]!:=by
    refine F.pres (λv=>∀z,mid<=z->z<b->k v<=k e[z]!) λx p q z r t=>C.cross x z p q r t
   have hg:∀y,mid<=y->y<b->k f[x]!<=k g[y]!:=by
    refine G.pres (λv=>k f[x]!<=k v) λy r t=>?_
    rw[F.out y (by omega)];exact hf x p (by omega) y r t
   rw[G.out x (by omega)];exact hg y (by omega) r
theorem Zbik{a s b:Nat}{e:Array α}(h1:Srt k a s e)(h2:Srt k s b e)(h:¬(a<s/\s<b))(h3:a<=s)(h4:s<=b):Srt k a b e:=by
 by_cases h5:a=s
 .subst h5;exact h2
 .have:s=b:=by omega
  subst this;exact h1
def Bks(k:α->Int)(bs n:Nat)(d:Array α):Prop:=∀c,Srt k (c*bs) (min ((c+1)*bs) n) d
def Mid(k:α->Int)(bs n a:Nat)(d:Array α):Prop:=∃t,a=t*(2*bs)/\(∀c,c<t->Srt k (c*(2*bs)) ((c+1)*(2*bs)) d)/\∀c,2*t<=c->Srt k (c*bs) (min ((c+1)*bs) n) d
theorem Mid.start{bs n:Nat}{d:Array α}(h:Bks k bs n d):Mid k bs n 0 d:=⟨0,by omega,λc hc=>by omega,λc _=>h c⟩
theorem Mid.two{bs n a:Nat}{d:Array α}(h:Mid k bs n a d):Srt k a (min (a+bs) n) d/\Srt k (a+bs) (min (a+2*bs) n) d:=by
 obtain⟨t,rfl,h1,h2⟩:=h;have g1:=h2 (2*t) (by omega);have g2:=h2 (2*t+1) (by omega);have e1:2*t*bs=t*(2*bs):=by rw[Nat.mul_comm 2 t,Nat.mul_assoc]
 have e2:(2*t+1)*bs=t*(2*bs)+bs:=by rw[Nat.add_mul,e1];omega
 have e3:(2*t+1+1)*bs=t*(2*bs)+2*bs:=by rw[Nat.add_mul,e2];omega
 rw[e1,e2]at g1;rw[e2,e3]at g2;exact⟨g1,g2⟩
theorem Mid.next{bs n a:Nat}{d e:Array α}(h:Mid k bs n a d)(S:Stp k a (a+2*bs) d e)(S':Srt k a (a+2*bs) e):Mid k bs n (a+2*bs) e:=by
 obtain⟨t,rfl,h1,h2⟩:=h;refine⟨t+1,by rw[Nat.add_mul];omega,λc hc=>?_,λc hc=>?_⟩
 .by_cases e1:c=t
  .subst e1;rw[Nat.add_mul,Nat.one_mul];exact S'
  .refine(h1 c (by omega)).out S (.inl ?_);exact Nat.mul_le_mul_right _ (by omega)
 .refine(h2 c (by omega)).out S (.inr ?_);have:(2*(t+1))*bs<=c*bs:=Nat.mul_le_mul_right _ (by omega);have e1:(2*(t+1))*bs=t*(2*bs)+2*bs:=by
   rw[Nat.mul_add,Nat.add_mul,Nat.mul_comm 2 t,Nat.mul_assoc]
  omega
theorem Mid.end_{bs n a:Nat}{d e:Array α}(h:Mid k bs n a d)(hn:n<a+2*bs)(S:Stp k a n d e)(S':Srt k a n e):Bks k (2*bs) n e:=by
 obtain⟨t,rfl,h1,h2⟩:=h;intro c;by_cases e1:c<t
 .have:(c+1)*(2*bs)<=t*(2*bs):=Nat.mul_le_mul_right _ (by omega);exact((h1 c e1).sub (Nat.le_refl _) (Nat.min_le_left _ _)).out S (.inl (by omega))
 .by_cases e2:c=t
  .subst e2;exact S'.sub (Nat.le_refl _) (Nat.min_le_right _ _)
  .have:(t+1)*(2*bs)<=c*(2*bs):=Nat.mul_le_mul_right _ (by omega);rw[Nat.add_mul]at this;intro x y p q r;omega
def Ini(k:α->Int)(a:Nat)(d:Array α):Prop:=∃t,a=t*20/\∀c,c<t->Srt k (c*20) ((c+1)*20) d
theorem Ini.start(d:Array α):Ini k 0 d:=⟨0,by omega,λc hc=>by omega⟩
theorem Ini.next{a:Nat}{d e:Array α}(h:Ini k a d)(S:Stp k a (a+20) d e)(S':Srt k a (a+20) e):Ini k (a+20) e:=by
 obtain⟨t,rfl,h1⟩:=h;refine⟨t+1,by omega,λc hc=>?_⟩;by_cases e1:c=t
 .subst e1;rw[Nat.add_mul];exact S'
 .exact(h1 c (by omega)).out S (.inl (by omega))
theorem Ini.end_{a n:Nat}{d e:Array α}(h:Ini k a d)(hn:n<a+20)(S:Stp k a n d e)(S':Srt k a n e):Bks k 20 n e:=by
 obtain⟨t,rfl,h1⟩:=h;intro c;by_cases e1:c<t
 .exact((h1 c e1).sub (Nat.le_refl _) (Nat.min_le_left _ _)).out S (.inl (by omega))
 .by_cases e2:c=t
  .subst e2;exact S'.sub (Nat.le_refl _) (Nat.min_le_right _ _)
  .intro x y p q r;omega
theorem Bks.whole{bs n:Nat}{d:Array α}(h:Bks k bs n d)(hn:n<=bs):Srt k 0 n d:=by
 have:=h 0;rw[Nat.zero_mul,Nat.zero_add,Nat.one_mul,Nat.min_eq_right hn]at this;exact this
omit [Inhabited α] in
theorem Z5i:∀(n:Nat) (lo:Int) (l:List α),l.Pairwise (λa b=>k a<=k b)->(∀x∈l,lo<=k x/\k x<lo+n)->l=(List.range n).flatMap λi:Nat=>l.filter (λx=>decide (k x=lo+(i:Int)))
 |0,lo,l,_,h=>by
  cases l with
  |nil=>rfl
  |cons x l=>have:=h x (by simp);omega
 |n+1,lo,l,hp,h=>by
  have ih:=Z5i n lo (l.filter (λx=>decide (k x<lo+n))) (hp.filter _) (λx hx=>by
   have:=List.mem_filter.1 hx
   exact⟨(h x this.1).1,by simpa using this.2⟩)
  rw[List.range_succ,List.flatMap_append];have e1:(List.range n).flatMap (λi:Nat=>(l.filter (λx=>decide (k x<lo+n))).filter (λx=>decide (k x=lo+(i:Int))))=(List.range n).flatMap λi:Nat=>l.filter (λx=>decide (k x=lo+(i:Int))):=by
   simp only[List.flatMap_def];congr 1;refine List.map_congr_left λi hi=>?_
   rw[List.filter_filter];refine List.filter_congr λx hx=>?_
   have:=List.mem_range.1 hi;by_cases e:k x=lo+(i:Int)
   .simp only[e,decide_true,Bool.true_and,decide_eq_true_eq];omega
   .simp[e]
  rw[<-e1,<-ih];simp only[List.flatMap_cons,List.flatMap_nil,List.append_nil];clear ih e1
  induction l with
  |nil=>rfl
  |cons x l ih =>
   have hx:=h x (by simp);have hp2:=List.pairwise_cons.1 hp;have ih:=ih hp2.2 (λy hy=>h y (by simp[hy]));by_cases hl:k x<lo+n
   .rw[List.filter_cons_of_pos (by simpa using hl),List.filter_cons_of_neg (by simp;omega),List.cons_append,<-ih]
   .have e2:k x=lo+n:=by omega
    have:(x::l).filter (λx=>decide (k x<lo+n))=[]:=by
     refine List.filter_eq_nil_iff.2 λy hy=>?_
     rcases List.mem_cons.1 hy with rfl|hy
     .simpa using hl
     .have:=hp2.1 y hy;simp;omega
    rw[this,List.nil_append];refine(List.filter_eq_self.2 λy hy=>?_).symm;rcases List.mem_cons.1 hy with rfl|hy
    .simpa using e2
    .have:=hp2.1 y hy;have:=h y (by simp[hy]);simp;omega
theorem Stp.classes{d e:Array α}{n:Nat}(S:Stp k 0 d.size d e)(S':Srt k 0 d.size e)(hk:∀x∈d.toList,0<=k x/\k x<n):e.toList=(List.range n).flatMap λi:Nat=>d.toList.filter (λx=>decide (k x=(i:Int))):=by
 have hm:∀x∈e.toList,0<=k x/\k x<n:=by
  have hp:=S.pres (λv=>0<=k v/\k v<n) (λx _ h2=>hk _ (by rw[getElem!_pos d x h2];simp));intro x hx;obtain⟨i,hi,rfl⟩:=List.getElem_of_mem hx;have hi':i<e.size:=by simpa using hi
  have:=hp i (Nat.zero_le _) (by rw[<-S.size];exact hi');rw[getElem!_pos e i hi']at this;simpa using this
 have h1:=Z5i (k:=k) n 0 e.toList (by
  rw[List.pairwise_iff_getElem];intro i j hi hj hij;have hj':j<e.size:=by simpa using hj
  have:=S' i j (Nat.zero_le _) hij (by rw[<-S.size];exact hj');rw[getElem!_pos e i (by omega),getElem!_pos e j hj']at this
  simpa using this) (λx hx=>by have:=hm x hx;omega)
 simp only[Int.zero_add]at h1;rw[h1];congr 1;funext i;exact S.stab i
end Go.Stb
namespace Go.Proofs.YtgnfoghkbpkgjaaGreat
open Go.AM
def cix(vs:List Int)(v:Int):Int:=Zbe (λx=>decide (v=x)) vs 0
def celI(r:List Int)(i:Int):Int:=r.getD i.toNat 0
theorem Zbil(v:Int):∀(vs:List Int) (i:Nat),has vs v=true->(i:Int)<=Zbe (λx=>decide (v=x)) vs i/\(Zbe (λx=>decide (v=x)) vs i).toNat<i+vs.length/\vs[(Zbe (λx=>decide (v=x)) vs i).toNat-i]?=some v
 |[],i,h=>by simp[has]at h
 |x::vs,i,h=>by
  unfold Zbe;by_cases e:v=x
  .subst e;simp
  .have h':has vs v=true:=by simpa[has,e]using h
   obtain⟨h1,h2,h3⟩:=Zbil v vs (i+1) h';rw[if_neg (by simpa using e)];refine⟨by omega,by simp only[Yr];omega,?_⟩;have e2:(Zbe (λx=>decide (v=x)) vs (i+1)).toNat-i=(Zbe (λx=>decide (v=x)) vs (i+1)).toNat-(i+1)+1:=by omega
   rw[e2,List.getElem?_cons_succ];exact h3
theorem Zbw{vs:List Int}{v:Int}(h:has vs v=true):0<=cix vs v/\(cix vs v).toNat<vs.length/\vs[(cix vs v).toNat]?=some v:=by
 have:=Zbil v vs 0 h;unfold cix;simpa using this
theorem cix_not{vs:List Int}{v:Int}(h:has vs v=false):cix vs v=-1:=Zpm _ _ _ h
theorem Zf1{vs:List Int}{v:Int}:0<=cix vs v↔has vs v=true:=by
 constructor
 .intro h;rcases tf (has vs v)with e|e
  .rw[cix_not e]at h;omega
  .exact e
 .exact λh=>(Zbw h).1
def valR(vs r:List Int)(v:Int):Int:=celI r (cix vs v)
theorem Zbim{vs:List Int}{v:Int}(h:has vs v=true)(f:Int->Int):valR vs (vs.map f) v=f v:=by
 obtain⟨-,h2,h3⟩:=Zbw h;unfold valR celI;rw[Ybo,Ycg,h3];rfl
abbrev Asc(l:List Int):Prop:=l.Pairwise (·<·)
theorem Zr8:∀{a b:List Int},Asc a->Asc b->(∀x,x∈a↔x∈b)->a=b
 |[],[],_,_,_=>rfl
 |[],y::b,_,_,h=>by have:=(h y).2 (by simp);cases this
 |x::a,[],_,_,h=>by have:=(h x).1 (by simp);cases this
 |x::a,y::b,ha,hb,h=>by
  have ha':=Ybe.1 ha;have hb':=Ybe.1 hb;have e:x=y:=by
   have h1:=(h x).1 (by simp);have h2:=(h y).2 (by simp);rcases Yt.1 h1 with e|e
   .exact e
   .rcases Yt.1 h2 with e2|e2
    .exact e2.symm
    .have:=hb'.1 x e;have:=ha'.1 y e2;omega
  subst e;rw[Zr8 ha'.2 hb'.2 λz=>?_];constructor
  .intro hz;have:=(h z).1 (by simp[hz]);rcases Yt.1 this with e|e
   .have:=ha'.1 z hz;omega
   .exact e
  .intro hz;have:=(h z).2 (by simp[hz]);rcases Yt.1 this with e|e
   .have:=hb'.1 z hz;omega
   .exact e
theorem Zwh(l:List Int):(srtI l).Perm l:=Yef _ _
theorem Zbin(l:List Int):(srtI l).Pairwise (·<=·):=by
 have:=List.pairwise_mergeSort (le:=λx y:Int=>decide (x<=y)) (by simp;omega) (by simp;omega) l;exact this.imp (by simp)
theorem Zi6(l:List Int)(x:Int):x∈srtI l↔x∈l:=(Zwh l).mem_iff
theorem srtI_asc{l:List Int}(h:l.Nodup):Asc (srtI l):=by
 have h1:=Zbin l;have h2:(srtI l).Nodup:=(Zwh l).nodup_iff.2 h;exact(h1.and h2).imp (by intro a b h;omega)
theorem Z5j:∀(l:List Int) (x:Int),x∈cptI l↔x∈l
 |[],x=>by simp[cptI]
 |[a],x=>by simp[cptI]
 |a::b::l,x=>by
  unfold cptI;have ih:=Z5j (b::l) x;split
  .rename_i e;subst e;rw[ih];simp
  .rw[Yt,ih];simp
theorem Zbio:∀{l:List Int},l.Pairwise (·<=·)->Asc (cptI l)
 |[],_=>by simp[cptI]
 |[a],_=>by simp[cptI]
 |a::b::l,h=>by
  unfold cptI;have h1:=Ybe.1 h;have ih:=Zbio h1.2;split
  .exact ih
  .rename_i e;refine Ybe.2 ⟨λx hx=>?_,ih⟩;rw[Z5j]at hx;have h2:=Ybe.1 h1.2;rcases Yt.1 hx with rfl|hx
   .have:=h1.1 x (by simp);omega
   .have:=h1.1 b (by simp);have:=h2.1 x hx;omega
def uni(a b:List Int):List Int:=((List.range 4).map λu:Nat=>(u:Int)).filter λv=>has a v || has b v
theorem Zbip(n:Nat)(p:Nat->Bool):Asc (((List.range n).filter p).map λu:Nat=>(u:Int)):=by
 refine List.pairwise_map.2 ?_;exact(List.pairwise_lt_range.filter _).imp (by intro a b h;omega)
theorem Zbiq(a b:List Int):Asc (uni a b):=by
 have:=Zbip 4 λ_=>true
 rw[List.filter_eq_self.2 (by simp)]at this;exact this.filter _
theorem Zwi{a b:List Int}(ha:∀x∈a,inR x 0 3=true)(hb:∀x∈b,inR x 0 3=true)(v:Int):v∈uni a b↔v∈a\/v∈b:=by
 unfold uni;rw[Y7];simp only[Ydf,Zcv,Y3,Ybj];constructor
 .exact λh=>h.2
 .intro h;refine⟨?_,h⟩;have:inR v 0 3=true:=h.elim (ha v) (hb v);simp[inR]at this;exact⟨v.toNat,by omega,by omega⟩
theorem cpt_uni{a b:List Int}(ha:∀x∈a,inR x 0 3=true)(hb:∀x∈b,inR x 0 3=true):cptI (srtI (a++b))=uni a b :=
 Zr8 (Zbio (Zbin _)) (Zbiq _ _) λx=>by rw[Z5j,Zi6,Zwi ha hb,Yi]
theorem Zoj(m:Int)(qa:List Atom)(k:Nat):Asc (varL m qa k):=Zbip _ _
theorem Zok{n:Int}{qa:List Atom}(h:Zw n qa=true)(m v:Int):v∈varL m qa n.toNat↔vin qa m v=true:=by rw[<-Zl9 h,Zcv]
theorem Zol{n:Int}{qa:List Atom}(h:Zw n qa=true)(m:Int):∀v∈varL m qa n.toNat,inR v 0 3=true:=by
 intro v hv;have:=(Zok h m v).1 hv;unfold vin at this;simp only[Yf]at this;exact this.1
theorem bit16:∀a b:Fin 16,∀j:Fin 4,Zce (orI (a.1:Int) (b.1:Int)) j.1=(Zce (a.1:Int) j.1 || Zce (b.1:Int) j.1):=by decide
theorem Zb0s{a b:Int}(ha:0<=a/\a<16)(hb:0<=b/\b<16){j:Nat}(hj:j<4):Zce (orI a b) j=(Zce a j || Zce b j):=by
 have:=bit16 ⟨a.toNat,by omega⟩ ⟨b.toNat,by omega⟩ ⟨j,hj⟩;simp only[]at this;rw[show((a.toNat:Nat):Int)=a by omega,show((b.toNat:Nat):Int)=b by omega]at this;exact this
theorem Zbir{a b:Int}(ha:0<=a/\a<16)(hb:0<=b/\b<16)(u:Int):∀(l:List Atom) (i:Nat),i+l.length<=4->hasV (orI a b) l i u=(hasV a l i u || hasV b l i u)
 |[],_,_=>rfl
 |x::l,i,h=>by
  simp only[Yr]at h;unfold hasV;rw[Zb0s ha hb (by omega),Zbir ha hb u l (i+1) (by omega)];cases Zce a i<;>cases Zce b i<;>cases has x.Vars u<;>cases hasV a l (i+1) u<;>rfl
theorem Zbis{n:Int}{qa:List Atom}(h:Zw n qa=true){a b:Int}(ha:0<=a/\a<16)(hb:0<=b/\b<16):uni (varL a qa n.toNat) (varL b qa n.toNat)=varL (orI a b) qa n.toNat:=by
 refine Zr8 (Zbiq _ _) (Zoj _ _ _) λv=>?_
 rw[Zwi (Zol h a) (Zol h b),Zok h,Zok h,Zok h];unfold vin pV;rw[Zbir ha hb _ _ 0 (by have:=Zgd h;omega)];cases inR v 0 3<;>simp
theorem bitS:∀i j:Fin 4,Zce (shlI 1 (i.1:Int)) j.1=decide (j=i):=by decide
theorem Zbit{i:Nat}(hi:i<4)(u:Int):∀(l:List Atom) (j:Nat),j+l.length<=4->hasV (shlI 1 (i:Int)) l j u=if j<=i then(match l[i-j]? with|some a=>has a.Vars u|none=>false)else false
 |[],j,_=>by simp[hasV]
 |x::l,j,h=>by
  simp only[Yr]at h;unfold hasV;have hb:=bitS ⟨i,hi⟩ ⟨j,by omega⟩;simp only[Fin.mk.injEq]at hb;rw[hb,Zbit hi u l (j+1) (by omega)];by_cases e:j=i
  .subst e;rw[if_neg (show ¬j+1<=j by omega),if_pos (Yc _),Ydd];simp
  .by_cases e2:j<=i
   .rw[if_pos e2,if_pos (by omega),show i-j=(i-(j+1))+1 by omega,List.getElem?_cons_succ];simp[e]
   .rw[if_neg e2,if_neg (by omega)];simp[e]
theorem Zbiu{n:Int}:∀{vs pre:List Int},Zdo n pre vs=true->vs.Nodup/\∀v∈vs,v ∉ pre
 |[],pre,_=>⟨Ybi,by simp⟩
 |v::vs,pre,h=>by
  unfold Zdo at h;simp only[Yf,Bool.not_eq_true']at h;obtain⟨⟨h1,h2⟩,h3⟩:=h;obtain⟨g1,g2⟩:=Zbiu h3;have h2':v ∉ pre:=by intro hm;rw[Zcv.2 hm]at h2;cases h2
  refine⟨Yct.2 ⟨λhm=>?_,g1⟩,λx hx=>?_⟩
  .exact g2 v hm (by simp)
  .rcases Yt.1 hx with rfl|hx
   .exact h2'
   .intro hm;exact g2 x hx (by simp[hm])
theorem Zb0t{n:Int}{qa:List Atom}(h:Zw n qa=true){a:Atom}(ha:a∈qa):a.Vars.Nodup:=by
 simp only[Zw,Yf]at h;have:=Yq.1 h.1.2 a ha;simp only[Zch,Yf]at this;exact(Zbiu this.2).1
theorem Zbiv{n:Int}{qa:List Atom}(h:Zw n qa=true){i:Nat}{a:Atom}(hi:qa[i]?=some a):srtI a.Vars=varL (shlI 1 (i:Int)) qa n.toNat:=by
 have hl:=Zgd h;have hi':i<qa.length:=(Yy.1 hi).1;have hm:a∈qa:=Yz hi;refine Zr8 (srtI_asc (Zb0t h hm)) (Zoj _ _ _) λv=>?_
 rw[Zi6,Zok h];unfold vin pV;rw[Zbit (by omega) _ _ 0 (by omega),if_pos (Yb _),Yc3,hi];simp only[Yf,Zcv];constructor
 .intro hv;have h3:=Zpo h a hm v hv;refine⟨h3,?_⟩;simp[inR]at h3;rw[show((v.toNat:Nat):Int)=v by omega];exact hv
 .rintro⟨h3,hv⟩;simp[inR]at h3
  rwa [show((v.toNat:Nat):Int)=v by omega]at hv
def pcM(m:Int):Nat:=(List.range 4).countP λi=>Zce m i
theorem pc16:∀a b:Fin 16,andI (a.1:Int) (b.1:Int)=0->pcM (orI (a.1:Int) (b.1:Int))=pcM (a.1:Int)+pcM (b.1:Int):=by decide
theorem pc_or{a b:Int}(ha:0<=a/\a<16)(hb:0<=b/\b<16)(h:andI a b=0):pcM (orI a b)=pcM a+pcM b:=by
 have:=pc16 ⟨a.toNat,by omega⟩ ⟨b.toNat,by omega⟩;simp only[]at this;rw[show((a.toNat:Nat):Int)=a by omega,show((b.toNat:Nat):Int)=b by omega]at this;exact this h
theorem pc1:∀i:Fin 4,pcM (shlI 1 (i.1:Int))=1:=by decide
theorem pc_le(m:Int):pcM m<=4:=Yo List.countP_le_length (by simp)
theorem Zwj(m:Int):8 ^ pcM m<=4096:=Yo (Nat.pow_le_pow_right (by decide) (pc_le m)) (by decide)
end Go.Proofs.YtgnfoghkbpkgjaaGreat
namespace Go.Proofs.YtgnfoghkbpkgjaaGreat
open Go.AM Go.Stb
def kx(x:Nat)(r:List Int):Int:=r[x]!
def stbR(x:Nat)(rows:List (List Int)):List (List Int):=(List.range 10).flatMap λi:Nat=>rows.filter λr=>decide (kx x r=(i:Int))
theorem Zr9(x:Int)(r:List Int):kx x.toNat r=celI r x:=by
 unfold kx celI;rw[Ybo,List.getElem!_eq_getElem?_getD];rfl
theorem stbR_mem{x:Nat}{rows:List (List Int)}(h:∀r∈rows,0<=kx x r/\kx x r<=9)(r:List Int):r∈stbR x rows↔r∈rows:=by
 unfold stbR;rw[Yc6];constructor
 .rintro⟨i,_,hr⟩;exact(Y7.1 hr).1
 .intro hr;have:=h r hr;refine⟨(kx x r).toNat,Ybj.2 (by omega),Y7.2 ⟨hr,?_⟩⟩;simp only[decide_eq_true_eq];omega
theorem Zbiw(x:Nat):∀(n:Nat) (rows:List (List Int)),((List.range n).flatMap λi:Nat=>rows.filter λr=>decide (kx x r=(i:Int))).length=rows.countP λr=>decide (0<=kx x r/\kx x r<n)
 |0,rows=>by
  simp only[List.range_zero,List.flatMap_nil,Yc1];refine(List.countP_eq_zero.2 λr _=>?_).symm
  simp
 |n+1,rows=>by
  rw[Yca,List.flatMap_append,Yp,Zbiw x n rows];simp only[Ybr,List.flatMap_nil,Y6];rw[<-List.countP_eq_length_filter]
  induction rows with
  |nil=>rfl
  |cons r rows ih =>
   simp only[List.countP_cons];by_cases h1:0<=kx x r/\kx x r<n
   .rw[if_pos (by simpa using h1),if_neg (by simp;omega),if_pos (by simp;omega)];omega
   .by_cases h2:kx x r=(n:Int)
    .rw[if_neg (by simpa using h1),if_pos (by simpa using h2),if_pos (by simp;omega)];omega
    .rw[if_neg (by simpa using h1),if_neg (by simpa using h2),if_neg (by simp;omega)];omega
theorem stbR_len{x:Nat}{rows:List (List Int)}(h:∀r∈rows,0<=kx x r/\kx x r<=9):(stbR x rows).length=rows.length:=by
 unfold stbR;rw[Zbiw];refine List.countP_eq_length.2 λr hr=>?_
 have:=h r hr;simp;omega
theorem stbR_srt(x:Nat)(rows:List (List Int)):(stbR x rows).Pairwise λa b=>kx x a<=kx x b:=by
 unfold stbR;refine List.pairwise_flatMap.2 ⟨λi _=>?_,?_⟩
 .rw[Yb6];intro a b ha hb hab;have h1:=Y7.1 (Yd ha);have h2:=Y7.1 (Yd hb);have h1:=h1.2;have h2:=h2.2;simp only[decide_eq_true_eq]at h1 h2;omega
 .refine List.pairwise_lt_range.imp λ{i j} hij p hp q hq=>?_
  have h1:=(Y7.1 hp).2;have h2:=(Y7.1 hq).2;simp only[decide_eq_true_eq]at h1 h2;omega
theorem Zb0u{x:Nat}{rows:List (List Int)}(hs:rows.Pairwise λa b=>kx x a<=kx x b)(h:∀r∈rows,0<=kx x r/\kx x r<=9):stbR x rows=rows:=by
 have:=Z5i (k:=kx x) 10 0 rows hs (λr hr=>by have:=h r hr;omega);simp only[Int.zero_add]at this;exact this.symm
def agr(av x bv y:List Int):Bool:=(List.range av.length).all λi=>decide (cix bv (av.getD i 0)<0) || decide (x.getD i 0=celI y (cix bv (av.getD i 0)))
def mrV(av x bv y:List Int)(v:Int):Int:=if 0<=cix av v then celI x (cix av v)else celI y (cix bv v)
def prS(vs av x bv y:List Int):Option (List Int):=if agr av x bv y=true then some (vs.map (mrV av x bv y))else none
def Zcb(vs:List Int)(a b:Zb):List (List Int):=a.Rows.flatMap λx=>b.Rows.filterMap λy=>prS vs a.Vars x b.Vars y
def Zf2(vs:List Int)(a b:Zb):List (List Int):=b.Rows.flatMap λy=>a.Rows.filterMap λx=>prS vs a.Vars x b.Vars y
def Zc3(a b:Zb):Zb:=⟨uni a.Vars b.Vars,Zcb (uni a.Vars b.Vars) a b⟩
def hashS(a b:Zb):Zb:=⟨uni a.Vars b.Vars,Zf2 (uni a.Vars b.Vars) a b⟩
def sortS(s:Zb)(v:Int):Zb:=⟨s.Vars,stbR (cix s.Vars v).toNat s.Rows⟩
def Zfe(d:Zl)(q:Ze)(i:Int):Zb:=match q.Atoms[i.toNat]? with
 |some a=>⟨srtI a.Vars,(rowsA d a).map λr=>(srtI a.Vars).map λv=>celI r (cix a.Vars v)⟩
 |none=>⟨[],[]⟩
theorem Zbix{α β:Type}(f:α->Option β)(l:List α):(l.filterMap f).length<=l.length:=List.length_filterMap_le _ _
theorem Zbiy(vs:List Int)(a b:Zb):(Zcb vs a b).length<=b.Rows.length*a.Rows.length:=Z5c _ _ (λ_=>Zbix _ _) _
theorem Zbiz(vs:List Int)(a b:Zb):(Zf2 vs a b).length<=a.Rows.length*b.Rows.length:=Z5c _ _ (λ_=>Zbix _ _) _
theorem Zb0v{vs:List Int}{a b:Zb}{r:List Int}(h:r∈Zcb vs a b):∃x∈a.Rows,∃y∈b.Rows,r=vs.map (mrV a.Vars x b.Vars y):=by
 obtain⟨x,hx,h⟩:=Yc6.1 h;obtain⟨y,hy,h⟩:=Ydl.1 h;unfold prS at h;split at h
 .cases h;exact⟨x,hx,y,hy,rfl⟩
 .cases h
theorem Zb0w{vs:List Int}{a b:Zb}{r:List Int}(h:r∈Zf2 vs a b):∃x∈a.Rows,∃y∈b.Rows,r=vs.map (mrV a.Vars x b.Vars y):=by
 obtain⟨y,hy,h⟩:=Yc6.1 h;obtain⟨x,hx,h⟩:=Ydl.1 h;unfold prS at h;split at h
 .cases h;exact⟨x,hx,y,hy,rfl⟩
 .cases h
theorem Zb0x{vs:List Int}{a b:Zb}{x:Nat}(hs:a.Rows.Pairwise λp q=>kx x p<=kx x q)(h:∀r∈a.Rows,0<=kx x r/\kx x r<=9) :
  (List.range 10).flatMap (λi:Nat=>Zcb vs ⟨a.Vars,a.Rows.filter λr=>decide (kx x r=(i:Int))⟩ b)=Zcb vs a b:=by
 have e:=Zb0u hs h;unfold Zcb
 conv=>rhs;rw[<-e]
 unfold stbR;rw[List.flatMap_assoc]
def ascV:Option Int->List Int->Bool
 |_,[]=>true
 |p,x::xs=>(inR x 0 3 && nxt (λa b=>decide (a<b)) p x) && ascV (some x) xs
def validS(s:Zb):Bool:=s.Rows.all (rwB s.Vars.length) && (ascV none s.Vars && decide ((s.Rows.length:Int)<=4096))
theorem Z5k:∀(l:List Int) (p:Option Int),Asc l->(∀x∈l,inR x 0 3=true)->(∀q,p=some q->∀x∈l,q<x)->ascV p l=true
 |[],_,_,_,_=>rfl
 |x::l,p,h,hr,hp=>by
  have h':=Ybe.1 h;unfold ascV;rw[Z5k l (some x) h'.2 (λy hy=>hr y (by simp[hy])) (λq hq y hy=>by cases hq;exact h'.1 y hy),hr x (by simp)]
  cases p with
  |none=>rfl
  |some q=>simp[nxt,hp q rfl x (by simp)]
structure GS (q:Ze) (y:Za) (s:Zb):Prop where
 vars:s.Vars=varL y.Mask q.Atoms q.Zm.toNat
 rows:∀r∈s.Rows,rwB s.Vars.length r=true
 len:s.Rows.length<=8 ^ pcM y.Mask
 ord:0<=y.Order->has s.Vars y.Order=true/\s.Rows.Pairwise λa b=>kx (cix s.Vars y.Order).toNat a<=kx (cix s.Vars y.Order).toNat b
theorem rw_get{n:Nat}{r:List Int}(h:rwB n r=true){i:Nat}(hi:i<n):i<r.length/\0<=kx i r/\kx i r<=9:=by
 unfold rwB at h;simp only[Yf,decide_eq_true_eq,Yq]at h;have hl:r.length=n:=by omega
 have h2:=h.1 r[i] (Yd (by omega));unfold kx;rw[getElem!_pos r i (by omega)];simp[dig,inR]at h2;omega
theorem Zwk{n:Nat}{r:List Int}(h:rwB n r=true):r.length=n:=by
 unfold rwB at h;simp only[Yf,decide_eq_true_eq]at h;omega
theorem GS.valid{q:Ze}{y:Za}{s:Zb}(h:GS q y s)(hq:Zw q.Zm q.Atoms=true):validS s=true:=by
 unfold validS;simp only[Yf,Yq,decide_eq_true_eq];refine⟨h.rows,?_,by have:=h.len;have:=Zwj y.Mask;omega⟩;rw[h.vars];exact Z5k _ _ (Zoj _ _ _) (Zol hq _) (by simp)
theorem GS.small{q:Ze}{y:Za}{s:Zb}(h:GS q y s):s.Vars.length<=4\/4<q.Zm:=by
 by_cases e:4<q.Zm
 .exact .inr e
 .left;rw[h.vars];have:=Zl8 y.Mask q.Atoms q.Zm.toNat;omega
theorem rw_map{vs:List Int}{f:Int->Int}(h:∀v∈vs,0<=f v/\f v<=9):rwB vs.length (vs.map f)=true:=by
 unfold rwB;simp only[Yf,decide_eq_true_eq,Yq,Ybf,and_true];intro v hv;obtain⟨u,hu,rfl⟩:=Y3.1 hv;have:=h u hu;simp[dig,inR];omega
theorem val_in{vs r:List Int}(h:rwB vs.length r=true){v:Int}(hv:has vs v=true):0<=celI r (cix vs v)/\celI r (cix vs v)<=9:=by
 obtain⟨h1,h2,h3⟩:=Zbw hv;have:=rw_get h h2;rw[Zr9]at this;exact this.2
end Go.Proofs.YtgnfoghkbpkgjaaGreat
namespace Go.Proofs.YtgnfoghkbpkgjaaGreat
open Go.AM Go.Stb
structure Zgu (qa:List Atom) (x:Zf) (pre:List Za) (y:Za):Prop where
 scan:x.Kind=1->inR x.Atom 0 (qa.length-1)=true/\y=⟨shlI 1 x.Atom,(match qa[x.Atom.toNat]? with|some a=>a.Vars.headD 0|none=>0),-1,-1⟩
 sort:x.Kind=2->∃s u,0<=s/\pre[s.toNat]?=some u/\vin qa u.Mask x.Order=true/\y=⟨u.Mask,x.Order,s,-1⟩
 join:x.Kind≠1->x.Kind≠2->∃s u t z o,0<=s/\pre[s.toNat]?=some u/\0<=t/\pre[t.toNat]?=some z/\andI u.Mask z.Mask=0/\y=⟨orI u.Mask z.Mask,o,s,t⟩/\
  ((x.Kind=3/\o=-1)\/(x.Kind=5/\o=u.Order)\/(x.Kind=4/\vin qa u.Mask x.Order=true/\vin qa z.Mask x.Order=true/\u.Order=x.Order/\z.Order=x.Order/\o=x.Order))
theorem step_f{qa:List Atom}{x:Zf}{info:List Za}{st:List Int}{y:Za}(hs:StOk info st)(h:Zc9 qa x info st=some y):Zgu qa x info y:=by
 unfold Zc9 at h;split at h
 .rename_i k1;split at h
  .rename_i c;cases h;exact⟨λ_=>⟨c.1,rfl⟩,λk=>by omega,λk=>absurd k1 k⟩
  .cases h
 .rename_i k1;split at h
  .cases h
  .split at h
   .rename_i k2;split at h
    .rename_i s y' ht;split at h
     .rename_i c;cases h;obtain⟨_,t2,t3,t4⟩:=Zfk hs (Yc 1) ht;exact⟨λk=>absurd k k1,λ_=>⟨s,y',t2,t4,c.1,rfl⟩,λ_ k=>absurd k2 k⟩
     .cases h
    .cases h
   .rename_i k2;split at h
    .rename_i s y' t z ht hu;split at h
     .rename_i c;obtain⟨_,t2,t3,t4⟩:=Zfk hs (by omega:1<=2) ht;obtain⟨_,u2,u3,u4⟩:=Zfk hs (by omega:1<=1) hu;obtain⟨o,ho,rfl⟩:=Yk.1 h;refine⟨λk=>absurd k k1,λk=>absurd k k2,λ_ _=>⟨s,y',t,z,o,t2,t4,u2,u4,c.1,rfl,?_⟩⟩;unfold Zeg at ho;split at ho
      .rename_i e;cases ho;exact .inl ⟨e.1,rfl⟩
      .split at ho
       .rename_i e;cases ho;exact .inr (.inl ⟨e.1,rfl⟩)
       .split at ho
        .rename_i e;cases ho;exact .inr (.inr ⟨e.1,e.2.1,e.2.2.1,e.2.2.2.1,e.2.2.2.2,rfl⟩)
        .cases ho
     .cases h
    .cases h
theorem Zbi0{qa:List Atom}:∀{xs:List Zf} {i:Nat} {info:List Za} {st:List Int} {info':List Za} {st':List Int},Zca qa xs i info st=some (info',st')->
  StOk info st->info.length=i->info'.length=i+xs.length/\info'.take i=info/\∀(j:Nat) (y:Za) (x:Zf),info'[i+j]?=some y->xs[j]?=some x->Zgu qa x (info'.take (i+j)) y
 |[],i,info,st,info',st',h,hs,hi=>by
  simp[Zca]at h;obtain⟨rfl,rfl⟩:=h
  refine⟨by simp[hi],by rw[<-hi,Ycu],λj y x _ hx=>by simp at hx⟩
 |x::xs,i,info,st,info',st',h,hs,hi=>by
  rw[Zca]at h;split at h
  .cases h
  .rename_i y hy;have hn:=Zpp hs y (st.length-pops y);rw[hi]at hn;obtain⟨g1,g2,g3⟩:=Zbi0 h hn (by simp[hi]);have e1:info'.take i=info:=by
    have:=congrArg (List.take i) g2;rw[Yb1,Y0 (by omega)]at this;rw[this,<-hi,List.take_left]
   have e2:info'[i]?=some y:=by
    have:=congrArg (λl=>l[i]?) g2;simp only[Ybc]at this;rw[if_pos (by omega)]at this;rw[this,<-hi];simp
   refine⟨by simp;omega,e1,?_⟩;intro j y' x' hj hx
   cases j with
   |zero =>
    simp only[Ybu,List.getElem?_cons_zero,Ybk]at hj hx|-;rw[e2]at hj;cases hj;cases hx
    rw[e1];exact step_f hs hy
   |succ j =>
    have:=g3 j y' x' (by rw[<-hj];congr 1;omega) (by simpa using hx)
    rwa [show i+1+j=i+(j+1) by omega]at this
theorem Zwl{n:Int}{qa:List Atom}{steps:List Zf}{info:List Za}(h:Zby n qa steps=some info):∀(j:Nat) (y:Za) (x:Zf),info[j]?=some y->steps[j]?=some x->Zgu qa x (info.take j) y:=by
 unfold Zby at h;split at h
 .split at h
  .rename_i info' st hg;split at h
   .cases h;obtain⟨-,-,g⟩:=Zbi0 hg (λs hs=>by cases hs) rfl;intro j y x a b;have:=g j y x (by simpa using a) b;simpa using this
   .cases h
  .cases h
 .cases h
theorem Zbi1:∀(rows:List (List Int)) (p:Option (List Int)),adjL ltR p rows=true->(∀r∈rows,0<r.length)->(∀r,p=some r->0<r.length)->
  (rows.Pairwise λa b=>kx 0 a<=kx 0 b)/\∀r,p=some r->∀x∈rows,kx 0 r<=kx 0 x
 |[],p,_,_,_=>⟨.nil,by simp⟩
 |x::rows,p,h,hl,hp=>by
  unfold adjL at h;simp only[Yf]at h;obtain⟨i1,i2⟩:=Zbi1 rows (some x) h.2 (λr hr=>hl r (by simp[hr])) (λr hr=>by cases hr;exact hl x (by simp));refine⟨Ybe.2 ⟨i2 x rfl,i1⟩,λr hr y hy=>?_⟩;subst hr;have h1:=h.1;simp only[nxt,ltR,decide_eq_true_eq]at h1;have hx0:=hl x (by simp);have hr0:=hp r rfl;have hrx:kx 0 r<=kx 0 x:=by
   match r,x,hr0,hx0 with
   |a::r,b::x,_,_ =>
    simp only[cmpR]at h1;show a<=b;by_cases e:a<b
    .omega
    .rw[if_neg e]at h1;by_cases e2:b<a
     .rw[if_pos e2]at h1;omega
     .omega
  rcases Yt.1 hy with rfl|hy
  .exact hrx
  .have:=i2 x rfl y hy;omega
theorem Z5l{d:Zl}{q:Ze}(h:qFor d q=true){a:Atom}(ha:a∈q.Atoms):∃t,Zf0 d a.Name=some t/\t.Arity=(a.Vars.length:Int)/\rowsA d a=t.Rows/\t.Rows.length<=8/\(∀r∈t.Rows,rwB a.Vars.length r=true)/\adjL ltR none t.Rows=true:=by
 unfold qFor at h;simp only[Yf,Yq]at h;have hf:=h.2 a ha;unfold forOk at hf;split at hf
 .cases hf
 .rename_i t ht;have har:t.Arity=(a.Vars.length:Int):=by simpa using hf
  obtain⟨h1,h2,h3⟩:=look_mem ht;unfold Zfc at h1;simp only[Yf,Yq]at h1;have h4:=h1.1.1 t h2;unfold Zdt at h4;simp only[Yf,Yq,decide_eq_true_eq]at h4;refine⟨t,ht,har,by unfold rowsA;rw[ht],by omega,?_,h4.2.2⟩;rw[<-har];exact h4.2.1
theorem scan_gs{d:Zl}{q:Ze}(h:qFor d q=true){x:Zf}{pre:List Za}{y:Za}(F:Zgu q.Atoms x pre y)(hk:x.Kind=1):GS q y (Zfe d q x.Atom):=by
 have hq:Zw q.Zm q.Atoms=true:=by unfold qFor at h;simp only[Yf]at h;exact h.1
 obtain⟨f1,rfl⟩:=F.scan hk;have hl:=Zgd hq;simp[inR]at f1;obtain⟨i,hi⟩:∃i:Nat,x.Atom=(i:Int):=⟨x.Atom.toNat,by omega⟩;rw[hi];have hlt:i<q.Atoms.length:=by omega
 have he:q.Atoms[i]?=some q.Atoms[i]:=Yg hlt;have hm:q.Atoms[i]∈q.Atoms:=Yd hlt;generalize q.Atoms[i]=a at he hm;obtain⟨t,t1,t2,t3,t4,t5,t6⟩:=Z5l h hm;have hvl:=Zpn hq a hm;have hv:=Zbiv hq he;have hsc:Zfe d q (i:Int)=⟨srtI a.Vars,t.Rows.map λr=>(srtI a.Vars).map λv=>celI r (cix a.Vars v)⟩:=by
  unfold Zfe;rw[Ye,he];simp only[t3]
 rw[hsc,Ye,he];have hval:∀r∈t.Rows,∀v∈srtI a.Vars,0<=celI r (cix a.Vars v)/\celI r (cix a.Vars v)<=9:=λr hr v hv2=>val_in (t5 r hr) (Zcv.2 ((Zi6 _ _).1 hv2))
 refine⟨hv,λr hr=>?_,?_,λ_=>?_⟩
 .obtain⟨r0,hr0,rfl⟩:=Y3.1 hr;exact rw_map (hval r0 hr0)
 .have:=pc1 ⟨i,by omega⟩;simp only[]at this;simp only[Ybf,this];omega
 ·-- the first column of a table is sorted
  obtain⟨v0,vs,hvs⟩:∃v0 vs,a.Vars=v0::vs:=by
   cases hc:a.Vars with
   |nil=>rw[hc]at hvl;simp at hvl
   |cons v0 vs=>exact⟨v0,vs,rfl⟩
  have h0:has (srtI a.Vars) v0=true:=Zcv.2 ((Zi6 _ _).2 (by rw[hvs];simp));simp only[hvs,List.headD_cons];rw[hvs]at h0;refine⟨h0,?_⟩;have hc0:cix a.Vars v0=0:=by rw[hvs];simp[cix,Zbe]
  have hkey:∀r,kx (cix (srtI a.Vars) v0).toNat ((srtI a.Vars).map λv=>celI r (cix a.Vars v))=kx 0 r:=by
   intro r;rw[Zr9];have:=Zbim (vs:=srtI a.Vars) (v:=v0) (by rw[hvs];exact h0) λv=>celI r (cix a.Vars v)
   unfold valR at this;rw[this,hc0,<-Zr9];rfl
  rw[hvs]at hkey;refine List.pairwise_map.2 ?_;have:=(Zbi1 t.Rows none t6 (λr hr=>by have:=Zwk (t5 r hr);omega) (by simp)).1;exact this.imp (by intro p r hpr;rw[hkey,hkey];exact hpr)
theorem Zbi2{q:Ze}(hq:Zw q.Zm q.Atoms=true){u:Za}{s:Zb}(G:GS q u s){v:Int}(hv:vin q.Atoms u.Mask v=true)(l:Int):GS q ⟨u.Mask,v,l,-1⟩ (sortS s v)/\has s.Vars v=true:=by
 have hh:has s.Vars v=true:=by rw[G.vars,Zl9 hq];exact hv
 obtain⟨c1,c2,c3⟩:=Zbw hh;have hr:∀r∈s.Rows,0<=kx (cix s.Vars v).toNat r/\kx (cix s.Vars v).toNat r<=9:=λr hr=>(rw_get (G.rows r hr) c2).2
 refine⟨⟨G.vars,λr h=>?_,?_,λ_=>⟨hh,?_⟩⟩,hh⟩
 .exact G.rows r ((stbR_mem hr r).1 h)
 .show(stbR _ _).length<=_;rw[stbR_len hr];exact G.len
 .exact stbR_srt _ _
theorem mr_in{av bv x y:List Int}(hx:rwB av.length x=true)(hy:rwB bv.length y=true){v:Int}(hv:has av v=true\/has bv v=true):0<=mrV av x bv y v/\mrV av x bv y v<=9:=by
 unfold mrV;split
 .rename_i h;exact val_in hx (Zf1.1 h)
 .rename_i h;refine val_in hy (hv.resolve_left λh2=>h (Zf1.2 h2))
theorem Z5m{a b:List Int}{v:Int}(h:v∈uni a b):has a v=true\/has b v=true:=by
 unfold uni at h;have:=(Y7.1 h).2;simpa using this
theorem Zbi3{q:Ze}(hq:Zw q.Zm q.Atoms=true){u z:Za}{a b:Zb}(A:GS q u a)(B:GS q z b)(hu:0<=u.Mask/\u.Mask<16)(hz:0<=z.Mask/\z.Mask<16)(h0:andI u.Mask z.Mask=0)(l r:Int):GS q ⟨orI u.Mask z.Mask,u.Order,l,r⟩ (Zc3 a b):=by
 have hvars:uni a.Vars b.Vars=varL (orI u.Mask z.Mask) q.Atoms q.Zm.toNat:=by rw[A.vars,B.vars];exact Zbis hq hu hz
 refine⟨hvars,λp hp=>?_,?_,λho=>?_⟩
 .obtain⟨x,hx,y,hy,rfl⟩:=Zb0v hp;exact rw_map λv hv=>mr_in (A.rows x hx) (B.rows y hy) (Z5m hv)
 .have:=Zbiy (uni a.Vars b.Vars) a b;show(Zcb _ _ _).length<=8 ^ pcM (orI u.Mask z.Mask);rw[pc_or hu hz h0,Nat.pow_add,Yc0];exact Yo this (Yby B.len A.len)
 .obtain⟨hh,hs⟩:=A.ord ho;have hu2:has (uni a.Vars b.Vars) u.Order=true:=Zcv.2 ((Zwi (by rw[A.vars];exact Zol hq _) (by rw[B.vars];exact Zol hq _) _).2 (.inl (Zcv.1 hh)));refine⟨hu2,?_⟩;have hkey:∀x y:List Int,kx (cix (uni a.Vars b.Vars) u.Order).toNat ((uni a.Vars b.Vars).map (mrV a.Vars x b.Vars y))=kx (cix a.Vars u.Order).toNat x:=by
   intro x y;rw[Zr9,Zr9];have:=Zbim hu2 (mrV a.Vars x b.Vars y);unfold valR at this;rw[this];unfold mrV;rw[if_pos (Zf1.2 hh)]
  have hm:∀x,∀p∈b.Rows.filterMap (λy=>prS (uni a.Vars b.Vars) a.Vars x b.Vars y),kx (cix (uni a.Vars b.Vars) u.Order).toNat p=kx (cix a.Vars u.Order).toNat x:=by
   intro x p hp;obtain⟨y,hy,h⟩:=Ydl.1 hp;unfold prS at h;split at h
   .cases h;exact hkey x y
   .cases h
  refine List.pairwise_flatMap.2 ⟨λx _=>?_,?_⟩
  .rw[Yb6];intro i j hi hj _;have h1:=hm x _ (Yd hi);have h2:=hm x _ (Yd hj);show kx (cix (uni a.Vars b.Vars) u.Order).toNat _<=kx (cix (uni a.Vars b.Vars) u.Order).toNat _;rw[h1,h2];exact Int.le_refl _
  .refine hs.imp λ{x x'} hxx p hp p' hp'=>?_
   have h1:=hm x p hp;have h2:=hm x' p' hp';show kx (cix (uni a.Vars b.Vars) u.Order).toNat _<=kx (cix (uni a.Vars b.Vars) u.Order).toNat _;rw[h1,h2];exact hxx
theorem hash_gs{q:Ze}(hq:Zw q.Zm q.Atoms=true){u z:Za}{a b:Zb}(A:GS q u a)(B:GS q z b)(hu:0<=u.Mask/\u.Mask<16)(hz:0<=z.Mask/\z.Mask<16)(h0:andI u.Mask z.Mask=0)(l r:Int):GS q ⟨orI u.Mask z.Mask,-1,l,r⟩ (hashS a b):=by
 have hvars:uni a.Vars b.Vars=varL (orI u.Mask z.Mask) q.Atoms q.Zm.toNat:=by rw[A.vars,B.vars];exact Zbis hq hu hz
 refine⟨hvars,λp hp=>?_,?_,λho=>absurd ho (by show ¬(0:Int)<=-1;decide)⟩
 .obtain⟨x,hx,y,hy,rfl⟩:=Zb0w hp;exact rw_map λv hv=>mr_in (A.rows x hx) (B.rows y hy) (Z5m hv)
 .have:=Zbiz (uni a.Vars b.Vars) a b;show(Zf2 _ _ _).length<=8 ^ pcM (orI u.Mask z.Mask);rw[pc_or hu hz h0,Nat.pow_add];exact Yo this (Yby A.len B.len)
def stS(d:Zl)(q:Ze)(x:Zf)(y:Za)(out:List Zb):Zb :=
 if x.Kind=1 then Zfe d q x.Atom
 else if x.Kind=2 then sortS (out.getD y.Left.toNat ⟨[],[]⟩) x.Order
 else if x.Kind=3 then hashS (out.getD y.Left.toNat ⟨[],[]⟩) (out.getD y.Right.toNat ⟨[],[]⟩)
 else Zc3 (out.getD y.Left.toNat ⟨[],[]⟩) (out.getD y.Right.toNat ⟨[],[]⟩)
def Zc4(d:Zl)(q:Ze):List Zf->List Za->List Zb->List Zb
 |x::xs,y::ys,out=>Zc4 d q xs ys (out++[stS d q x y out])
 |_,_,out=>out
def GSs(q:Ze)(info:List Za)(out:List Zb):Prop:=∀(j:Nat) (s:Zb),out[j]?=some s->∃y,info[j]?=some y/\GS q y s
theorem Zom{q:Ze}{info:List Za}{out:List Zb}(G:GSs q info out){i:Nat}{s:Int}{u:Za}(hi:out.length=i)(h0:0<=s)(h:(info.take i)[s.toNat]?=some u):s.toNat<out.length/\out[s.toNat]?=some (out.getD s.toNat ⟨[],[]⟩)/\GS q u (out.getD s.toNat ⟨[],[]⟩):=by
 rw[Ybc]at h;split at h
 .rename_i hlt;have hl:s.toNat<out.length:=by omega
  have e:out[s.toNat]?=some (out.getD s.toNat ⟨[],[]⟩):=by rw[Ybo,Yg hl];rfl
  obtain⟨y,hy,g⟩:=G _ _ e;rw[h]at hy;cases hy;exact⟨hl,e,g⟩
 .cases h
theorem st_gs{d:Zl}{q:Ze}(h:qFor d q=true){info:List Za}{out:List Zb}(G:GSs q info out)(hM:∀y∈info,0<=y.Mask/\y.Mask<16){i:Nat}(hi:out.length=i){x:Zf}{y:Za}(F:Zgu q.Atoms x (info.take i) y):GS q y (stS d q x y out):=by
 have hq:Zw q.Zm q.Atoms=true:=by unfold qFor at h;simp only[Yf]at h;exact h.1
 have hm:∀{s:Nat} {u:Za},(info.take i)[s]?=some u->0<=u.Mask/\u.Mask<16:=λhs=>hM _ (Y4 (Yz hs))
 unfold stS;by_cases k1:x.Kind=1
 .rw[if_pos k1];exact scan_gs h F k1
 .rw[if_neg k1];by_cases k2:x.Kind=2
  .rw[if_pos k2];obtain⟨s,u,f1,f2,f3,rfl⟩:=F.sort k2;exact(Zbi2 hq (Zom G hi f1 f2).2.2 f3 s).1
  .rw[if_neg k2];obtain⟨s,u,t,z,o,f1,f2,f3,f4,f5,rfl,f6⟩:=F.join k1 k2;have A:=(Zom G hi f1 f2).2.2;have B:=(Zom G hi f3 f4).2.2;rcases f6 with⟨k,rfl⟩|⟨k,rfl⟩|⟨k,g1,g2,g3,g4,rfl⟩
   .rw[if_pos k];exact hash_gs hq A B (hm f2) (hm f4) f5 s t
   .rw[if_neg (by omega)];exact Zbi3 hq A B (hm f2) (hm f4) f5 s t
   .rw[if_neg (by omega)];rw[<-g3];exact Zbi3 hq A B (hm f2) (hm f4) f5 s t
theorem Z5n{q:Ze}{info:List Za}{out:List Zb}(G:GSs q info out){i:Nat}(hi:out.length=i){y:Za}(hy:info[i]?=some y){s:Zb}(g:GS q y s):GSs q info (out++[s]):=by
 intro j s' hs;by_cases hj:j<out.length
 .rw[Ybg hj]at hs;exact G j s' hs
 .have:j=out.length:=by
   have:=(Yy.1 hs).1;simp at this;omega
  subst this;simp at hs;subst hs;exact⟨y,by rw[hi];exact hy,g⟩
end Go.Proofs.YtgnfoghkbpkgjaaGreat
