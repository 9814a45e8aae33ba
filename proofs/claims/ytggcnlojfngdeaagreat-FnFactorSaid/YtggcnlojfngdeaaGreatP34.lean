/-
  Parts of the proofs for this seat: UA UB WL UC UD WM NF VB L34 SX.
-/
import Derived.Test.YtggcnlojfngdeaaGreatP33
set_option linter.all false
set_option maxRecDepth 100000
set_option maxHeartbeats 4000000
namespace Go.Proofs.YtggcnlojfngdeaaGreat
open Go.AM
def p5{b:Box}(h4:Xd b.Low b.High<=400)(h1:1<=Xd b.Low b.High):Xj b.Low b.High=true/\vol b.Low b.High=Xd b.Low b.High:=by
 rcases tf (Xj b.Low b.High)with e|e
 .unfold Xd at h1;rw[e]at h1;simp at h1
 .refine⟨e,?_⟩;unfold Xd at h4|-;rw[Ya e]at h4|-;unfold Vv at h4|-;split at h4
  .omega
  .rw[Yb (by assumption)]
def ZNz(b:Box)(hb:E0 b)(l:WL)(hl:Le l):z0 b l=some (Bo (JP b.Low b.High l),[]):=by
 refine Xx.2.1.2.1 _ _ _ ⟨_,Zzj b hb,?_⟩;unfold JP;rcases tf (Xj b.Low b.High)with e|e
 .rw[e];simp
 rw[e,Ya rfl];refine⟨_,Zzh l b.Low hl,?_⟩;rcases tf (dom l b.Low)with e2|e2
 .rw[e2];simp
 rw[e2,Ya rfl];exact⟨_,Zzh b.High l hb.2,Om⟩
def AbH{b:Box}(h:Xj b.Low b.High=true){l:WL}(hb:Dx b l):∀k,k<=l.length->gX b l (Wg b.Low b.High l k) k=some (I (Ku b l),[]):=by
 obtain⟨b1,b2,b3,b4⟩:=WR h;have e1:=hb.1;refine down _ ?_ ?_
 .exact Xx.2.1.2.2 _ _ _ _ _ (by rw[Ap,Ku,e1])
 .intro k hk ih;have hk1:k<b.Low.length:=by omega
  have hk2:k<b.High.length:=by omega
  obtain⟨d1,d2,g1,d3,d4⟩:=Gu h hk1;have g2:b.High.getD k 0=b.High[k]:=BK hk2;have g3:l.getD k 0=l[k]:=BK hk;have hd:Xh b.Low b.High k=b.High[k]-b.Low[k]+1:=by unfold Xh;rw[g1,g2]
  have c1:=hb.2 k hk1;obtain⟨i1,i2⟩:=Z08 h hb k Z;have hv:=Zqi h (k+1) Z;have hp:=vQ (show k+1<=16 by omega);have hv2:=hv.2;rw[Vf]at hv2;have m1:(Wg b.Low b.High l k+1)*Xh b.Low b.High k<=Vf b.Low b.High k*Xh b.Low b.High k:=Int.mul_le_mul_of_nonneg_right Z Z;have m0:0<=Wg b.Low b.High l k*Xh b.Low b.High k:=Int.mul_nonneg i1 Z;rw[Int.add_mul,Int.one_mul]at m1;have b5:=b4 k hk1 hk2;rw[Wg,g1,g3,<-Int.add_sub_assoc]at ih;apply Xx.2.1.2.2;rw[Ao];refine⟨Z,_,gE hk2,_,gE hk1,_,gE hk,?_⟩;rw[wS hk Z,show w (w (b.High[k]-b.Low[k])+1)=Xh b.Low b.High k by rw[VS (x:=b.High[k]-b.Low[k]) Z Z,VS Z Z,hd],VS (x:=Wg b.Low b.High l k*Xh b.Low b.High k) Z Z,VS (x:=Wg b.Low b.High l k*Xh b.Low b.High k+l[k]) Z Z,VS (x:=Wg b.Low b.High l k*Xh b.Low b.High k+l[k]-b.Low[k]) Z Z];exact ih
def Kv(b:Box)(l:WL):Int:=if JP b.Low b.High l=true then Ku b l else -1
def AbI{b:Box}(h:Xj b.Low b.High=true){l:WL}(hl:l.length<=1000):z6 b l=some (I (Kv b l),[]):=by
 obtain⟨b1,b2,b3,b4⟩:=WR h;have hx:=ZNz b ⟨Z,Z⟩ l Z;unfold Kv;rcases tf (JP b.Low b.High l)with e|e
 .rw[e]at hx;exact Xx.2.2.1.1 _ _ _ ⟨_,hx,by rw[Yb Om,e,Yb Om]⟩
 .rw[e]at hx;exact Xx.2.2.1.1 _ _ _ ⟨_,hx,by rw[Ya rfl,e,Ya rfl];exact AbH h ((Zqk h).1 e) 0 (Yc _)⟩
def Oy{b:Box}(h:Xj b.Low b.High=true)(l:WL):Kv b l<vol b.Low b.High:=by
 have:=ZBm h;unfold Kv;split
 .exact(ZBr h ((Zqk h).1 (by assumption))).2
 .omega
abbrev DR(l:WL)(k:Nat):WL:=l.set k (l.getD k 0+1)
def AbJ{b:Box}(h:Xj b.Low b.High=true){l:WL}(hb:Dx b l){k:Nat}(hk:k<l.length):z7 b l k=some (I (Kv b (DR l k)),[]):=by
 obtain⟨b1,b2,b3,b4⟩:=WR h;have e1:=hb.1;have:=b4 k Z Z;have c1:=hb.2 k Z;rw[BK (show k<b.Low.length by omega),BK (show k<b.High.length by omega),BK hk]at c1;have e2:w (l[k]+1)=l.getD k 0+1:=by rw[BK hk,VS Z Z]
 have e:=AbI h (l:=DR l k) (by simp;omega);exact Xx.2.2.1.2 _ _ _ _ ⟨Z,Z,_,gE hk,_,by rw[Yj,e2];exact e,rfl⟩
structure VG (s:ZL):Prop where
 v1:1<=Xd s.Box.Low s.Box.High
 v4:Xd s.Box.Low s.Box.High<=400
 cl:(s.Costs.length:Int)=Xd s.Box.Low s.Box.High
 hl:(s.Choices.length:Int)=Xd s.Box.Low s.Box.High
 co:∀c∈s.Costs,1<=c/\c<=23270380000
 ch:∀c∈s.Choices,0<=c/\c<s.Plans.length
 pl:s.Plans.length<=400
 ps:∀p∈s.Plans,p.Steps.length<=1000
def VG.box{s:ZL}(h:VG s):Xj s.Box.Low s.Box.High=true:=(p5 h.v4 h.v1).1
def VG.leX{s:ZL}(h:VG s):E0 s.Box:=by
 obtain⟨b1,b2,b3,b4⟩:=WR h.box;exact⟨Z,Z⟩
def VG.vol{s:ZL}(h:VG s):vol s.Box.Low s.Box.High=Xd s.Box.Low s.Box.High:=(p5 h.v4 h.v1).2
def p6{s:ZL}(h:VG s):∀i,i<=s.Costs.length->gO s (Xd s.Box.Low s.Box.High) i=some (Bo true,[]):=by
 have h1:=h.cl;have h2:=h.hl;have h3:=h.pl;have h4:=h.v4;refine down _ ?_ ?_
 .exact Xx.1.1.2.2 _ _ _ _ (by rw[Ap])
 .intro i hi ih;have hi2:i<s.Choices.length:=by omega
  have c1:=h.co _ (Ye hi);have c2:=h.ch _ (Ye hi2);apply Xx.1.1.2.2;rw[Ao,wS hi Z,VS (x:=(s.Plans.length:Int)-1) Z Z];refine⟨Z,_,gE hi,_,ZH _ _ _,?_⟩;rw[Ya (by simp[Ak];omega)];refine⟨_,gE hi2,_,ZH _ _ _,?_⟩;rw[Ya (by simp[Ak];omega)];exact ih
def Il{s:ZL}(h:VG s):Jk s=some (Bo true,[]):=by
 refine Xx.1.2.1.1 _ _ ⟨_,Zpm s.Box h.leX,_,ZH _ _ _,?_⟩;have:=h.v1;have:=h.v4;rw[Ya (by simp[Ak];omega),Ya h.cl,Ya h.hl];exact p6 h 0 (Yc _)
def AbK{s:ZL}(h:VG s):∀i,i<=s.Costs.length->∀lo hi,1<=lo->lo<=hi->hi<=23270380000->∃lo' hi',gQ s lo hi i=some (.tup [I lo',I hi'],[])/\1<=lo'/\lo'<=lo/\hi<=hi'/\hi'<=23270380000/\∀j (hj:j<s.Costs.length),i<=j->lo'<=s.Costs[j]/\s.Costs[j]<=hi':=by
 have h1:=h.cl;have h4:=h.v4;refine down _ ?_ ?_
 .intro lo hi a b c;exact⟨lo,hi,Xx.1.2.1.2 _ _ _ _ _ (by rw[Ap]),a,Z,Z,c,λj hj h=>by omega⟩
 .intro i hi ih lo hi' a b c;have c1:=h.co _ (Ye hi);obtain⟨x,y,e,f1,f2,f3,f4,f5⟩:=ih (if s.Costs[i]<lo then s.Costs[i]else lo) (if hi'<s.Costs[i]then s.Costs[i]else hi') (by split<;>omega) (by split<;>split<;>omega) (by split<;>omega);have g1:x<=lo/\x<=s.Costs[i]:=by split at f2<;>omega
  have g2:hi'<=y/\s.Costs[i]<=y:=by split at f3<;>omega
  refine⟨x,y,Xx.1.2.1.2 _ _ _ _ _ ?_,f1,g1.1,g2.1,f4,λj hj h=>?_⟩
  .rw[Ao,wS hi Z];exact⟨Z,_,gE hi,e⟩
  .by_cases e:j=i
   .subst e;exact⟨g1.2,g2.2⟩
   .exact f5 j hj Z
def AbL{s:ZL}(h:VG s):∃lo hi,gP s=some (.tup [I lo,I hi],[])/\1<=lo/\lo<=hi/\hi<=23270380000/\∀j (hj:j<s.Costs.length),lo<=s.Costs[j]/\s.Costs[j]<=hi:=by
 have h1:=h.cl;have h2:=h.v1;have hp:0<s.Costs.length:=by omega
 have c1:=h.co _ (Ye hp);obtain⟨x,y,e,f1,f2,f3,f4,f5⟩:=AbK h 0 (Yc _) s.Costs[0] s.Costs[0] c1.1 Z c1.2;exact⟨x,y,Xx.1.2.2.1 _ _ ⟨_,Il h,by rw[Ya rfl];exact⟨_,Yf hp,e⟩⟩,f1,Z,f4,λj hj=>f5 j hj (Yc _)⟩
def Cd(P:WL->Prop)(R:Rs):Prop:=∃o:WL,R=some (.own 0,[.arr ZV 1 true (o.map ic)])/\P o
def Cd.of{P:WL->Prop}{R R':Rs}(h:Cd P R')(q:∀r,R'=some r->R=some r):Cd P R:=by
 obtain⟨o,e,ho⟩:=h;exact⟨o,q _ e,ho⟩
def Cd.imp{P Q:WL->Prop}{R:Rs}(h:Cd P R)(q:∀o,P o->Q o):Cd Q R:=by
 obtain⟨o,e,ho⟩:=h;exact⟨o,e,q _ ho⟩
def BuP(hi:Int)(out o:WL):Prop:=o[0]?=out[0]?/\∃x∈o,hi<=x
def p7{hi c:Int}(hr:2<=c/\c<=8)(hh:hi<=23270380000):∀(n:Nat),n<=100->∀(b:Int) (out:WL),1<=b->hi<=b*2 ^ n->out.length+n<=200->b∈out->(∀x∈out,1<=x/\x<=1000000000000)->Cd (λo=>out.length<=o.length/\o.length<=out.length+n/\BuP hi out o/\∀x∈o,1<=x/\x<=1000000000000) (gU out hi c b)
 |0,_,b,out,h1,h2,h3,h4,h5=>⟨out,Xx.1.2.2.2.1 _ _ _ _ _ (by rw[Ap]),Z,Z,⟨rfl,b,h4,Z⟩,h5⟩
 |n+1,hn,b,out,h1,h2,h3,h4,h5=>by
  by_cases e:b<hi
  .have hb:b*2<=b*c:=Int.mul_le_mul_of_nonneg_left hr.1 Z;have hb8:b*c<=b*8:=Int.mul_le_mul_of_nonneg_left hr.2 Z;have hw:w (b*c)=b*c:=VS Z Z;have hp:b*2*2 ^ n<=b*c*2 ^ n:=Int.mul_le_mul_of_nonneg_right hb (Int.pow_nonneg Z)
   have ih:=p7 hr hh n Z (b*c) (out++[b*c]) Z (by rw[Int.pow_succ,Int.mul_comm (2 ^ n) 2,<-Int.mul_assoc]at h2;omega) (by simp;omega) Om (λx hx=>by
    rcases Yi.1 hx with hx|hx
    .exact h5 x hx
    .rw[List.mem_singleton.1 hx];omega)
   refine(ih.of λr hr=>Xx.1.2.2.2.1 _ _ _ _ _ (by rw[Ya e,hw];exact⟨Z,hr⟩)).imp λo ho=>?_
   simp only[Yu,List.length_singleton]at ho;refine⟨Z,Z,⟨?_,ho.2.2.1.2⟩,ho.2.2.2⟩;rw[ho.2.2.1.1]
   cases out with
   |nil=>cases h4
   |cons=>rfl
  .exact⟨out,Xx.1.2.2.2.1 _ _ _ _ _ (by rw[Yb e]),Z,Z,⟨rfl,b,h4,Z⟩,h5⟩
def AbM{lo hi c:Int}(hr:2<=c/\c<=8)(h1:1<=lo)(h2:lo<=hi)(hh:hi<=23270380000):Cd (λo=>1<=o.length/\o.length<=41/\BuP hi [lo] o/\∀x∈o,1<=x/\x<=1000000000000) (gT lo hi c):=by
 have hp:lo*1<=lo*1:=Int.le_refl _;have h40:hi<=lo*2 ^ 40:=by
  have:1*2 ^ 40<=lo*2 ^ 40:=Int.mul_le_mul_of_nonneg_right h1 (Int.pow_nonneg Z)
  omega
 have e:=p7 hr hh 40 Z lo [lo] h1 h40 Om Om (by simp;omega);refine(e.of λr hr'=>Xx.1.2.2.2.2 _ _ _ _ ⟨_,ZH _ _ _,?_⟩).imp λo ho=>?_
 .rw[Ya (by simp[Ak];omega)];refine⟨_,ZH _ _ _,?_⟩;rw[Ya (by simp[Ak];omega)];refine⟨_,ZH _ _ _,?_⟩;rw[Ya (by simp[Ak];omega)];exact hr'
 .simp only[List.length_singleton]at ho;exact⟨ho.1,Z,ho.2.2⟩
section
variable{s:ZL}(hs:VG s)
include hs
def KO(s:ZL)(l:WL)(budget:Int)(k:Nat):Prop:=Kv s.Box (DR l k)<0\/budget<s.Costs.getD (Kv s.Box (DR l k)).toNat 0
def p9(s:ZL)(budget:Int)(i:Nat):Prop:=s.Costs.getD i 0<=budget/\∀k,k<s.Box.Low.length->KO s (Xk s.Box i) budget k
theorem AbN{P:WL->Prop}(budget:Int){out l:WL}(hl:Dx s.Box l)(ho:out.length<=1000)(i:Int)(n1:(∀k,k<l.length->KO s l budget k)->Cd P (F2 s (out++[i]) budget (w (i+1))))(n2:¬(∀k,k<l.length->KO s l budget k)->Cd P (F2 s out budget (w (i+1)))):∀k,k<=l.length->∀top:Bool,(top=true↔∀j,j<k->KO s l budget j)->Cd P (gY s out l budget i top k):=by
 have h1:=hs.cl;have h4:=hs.v4;obtain⟨b1,b2,b3,b4⟩:=WR hs.box;have e1:=hl.1;refine down _ ?_ ?_
 .intro top ht;rcases tf top with e|e<;>subst e
  .exact(n2 λh=>by have:=ht.2 h;cases this).of λr hr=>Xx.2.2.2.2.1 _ _ _ _ _ _ _ _ (by rw[Ap,Yb Om];exact hr)
  .exact(n1 (ht.1 rfl)).of λr hr=>Xx.2.2.2.2.1 _ _ _ _ _ _ _ _ (by rw[Ap,Ya rfl];exact⟨Z,hr⟩)
 .intro k hk ih top ht;have e:=AbJ hs.box hl hk;have hv:=Oy hs.box (DR l k);rw[hs.vol]at hv;have h5:=wS hk Z;have sp:(∀j,j<k+1->KO s l budget j)↔(∀j,j<k->KO s l budget j)/\KO s l budget k :=
   ⟨λh=>⟨λj hj=>h j Z,h k Z⟩,λh j hj=>by
    by_cases e:j=k
    .subst e;exact h.2
    .exact h.1 j Z⟩
  rcases tf top with e2|e2<;>subst e2
  .exact(ih false (by rw[sp,<-ht];simp)).of λr hr=>Xx.2.2.2.2.1 _ _ _ _ _ _ _ _ (by rw[Ao,h5];exact⟨_,e,by rw[Yb Om];exact hr⟩)
  .by_cases e3:Kv s.Box (DR l k)<0
   .exact(ih true (by rw[sp,<-ht];simp[KO,e3])).of λr hr=>Xx.2.2.2.2.1 _ _ _ _ _ _ _ _ (by rw[Ao,h5];exact⟨_,e,by rw[Ya rfl,Ya e3];exact hr⟩)
   .have hx:(Kv s.Box (DR l k)).toNat<s.Costs.length:=by omega
    exact(ih (decide (budget<s.Costs[(Kv s.Box (DR l k)).toNat])) (by rw[sp,<-ht,decide_eq_true_iff,KO,BK hx];exact⟨λh=>⟨rfl,.inr h⟩,λh=>h.2.resolve_left e3⟩)).of λr hr=>Xx.2.2.2.2.1 _ _ _ _ _ _ _ _ (by rw[Ao,h5];exact⟨_,e,by rw[Ya rfl,Yb e3];exact⟨Z,_,Yf hx,hr⟩⟩)
structure In (s:ZL) (budget:Int) (n:Nat) (o:WL):Prop where
 len:o.length<=n
 mem:∀x∈o,∃j:Nat,j<n/\x=(j:Int)/\p9 s budget j
 all:∀j:Nat,j<n->p9 s budget j->(j:Int)∈o
 nod:o.Nodup
omit hs in
theorem In.bd{budget:Int}{n:Nat}{o:WL}(h:In s budget n o):∀x∈o,0<=x/\x<n:=λx hx=>by
 obtain⟨j,h1,h2,_⟩:=h.mem x hx;omega
theorem AbO(budget:Int):∀i,i<=s.Costs.length->∀out:WL,In s budget i out->Cd (In s budget s.Costs.length) (F2 s out budget i):=by
 have h1:=hs.cl;have h4:=hs.v4;refine down _ ?_ ?_
 .intro out ho;exact⟨out,Xx.2.2.2.1 _ _ _ _ _ (by rw[Ap]),ho⟩
 .intro i hi ih out ho;have h5:=wS hi Z;have ho1:=ho.len
  have no:¬p9 s budget i->In s budget (i+1) out:=λhn=>⟨Z,λx hx=>by
    obtain⟨j,a,b,c⟩:=ho.mem x hx;exact⟨j,Z,b,c⟩,λj hj hf=>by
    by_cases e:j=i
    .subst e;exact absurd hf hn
    .exact ho.all j Z hf,ho.nod⟩
  by_cases e:budget<s.Costs[i]
  .exact(ih out (no λh=>by have:=h.1;rw[BK hi]at this;omega)).of λr hr=>Xx.2.2.2.1 _ _ _ _ _ (by rw[Ao,h5];exact⟨Z,_,gE hi,by rw[Ya e];exact hr⟩)
  .have hv:=hs.vol;have hb:=Zqj s.Box hs.leX hs.box (idx:=(i:Int)) Z Z;have hin:=Z09 hs.box (show(0:Int)<=(i:Int) by omega);have hle:=hin.1
   have:=AbN hs (P:=In s budget s.Costs.length) budget (out:=out) (l:=Xk s.Box i) hin Z (i:Int) (λhg=>by
    rw[h5];have hf:p9 s budget i:=⟨by rw[BK hi];omega,λk hk=>hg k Z⟩;refine ih _ ⟨by simp;omega,λx hx=>?_,λj hj hfj=>?_,?_⟩
    .rcases Yi.1 hx with hx|hx
     .obtain⟨j,a,b,c⟩:=ho.mem x hx;exact⟨j,Z,b,c⟩
     .rw[List.mem_singleton]at hx;exact⟨i,Z,hx,hf⟩
    .by_cases e:j=i
     .subst e;simp
     .exact E4 _ (ho.all j Z hfj)
    .rw[CA];refine⟨ho.nod,Om,λx hx y hy=>?_⟩;rw[List.mem_singleton]at hy;obtain⟨j,a,b,c⟩:=ho.mem x hx
     omega) (λhg=>by
    rw[h5]
    exact ih _ (no λh=>hg λk hk=>h.2 k Z)) 0 (Yc _) true Om
   exact this.of λr hr=>Xx.2.2.2.1 _ _ _ _ _ (by rw[Ao];exact⟨Z,_,gE hi,by rw[Yb e];exact⟨_,_,hb,hr⟩⟩)
theorem AbP(budget:Int):Cd (In s budget s.Costs.length) (L6 s budget) :=
 (AbO hs budget 0 (Yc _) [] ⟨Om,Om,λj hj=>by omega,Om⟩).of λr hr=>Xx.2.2.2.2.2 _ _ _ ⟨_,Il hs,by rw[Ya rfl];exact hr⟩
theorem AbQ(f:WL)(hf:f.length<=1000)(hr:∀x∈f,0<=x/\x<s.Costs.length):∀i,i<=f.length->∀out:WL,out.length<=i->(∀j (hj:j<f.length),j<i->s.Choices.getD f[j].toNat 0∈out)->Cd (λo=>o.length<=f.length/\∀x∈f,s.Choices.getD x.toNat 0∈o) (R3 s out f i):=by
 have h2:=hs.hl;have h3:=hs.cl;have h1:=hs.v1;have h4:=hs.v4;refine down _ ?_ ?_
 .intro out hl hx
  exact⟨out,X5.1.1.1.1 _ _ _ _ _ (by rw[Ap]),Z,λx hm=>by
   obtain⟨j,hj,rfl⟩:=List.mem_iff_getElem.1 hm
   exact hx j hj hj⟩
 .intro i hi ih out hl hx;have h5:=wS hi Z;have hw:w ((s.Choices.length:Int)-1)=(s.Choices.length:Int)-1:=VS Z Z;have e':=hr _ (Ye hi);have e:Ak f[i] 0 ((s.Choices.length:Int)-1)=true:=by simp[Ak];omega
  have hc:f[i].toNat<s.Choices.length:=by omega
  have hx':=Yf hc;have nx:∀o:WL,(∀y∈out,y∈o)->s.Choices[f[i].toNat]∈o->∀j (hj:j<f.length),j<i+1->s.Choices.getD f[j].toNat 0∈o:=λo h1 h2 j hj hj2=>by
   by_cases e:j=i
   .subst e;rw[BK hc];exact h2
   .exact h1 _ (hx j hj Z)
  rcases tf (has out s.Choices[f[i].toNat])with e2|e2
  .exact(ih (out++[s.Choices[f[i].toNat]]) (by simp;omega) (nx _ (λy hy=>by simp[hy]) Om)).of λr hr=>X5.1.1.1.1 _ _ _ _ _ (by
     rw[Ao,h5,hw]
     exact⟨_,Il hs,by rw[Ya rfl];exact⟨Z,_,gE hi,_,ZH _ _ _,by rw[e,Ya rfl];exact⟨e'.1,_,hx',_,Qn _ _ Z,by rw[e2,Yb Om];exact⟨Z,hr⟩⟩⟩⟩)
  .exact(ih out Z (nx _ (λy hy=>hy) (Q1.1 e2))).of λr hr=>X5.1.1.1.1 _ _ _ _ _ (by
     rw[Ao,h5,hw]
     exact⟨_,Il hs,by rw[Ya rfl];exact⟨Z,_,gE hi,_,ZH _ _ _,by rw[e,Ya rfl];exact⟨e'.1,_,hx',_,Qn _ _ Z,by rw[e2,Ya rfl];exact hr⟩⟩⟩)
theorem AbR(f:WL)(hf:f.length<=1000)(hr:∀x∈f,0<=x/\x<s.Costs.length):Cd (λo=>o.length<=f.length/\∀x∈f,s.Choices.getD x.toNat 0∈o) (gZ s f) :=
 (AbQ hs f hf hr 0 (Yc _) [] Om (λj hj h=>by omega)).of λr hr=>X5.1.1.1.2 _ _ _ hr
def Gw(m:Zf)(q:Zc)(s:ZL)(k i:Int):Int:=W1 m q.Zg q.Atoms ((s.Plans[k.toNat]?).getD ⟨[]⟩).Steps (Xa (Xk s.Box i))
def DS(m:Zf)(q:Zc)(s:ZL)(budget k i:Int):Bool:=Ak k 0 ((s.Plans.length:Int)-1) && decide (0<=Gw m q s k i) && decide (Gw m q s k i<=budget)
abbrev Dj(m:Zf)(q:Zc)(s:ZL)(budget k:Int)(left:WL):WL:=left.filter (DS m q s budget k)
variable{m:Zf}{q:Zc}(hm:Be m)(hq:AS q)
include hm hq
theorem qC(budget k:Int){i:Int}(h0:0<=i)(h1:i<Xd s.Box.Low s.Box.High):hU m q s k i budget=some (Bo (DS m q s budget k i),[]):=by
 have hv:=hs.vol;have h4:=hs.pl;have hb:=Zqj s.Box hs.leX hs.box (idx:=i) h0 Z;obtain⟨k1,k2⟩:=Tn hs.box h0;have l1:=pW k1;refine X5.2.2.2.2.2 _ _ _ _ _ _ _ ⟨_,_,hb,?_⟩;rw[Ya rfl];refine⟨_,Il hs,?_⟩;rw[Ya rfl];refine⟨_,ZH _ _ _,?_⟩;rw[VS (x:=(s.Plans.length:Int)-1) Z Z];unfold DS;rcases tf (Ak k 0 ((s.Plans.length:Int)-1))with e|e
 .rw[e,Yb Om];simp
 .have e':0<=k/\k<=(s.Plans.length:Int)-1:=by simpa[Ak]using e
  have hk:k.toNat<s.Plans.length:=by omega
  rw[e,Ya rfl];refine⟨e'.1,_,Yf hk,_,ZMI m hm q hq _ _ Z k1,?_⟩;have ec:Gw m q s k i=W1 m q.Zg q.Atoms s.Plans[k.toNat].Steps (Xa (Xk s.Box i)):=by unfold Gw;rw[Yf hk];rfl
  rw[<-ec];by_cases e3:0<=Gw m q s k i
  .rw[Ya e3];simp[e3]
  .rw[Yb e3];simp[e3]
theorem AbS(budget k:Int)(f:WL)(hl:f.length<=1000)(hf:∀x∈f,0<=x/\x<Xd s.Box.Low s.Box.High):∀i,i<=f.length->∀out:WL,out.length<=i->R9 m q s out k f budget i=some (.own 0,[.arr ZV 1 true ((out++Dj m q s budget k (f.drop i)).map ic)]):=by
 refine down _ ?_ ?_
 .intro out ho;apply Xu.1.1.1.1;rw[Ap];simp[Dj]
 .intro i hi ih out ho;have hx:=hf _ (Ye hi);apply Xu.1.1.1.1;rw[Ao,wS hi Z,Yh hi];refine⟨Z,_,gE hi,_,qC hs hm hq budget k hx.1 hx.2,?_⟩;unfold Dj at ih|-;rcases tf (DS m q s budget k f[i])with e|e
  .rw[e,Yb Om,List.filter_cons_of_neg (by simp[e])];exact ih _ Z
  .rw[e,Ya rfl,List.filter_cons_of_pos e];refine⟨Z,?_⟩;rw[ih _ (by simp;omega)];simp
theorem Oz(budget k:Int)(f:WL)(hl:f.length<=1000)(hf:∀x∈f,0<=x/\x<Xd s.Box.Low s.Box.High):hY m q s k f budget=some (.own 0,[.arr ZV 1 true ((Dj m q s budget k f).map ic)]) :=
 Xu.1.1.1.2 _ _ _ _ _ _ _ (by simpa using AbS hs hm hq budget k f hl hf 0 (Yc _) [] Om)
end
section
variable{s:ZL}(hs:VG s){m:Zf}{q:Zc}(hm:Be m)(hq:AS q)
theorem AbT{P:WL->Prop}(out l f:WL)(budget:Int)(hf:f.length<=1000)(c:∀left:WL,left.length<=f.length->(∀x,x∈left↔x∈f)->Cd P (Hx m q s out l left budget)):∀i,i<=f.length->∀left:WL,left.length<=i->(∀x∈left,x∈f)->(∀j (hj:j<f.length),j<i->f[j]∈left)->Cd P (Sb m q s out l left f budget i):=by
 refine down _ ?_ ?_
 .intro left h1 h2 h3;exact(c left h1 λx=>⟨h2 x,λhx=>by obtain⟨j,hj,rfl⟩:=List.mem_iff_getElem.1 hx;exact h3 j hj hj⟩).of λr hr=>Xu.1.1.2.1 _ _ _ _ _ _ _ _ _ _ (by rw[Ap];exact hr)
 .intro i hi ih left h1 h2 h3;have h5:=wS hi Z;rcases tf (has left f[i])with e|e
  .exact(ih (left++[f[i]]) (by simp;omega) (λx hx=>by
    rcases Yi.1 hx with hx|hx
    .exact h2 x hx
    .rw[List.mem_singleton.1 hx];exact Ye hi) (λj hj hj2=>by
    by_cases e:j=i
    .subst e;simp
    .exact E4 _ (h3 j hj Z))).of λr hr=>Xu.1.1.2.1 _ _ _ _ _ _ _ _ _ _ (by
     rw[Ao,h5]
     exact⟨Z,_,gE hi,_,Qn _ _ Z,by rw[e,Yb Om];exact⟨Z,hr⟩⟩)
  .exact(ih left Z h2 (λj hj hj2=>by
    by_cases e':j=i
    .subst e';exact Q1.1 e
    .exact h3 j hj Z)).of λr hr=>Xu.1.1.2.1 _ _ _ _ _ _ _ _ _ _ (by
     rw[Ao,h5]
     exact⟨Z,_,gE hi,_,Qn _ _ Z,by rw[e,Ya rfl];exact hr⟩)
abbrev OA(m:Zf)(q:Zc)(s:ZL)(budget k:Int)(left:WL):WL:=left.filter λx=>!has (Dj m q s budget k left) x
theorem AbU{P:WL->Prop}(out l left gone:WL)(budget:Int)(hl:left.length<=1000)(hg:gone.length<=1000)(ho:out.length<=1000){j:Nat}(hj:j<l.length)
  (c:Cd P (Hx m q s (out++[l[j]]) l (left.filter λx=>!has gone x) budget)):∀i,i<=left.length->∀nx:WL,nx++((left.drop i).filter λx=>!has gone x)=(left.filter λx=>!has gone x)->Cd P (iB m q s out l left gone nx budget j i):=by
 have hfl:(left.filter λx=>!has gone x).length<=left.length:=TA _ _;refine down _ ?_ ?_
 .intro nx hx;rw[Ym,List.filter_nil,E3]at hx;subst hx;exact c.of λr hr=>Xu.1.2.1.2 _ _ _ _ _ _ _ _ _ _ _ _ (by rw[Ap];exact⟨Z,_,gE hj,Z,hr⟩)
 .intro i hi ih nx hx;have h5:=wS hi Z;have hnl:nx.length<=left.length:=by
   have:=congrArg List.length hx;simp only[Yu]at this;omega
  rw[Yh hi]at hx;rcases tf (has gone left[i])with e|e
  .rw[List.filter_cons_of_pos (by simp[e])]at hx
   exact(ih (nx++[left[i]]) (by simpa using hx)).of λr hr=>Xu.1.2.1.2 _ _ _ _ _ _ _ _ _ _ _ _ (by
     rw[Ao,h5]
     exact⟨Z,_,gE hi,_,Qn _ _ Z,by rw[e,Yb Om];exact⟨Z,hr⟩⟩)
  .rw[List.filter_cons_of_neg (by simp[e])]at hx
   exact(ih nx hx).of λr hr=>Xu.1.2.1.2 _ _ _ _ _ _ _ _ _ _ _ _ (by
     rw[Ao,h5]
     exact⟨Z,_,gE hi,_,Qn _ _ Z,by rw[e,Ya rfl];exact hr⟩)
include hs hm hq
theorem AbV{P:WL->Prop}(out l left:WL)(budget:Int)(hl:left.length<=1000)(cd:l.length<=1000)(ho:out.length<=1000)(c:∀x∈left,0<=x/\x<Xd s.Box.Low s.Box.High)(hP:(∀(j:Nat) (hj:j<l.length),Dj m q s budget l[j] left=[])->P out)
  (cc:∀(j:Nat) (hj:j<l.length),Dj m q s budget l[j] left≠[]->Cd P (Hx m q s (out++[l[j]]) l (OA m q s budget l[j] left) budget)):∀k,k<=l.length->∀best most:Int,(best=-1/\most=0/\(∀(j:Nat) (hj:j<l.length),j<k->Dj m q s budget l[j] left=[])\/∃(j:Nat) (hj:j<l.length),best=j/\Dj m q s budget l[j] left≠[])->0<=most->Cd P (iA m q s out l left budget best most k):=by
 refine down _ ?_ ?_
 .intro best most hb hm0;rcases hb with⟨rfl,_,hc⟩|⟨j,hj,rfl,hc⟩
  .exact⟨out,Xu.1.2.1.1 _ _ _ _ _ _ _ _ _ _ _ (by rw[Ap,Ao]),hP λj hj=>hc j hj hj⟩
  .have hcl:(Dj m q s budget l[j] left).length<=left.length:=TA _ _;have:=AbU (m:=m) (q:=q) (s:=s) out l left (Dj m q s budget l[j] left) budget hl Z ho hj (cc j hj hc) 0 (Yc _) [] Om
   exact this.of λr hr=>Xu.1.2.1.1 _ _ _ _ _ _ _ _ _ _ _ (by
    rw[Ap,Ap]
    exact⟨Z,_,gE hj,_,Oz hs hm hq budget _ left hl c,hr⟩)
 .intro k hk ih best most hb hm0;have h5:=wS hk Z;by_cases e:most<((Dj m q s budget l[k] left).length:Int)
  .exact(ih (k:Int) ((Dj m q s budget l[k] left).length:Int) (.inr ⟨k,hk,rfl,λh=>by rw[h]at e;simp at e;omega⟩) Z).of λr hr=>Xu.1.2.1.1 _ _ _ _ _ _ _ _ _ _ _ (by
    rw[Ao,h5]
    exact⟨Z,_,gE hk,_,Oz hs hm hq budget _ left hl c,by rw[Ya e];exact hr⟩)
  .exact(ih best most (hb.imp (λh=>⟨h.1,h.2.1,λj hj hj2=>by
    by_cases e':j=k
    .subst e';have:=h.2.1;exact Tz.1 Z
    .exact h.2.2 j hj Z⟩) id) hm0).of λr hr=>Xu.1.2.1.1 _ _ _ _ _ _ _ _ _ _ _ (by
    rw[Ao,h5]
    exact⟨Z,_,gE hk,_,Oz hs hm hq budget _ left hl c,by rw[Yb e];exact hr⟩)
structure qD (m:Zf) (q:Zc) (s:ZL) (budget:Int) (n:Nat) (out left o:WL):Prop where
 len:o.length<=out.length+n
 old:∀y∈out,y∈o
 cov:∀x∈left,∃k∈o,DS m q s budget k x=true
theorem qE(l:WL)(budget:Int)(c:l.length<=1000):∀(n:Nat) (left:WL),left.length<=n->(∀x∈left,0<=x/\x<Xd s.Box.Low s.Box.High)->(∀x∈left,∃k∈l,DS m q s budget k x=true)->∀out:WL,out.length+n<=1000->Cd (qD m q s budget n out left) (Hx m q s out l left budget)
 |n,[],_,_,_,out,_=>⟨out,Xu.1.1.2.2 _ _ _ _ _ _ _ _ (by rw[Yb Om]),Z,λy hy=>hy,Om⟩
 |0,x::left,hn,_,_,_,_=>by simp at hn
 |n+1,x::left,hn,hleft,hcv,out,ho=>by
  have:=AbV hs hm hq (P:=qD m q s budget (n+1) out (x::left)) out l (x::left) budget Z c Z hleft (λhc=>by
   obtain⟨k,hk,hx⟩:=hcv x Om;obtain⟨j,hj,rfl⟩:=List.mem_iff_getElem.1 hk;have:=hc j hj;rw[OL]at this
   exact absurd hx (this x Om)) (λj hj hc=>by
   have hsub:(OA m q s budget l[j] (x::left)).length<=n:=by
    have:(OA m q s budget l[j] (x::left)).length<(x::left).length:=by
     obtain⟨y,hy⟩:=List.exists_mem_of_ne_nil _ hc;refine List.length_filter_lt_length_iff_exists.2 ⟨y,(CB.1 hy).1,?_⟩
     have:has (Dj m q s budget l[j] (x::left)) y=true:=Q1.2 hy
     simp[this]
    omega
   refine(qE l budget c n _ hsub (λy hy=>hleft y ((CB.1 hy).1)) (λy hy=>hcv y ((CB.1 hy).1)) (out++[l[j]]) (by simp;omega)).imp λo h=>⟨by have:=h.len;simp at this;omega,λy hy=>h.old y (by simp[hy]),λy hy=>?_⟩
   rcases tf (has (Dj m q s budget l[j] (x::left)) y)with e|e
   .exact h.cov y (CB.2 ⟨hy,by simp[e]⟩)
   .exact⟨l[j],h.old _ Om,(CB.1 (Q1.1 e)).2⟩) 0 (Yc _) (-1) 0 (.inl ⟨rfl,rfl,λj hj h=>by omega⟩) Z
  exact this.of λr hr=>Xu.1.1.2.2 _ _ _ _ _ _ _ _ (by rw[Ya Om];exact hr)
theorem qF(f:WL)(budget:Int)(hf:f.length<=400)(c:∀x∈f,0<=x/\x<Xd s.Box.Low s.Box.High)(cc:∀x∈f,DS m q s budget (s.Choices.getD x.toNat 0) x=true):Cd (λo=>o.length<=f.length/\∀x∈f,∃k∈o,DS m q s budget k x=true) (Sa m q s f budget):=by
 have h1:=hs.cl;obtain⟨l,e,hl,hc⟩:=AbR hs f Z (λx hx=>by have:=c x hx;omega);exact(AbT (m:=m) (q:=q) (s:=s) [] l f budget Z (λleft h1 h2=>(qE hs hm hq l budget Z f.length left Z (λx hx=>c x ((h2 x).1 hx)) (λx hx=>⟨_,hc x ((h2 x).1 hx),cc x ((h2 x).1 hx)⟩) [] (by simp;omega)).imp λo h=>⟨by simpa using h.len,λx hx=>h.cov x ((h2 x).2 hx)⟩) 0 (Yc _) [] Om Om (λj hj h=>by omega)).of λr hr=>Xu.1.2.2.1 _ _ _ _ _ _ ⟨_,e,hr⟩
end
def q3{a b c d:Int}(hb:0<b)(hd:0<d):(c / d<a / b->c*b<a*d)/\(a*d-c*b=(b*d)*(a / b-c / d)+((a % b)*d-(c % d)*b)):=by
 have e1:=Int.mul_ediv_add_emod a b;have e2:=Int.mul_ediv_add_emod c d;have a0:=Int.emod_nonneg a (show b≠0 by omega);have a1:=Int.emod_lt_of_pos a hb;have c0:=Int.emod_nonneg c (show d≠0 by omega);have c1:=Int.emod_lt_of_pos c hd;generalize a / b=x at *
 generalize c / d=y at *
 generalize a % b=α at *
 generalize c % d=γ at *
 have key:a*d-c*b=(b*d)*(x-y)+(α*d-γ*b):=by
  rw[<-e1,<-e2,Int.add_mul,Int.add_mul,Int.mul_sub,show b*x*d=b*d*x by ac_rfl,show d*y*b=b*d*y by ac_rfl];omega
 refine⟨λh=>?_,key⟩;have h1:b*d*1<=b*d*(x-y):=Int.mul_le_mul_of_nonneg_left Z (Int.le_of_lt (Int.mul_pos hb hd));have h2:γ*b<d*b:=Int.mul_lt_mul_of_pos_right c1 hb;have h3:0<=α*d:=Int.mul_nonneg a0 Z;rw[Int.mul_comm d b]at h2;omega
def qJ{m:Zf}(ha:WD m)(k:Int):XG (BC m k):=by
 obtain⟨h1,h2,h3,h4,h5⟩:=ha;unfold BC
 repeat' split
 all_goals assumption
def ZN0{m:Zf}(ha:WD m){sizes:WL}(hc:U0 sizes)(info:List Zp)(x:Zn)(y:Zp):1<=WN m info sizes x y/\WN m info sizes x y<=1662170000:=by
 refine⟨?_,(Z8E _ _ _ _).2⟩;unfold WN;obtain⟨a,a1,a2⟩:∃a,(0<=a/\a<=7)/\(if y.Left<0 then Z5 sizes y.Mask else Z5 sizes (Vo info y.Left))=Xi a:=by split<;>exact lK hc _
 obtain⟨b,b1,b2⟩:∃a,(0<=a/\a<=7)/\(if y.Right<0 then 0 else Z5 sizes (Vo info y.Right))=Xi a:=by
  split
  .exact⟨0,Z,Sm⟩
  .exact lK hc _
 obtain⟨c,c1,c2⟩:=lK hc y.Mask;rw[a2,b2,c2];exact Z8F (qJ ha _) a1 b1 c1
def ZBy{m:Zf}(ha:WD m){sizes:WL}(hc:U0 sizes)(info:List Zp):∀(xs:List Zn) (ys:List Zp),∀c∈XO m info sizes xs ys,1<=c/\c<=1662170000
 |[],_,c,h=>by simp[XO]at h
 |_::_,[],c,h=>by simp[XO]at h
 |x::xs,y::ys,c,h=>by
  rw[XO]at h
  cases h with
  |head=>exact ZN0 ha hc info x y
  |tail _ h=>exact ZBy ha hc info xs ys c h
def ZBz:∀(xs:WL) (n:Int),(∀x∈xs,1<=x/\x<=1662170000)->0<=n->n+1662170000*xs.length<=1000000000000->n+xs.length<=Wb xs n/\Wb xs n<=n+1662170000*xs.length
 |[],n,_,_,_=>by simp[Wb]
 |x::xs,n,h,h0,hB=>by
  have h1:=h x Om;simp only[Yy,Ys,Yt]at hB|-;have:=ZBz xs (n+x) (λy hy=>h y (by simp[hy])) Z Z;rw[Wb,Y6,ZO (x:=n+x) Z Z];rw[Wb]at this;omega
def ZB0{m:Zf}(ha:WD m){n:Int}{qa:List Zd}{steps:List Zn}{sizes:WL}(hc:U0 sizes)(hs:WK n qa sizes=true)(hi:(XL n qa steps).isSome=true):1<=W1 m n qa steps sizes/\W1 m n qa steps sizes<=23270380000:=by
 have hh:Kj n qa steps sizes=true:=by simp[Kj,hi,hs]
 have hne:=Zpt (m:=m).2 hh;have hl:=Zzu (m:=m) (n:=n) (qa:=qa) (steps:=steps) (sizes:=sizes);unfold W1;rw[Ya hh];have hp:∀c∈Uz m n qa steps sizes,1<=c/\c<=1662170000:=by
  unfold Uz
  cases XL n qa steps with
  |none=>simp
  |some info=>simp only[hs,if_true];exact ZBy ha hc info steps info
 have:=ZBz _ 0 hp Z Z
 have:0<(Uz m n qa steps sizes).length:=Y4.2 hne
 omega
def ZN1{m:Zf}{n:Int}{qa:List Zd}{sizes:WL}{steps:List Zn}{y:MO}{c:Int}(hv:Z3 n qa=true)(hl:1<=steps.length/\steps.length<=14)(h:XA m sizes qa steps [] 0=some ([y],c)):(XL n qa steps).isSome=true:=by
 have g:=Zzv m sizes qa steps [] [] 0 (λs h=>by simp at h);simp only[Ff,List.reverse_nil]at g;have hr:Ak (steps.length:Int) 1 14=true:=by simp[Ak];omega
 cases hg:WG qa steps 0 [] []with
 |none=>rw[hg]at g;simp only[vw,Dm]at g;rw[g]at h;cases h
 |some p =>
  obtain⟨Bh,st'⟩:=p;rw[hg]at g;obtain⟨tail,a,b,d⟩:=g;simp only[vw,Dm]at d;rw[d]at h;simp only[DW]at a;subst a
  cases h':st'.reverse with
  |nil=>rw[h']at h;simp at h
  |cons s rs =>
   rw[h']at h;simp only[Yx,Y7,CW,Tv,List.map_eq_nil_iff]at h;have hlen:st'.length=1:=by rw[<-List.length_reverse,h',h.1.2];rfl
   simp[XL,hv,hr,hg,hlen]
def ZB1{m:Zf}{q:Zc}{sizes:WL}(bb:Qb m q sizes)(ha:WD m)(hc:Wm q.Zg q.Atoms (Z7 q.Zg q.Atoms)=true):1<=(opt m q sizes).Cost/\(opt m q sizes).Cost<=23270380000:=by
 have H:=pU bb hc;have hb:=H.best;have hm:=H.makes _ hb;have hl:=H.len _ hb;have h16:AX (Z7 q.Zg q.Atoms):=((Zqf bb.hv).m16 bb.hv).1;have h4:=J8 h16;have hl2:1<=(opt m q sizes).Zj.Steps.length/\(opt m q sizes).Zj.Steps.length<=14:=by unfold opt;omega
 have e:=hm.cost bb.hv hl2 bb.hsv;have:=ZB0 ha bb.hcl bb.hsv (ZN1 bb.hv hl2 hm);have e2:W1 m q.Zg q.Atoms (opt m q sizes).Zj.Steps sizes=(opt m q sizes).Cost:=e;rw[e2]at this;exact this
def ZB2{m:Zf}{q:Zc}{b:Z6}(hm:Be m)(hq:AS q)(h:pY m q b){l:WL}(h1:Xs l=true)(h2:l.length=b.Box.Low.length){p:Int}(hp:p.toNat<b.Plans.length):1<=pc m q b l p/\pc m q b l p<=23270380000:=by
 have hf:=JA h.1;have bb:=ZBp hm hq h h1 h2;refine ZB0 h.2.2 bb.hcl bb.hsv ?_;have hpl:=hf.pl _ (Ye hp);have e:Gv b p=b.Plans[p.toNat]:=by unfold Gv;rw[Yf hp];rfl
 rw[e]
 cases hi:XL q.Zg q.Atoms b.Plans[p.toNat].Steps with
 |none =>
  unfold JS at hpl;rw[hi]at hpl;have:=vP hf.hv
  simp at hpl;omega
 |some _=>rfl
def Tq{q:Zc}{b:Z6}(hf:BqF q b){k:Nat}(hk:k<b.Budgets.length):0<=Bw b k/\Bw b k<=1000000000000:=by
 have h1:=hf.bu _ (Ye hk);have h2:=hf.sl;unfold Bw Us;rw[Yf hk];simp only[Ak,Yd,decide_eq_true_eq]at h1 h2;have hr:Ak b.Budgets[k] 0 1000000000000=true/\Ak b.Slack 0 100=true:=by simp[Ak];omega
 have m1:b.Budgets[k]*(100+b.Slack)<=500000000000*200:=Int.mul_le_mul h1.2 Z Z Z;have m2:0<=b.Budgets[k]*(100+b.Slack):=Int.mul_nonneg Z Z;simp only[Option.getD_some];rw[Ya hr,Int.tdiv_eq_ediv_of_nonneg m2];constructor
 .exact Int.ediv_nonneg m2 Z
 .omega
def XU(m:Zf)(q:Zc)(b:Z6)(l:WL)(sl:Int):WL->Int->Int×Bool
 |[],t=>(t,false)
 |p::ps,t=>if pc m q b l p<=sl then(w (t+pc m q b l p),true)else XU m q b l sl ps (w (t+sl))
def Vs(m:Zf)(q:Zc)(b:Z6)(l:WL):XV->Nat->Int->Int×Bool
 |[],_,t=>(t,false)
 |c::cs,k,t=>if(XU m q b l (Bw b k) c t).2=true then XU m q b l (Bw b k) c t else Vs m q b l cs (k+1) (XU m q b l (Bw b k) c t).1
def Zql{m:Zf}{q:Zc}{b:Z6}{l:WL}{sl p t:Int}{ps:WL}(e:pc m q b l p<=sl):XU m q b l sl (p::ps) t=(w (t+pc m q b l p),true):=Ya e
def Zqm{m:Zf}{q:Zc}{b:Z6}{l:WL}{sl p t:Int}{ps:WL}(e:¬pc m q b l p<=sl):XU m q b l sl (p::ps) t=XU m q b l sl ps (w (t+sl)):=Yb e
def Ts{m:Zf}{q:Zc}{b:Z6}{l:WL}{k:Nat}{t:Int}{c:WL}{cs:XV}(e:(XU m q b l (Bw b k) c t).2=true):Vs m q b l (c::cs) k t=XU m q b l (Bw b k) c t:=Ya e
def Zqn{m:Zf}{q:Zc}{b:Z6}{l:WL}{k:Nat}{t:Int}{c:WL}{cs:XV}(e:(XU m q b l (Bw b k) c t).2=false):Vs m q b l (c::cs) k t=Vs m q b l cs (k+1) (XU m q b l (Bw b k) c t).1:=Yb (by rw[e];simp)
def tot(m:Zf)(q:Zc)(b:Z6)(l:WL):Int:=(Vs m q b l b.Contours 0 0).1
def U8:XV->Int
 |[]=>0
 |c::cs=>c.length+U8 cs
def Zqo:∀cs,0<=U8 cs
 |[]=>by simp[U8]
 |c::cs=>by have:=Zqo cs;simp[U8];omega
section
variable{m:Zf}{q:Zc}{b:Z6}(hm:Be m)(hq:AS q)(hb:EY b)(h:pY m q b){l:WL}(h1:Xs l=true)(h2:l.length=b.Box.Low.length)
include hm hq hb h h1 h2
theorem ZN2(k:Nat)(hk:k<b.Contours.length):∀i,i<=b.Contours[k].length->∀t z,
  ((XU m q b l (Bw b k) (b.Contours[k].drop i) t).2=true->z=(.tup [I (XU m q b l (Bw b k) (b.Contours[k].drop i) t).1,Bo true],[]))->((XU m q b l (Bw b k) (b.Contours[k].drop i) t).2=false->Sq m q b l (XU m q b l (Bw b k) (b.Contours[k].drop i) t).1 b.Contours b.Contours.length ((k+1:Nat):Int)=some z)->jN m q b l t (Bw b k) b.Contours b.Contours.length k b.Contours[k] b.Contours[k].length i=some z:=by
 have hf:=JA h.1;have hc:=hf.co _ (Ye hk);have hlen:=hb.2.2.2.2.2 _ (Ye hk);have hcl:=hb.2.2.2.2.1;have l1:=pW h1;refine down _ ?_ ?_
 .intro t z _ h0;rw[Ym]at h0;have h5:=ZK (i:=k) Z;apply Uv.1.1.2.2;rw[Ap,show w ((k:Int)+1)=((k+1:Nat):Int)from by rw[show w ((k:Int)+1)=(k:Int)+1 from h5];simp];exact h0 rfl
 .intro i hi ih t z h1' h0;have h5:=ZK (i:=i) Z;obtain⟨p1,p2⟩:=hc.2 _ (Ye hi);rw[Yh hi]at h1' h0;apply Uv.1.1.2.2;rw[Ao];refine⟨Z,b.Contours[k][i],by rw[Yj];exact Yf hi,p1,_,ZNv p2,_,ZMH m hm q hq _ l Z h1,?_⟩;rw[show w ((i:Int)+1)=((i+1:Nat):Int)from by rw[show w ((i:Int)+1)=(i:Int)+1 from h5];simp];show if pc m q b l b.Contours[k][i]<=Bw b k then _ else _;by_cases e:pc m q b l b.Contours[k][i]<=Bw b k
  .rw[Zql e]at h1';rw[Ya e,h1' rfl];rfl
  .rw[Zqm e]at h1' h0;rw[Yb e];exact ih _ z h1' h0
theorem ZN3:∀k,k<=b.Contours.length->∀t,Sq m q b l t b.Contours b.Contours.length k=some (if(Vs m q b l (b.Contours.drop k) k t).2=true then .tup [I (Vs m q b l (b.Contours.drop k) k t).1,Bo true]else .tup [I 0,Bo false],[]):=by
 have hf:=JA h.1;have hcl:=hb.2.2.2.2.1;refine down _ ?_ ?_
 .intro t;apply Uv.1.1.2.1;rw[Ap];simp[Vs]
 .intro k hk ih t;have hk2:k<b.Budgets.length:=by have:=hf.cl;omega
  apply Uv.1.1.2.1;rw[Ao];refine⟨Z,b.Contours[k],by rw[Yj];exact Yf hk,b.Budgets[k],by rw[Yj];exact Yf hk2,_,ZIX _ _,?_⟩;have es:Us b.Budgets[k] b.Slack=Bw b k:=by unfold Bw;rw[Yf hk2];rfl
  rw[es,Yh hk];refine ZN2 hm hq hb h h1 h2 k hk 0 (Yc _) t _ (λe=>?_) (λe=>?_)
  .rw[Yq]at e|-;rw[Ts e,Ya e]
  .rw[Yq]at e|-;rw[Zqn e];exact ih _
theorem ZN4:Zpc m q b l=some (if(Vs m q b l b.Contours 0 0).2=true then .tup [I (tot m q b l),Bo true]else .tup [I 0,Bo false],[]) :=
 Uv.1.2.1 _ _ _ _ _ (ZN3 hm hq hb h h1 h2 0 (Yc _) 0)
omit hb in
theorem Zqp{sl:Int}(hs:0<=sl/\sl<=1000000000000):∀(c:WL) (t:Int),(∀p∈c,p.toNat<b.Plans.length)->0<=t->t+1000000000000*c.length<=9000000000000000000->
  t<=(XU m q b l sl c t).1/\(XU m q b l sl c t).1<=t+1000000000000*c.length/\((XU m q b l sl c t).2=true->t+1<=(XU m q b l sl c t).1)
 |[],t,_,_,_=>by simp[XU]
 |p::ps,t,hp,h0,hB=>by
  have hpc:=ZB2 hm hq h h1 h2 (hp p Om);simp only[Yy,Ys,Yt]at hB|-;by_cases e:pc m q b l p<=sl
  .rw[Zql e,ZO (x:=t+pc m q b l p) Z Z];exact⟨by simp;omega,by simp;omega,λ_=>by simp;omega⟩
  .rw[Zqm e,ZO (x:=t+sl) Z Z];have:=Zqp hs ps (t+sl) (λx hx=>hp x (by simp[hx])) Z Z;exact⟨Z,Z,λhh=>by have:=this.2.2 hh;omega⟩
omit hb in
theorem ZB3:∀(cs:XV) (k:Nat) (t:Int),(∀c∈cs,∀p∈c,p.toNat<b.Plans.length)->k+cs.length<=b.Budgets.length->0<=t->t+1000000000000*U8 cs<=9000000000000000000->
  t<=(Vs m q b l cs k t).1/\(Vs m q b l cs k t).1<=t+1000000000000*U8 cs/\((Vs m q b l cs k t).2=true->t+1<=(Vs m q b l cs k t).1)
 |[],k,t,_,_,_,_=>by simp[Vs,U8]
 |c::cs,k,t,hp,hk,h0,hB=>by
  have hf:=JA h.1;have hn:=Zqo cs;simp only[U8]at hB|-;simp only[Yy]at hk;have hc:=Zqp hm hq h h1 h2 (Tq hf (k:=k) Z) c t (hp c Om) h0 Z;rcases tf (XU m q b l (Bw b k) c t).2 with e|e
  .rw[Zqn e];have:=ZB3 cs (k+1) (XU m q b l (Bw b k) c t).1 (λx hx=>hp x (by simp[hx])) Z Z Z;exact⟨Z,Z,λhh=>by have:=this.2.2 hh;omega⟩
  .rw[Ts e];exact⟨Z,Z,λ_=>hc.2.2 e⟩
end
def Z0A{m:Zf}{q:Zc}{b:Z6}{l:WL}{sl:Int}:∀{c:WL} {t:Int},(c.any λp=>decide (pc m q b l p<=sl))=true->(XU m q b l sl c t).2=true
 |[],t,h=>by simp at h
 |p::ps,t,h=>by
  by_cases e:pc m q b l p<=sl
  .rw[Zql e]
  .rw[Zqm e];simp only[Iw,rF,decide_eq_true_eq]at h;exact Z0A (h.resolve_left e)
def ZB4{m:Zf}{q:Zc}{b:Z6}{l:WL}:∀{cs:XV} {k j:Nat} {t:Int} (hj:j<cs.length),(cs[j].any λp=>decide (pc m q b l p<=Bw b (k+j)))=true->(Vs m q b l cs k t).2=true
 |c::cs,k,0,t,_,h=>by
  have:=Z0A (t:=t) h;simp only[Dz,List.getElem_cons_zero]at this
  rw[Ts this];exact this
 |c::cs,k,j+1,t,hj,h=>by
  rcases tf (XU m q b l (Bw b k) c t).2 with e|e
  .rw[Zqn e];refine ZB4 (j:=j) (by simpa using hj) ?_;rw[show k+1+j=k+(j+1) by omega];simpa using h
  .rw[Ts e];exact e
abbrev WS:=WL×Int×Int
def wst(m:Zf)(q:Zc)(b:Z6)(s:WS)(l:WL):WS:=if s.2.1*(opt m q (Xa l)).Cost<tot m q b l*s.2.2 then(l,tot m q b l,(opt m q (Xa l)).Cost)else s
def worst(m:Zf)(q:Zc)(b:Z6):WL:=((pX b.Box).foldl (wst m q b) ([],0,1)).1
structure Acb (s:WS):Prop where
 t0:0<=s.2.1
 t1:s.2.1<=9000000000000000000
 o0:1<=s.2.2
 o1:s.2.2<=23270380000
structure Acu (m:Zf) (q:Zc) (b:Z6) (l:WL):Prop where
 h1:Xs l=true
 h2:l.length=b.Box.Low.length
 fd:(Vs m q b l b.Contours 0 0).2=true
 t0:1<=tot m q b l
 t1:tot m q b l<=9000000000000000000
 o0:1<=(opt m q (Xa l)).Cost
 o1:(opt m q (Xa l)).Cost<=23270380000
def AbW(a b:Zj)(h:a.Steps.length=b.Steps.length)(hl:a.Steps.length<=1000):∀i,i<=a.Steps.length->∃z,L5 a b i=some (Bo z,[])/\(z=true->∀j,i<=j->a.Steps[j]?=b.Steps[j]?):=by
 refine down _ ?_ ?_
 .exact⟨_,Zze _ _ _ _ (by rw[Ap]),λ_ j hj=>by rw[It Z,It Z]⟩
 .intro i hi ih;obtain⟨z,e,hz⟩:=ih;have h5:=wS hi Z;by_cases hc:a.Steps[i].Kind=(b.Steps[i]' Z).Kind/\a.Steps[i].Zd=(b.Steps[i]' Z).Zd/\a.Steps[i].Order=(b.Steps[i]' Z).Order
  .refine⟨z,Zze _ _ _ _ (by rw[Ao,h5];exact⟨Z,_,gE hi,_,gE Z,by rw[Ya hc];exact e⟩),λh' j hj=>?_⟩;by_cases e':j=i
   .subst e';rw[Yf hi,Yf Z];exact congrArg some (Zn.ext hc.1 hc.2.1 hc.2.2)
   .exact hz h' j Z
  .exact⟨_,Zze _ _ _ _ (by rw[Ao,h5];exact⟨Z,_,gE hi,_,gE Z,by rw[Yb hc]⟩),λh=>by cases h⟩
def AbX(a b:Zj)(hl:a.Steps.length<=1000):∃z,zW a b=some (Bo z,[])/\(z=true->a.Steps=b.Steps):=by
 by_cases h:a.Steps.length=b.Steps.length
 .obtain⟨z,e,hz⟩:=AbW a b h hl 0 (Yc _);exact⟨z,WJ.2.2.1.2 _ _ _ (by rw[Ao];exact e),λh=>List.ext_getElem? λj=>hz h j (Yc _)⟩
 .exact⟨_,WJ.2.2.1.2 _ _ _ (by rw[Ap]),λh=>by cases h⟩
def AbY(p:Zj)(l:List Zj)(hl:l.length<=1000)(hs:∀x∈l,x.Steps.length<=1000):∀i,i<=l.length->∃k,gM p l i=some (I k,[])/\k<l.length/\(0<=k->l[k.toNat]?=some p):=by
 refine down _ ?_ ?_
 .exact⟨_,WJ.2.2.2.1 _ _ _ _ (by rw[Ap]),Z,λh=>by omega⟩
 .intro i hi ih;obtain⟨k,e,hk,hp⟩:=ih;obtain⟨z,e2,hz⟩:=AbX l[i] p (hs _ (Ye hi));have h5:=wS hi Z;rcases tf z with hz'|hz'<;>subst hz'
  .exact⟨k,WJ.2.2.2.1 _ _ _ _ (by rw[Ao,h5];exact⟨Z,_,gE hi,_,e2,by rw[Yb Om];exact e⟩),hk,hp⟩
  .refine⟨i,WJ.2.2.2.1 _ _ _ _ (by rw[Ao,h5];exact⟨Z,_,gE hi,_,e2,by rw[Ya rfl]⟩),Z,λ_=>?_⟩;rw[Yj,Yf hi];exact congrArg some (Zj.ext (hz rfl))
def AbZ(p:Zj)(l:List Zj)(hl:l.length<=1000)(hs:∀x∈l,x.Steps.length<=1000):∃k,gL l p=some (I k,[])/\k<l.length/\(0<=k->l[k.toNat]?=some p):=by
 obtain⟨k,e,hk⟩:=AbY p l hl hs 0 (Yc _);exact⟨k,WJ.2.2.2.2 _ _ _ e,hk⟩
def qK(p:Zj):gK p=some (I (-1),[]):=WJ.2.2.1.1 _ _ (WJ.2.1.2.2 _ _ _ (by rw[Ap]))
def Tt(m:Zf)(q:Zc)(b:Box)(i:Nat):Ze:=opt m q (Xa (Xk b i))
structure Fd (m:Zf) (q:Zc) (b:Box) (cs hs:WL) (ps:List Zj):Prop where
 co:∀j (h:j<cs.length),cs[j]=(Tt m q b j).Cost
 ch:∀j (h:j<hs.length),ps[hs[j].toNat]?=some (Tt m q b j).Zj
def Fd.add{m:Zf}{q:Zc}{b:Box}{cs hs:WL}{ps:List Zj}(h:Fd m q b cs hs ps){n:Nat}(e1:cs.length=n)(e2:hs.length=n){a k:Int}{ps':List Zj}(ha:a=(Tt m q b n).Cost)(hp:∀(j:Nat) p,ps[j]?=some p->ps'[j]?=some p)(hk:ps'[k.toNat]?=some (Tt m q b n).Zj):Fd m q b (cs++[a]) (hs++[k]) ps':=by
 constructor
 .intro j hj;by_cases e:j<cs.length
  .rw[List.getElem_append_left e];exact h.co j e
  .have:j=n:=by simp at hj;omega
   subst this;rw[List.getElem_append_right Z];simpa using ha
 .intro j hj;by_cases e:j<hs.length
  .rw[List.getElem_append_left e];exact hp _ _ (h.ch j e)
  .have:j=n:=by simp at hj;omega
   subst this;rw[List.getElem_append_right Z];simpa using hk
def qP(m:Zf)(q:Zc)(b:Box)(R:Rs):Prop:=∃s:ZL,R=some (.tup [.agg (s.c.map .t),Bo true],[])/\VG s/\s.Box=b/\Fd m q b s.Costs s.Choices s.Plans
def qP.of{m:Zf}{q:Zc}{b:Box}{R R':Rs}(h:qP m q b R')(k:∀r,R'=some r->R=some r):qP m q b R:=by
 obtain⟨o,e,ho⟩:=h;exact⟨o,k _ e,ho⟩
def OB{m:Zf}{q:Zc}{sizes:WL}(bb:Qb m q sizes)(hc:Wm q.Zg q.Atoms (Z7 q.Zg q.Atoms)=true):W1 m q.Zg q.Atoms (opt m q sizes).Zj.Steps sizes=(opt m q sizes).Cost:=by
 have H:=pU bb hc;have hb:=H.best;have hl:=H.len _ hb;have h16:AX (Z7 q.Zg q.Atoms):=((Zqf bb.hv).m16 bb.hv).1;have h4:=J8 h16;exact(H.makes _ hb).cost bb.hv Z bb.hsv
section
variable{m:Zf}{q:Zc}{b:Box}(hm:Be m)(hq:AS q)(ha:WD m)(hc:Wm q.Zg q.Atoms (Z7 q.Zg q.Atoms)=true)(hv:Z3 q.Zg q.Atoms=true)(h1:1<=Xd b.Low b.High)(h4:Xd b.Low b.High<=400)(hl:(b.Low.length:Int)=Z7 q.Zg q.Atoms+1)
include hm hq ha hc hv h1 h4 hl
theorem ZB5{i:Nat}(hi:(i:Int)<Xd b.Low b.High):∃(l z:WL) (c:Bool) (fr:Bool) (ent:List Ze) (st:List Zn) (a1 a2 a3:Int),
  Kc b i=some (.tup [.own 0,Bo c],[.arr ZV 1 true (l.map ic)])/\K8 l=some (.own 0,[.arr ZV 1 true (z.map ic)])/\
  F1 (shapes q) z m q=some (.own 2,[.arr 158 3 true ((shapes q).map ZU.c),.arr ZV 1 true (z.map ic),.arr 117 4 fr (ent.map Ze.c)])/\
  Qm ent (Z7 q.Zg q.Atoms)=some (.tup [.agg [I a1,I a2,I a3,.own 0],Bo true],[.arr 210 3 true (st.map Zn.c)])/\1<=a3/\a3<=23270380000/\st.length<=1000/\a3=(Tt m q b i).Cost/\(⟨st⟩:Zj)=(Tt m q b i).Zj:=by
 have h0:(0:Int)<=(i:Int):=by omega
 obtain⟨hb,hvv⟩:=p5 h4 h1;obtain⟨b1,b2,b3,b4⟩:=WR hb;have hx:E0 b:=⟨Z,Z⟩;obtain⟨k1,k2⟩:=Tn hb h0;have l1:=pW k1;have bb:=Z06 hm ha hq hv k1 Z;have hle:=Z05 bb (Yk (ZI q.Atoms).length);have hs:=Zzr (Xk b i) Z;rw[k1,Ya rfl]at hs;obtain⟨fr,ht⟩:=ZBh bb;have ho:=ZB1 bb ha hc;have hst:=ZBd bb (Yk (ZI q.Atoms).length);have hne:=(pU bb hc).ne;refine⟨_,_,_,_,_,_,_,_,_,Zqj b hx hb h0 Z,hs,ht,ZBi _ _ Z hne hst,ho.1,ho.2,?_,rfl,rfl⟩;have H:=(pU bb hc);have hl:=H.len _ H.best;have h16:AX (Z7 q.Zg q.Atoms):=((Zqf bb.hv).m16 bb.hv).1;have h4:=J8 h16;show(opt m q (Xa (Xk b i))).Zj.Steps.length<=1000;unfold opt;omega
theorem Z0B:∀n:Nat,∀i:Nat,(i:Int)+n=Xd b.Low b.High->1<=i->∀(cs hs:WL) (ps:List Zj),cs.length=i->hs.length=i->ps.length<=i->(∀c∈cs,1<=c/\c<=23270380000)->(∀c∈hs,0<=c/\c<ps.length)->(∀p∈ps,p.Steps.length<=1000)->Fd m q b cs hs ps->
  qP m q b (RZ m q b b.Low b.High cs hs ps (shapes q) (Xd b.Low b.High) (Z7 q.Zg q.Atoms) i)
 |0,i,hi,_,cs,hs,ps,e1,e2,e3,p1,p2,p3,px=>⟨⟨⟨b.Low,b.High⟩,cs,hs,ps⟩,Xx.1.1.1.2 _ _ _ _ _ _ _ _ _ _ _ _ _ (by rw[Ap];rfl),⟨h1,h4,by show(cs.length:Int)=Xd b.Low b.High;omega,by show(hs.length:Int)=Xd b.Low b.High;omega,p1,p2,by show ps.length<=400;omega,p3⟩,rfl,px⟩
 |n+1,i,hi,h0,cs,hs,ps,e1,e2,e3,p1,p2,p3,px=>by
  obtain⟨l,z,c,fr,ent,st,a1,a2,a3,r1,r2,r3,r4,r5,r6,r7,r8,r9⟩:=ZB5 hm hq ha hc hv h1 h4 hl (i:=i) Z;obtain⟨k,ek,hk,hkp⟩:=AbZ ⟨st⟩ ps Z p3;have h5:w ((i:Int)+1)=((i+1:Nat):Int):=wS (n:=i+1) Z Z;by_cases ek2:k<0
  .have ih:=Z0B n (i+1) Z Z (cs++[a3]) (hs++[(ps.length:Int)]) (ps++[⟨st⟩]) (by simp;omega) (by simp;omega) (by simp;omega) (λx hx=>by
     rcases Yi.1 hx with hx|hx
     .exact p1 x hx
     .rw[List.mem_singleton.1 hx];exact⟨r5,r6⟩) (λx hx=>by
     simp only[Yu,List.length_singleton];rcases Yi.1 hx with hx|hx
     .have:=p2 x hx;omega
     .rw[List.mem_singleton.1 hx];omega) (λx hx=>by
     rcases Yi.1 hx with hx|hx
     .exact p3 x hx
     .rw[List.mem_singleton.1 hx];exact r7) (px.add e1 e2 r8 (λj p hj=>by rw[rH (by rcases Dl j ps.length with h|h;exact h;rw[It h]at hj;cases hj)];exact hj) (by rw[Yj,List.getElem?_append_right (Yk _)];simpa using r9))
   exact ih.of λr hr=>Xx.1.1.1.2 _ _ _ _ _ _ _ _ _ _ _ _ _ (by
    rw[Ao,h5]
    exact⟨_,_,r1,_,r2,_,_,r3,.inr ⟨_,_,_,_,r4,_,ek,by rw[Ya ek2];exact⟨Z,Z,Z,hr⟩⟩⟩)
  .have ih:=Z0B n (i+1) Z Z (cs++[a3]) (hs++[k]) ps (by simp;omega) (by simp;omega) Z (λx hx=>by
     rcases Yi.1 hx with hx|hx
     .exact p1 x hx
     .rw[List.mem_singleton.1 hx];exact⟨r5,r6⟩) (λx hx=>by
     rcases Yi.1 hx with hx|hx
     .exact p2 x hx
     .rw[List.mem_singleton.1 hx];omega) p3 (px.add e1 e2 r8 (λ_ _ h=>h) (by rw[hkp Z,r9]))
   exact ih.of λr hr=>Xx.1.1.1.2 _ _ _ _ _ _ _ _ _ _ _ _ _ (by
    rw[Ao,h5]
    exact⟨_,_,r1,_,r2,_,_,r3,.inr ⟨_,_,_,_,r4,_,ek,by rw[Yb ek2];exact⟨Z,Z,hr⟩⟩⟩)
theorem qQ:qP m q b (zZ m q b b.Low b.High (shapes q) (Xd b.Low b.High) (Z7 q.Zg q.Atoms) 0):=by
 obtain⟨l,z,c,fr,ent,st,a1,a2,a3,r1,r2,r3,r4,r5,r6,r7,r8,r9⟩:=ZB5 hm hq ha hc hv h1 h4 hl (i:=0) Z
 have ih:=Z0B hm hq ha hc hv h1 h4 hl ((Xd b.Low b.High)-1).toNat 1 Z Z [a3] [0] [⟨st⟩] rfl rfl Om (by simp;omega) Om (by simpa using r7) ⟨λj hj=>by
  have:j=0:=by simp at hj;omega
  subst this;exact r8,λj hj=>by
  have:j=0:=by simp at hj;omega
  subst this;simpa using r9⟩
 exact ih.of λr hr=>Xx.1.1.1.1 _ _ _ _ _ _ _ _ _ _ (by
    rw[Ao]
    exact⟨_,_,r1,_,r2,_,_,r3,.inr ⟨_,_,_,_,r4,_,qK _,by rw[Ao];exact hr⟩⟩)
end
def Ab0{m:Zf}{q:Zc}{b:Box}(hm:Be m)(hq:AS q)(hb:E0 b):∃(s:ZL) (z:Bool),gN m q b=some (.tup [.agg (s.c.map .t),Bo z],[])/\(z=true->WD m/\Wm q.Zg q.Atoms (Z7 q.Zg q.Atoms)=true/\(b.Low.length:Int)=Z7 q.Zg q.Atoms+1/\VG s/\s.Box=b/\Fd m q b s.Costs s.Choices s.Plans):=by
 have bad:∀R:Rs,(R=some (.tup [.agg [L 1 (([]:WL).map ic),L 1 (([]:WL).map ic),L 1 (([]:WL).map ic),L 1 (([]:WL).map ic),L 1 (([]:List Zj).map Zj.c)],Bo false],[]))->∃(s:ZL) (z:Bool),R=some (.tup [.agg (s.c.map .t),Bo z],[])/\(z=true->WD m/\Wm q.Zg q.Atoms (Z7 q.Zg q.Atoms)=true/\(b.Low.length:Int)=Z7 q.Zg q.Atoms+1/\VG s/\s.Box=b/\Fd m q b s.Costs s.Choices s.Plans):=λR e=>⟨⟨⟨[],[]⟩,[],[],[]⟩,false,e,λh=>by cases h⟩
 have e1:=Zpm b hb;have e2:=Zzo m hm;have e3:=Ue q hq;have e4:=HS q hq (Z7 q.Zg q.Atoms);have f16:=Og q.Zg q.Atoms;by_cases ha:WD m
 .rcases tf (Wm q.Zg q.Atoms (Z7 q.Zg q.Atoms))with hc|hc
  .exact bad _ (Xx.1.1.2.1 _ _ _ _ ⟨_,e1,_,e2,by rw[Ya (by simp[ha])];exact⟨_,e3,_,e4,by rw[Yb (by simp[hc])]⟩⟩)
  .rcases tf (Ak (Xd b.Low b.High) 1 400)with hn|hn
   .exact bad _ (Xx.1.1.2.1 _ _ _ _ ⟨_,e1,_,e2,by rw[Ya (by simp[ha])];exact⟨_,e3,_,e4,by rw[Ya hc];exact⟨_,ZH _ _ _,by rw[Yb (by simp[hn])]⟩⟩⟩)
   .have hn':1<=Xd b.Low b.High/\Xd b.Low b.High<=400:=by simpa[Ak]using hn
    by_cases hl:(b.Low.length:Int)=Z7 q.Zg q.Atoms+1
    .have hv:Z3 q.Zg q.Atoms=true:=by
      have:=hc;unfold Wm at this;simp only[Yd]at this;exact this.1.1.1
     obtain⟨b1,b2,b3,_⟩:=WR (p5 hn'.2 hn'.1).1;obtain⟨s,e,hs⟩:=qQ hm hq ha hc hv hn'.1 hn'.2 hl;refine⟨s,true,Xx.1.1.2.1 _ _ _ _ ⟨_,e1,_,e2,?_⟩,λ_=>⟨ha,hc,hl,hs⟩⟩;rw[Ya (by simp[ha])];refine⟨_,e3,_,e4,?_⟩;rw[Ya hc];refine⟨_,ZH _ _ _,?_⟩;rw[Ya hn,Ya (by rw[VS Z Z];exact hl)];have hcp:Hu b=some (.agg [.own 0,.own 1],[.arr ZV 1 true (b.Low.map ic),.arr ZV 1 true (b.High.map ic)]):=XN.2.2.2.1 b _ ⟨Z,Z,rfl⟩;exact⟨_,_,hcp,_,ZBf q hq hv,e⟩
    .exact bad _ (Xx.1.1.2.1 _ _ _ _ ⟨_,e1,_,e2,by rw[Ya (by simp[ha])];exact⟨_,e3,_,e4,by rw[Ya hc];exact⟨_,ZH _ _ _,by rw[Ya hn,Yb (by rw[VS Z Z];exact hl)]⟩⟩⟩)
 .exact bad _ (Xx.1.1.2.1 _ _ _ _ ⟨_,e1,_,e2,by rw[Yb (by simp[ha])]⟩)
structure Io (b:Z6):Prop where
 lo:b.Box.Low.length<=100
 hi:b.Box.High.length<=100
 bu:b.Budgets.length<=100
 pl:b.Plans.length<=400
 ps:∀p∈b.Plans,p.Steps.length<=1000
 co:b.Contours.length<=100
 cc:∀c∈b.Contours,c.length<=400
def Io.le{b:Z6}(h:Io b):EY b:=by
 obtain⟨h1,h2,h3,h4,_,h5,h6⟩:=h;exact⟨Z,Z,Z,Z,Z,λc hc=>by have:=h6 c hc;omega⟩
def ZB6:∀{cs:XV},(∀c∈cs,c.length<=400)->U8 cs<=400*cs.length
 |[],_=>by simp[U8]
 |c::cs,h=>by
  have h1:=h c Om;have h2:=ZB6 (cs:=cs) λx hx=>h x (by simp[hx])
  simp only[U8,Yy,Ys,Yt];omega
def Io.ent{b:Z6}(h:Io b):U8 b.Contours<=2000000:=by
 have:=ZB6 h.cc;have:=h.co;omega
def qR(l:List Zj)(hl:l.length<=1000)(hs:∀x∈l,x.Steps.length<=1000):∀i,i<=l.length->gW (l.take i) l i=some (.own 0,[.arr 115 1 true (l.map Zj.c)]):=by
 refine down _ ?_ ?_
 .apply Xx.2.1.1.1;rw[Ap,Yr]
 .intro i hi ih;have:=hs _ (Ye hi);apply Xx.2.1.1.1;rw[Ao,wS hi Z];refine⟨Z,_,gE hi,Z,by simp;omega,?_⟩;rw[Gp hi];exact ih
def qT(l:List Zj)(hl:l.length<=1000)(hs:∀x∈l,x.Steps.length<=1000):gV l=some (.own 0,[.arr 115 1 true (l.map Zj.c)]) :=
 Xx.2.1.1.2 _ _ (by simpa using qR l hl hs 0 (Yc _))
def CtP(m:Zf)(q:Zc)(s:ZL)(budget sb:Int)(c:WL):Prop:=∃f,In s budget s.Costs.length f/\c.length<=f.length/\∀x∈f,∃p∈c,DS m q s sb p x=true
structure BqX (m:Zf) (q:Zc) (s:ZL) (b:Z6):Prop where
 val:QW q.Zg q.Atoms b=true
 box:b.Box=s.Box
 pls:b.Plans=s.Plans
 lo:∀j (h:j<s.Costs.length),∃c,b.Budgets[0]?=some c/\c<=s.Costs[j]
 hi:∀j (h:j<s.Costs.length),∃c∈b.Budgets,s.Costs[j]<=c
 ct:∀k,k<b.Contours.length->CtP m q s ((b.Budgets[k]?).getD 0) (Bw b k) (pZ b k)
def DI(P:Z6->Prop)(R:Rs):Prop:=∃(b:Z6) (z:Bool),R=some (.tup [.agg (b.c.map .t),Bo z],[])/\Io b/\(z=true->P b)
def DI.of{P:Z6->Prop}{R R':Rs}(h:DI P R')(q:∀r,R'=some r->R=some r):DI P R:=by
 obtain⟨o,z,e,ho⟩:=h;exact⟨o,z,q _ e,ho⟩
def sm0:Io ⟨0,0,0,⟨[],[]⟩,[],[],[]⟩:=⟨Om,Om,Om,Om,Om,Om,Om⟩
def DI.no{P:Z6->Prop}{R:Rs}(e:R=some (.tup [.agg [I 0,I 0,I 0,L 1 (([]:WL).map ic),L 1 (([]:WL).map ic),L 1 (([]:WL).map ic),L 1 (([]:List Zj).map Zj.c),L 1 (([]:XV).map AA)],Bo false],[])):DI P R :=
 ⟨⟨0,0,0,⟨[],[]⟩,[],[],[]⟩,false,e,sm0,λh=>by cases h⟩
section
variable{s:ZL}(hs:VG s){m:Zf}{q:Zc}(hm:Be m)(hq:AS q)(ha:WD m)(hc:Wm q.Zg q.Atoms (Z7 q.Zg q.Atoms)=true)(hl:(s.Box.Low.length:Int)=Z7 q.Zg q.Atoms+1)(hx:Fd m q s.Box s.Costs s.Choices s.Plans)
include hs hm hq ha hc hl hx
theorem Z0C{i:Int}(h0:0<=i):Qb m q (Xa (Xk s.Box i)):=by
 have hv:Z3 q.Zg q.Atoms=true:=by
  have:=hc;unfold Wm at this;simp only[Yd]at this;exact this.1.1.1
 obtain⟨k1,k2⟩:=Tn hs.box h0;exact Z06 hm ha hq hv k1 Z
theorem ZN5{budget z:Int}(hz:budget<=z){j:Nat}(hj:j<s.Costs.length)(hb:s.Costs[j]<=budget):DS m q s z (s.Choices.getD j 0) j=true:=by
 have h1:=hs.cl;have h2:=hs.hl;have hj2:j<s.Choices.length:=by omega
 have c1:=hs.ch _ (Ye hj2);have c2:=hs.co _ (Ye hj);have e:=OB (Z0C hs hm hq ha hc hl hx (i:=(j:Int)) Z) hc;have e2:Gw m q s s.Choices[j] j=s.Costs[j]:=by
  unfold Gw;rw[hx.ch j hj2,hx.co j hj];exact e
 unfold DS;rw[BK hj2,e2];simp[Ak];omega
theorem ZB7{budget c:Int}(hb:1<=budget/\budget<=1000000000000)(cc:0<=c/\c<=100):∃f o:WL,L6 s budget=some (.own 0,[.arr ZV 1 true (f.map ic)])/\L7 budget c=some (I (Us budget c),[])/\Sa m q s f (Us budget c)=some (.own 0,[.arr ZV 1 true (o.map ic)])/\o.length<=400/\CtP m q s budget (Us budget c) o:=by
 have h1:=hs.cl;have h4:=hs.v4;have hz:budget<=Us budget c:=by
  unfold Us;rw[Ya (by simp[Ak];omega)];have m1:budget*100<=budget*(100+c):=Int.mul_le_mul_of_nonneg_left Z Z;rw[Int.tdiv_eq_ediv_of_nonneg Z];exact(Int.le_ediv_iff_mul_le Z).2 m1
 obtain⟨f,e1,hf⟩:=AbP hs budget;have hl:=hf.len
 obtain⟨o,e2,g1,g2⟩:=qF hs hm hq f (Us budget c) Z (λx hx=>by have:=hf.bd x hx;omega) (λx hx'=>by
  obtain⟨j,h1,rfl,h3⟩:=hf.mem x hx';have:=h3.1;rw[BK h1]at this
  exact ZN5 hs hm hq ha hc ‹_› hx hz h1 this)
 exact⟨f,o,e1,ZIY _ _,e2,Z,f,hf,g1,g2⟩
theorem qU{bs:WL}(hb:1<=bs.length/\bs.length<=41)(cc:∀x∈bs,1<=x/\x<=1000000000000)(V R sl:Int)(cn:0<=sl/\sl<=100)(cl:∀j (h:j<s.Costs.length),∃c,bs[0]?=some c/\c<=s.Costs[j])(cd:∀j (h:j<s.Costs.length),∃c∈bs,s.Costs[j]<=c):∀k,k<=bs.length->∀x3:XV,x3.length=k->(∀c∈x3,c.length<=400)->(∀j (h:j<x3.length),CtP m q s (bs.getD j 0) (Us (bs.getD j 0) sl) x3[j])->DI (λb=>BqX m q s b/\b.Ratio=R/\b.Slack=sl) (iC m q s 0 0 0 bs V R sl s.Box.Low s.Box.High s.Plans x3 sl k):=by
 obtain⟨b1,b2,b3,_⟩:=WR hs.box;refine down _ ?_ ?_
 .intro x3 h1 h2 h3;have sm:Io ⟨V,R,sl,⟨s.Box.Low,s.Box.High⟩,bs,s.Plans,x3⟩:=⟨by show s.Box.Low.length<=100;omega,by show s.Box.High.length<=100;omega,by show bs.length<=100;omega,hs.pl,hs.ps,by show x3.length<=100;omega,h2⟩;have hv:=ZNu q ⟨V,R,sl,⟨s.Box.Low,s.Box.High⟩,bs,s.Plans,x3⟩ hq sm.le;rcases tf (QW q.Zg q.Atoms ⟨V,R,sl,⟨s.Box.Low,s.Box.High⟩,bs,s.Plans,x3⟩)with e|e
  .rw[e]at hv;exact DI.no (Xu.2.2.1.1 _ _ _ _ _ _ _ _ _ _ _ _ _ _ _ _ _ (by rw[Ap];exact⟨_,hv,by rw[Yb Om]⟩))
  .rw[e]at hv;refine⟨_,true,Xu.2.2.1.1 _ _ _ _ _ _ _ _ _ _ _ _ _ _ _ _ _ (by rw[Ap];exact⟨_,hv,by rw[Ya rfl];rfl⟩),sm,λ_=>⟨⟨e,rfl,rfl,cl,cd,λk hk=>?_⟩,rfl,rfl⟩⟩;have hk':k<x3.length:=hk;have:=h3 k hk';have e1:(bs[k]?).getD 0=bs.getD k 0:=rfl;unfold Bw pZ;show CtP m q s ((bs[k]?).getD 0) (Us ((bs[k]?).getD 0) sl) ((x3[k]?).getD []);rw[e1,Yf hk'];exact this
 .intro k hk ih x3 h1 h2 h3;obtain⟨f,o,e1,e2,e3,h,hct⟩:=ZB7 hs hm hq ha hc hl hx (budget:=bs[k]) (cc _ (Ye hk)) cn
  refine(ih (x3++[o]) (by simp;omega) (λc hc=>by
   rcases Yi.1 hc with hc|hc
   .exact h2 c hc
   .rw[List.mem_singleton.1 hc];exact h) (λj hj=>?_)).of λr hr=>Xu.2.2.1.1 _ _ _ _ _ _ _ _ _ _ _ _ _ _ _ _ _ (by
    rw[Ao,wS hk Z]
    exact⟨Z,_,gE hk,_,e1,_,e2,_,e3,Z,hr⟩)
  by_cases e:j<x3.length
  .rw[List.getElem_append_left e];exact h3 j e
  .have:j=k:=by simp at hj;omega
   subst this;rw[List.getElem_append_right Z,BK hk];simpa using hct
theorem Ab1(v cc c:Int)(hr:2<=cc/\cc<=8):DI (λb=>BqX m q s b/\b.Ratio=cc/\b.Slack=c) (ZoG m q s v cc c):=by
 obtain⟨lo,hi,e1,c1,c2,c3,c4⟩:=AbL hs;obtain⟨bs,e2,d1,d2,d3,d4⟩:=AbM hr c1 c2 c3;have e3:=Zzo m hm;rcases tf (Ak v 1 999)with hv|hv
 .exact DI.no (Xu.2.2.1.2 _ _ _ _ _ _ _ ⟨_,_,e1,_,e2,_,e3,by rw[Ya (by simp[ha])];exact⟨_,Il hs,by rw[Ya rfl];exact⟨_,ZH _ _ _,by rw[Yb (by simp[hv])]⟩⟩⟩)
 .rcases tf (Ak c 0 100)with hsl|hsl
  .exact DI.no (Xu.2.2.1.2 _ _ _ _ _ _ _ ⟨_,_,e1,_,e2,_,e3,by rw[Ya (by simp[ha])];exact⟨_,Il hs,by rw[Ya rfl];exact⟨_,ZH _ _ _,by rw[Ya hv,Ap];exact⟨_,ZH _ _ _,by rw[Yb (by simp[hsl])]⟩⟩⟩⟩)
  .have qW:0<=c/\c<=100:=by simpa[Ak]using hsl
   obtain⟨b1,b2,b3,_⟩:=WR hs.box;obtain⟨f,o,g1,g2,g3,h,hct⟩:=ZB7 hs hm hq ha hc hl hx (budget:=bs[0]' Z) (d4 _ (Ye _)) qW;have hcp:Hu s.Box=some (.agg [.own 0,.own 1],[.arr ZV 1 true (s.Box.Low.map ic),.arr ZV 1 true (s.Box.High.map ic)]):=XN.2.2.2.1 _ _ ⟨Z,Z,rfl⟩;have hpl:=hs.pl
   have:=qU hs hm hq ha hc hl hx (bs:=bs) ⟨d1,d2⟩ d4 v cc c qW (λj hj=>⟨lo,by rw[d3.1];rfl,(c4 j hj).1⟩) (λj hj=>by
    obtain⟨x,h1,h2⟩:=d3.2
    exact⟨x,h1,by have:=(c4 j hj).2;omega⟩) 1 Z [o] rfl (by simpa using h) (λj hj=>by
    have:j=0:=by simp at hj;omega
    subst this
    rw[BK (show 0<bs.length by omega)];exact hct)
   exact this.of λr hr'=>Xu.2.2.1.2 _ _ _ _ _ _ _ ⟨_,_,e1,_,e2,_,e3,by
     rw[Ya (by simp[ha])];refine⟨_,Il hs,?_⟩;rw[Ya rfl];refine⟨_,ZH _ _ _,?_⟩;rw[Ya hv,Ap];refine⟨_,ZH _ _ _,?_⟩;rw[Ya hsl];refine⟨_,_,hcp,_,qT s.Plans Z hs.ps,Xu.2.1.2.2 _ _ _ _ _ _ _ _ _ _ _ _ _ _ _ _ ?_⟩;rw[Ao]
     exact⟨Z,_,Yf Z,_,g1,_,g2,_,g3,hr'⟩⟩
end
def BqB(m:Zf)(q:Zc)(c cc:Int)(b:Z6):Prop:=WD m/\Wm q.Zg q.Atoms (Z7 q.Zg q.Atoms)=true/\∃s:ZL,VG s/\(s.Box.Low.length:Int)=Z7 q.Zg q.Atoms+1/\Fd m q s.Box s.Costs s.Choices s.Plans/\BqX m q s b/\b.Ratio=c/\b.Slack=cc
def Ab2{m:Zf}{st:Zr}{q:Zc}(hm:Be m)(c:Vq st)(hq:AS q)(ratio Bn:Int)(hr:2<=ratio/\ratio<=8):DI (BqB m q ratio Bn) (iD m st q ratio Bn):=by
 obtain⟨e1,l1,l2⟩:=ZM2 c hq;rcases tf (okB st q)with h|h
 .rw[h]at e1;exact DI.no (Xu.2.2.2.1 _ _ _ _ _ _ ⟨_,_,e1,by rw[Yb Om]⟩)
 .rw[h]at e1;obtain⟨s,z,e2,hs⟩:=Ab0 hm hq (b:=pG st q) ⟨Z,Z⟩;rcases tf z with hz|hz<;>subst hz
  .exact DI.no (Xu.2.2.2.1 _ _ _ _ _ _ ⟨_,_,e1,by rw[Ya rfl];exact⟨_,_,e2,by rw[Yb Om]⟩⟩)
  .obtain⟨ha,hc,hl,ho,hb,hx⟩:=hs rfl;rw[<-hb]at hl hx;obtain⟨b,z,e3,hb,hp⟩:=Ab1 ho hm hq ha hc hl hx st.Z2.Version ratio Bn hr;exact⟨b,z,Xu.2.2.2.1 _ _ _ _ _ _ ⟨_,_,e1,by rw[Ya rfl];exact⟨_,_,e2,by rw[Ya rfl];exact⟨_,_,e3,rfl⟩⟩⟩,hb,λh=>⟨ha,hc,s,ho,hl,hx,hp h⟩⟩
def ZB8{o:Zz}(hv:Wl o=true){a b c:Int}(ha:0<=a/\a<=7)(hb:0<=b/\b<=7)(hc:0<=c/\c<=7):Xo o (Xi a) (Xi b) (Xi c)=A6 o [a,b,c]:=by
 unfold Xo A6;rw[hv,Zqg ha,Zqg hb,Zqg hc];rfl
def up1{o:Zz}(h:¬Gc o){a b c:Int}(ha:0<=a/\a+1<=7)(hb:0<=b/\b<=7)(hc:0<=c/\c<=7):A6 o [a,b,c]<=A6 o [a+1,b,c] :=
 Int.not_lt.1 λq=>h ⟨[a,b,c],⟨a,b,c,rfl,⟨ha.1,Z⟩,hb,hc⟩,0,Z,Z,a,rfl,ha.2,q⟩
def up2{o:Zz}(h:¬Gc o){a b c:Int}(ha:0<=a/\a<=7)(hb:0<=b/\b+1<=7)(hc:0<=c/\c<=7):A6 o [a,b,c]<=A6 o [a,b+1,c] :=
 Int.not_lt.1 λq=>h ⟨[a,b,c],⟨a,b,c,rfl,ha,⟨hb.1,Z⟩,hc⟩,1,Z,Z,b,rfl,hb.2,q⟩
def up3{o:Zz}(h:¬Gc o){a b c:Int}(ha:0<=a/\a<=7)(hb:0<=b/\b<=7)(hc:0<=c/\c+1<=7):A6 o [a,b,c]<=A6 o [a,b,c+1] :=
 Int.not_lt.1 λq=>h ⟨[a,b,c],⟨a,b,c,rfl,ha,hb,⟨hc.1,Z⟩⟩,2,Z,Z,c,rfl,hc.2,q⟩
def ZB9{f:Int->Int}(h:∀x,0<=x->x+1<=7->f x<=f (x+1)){a:Int}(h0:0<=a):∀n:Nat,a+n<=7->f a<=f (a+n)
 |0,_=>by simp
 |n+1,hn=>by
  have h1:=ZB9 h h0 n Z;have h2:=h (a+n) Z Z;rw[show a+((n+1:Nat):Int)=a+n+1 by omega];omega
def Z0D{f:Int->Int}(h:∀x,0<=x->x+1<=7->f x<=f (x+1)){a b:Int}(h0:0<=a)(c:a<=b)(h7:b<=7):f a<=f b:=by
 have:=ZB9 h h0 (b-a).toNat Z
 rwa [show a+((b-a).toNat:Int)=b by omega]at this
def ZBA{o:Zz}(h:XG o){a b c a' b' c':Int}(ha:0<=a/\a<=a'/\a'<=7)(hb:0<=b/\b<=b'/\b'<=7)(hc:0<=c/\c<=c'/\c'<=7):Xo o (Xi a) (Xi b) (Xi c)<=Xo o (Xi a') (Xi b') (Xi c'):=by
 obtain⟨h1,h2,_⟩:=h;rw[ZB8 h1 ⟨Z,Z⟩ ⟨Z,Z⟩ ⟨Z,Z⟩,ZB8 h1 ⟨Z,Z⟩ ⟨Z,Z⟩ ⟨Z,Z⟩];have q1:=Z0D (f:=λx=>A6 o [x,b,c]) (λx k1 k2=>up1 h2 ⟨k1,k2⟩ ⟨Z,Z⟩ ⟨Z,Z⟩) ha.1 ha.2.1 ha.2.2;have q2:=Z0D (f:=λx=>A6 o [a',x,c]) (λx k1 k2=>up2 h2 ⟨Z,Z⟩ ⟨k1,k2⟩ ⟨Z,Z⟩) hb.1 hb.2.1 hb.2.2;have q3:=Z0D (f:=λx=>A6 o [a',b',x]) (λx k1 k2=>up3 h2 ⟨Z,Z⟩ ⟨Z,Z⟩ ⟨k1,k2⟩) hc.1 hc.2.1 hc.2.2;exact Int.le_trans (Int.le_trans q1 q2) q3
def Zqq{m:Zf}(h:WD m)(k:Int):XG (BC m k):=by
 obtain⟨h1,h2,h3,h4,h5⟩:=h;unfold BC
 repeat' split
 all_goals assumption
def Ip(s s':WL):Prop:=∀k,∃a a',0<=a/\a<=a'/\a'<=7/\Z5 s k=Xi a/\Z5 s' k=Xi a'
def Ip.op{s s':WL}(h:Ip s s'){o:Zz}(ho:XG o)(A B M:Int):Xo o (Z5 s A) (Z5 s B) (Z5 s M)<=Xo o (Z5 s' A) (Z5 s' B) (Z5 s' M):=by
 obtain⟨a,a',h1,h2,h3,h4,h5⟩:=h A;obtain⟨b,b',g1,g2,g3,g4,g5⟩:=h B;obtain⟨c,c',k1,k2,k3,k4,k5⟩:=h M;rw[h4,h5,g4,g5,k4,k5];exact ZBA ho ⟨h1,h2,h3⟩ ⟨g1,g2,g3⟩ ⟨k1,k2,k3⟩
def Ip.op0{s s':WL}(h:Ip s s'){o:Zz}(ho:XG o)(A M:Int):Xo o (Z5 s A) 0 (Z5 s M)<=Xo o (Z5 s' A) 0 (Z5 s' M):=by
 obtain⟨a,a',h1,h2,h3,h4,h5⟩:=h A;obtain⟨c,c',k1,k2,k3,k4,k5⟩:=h M;rw[h4,h5,k4,k5,show(0:Int)=Xi 0 from by decide];exact ZBA ho ⟨h1,h2,h3⟩ ⟨Z,Z,Z⟩ ⟨k1,k2,k3⟩
def ZBB{l:WL}(h:QV l=true){i:Nat}(hi:i<l.length):0<=l[i]/\l[i]<=7:=by
 unfold QV at h;rw[Yn]at h;exact ZJV.1 (h _ (Ye hi))
def ZN6{l l':WL}(h:Xs l=true)(h':Xs l'=true)(hl:l.length=l'.length)(hd:∀(i:Nat) (h1:i<l.length) (h2:i<l'.length),l[i]<=l'[i]):Ip (Xa l) (Xa l'):=by
 intro k;unfold Xs at h h';simp only[Yd]at h h';unfold Z5 Xa;by_cases hk:k.toNat<l.length
 .have hk':k.toNat<l'.length:=by omega
  refine⟨l[k.toNat],l'[k.toNat],(ZBB h.1 hk).1,hd _ hk hk',(ZBB h'.1 hk').2,?_,?_⟩<;>simp[hk,hk']
 .refine⟨0,0,Z,Z,Z,?_,?_⟩
  .rw[It (by simp;omega)];decide
  .rw[It (by simp;omega)];decide
def ZBC:∀(xs ys:WL) (n k B:Int),xs.length=ys.length->(∀(i:Nat) (h1:i<xs.length) (h2:i<ys.length),xs[i]<=ys[i])->(∀x∈xs,-2000000000<=x/\x<=2000000000)->(∀x∈ys,-2000000000<=x/\x<=2000000000)->n<=k->-B<=n->n<=B->-B<=k->k<=B->B+2000000000*xs.length<=1000000000000->Wb xs n<=Wb ys k/\-1000000000000<=Wb xs n/\Wb ys k<=1000000000000/\Wb xs n<=1000000000000/\-1000000000000<=Wb ys k
 |[],[],n,k,B,_,_,_,_,h,h1,h2,h3,h4,h5=>by simp only[Wb,List.foldl_nil];simp at h5;omega
 |x::xs,y::ys,n,k,B,hl,hle,hx,hy,h,h1,h2,h3,h4,h5=>by
  have b1:=hx x Om;have b2:=hy y Om;have b3:=hle 0 Om Om;simp only[List.getElem_cons_zero]at b3;simp only[Yy]at h5 hl;have e1:Wb (x::xs) n=Wb xs (n+x):=by
   show List.foldl _ (w (n+x)) xs=_;rw[ZO Z Z];rfl
  have e2:Wb (y::ys) k=Wb ys (k+y):=by
   show List.foldl _ (w (k+y)) ys=_;rw[ZO Z Z];rfl
  rw[e1,e2];refine ZBC xs ys (n+x) (k+y) (B+2000000000) Z (λi h1 h2=>?_) (λz hz=>hx z (by simp[hz])) (λz hz=>hy z (by simp[hz])) Z Z Z Z Z Z;have:=hle (i+1) (by simp;omega) (by simp;omega)
  simpa using this
 |[],_::_,_,_,_,hl,_,_,_,_,_,_,_,_,_=>by simp at hl
 |_::_,[],_,_,_,hl,_,_,_,_,_,_,_,_,_=>by simp at hl
def ZN7{m:Zf}(ha:WD m){s s':WL}(h:Ip s s')(info:List Zp)(x:Zn)(y:Zp):WN m info s x y<=WN m info s' x y:=by
 unfold WN;split<;>split
 .exact h.op0 (Zqq ha _) _ _
 .exact h.op (Zqq ha _) _ _ _
 .exact h.op0 (Zqq ha _) _ _
 .exact h.op (Zqq ha _) _ _ _
def ZBD{m:Zf}(ha:WD m){s s':WL}(h:Ip s s')(info:List Zp):∀(xs:List Zn) (ys:List Zp),(XO m info s xs ys).length=(XO m info s' xs ys).length/\(XO m info s xs ys).length<=xs.length/\(∀(i:Nat) (h1:i<(XO m info s xs ys).length) (h2:i<(XO m info s' xs ys).length),(XO m info s xs ys)[i]<=(XO m info s' xs ys)[i])/\(∀x∈XO m info s xs ys,-2000000000<=x/\x<=2000000000)/\∀x∈XO m info s' xs ys,-2000000000<=x/\x<=2000000000
 |x::xs,y::ys=>by
  obtain⟨h1,h2,h3,h4,h5⟩:=ZBD ha h info xs ys;simp only[XO];refine⟨by simp[h1],by simp;omega,?_,?_,?_⟩
  .intro i k1 k2
   cases i with
   |zero=>exact ZN7 ha h info x y
   |succ i=>exact h3 i (by simpa using k1) (by simpa using k2)
  .intro z hz;rcases Yz.1 hz with rfl|hz
   .exact M7 _ _ _ _
   .exact h4 z hz
  .intro z hz;rcases Yz.1 hz with rfl|hz
   .exact M7 _ _ _ _
   .exact h5 z hz
 |[],_=>by simp[XO]
 |_::_,[]=>by simp[XO]
def ZN8{m:Zf}(ha:WD m){s s':WL}(h:Ip s s')(n:Int)(qa:List Zd)(steps:List Zn)(hs:WK n qa s=true)(c:WK n qa s'=true):W1 m n qa steps s<=W1 m n qa steps s'/\-1000000000000<=W1 m n qa steps s/\W1 m n qa steps s'<=1000000000000/\W1 m n qa steps s<=1000000000000/\-1000000000000<=W1 m n qa steps s':=by
 unfold W1 Kj Uz;rw[hs,c]
 cases e:XL n qa steps with
 |none=>simp
 |some info =>
  obtain⟨_,h1,h2,h3⟩:=G5 e;obtain⟨k1,k2,k3,k4,k5⟩:=ZBD ha h info steps info;simp only[Option.isSome_some,Bool.and_self,if_true];exact ZBC _ _ 0 0 0 k1 k3 k4 k5 Z Z Z Z Z Z
def ZN9:∀(n:Nat) (a b:Int),b.natAbs<=n->VC a->VC b->iF a b=some (I (Int.gcd a b:Int),[]):=by
 intro n
 induction n with
 |zero =>
  intro a b hb ha hb2;apply Ws.1.1.1.1;obtain rfl:b=0:=by omega
  rw[Ya rfl,ZP (x:=0-a) ⟨Z,Z⟩,Int.gcd_zero_right]
  split<;>(congr 3;omega)
 |succ n ih =>
  intro a b hb ha hb2;apply Ws.1.1.1.1;by_cases h0:b=0
  .subst h0;rw[Ya rfl,ZP (x:=0-a) ⟨Z,Z⟩,Int.gcd_zero_right];split<;>(congr 3;omega)
  .rw[Yb h0];have h1:(a.tmod b).natAbs<b.natAbs:=by rw[Int.natAbs_tmod];exact Nat.mod_lt _ Z
   refine⟨h0,?_⟩;rw[ih b (a.tmod b) Z hb2 ⟨Z,Z⟩,Z9s]
def Z0E{a b:Int}(ha:VC a)(hb:VC b):F3 a b=some (I (Int.gcd a b:Int),[]):=Ws.1.1.1.2 _ _ _ (ZN9 _ a b (Yk _) ha hb)
def Z0F(r:Zb):Jl r=some (Bo (vR r),[]):=by
 refine Ws.1.1.2.1 _ _ ⟨_,Vy _ _ _,?_⟩;unfold vR;rcases tf (Ak r.Den 1 2147483647)with e|e
 .rw[e];simp
 have e':=ZM.1 e;rw[e,Ya rfl];refine⟨_,Vy _ _ _,?_⟩;rcases tf (Ak r.Num (-2147483647) 2147483647)with e2|e2
 .rw[e2];simp
 have e2':=ZM.1 e2;rw[e2,Ya rfl];refine⟨_,Z0E ⟨Z,Z⟩ ⟨Z,Z⟩,?_⟩;simp only[Yl];congr 3;rw[decide_eq_decide];omega
def ZNA{n d:Int}(hn:VC n)(hd:VC d):iG n d=some (oR (BQ n d)):=by
 have hn':VC (0-n):=⟨Z,Z⟩;have hd':VC (0-d):=⟨Z,Z⟩;apply ZIp;unfold BQ;by_cases h0:d=0
 .rw[Ya h0,Ya h0,Z9t]
 rw[Yb h0,Yb h0,ZP hn',ZP hd']
 have fin:(if d=0-d then some ((AV.tup [.agg [I 0,I 0],Bo false],[]):XS)=some (oR (if d<0 then BN (-n) (-d)else BN n d))
   else if d<0 then ∃v1,F3 (0-n) (0-d)=some (I v1,[])/\¬v1=0/\∃v2,Jl ⟨w ((0-n).tdiv v1),w ((0-d).tdiv v1)⟩=some (Bo v2,[])/\(if v2=true then some (AV.tup [.agg [I (w ((0-n).tdiv v1)),I (w ((0-d).tdiv v1))],Bo true],([]:WM))=some (oR (if d<0 then BN (-n) (-d)else BN n d))else some (AV.tup [.agg [I 0,I 0],Bo false],([]:WM))=some (oR (if d<0 then BN (-n) (-d)else BN n d)))
   else ∃v1,F3 n d=some (I v1,[])/\¬v1=0/\∃v2,Jl ⟨w (n.tdiv v1),w (d.tdiv v1)⟩=some (Bo v2,[])/\(if v2=true then some (AV.tup [.agg [I (w (n.tdiv v1)),I (w (d.tdiv v1))],Bo true],([]:WM))=some (oR (if d<0 then BN (-n) (-d)else BN n d))else some (AV.tup [.agg [I 0,I 0],Bo false],([]:WM))=some (oR (if d<0 then BN (-n) (-d)else BN n d)))):=by
  rw[Ap];by_cases hl:d<0
  .rw[Ya hl,Ya hl];refine⟨_,Z0E hn' hd',Zp6 Z,_,Z0F _,?_⟩;rw[ZP (H0 hn'),ZP (H0 hd'),Int.zero_sub,Int.zero_sub];unfold BN;rcases tf (vR ⟨(-n).tdiv (Int.gcd (-n) (-d)),(-d).tdiv (Int.gcd (-n) (-d))⟩)with e|e
   .rw[e];rfl
   .rw[e];rfl
  .rw[Yb hl,Yb hl];refine⟨_,Z0E hn hd,Zp6 Z,_,Z0F _,?_⟩;rw[ZP (H0 hn),ZP (H0 hd)];unfold BN;rcases tf (vR ⟨n.tdiv (Int.gcd n d),d.tdiv (Int.gcd n d)⟩)with e|e
   .rw[e];rfl
   .rw[e];rfl
 by_cases hz:n=0-n
 .rw[Ya hz,Ao];exact fin
 .rw[Yb hz];exact fin
def QK(cs:XV)(n:Int):Int:=cs.foldl (λn c=>if n<(c.length:Int)then(c.length:Int)else n) n
def qX(b:Z6)(h:b.Contours.length<=4294967296):∀i,i<=b.Contours.length->∀n:Int,iE n b.Contours b.Contours.length i=some (I (QK (b.Contours.drop i) n),[])/\iJ b n i=some (I (QK (b.Contours.drop i) n),[]):=by
 refine down _ (λn=>?_) λi hi ih n=>?_
 .rw[Ym];exact⟨Xu.2.2.2.2.1 _ _ _ _ _ (by rw[Ap];rfl),Ws.1.2.1.1 _ _ _ _ (by rw[Ap];rfl)⟩
 .obtain⟨a,s⟩:=ih (if n<(b.Contours[i].length:Int)then(b.Contours[i].length:Int)else n);have e:QK (b.Contours.drop i) n=QK (b.Contours.drop (i+1)) (if n<(b.Contours[i].length:Int)then(b.Contours[i].length:Int)else n):=by rw[Yh hi];rfl
  rw[e];exact⟨Xu.2.2.2.2.1 _ _ _ _ _ (by rw[Ao,wS hi Z];exact⟨Z,_,gE hi,a⟩),Ws.1.2.1.1 _ _ _ _ (by rw[Ao,wS hi Z];exact⟨Z,_,gE hi,s⟩)⟩
abbrev den(b:Z6):Int:=QK b.Contours 0
def ZBE(b:Z6)(h:b.Contours.length<=4294967296):Md b=some (I (den b),[])/\iI b=some (I (den b),[]) :=
 let ⟨a,s⟩:=qX b h 0 (Yc _) 0
 ⟨Xu.2.2.2.2.2 _ _ a,Ws.1.2.1.2 _ _ s⟩
def ZBF:∀(cs:XV) (n:Int),n<=QK cs n/\∀c∈cs,(c.length:Int)<=QK cs n
 |[],n=>⟨Int.le_refl _,Om⟩
 |c::cs,n=>by
  obtain⟨h1,h2⟩:=ZBF cs (if n<(c.length:Int)then(c.length:Int)else n);have e:QK (c::cs) n=QK cs (if n<(c.length:Int)then(c.length:Int)else n):=rfl;rw[e];have hc:n<=(if n<(c.length:Int)then(c.length:Int)else n)/\(c.length:Int)<=(if n<(c.length:Int)then(c.length:Int)else n):=by split<;>omega
  refine⟨Z,λx hx=>?_⟩
  cases hx with
  |head=>omega
  |tail _ hx=>exact h2 x hx
def ZBG{B:Int}:∀(cs:XV) (n:Int),n<=B->(∀c∈cs,(c.length:Int)<=B)->QK cs n<=B
 |[],n,h,_=>h
 |c::cs,n,h,hc=>by
  have e:QK (c::cs) n=QK cs (if n<(c.length:Int)then(c.length:Int)else n):=rfl;rw[e];refine ZBG cs _ ?_ λx hx=>hc x (by simp[hx])
  have:=hc c Om;split<;>omega
def ZNB{n d:Int}(hn:1<=n/\n<=2147483647)(hd:1<=d/\d<=2147483647):∃r,BQ n d=some r/\vR r=true/\r.Num*d=n*r.Den/\1<=r.Num/\r.Num<=n/\1<=r.Den/\r.Den<=d/\(∀p q:Int,1<=p->n*q=p*d->r.Num<=p):=by
 have hg:(1:Int)<=(Int.gcd n d:Int):=by
  have:=Int.gcd_pos_of_ne_zero_left d (show n≠0 by omega);omega
 have g1:(Int.gcd n d:Int) ∣ n:=Int.gcd_dvd_left ..;have g2:(Int.gcd n d:Int) ∣ d:=Int.gcd_dvd_right ..;have e1:n.tdiv (Int.gcd n d)=n / (Int.gcd n d:Int):=Int.tdiv_eq_ediv_of_nonneg Z;have e2:d.tdiv (Int.gcd n d)=d / (Int.gcd n d:Int):=Int.tdiv_eq_ediv_of_nonneg Z;have m1:=Int.ediv_mul_cancel g1;have m2:=Int.ediv_mul_cancel g2;have gc:Int.gcd (n / (Int.gcd n d:Int)) (d / (Int.gcd n d:Int))=1:=Int.gcd_ediv_gcd_ediv_gcd Z;generalize hG:(Int.gcd n d:Int)=g at *
 have a0:1<=n / g:=by
  by_cases h:n / g<1
  .have:n / g*g<=0*g:=Int.mul_le_mul_of_nonneg_right Z Z
   omega
  .omega
 have b0:1<=d / g:=by
  by_cases h:d / g<1
  .have:d / g*g<=0*g:=Int.mul_le_mul_of_nonneg_right Z Z
   omega
  .omega
 have a1:n / g<=n:=Int.ediv_le_self _ Z;have b1:d / g<=d:=Int.ediv_le_self _ Z;have hv:vR ⟨n / g,d / g⟩=true:=U1.2 ⟨⟨b0,by show d / g<=_;omega⟩,⟨by show _<=n / g;omega,by show n / g<=_;omega⟩,gc⟩;refine⟨⟨n / g,d / g⟩,?_,hv,?_,a0,a1,b0,b1,λp q hp h=>?_⟩
 .unfold BQ BN;rw[Ap,Ap,hG,e1,e2,Ya hv]
 .show n / g*d=n*(d / g);rw[<-m1,Int.mul_ediv_cancel _ Z,Int.mul_assoc];congr 1;rw[Int.mul_comm];exact m2.symm
 .show n / g<=p;have h2:n / g*q=p*(d / g):=by
   have:(n / g*q)*g=(p*(d / g))*g:=by
    rw[Int.mul_assoc p,m2,<-h,Int.mul_right_comm,m1]
   exact Int.eq_of_mul_eq_mul_right Z this
  have h3:n / g ∣ p*(d / g):=⟨q,h2.symm⟩;have h4:=Int.natAbs_dvd_natAbs.2 h3;rw[Int.natAbs_mul]at h4;exact Int.le_of_dvd Z (Int.natAbs_dvd_natAbs.1 (Nat.Coprime.dvd_of_dvd_mul_right gc h4))
def upw{s:ZL}(hs:VG s)(budget:Int):∀(n i:Nat),i<s.Costs.length->s.Costs.length-i<=n->s.Costs.getD i 0<=budget->∃j,j<s.Costs.length/\p9 s budget j/\LeL (Xk s.Box i) (Xk s.Box j)
 |0,i,hi,hn,_=>by omega
 |n+1,i,hi,hn,hb=>by
  have h1:=hs.cl;have hv:=hs.vol;by_cases hf:∀k,k<s.Box.Low.length->KO s (Xk s.Box i) budget k
  .exact⟨i,hi,⟨hb,hf⟩,λ_=>Int.le_refl _⟩
  .simp only[Classical.not_forall]at hf;obtain⟨k,hk,hg⟩:=hf;unfold KO at hg;simp only[not_or]at hg;obtain⟨g1,g2⟩:=hg;have hin:=Z09 hs.box (show(0:Int)<=(i:Int) by omega);have hidx:=Ow hs.box (i:=(i:Int)) Z Z;rcases tf (JP s.Box.Low s.Box.High (DR (Xk s.Box i) k))with e|e
   .unfold Kv at g1;rw[e]at g1;simp at g1
   .have hb2:=(Zqk hs.box).1 e;have en:Kv s.Box (DR (Xk s.Box i) k)=Ku s.Box (DR (Xk s.Box i) k):=Ya e;obtain⟨i1,i2⟩:=ZBr hs.box hb2;have hup:=ZNy hs.box hin hk;rw[hidx]at hup;rw[en]at g2;generalize hj:Ku s.Box (DR (Xk s.Box i) k)=x at *
    obtain⟨j,rfl⟩:∃j:Nat,x=j:=⟨x.toNat,Z⟩;rw[Yj]at g2;have hup':(i:Int)<(j:Int):=hup;obtain⟨j',c1,c2,c3⟩:=upw hs budget n j Z Z Z;refine⟨j',c1,c2,λa=>Int.le_trans ?_ (c3 a)⟩;have hl:=Ov hs.box hb2;rw[hj]at hl;rw[hl,Tp _ _ _ _ (by have:=hin.1;omega)];split
    .rename_i e;subst e;omega
    .exact Int.le_refl _
section
variable{m:Zf}{q:Zc}{s:ZL}{b:Z6}(hm:Be m)(hq:AS q)(ha:WD m)(hc:Wm q.Zg q.Atoms (Z7 q.Zg q.Atoms)=true)(ho:VG s)(hl:(s.Box.Low.length:Int)=Z7 q.Zg q.Atoms+1)(hx:Fd m q s.Box s.Costs s.Choices s.Plans)(hb:BqX m q s b)
include hm hq ha hc ho hl hx hb
theorem OC{i:Nat}(hi:i<s.Costs.length){K:Nat}(hK:K<b.Contours.length)(hB:s.Costs[i]<=b.Budgets.getD K 0):∃p∈pZ b K,pc m q b (Xk s.Box i) p<=Bw b K:=by
 obtain⟨f,hf,_,hcv⟩:=hb.ct K hK;obtain⟨j,j1,j2,j3⟩:=upw ho (b.Budgets.getD K 0) _ i hi (Yk _) (by rw[BK hi];exact hB);obtain⟨p,hp,hpc⟩:=hcv (j:Int) (hf.all j j1 j2);refine⟨p,hp,?_⟩;unfold DS at hpc;simp only[Yd,decide_eq_true_eq]at hpc;have e1:Gw m q s p j=W1 m q.Zg q.Atoms (Gv b p).Steps (Xa (Xk s.Box j)):=by
  unfold Gw Gv;rw[hb.pls]
 obtain⟨k1,k2⟩:=Tn ho.box (show(0:Int)<=(i:Int) by omega);obtain⟨n1,n2⟩:=Tn ho.box (show(0:Int)<=(j:Int) by omega);have b1:=Z0C ho hm hq ha hc hl hx (i:=(i:Int)) Z;have b2:=Z0C ho hm hq ha hc hl hx (i:=(j:Int)) Z;have hz:=ZN6 k1 n1 Z (λa h1 h2=>by have:=j3 a;rwa [BK h1,BK h2]at this);have:=(ZN8 ha hz q.Zg q.Atoms (Gv b p).Steps b1.hsv b2.hsv).1;have e2:pc m q b (Xk s.Box i) p=W1 m q.Zg q.Atoms (Gv b p).Steps (Xa (Xk s.Box i)):=rfl;omega
end
def Zqr{r:Int}:∀{xs:WL} {p:Option Int},Vw r p xs=true->∀k (h:k+1<xs.length),xs[k+1]=xs[k]*r
 |[],_,_,k,h=>by simp at h
 |x::xs,p,hb,0,h=>by
  simp only[Vw,Yd]at hb
  cases xs with
  |nil=>simp at h
  |cons y ys =>
   have:=hb.2;simp only[Vw,Yd,Lo,decide_eq_true_eq]at this
   simpa using this.1.2
 |x::xs,p,hb,k+1,h=>by
  simp only[Vw,Yd]at hb;simpa using Zqr hb.2 k (by simpa using h)
def OD{q:Zc}{b:Z6}(hf:BqF q b){k:Nat}(hk:k<b.Budgets.length):100*Bw b k<=b.Budgets[k]*(100+b.Slack):=by
 have h1:=hf.bu _ (Ye hk);have h2:=hf.sl;unfold Bw Us;rw[Yf hk];simp only[Ak,Yd,decide_eq_true_eq]at h1 h2;have m2:0<=b.Budgets[k]*(100+b.Slack):=Int.mul_nonneg Z Z;simp only[Option.getD_some];rw[Ya (by simp[Ak];omega),Int.tdiv_eq_ediv_of_nonneg m2];omega
section
variable{m:Zf}{q:Zc}{b:Z6}(hm:Be m)(hq:AS q)(h:pY m q b){l:WL}(h1:Xs l=true)(h2:l.length=b.Box.Low.length)
include hm hq h h1 h2
theorem Z0G{sl:Int}(hs:0<=sl/\sl<=1000000000000):∀(c:WL) (t:Int),(∀p∈c,p.toNat<b.Plans.length)->0<=t->t+1000000000000*c.length<=9000000000000000000->(XU m q b l sl c t).1<=t+sl*c.length
 |[],t,_,_,_=>by simp[XU]
 |p::ps,t,hp,h0,hB=>by
  have hpc:=ZB2 hm hq h h1 h2 (hp p Om);have m0:0<=sl*(ps.length:Int):=Int.mul_nonneg hs.1 Z;simp only[Yy,Ys,Yt,Int.mul_add,Int.mul_one]at hB|-;by_cases e:pc m q b l p<=sl
  .rw[Zql e,ZO (x:=t+pc m q b l p) Z Z];show t+pc m q b l p<=_;omega
  .rw[Zqm e,ZO (x:=t+sl) Z Z];have:=Z0G hs ps (t+sl) (λx hx=>hp x (by simp[hx])) Z Z;omega
theorem ZNC{D:Int}(hD:∀c∈b.Contours,(c.length:Int)<=D)(hE:U8 b.Contours<=2000000){K:Nat}(hK:K<b.Contours.length)(cc:(b.Contours[K].any λp=>decide (pc m q b l p<=Bw b K))=true):∀(n k:Nat) (t:Int),k+n=K->0<=t->t+1000000000000*U8 (b.Contours.drop k)<=9000000000000000000->
  100*(b.Ratio-1)*((Vs m q b l (b.Contours.drop k) k t).1-t)<=D*(100+b.Slack)*(b.Ratio*b.Budgets.getD K 0-b.Budgets.getD k 0):=by
 have hf:=JA h.1;have hcl:=hf.cl;have hr:2<=b.Ratio:=by
  have:=h.1;unfold QW a9 at this;simp only[Yd,Ak,decide_eq_true_eq]at this;omega
 have hsl:0<=b.Slack/\b.Slack<=100:=by simpa[Ak]using hf.sl
 have hbo:Vw b.Ratio none b.Budgets=true:=by
  have:=h.1;unfold QW at this;simp only[Yd]at this;exact this.1.1.2
 have OE:∀k (hk:k<b.Budgets.length),1<=b.Budgets[k]:=λk hk=>by
  have:=hf.bu _ (Ye hk);simp only[Ak,Yd,decide_eq_true_eq]at this;exact this.1
 -- what one Aab adds
 have one:∀k (hk:k<b.Contours.length) (t u:Int),t<=u->u<=t+Bw b k*(b.Contours[k].length:Int)->100*(b.Ratio-1)*(u-t)<=D*(100+b.Slack)*((b.Ratio-1)*b.Budgets.getD k 0):=by
  intro k hk t u htu hu;have hk':k<b.Budgets.length:=by omega
  have s1:=OD hf hk';have s2:=(Tq hf hk').1;have d1:=hD _ (Ye hk);have c1:Bw b k*(b.Contours[k].length:Int)<=Bw b k*D:=Int.mul_le_mul_of_nonneg_left d1 s2;have hD0:0<=D:=by omega
  have c2:100*Bw b k*D<=b.Budgets[k]*(100+b.Slack)*D:=Int.mul_le_mul_of_nonneg_right s1 hD0;have c3:(100*(u-t))*(b.Ratio-1)<=(b.Budgets[k]*(100+b.Slack)*D)*(b.Ratio-1):=Int.mul_le_mul_of_nonneg_right (by rw[Int.mul_assoc]at c2;omega) Z;rw[BK hk']
  calc 100*(b.Ratio-1)*(u-t)=(100*(u-t))*(b.Ratio-1):=by rw[Int.mul_right_comm]
   _<=(b.Budgets[k]*(100+b.Slack)*D)*(b.Ratio-1):=c3
   _=D*(100+b.Slack)*((b.Ratio-1)*b.Budgets[k]):=by grind
 intro n
 induction n with
 |zero =>
  intro k t hk h0 hB;obtain rfl:k=K:=by omega
  have hk':k<b.Budgets.length:=by omega
  rw[Yh hK]at hB|-;have en:=Zqo (b.Contours.drop (k+1));simp only[U8]at hB;have hp:=λp hp=>((hf.co _ (Ye hK)).2 p hp).2
  have hfo:=Z0A (t:=t) cc;rw[Ts hfo];have a1:=Z0G hm hq h h1 h2 (Tq hf hk') b.Contours[k] t hp h0 Z;have a2:=(Zqp hm hq h h1 h2 (Tq hf hk') b.Contours[k] t hp h0 Z).1;have:=one k hK t _ a2 a1;rw[show b.Ratio*b.Budgets.getD k 0-b.Budgets.getD k 0=(b.Ratio-1)*b.Budgets.getD k 0 by rw[Int.sub_mul,Int.one_mul]]
  exact this
 |succ n ih =>
  intro k t hk h0 hB;have hkc:k<b.Contours.length:=by omega
  have hk':k<b.Budgets.length:=by omega
  have hk2:k+1<b.Budgets.length:=by omega
  rw[Yh hkc]at hB|-;have en:=Zqo (b.Contours.drop (k+1));simp only[U8]at hB;have hp:=λp hp=>((hf.co _ (Ye hkc)).2 p hp).2
  have a1:=Z0G hm hq h h1 h2 (Tq hf hk') b.Contours[k] t hp h0 Z;have a2:=Zqp hm hq h h1 h2 (Tq hf hk') b.Contours[k] t hp h0 Z;have o1:=one k hkc t _ a2.1 a1;have geo:=Zqr hbo k hk2;have g2:b.Budgets.getD (k+1) 0=b.Budgets.getD k 0*b.Ratio:=by rw[BK hk2,BK hk',geo]
  have hD0:0<=D:=by have:=hD _ (Ye hkc);omega
  have hC:0<=D*(100+b.Slack):=Int.mul_nonneg hD0 Z;rcases tf (XU m q b l (Bw b k) b.Contours[k] t).2 with e|e
  .rw[Zqn e];have i1:=ih (k+1) (XU m q b l (Bw b k) b.Contours[k] t).1 Z Z Z;rw[g2]at i1;generalize (Vs m q b l (b.Contours.drop (k+1)) (k+1) (XU m q b l (Bw b k) b.Contours[k] t).1).1=y at *
   generalize (XU m q b l (Bw b k) b.Contours[k] t).1=x at *
   have e1:100*(b.Ratio-1)*(y-t)=100*(b.Ratio-1)*(y-x)+100*(b.Ratio-1)*(x-t):=by rw[<-Int.mul_add];congr 1;omega
   have e2:D*(100+b.Slack)*(b.Ratio*b.Budgets.getD K 0-b.Budgets.getD k 0)=D*(100+b.Slack)*(b.Ratio*b.Budgets.getD K 0-b.Budgets.getD k 0*b.Ratio)+D*(100+b.Slack)*((b.Ratio-1)*b.Budgets.getD k 0):=by
    rw[<-Int.mul_add];congr 1;rw[Int.sub_mul,Int.one_mul,Int.mul_comm b.Ratio (b.Budgets.getD k 0)];omega
   rw[e1,e2];omega
  .rw[Ts e];have hK':K<b.Budgets.length:=by omega
   have bk:=OE k hk';have bK:=OE K hK'
   -- the budgets Ab3
   have asc:∀n k (hk:k+n<b.Budgets.length),b.Budgets[k]' Z<=b.Budgets[k+n]:=by
    intro n
    induction n with
    |zero=>intro k hk;exact Int.le_refl _
    |succ n ih2 =>
     intro k hk;have i2:=ih2 k Z;have g3:=Zqr hbo (k+n) Z;have b3:=OE (k+n) Z;have m3:b.Budgets[k+n]*1<=b.Budgets[k+n]*b.Ratio:=Int.mul_le_mul_of_nonneg_left Z Z;have e4:b.Budgets[k+(n+1)]=b.Budgets[k+n+1]:=rfl;rw[e4,g3];omega
   have a3:=asc (n+1) k Z;have e5:k+(n+1)=K:=by omega
   simp only[e5]at a3;refine Int.le_trans o1 (Int.mul_le_mul_of_nonneg_left ?_ hC);rw[BK hk',BK hK',Int.sub_mul,Int.one_mul];have m4:b.Ratio*b.Budgets[k]<=b.Ratio*b.Budgets[K]:=Int.mul_le_mul_of_nonneg_left a3 Z;omega
end
open Go.ChangeShapes Go.WideShapes
def Ab4(code:WL)(hl:code.length<=1048576)(hb:∀n∈code,0<=n/\n<=255)(i:Nat)(hi:i<=100):∃v:Int,iK code i=some (I v,[])/\0<=v:=by
 by_cases h:i<code.length
 .have:=hb _ (Ye h);exact⟨w code[i],Ws.1.2.2.1 _ _ _ (by rw[Ao];exact⟨Z,code[i],gE h,rfl⟩),by rw[ZO Z Z];omega⟩
 .refine⟨_,Ws.1.2.2.1 _ _ _ (by rw[Ap]),?_⟩;rw[show w ((i:Int)*37)=(i:Int)*37 from ZO Z Z,show w ((code.length:Int)*11)=(code.length:Int)*11 from ZO Z Z,ZO Z Z];exact Int.tmod_nonneg _ Z
def ZND(b:Box)(hb:E0 b)(l:WL)(hl:Le l):jA b l=some (Bo (JP b.Low b.High l),[]):=by
 refine F9.2.2.1 _ _ _ ⟨_,Z8j b hb,?_⟩;unfold JP;rcases tf (Xj b.Low b.High)with e|e
 .rw[e];simp
 rw[e,Ya rfl];refine⟨_,Zzi l b.Low hl,?_⟩;rcases tf (dom l b.Low)with e2|e2
 .rw[e2];simp
 rw[e2,Ya rfl];exact⟨_,Zzi b.High l hb.2,Om⟩
def OG{D r s:Int}(hD:1<=D/\D<=400)(hr:r=2\/r=3\/r=4)(hs:s=0\/s=20\/s=50\/s=100){f:Int}(h:∀p q:Int,1<=p->D*(100+s)*r*r*q=p*(100*(r-1))->f<=p):f<=12800:=by
 rcases hr with rfl|rfl|rfl<;>rcases hs with rfl|rfl|rfl|rfl
 .have:=h (D*4) 1 Z Z;omega
 .have:=h (D*24) 5 Z Z;omega
 .have:=h (D*6) 1 Z Z;omega
 .have:=h (D*8) 1 Z Z;omega
 .have:=h (D*9) 2 Z Z;omega
 .have:=h (D*27) 5 Z Z;omega
 .have:=h (D*27) 4 Z Z;omega
 .have:=h (D*9) 1 Z Z;omega
 .have:=h (D*16) 3 Z Z;omega
 .have:=h (D*32) 5 Z Z;omega
 .have:=h (D*8) 1 Z Z;omega
 .have:=h (D*32) 3 Z Z;omega
def qY{D r s:Int}(hD:1<=D/\D<=400)(hr:r=2\/r=3\/r=4)(hs:s=0\/s=20\/s=50\/s=100):1<=D*(100+s)*r*r/\D*(100+s)*r*r<=1280000/\w (w (w (D*w (100+s))*r)*r)=D*(100+s)*r*r/\w (100*w (r-1))=100*(r-1)/\1<=100*(r-1)/\100*(r-1)<=300:=by
 have e1:w (100+s)=100+s:=ZO Z Z;have e2:w (r-1)=r-1:=ZO Z Z;have m1:1<=D*(100+s)/\D*(100+s)<=80000:=by rcases hs with rfl|rfl|rfl|rfl<;>omega
 have m2:1<=D*(100+s)*r/\D*(100+s)*r<=320000:=by
  generalize D*(100+s)=x at *
  rcases hr with rfl|rfl|rfl<;>omega
 have m3:1<=D*(100+s)*r*r/\D*(100+s)*r*r<=1280000:=by
  generalize D*(100+s)*r=x at *
  rcases hr with rfl|rfl|rfl<;>omega
 rw[e1,e2,ZO (x:=D*(100+s)) Z Z,ZO (x:=D*(100+s)*r) Z Z,ZO (x:=D*(100+s)*r*r) Z Z,ZO (x:=100*(r-1)) Z Z];exact⟨m3.1,m3.2,rfl,rfl,Z,Z⟩
def wy{y r s n:Int}(hy:0<=y/\y<=120000)(hn:0<=n/\n<=12800)(hr:r=2\/r=3\/r=4)(hs:s=0\/s=20\/s=50\/s=100):w (w (w (w y*w (100+s))*r)*r)=y*(100+s)*r*r/\w (w (n*100)*w (r-1))=n*(100*(r-1)):=by
 have m1:0<=y*(100+s)/\y*(100+s)<=24000000:=by rcases hs with rfl|rfl|rfl|rfl<;>omega
 rw[ZO (x:=y) Z Z,ZO (x:=100+s) Z Z,ZO (x:=r-1) Z Z,ZO (x:=n*100) Z Z,ZO (x:=y*(100+s)) Z Z];generalize y*(100+s)=z at *
 have m2:0<=z*r/\z*r<=96000000:=by rcases hr with rfl|rfl|rfl<;>omega
 have m4:0<=n*100*(r-1)/\n*100*(r-1)<=3840000:=by rcases hr with rfl|rfl|rfl<;>omega
 rw[ZO (x:=z*r) Z Z,ZO (x:=n*100*(r-1)) Z Z,Int.mul_assoc n];refine⟨ZO ?_ ?_,rfl⟩<;>(generalize z*r=u at *;rcases hr with rfl|rfl|rfl<;>omega)
def first:∀{xs:WL} {c:Int},(∃x∈xs,c<=x)->∃K,∃hK:K<xs.length,c<=xs[K]/\∀j (hj:j<K),xs[j]<c
 |[],c,h=>by obtain⟨x,hx,_⟩:=h;cases hx
 |x::xs,c,h=>by
  by_cases e:c<=x
  .exact⟨0,Om,e,λj hj=>by omega⟩
  .obtain⟨y,hy,hc⟩:=h
   obtain⟨K,hK,h1,h2⟩:=first (xs:=xs) (c:=c) ⟨y,by
    rcases Yz.1 hy with rfl|h
    .exact absurd hc e
    .exact h,hc⟩
   refine⟨K+1,by simpa using hK,by simpa using h1,λj hj=>?_⟩
   cases j with
   |zero=>simpa using e
   |succ j=>simpa using h2 j Z
section
variable{m:Zf}{q:Zc}{b:Z6}{r s:Int}(hm:Be m)(hq:AS q)(sm:Io b)(hB:BqB m q r s b)(hr:r=2\/r=3\/r=4)(hs:s=0\/s=20\/s=50\/s=100)
include hm hq sm hB hr hs
omit hm hq hr hs in
theorem Zqs:(1<=den b/\den b<=400)/\∀c∈b.Contours,(c.length:Int)<=den b:=by
 obtain⟨ha,hc,sp,ho,hl,hx,hb,er,es⟩:=hB;have hf:=JA hb.val;obtain⟨_,h2⟩:=ZBF b.Contours 0;have hp:0<b.Contours.length:=by have:=hf.cl;have:=hf.b0;omega
 have h3:=h2 _ (Ye hp);have h4:=(hf.co _ (Ye hp)).1;have h5:=Y4.2 h4;exact⟨⟨by show 1<=QK b.Contours 0;omega,ZBG _ 0 Z λc hc=>by have:=sm.cc c hc;omega⟩,h2⟩
theorem qZ:∃f:Zb,iH b=some (.tup [.agg (f.c.map .t),Bo true],[])/\vR f=true/\f.Num*(100*(r-1))=den b*(100+s)*r*r*f.Den/\(1<=f.Num/\f.Num<=12800)/\1<=f.Den/\f.Den<=300:=by
 have hd:=(Zqs sm hB).1;obtain⟨ha,hc,sp,ho,hl,hx,hb,er,es⟩:=hB;obtain⟨n1,n2,n3,n4,n5,n6⟩:=qY hd hr hs;obtain⟨f,e,hv,h1,h2,h3,h4,h5,h6⟩:=ZNB (n:=den b*(100+s)*r*r) (d:=100*(r-1)) ⟨n1,Z⟩ ⟨n5,Z⟩;refine⟨f,?_,hv,h1,⟨h2,OG hd hr hs h6⟩,h4,Z⟩;have hcl:=sm.co;refine Ws.1.1.2.2 _ _ ⟨_,(ZBE b Z).1,_,Vy _ _ _,?_⟩;rw[Ya (by simp[Ak];omega)];refine⟨_,Vy _ _ _,?_⟩;rw[Ya (by simp[Ak];omega)];refine⟨_,Vy _ _ _,?_⟩;rw[Ya (by simp[Ak];omega),er,es,n3,n4];have hk:=ZNA (n:=den b*(100+s)*r*r) (d:=100*(r-1)) ⟨Z,Z⟩ ⟨Z,Z⟩;rw[e]at hk;exact⟨f,true,hk,rfl⟩
theorem ZNE{i:Int}(h0:0<=i)(h1:i<Xd b.Box.Low b.Box.High):∃t c:Int,Zpd m q b (Xk b.Box i)=some (.tup [I t,Bo true],[])/\jO m q (Xk b.Box i)=some (I c,[])/\0<=t/\(1<=c/\c<=23270380000)/\100*(r-1)*t<=den b*(100+s)*r*r*c:=by
 have hd:=Zqs sm hB;obtain⟨ha,hc,sp,ho,hl,hx,hb,er,es⟩:=hB;have hf:=JA hb.val;have hok:pY m q b:=⟨hb.val,hc,ha⟩;have hcl:=ho.cl;obtain⟨k1,k2⟩:=Tn hf.box h0;have l1:=pW k1;have bb:=ZBp hm hq hok k1 k2;have Ab5:=ZNw k1 bb hm ha hc;have hco:=ZB1 bb ha hc;obtain⟨j,rfl⟩:∃j:Nat,i=j:=⟨i.toNat,Z⟩;rw[hb.box]at h1;have hj:j<sp.Costs.length:=by omega
 have ec:sp.Costs[j]=(opt m q (Xa (Xk b.Box j))).Cost:=by rw[hx.co j hj,hb.box];rfl
 obtain⟨K,hK,hK1,hK2⟩:=first (hb.hi j hj)
 have hKc:K<b.Contours.length:=by rw[hf.cl];exact hK
 obtain⟨p,hp1,hp2⟩:=OC hm hq ha hc ho hl hx hb hj hKc (by rw[BK hK];exact hK1);rw[<-hb.box]at hp2;have hcov:(b.Contours[K].any λp=>decide (pc m q b (Xk b.Box j) p<=Bw b K))=true:=by
  rw[List.any_eq_true];refine⟨p,?_,decide_eq_true hp2⟩;unfold pZ at hp1
  rwa [Yf hKc]at hp1
 have fd:(Vs m q b (Xk b.Box j) b.Contours 0 0).2=true:=ZB4 (j:=K) hKc (by rw[Yv];exact hcov);have rA:=ZN4 hm hq sm.le hok k1 k2;rw[Ya fd]at rA;have hE:=sm.ent;have htp:=(ZB3 hm hq hok k1 k2 b.Contours 0 0 (λc hc p hp=>((hf.co c hc).2 p hp).2) (by rw[hf.cl];omega) Z Z).1;have hle:=ZNC hm hq hok k1 k2 hd.2 hE hKc hcov K 0 0 Z Z (by rw[Yq];omega);rw[Yq,er,es]at hle;have hin:=Z09 hf.box (show(0:Int)<=(j:Int) by omega);have hbox:=(Zqk hf.box).2 hin;obtain⟨b1,b2,b3,b4⟩:=WR hf.box;refine⟨tot m q b (Xk b.Box j),(opt m q (Xa (Xk b.Box j))).Cost,?_,Ab5,htp,hco,?_⟩
 .refine Uv.1.2.2.1 _ _ _ _ _ ⟨_,ZJq m hm,?_⟩;rw[Ya (by simp[ha])];refine⟨_,ZJc q b hq sm.le,?_⟩;rw[hb.val,Ya rfl];refine⟨_,ZND b.Box ⟨Z,Z⟩ _ Z,?_⟩;rw[hbox,Ya rfl];exact⟨_,_,rA,rfl⟩
 ·-- the last budget is below the ratio times the cost
  have hbo:Vw b.Ratio none b.Budgets=true:=by
   have:=hb.val;unfold QW at this;simp only[Yd]at this;exact this.1.1.2
  have hr0:2<=r:=by omega
  obtain⟨c0,hc0,hc1⟩:=hb.lo j hj;have hB0:1<=b.Budgets.getD 0 0:=by
   have:=hf.bu _ (Ye hf.b0);rw[BK hf.b0];simp only[Ak,Yd,decide_eq_true_eq]at this;exact this.1
  have hBK:b.Budgets.getD K 0<=(opt m q (Xa (Xk b.Box j))).Cost*r:=by
   rw[BK hK];rw[<-ec]
   cases K with
   |zero =>
    rw[Yf hf.b0]at hc0;cases hc0
    have:sp.Costs[j]*1<=sp.Costs[j]*r:=Int.mul_le_mul_of_nonneg_left Z (by rw[ec];omega)
    omega
   |succ K =>
    have g:=Zqr hbo K hK;have h3:=hK2 K Z;rw[g,er];exact Int.mul_le_mul_of_nonneg_right Z Z
  have hC:0<=den b*(100+s):=Int.mul_nonneg Z Z;have m1:r*b.Budgets.getD K 0<=r*((opt m q (Xa (Xk b.Box j))).Cost*r):=Int.mul_le_mul_of_nonneg_left hBK Z;have m2:den b*(100+s)*(r*b.Budgets.getD K 0-b.Budgets.getD 0 0)<=den b*(100+s)*(r*((opt m q (Xa (Xk b.Box j))).Cost*r)):=Int.mul_le_mul_of_nonneg_left Z hC;have e3:den b*(100+s)*(r*((opt m q (Xa (Xk b.Box j))).Cost*r))=den b*(100+s)*r*r*(opt m q (Xa (Xk b.Box j))).Cost:=by ac_rfl
  have e4:tot m q b (Xk b.Box j)=(Vs m q b (Xk b.Box j) b.Contours 0 0).1:=rfl;rw[Int.sub_zero]at hle;rw[e4,<-e3];omega
theorem rB{f:Zb}(hv:vR f=true)(cl:f.Num*(100*(r-1))=den b*(100+s)*r*r*f.Den)(hn:1<=f.Num/\f.Num<=12800)(cd:1<=f.Den/\f.Den<=300)(code:WL)(hl:code.length<=1048576)(cc:∀n∈code,0<=n/\n<=255):∀k:Nat,k<=8->jP m q b f code (Xd b.Box.Low b.Box.High) k=some (Bo true,[]):=by
 have hd:=(Zqs sm hB).1;have hBq:=hB;obtain⟨ha,hc,sp,ho,hl',hx,hb,er,es⟩:=hB;have hf:=JA hb.val;have hv1:=hf.v1;have hv2:=hf.v2;obtain⟨b1,b2,b3,b4⟩:=WR hf.box;obtain⟨n1,n2,_,_,n5,n6⟩:=qY hd hr hs;refine down _ ?_ ?_
 .exact Uv.2.2.2.1 _ _ _ _ _ _ _ _ (by rw[Ap])
 .intro k hk ih;obtain⟨v,e1,hv0⟩:=Ab4 code hl cc k Z;have em:Int.tmod v (Xd b.Box.Low b.Box.High)=v % Xd b.Box.Low b.Box.High:=Int.tmod_eq_emod_of_nonneg hv0;have i0:=Int.emod_nonneg v (show Xd b.Box.Low b.Box.High≠0 by omega);have i1:=Int.emod_lt_of_pos v (show 0<Xd b.Box.Low b.Box.High by omega);have Acv:=(p5 hv2 hv1).2;obtain⟨t,c,s1,s2,t0,c0,hle⟩:=ZNE hm hq sm hBq hr hs i0 i1;have hbl:=Zqj b.Box ⟨Z,Z⟩ hf.box i0 Z;have tb:t<=100000000000000:=by
   have mD:den b*c<=400*23270380000:=Int.mul_le_mul hd.2 c0.2 Z Z;rw[show den b*(100+s)*r*r*c=den b*c*((100+s)*r*r) by ac_rfl]at hle;generalize den b*c=y at *
   rcases hr with rfl|rfl|rfl<;>rcases hs with rfl|rfl|rfl|rfl<;>omega
  have key:t*f.Den<=f.Num*c:=by
   have a1:100*(r-1)*t*f.Den<=den b*(100+s)*r*r*c*f.Den:=Int.mul_le_mul_of_nonneg_right hle Z;have a2:den b*(100+s)*r*r*c*f.Den=f.Num*c*(100*(r-1)):=by
    rw[show den b*(100+s)*r*r*c*f.Den=den b*(100+s)*r*r*f.Den*c by ac_rfl,<-cl];ac_rfl
   have a3:100*(r-1)*t*f.Den=t*f.Den*(100*(r-1)):=by ac_rfl
   rw[a2,a3]at a1;exact Int.le_of_mul_le_mul_right a1 Z
  have p1:t*f.Den<=100000000000000*300:=Int.mul_le_mul tb cd.2 Z Z;have p0:0<=t*f.Den:=Int.mul_nonneg t0 Z;have p2:f.Num*c<=12800*23270380000:=Int.mul_le_mul hn.2 c0.2 Z Z;have p3:0<=f.Num*c:=Int.mul_nonneg Z Z;have hw:Zpg t f c=some (Bo true,[]):=by
   refine Uv.2.2.1 _ _ _ _ ⟨_,Z0F f,?_⟩;rw[hv,Ya rfl];refine⟨_,Vy _ _ _,?_⟩;rw[Ya (by simp[Ak];omega),Ap];refine⟨_,Vy _ _ _,?_⟩;rw[Ya (by simp[Ak];omega)];refine⟨_,Vy _ _ _,?_⟩;rw[Ya (by simp[Ak];omega),ZO (x:=t*f.Den) Z Z,ZO (x:=f.Num*c) Z Z,decide_eq_true key]
  apply Uv.2.2.2.1;rw[Ao,wS hk Z];refine⟨_,e1,Z,_,_,by rw[em];exact hbl,_,_,s1,?_⟩;rw[Ya rfl];exact⟨_,s2,_,hw,by rw[Ya rfl];exact ih⟩
end
def OH(ts:V4)(h:WQ [.int .u8] ts):∃n:Int,ts=kc .u8 n/\(0<=n/\n<=255):=by
 obtain⟨t,us,rfl,h1,h2⟩:=Z0H h;cases FP h2
 cases h1 with
 |int hw =>
  refine⟨_,rfl,?_⟩;have h':=Bool.and_eq_true_iff.1 hw;exact⟨of_decide_eq_true h'.1,of_decide_eq_true h'.2⟩
def decB{t:T}(h:GZ (.slice [.int .u8]) t):∃xs:WL,t=.lst 1 (xs.map (kc .u8))/\OkL (λn=>0<=n/\n<=255) xs:=ZCW OH h
def ZBI(a:WL)(ha:OkL (λn=>0<=n/\n<=255) a):C ZDi [L 1 (a.map (kc .u8))] []=some (Bo true,[]):=by
 show Zzc a=_;have hB:=Xz.1.1.1.1 a _ rfl;by_cases hbig:1048576<(a.length:Int)
 .exact Uv.2.2.2.2 _ _ ⟨_,hB,by rw[decide_eq_true hbig,Ya rfl]⟩
 obtain⟨m,s,q,r,sl,h1,hm,hs,hq,hr,hsl⟩:=Oi a Z;obtain⟨b,z,h2,sm,hb⟩:=Ab2 hm hs hq r sl Z;refine Uv.2.2.2.2 _ _ ⟨_,hB,?_⟩;rw[decide_eq_false hbig,Yb Om];refine⟨_,_,_,_,_,h1,_,_,h2,?_⟩;rcases tf z with e|e<;>subst e
 .rw[Yb Om]
 .rw[Ya rfl];have hq':=hb rfl;obtain⟨f,e1,hv,f1,hn,hd⟩:=qZ hm hq sm hq' hr hsl;have hdb:=(Zqs sm hq').1;have hcl:=sm.co;obtain⟨d1,d2⟩:=ZBE b Z;refine⟨f,true,e1,?_⟩;rw[Ya rfl];refine⟨_,d1,_,d2,?_⟩;have md:0<=f.Den*den b/\f.Den*den b<=120000:=⟨Int.mul_nonneg Z Z,by have:=Int.mul_le_mul hd.2 hdb.2 Z (show(0:Int)<=300 by omega);omega⟩;have ew:(w ((w (f.Num*100))*(w (r-1))))=(w ((w ((w ((w (f.Den*den b))*(w (100+sl))))*r))*r)):=by
   obtain⟨w1,w2⟩:=wy md (n:=f.Num) ⟨Z,hn.2⟩ hr hsl;rw[w1,w2,f1];ac_rfl
  rw[Ya rfl,Ya ew];have hx:E0 b.Box:=⟨sm.le.1,sm.le.2.1⟩;exact⟨_,Zpm b.Box hx,by simpa using rB hm hq sm hq' hr hsl hv f1 hn hd a Z ha.2 0 (Yc _)⟩
def ZNF(f:Nat)(xs:XQ)(h0:WM)(r:AV)(hr:WM)(h:ext f xs h0=some (r,hr)):Ww Tryz.prog f xs h0 r hr:=by cases h
def sound{f:Nat}{xs:XQ}{h0:WM}{r:AV}{hr:WM}(h:C f xs h0=some (r,hr)):Ww Tryz.prog f xs h0 r hr:=ZCU (YK _ _) ZNF h
