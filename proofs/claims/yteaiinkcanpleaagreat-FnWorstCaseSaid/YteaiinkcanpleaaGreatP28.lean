/-
  Parts of the proofs for this seat: RA RB RC RD RE RF RG RH RI RJ RK RL.
-/
import Derived.Test.YteaiinkcanpleaaGreatP27
set_option linter.all false
set_option maxRecDepth 100000
set_option maxHeartbeats 4000000
namespace Go.Proofs.YteaiinkcanpleaaGreat
open Go.AM
theorem ZP{x a b:Int}:Al x a b=true↔a<=x/\x<=b:=by simp[Al]
def ft(b:Bool):b=true\/b=false:=by cases b<;>simp
def vR(r:Zb):Bool:=Al r.Den 1 2147483647 && Al r.Num (-2147483647) 2147483647 && decide (Int.gcd r.Num r.Den=1)
def nR(r:Zb):Zb:=⟨-r.Num,r.Den⟩
def r0:Zb:=⟨0,0⟩
def Dm(n d:Int):Option Zb:=if vR ⟨n.tdiv (Int.gcd n d),d.tdiv (Int.gcd n d)⟩then some ⟨n.tdiv (Int.gcd n d),d.tdiv (Int.gcd n d)⟩else none
def Cj(n d:Int):Option Zb:=if d=0 then none else if d<0 then Dm (-n) (-d)else Dm n d
def V0(a b:Zb):Option Zb:=if vR a && vR b then Cj (a.Num*b.Den+b.Num*a.Den) (a.Den*b.Den)else none
def Ug(a b:Zb):Option Zb:=if vR a && vR b then Cj (a.Num*b.Den-b.Num*a.Den) (a.Den*b.Den)else none
def Wj(a b:Zb):Option Zb:=if vR a && vR b then Cj (a.Num*b.Num) (a.Den*b.Den)else none
def Wk(a b:Zb):Option Zb:=if vR a && vR b then Cj (a.Num*b.Den) (a.Den*b.Num)else none
def UX{r:Zb}:vR r=true↔(1<=r.Den/\r.Den<=2147483647)/\(-2147483647<=r.Num/\r.Num<=2147483647)/\Int.gcd r.Num r.Den=1:=by
 unfold vR;rw[Yg,Yg,ZP,ZP,decide_eq_true_iff,and_assoc]
def mA(r:Zb):vR (nR r)=vR r:=by
 have h:vR (nR r)=true↔vR r=true:=by
  rw[UX,UX];simp only[nR,Int.neg_gcd];omega
 simp_all
def ZBj(n d:Int):Dm (-n) d=(Dm n d).map nR:=by
 unfold Dm;have e:(⟨(-n).tdiv (Int.gcd (-n) d),d.tdiv (Int.gcd (-n) d)⟩:Zb)=nR ⟨n.tdiv (Int.gcd n d),d.tdiv (Int.gcd n d)⟩:=by
  simp[nR,Int.neg_tdiv]
 simp_all [mA]
def ZMT(n d:Int):Cj (-n) d=(Cj n d).map nR:=by
 unfold Cj;split
 .rfl
 split
 .exact ZBj _ _
 .exact ZBj _ _
def ZBk(n d:Int):Cj (-n) (-d)=Cj n d:=by
 unfold Cj
 grind
def ZMU(a b:Zb):Wj (nR a) b=(Wj a b).map nR:=by
 unfold Wj;rw[mA];split
 .rw[<-ZMT];simp[nR,Int.neg_mul]
 .rfl
def ZBl(a b:Zb):Ug a b=V0 a (nR b):=by
 unfold Ug V0;rw[mA];split
 .simp only[nR,Int.neg_mul,Int.sub_eq_add_neg]
 .rfl
def Zqs{n d:Int}{r:Zb}(h:Cj n d=some r):vR r=true:=by
 unfold Cj Dm at h
 grind
def ZBm{a b r:Zb}(h:V0 a b=some r):vR r=true:=by
 unfold V0 at h;split at h
 .exact Zqs h
 .cases h
def Z1m{a b r:Zb}(h:Ug a b=some r):vR r=true:=by
 unfold Ug at h;split at h
 .exact Zqs h
 .cases h
def ZBn{a b r:Zb}(h:Wj a b=some r):vR r=true:=by
 unfold Wj at h;split at h
 .exact Zqs h
 .cases h
theorem JI{a b r:Zb}(h:Wk a b=some r):vR r=true:=by
 unfold Wk at h;split at h
 .exact Zqs h
 .cases h
def EQ(a b c:Zb):Option Zb:=if b.Num=0\/c.Num=0 then some a else(Wj b c).bind (V0 a)
def Ce(a b c:Zb):Option Zb:=if b.Num=0\/c.Num=0 then some a else(Wj b c).bind (Ug a)
def mB(a b c:Zb):EQ a (nR b) c=Ce a b c:=by
 unfold EQ Ce;have e:(nR b).Num=0↔b.Num=0:=by simp[nR]
 rw[ZMU];by_cases h:b.Num=0\/c.Num=0
 .simp_all
 .rw[Yb h,Yb (by rw[e];exact h)]
  cases Wj b c with
  |none=>rfl
  |some x=>show V0 a (nR x)=Ug a x;rw[ZBl]
theorem ZMV{r:Zb}(h:vR r=true):Dm r.Num r.Den=some r:=by
 have g:=(UX.1 h).2.2;unfold Dm
 simp_all
def Zqt{r:Zb}(h:vR r=true):Cj r.Num r.Den=some r:=by
 have:=(UX.1 h).1;unfold Cj
 grind [ZMV]
theorem v0:vR ⟨0,1⟩=true:=by decide
def v1:vR ⟨1,1⟩=true:=by decide
def ZBo{a:Zb}(h:vR a=true)(h0:a.Num≠0):∃i,Wk ⟨1,1⟩ a=some i/\vR i=true/\((a.Num<0/\i=⟨-a.Den,-a.Num⟩)\/(0<a.Num/\i=⟨a.Den,a.Num⟩)):=by
 have g:=UX.1 h;unfold Wk;rw[v1,h];simp only[Bool.and_self,if_true,Int.one_mul];by_cases hn:a.Num<0
 .have hv:vR (⟨-a.Den,-a.Num⟩:Zb)=true:=UX.2 ⟨by simp only;omega,by simp only;omega,by simp only[Int.neg_gcd,Int.gcd_neg];rw[Int.gcd_comm];exact g.2.2⟩;have e:=Zqt hv
  simp_all [ZBk]
 .have hv:vR (⟨a.Den,a.Num⟩:Zb)=true:=UX.2 ⟨by simp only;omega,by simp only;omega,by simp only;rw[Int.gcd_comm];exact g.2.2⟩;exact⟨_,Zqt hv,hv,.inr ⟨Z,rfl⟩⟩
def Nc{c a i:Zb}(hc:vR c=true)(ha:vR a=true)(h0:a.Num≠0)(hi:Wk ⟨1,1⟩ a=some i):Ce ⟨0,1⟩ c i=(Wk c a).map nR:=by
 obtain⟨j,hj,hv,hs⟩:=ZBo ha h0;obtain rfl:i=j:=Option.some.inj (hi.symm.trans hj);have gc:=UX.1 hc;have ga:=UX.1 ha;have hd:Wk c a=Wj c i:=by
  unfold Wk Wj;rw[hc,ha,hv];simp only[Bool.and_self,if_true];rcases hs with⟨_,rfl⟩|⟨_,rfl⟩
  .simp[ZBk,Int.mul_neg]
  .rfl
 rw[hd];unfold Ce;have hin:i.Num≠0:=by
  grind
 by_cases hcn:c.Num=0
 .rw[Ya (.inl hcn)];have hid:=(UX.1 hv).1;have h1:c.Den=1:=by have:=gc.2.2;rw[hcn,Int.gcd_zero_left]at this;omega
  unfold Wj;rw[hc,hv];simp only[Bool.and_self,if_true];rw[hcn,h1,Int.zero_mul,Int.one_mul];unfold Cj Dm;rw[Ao,Ao];have e:(⟨(0:Int).tdiv (Int.gcd 0 i.Den),i.Den.tdiv (Int.gcd 0 i.Den)⟩:Zb)=⟨0,1⟩:=by
   grind [Int.gcd_zero_left,Int.zero_tdiv,Int.tdiv_self]
  rw[e,v0];rfl
 .rw[Yb (by simp[hcn,hin])]
  cases hm:Wj c i with
  |none=>rfl
  |some x =>
   have hx:=ZBn hm;show Ug ⟨0,1⟩ x=some (nR x);rw[ZBl];unfold V0;rw[v0,mA,hx];simp only[Bool.and_self,if_true,Int.zero_mul,Int.zero_add,Int.mul_one,Int.one_mul]
   simp_all [Zqt,mA]
def ZMW{d:Int}(h:1<=d):Cj 0 d=some ⟨0,1⟩:=by
 have hg:(Int.gcd 0 d:Int)=d:=by
  rw[Int.gcd_zero_left];omega
 unfold Cj;rw[Ao,Ao];unfold Dm;rw[hg,Int.zero_tdiv,Int.tdiv_self Z,Ya v0]
def ZMX{b c:Zb}(hb:vR b=true)(hc:vR c=true)(h:b.Num=0\/c.Num=0):Wj b c=some ⟨0,1⟩:=by
 unfold Wj;rw[hb,hc,Ya (by rfl)];have e:b.Num*c.Num=0:=by rcases h with h|h<;>rw[h]<;>simp
 rw[e];have h1:=(UX.1 hb).1.1;have h2:=(UX.1 hc).1.1;exact ZMW (by have:=Int.mul_le_mul h1 h2 Z Z;simpa using this)
def ZMY{a:Zb}(h:vR a=true):V0 a ⟨0,1⟩=some a:=by
 unfold V0;rw[h,v0,Ya (by rfl)];have e:a.Num*1+0*a.Den=a.Num:=by omega
 have e2:a.Den*1=a.Den:=by omega
 show Cj (a.Num*1+0*a.Den) (a.Den*1)=some a;rw[e,e2,Zqt h]
def ZMZ{a b c:Zb}(ha:vR a=true)(hb:vR b=true)(hc:vR c=true):EQ a b c=(Wj b c).bind (V0 a):=by
 unfold EQ;split
 .rename_i h;rw[ZMX hb hc h];exact(ZMY ha).symm
 .rfl
def Z1n(k j:Nat)(x c a p:Zb):Option Zb:=if k=j then(Wk c a).map nR else EQ x (nR c) p
def KW(k j:Nat)(x c p:Zb):Option Zb:=Ce (if k=j then⟨0,1⟩else x) c p
theorem Nd{k j:Nat}{x c a p:Zb}(hc:vR c=true)(ha:vR a=true)(h0:a.Num≠0)(hp:k=j->Wk ⟨1,1⟩ a=some p):Z1n k j x c a p=KW k j x c p:=by
 unfold Z1n KW;by_cases h:k=j
 .rw[Ya h,Ya h];exact(Nc hc ha h0 (hp h)).symm
 .rw[Yb h,Yb h];exact mB x c p
def ZBp{l:WL}{i:Nat}(h:i<l.length)(a:Int):a∈l.set i a:=by
 rw[List.mem_iff_getElem];exact⟨i,by rw[EH];exact h,Om⟩
def ZBq{l:WL}{i:Nat}{a x:Int}(h:x∈l)(h':∀hi:i<l.length,x≠l[i]):x∈l.set i a:=by
 obtain⟨p,hp,rfl⟩:=List.mem_iff_getElem.1 h;rw[List.mem_iff_getElem];refine⟨p,by rw[EH];exact hp,?_⟩;rw[List.getElem_set,Yb];rintro rfl;exact h' hp rfl
theorem ZNa{B F:WL}{r c:Nat}(hr:r<B.length)(hc:c<F.length)(x:Int):x∈B.set r F[c]++F.set c B[r]↔x∈B++F:=by
 simp only[Yl];constructor
 .rintro(h|h)
  .rcases Iw h with h|h
   .exact .inl h
   .exact .inr (h▸Yf hc)
  .rcases Iw h with h|h
   .exact .inr h
   .exact .inl (h▸Yf hr)
 .rintro(h|h)
  .by_cases e:x=B[r]
   .rw[e];exact .inr (ZBp hc _)
   .exact .inl (ZBq h λ_=>e)
  .by_cases e:x=F[c]
   .rw[e];exact .inl (ZBp hr _)
   .exact .inr (ZBq h λ_=>e)
def Xf(l:List (Option Zb)):Bool:=l.all Option.isSome
def vals(l:List (Option Zb)):List Zb:=l.map λo=>o.getD r0
def ZNb(l k:List (Option Zb)):Xf (l++k)=(Xf l && Xf k):=by simp[Xf]
def ZNc(l k:List (Option Zb)):vals (l++k)=vals l++vals k:=by simp[vals]
def Z1o{l:List (Option Zb)}(h:Xf l=true)(hv:∀o∈l,∀r,o=some r->vR r=true):∀r∈vals l,vR r=true:=by
 intro r hr;obtain⟨o,ho,rfl⟩:=Yn.1 hr;have:=Yp.1 h o ho
 cases o with
 |none=>cases this
 |some x=>exact hv _ ho x rfl
def ZBr{n d:Int}{r:Zb}(hd:0<d)(h:Dm n d=some r):r.Num*d=n*r.Den:=by
 unfold Dm at h;split at h
 .cases h;have hg:(Int.gcd n d:Int) ∣ n:=Int.gcd_dvd_left ..;have hg2:(Int.gcd n d:Int) ∣ d:=Int.gcd_dvd_right ..;obtain⟨x,hx⟩:=hg;obtain⟨y,hy⟩:=hg2;have hpos:(0:Int)<Int.gcd n d:=by
   grind
  generalize hG:(Int.gcd n d:Int)=G at *
  have e1:n.tdiv G=x:=by rw[hx,Int.mul_tdiv_cancel_left _ Z]
  have e2:d.tdiv G=y:=by rw[hy,Int.mul_tdiv_cancel_left _ Z]
  grind
 .cases h
def Zqu{n d:Int}{r:Zb}(h:Cj n d=some r):r.Num*d=n*r.Den:=by
 unfold Cj at h;split at h
 .cases h
 split at h
 .have:=ZBr Z h
  grind
 .exact ZBr Z h
def Vc{r:Zb}(h:vR r=true):0<r.Den:=by have:=(UX.1 h).1.1;omega
def ZNd{a b r:Zb}(h:V0 a b=some r):r.Num*(a.Den*b.Den)=(a.Num*b.Den+b.Num*a.Den)*r.Den:=by
 unfold V0 at h;split at h
 .exact Zqu h
 .cases h
def ZBs{a b r:Zb}(h:Ug a b=some r):r.Num*(a.Den*b.Den)=(a.Num*b.Den-b.Num*a.Den)*r.Den:=by
 unfold Ug at h;split at h
 .exact Zqu h
 .cases h
def Z1p{a b r:Zb}(h:Wj a b=some r):r.Num*(a.Den*b.Den)=(a.Num*b.Num)*r.Den:=by
 unfold Wj at h;split at h
 .exact Zqu h
 .cases h
def ZBt{a b r:Zb}(h:Wk a b=some r):r.Num*(a.Den*b.Num)=(a.Num*b.Den)*r.Den:=by
 unfold Wk at h;split at h
 .exact Zqu h
 .cases h
def SQ{a b r:Zb}:(V0 a b=some r\/Ug a b=some r\/Wj a b=some r\/Wk a b=some r)->vR a=true/\vR b=true:=by
 intro h;rcases h with h|h|h|h
 .unfold V0 at h;split at h
  .simp_all
  .cases h
 .unfold Ug at h;split at h
  .simp_all
  .cases h
 .unfold Wj at h;split at h
  .simp_all
  .cases h
 .unfold Wk at h;split at h
  .simp_all
  .cases h
def CQ(a b:Zb):Prop:=a.Num*b.Den<=b.Num*a.Den
def Gt{x y:Int}(hy:0<y)(h:0<=x*y):0<=x:=by
 rcases Int.lt_or_le x 0 with hx|hx
 .have:=Int.mul_neg_of_neg_of_pos hx hy;omega
 .exact hx
def ZNe{a b c q y:Zb}(ha:0<=a.Num)(hb:0<b.Num)(hq:Wk a b=some q)(hc:vR c=true)(cc:CQ c q)(h:Ce a b c=some y):0<=y.Num:=by
 obtain⟨va,vb⟩:=SQ (.inr (.inr (.inr hq)));have vq:=JI hq;unfold Ce at h;split at h
 .cases h;exact ha
 .cases hx:Wj b c with
  |none=>rw[hx]at h;cases h
  |some x =>
   rw[hx]at h;have h:Ug a x=some y:=h;have vx:=ZBn hx;have vy:=Z1m h;have e1:=ZBs h;have e2:=Z1p hx;have e3:=ZBt hq;have pa:=Vc va;have pb:=Vc vb;have pc:=Vc hc;have pq:=Vc vq;have px:=Vc vx;have py:=Vc vy;unfold CQ at cc;have k1:0<=(a.Num*(b.Den*c.Den)-b.Num*c.Num*a.Den)*q.Den:=by
    have m:=Int.mul_le_mul_of_nonneg_left cc (show 0<=b.Num*a.Den from Int.mul_nonneg Z Z)
    have:(a.Num*(b.Den*c.Den)-b.Num*c.Num*a.Den)*q.Den=b.Num*a.Den*(q.Num*c.Den)-b.Num*a.Den*(c.Num*q.Den):=by grind
    omega
   have k2:=Gt pq k1;have k3:0<=(a.Num*x.Den-x.Num*a.Den)*(b.Den*c.Den):=by
    have:(a.Num*x.Den-x.Num*a.Den)*(b.Den*c.Den)=(a.Num*(b.Den*c.Den)-b.Num*c.Num*a.Den)*x.Den:=by grind
    rw[this];exact Int.mul_nonneg k2 Z
   have k4:=Gt (Int.mul_pos pb pc) k3;have k5:0<=y.Num*(a.Den*x.Den):=by rw[e1];exact Int.mul_nonneg k4 Z
   exact Gt (Int.mul_pos pa px) k5
def ZNf{a b c y:Zb}(ha:0<=a.Num)(hb:b.Num<=0)(hc:0<=c.Num)(h:Ce a b c=some y):0<=y.Num:=by
 unfold Ce at h;split at h
 .cases h;exact ha
 .cases hx:Wj b c with
  |none=>rw[hx]at h;cases h
  |some x =>
   rw[hx]at h;have h:Ug a x=some y:=h;obtain⟨va,vx⟩:=SQ (.inr (.inl h));obtain⟨vb,vc⟩:=SQ (.inr (.inr (.inl hx)));have e1:=ZBs h;have e2:=Z1p hx;have pa:=Vc va;have pb:=Vc vb;have pc:=Vc vc;have px:=Vc vx;have py:=Vc (Z1m h);have k0:0<=(-x.Num)*(b.Den*c.Den):=by
    have:(-x.Num)*(b.Den*c.Den)=(-b.Num)*c.Num*x.Den:=by grind
    rw[this];exact Int.mul_nonneg (Int.mul_nonneg Z hc) Z
   have k1:=Gt (Int.mul_pos pb pc) k0;have k2:0<=a.Num*x.Den-x.Num*a.Den:=by
    have p:=Int.mul_nonneg ha (show 0<=x.Den by omega);have q:=Int.mul_nonneg k1 (show 0<=a.Den by omega)
    grind
   have k5:0<=y.Num*(a.Den*x.Den):=by rw[e1];exact Int.mul_nonneg k2 Z
   exact Gt (Int.mul_pos pa px) k5
def ZNg{a b q:Zb}(ha:0<=a.Num)(hb:0<b.Num)(h:Wk a b=some q):0<=q.Num:=by
 obtain⟨va,vb⟩:=SQ (.inr (.inr (.inr h)));have e:=ZBt h;have pa:=Vc va;have pb:=Vc vb;have pq:=Vc (JI h);refine Gt (Int.mul_pos pa hb) ?_;rw[e];exact Int.mul_nonneg (Int.mul_nonneg ha Z) Z
def ZNh{a b c y:Zb}(ha:0<=a.Num)(hb:0<=b.Num)(hc:0<=c.Num)(h:EQ a b c=some y):0<=y.Num:=by
 unfold EQ at h;split at h
 .cases h;exact ha
 .cases hx:Wj b c with
  |none=>rw[hx]at h;cases h
  |some x =>
   rw[hx]at h;have h:V0 a x=some y:=h;obtain⟨va,vx⟩:=SQ (.inl h);obtain⟨vb,vc⟩:=SQ (.inr (.inr (.inl hx)));have e1:=ZNd h;have e2:=Z1p hx;have pa:=Vc va;have px:=Vc vx;have py:=Vc (ZBm h);have pb:=Vc vb;have pc:=Vc vc;have k1:0<=x.Num:=Gt (Int.mul_pos pb pc) (by rw[e2];exact Int.mul_nonneg (Int.mul_nonneg hb hc) Z);have k5:0<=y.Num*(a.Den*x.Den):=by
    rw[e1];exact Int.mul_nonneg (by have p:=Int.mul_nonneg ha (show 0<=x.Den by omega);have q:=Int.mul_nonneg k1 (show 0<=a.Den by omega);omega) Z
   exact Gt (Int.mul_pos pa px) k5
def U1(x:Int):WL->WL
 |[]=>[x]
 |y::ys=>if y<x/\∀z∈ys,z<x then x::y::ys else y::U1 x ys
def Zqv(x:Int):∀l,(U1 x l).Perm (x::l)
 |[]=>.refl _
 |y::ys=>by
  unfold U1;split
  .exact .refl _
  .exact((Zqv x ys).cons y).trans (.swap x y ys)
def ZNi{x z:Int}{l:WL}:z∈U1 x l↔z=x\/z∈l:=by
 rw[(Zqv x l).mem_iff,Y1]
def ZBu{x:Int}:∀{l:WL},l.Pairwise (· >= ·)->(U1 x l).Pairwise (· >= ·)
 |[],_=>by simp[U1]
 |y::ys,h=>by
  rw[Y2]at h;unfold U1;split
  .rename_i c;rw[Y2,Y2];refine⟨λz hz=>?_,h⟩;rcases Y1.1 hz with rfl|hz
   .exact Int.le_of_lt c.1
   .exact Int.le_of_lt (c.2 z hz)
  .rename_i c;rw[Y2];refine⟨λz hz=>?_,ZBu h.2⟩;rcases ZNi.1 hz with rfl|hz
   .show z<=y;rcases Int.lt_or_le y z with h1|h1
    .exact absurd ⟨h1,λt ht=>Int.lt_of_le_of_lt (h.1 t ht) h1⟩ c
    .exact h1
   .exact h.1 z hz
def dwn(l:WL):WL:=l.foldl (λout x=>U1 x out) []
def ZBv:∀(l out:WL),out.Pairwise (· >= ·)->(l.foldl (λout x=>U1 x out) out).Pairwise (· >= ·)/\(l.foldl (λout x=>U1 x out) out).Perm (l++out)
 |[],out,h=>⟨h,.refl _⟩
 |x::l,out,h=>by
  obtain⟨h1,h2⟩:=ZBv l (U1 x out) (ZBu h);refine⟨h1,h2.trans ?_⟩;exact((Zqv x out).append_left l).trans List.perm_middle
def ZBw:∀{a b:WL},a.Pairwise (· >= ·)->b.Pairwise (· >= ·)->a.Perm b->a=b
 |[],b,_,_,h=>h.symm.eq_nil.symm
 |x::a,[],_,_,h=>absurd h.eq_nil Om
 |x::a,y::b,ha,hb,h=>by
  have e:x=y:=by
   have h1:x∈y::b:=h.mem_iff.1 (.head _);have h2:y∈x::a:=h.mem_iff.2 (.head _);rw[Y2]at ha hb;have q1:x<=y:=by rcases Y1.1 h1 with h1|h1;exact Int.le_of_eq h1;exact hb.1 x h1
   have q2:y<=x:=by rcases Y1.1 h2 with h2|h2;exact Int.le_of_eq h2;exact ha.1 y h2
   omega
  subst e;rw[ZBw (Y2.1 ha).2 (Y2.1 hb).2 (h.cons_inv)]
def Nf(l:WL):dwn l=(SO l).reverse:=by
 obtain⟨h1,h2⟩:=ZBv l [] List.Pairwise.nil;refine ZBw h1 ?_ ?_
 .rw[List.pairwise_reverse];have:=List.pairwise_mergeSort (le:=λx y:Int=>decide (x<=y)) (by intro a b c;simp;omega) (by intro a b;simp;omega) l;exact this.imp λ{a b} h=>by simpa using h
 .rw[E0]at h2;exact h2.trans ((rV l _).symm.trans (List.reverse_perm _).symm)
def U2(row:List Zb)(j:Nat):List (Option Zb):=(List.range row.length).map λk=>if k=j then Wk ⟨1,1⟩ (row.getD j r0)else Wk (row.getD k r0) (row.getD j r0)
def Ng(l p:List Zb)(a:Zb)(j:Nat):List (Option Zb):=(List.range l.length).map λk=>Z1n k j (l.getD k r0) (l.getD j r0) a (p.getD k r0)
def X9(l p:List Zb)(j:Nat):List (Option Zb):=(List.range l.length).map λk=>KW k j (l.getD k r0) (l.getD j r0) (p.getD k r0)
theorem ZNj{row:List Zb}{j:Nat}(hj:j<row.length)(ha:vR (row.getD j r0)=true)(h0:(row.getD j r0).Num≠0):Wk ⟨1,1⟩ (row.getD j r0)=some ((vals (U2 row j)).getD j r0):=by
 obtain⟨i,hi,_⟩:=ZBo ha h0;rw[hi];congr 1;unfold vals U2
 simp_all
def Nh{l row:List Zb}{j:Nat}(hj:j<row.length)(hc:vR (l.getD j r0)=true)(ha:vR (row.getD j r0)=true)(h0:(row.getD j r0).Num≠0) :
  Ng l (vals (U2 row j)) (row.getD j r0) j=X9 l (vals (U2 row j)) j:=by
 unfold Ng X9
 grind [List.map_congr_left,Nd,ZNj]
def Qt(l:List Zb):Prop:=∀r∈l,vR r=true
theorem SR{l:List Zb}(h:Qt l){k:Nat}(hk:k<l.length):vR (l.getD k r0)=true:=by
 rw[DN,Yd hk];exact h _ (Yf hk)
theorem ZBx{a b c y:Zb}(ha:vR a=true)(h:Ce a b c=some y):vR y=true:=by
 unfold Ce at h;split at h
 .cases h;exact ha
 .cases hx:Wj b c with
  |none=>rw[hx]at h;cases h
  |some x=>rw[hx]at h;exact Z1m h
def Ni{a b c y:Zb}(ha:vR a=true)(h:EQ a b c=some y):vR y=true:=by
 unfold EQ at h;split at h
 .cases h;exact ha
 .cases hx:Wj b c with
  |none=>rw[hx]at h;cases h
  |some x=>rw[hx]at h;exact ZBm h
def ZBy{l p:List Zb}{j:Nat}(hl:Qt l)(h:Xf (X9 l p j)=true):Qt (vals (X9 l p j)):=by
 refine Z1o h λo ho r e=>?_
 unfold X9 at ho;obtain⟨k,hk,rfl⟩:=Yn.1 ho;have hk:=Y3.1 hk;unfold KW at e
 grind [ZBx,v0,SR]
def ZNk{row:List Zb}{j:Nat}(h:Xf (U2 row j)=true):Qt (vals (U2 row j)):=by
 refine Z1o h λo ho r e=>?_
 unfold U2 at ho
 grind [JI]
def mC(l p:List Zb)(j:Nat):(X9 l p j).length=l.length:=by simp[X9]
def ZBz(row:List Zb)(j:Nat):(U2 row j).length=row.length:=by simp[U2]
def QO(l:List (Option Zb)):(vals l).length=l.length:=by simp[vals]
def KX(d:Zv)(i j:Nat):List (List (Option Zb)):=(List.range d.Cells.length).map λr=>if r=i then U2 (d.Cells.getD i []) j else X9 (d.Cells.getD r []) (vals (U2 (d.Cells.getD i []) j)) j
def UY(d:Zv)(i j:Nat):Option Zb:=Wk (d.Limits.getD i r0) ((d.Cells.getD i []).getD j r0)
def VQ(d:Zv)(i j:Nat):List (Option Zb):=(List.range d.Limits.length).map λr=>if r=i then UY d i j else Ce (d.Limits.getD r r0) ((d.Cells.getD r []).getD j r0) ((UY d i j).getD r0)
def UZ(d:Zv)(i j:Nat):List (Option Zb):=X9 d.Costs (vals (U2 (d.Cells.getD i []) j)) j
def Kw(d:Zv)(i j:Nat):Option Zb:=EQ d.Value (d.Costs.getD j r0) ((UY d i j).getD r0)
def okO(d:Zv)(i j:Nat):Bool:=Xf (U2 (d.Cells.getD i []) j) && (UY d i j).isSome && (KX d i j).all Xf && Xf (VQ d i j) && Xf (UZ d i j) && (Kw d i j).isSome
def Ww(d:Zv)(i j:Nat):Zv :=
 ⟨d.Basic.set i (d.Free.getD j 0),d.Free.set j (d.Basic.getD i 0),(KX d i j).map vals,vals (VQ d i j),vals (UZ d i j),(Kw d i j).getD r0⟩
structure QP (d:Zv):Prop where
 m:d.Basic.length<=64
 n:1<=d.Free.length/\d.Free.length<=15
 lc:d.Cells.length=d.Basic.length
 ll:d.Limits.length=d.Basic.length
 lk:d.Costs.length=d.Free.length
 vs:∀v:Nat,v<d.Basic.length+d.Free.length->(v:Int)∈d.Basic++d.Free
 rw':∀r∈d.Cells,r.length=d.Free.length/\Qt r
 vl:Qt d.Limits
 vk:Qt d.Costs
 vv:vR d.Value=true
def ZNl{d:Zv}(h:QP d){i j:Nat}(hi:i<d.Basic.length)(hj:j<d.Free.length)(ok:okO d i j=true):QP (Ww d i j):=by
 unfold okO at ok;simp only[Yg]at ok;obtain⟨⟨⟨⟨⟨o1,o2⟩,o3⟩,o4⟩,o5⟩,o6⟩:=ok;have hci:i<d.Cells.length:=by rw[h.lc];exact hi
 have cell:∀r,r<d.Cells.length->(d.Cells.getD r []).length=d.Free.length/\Qt (d.Cells.getD r []):=by
  intro r hr;rw[DN,Yd hr];exact h.rw' _ (Yf hr)
 refine⟨by simpa[Ww]using h.m,by simpa[Ww]using h.n,by simp[Ww,KX,h.lc],by simp[Ww,vals,VQ,h.ll],by simp[Ww,vals,UZ,X9,h.lk],?_,?_,?_,ZBy h.vk o5,?_⟩
 .intro v hv;have hv:v<d.Basic.length+d.Free.length:=by simpa[Ww]using hv
  have:=h.vs v hv;have e1:d.Free.getD j 0=d.Free[j]:=by rw[DN,Yd hj];rfl
  have e2:d.Basic.getD i 0=d.Basic[i]:=by rw[DN,Yd hi];rfl
  show(v:Int)∈d.Basic.set i (d.Free.getD j 0)++d.Free.set j (d.Basic.getD i 0)
  grind [ZNa]
 .intro r hr;obtain⟨l,hl,rfl⟩:=Yn.1 hr;have hok:=Yp.1 o3 l hl;unfold KX at hl;obtain⟨k,hk,rfl⟩:=Yn.1 hl;have hk:=Y3.1 hk;split at hok
  .rename_i e;rw[Ya e];refine⟨?_,ZNk o1⟩;rw[QO,ZBz];show _=(d.Free.set j _).length
   simp_all
  .rename_i e;rw[Yb e];refine⟨?_,ZBy (cell k hk).2 hok⟩;rw[QO,mC];show _=(d.Free.set j _).length
   simp_all
 .refine Z1o o4 λo ho r e=>?_
  unfold VQ at ho;obtain⟨k,hk,rfl⟩:=Yn.1 ho;have hk:=Y3.1 hk;split at e
  .exact JI e
  .exact ZBx (SR h.vl hk) e
 .show vR ((Kw d i j).getD r0)=true
  cases e:Kw d i j with
  |none=>rw[e]at o6;cases o6
  |some y=>exact Ni h.vv e
def ZNm{a b c:Zb}(ha:vR a=true)(hb:vR b=true)(hc:vR c=true)(h1:CQ a b)(h2:CQ b c):CQ a c:=by
 unfold CQ at *
 have pa:=Vc ha;have pb:=Vc hb;have pc:=Vc hc;have k1:=Int.mul_le_mul_of_nonneg_right h1 (show 0<=c.Den by omega);have k2:=Int.mul_le_mul_of_nonneg_right h2 (show 0<=a.Den by omega);have k3:0<=(c.Num*a.Den-a.Num*c.Den)*b.Den:=by
  have:(c.Num*a.Den-a.Num*c.Den)*b.Den=c.Num*b.Den*a.Den-a.Num*b.Den*c.Den:=by grind
  have e:b.Num*a.Den*c.Den=b.Num*c.Den*a.Den:=by grind
  omega
 have:=Gt pb k3;omega
def ZNn(a:Zb):CQ a a:=Int.le_refl _
def JJ(a b:Zb):Int:=if vR a && vR b then(if a.Num*b.Den<b.Num*a.Den then -1 else if b.Num*a.Den<a.Num*b.Den then 1 else 0)else 0
def ZNo{a b:Zb}(h:JJ a b<0):CQ a b:=by
 unfold JJ at h;unfold CQ;split at h
 .split at h
  .omega
  .split at h<;>omega
 .omega
def ZNp{a b:Zb}(ha:vR a=true)(hb:vR b=true)(h:JJ a b=0):CQ a b:=by
 unfold JJ at h;unfold CQ;rw[ha,hb]at h;split at h
 .split at h
  .omega
  .split at h<;>omega
 .rename_i hh;exact absurd rfl hh
def ZNq{a b:Zb}(ha:vR a=true)(hb:vR b=true)(h:¬JJ a b<0):CQ b a:=by
 unfold JJ at h;unfold CQ;rw[ha,hb]at h;split at h
 .split at h
  .omega
  .split at h<;>omega
 .rename_i hh;exact absurd rfl hh
def Zqw(l:List Zb):Prop:=∀r∈l,0<=r.Num
def Z1q{l:List Zb}(h:Zqw l){k:Nat}(hk:k<l.length):0<=(l.getD k r0).Num:=by
 rw[DN,Yd hk];exact h _ (Yf hk)
def ZNr{d:Zv}(h:QP d)(hl:Zqw d.Limits)(hv:0<=d.Value.Num){i j:Nat}(hi:i<d.Basic.length)(hj:j<d.Free.length)
  (hc:0<(d.Costs.getD j r0).Num) (ha:0<((d.Cells.getD i []).getD j r0).Num)
  (c:∀k,k<d.Basic.length->0<((d.Cells.getD k []).getD j r0).Num->∃q,Wk (d.Limits.getD k r0) ((d.Cells.getD k []).getD j r0)=some q/\CQ ((UY d i j).getD r0) q)
  (ok:okO d i j=true):Zqw (Ww d i j).Limits/\0<=(Ww d i j).Value.Num:=by
 unfold okO at ok;simp only[Yg]at ok;obtain⟨⟨⟨⟨⟨o1,o2⟩,o3⟩,o4⟩,o5⟩,o6⟩:=ok;have hii:i<d.Limits.length:=by rw[h.ll];exact hi
 cases e:UY d i j with
 |none=>rw[e]at o2;cases o2
 |some lim =>
  have Abb:vR lim=true:=JI e;have Nj:0<=lim.Num:=ZNg (Z1q hl hii) ha e;constructor
  .intro r hr;obtain⟨o,ho,rfl⟩:=Yn.1 hr;have hs:=Yp.1 o4 o ho;unfold VQ at ho;obtain⟨k,hk,rfl⟩:=Yn.1 ho;have hk:=Y3.1 hk;by_cases hki:k=i
   .rw[Ya hki,e];exact Nj
   .rw[Yb hki]at hs|-;rw[e]at hs|-
    cases hy:Ce (d.Limits.getD k r0) ((d.Cells.getD k []).getD j r0) ((some lim).getD r0)with
    |none=>rw[hy]at hs;cases hs
    |some y =>
     show 0<=y.Num;by_cases hp:0<((d.Cells.getD k []).getD j r0).Num
     .obtain⟨q,hq,hle⟩:=c k (by rw[<-h.ll];exact hk) hp;rw[e]at hle;exact ZNe (Z1q hl hk) hp hq Abb hle hy
     .exact ZNf (Z1q hl hk) Z Nj hy
  .show 0<=((Kw d i j).getD r0).Num
   cases hy:Kw d i j with
   |none=>rw[hy]at o6;cases o6
   |some y =>
    unfold Kw at hy;rw[e]at hy;exact ZNh hv Z Nj hy
def Gu(F:WL):List Zb->Nat->Int->Int
 |[],_,best=>best
 |c::cs,k,best=>Gu F cs (k+1) (if 0<c.Num/\(best<0\/F.getD k 0<F.getD best.toNat 0)then(k:Int)else best)
def ent(d:Zv):Int:=Gu d.Free d.Costs 0 (-1)
def ZB0{F:WL}{C:List Zb}:∀(cs:List Zb) (k:Nat) (cc:Int),cs=C.drop k->(cc=-1\/(0<=cc/\cc<C.length/\0<(C.getD cc.toNat r0).Num))->
  Gu F cs k cc=-1\/(0<=Gu F cs k cc/\Gu F cs k cc<C.length/\0<(C.getD (Gu F cs k cc).toNat r0).Num)
 |[],_,_,_,h=>h
 |c::cs,k,cc,e,h=>by
  have hk:k<C.length:=by
   grind [Nat.lt_or_ge,List.drop_eq_nil_of_le]
  rw[Yi hk]at e;obtain⟨rfl,e2⟩:=List.cons.inj e;unfold Gu;refine ZB0 cs (k+1) _ e2 ?_
  grind
theorem Z1r(d:Zv):ent d=-1\/(0<=ent d/\ent d<d.Costs.length/\0<(d.Costs.getD (ent d).toNat r0).Num):=ZB0 d.Costs 0 (-1) rfl (.inl rfl)
def Vl(d:Zv)(i j:Nat):Zb:=(d.Cells.getD i []).getD j r0
def ER(d:Zv)(j:Nat):Nat->Nat->Int->Zb->Int
 |0,_,best,_=>best
 |n+1,i,best,least =>
  if(Vl d i j).Num<=0 then ER d j n (i+1) best least
  else match Wk (d.Limits.getD i r0) (Vl d i j)with
   |none=>-1
   |some q=>if best<0\/JJ q least<0\/(JJ q least=0/\d.Basic.getD i 0<d.Basic.getD best.toNat 0)then ER d j n (i+1) i q else ER d j n (i+1) best least
def Ck(d:Zv)(j:Nat):Int:=ER d j d.Basic.length 0 (-1) r0
def ES(d:Zv)(j k:Nat):Prop:=0<(Vl d k j).Num
def ZB1(d:Zv)(j i:Nat)(c:Int)(cc:Zb):Prop :=
 (c=-1/\∀k,k<i->¬ES d j k)\/(0<=c/\c<i/\ES d j c.toNat/\Wk (d.Limits.getD c.toNat r0) (Vl d c.toNat j)=some cc/\∀k,k<i->ES d j k->∃q,Wk (d.Limits.getD k r0) (Vl d k j)=some q/\CQ cc q)
def Zqx(d:Zv)(j:Nat):∀(n i:Nat) (cc:Int) (c:Zb),ZB1 d j i cc c->ER d j n i cc c=-1\/∃l,ZB1 d j (i+n) (ER d j n i cc c) l/\0<=ER d j n i cc c
 |0,i,cc,c,h=>by
  rcases h with h|h
  .exact .inl h.1
  .exact .inr ⟨c,.inr h,h.1⟩
 |n+1,i,cc,c,h=>by
  unfold ER;split
  .rename_i h0;rw[show i+(n+1)=(i+1)+n by omega];refine Zqx d j n (i+1) cc c ?_;have hno:¬ES d j i:=by unfold ES;omega
   rcases h with h|⟨h1,h2,h3,h4,h5⟩
   .refine .inl ⟨h.1,λk hk=>?_⟩;rcases DD k i with hl|hl
    .exact h.2 k hl
    .have:k=i:=by omega
     subst this;exact hno
   .refine .inr ⟨h1,Z,h3,h4,λk hk hon=>?_⟩;rcases DD k i with hl|hl
    .exact h5 k hl hon
    .have:k=i:=by omega
     subst this;exact absurd hon hno
  .rename_i h0;have hon:ES d j i:=by unfold ES;omega
   split
   .exact .inl rfl
   .rename_i q hq;have vq:=JI hq;rw[show i+(n+1)=(i+1)+n by omega];split
    .rename_i hc;refine Zqx d j n (i+1) i q (.inr ⟨Z,Z,by rw[Yh];exact hon,by rw[Yh];exact hq,λk hk hk2=>?_⟩);rcases DD k i with hl|hl
     .rcases h with h|⟨h1,h2,h3,h4,h5⟩
      .exact absurd hk2 (h.2 k hl)
      .have vl:=JI h4;have hle:CQ q c:=by
        rcases hc with hc|hc|hc
        .omega
        .exact ZNo hc
        .exact ZNp vq vl hc.1
       obtain⟨q',hq',Abc⟩:=h5 k hl hk2;exact⟨q',hq',ZNm vq vl (JI hq') hle Abc⟩
     .have:k=i:=by omega
      subst this;exact⟨q,hq,ZNn q⟩
    .rename_i hc;refine Zqx d j n (i+1) cc c ?_;rcases h with h|⟨h1,h2,h3,h4,h5⟩
     .exact absurd (.inl Z) hc
     .have vl:=JI h4;refine .inr ⟨h1,Z,h3,h4,λk hk hk2=>?_⟩;rcases DD k i with hl|hl
      .exact h5 k hl hk2
      .have:k=i:=by omega
       subst this;exact⟨q,hq,ZNq vq vl λhx=>hc (.inr (.inl hx))⟩
def ZB2(d:Zv)(j:Nat):Ck d j=-1\/(0<=Ck d j/\Ck d j<d.Basic.length/\ES d j (Ck d j).toNat/\∀k,k<d.Basic.length->ES d j k->∃q,Wk (d.Limits.getD k r0) (Vl d k j)=some q/\CQ ((UY d (Ck d j).toNat j).getD r0) q):=by
 rcases Zqx d j d.Basic.length 0 (-1) r0 (.inl ⟨rfl,λk hk=>absurd hk (Nat.not_lt_zero k)⟩)with h|⟨l,h,h0⟩
 .exact .inl h
 .rw[Yw]at h;rcases h with h|⟨h1,h2,h3,h4,h5⟩
  .exact .inl h.1
  .refine .inr ⟨h1,h2,h3,λk hk hon=>?_⟩;have e:UY d (Ck d j).toNat j=some l:=h4
   simp_all
def H7:Nat->Zv->Option Zv
 |0,_=>none
 |f+1,d=>if ent d<0 then some d else if Ck d (ent d).toNat<0 then none else if okO d (Ck d (ent d).toNat).toNat (ent d).toNat then H7 f (Ww d (Ck d (ent d).toNat).toNat (ent d).toNat)else none
structure H8 (d:Zv):Prop where
 v:QP d
 l:Zqw d.Limits
 x:0<=d.Value.Num
def ZB3{d:Zv}(h:H8 d)(h1:¬ent d<0)(h2:¬Ck d (ent d).toNat<0)(ok:okO d (Ck d (ent d).toNat).toNat (ent d).toNat=true):H8 (Ww d (Ck d (ent d).toNat).toNat (ent d).toNat):=by
 have hk:=h.v.lk;rcases Z1r d with e|⟨e1,e2,e3⟩
 .omega
 rcases ZB2 d (ent d).toNat with l|⟨l1,l2,l3,l4⟩
 .omega
 have:=ZNr h.v h.l h.x (i:=(Ck d (ent d).toNat).toNat) (j:=(ent d).toNat) Z Z e3 l3 l4 ok;exact⟨ZNl h.v Z Z ok,this.1,this.2⟩
theorem ZB4:∀(f:Nat) {d d':Zv},H8 d->H7 f d=some d'->H8 d'
 |0,d,d',_,h=>by cases h
 |f+1,d,d',hd,h=>by
  unfold H7 at h;split at h
  .cases h;exact hd
  rename_i h1;split at h
  .cases h
  rename_i h2;split at h
  .rename_i h3;exact ZB4 f (ZB3 hd h1 h2 h3) h
  .cases h
def ZB5:∀(k:WL) {l:WL},k.Nodup->(∀x∈k,x∈l)->l.length<=k.length->∀x∈l,x∈k
 |[],l,_,_,hl,x,hx=>by
  have:l=[]:=TD.1 (by simpa using hl)
  subst this;cases hx
 |a::k,l,hn,hs,hl,x,hx=>by
  have hn':=TA.1 hn;have ha:a∈l:=hs a Om;by_cases e:x=a
  .simp[e]
  .have hx':x∈l.erase a:=(List.mem_erase_of_ne e).2 hx
   have:=ZB5 k hn'.2 (l:=l.erase a) (λy hy=>by
    have hya:y≠a:=λh=>hn'.1 (h▸hy)
    exact(List.mem_erase_of_ne hya).2 (hs y (by simp[hy]))) (by
    rw[List.length_erase_of_mem ha];simp only[Yx]at hl;omega) x hx'
   simp[this]
def ZB6{d:Zv}(h:QP d):∀x∈d.Basic++d.Free,0<=x/\x<d.Basic.length+d.Free.length:=by
 intro x hx
 have:=ZB5 ((List.range (d.Basic.length+d.Free.length)).map λn:Nat=>(n:Int)) (l:=d.Basic++d.Free) (by
  refine List.pairwise_map.2 (List.nodup_range.imp ?_)
  intro a b hab h;exact hab Z) (by
  intro y hy;obtain⟨n,hn,rfl⟩:=Yn.1 hy
  exact h.vs n (Y3.1 hn)) Om x hx
 obtain⟨n,hn,rfl⟩:=Yn.1 this;have:=Y3.1 hn;omega
def mD(k B:Int):Nat->Int->Bool
 |0,_=>true
 |n+1,p=>if B<p*k then false else mD k B n (p*k)
def pfG(B:Int)(c:Nat):Nat->Int->Int
 |0,k=>k
 |f+1,k=>if mD (k+1) B c 1 then pfG B c f (k+1)else k
def SS(r:Zb):Int:=if r.Num.tdiv r.Den*r.Den<r.Num then r.Num.tdiv r.Den+1 else r.Num.tdiv r.Den
def Nk(b:Int):Int:=if 12<=b then 4096 else 2 ^ b.toNat
def mG(r:Zb):Int:=if 40<r.Num then Nk (SS r)else pfG (2 ^ r.Num.toNat) r.Den.toNat 4095 1
def KY(v:Int):WL->WL->WL
 |[],row=>row
 |s::ss,row=>KY v ss (if 0<s then row.set (s-1).toNat v else row)
def V9(full:Nat)(cc c:WL):WL:=KY (-1) c (KY 1 cc (List.replicate full 0))
def Z1s(v:Int):∀(ss row:WL),(KY v ss row).length=row.length
 |[],_=>rfl
 |s::ss,row=>by
  unfold KY;rw[Z1s v ss];split<;>simp
def dis(ss:WL):Prop:=(ss.filter λs=>decide (0<s)).Nodup
def bst(c n:Int):Int:=if c<0\/n<c then n else c
def ZB7{M:Int}(hM:0<=M):∀(l:V3) (g:Nat->Int) (b:Int),(∀i∈l,0<=g i/\g i<=M)->b<=M->(l≠[]\/0<=b)->0<=l.foldl (λbest i=>bst best (g i)) b/\l.foldl (λbest i=>bst best (g i)) b<=M
 |[],_,b,_,hb,h=>by
  rcases h with h|h
  .exact absurd rfl h
  .exact⟨h,hb⟩
 |i::l,g,b,hg,hb,h=>by
  have h1:=hg i Om;refine ZB7 hM l g (bst b (g i)) (λk hk=>hg k (by simp[hk])) ?_ ?_
  .unfold bst;split<;>omega
  .right;unfold bst;split<;>omega
