/-
  Parts of the proofs for this seat: RA RB RC RD RE RF RG RH RI RJ RK RL.
-/
import Derived.Test.YtggcnlojfngdeaaGreatP25
set_option linter.all false
set_option maxRecDepth 100000
set_option maxHeartbeats 4000000
namespace Go.Proofs.YtggcnlojfngdeaaGreat
open Go.AM
theorem ZM{x a b:Int}:Ak x a b=true↔a<=x/\x<=b:=by simp[Ak]
def ft(b:Bool):b=true\/b=false:=by cases b<;>simp
def vR(r:Zb):Bool:=Ak r.Den 1 2147483647 && Ak r.Num (-2147483647) 2147483647 && decide (Int.gcd r.Num r.Den=1)
def nR(r:Zb):Zb:=⟨-r.Num,r.Den⟩
def r0:Zb:=⟨0,0⟩
def BN(n d:Int):Option Zb:=if vR ⟨n.tdiv (Int.gcd n d),d.tdiv (Int.gcd n d)⟩then some ⟨n.tdiv (Int.gcd n d),d.tdiv (Int.gcd n d)⟩else none
def BQ(n d:Int):Option Zb:=if d=0 then none else if d<0 then BN (-n) (-d)else BN n d
def V0(a b:Zb):Option Zb:=if vR a && vR b then BQ (a.Num*b.Den+b.Num*a.Den) (a.Den*b.Den)else none
def Uh(a b:Zb):Option Zb:=if vR a && vR b then BQ (a.Num*b.Den-b.Num*a.Den) (a.Den*b.Den)else none
def We(a b:Zb):Option Zb:=if vR a && vR b then BQ (a.Num*b.Num) (a.Den*b.Den)else none
def Wf(a b:Zb):Option Zb:=if vR a && vR b then BQ (a.Num*b.Den) (a.Den*b.Num)else none
def U1{r:Zb}:vR r=true↔(1<=r.Den/\r.Den<=2147483647)/\(-2147483647<=r.Num/\r.Num<=2147483647)/\Int.gcd r.Num r.Den=1:=by
 unfold vR;rw[Yd,Yd,ZM,ZM,decide_eq_true_iff,and_assoc]
def lT(r:Zb):vR (nR r)=vR r:=by
 have h:vR (nR r)=true↔vR r=true:=by
  rw[U1,U1];simp only[nR,Int.neg_gcd];omega
 simp_all
def Z8T(n d:Int):BN (-n) d=(BN n d).map nR:=by
 unfold BN;have e:(⟨(-n).tdiv (Int.gcd (-n) d),d.tdiv (Int.gcd (-n) d)⟩:Zb)=nR ⟨n.tdiv (Int.gcd n d),d.tdiv (Int.gcd n d)⟩:=by
  simp[nR,Int.neg_tdiv]
 simp_all [lT]
def ZKp(n d:Int):BQ (-n) d=(BQ n d).map nR:=by
 unfold BQ;split
 .rfl
 split
 .exact Z8T _ _
 .exact Z8T _ _
def Z8U(n d:Int):BQ (-n) (-d)=BQ n d:=by
 unfold BQ
 grind
def ZKq(a b:Zb):We (nR a) b=(We a b).map nR:=by
 unfold We;rw[lT];split
 .rw[<-ZKp];simp[nR,Int.neg_mul]
 .rfl
def Z8V(a b:Zb):Uh a b=V0 a (nR b):=by
 unfold Uh V0;rw[lT];split
 .simp only[nR,Int.neg_mul,Int.sub_eq_add_neg]
 .rfl
def Zp0{n d:Int}{r:Zb}(h:BQ n d=some r):vR r=true:=by
 unfold BQ BN at h
 grind
def Z8W{a b r:Zb}(h:V0 a b=some r):vR r=true:=by
 unfold V0 at h;split at h
 .exact Zp0 h
 .cases h
def Zzy{a b r:Zb}(h:Uh a b=some r):vR r=true:=by
 unfold Uh at h;split at h
 .exact Zp0 h
 .cases h
def Z8X{a b r:Zb}(h:We a b=some r):vR r=true:=by
 unfold We at h;split at h
 .exact Zp0 h
 .cases h
theorem Jy{a b r:Zb}(h:Wf a b=some r):vR r=true:=by
 unfold Wf at h;split at h
 .exact Zp0 h
 .cases h
def E7(a b c:Zb):Option Zb:=if b.Num=0\/c.Num=0 then some a else(We b c).bind (V0 a)
def Cc(a b c:Zb):Option Zb:=if b.Num=0\/c.Num=0 then some a else(We b c).bind (Uh a)
def lU(a b c:Zb):E7 a (nR b) c=Cc a b c:=by
 unfold E7 Cc;have e:(nR b).Num=0↔b.Num=0:=by simp[nR]
 rw[ZKq];by_cases h:b.Num=0\/c.Num=0
 .simp_all
 .rw[Yb h,Yb (by rw[e];exact h)]
  cases We b c with
  |none=>rfl
  |some x=>show V0 a (nR x)=Uh a x;rw[Z8V]
theorem ZKr{r:Zb}(h:vR r=true):BN r.Num r.Den=some r:=by
 have g:=(U1.1 h).2.2;unfold BN
 simp_all
def Zp1{r:Zb}(h:vR r=true):BQ r.Num r.Den=some r:=by
 have:=(U1.1 h).1;unfold BQ
 grind [ZKr]
theorem v0:vR ⟨0,1⟩=true:=by decide
def v1:vR ⟨1,1⟩=true:=by decide
def Z8Y{a:Zb}(h:vR a=true)(h0:a.Num≠0):∃i,Wf ⟨1,1⟩ a=some i/\vR i=true/\((a.Num<0/\i=⟨-a.Den,-a.Num⟩)\/(0<a.Num/\i=⟨a.Den,a.Num⟩)):=by
 have g:=U1.1 h;unfold Wf;rw[v1,h];simp only[Bool.and_self,if_true,Int.one_mul];by_cases hn:a.Num<0
 .have hv:vR (⟨-a.Den,-a.Num⟩:Zb)=true:=U1.2 ⟨by simp only;omega,by simp only;omega,by simp only[Int.neg_gcd,Int.gcd_neg];rw[Int.gcd_comm];exact g.2.2⟩;have e:=Zp1 hv
  simp_all [Z8U]
 .have hv:vR (⟨a.Den,a.Num⟩:Zb)=true:=U1.2 ⟨by simp only;omega,by simp only;omega,by simp only;rw[Int.gcd_comm];exact g.2.2⟩;exact⟨_,Zp1 hv,hv,.inr ⟨Z,rfl⟩⟩
def Nh{c a i:Zb}(hc:vR c=true)(ha:vR a=true)(h0:a.Num≠0)(hi:Wf ⟨1,1⟩ a=some i):Cc ⟨0,1⟩ c i=(Wf c a).map nR:=by
 obtain⟨j,hj,hv,hs⟩:=Z8Y ha h0;obtain rfl:i=j:=Option.some.inj (hi.symm.trans hj);have gc:=U1.1 hc;have ga:=U1.1 ha;have hd:Wf c a=We c i:=by
  unfold Wf We;rw[hc,ha,hv];simp only[Bool.and_self,if_true];rcases hs with⟨_,rfl⟩|⟨_,rfl⟩
  .simp[Z8U,Int.mul_neg]
  .rfl
 rw[hd];unfold Cc;have hin:i.Num≠0:=by
  grind
 by_cases hcn:c.Num=0
 .rw[Ya (.inl hcn)];have hid:=(U1.1 hv).1;have h1:c.Den=1:=by have:=gc.2.2;rw[hcn,Int.gcd_zero_left]at this;omega
  unfold We;rw[hc,hv];simp only[Bool.and_self,if_true];rw[hcn,h1,Int.zero_mul,Int.one_mul];unfold BQ BN;rw[Ap,Ap];have e:(⟨(0:Int).tdiv (Int.gcd 0 i.Den),i.Den.tdiv (Int.gcd 0 i.Den)⟩:Zb)=⟨0,1⟩:=by
   grind [Int.gcd_zero_left,Int.zero_tdiv,Int.tdiv_self]
  rw[e,v0];rfl
 .rw[Yb (by simp[hcn,hin])]
  cases hm:We c i with
  |none=>rfl
  |some x =>
   have hx:=Z8X hm;show Uh ⟨0,1⟩ x=some (nR x);rw[Z8V];unfold V0;rw[v0,lT,hx];simp only[Bool.and_self,if_true,Int.zero_mul,Int.zero_add,Int.mul_one,Int.one_mul]
   simp_all [Zp1,lT]
def ZKs{d:Int}(h:1<=d):BQ 0 d=some ⟨0,1⟩:=by
 have hg:(Int.gcd 0 d:Int)=d:=by
  rw[Int.gcd_zero_left];omega
 unfold BQ;rw[Ap,Ap];unfold BN;rw[hg,Int.zero_tdiv,Int.tdiv_self Z,Ya v0]
def ZKt{b c:Zb}(hb:vR b=true)(hc:vR c=true)(h:b.Num=0\/c.Num=0):We b c=some ⟨0,1⟩:=by
 unfold We;rw[hb,hc,Ya (by rfl)];have e:b.Num*c.Num=0:=by rcases h with h|h<;>rw[h]<;>simp
 rw[e];have h1:=(U1.1 hb).1.1;have h2:=(U1.1 hc).1.1;exact ZKs (by have:=Int.mul_le_mul h1 h2 Z Z;simpa using this)
def ZKu{a:Zb}(h:vR a=true):V0 a ⟨0,1⟩=some a:=by
 unfold V0;rw[h,v0,Ya (by rfl)];have e:a.Num*1+0*a.Den=a.Num:=by omega
 have e2:a.Den*1=a.Den:=by omega
 show BQ (a.Num*1+0*a.Den) (a.Den*1)=some a;rw[e,e2,Zp1 h]
def ZKv{a b c:Zb}(ha:vR a=true)(hb:vR b=true)(hc:vR c=true):E7 a b c=(We b c).bind (V0 a):=by
 unfold E7;split
 .rename_i h;rw[ZKt hb hc h];exact(ZKu ha).symm
 .rfl
def Zzz(k j:Nat)(x c a p:Zb):Option Zb:=if k=j then(Wf c a).map nR else E7 x (nR c) p
def KG(k j:Nat)(x c p:Zb):Option Zb:=Cc (if k=j then⟨0,1⟩else x) c p
theorem Ni{k j:Nat}{x c a p:Zb}(hc:vR c=true)(ha:vR a=true)(h0:a.Num≠0)(hp:k=j->Wf ⟨1,1⟩ a=some p):Zzz k j x c a p=KG k j x c p:=by
 unfold Zzz KG;by_cases h:k=j
 .rw[Ya h,Ya h];exact(Nh hc ha h0 (hp h)).symm
 .rw[Yb h,Yb h];exact lU x c p
def Z8Z{l:WL}{i:Nat}(h:i<l.length)(a:Int):a∈l.set i a:=by
 rw[List.mem_iff_getElem];exact⟨i,by rw[CD];exact h,Om⟩
def Z9a{l:WL}{i:Nat}{a x:Int}(h:x∈l)(h':∀hi:i<l.length,x≠l[i]):x∈l.set i a:=by
 obtain⟨p,hp,rfl⟩:=List.mem_iff_getElem.1 h;rw[List.mem_iff_getElem];refine⟨p,by rw[CD];exact hp,?_⟩;rw[List.getElem_set,Yb];rintro rfl;exact h' hp rfl
theorem ZKw{B F:WL}{r c:Nat}(hr:r<B.length)(hc:c<F.length)(x:Int):x∈B.set r F[c]++F.set c B[r]↔x∈B++F:=by
 simp only[Yi];constructor
 .rintro(h|h)
  .rcases DV h with h|h
   .exact .inl h
   .exact .inr (h▸Ye hc)
  .rcases DV h with h|h
   .exact .inr h
   .exact .inl (h▸Ye hr)
 .rintro(h|h)
  .by_cases e:x=B[r]
   .rw[e];exact .inr (Z8Z hc _)
   .exact .inl (Z9a h λ_=>e)
  .by_cases e:x=F[c]
   .rw[e];exact .inl (Z8Z hr _)
   .exact .inr (Z9a h λ_=>e)
def Xf(l:List (Option Zb)):Bool:=l.all Option.isSome
def vals(l:List (Option Zb)):List Zb:=l.map λo=>o.getD r0
def ZKx(l k:List (Option Zb)):Xf (l++k)=(Xf l && Xf k):=by simp[Xf]
def ZKy(l k:List (Option Zb)):vals (l++k)=vals l++vals k:=by simp[vals]
def Zz0{l:List (Option Zb)}(h:Xf l=true)(hv:∀o∈l,∀r,o=some r->vR r=true):∀r∈vals l,vR r=true:=by
 intro r hr;obtain⟨o,ho,rfl⟩:=Yp.1 hr;have:=Yn.1 h o ho
 cases o with
 |none=>cases this
 |some x=>exact hv _ ho x rfl
def Z9b{n d:Int}{r:Zb}(hd:0<d)(h:BN n d=some r):r.Num*d=n*r.Den:=by
 unfold BN at h;split at h
 .cases h;have hg:(Int.gcd n d:Int) ∣ n:=Int.gcd_dvd_left ..;have hg2:(Int.gcd n d:Int) ∣ d:=Int.gcd_dvd_right ..;obtain⟨x,hx⟩:=hg;obtain⟨y,hy⟩:=hg2;have hpos:(0:Int)<Int.gcd n d:=by
   grind
  generalize hG:(Int.gcd n d:Int)=G at *
  have e1:n.tdiv G=x:=by rw[hx,Int.mul_tdiv_cancel_left _ Z]
  have e2:d.tdiv G=y:=by rw[hy,Int.mul_tdiv_cancel_left _ Z]
  grind
 .cases h
def Zp2{n d:Int}{r:Zb}(h:BQ n d=some r):r.Num*d=n*r.Den:=by
 unfold BQ at h;split at h
 .cases h
 split at h
 .have:=Z9b Z h
  grind
 .exact Z9b Z h
def WW{r:Zb}(h:vR r=true):0<r.Den:=by have:=(U1.1 h).1.1;omega
def ZKz{a b r:Zb}(h:V0 a b=some r):r.Num*(a.Den*b.Den)=(a.Num*b.Den+b.Num*a.Den)*r.Den:=by
 unfold V0 at h;split at h
 .exact Zp2 h
 .cases h
def Z9c{a b r:Zb}(h:Uh a b=some r):r.Num*(a.Den*b.Den)=(a.Num*b.Den-b.Num*a.Den)*r.Den:=by
 unfold Uh at h;split at h
 .exact Zp2 h
 .cases h
def Zz1{a b r:Zb}(h:We a b=some r):r.Num*(a.Den*b.Den)=(a.Num*b.Num)*r.Den:=by
 unfold We at h;split at h
 .exact Zp2 h
 .cases h
def Z9d{a b r:Zb}(h:Wf a b=some r):r.Num*(a.Den*b.Num)=(a.Num*b.Den)*r.Den:=by
 unfold Wf at h;split at h
 .exact Zp2 h
 .cases h
def SN{a b r:Zb}:(V0 a b=some r\/Uh a b=some r\/We a b=some r\/Wf a b=some r)->vR a=true/\vR b=true:=by
 intro h;rcases h with h|h|h|h
 .unfold V0 at h;split at h
  .simp_all
  .cases h
 .unfold Uh at h;split at h
  .simp_all
  .cases h
 .unfold We at h;split at h
  .simp_all
  .cases h
 .unfold Wf at h;split at h
  .simp_all
  .cases h
def CU(a b:Zb):Prop:=a.Num*b.Den<=b.Num*a.Den
def Gg{x y:Int}(hy:0<y)(h:0<=x*y):0<=x:=by
 rcases Int.lt_or_le x 0 with hx|hx
 .have:=Int.mul_neg_of_neg_of_pos hx hy;omega
 .exact hx
def ZK0{a b c q y:Zb}(ha:0<=a.Num)(hb:0<b.Num)(hq:Wf a b=some q)(hc:vR c=true)(cc:CU c q)(h:Cc a b c=some y):0<=y.Num:=by
 obtain⟨va,vb⟩:=SN (.inr (.inr (.inr hq)));have vq:=Jy hq;unfold Cc at h;split at h
 .cases h;exact ha
 .cases hx:We b c with
  |none=>rw[hx]at h;cases h
  |some x =>
   rw[hx]at h;have h:Uh a x=some y:=h;have vx:=Z8X hx;have vy:=Zzy h;have e1:=Z9c h;have e2:=Zz1 hx;have e3:=Z9d hq;have pa:=WW va;have pb:=WW vb;have pc:=WW hc;have pq:=WW vq;have px:=WW vx;have py:=WW vy;unfold CU at cc;have k1:0<=(a.Num*(b.Den*c.Den)-b.Num*c.Num*a.Den)*q.Den:=by
    have m:=Int.mul_le_mul_of_nonneg_left cc (show 0<=b.Num*a.Den from Int.mul_nonneg Z Z)
    have:(a.Num*(b.Den*c.Den)-b.Num*c.Num*a.Den)*q.Den=b.Num*a.Den*(q.Num*c.Den)-b.Num*a.Den*(c.Num*q.Den):=by grind
    omega
   have k2:=Gg pq k1;have k3:0<=(a.Num*x.Den-x.Num*a.Den)*(b.Den*c.Den):=by
    have:(a.Num*x.Den-x.Num*a.Den)*(b.Den*c.Den)=(a.Num*(b.Den*c.Den)-b.Num*c.Num*a.Den)*x.Den:=by grind
    rw[this];exact Int.mul_nonneg k2 Z
   have k4:=Gg (Int.mul_pos pb pc) k3;have k5:0<=y.Num*(a.Den*x.Den):=by rw[e1];exact Int.mul_nonneg k4 Z
   exact Gg (Int.mul_pos pa px) k5
def ZK1{a b c y:Zb}(ha:0<=a.Num)(hb:b.Num<=0)(hc:0<=c.Num)(h:Cc a b c=some y):0<=y.Num:=by
 unfold Cc at h;split at h
 .cases h;exact ha
 .cases hx:We b c with
  |none=>rw[hx]at h;cases h
  |some x =>
   rw[hx]at h;have h:Uh a x=some y:=h;obtain⟨va,vx⟩:=SN (.inr (.inl h));obtain⟨vb,vc⟩:=SN (.inr (.inr (.inl hx)));have e1:=Z9c h;have e2:=Zz1 hx;have pa:=WW va;have pb:=WW vb;have pc:=WW vc;have px:=WW vx;have py:=WW (Zzy h);have k0:0<=(-x.Num)*(b.Den*c.Den):=by
    have:(-x.Num)*(b.Den*c.Den)=(-b.Num)*c.Num*x.Den:=by grind
    rw[this];exact Int.mul_nonneg (Int.mul_nonneg Z hc) Z
   have k1:=Gg (Int.mul_pos pb pc) k0;have k2:0<=a.Num*x.Den-x.Num*a.Den:=by
    have p:=Int.mul_nonneg ha (show 0<=x.Den by omega);have q:=Int.mul_nonneg k1 (show 0<=a.Den by omega)
    grind
   have k5:0<=y.Num*(a.Den*x.Den):=by rw[e1];exact Int.mul_nonneg k2 Z
   exact Gg (Int.mul_pos pa px) k5
def ZK2{a b q:Zb}(ha:0<=a.Num)(hb:0<b.Num)(h:Wf a b=some q):0<=q.Num:=by
 obtain⟨va,vb⟩:=SN (.inr (.inr (.inr h)));have e:=Z9d h;have pa:=WW va;have pb:=WW vb;have pq:=WW (Jy h);refine Gg (Int.mul_pos pa hb) ?_;rw[e];exact Int.mul_nonneg (Int.mul_nonneg ha Z) Z
def ZK3{a b c y:Zb}(ha:0<=a.Num)(hb:0<=b.Num)(hc:0<=c.Num)(h:E7 a b c=some y):0<=y.Num:=by
 unfold E7 at h;split at h
 .cases h;exact ha
 .cases hx:We b c with
  |none=>rw[hx]at h;cases h
  |some x =>
   rw[hx]at h;have h:V0 a x=some y:=h;obtain⟨va,vx⟩:=SN (.inl h);obtain⟨vb,vc⟩:=SN (.inr (.inr (.inl hx)));have e1:=ZKz h;have e2:=Zz1 hx;have pa:=WW va;have px:=WW vx;have py:=WW (Z8W h);have pb:=WW vb;have pc:=WW vc;have k1:0<=x.Num:=Gg (Int.mul_pos pb pc) (by rw[e2];exact Int.mul_nonneg (Int.mul_nonneg hb hc) Z);have k5:0<=y.Num*(a.Den*x.Den):=by
    rw[e1];exact Int.mul_nonneg (by have p:=Int.mul_nonneg ha (show 0<=x.Den by omega);have q:=Int.mul_nonneg k1 (show 0<=a.Den by omega);omega) Z
   exact Gg (Int.mul_pos pa px) k5
def U2(x:Int):WL->WL
 |[]=>[x]
 |y::ys=>if y<x/\∀z∈ys,z<x then x::y::ys else y::U2 x ys
def Zp3(x:Int):∀l,(U2 x l).Perm (x::l)
 |[]=>.refl _
 |y::ys=>by
  unfold U2;split
  .exact .refl _
  .exact((Zp3 x ys).cons y).trans (.swap x y ys)
def ZK4{x z:Int}{l:WL}:z∈U2 x l↔z=x\/z∈l:=by
 rw[(Zp3 x l).mem_iff,Yz]
def Z9e{x:Int}:∀{l:WL},l.Pairwise (· >= ·)->(U2 x l).Pairwise (· >= ·)
 |[],_=>by simp[U2]
 |y::ys,h=>by
  rw[Y9]at h;unfold U2;split
  .rename_i c;rw[Y9,Y9];refine⟨λz hz=>?_,h⟩;rcases Yz.1 hz with rfl|hz
   .exact Int.le_of_lt c.1
   .exact Int.le_of_lt (c.2 z hz)
  .rename_i c;rw[Y9];refine⟨λz hz=>?_,Z9e h.2⟩;rcases ZK4.1 hz with rfl|hz
   .show z<=y;rcases Int.lt_or_le y z with h1|h1
    .exact absurd ⟨h1,λt ht=>Int.lt_of_le_of_lt (h.1 t ht) h1⟩ c
    .exact h1
   .exact h.1 z hz
def dwn(l:WL):WL:=l.foldl (λout x=>U2 x out) []
def Z9f:∀(l out:WL),out.Pairwise (· >= ·)->(l.foldl (λout x=>U2 x out) out).Pairwise (· >= ·)/\(l.foldl (λout x=>U2 x out) out).Perm (l++out)
 |[],out,h=>⟨h,.refl _⟩
 |x::l,out,h=>by
  obtain⟨h1,h2⟩:=Z9f l (U2 x out) (Z9e h);refine⟨h1,h2.trans ?_⟩;exact((Zp3 x out).append_left l).trans List.perm_middle
def Z9g:∀{a b:WL},a.Pairwise (· >= ·)->b.Pairwise (· >= ·)->a.Perm b->a=b
 |[],b,_,_,h=>h.symm.eq_nil.symm
 |x::a,[],_,_,h=>absurd h.eq_nil Om
 |x::a,y::b,ha,hb,h=>by
  have e:x=y:=by
   have h1:x∈y::b:=h.mem_iff.1 (.head _);have h2:y∈x::a:=h.mem_iff.2 (.head _);rw[Y9]at ha hb;have q1:x<=y:=by rcases Yz.1 h1 with h1|h1;exact Int.le_of_eq h1;exact hb.1 x h1
   have q2:y<=x:=by rcases Yz.1 h2 with h2|h2;exact Int.le_of_eq h2;exact ha.1 y h2
   omega
  subst e;rw[Z9g (Y9.1 ha).2 (Y9.1 hb).2 (h.cons_inv)]
def Nj(l:WL):dwn l=(SL l).reverse:=by
 obtain⟨h1,h2⟩:=Z9f l [] List.Pairwise.nil;refine Z9g h1 ?_ ?_
 .rw[List.pairwise_reverse];have:=List.pairwise_mergeSort (le:=λx y:Int=>decide (x<=y)) (by intro a b c;simp;omega) (by intro a b;simp;omega) l;exact this.imp λ{a b} h=>by simpa using h
 .rw[E3]at h2;exact h2.trans ((rI l _).symm.trans (List.reverse_perm _).symm)
def U3(row:List Zb)(j:Nat):List (Option Zb):=(List.range row.length).map λk=>if k=j then Wf ⟨1,1⟩ (row.getD j r0)else Wf (row.getD k r0) (row.getD j r0)
def Nk(l p:List Zb)(a:Zb)(j:Nat):List (Option Zb):=(List.range l.length).map λk=>Zzz k j (l.getD k r0) (l.getD j r0) a (p.getD k r0)
def X6(l p:List Zb)(j:Nat):List (Option Zb):=(List.range l.length).map λk=>KG k j (l.getD k r0) (l.getD j r0) (p.getD k r0)
theorem ZK5{row:List Zb}{j:Nat}(hj:j<row.length)(ha:vR (row.getD j r0)=true)(h0:(row.getD j r0).Num≠0):Wf ⟨1,1⟩ (row.getD j r0)=some ((vals (U3 row j)).getD j r0):=by
 obtain⟨i,hi,_⟩:=Z8Y ha h0;rw[hi];congr 1;unfold vals U3
 simp_all
def Nl{l row:List Zb}{j:Nat}(hj:j<row.length)(hc:vR (l.getD j r0)=true)(ha:vR (row.getD j r0)=true)(h0:(row.getD j r0).Num≠0) :
  Nk l (vals (U3 row j)) (row.getD j r0) j=X6 l (vals (U3 row j)) j:=by
 unfold Nk X6
 grind [List.map_congr_left,Ni,ZK5]
def Qp(l:List Zb):Prop:=∀r∈l,vR r=true
theorem SO{l:List Zb}(h:Qp l){k:Nat}(hk:k<l.length):vR (l.getD k r0)=true:=by
 rw[DZ,Yf hk];exact h _ (Ye hk)
theorem Z9h{a b c y:Zb}(ha:vR a=true)(h:Cc a b c=some y):vR y=true:=by
 unfold Cc at h;split at h
 .cases h;exact ha
 .cases hx:We b c with
  |none=>rw[hx]at h;cases h
  |some x=>rw[hx]at h;exact Zzy h
def Nm{a b c y:Zb}(ha:vR a=true)(h:E7 a b c=some y):vR y=true:=by
 unfold E7 at h;split at h
 .cases h;exact ha
 .cases hx:We b c with
  |none=>rw[hx]at h;cases h
  |some x=>rw[hx]at h;exact Z8W h
def Z9i{l p:List Zb}{j:Nat}(hl:Qp l)(h:Xf (X6 l p j)=true):Qp (vals (X6 l p j)):=by
 refine Zz0 h λo ho r e=>?_
 unfold X6 at ho;obtain⟨k,hk,rfl⟩:=Yp.1 ho;have hk:=CF.1 hk;unfold KG at e
 grind [Z9h,v0,SO]
def ZK6{row:List Zb}{j:Nat}(h:Xf (U3 row j)=true):Qp (vals (U3 row j)):=by
 refine Zz0 h λo ho r e=>?_
 unfold U3 at ho
 grind [Jy]
def lV(l p:List Zb)(j:Nat):(X6 l p j).length=l.length:=by simp[X6]
def Z9j(row:List Zb)(j:Nat):(U3 row j).length=row.length:=by simp[U3]
def QD(l:List (Option Zb)):(vals l).length=l.length:=by simp[vals]
def KH(d:Zv)(i j:Nat):List (List (Option Zb)):=(List.range d.Cells.length).map λr=>if r=i then U3 (d.Cells.getD i []) j else X6 (d.Cells.getD r []) (vals (U3 (d.Cells.getD i []) j)) j
def UW(d:Zv)(i j:Nat):Option Zb:=Wf (d.Limits.getD i r0) ((d.Cells.getD i []).getD j r0)
def VO(d:Zv)(i j:Nat):List (Option Zb):=(List.range d.Limits.length).map λr=>if r=i then UW d i j else Cc (d.Limits.getD r r0) ((d.Cells.getD r []).getD j r0) ((UW d i j).getD r0)
def UX(d:Zv)(i j:Nat):List (Option Zb):=X6 d.Costs (vals (U3 (d.Cells.getD i []) j)) j
def Kn(d:Zv)(i j:Nat):Option Zb:=E7 d.Value (d.Costs.getD j r0) ((UW d i j).getD r0)
def okO(d:Zv)(i j:Nat):Bool:=Xf (U3 (d.Cells.getD i []) j) && (UW d i j).isSome && (KH d i j).all Xf && Xf (VO d i j) && Xf (UX d i j) && (Kn d i j).isSome
def Wx(d:Zv)(i j:Nat):Zv :=
 ⟨d.Basic.set i (d.Free.getD j 0),d.Free.set j (d.Basic.getD i 0),(KH d i j).map vals,vals (VO d i j),vals (UX d i j),(Kn d i j).getD r0⟩
structure QE (d:Zv):Prop where
 m:d.Basic.length<=64
 n:1<=d.Free.length/\d.Free.length<=15
 lc:d.Cells.length=d.Basic.length
 ll:d.Limits.length=d.Basic.length
 lk:d.Costs.length=d.Free.length
 vs:∀v:Nat,v<d.Basic.length+d.Free.length->(v:Int)∈d.Basic++d.Free
 rw':∀r∈d.Cells,r.length=d.Free.length/\Qp r
 vl:Qp d.Limits
 vk:Qp d.Costs
 vv:vR d.Value=true
def ZK7{d:Zv}(h:QE d){i j:Nat}(hi:i<d.Basic.length)(hj:j<d.Free.length)(ok:okO d i j=true):QE (Wx d i j):=by
 unfold okO at ok;simp only[Yd]at ok;obtain⟨⟨⟨⟨⟨o1,o2⟩,o3⟩,o4⟩,o5⟩,o6⟩:=ok;have hci:i<d.Cells.length:=by rw[h.lc];exact hi
 have cell:∀r,r<d.Cells.length->(d.Cells.getD r []).length=d.Free.length/\Qp (d.Cells.getD r []):=by
  intro r hr;rw[DZ,Yf hr];exact h.rw' _ (Ye hr)
 refine⟨by simpa[Wx]using h.m,by simpa[Wx]using h.n,by simp[Wx,KH,h.lc],by simp[Wx,vals,VO,h.ll],by simp[Wx,vals,UX,X6,h.lk],?_,?_,?_,Z9i h.vk o5,?_⟩
 .intro v hv;have hv:v<d.Basic.length+d.Free.length:=by simpa[Wx]using hv
  have:=h.vs v hv;have e1:d.Free.getD j 0=d.Free[j]:=by rw[DZ,Yf hj];rfl
  have e2:d.Basic.getD i 0=d.Basic[i]:=by rw[DZ,Yf hi];rfl
  show(v:Int)∈d.Basic.set i (d.Free.getD j 0)++d.Free.set j (d.Basic.getD i 0)
  grind [ZKw]
 .intro r hr;obtain⟨l,hl,rfl⟩:=Yp.1 hr;have hok:=Yn.1 o3 l hl;unfold KH at hl;obtain⟨k,hk,rfl⟩:=Yp.1 hl;have hk:=CF.1 hk;split at hok
  .rename_i e;rw[Ya e];refine⟨?_,ZK6 o1⟩;rw[QD,Z9j];show _=(d.Free.set j _).length
   simp_all
  .rename_i e;rw[Yb e];refine⟨?_,Z9i (cell k hk).2 hok⟩;rw[QD,lV];show _=(d.Free.set j _).length
   simp_all
 .refine Zz0 o4 λo ho r e=>?_
  unfold VO at ho;obtain⟨k,hk,rfl⟩:=Yp.1 ho;have hk:=CF.1 hk;split at e
  .exact Jy e
  .exact Z9h (SO h.vl hk) e
 .show vR ((Kn d i j).getD r0)=true
  cases e:Kn d i j with
  |none=>rw[e]at o6;cases o6
  |some y=>exact Nm h.vv e
def ZK8{a b c:Zb}(ha:vR a=true)(hb:vR b=true)(hc:vR c=true)(h1:CU a b)(h2:CU b c):CU a c:=by
 unfold CU at *
 have pa:=WW ha;have pb:=WW hb;have pc:=WW hc;have k1:=Int.mul_le_mul_of_nonneg_right h1 (show 0<=c.Den by omega);have k2:=Int.mul_le_mul_of_nonneg_right h2 (show 0<=a.Den by omega);have k3:0<=(c.Num*a.Den-a.Num*c.Den)*b.Den:=by
  have:(c.Num*a.Den-a.Num*c.Den)*b.Den=c.Num*b.Den*a.Den-a.Num*b.Den*c.Den:=by grind
  have e:b.Num*a.Den*c.Den=b.Num*c.Den*a.Den:=by grind
  omega
 have:=Gg pb k3;omega
def ZK9(a:Zb):CU a a:=Int.le_refl _
def Jz(a b:Zb):Int:=if vR a && vR b then(if a.Num*b.Den<b.Num*a.Den then -1 else if b.Num*a.Den<a.Num*b.Den then 1 else 0)else 0
def ZKA{a b:Zb}(h:Jz a b<0):CU a b:=by
 unfold Jz at h;unfold CU;split at h
 .split at h
  .omega
  .split at h<;>omega
 .omega
def ZKB{a b:Zb}(ha:vR a=true)(hb:vR b=true)(h:Jz a b=0):CU a b:=by
 unfold Jz at h;unfold CU;rw[ha,hb]at h;split at h
 .split at h
  .omega
  .split at h<;>omega
 .rename_i hh;exact absurd rfl hh
def ZKC{a b:Zb}(ha:vR a=true)(hb:vR b=true)(h:¬Jz a b<0):CU b a:=by
 unfold Jz at h;unfold CU;rw[ha,hb]at h;split at h
 .split at h
  .omega
  .split at h<;>omega
 .rename_i hh;exact absurd rfl hh
def Zp4(l:List Zb):Prop:=∀r∈l,0<=r.Num
def Zz2{l:List Zb}(h:Zp4 l){k:Nat}(hk:k<l.length):0<=(l.getD k r0).Num:=by
 rw[DZ,Yf hk];exact h _ (Ye hk)
def ZKD{d:Zv}(h:QE d)(hl:Zp4 d.Limits)(hv:0<=d.Value.Num){i j:Nat}(hi:i<d.Basic.length)(hj:j<d.Free.length)
  (hc:0<(d.Costs.getD j r0).Num) (ha:0<((d.Cells.getD i []).getD j r0).Num)
  (c:∀k,k<d.Basic.length->0<((d.Cells.getD k []).getD j r0).Num->∃q,Wf (d.Limits.getD k r0) ((d.Cells.getD k []).getD j r0)=some q/\CU ((UW d i j).getD r0) q)
  (ok:okO d i j=true):Zp4 (Wx d i j).Limits/\0<=(Wx d i j).Value.Num:=by
 unfold okO at ok;simp only[Yd]at ok;obtain⟨⟨⟨⟨⟨o1,o2⟩,o3⟩,o4⟩,o5⟩,o6⟩:=ok;have hii:i<d.Limits.length:=by rw[h.ll];exact hi
 cases e:UW d i j with
 |none=>rw[e]at o2;cases o2
 |some lim =>
  have Abi:vR lim=true:=Jy e;have Nn:0<=lim.Num:=ZK2 (Zz2 hl hii) ha e;constructor
  .intro r hr;obtain⟨o,ho,rfl⟩:=Yp.1 hr;have hs:=Yn.1 o4 o ho;unfold VO at ho;obtain⟨k,hk,rfl⟩:=Yp.1 ho;have hk:=CF.1 hk;by_cases hki:k=i
   .rw[Ya hki,e];exact Nn
   .rw[Yb hki]at hs|-;rw[e]at hs|-
    cases hy:Cc (d.Limits.getD k r0) ((d.Cells.getD k []).getD j r0) ((some lim).getD r0)with
    |none=>rw[hy]at hs;cases hs
    |some y =>
     show 0<=y.Num;by_cases hp:0<((d.Cells.getD k []).getD j r0).Num
     .obtain⟨q,hq,hle⟩:=c k (by rw[<-h.ll];exact hk) hp;rw[e]at hle;exact ZK0 (Zz2 hl hk) hp hq Abi hle hy
     .exact ZK1 (Zz2 hl hk) Z Nn hy
  .show 0<=((Kn d i j).getD r0).Num
   cases hy:Kn d i j with
   |none=>rw[hy]at o6;cases o6
   |some y =>
    unfold Kn at hy;rw[e]at hy;exact ZK3 hv Z Nn hy
def Gh(F:WL):List Zb->Nat->Int->Int
 |[],_,best=>best
 |c::cs,k,best=>Gh F cs (k+1) (if 0<c.Num/\(best<0\/F.getD k 0<F.getD best.toNat 0)then(k:Int)else best)
def ent(d:Zv):Int:=Gh d.Free d.Costs 0 (-1)
def Z9k{F:WL}{C:List Zb}:∀(cs:List Zb) (k:Nat) (cc:Int),cs=C.drop k->(cc=-1\/(0<=cc/\cc<C.length/\0<(C.getD cc.toNat r0).Num))->
  Gh F cs k cc=-1\/(0<=Gh F cs k cc/\Gh F cs k cc<C.length/\0<(C.getD (Gh F cs k cc).toNat r0).Num)
 |[],_,_,_,h=>h
 |c::cs,k,cc,e,h=>by
  have hk:k<C.length:=by
   grind [Nat.lt_or_ge,List.drop_eq_nil_of_le]
  rw[Yh hk]at e;obtain⟨rfl,e2⟩:=List.cons.inj e;unfold Gh;refine Z9k cs (k+1) _ e2 ?_
  grind
theorem Zz3(d:Zv):ent d=-1\/(0<=ent d/\ent d<d.Costs.length/\0<(d.Costs.getD (ent d).toNat r0).Num):=Z9k d.Costs 0 (-1) rfl (.inl rfl)
def Ve(d:Zv)(i j:Nat):Zb:=(d.Cells.getD i []).getD j r0
def E8(d:Zv)(j:Nat):Nat->Nat->Int->Zb->Int
 |0,_,best,_=>best
 |n+1,i,best,least =>
  if(Ve d i j).Num<=0 then E8 d j n (i+1) best least
  else match Wf (d.Limits.getD i r0) (Ve d i j)with
   |none=>-1
   |some q=>if best<0\/Jz q least<0\/(Jz q least=0/\d.Basic.getD i 0<d.Basic.getD best.toNat 0)then E8 d j n (i+1) i q else E8 d j n (i+1) best least
def Cg(d:Zv)(j:Nat):Int:=E8 d j d.Basic.length 0 (-1) r0
def E9(d:Zv)(j k:Nat):Prop:=0<(Ve d k j).Num
def Z9l(d:Zv)(j i:Nat)(c:Int)(cc:Zb):Prop :=
 (c=-1/\∀k,k<i->¬E9 d j k)\/(0<=c/\c<i/\E9 d j c.toNat/\Wf (d.Limits.getD c.toNat r0) (Ve d c.toNat j)=some cc/\∀k,k<i->E9 d j k->∃q,Wf (d.Limits.getD k r0) (Ve d k j)=some q/\CU cc q)
def Zp5(d:Zv)(j:Nat):∀(n i:Nat) (cc:Int) (c:Zb),Z9l d j i cc c->E8 d j n i cc c=-1\/∃l,Z9l d j (i+n) (E8 d j n i cc c) l/\0<=E8 d j n i cc c
 |0,i,cc,c,h=>by
  rcases h with h|h
  .exact .inl h.1
  .exact .inr ⟨c,.inr h,h.1⟩
 |n+1,i,cc,c,h=>by
  unfold E8;split
  .rename_i h0;rw[show i+(n+1)=(i+1)+n by omega];refine Zp5 d j n (i+1) cc c ?_;have hno:¬E9 d j i:=by unfold E9;omega
   rcases h with h|⟨h1,h2,h3,h4,h5⟩
   .refine .inl ⟨h.1,λk hk=>?_⟩;rcases Dl k i with hl|hl
    .exact h.2 k hl
    .have:k=i:=by omega
     subst this;exact hno
   .refine .inr ⟨h1,Z,h3,h4,λk hk hon=>?_⟩;rcases Dl k i with hl|hl
    .exact h5 k hl hon
    .have:k=i:=by omega
     subst this;exact absurd hon hno
  .rename_i h0;have hon:E9 d j i:=by unfold E9;omega
   split
   .exact .inl rfl
   .rename_i q hq;have vq:=Jy hq;rw[show i+(n+1)=(i+1)+n by omega];split
    .rename_i hc;refine Zp5 d j n (i+1) i q (.inr ⟨Z,Z,by rw[Yj];exact hon,by rw[Yj];exact hq,λk hk hk2=>?_⟩);rcases Dl k i with hl|hl
     .rcases h with h|⟨h1,h2,h3,h4,h5⟩
      .exact absurd hk2 (h.2 k hl)
      .have vl:=Jy h4;have hle:CU q c:=by
        rcases hc with hc|hc|hc
        .omega
        .exact ZKA hc
        .exact ZKB vq vl hc.1
       obtain⟨q',hq',Abj⟩:=h5 k hl hk2;exact⟨q',hq',ZK8 vq vl (Jy hq') hle Abj⟩
     .have:k=i:=by omega
      subst this;exact⟨q,hq,ZK9 q⟩
    .rename_i hc;refine Zp5 d j n (i+1) cc c ?_;rcases h with h|⟨h1,h2,h3,h4,h5⟩
     .exact absurd (.inl Z) hc
     .have vl:=Jy h4;refine .inr ⟨h1,Z,h3,h4,λk hk hk2=>?_⟩;rcases Dl k i with hl|hl
      .exact h5 k hl hk2
      .have:k=i:=by omega
       subst this;exact⟨q,hq,ZKC vq vl λhx=>hc (.inr (.inl hx))⟩
def Z9m(d:Zv)(j:Nat):Cg d j=-1\/(0<=Cg d j/\Cg d j<d.Basic.length/\E9 d j (Cg d j).toNat/\∀k,k<d.Basic.length->E9 d j k->∃q,Wf (d.Limits.getD k r0) (Ve d k j)=some q/\CU ((UW d (Cg d j).toNat j).getD r0) q):=by
 rcases Zp5 d j d.Basic.length 0 (-1) r0 (.inl ⟨rfl,λk hk=>absurd hk (Nat.not_lt_zero k)⟩)with h|⟨l,h,h0⟩
 .exact .inl h
 .rw[Yv]at h;rcases h with h|⟨h1,h2,h3,h4,h5⟩
  .exact .inl h.1
  .refine .inr ⟨h1,h2,h3,λk hk hon=>?_⟩;have e:UW d (Cg d j).toNat j=some l:=h4
   simp_all
def HY:Nat->Zv->Option Zv
 |0,_=>none
 |f+1,d=>if ent d<0 then some d else if Cg d (ent d).toNat<0 then none else if okO d (Cg d (ent d).toNat).toNat (ent d).toNat then HY f (Wx d (Cg d (ent d).toNat).toNat (ent d).toNat)else none
structure HZ (d:Zv):Prop where
 v:QE d
 l:Zp4 d.Limits
 x:0<=d.Value.Num
def Z9n{d:Zv}(h:HZ d)(h1:¬ent d<0)(h2:¬Cg d (ent d).toNat<0)(ok:okO d (Cg d (ent d).toNat).toNat (ent d).toNat=true):HZ (Wx d (Cg d (ent d).toNat).toNat (ent d).toNat):=by
 have hk:=h.v.lk;rcases Zz3 d with e|⟨e1,e2,e3⟩
 .omega
 rcases Z9m d (ent d).toNat with l|⟨l1,l2,l3,l4⟩
 .omega
 have:=ZKD h.v h.l h.x (i:=(Cg d (ent d).toNat).toNat) (j:=(ent d).toNat) Z Z e3 l3 l4 ok;exact⟨ZK7 h.v Z Z ok,this.1,this.2⟩
theorem Z9o:∀(f:Nat) {d d':Zv},HZ d->HY f d=some d'->HZ d'
 |0,d,d',_,h=>by cases h
 |f+1,d,d',hd,h=>by
  unfold HY at h;split at h
  .cases h;exact hd
  rename_i h1;split at h
  .cases h
  rename_i h2;split at h
  .rename_i h3;exact Z9o f (Z9n hd h1 h2 h3) h
  .cases h
def Z9p:∀(k:WL) {l:WL},k.Nodup->(∀x∈k,x∈l)->l.length<=k.length->∀x∈l,x∈k
 |[],l,_,_,hl,x,hx=>by
  have:l=[]:=Tz.1 (by simpa using hl)
  subst this;cases hx
 |a::k,l,hn,hs,hl,x,hx=>by
  have hn':=Ir.1 hn;have ha:a∈l:=hs a Om;by_cases e:x=a
  .simp[e]
  .have hx':x∈l.erase a:=(List.mem_erase_of_ne e).2 hx
   have:=Z9p k hn'.2 (l:=l.erase a) (λy hy=>by
    have hya:y≠a:=λh=>hn'.1 (h▸hy)
    exact(List.mem_erase_of_ne hya).2 (hs y (by simp[hy]))) (by
    rw[List.length_erase_of_mem ha];simp only[Yy]at hl;omega) x hx'
   simp[this]
def Z9q{d:Zv}(h:QE d):∀x∈d.Basic++d.Free,0<=x/\x<d.Basic.length+d.Free.length:=by
 intro x hx
 have:=Z9p ((List.range (d.Basic.length+d.Free.length)).map λn:Nat=>(n:Int)) (l:=d.Basic++d.Free) (by
  refine List.pairwise_map.2 (List.nodup_range.imp ?_)
  intro a b hab h;exact hab Z) (by
  intro y hy;obtain⟨n,hn,rfl⟩:=Yp.1 hy
  exact h.vs n (CF.1 hn)) Om x hx
 obtain⟨n,hn,rfl⟩:=Yp.1 this;have:=CF.1 hn;omega
def lW(k B:Int):Nat->Int->Bool
 |0,_=>true
 |n+1,p=>if B<p*k then false else lW k B n (p*k)
def pfG(B:Int)(den:Nat):Nat->Int->Int
 |0,k=>k
 |f+1,k=>if lW (k+1) B den 1 then pfG B den f (k+1)else k
def SP(r:Zb):Int:=if r.Num.tdiv r.Den*r.Den<r.Num then r.Num.tdiv r.Den+1 else r.Num.tdiv r.Den
def Np(b:Int):Int:=if 12<=b then 4096 else 2 ^ b.toNat
def lX(r:Zb):Int:=if 40<r.Num then Np (SP r)else pfG (2 ^ r.Num.toNat) r.Den.toNat 4095 1
def KI(v:Int):WL->WL->WL
 |[],row=>row
 |s::ss,row=>KI v ss (if 0<s then row.set (s-1).toNat v else row)
def V9(full:Nat)(cc c:WL):WL:=KI (-1) c (KI 1 cc (List.replicate full 0))
def Zz4(v:Int):∀(ss row:WL),(KI v ss row).length=row.length
 |[],_=>rfl
 |s::ss,row=>by
  unfold KI;rw[Zz4 v ss];split<;>simp
def dis(ss:WL):Prop:=(ss.filter λs=>decide (0<s)).Nodup
def bst(c n:Int):Int:=if c<0\/n<c then n else c
def Z9r{M:Int}(hM:0<=M):∀(l:V2) (g:Nat->Int) (b:Int),(∀i∈l,0<=g i/\g i<=M)->b<=M->(l≠[]\/0<=b)->0<=l.foldl (λbest i=>bst best (g i)) b/\l.foldl (λbest i=>bst best (g i)) b<=M
 |[],_,b,_,hb,h=>by
  rcases h with h|h
  .exact absurd rfl h
  .exact⟨h,hb⟩
 |i::l,g,b,hg,hb,h=>by
  have h1:=hg i Om;refine Z9r hM l g (bst b (g i)) (λk hk=>hg k (by simp[hk])) ?_ ?_
  .unfold bst;split<;>omega
  .right;unfold bst;split<;>omega
