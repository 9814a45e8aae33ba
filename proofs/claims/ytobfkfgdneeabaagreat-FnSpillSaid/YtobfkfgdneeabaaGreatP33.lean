/-
  Parts of the proofs for this seat: ID IEd FC PA PB FP WA FL FM.
-/
import Derived.Test.YtobfkfgdneeabaaGreatP32
set_option linter.all false
set_option maxRecDepth 100000
set_option maxHeartbeats 4000000
namespace Go.Proofs.YtobfkfgdneeabaaGreat
open Go.AM
abbrev B4:=Bool×Bool×Bool×Bool
structure Ed where
 a:Bool
 b:Bool
 c:Bool
 d:Bool
 e:Bool
 f:Bool
def Z3l(g:Ed)(x:B4):B4:=match x with
 |(x0,x1,x2,x3)=>(!x0 && ((x1 && g.a) || (x2 && g.b) || (x3 && g.c)),!x1 && ((x0 && g.a) || (x2 && g.d) || (x3 && g.e)),!x2 && ((x0 && g.b) || (x1 && g.d) || (x3 && g.f)),!x3 && ((x0 && g.c) || (x1 && g.e) || (x2 && g.f)))
def bH(x y:B4):B4:=match x,y with
 |(x0,x1,x2,x3),(y0,y1,y2,y3)=>(x0 || y0,x1 || y1,x2 || y2,x3 || y3)
def Uc(x y:B4):B4:=match x,y with
 |(x0,x1,x2,x3),(y0,y1,y2,y3)=>(x0 && y0,x1 && y1,x2 && y2,x3 && y3)
def UP(x y:B4):B4:=match x,y with
 |(x0,x1,x2,x3),(y0,y1,y2,y3)=>(x0 && !y0,x1 && !y1,x2 && !y2,x3 && !y3)
def Z3m(g:Ed)(p x:B4):B4:=bH x (Uc (Z3l g x) p)
def Zrw(g:Ed)(p:B4):Nat->B4->B4
 |0,x=>x
 |n+1,x=>Zrw g p n (Z3m g p x)
def O0:B4->B4
 |(p0,p1,p2,p3)=>(p0,!p0 && p1,!p0 && !p1 && p2,!p0 && !p1 && !p2 && p3)
def Kx(g:Ed)(n:Nat)(p:B4):Bool:=Zrw g p n (O0 p) == p
def Zrx(g:Ed)(x y:B4):Bool:=match x,y with
 |(x0,x1,x2,x3),(y0,y1,y2,y3)=>(x0 && ((y1 && g.a) || (y2 && g.b) || (y3 && g.c))) || (x1 && ((y0 && g.a) || (y2 && g.d) || (y3 && g.e))) || (x2 && ((y0 && g.b) || (y1 && g.d) || (y3 && g.f))) || (x3 && ((y0 && g.c) || (y1 && g.e) || (y2 && g.f)))
def Bu(x:B4):Int:=match x with|(a,b,c,d)=>Xs a b c d
def FD(n:Nat)(p:B4):Bool:=match p with|(p0,p1,p2,p3)=>(decide (1<=n) || !p0) && (decide (2<=n) || !p1) && (decide (3<=n) || !p2) && (decide (4<=n) || !p3)
def O1(p:B4):Bool:=p == (true,false,false,false) || p == (false,true,false,false) || p == (false,false,true,false) || p == (false,false,false,true)
def Zry(g:Ed)(n:Nat)(p:B4):Bool:=!FD n p || !Kx g n p || O1 p || p == (false,false,false,false) ||
 (Uc p (true,false,false,false) != (false,false,false,false) && Kx g n (UP p (true,false,false,false))) || (Uc p (false,true,false,false) != (false,false,false,false) && Kx g n (UP p (false,true,false,false))) ||
 (Uc p (false,false,true,false) != (false,false,false,false) && Kx g n (UP p (false,false,true,false))) || (Uc p (false,false,false,true) != (false,false,false,false) && Kx g n (UP p (false,false,false,true)))
def bI(g:Ed)(n:Nat)(p x:B4):Bool:=Uc x p != x || x == (false,false,false,false) || x == p || Zrx g x (UP p x) || !FD n p || !Kx g n p
set_option maxRecDepth 100000 in
def f1:∀a b c d e f:Bool,∀p0 p1 p2 p3:Bool,Zry ⟨a,b,c,d,e,f⟩ 1 (p0,p1,p2,p3)=true/\Zry ⟨a,b,c,d,e,f⟩ 2 (p0,p1,p2,p3)=true/\Zry ⟨a,b,c,d,e,f⟩ 3 (p0,p1,p2,p3)=true/\Zry ⟨a,b,c,d,e,f⟩ 4 (p0,p1,p2,p3)=true:=by decide +kernel
set_option maxRecDepth 100000 in
def f2:∀a b c d e f:Bool,∀p0 p1 p2 p3 x0 x1 x2 x3:Bool,bI ⟨a,b,c,d,e,f⟩ 1 (p0,p1,p2,p3) (x0,x1,x2,x3)=true/\bI ⟨a,b,c,d,e,f⟩ 2 (p0,p1,p2,p3) (x0,x1,x2,x3)=true/\bI ⟨a,b,c,d,e,f⟩ 3 (p0,p1,p2,p3) (x0,x1,x2,x3)=true/\bI ⟨a,b,c,d,e,f⟩ 4 (p0,p1,p2,p3) (x0,x1,x2,x3)=true:=by decide +kernel
def Bt(m:Int):B4:=(Zw m 0,Zw m 1,Zw m 2,Zw m 3)
set_option maxRecDepth 100000 in
def sQ:∀a:Fin 16,Bu (Bt (a.1:Int))=(a.1:Int):=by decide
def O2{m:Int}(h:Bf m):Bu (Bt m)=m:=by obtain⟨a,rfl⟩:=m16 h;exact sQ a
def sR:∀a b c d:Bool,Bt (Xs a b c d)=(a,b,c,d)/\Bf (Xs a b c d):=by decide
def O3(x:B4):Bt (Bu x)=x:=(sR x.1 x.2.1 x.2.2.1 x.2.2.2).1
theorem Z3n{x y:B4}(h:Bu x=Bu y):x=y:=by rw[<-O3 x,h,O3]
set_option maxRecDepth 100000 in
def ZEP:∀a b c d e f g h:Bool,Az (Xs a b c d) (Xs e f g h)=Xs (a || e) (b || f) (c || g) (d || h)/\Ai (Xs a b c d) (Xs e f g h)=Xs (a && e) (b && f) (c && g) (d && h):=by decide
theorem Zrz(x y:B4):Az (Bu x) (Bu y)=Bu (bH x y):=(ZEP x.1 x.2.1 x.2.2.1 x.2.2.2 y.1 y.2.1 y.2.2.1 y.2.2.2).1
theorem Zr0(x y:B4):Ai (Bu x) (Bu y)=Bu (Uc x y):=(ZEP x.1 x.2.1 x.2.2.1 x.2.2.2 y.1 y.2.1 y.2.2.1 y.2.2.2).2
def ZRN:∀a b c d:Bool,Ai (Xs a b c d) (w (0-Xs a b c d))=Bu (O0 (a,b,c,d)):=by decide
def ZRO:∀a b c d e f g h:Bool,Uc (e,f,g,h) (a,b,c,d)=(e,f,g,h)->Xs a b c d-Xs e f g h=Bu (UP (a,b,c,d) (e,f,g,h)):=by decide
def ZRP{x y:B4}(h:Uc y x=y):Bu x-Bu y=Bu (UP x y):=ZRO x.1 x.2.1 x.2.2.1 x.2.2.2 y.1 y.2.1 y.2.2.1 y.2.2.2 h
def Z3o:∀i j:Fin 4,Zw (Ac 1 i.1) j.1=decide (i=j):=by decide
def O4(qa:List Zd)(h4:qa.length<=4)(m:Int)(u:Nat):pV m qa u=((Zw m 0 && pV (Ac 1 (0:Nat)) qa u) || (Zw m 1 && pV (Ac 1 (1:Nat)) qa u) || (Zw m 2 && pV (Ac 1 (2:Nat)) qa u) || (Zw m 3 && pV (Ac 1 (3:Nat)) qa u)):=by
 have s:∀i j:Nat,i<4->j<4->Zw (Ac 1 (i:Nat)) j=decide (i=j):=λi j hi hj=>by
  have:=Z3o ⟨i,hi⟩ ⟨j,hj⟩
  simp_all
 have sS:=s 0 0 E E;have s01:=s 0 1 E E;have s02:=s 0 2 E E;have s03:=s 0 3 E E;have s10:=s 1 0 E E;have s11:=s 1 1 E E;have s12:=s 1 2 E E;have s13:=s 1 3 E E;have s20:=s 2 0 E E;have s21:=s 2 1 E E;have s22:=s 2 2 E E;have s23:=s 2 3 E E;have sT:=s 3 0 E E;have s31:=s 3 1 E E;have s32:=s 3 2 E E;have s33:=s 3 3 E E;simp only[Nat.reduceEqDiff,decide_true,decide_false]at sS s01 s02 s03 s10 s11 s12 s13 s20 s21 s22 s23 sT s31 s32 s33
 match qa,h4 with
 |[],_=>simp[pV,Xu]
 |[a],_=>simp only[pV,Xu,sS,s10,s20,sT];cases Zw m 0<;>cases Zw m 1<;>cases Zw m 2<;>cases Zw m 3<;>simp
 |[a,b],_=>simp only[pV,Xu,sS,s10,s20,sT,s01,s11,s21,s31,Yt];cases Zw m 0<;>cases Zw m 1<;>cases Zw m 2<;>cases Zw m 3<;>simp
 |[a,b,c],_=>simp only[pV,Xu,sS,s10,s20,sT,s01,s11,s21,s31,s02,s12,s22,s32,Yt,Nat.reduceAdd];cases Zw m 0<;>cases Zw m 1<;>cases Zw m 2<;>cases Zw m 3<;>simp[Bool.or_assoc]
 |[a,b,c,d],_=>simp only[pV,Xu,sS,s10,s20,sT,s01,s11,s21,s31,s02,s12,s22,s32,s03,s13,s23,s33,Yt,Nat.reduceAdd];cases Zw m 0<;>cases Zw m 1<;>cases Zw m 2<;>cases Zw m 3<;>simp[Bool.or_assoc]
 |_::_::_::_::_::_,h=>simp at h
def adj(qa:List Zd)(i j:Nat):Bool:=shr qa (Ac 1 i) (Ac 1 j)
def Ky(qa:List Zd)(i j:Nat):adj qa i j=adj qa j i:=by
 unfold adj shr
 grind
def ats(m:Int)(f:Nat->Bool):Bool:=(Zw m 0 && f 0) || (Zw m 1 && f 1) || (Zw m 2 && f 2) || (Zw m 3 && f 3)
def Lk{m:Int}{f:Nat->Bool}:ats m f=true↔∃i,i<4/\Zw m i=true/\f i=true:=by
 unfold ats
 grind
def ZEQ(qa:List Zd)(h4:qa.length<=4)(x y:Int):shr qa x y=ats x λi=>ats y λj=>adj qa i j:=by
 have pv:∀m u,pV m qa u=ats m λi=>pV (Ac 1 (i:Nat)) qa u:=λm u=>O4 qa h4 m u
 rw[Ft,Lk];unfold shr;rw[List.any_eq_true];constructor
 .rintro⟨u,hu,h⟩;rw[Yf,pv x u,pv y u,Lk,Lk]at h;obtain⟨⟨i,i1,i2,i3⟩,⟨j,j1,j2,j3⟩⟩:=h;refine⟨i,i1,i2,Lk.2 ⟨j,j1,j2,?_⟩⟩;unfold adj shr
  grind
 .rintro⟨i,i1,i2,h⟩;obtain⟨j,j1,j2,h⟩:=Lk.1 h;unfold adj shr at h;rw[List.any_eq_true]at h;obtain⟨u,hu,h⟩:=h;rw[Yf]at h;refine⟨u,hu,?_⟩;rw[Yf,pv x u,pv y u,Lk,Lk]
  grind
def JF(qa:List Zd):Ed:=⟨adj qa 0 1,adj qa 0 2,adj qa 0 3,adj qa 1 2,adj qa 1 3,adj qa 2 3⟩
theorem O5{qa:List Zd}(h4:qa.length<=4){i:Nat}(hi:i<4)(hl:qa.length<=i)(j:Nat):adj qa i j=false:=by
 have:∀u,pV (Ac 1 (i:Nat)) qa u=false:=by
  intro u;unfold pV;have key:∀(as':List Zd) (k:Nat),k+as'.length<=i->Xu (Ac 1 (i:Nat)) as' k u=false:=by
   intro as'
   induction as' with
   |nil=>intro k _;rfl
   |cons a as' ih =>
    intro k hk;simp only[Ys]at hk;have:=Z3o ⟨i,hi⟩ ⟨k,E⟩;simp only[Fin.mk.injEq]at this;rw[Xu,ih (k+1) E,this,decide_eq_false E];rfl
  simp_all
 unfold adj shr
 simp_all
def O6(i:Nat)(hi:i<4)(f:Nat->Bool):ats (Ac 1 (i:Nat)) f=f i:=by
 have s:∀j:Nat,j<4->Zw (Ac 1 (i:Nat)) j=decide (i=j):=λj hj=>by
  have:=Z3o ⟨i,hi⟩ ⟨j,hj⟩
  simp_all
 rw[Ft,Lk]
 grind
def ZRQ{n:Int}{qa:List Zd}(hv:Zx n qa=true)(x:B4):aZ qa (Bu x)=Bu (Z3l (JF qa) x):=by
 have h4:=(XF hv).2;obtain⟨x0,x1,x2,x3⟩:=x;have hin:=O3 (x0,x1,x2,x3);simp only[Bt,Dj]at hin;obtain⟨i0,i1,i2,i3⟩:=hin;have key:∀i,i<4->UO qa (Bu (x0,x1,x2,x3)) i=(!Zw (Bu (x0,x1,x2,x3)) i && ((x0 && adj qa i 0) || (x1 && adj qa i 1) || (x2 && adj qa i 2) || (x3 && adj qa i 3))):=by
  intro i hi;unfold UO;rw[ZEQ qa h4,O6 i hi];unfold ats
  grind [O5]
 unfold aZ Xi;rw[key 0 E,key 1 E,key 2 E,key 3 E,i0,i1,i2,i3];unfold Z3l JF Bu;rw[Ky qa 1 0,Ky qa 2 0,Ky qa 3 0,Ky qa 2 1,Ky qa 3 1,Ky qa 3 2];cases x0<;>cases x1<;>cases x2<;>cases x3<;>simp
def ZRR{n:Int}{qa:List Zd}(hv:Zx n qa=true)(p x:B4):Lg qa (Bu p) (Bu x)=Bu (Z3m (JF qa) p x):=by
 unfold Lg Z3m;rw[ZRQ hv,Zr0,Zrz]
def ZER{n:Int}{qa:List Zd}(hv:Zx n qa=true)(p:B4):∀(k:Nat) (x:B4),bA qa (Bu p) k (Bu x)=Bu (Zrw (JF qa) p k x)
 |0,x=>rfl
 |k+1,x=>by rw[bA,Zrw,ZRR hv,ZER hv p k]
def Zr1{n:Int}{qa:List Zd}(hv:Zx n qa=true)(p:B4):WV qa (Bu p)=Kx (JF qa) qa.length p:=by
 unfold WV Kx;rw[show Ai (Bu p) (w (0-Bu p))=Bu (O0 p)from ZRN p.1 p.2.1 p.2.2.1 p.2.2.2,ZER hv,Ft,decide_eq_true_eq,beq_iff_eq]
 grind [Z3n]
def ZES{qa:List Zd}(h4:qa.length<=4)(x y:B4)(hd:Uc x y=(false,false,false,false)):shr qa (Bu x) (Bu y)=Zrx (JF qa) x y:=by
 obtain⟨x0,x1,x2,x3⟩:=x;obtain⟨y0,y1,y2,y3⟩:=y;have hx:=O3 (x0,x1,x2,x3);have hy:=O3 (y0,y1,y2,y3);simp only[Bt,Prod.mk.injEq]at hx hy;obtain⟨i0,i1,i2,i3⟩:=hx;obtain⟨j0,j1,j2,j3⟩:=hy;simp only[Uc,Prod.mk.injEq]at hd;rw[ZEQ qa h4];unfold ats;rw[i0,i1,i2,i3,j0,j1,j2,j3];unfold Zrx JF;dsimp only;rw[Ky qa 1 0,Ky qa 2 0,Ky qa 3 0,Ky qa 2 1,Ky qa 3 1,Ky qa 3 2];obtain⟨h0,h1,h2,h3⟩:=hd;cases x0<;>cases y0<;>simp at h0<;>cases x1<;>cases y1<;>simp at h1<;>cases x2<;>cases y2<;>simp at h2<;>cases x3<;>cases y3<;>simp at h3<;>simp
def ZET{qa:List Zd}{M A:Int}(h:A∈KZ qa M):1<=A/\A<M/\Ai A M=A/\WV qa A=true/\WV qa (M-A)=true:=by
 unfold KZ Hi at h;rw[Yn]at h;obtain⟨k,hk,rfl⟩:=h;rw[Ep,List.mem_range'_1]at hk;obtain⟨⟨h1,h2⟩,h3⟩:=hk;simp only[JB,Yf,decide_eq_true_eq]at h3
 grind
def ZRS{qa:List Zd}{M:Int}(h:Bf M):(KZ qa M).length<=16:=by
 unfold KZ Hi
 grind
set_option maxRecDepth 100000 in
def ZRT:∀a b c d e f g h:Bool,Uc (e,f,g,h) (a,b,c,d)=(e,f,g,h)->X0 (Bu (e,f,g,h))+X0 (Bu (UP (a,b,c,d) (e,f,g,h)))=X0 (Bu (a,b,c,d))/\bH (e,f,g,h) (UP (a,b,c,d) (e,f,g,h))=(a,b,c,d)/\Uc (e,f,g,h) (UP (a,b,c,d) (e,f,g,h))=(false,false,false,false):=by decide
def Zr2{n:Int}{qa:List Zd}(hv:Zx n qa=true){M:Int}(h:MQ qa M):FD qa.length (Bt M)=true:=by
 have h4:=XF hv;have h16:=(h.m16 hv).1;obtain⟨a,rfl⟩:=m16 h16;have key:∀a:Fin 16,(a.1<2->FD 1 (Bt (a.1:Int))=true)/\(a.1<4->FD 2 (Bt (a.1:Int))=true)/\(a.1<8->FD 3 (Bt (a.1:Int))=true)/\FD 4 (Bt (a.1:Int))=true:=by decide
 grind
def Abj(g:Ed){n:Nat}(hn:1<=n/\n<=4)(p x:B4):bI g n p x=true:=by
 have:=f2 g.a g.b g.c g.d g.e g.f p.1 p.2.1 p.2.2.1 p.2.2.2 x.1 x.2.1 x.2.2.1 x.2.2.2;have hl:n=1\/n=2\/n=3\/n=4:=by omega
 rcases hl with rfl|rfl|rfl|rfl
 .exact this.1
 .exact this.2.1
 .exact this.2.2.1
 .exact this.2.2.2
structure Pair (qa:List Zd) (A B M:Int):Prop where
 a16:Bf A
 b16:Bf B
 or:Az A B=M
 O7:Ai A B=0
 shr:shr qa A B=true
 pop:X0 A+X0 B=X0 M
def ZRU{n:Int}{qa:List Zd}(hv:Zx n qa=true){M A:Int}(hM:MQ qa M)(hc:WV qa M=true)(h:A∈KZ qa M):Pair qa A (M-A) M:=by
 obtain⟨h1,h2,h3,_,_⟩:=ZET h;have h16:=(hM.m16 hv).1;have a16:Bf A:=by omega
 have b16:Bf (M-A):=by omega
 have eM:=O2 h16;have eA:=O2 a16;have hsub:Uc (Bt A) (Bt M)=Bt A:=by
  grind [Z3n,Zr0]
 have eB:=ZRP hsub;rw[eM,eA]at eB;have hp:=ZRT (Bt M).1 (Bt M).2.1 (Bt M).2.2.1 (Bt M).2.2.2 (Bt A).1 (Bt A).2.1 (Bt A).2.2.1 (Bt A).2.2.2 hsub;have hp1:X0 (Bu (Bt A))+X0 (Bu (UP (Bt M) (Bt A)))=X0 (Bu (Bt M)):=hp.1;have hp2:bH (Bt A) (UP (Bt M) (Bt A))=Bt M:=hp.2.1;have hp3:Uc (Bt A) (UP (Bt M) (Bt A))=(false,false,false,false):=hp.2.2;refine⟨a16,b16,?_,?_,?_,?_⟩
 .grind [Zrz]
 .rw[eB];have:=Zr0 (Bt A) (UP (Bt M) (Bt A));rw[hp3,eA]at this;exact this
 .rw[eB];have:=ZES (XF hv).2 (Bt A) (UP (Bt M) (Bt A)) hp3;rw[eA]at this;rw[this];have h5:=Abj (JF qa) (XF hv) (Bt M) (Bt A);have hcb:=Zr1 hv (Bt M);rw[eM,hc]at hcb;have hin:=Zr2 hv hM;have n0:Bt A≠(false,false,false,false):=λhe=>by
   rw[he]at eA
   have:Bu (false,false,false,false)=0:=rfl
   omega
  have nM:Bt A≠Bt M:=λhe=>by rw[he,eM]at eA;omega
  unfold bI at h5
  simp_all
 .simp_all
def bJ(g:Ed)(n:Nat)(p x:B4):Bool:=Uc p x != (false,false,false,false) || !Zrx g p x || !FD n p || !FD n x || !Kx g n p || !Kx g n x || Kx g n (bH p x)
def bK(g:Ed)(n:Nat)(p:B4):Bool:=!FD n p || !O1 p || Kx g n p
set_option maxRecDepth 100000 in
def f3:∀a b c d e f:Bool,∀p0 p1 p2 p3 x0 x1 x2 x3:Bool,bJ ⟨a,b,c,d,e,f⟩ 1 (p0,p1,p2,p3) (x0,x1,x2,x3)=true/\bJ ⟨a,b,c,d,e,f⟩ 2 (p0,p1,p2,p3) (x0,x1,x2,x3)=true/\bJ ⟨a,b,c,d,e,f⟩ 3 (p0,p1,p2,p3) (x0,x1,x2,x3)=true/\bJ ⟨a,b,c,d,e,f⟩ 4 (p0,p1,p2,p3) (x0,x1,x2,x3)=true:=by decide +kernel
set_option maxRecDepth 100000 in
def f4:∀a b c d e f:Bool,∀p0 p1 p2 p3:Bool,bK ⟨a,b,c,d,e,f⟩ 1 (p0,p1,p2,p3)=true/\bK ⟨a,b,c,d,e,f⟩ 2 (p0,p1,p2,p3)=true/\bK ⟨a,b,c,d,e,f⟩ 3 (p0,p1,p2,p3)=true/\bK ⟨a,b,c,d,e,f⟩ 4 (p0,p1,p2,p3)=true:=by decide +kernel
def Abk(g:Ed){n:Nat}(hn:1<=n/\n<=4)(p x:B4):bJ g n p x=true:=by
 have:=f3 g.a g.b g.c g.d g.e g.f p.1 p.2.1 p.2.2.1 p.2.2.2 x.1 x.2.1 x.2.2.1 x.2.2.2;have hl:n=1\/n=2\/n=3\/n=4:=by omega
 rcases hl with rfl|rfl|rfl|rfl
 .exact this.1
 .exact this.2.1
 .exact this.2.2.1
 .exact this.2.2.2
def Abl(g:Ed){n:Nat}(hn:1<=n/\n<=4)(p:B4):bK g n p=true:=by
 have:=f4 g.a g.b g.c g.d g.e g.f p.1 p.2.1 p.2.2.1 p.2.2.2;have hl:n=1\/n=2\/n=3\/n=4:=by omega
 rcases hl with rfl|rfl|rfl|rfl
 .exact this.1
 .exact this.2.1
 .exact this.2.2.1
 .exact this.2.2.2
def ZRV{n:Int}{qa:List Zd}(hv:Zx n qa=true){a b:Int}(ha:MQ qa a)(hb:MQ qa b)(h1:WV qa a=true)(h2:WV qa b=true)(hd:Ai a b=0)(hs:shr qa a b=true):WV qa (Az a b)=true:=by
 have h4:=XF hv;have na:=Zr2 hv ha;have nb:=Zr2 hv hb;obtain⟨p,rfl⟩:∃p,a=Bu p:=⟨Bt a,(O2 (ha.m16 hv).1).symm⟩;obtain⟨x,rfl⟩:∃p,b=Bu p:=⟨Bt b,(O2 (hb.m16 hv).1).symm⟩;rw[O3]at na nb;rw[Zr1 hv]at h1 h2;rw[Zrz,Zr1 hv];rw[Zr0]at hd;have hd':Uc p x=(false,false,false,false):=Z3n (hd.trans (Om:(0:Int)=Bu (false,false,false,false)));rw[ZES h4.2 p x hd']at hs;have:=Abk (JF qa) h4 p x;simpa[bJ,hd',hs,na,nb,h1,h2]using this
def ZRW{n:Int}{qa:List Zd}(hv:Zx n qa=true){i:Nat}(hi:i<qa.length)(hm:MQ qa (Ac 1 (i:Int))):WV qa (Ac 1 (i:Int))=true:=by
 have h4:=XF hv;have na:=Zr2 hv hm;have hp:∃p,Ac 1 (i:Int)=Bu p/\O1 p=true:=by
  have:i=0\/i=1\/i=2\/i=3:=by omega
  rcases this with rfl|rfl|rfl|rfl
  .exact⟨(true,false,false,false),Om,Om⟩
  .exact⟨(false,true,false,false),Om,Om⟩
  .exact⟨(false,false,true,false),Om,Om⟩
  .exact⟨(false,false,false,true),Om,Om⟩
 obtain⟨p,e,h1⟩:=hp;rw[e]at na|-;rw[O3]at na;rw[Zr1 hv];have:=Abl (JF qa) h4 p;simpa[bK,na,h1]using this
def sU:∀a b c d e f g h:Bool,Bu (bH (a,b,c,d) (e,f,g,h))=0->Bu (a,b,c,d)=0:=by decide
def O8{a b:Int}(ha:Bf a)(hb:Bf b)(h:a≠0):Az a b≠0:=λe=>h (by
 rw[<-O2 ha,<-O2 hb,Zrz]at e;rw[<-O2 ha]
 exact sU _ _ _ _ _ _ _ _ e)
def O9:∀a:Fin 4,Ac 1 (a.1:Int)≠0:=by decide
def MC(qa:List Zd)(y:Zf):Prop:=Gr qa.length y/\WV qa y.Mask=true/\y.Mask≠0
theorem ZRX{n:Int}{qa:List Zd}(hv:Zx n qa=true){x:Zn}{info:List Zf}{st:V2}{y:Zf}(hs:Vc info st)(hm:∀y∈info,MC qa y)(h:Wm qa x info st=some y):MC qa y:=by
 have h0:=Z6c (XF hv).2 hs (λy hy=>(hm y hy).1) h;refine⟨h0,?_⟩;unfold Wm at h;split at h
 .split at h
  .rename_i c;cases h;have hi:0<=x.Zd/\x.Zd<=(qa.length:Int)-1:=by simpa[Am]using c.1
   obtain⟨a,ha⟩:∃a:Nat,x.Zd=a:=⟨x.Zd.toNat,E⟩;unfold Gr at h0;simp only[ha]at h0|-;exact⟨ZRW hv E ⟨h0.1,h0.2⟩,O9 ⟨a,by have:=(XF hv).2;omega⟩⟩
  .cases h
 .split at h
  .cases h
  .split at h
   .split at h
    .rename_i s u ht;split at h
     .cases h;obtain⟨_,_,_,t4⟩:=VV hs (Yi 1) ht;exact(hm u (Yu t4)).2
     .cases h
    .cases h
   .split at h
    .rename_i s u t z ht hu;split at h
     .rename_i c;obtain⟨_,_,_,t4⟩:=VV hs (E:1<=2) ht;obtain⟨_,_,_,u4⟩:=VV hs (E:1<=1) hu;obtain⟨o,ho,rfl⟩:=Yr.1 h;obtain⟨a1,a2,a3⟩:=hm u (Yu t4);obtain⟨b1,b2,_⟩:=hm z (Yu u4);have hA:MQ qa u.Mask:=⟨a1.1,a1.2⟩;have hB:MQ qa z.Mask:=⟨b1.1,b1.2⟩;exact⟨ZRV hv hA hB a2 b2 c.1 c.2,O8 (hA.m16 hv).1 (hB.m16 hv).1 a3⟩
     .cases h
    .cases h
def ZEU{n:Int}{qa:List Zd}(hv:Zx n qa=true):∀{xs:List Zn} {i:Nat} {info:List Zf} {st:V2} {c:List Zf} {cc:V2},Xv qa xs i info st=some (c,cc)->Vc info st->info.length=i->(∀y∈info,MC qa y)->∀y∈c,MC qa y
 |[],i,info,st,c,cc,h,hs,hi,hm=>by
  simp only[Xv,C0,Dj]at h
  rw[<-h.1];exact hm
 |x::xs,i,info,st,c,cc,h,hs,hi,hm=>by
  rw[Xv]at h
  cases hy:Wm qa x info st with
  |none=>rw[hy]at h;cases h
  |some y =>
   rw[hy]at h;have hn:=H3 hs y (st.length-Xk y);rw[hi]at hn;refine ZEU hv h hn (by simp[hi]) (λz hz=>?_)
   grind [ZRX]
def ZEV{q:Zc}{p:Zr}{info:List Zf}(h:ZG q.Zi q.Atoms p.Steps=some info):∀y∈info,MC q.Atoms y:=by
 have hv:=(Um h).1;unfold ZG at h;split at h
 .split at h
  .rename_i AE st hg;split at h
   .cases h;exact ZEU hv hg (λs hs=>by cases hs) rfl (λy hy=>by cases hy)
   .cases h
  .cases h
 .cases h
abbrev MO:=Int×Int
def sV(qa:List Zd)(x:Zn)(y z:MO):Option Int:=Vw qa x ⟨y.1,y.2,0,0⟩ ⟨z.1,z.2,0,0⟩
def ZEW(qa:List Zd)(x:Zn)(y z:Zf):sV qa x (y.Mask,y.Order) (z.Mask,z.Order)=Vw qa x y z:=by
 unfold sV Vw;rfl
def Ud(m:Zt)(sizes:V2)(qa:List Zd)(x:Zn)(S:List MO):Option (List MO×Int) :=
 if x.Kind=1 then(if Am x.Zd 0 (qa.length-1)=true/\x.Order=0 then some ((Ac 1 x.Zd,(match qa[x.Zd.toNat]? with|some a=>a.Vars.headD 0|none=>0))::S,WB (BC m 1) (Wq sizes (Ac 1 x.Zd)) 0 (Wq sizes (Ac 1 x.Zd)))else none)
 else if x.Zd≠0 then none
 else if x.Kind=2 then(match S with
  |y::S=>if Bz qa y.1 x.Order=true/\y.2≠x.Order then some ((y.1,x.Order)::S,WB (BC m 2) (Wq sizes y.1) 0 (Wq sizes y.1))else none
  |[]=>none)
 else match S with
  |z::y::S=>if Ai y.1 z.1=0/\shr qa y.1 z.1=true then(sV qa x y z).map (λo=>((Az y.1 z.1,o)::S,WB (BC m x.Kind) (Wq sizes y.1) (Wq sizes z.1) (Wq sizes (Az y.1 z.1))))else none
  |_=>none
def Wa(m:Zt)(sizes:V2)(qa:List Zd):List Zn->List MO->Int->Option (List MO×Int)
 |[],S,c=>some (S,c)
 |x::xs,S,c=>match Ud m sizes qa x S with
  |none=>none
  |some (S',k)=>Wa m sizes qa xs S' (w (c+k))
def Jc(info:List Zf)(i:Int):Int:=match info[i.toNat]? with|some y=>y.Order|none=>0
def vw(info:List Zf)(rs:V2):List MO:=rs.map λs=>(XN info s,Jc info s)
def Zr3{info:List Zf}{s:Int}{rs:V2}:XY (s::rs).reverse info 1=(info[s.toNat]?).map (s,·):=by
 simp[XY]
def sW{info:List Zf}{t s:Int}{rs:V2}:XY (t::s::rs).reverse info 2=(info[s.toNat]?).map (s,·):=by
 simp[XY]
def Abm{info:List Zf}:XY [] info 1=none:=by simp[XY]
def sX{info:List Zf}:XY [] info 2=none:=by simp[XY]
def sY{info:List Zf}{s:Int}:XY [s] info 2=none:=by simp[XY]
def ZRY(m:Zt)(sizes:V2)(qa:List Zd)(x:Zn)(info:List Zf)(rs:V2)(hs:Vc info rs.reverse):match Wm qa x info rs.reverse with
  |none=>Ud m sizes qa x (vw info rs)=none
  |some y=>Ud m sizes qa x (vw info rs)=some ((y.Mask,y.Order)::(vw info rs).drop (Xk y),Ja m info sizes x y):=by
 unfold Wm Ud;by_cases k1:x.Kind=1
 .simp only[Ya k1];by_cases c:Am x.Zd 0 (qa.length-1)=true/\x.Order=0
  .simp[Ya c,Xk,Ja,k1];rfl
  .simp[Yb c]
 .simp only[Yb k1];by_cases ka:x.Zd≠0
  .simp[Ya ka]
  .simp only[Yb ka];by_cases k2:x.Kind=2
   .simp only[Ya k2]
    cases rs with
    |nil=>simp[vw,Abm]
    |cons s rs =>
     obtain⟨h0,h1⟩:=hs s Z;have e:info[s.toNat]?=some info[s.toNat]:=Yh h1;rw[Zr3,e];simp only[Option.map_some,vw,Yv,XN,Jc,e];by_cases c:Bz qa info[s.toNat].Mask x.Order=true/\info[s.toNat].Order≠x.Order
     .have hn:¬s<0:=by omega
      simp[Ya c,Xk,Ja,k2,XN,e,h0,hn]
     .simp[Yb c]
   .simp only[Yb k2]
    match rs,hs with
    |[],_=>simp[vw,sX]
    |[s],_=>simp[vw,sY]
    |t::s::rs,hs =>
     obtain⟨h0,h1⟩:=hs s Z;obtain⟨t0,t1⟩:=hs t Z;have e:info[s.toNat]?=some info[s.toNat]:=Yh h1;have et:info[t.toNat]?=some info[t.toNat]:=Yh t1;rw[Zr3,sW,e,et];simp only[Option.map_some,vw,Yv,XN,Jc,e,et];by_cases c:Ai info[s.toNat].Mask info[t.toNat].Mask=0/\shr qa info[s.toNat].Mask info[t.toNat].Mask=true
     .simp only[Ya c,ZEW]
      cases ho:Vw qa x info[s.toNat] info[t.toNat]with
      |none=>simp
      |some o =>
       have hn:¬s<0:=by omega
       have tn:¬t<0:=by omega
       simp[Xk,Ja,XN,e,et,h0,t0,hn,tn]
     .simp[Yb c]
def Pa{info tail:List Zf}{rs:V2}(hs:∀s∈rs,0<=s/\s.toNat<info.length):vw (info++tail) rs=vw info rs:=by
 unfold vw;refine CZ λs h=>?_
 have:=(hs s h).2;simp[XN,Jc,cQ this]
def ZRZ{m:Zt}{sizes:V2}{info tail:List Zf}{x:Zn}{y:Zf}(h:sD info.length x y):Ja m (info++tail) sizes x y=Ja m info sizes x y:=by
 unfold Ja;rcases h.refs with⟨a,b⟩|⟨⟨a,a'⟩,b⟩
 .simp[a,b]
 .have e1:XN (info++tail) y.Left=XN info y.Left:=by simp[XN,cQ a']
  rcases b with b|⟨b,b'⟩
  .simp[b,e1]
  .have e2:XN (info++tail) y.Right=XN info y.Right:=by simp[XN,cQ b']
   simp[e1,e2]
def Z3p(m:Zt)(sizes:V2)(qa:List Zd):∀(xs:List Zn) (info:List Zf) (rs:V2) (c:Int),Vc info rs.reverse->
  match Xv qa xs info.length info rs.reverse with
  |none=>Wa m sizes qa xs (vw info rs) c=none
  |some (AE,st')=>∃tail,AE=info++tail/\tail.length=xs.length/\Wa m sizes qa xs (vw info rs) c=some (vw AE st'.reverse,Zrn (sF m AE sizes xs tail) c)
 |[],info,rs,c,hs=>by
  simp only[Xv,Wa]
  exact⟨[],Z,rfl,by simp[sF,Zrn]⟩
 |x::xs,info,rs,c,hs=>by
  have hv:=ZRY m sizes qa x info rs hs;rw[Xv,Wa]
  cases hy:Wm qa x info rs.reverse with
  |none=>rw[hy]at hv;simp only at hv;rw[hv]
  |some y =>
   rw[hy]at hv;simp only at hv;rw[hv];simp only;have ho:=ZQY hs hy;have hn:=H3 hs y (rs.reverse.length-Xk y);have er:rs.reverse.take (rs.reverse.length-Xk y)++[(info.length:Int)]=((info.length:Int)::rs.drop (Xk y)).reverse:=by
    rw[List.reverse_cons,List.reverse_drop,List.length_reverse]
   rw[er]at hn|-;have ih:=Z3p m sizes qa xs (info++[y]) ((info.length:Int)::rs.drop (Xk y)) (w (c+Ja m info sizes x y)) hn;have ev:vw (info++[y]) ((info.length:Int)::rs.drop (Xk y))=(y.Mask,y.Order)::(vw info rs).drop (Xk y):=by
    have:=Pa (info:=info) (tail:=[y]) (rs:=rs.drop (Xk y)) (λs h=>hs s (by simp;exact RB h));rw[show vw (info++[y]) ((info.length:Int)::rs.drop (Xk y))=(XN (info++[y]) info.length,Jc (info++[y]) info.length)::vw (info++[y]) (rs.drop (Xk y))from rfl,this];simp[XN,Jc,vw,List.map_drop]
   rw[ev]at ih;rw[show(info++[y]).length=info.length+1 by simp]at ih;split at ih
   .exact ih
   .rename_i AE st' hg;obtain⟨tail,a,b,d⟩:=ih;refine⟨y::tail,by simp[a],by simp[b],?_⟩;rw[d];have e2:Ja m AE sizes x y=Ja m info sizes x y:=by rw[a,D6];exact ZRZ ho
    simp[sF,Zrn,e2]
def ZSa{m:Zt}{n:Int}{qa:List Zd}{sizes:V2}{steps:List Zn}{y:MO}{c:Int}(hv:Zx n qa=true)(hl:1<=steps.length/\steps.length<=14)(hs:Zrm n qa sizes=true)(h:Wa m sizes qa steps [] 0=some ([y],c)):Z2S m n qa steps sizes=c:=by
 have g:=Z3p m sizes qa steps [] [] 0 (λs h=>by simp at h);simp only[DJ,List.reverse_nil]at g;have hr:Am (steps.length:Int) 1 14=true:=by simp[Am];omega
 cases hg:Xv qa steps 0 [] []with
 |none=>rw[hg]at g;simp only[vw,De]at g;rw[g]at h;cases h
 |some p =>
  obtain⟨AE,st'⟩:=p;rw[hg]at g;obtain⟨tail,a,b,d⟩:=g;simp only[vw,De]at d;rw[d]at h;simp only[Er]at a;subst a
  cases h':st'.reverse with
  |nil=>rw[h']at h;simp at h
  |cons s rs =>
   rw[h']at h;simp only[Yv,C0,Dj,Yc9,List.map_eq_nil_iff]at h;have hlen:st'.length=1:=by rw[<-List.length_reverse,h',h.1.2];rfl
   have hi:ZG n qa steps=some AE:=by simp[ZG,hv,hr,hg,hlen]
   simp[Z2S,ZEo,ZEn,hi,hs,h.2]
theorem Pb(x:Int):w x=(x+9223372036854775808) % 18446744073709551616-9223372036854775808:=by
 simp only[w,IntKind.wrap,IntKind.signed,IntKind.bits,Yk]
 grind
def w_w(x:Int):w (w x)=w x:=by rw[Pb,Pb];omega
def Zr4(m:Zt)(sizes:V2)(qa:List Zd):∀(xs ys:List Zn) (S:List MO) (c:Int),Wa m sizes qa (xs++ys) S c=match Wa m sizes qa xs S c with
  |none=>none
  |some (S',c')=>Wa m sizes qa ys S' c'
 |[],ys,S,c=>by simp[Wa]
 |x::xs,ys,S,c=>by
  rw[Ydd,Wa,Wa]
  cases Ud m sizes qa x S with
  |none=>rfl
  |some p=>simp only;exact Zr4 m sizes qa xs ys p.1 _
def ZSb{m:Zt}{sizes:V2}{qa:List Zd}{x:Zn}{S S' B:List MO}{c:Int}(h:Ud m sizes qa x S=some (S',c)):Ud m sizes qa x (S++B)=some (S'++B,c):=by
 unfold Ud at h|-;by_cases k1:x.Kind=1
 .grind
 .simp only[Yb k1]at h|-;by_cases ka:x.Zd≠0
  .simp[Ya ka]at h
  .simp only[Yb ka]at h|-;by_cases k2:x.Kind=2
   .grind
   .simp only[Yb k2]at h|-
    match S,h with
    |[],h=>cases h
    |[y],h=>cases h
    |z::y::S,h =>
     simp only[Ydd]at h|-;split at h
     .rename_i hc;rw[Ya hc]
      cases ho:sV qa x y z with
      |none=>rw[ho]at h;cases h
      |some o=>rw[ho]at h;cases h;rfl
     .cases h
def ZEX{m:Zt}{sizes:V2}{qa:List Zd}{B:List MO}:∀{xs:List Zn} {S S':List MO} {c c':Int},Wa m sizes qa xs S c=some (S',c')->Wa m sizes qa xs (S++B) c=some (S'++B,c')
 |[],S,S',c,c',h=>by simp[Wa]at h|-;simp[h]
 |x::xs,S,S',c,c',h=>by
  rw[Wa]at h|-
  cases hs:Ud m sizes qa x S with
  |none=>rw[hs]at h;cases h
  |some p=>rw[hs]at h;rw[ZSb hs];exact ZEX h
def ZEY{m:Zt}{sizes:V2}{qa:List Zd}:∀{xs:List Zn} {S S':List MO} {a k:Int},Wa m sizes qa xs S a=some (S',k)->∀c,w c=c->Wa m sizes qa xs S c=some (S',w (c+(k-a)))
 |[],S,S',a,k,h,c,hc=>by
  simp[Wa]at h|-
  simp_all
 |x::xs,S,S',a,k,h,c,hc=>by
  rw[Wa]at h|-
  cases hs:Ud m sizes qa x S with
  |none=>rw[hs]at h;cases h
  |some p =>
   obtain⟨S1,e⟩:=p;rw[hs]at h;simp only at h|-;rw[ZEY h (w (c+e)) (w_w _)]
   grind [Pb]
def ZEZ{m:Zt}{sizes:V2}{qa:List Zd}:∀{xs:List Zn} {S S':List MO} {a k:Int},Wa m sizes qa xs S a=some (S',k)->w a=a->w k=k
 |[],S,S',a,k,h,ha=>by simp[Wa]at h;rw[<-h.2];exact ha
 |x::xs,S,S',a,k,h,ha=>by
  rw[Wa]at h
  cases hs:Ud m sizes qa x S with
  |none=>rw[hs]at h;cases h
  |some p=>rw[hs]at h;exact ZEZ h (w_w _)
def Vq(m:Zt)(sizes:V2)(qa:List Zd)(xs:List Zn)(mask cc c:Int):Prop:=Wa m sizes qa xs [] 0=some ([(mask,cc)],c)
def Vq.can{m:Zt}{sizes:V2}{qa:List Zd}{xs:List Zn}{a o c:Int}(h:Vq m sizes qa xs a o c):w c=c:=ZEZ h rfl
def Vq.on{m:Zt}{sizes:V2}{qa:List Zd}{xs:List Zn}{a o c:Int}(h:Vq m sizes qa xs a o c)(B:List MO)(d:Int)(hd:w d=d):Wa m sizes qa xs B d=some ((a,o)::B,w (d+c)):=by
 have:=ZEX (B:=B) (ZEY h d hd)
 simp_all
def ZSc{m:Zt}{sizes:V2}{qa:List Zd}{xs ys:List Zn}{a o c b p d:Int}{x:Zn}{r:Int}(hx:Vq m sizes qa xs a o c)(hy:Vq m sizes qa ys b p d)(hk:3<=x.Kind)(cc:x.Zd=0)(hd:Ai a b=0)(cd:shr qa a b=true)(ho:sV qa x (a,o) (b,p)=some r) :
  Vq m sizes qa (xs++ys++[x]) (Az a b) r (w (w (c+d)+WB (BC m x.Kind) (Wq sizes a) (Wq sizes b) (Wq sizes (Az a b)))):=by
 unfold Vq at *
 rw[Zr4,Zr4,hx];simp only;rw[Vq.on hy _ _ (Vq.can hx)];simp only;rw[Wa];have hs:Ud m sizes qa x [(b,p),(a,o)]=some ([(Az a b,r)],WB (BC m x.Kind) (Wq sizes a) (Wq sizes b) (Wq sizes (Az a b))):=by
  unfold Ud
  grind
 rw[hs];rfl
def ZSd{m:Zt}{sizes:V2}{qa:List Zd}{xs:List Zn}{a o c v:Int}(hx:Vq m sizes qa xs a o c)(hv:Bz qa a v=true)(ho:o≠v) :
  Vq m sizes qa (XA xs v) a v (w (c+WB m.Sort_ (Wq sizes a) 0 (Wq sizes a))):=by
 unfold Vq at *
 rw[XA,Zr4,hx];simp only;rw[Wa];have hs:Ud m sizes qa ⟨2,0,v⟩ [(a,o)]=some ([(a,v)],WB m.Sort_ (Wq sizes a) 0 (Wq sizes a)):=by
  unfold Ud;simp[hv,ho,BC]
 rw[hs];rfl
def ZSe{m:Zt}{sizes:V2}{qa:List Zd}{i:Nat}(h:i<qa.length) :
  Vq m sizes qa [⟨1,i,0⟩] (Ac 1 i) (qa[i].Vars.headD 0) (w (WB m.Scan (Wq sizes (Ac 1 i)) 0 (Wq sizes (Ac 1 i)))):=by
 unfold Vq;rw[Wa];have hi:Am (i:Int) 0 (qa.length-1)=true:=by simp[Am];omega
 have hs:Ud m sizes qa ⟨1,i,0⟩ []=some ([(Ac 1 i,qa[i].Vars.headD 0)],WB m.Scan (Wq sizes (Ac 1 i)) 0 (Wq sizes (Ac 1 i))):=by
  unfold Ud;simp[hi,BC,Yh h]
 rw[hs];simp[Wa]
def Vq.cost{m:Zt}{sizes:V2}{n:Int}{qa:List Zd}{xs:List Zn}{a o c:Int}(h:Vq m sizes qa xs a o c)(hv:Zx n qa=true)(hl:1<=xs.length/\xs.length<=14)(hs:Zrm n qa sizes=true):Z2S m n qa xs sizes=c:=ZSa hv hl hs h
def ZFa{info:List Zf}(h:lw info):∀(f g:Nat) (i:Int),0<=i->i.toNat<f->i.toNat<g->fst info f i=fst info g i
 |0,_,_,_,hf,_=>by omega
 |_+1,0,_,_,_,hg=>by omega
 |f+1,g+1,i,h0,hf,hg=>by
  unfold fst;split
  .rename_i y hy;have:=h _ _ hy;split
   .rename_i c;exact ZFa h f g y.Left c E E
   .rfl
  .rfl
def ZSf{info:List Zf}{i:Nat}{y:Zf}(hy:info[i]?=some y)(c:y.Left<0):first info i=i:=by
 unfold first fst
 grind
def ZFb{info:List Zf}(h:lw info){i:Nat}{y:Zf}(hy:info[i]?=some y)(c:0<=y.Left):first info i=first info y.Left:=by
 have:=h _ _ hy;have e:first info i=fst info i y.Left:=by
  unfold first
  rw[Yj,fst]
  simp_all
 rw[e];exact ZFa h _ _ _ c E E
def Z3q{α:Type}(l:List α){a b c:Nat}(h1:a<=b)(h2:b<=c)(h3:b<=l.length):(l.take c).drop a=(l.take b).drop a++(l.take c).drop b:=by
 grind [List.take_append_drop,Nat.min_eq_left,List.drop_append]
def Z3r{α:Type}(l:List α){k:Nat}(h:k<l.length):(l.take (k+1)).drop k=[l[k]]:=by
 rw[Yx h]
 grind
section
variable(m:Zt)(qa:List Zd)(steps:List Zn)(info:List Zf)
def Z3s(b:Int):Prop:=0<=first info b/\first info b<=b/\∃c,Vq m [] qa (WU info steps b) (XN info b) (Jc info b) c
def Z3t:V2->Nat->Prop
 |[],k=>k=0
 |t::rs,k=>0<=t/\t+1=k/\Z3s m qa steps info t/\Z3t rs (first info t).toNat
variable{m qa steps info}
theorem ZFc(hl:lw info)(hn:info.length=steps.length):∀(xs:List Zn) (k:Nat) (rs:V2) (st:V2),xs=steps.drop k->k+xs.length=steps.length->Xv qa xs k (info.take k) rs.reverse=some (info,st)->Vc (info.take k) rs.reverse->Z3t m qa steps info rs k->∀b:Nat,k<=b->b<steps.length->Z3s m qa steps info b
 |[],k,rs,st,hx,hk,hg,hs,hc,b,h1,h2=>by simp at hk;omega
 |x::xs,k,rs,st,hx,hk,hg,hs,hc,b,h1,h2=>by
  simp only[Ys]at hk;have hkl:k<steps.length:=by omega
  have hx0:steps[k]=x/\xs=steps.drop (k+1):=by
   grind [List.drop_eq_getElem_cons]
  have htl:(info.take k).length=k:=by simp;omega
  rw[Xv]at hg
  cases hy:Wm qa x (info.take k) rs.reverse with
  |none=>rw[hy]at hg;cases hg
  |some y =>
   rw[hy]at hg;simp only at hg;have hn2:=H3 hs y (rs.reverse.length-Xk y);rw[htl]at hn2;have er:rs.reverse.take (rs.reverse.length-Xk y)++[(k:Int)]=((k:Int)::rs.drop (Xk y)).reverse:=by
    rw[List.reverse_cons,List.reverse_drop,List.length_reverse]
   rw[er]at hg hn2;have hT:=(Z20 hg hn2 (by simp[htl])).2.1;have hyk:info[k]?=some y:=by
    have:(info.take (k+1))[k]?=(info.take k++[y])[k]?:=by rw[hT]
    grind
   have htk:info.take k++[y]=info.take (k+1):=hT.symm;rw[htk]at hg hn2;have mk:XN info (k:Int)=y.Mask:=by simp[XN,hyk]
   have ok:Jc info (k:Int)=y.Order:=by simp[Jc,hyk]
   have at_:∀{s:Int} {u:Zf},0<=s->(info.take k)[s.toNat]?=some u->XN info s=u.Mask/\Jc info s=u.Order:=by
    intro s u h0 h;have hlt:s.toNat<(info.take k).length:=(Y2.1 h).1;rw[RG,An]at h;simp[XN,Jc,h]
   have key:Z3s m qa steps info k/\Z3t m qa steps info (rs.drop (Xk y)) (first info k).toNat:=by
    unfold Wm at hy;by_cases k1:x.Kind=1
    .rw[Ya k1]at hy;split at hy
     .rename_i c;cases hy;have hf:=ZSf hyk Z;have hi:0<=x.Zd/\x.Zd<=(qa.length:Int)-1:=by simpa[Am]using c.1
      obtain⟨a,ha⟩:∃a:Nat,x.Zd=a:=⟨x.Zd.toNat,E⟩;have hal:a<qa.length:=by omega
      have hs0:WU info steps k=[⟨1,a,0⟩]:=by
       unfold WU;rw[hf,show((k:Int)+1).toNat=k+1 by omega,Yj,Z3r _ hkl,hx0.1];cases x;simp_all
      have hM:=ZSe (m:=m) (sizes:=[]) hal;refine⟨⟨E,E,w (WB m.Scan (Wq [] (Ac 1 (a:Int))) 0 (Wq [] (Ac 1 (a:Int)))),?_⟩,?_⟩
      .simp_all
      .rw[hf];simpa[Xk]using hc
     .cases hy
    .rw[Yb k1]at hy;split at hy
     .cases hy
     .rename_i hat;have hat:x.Zd=0:=by omega
      by_cases k2:x.Kind=2
      .rw[Ya k2]at hy
       cases rs with
       |nil=>simp[XY]at hy
       |cons t rs =>
        rw[Zr3]at hy;obtain⟨t0,t1,t2,t3⟩:=hc
        cases hu:(info.take k)[t.toNat]? with
        |none=>rw[hu]at hy;simp at hy
        |some u =>
         rw[hu]at hy;simp only[Option.map_some]at hy;split at hy
         .rename_i c;cases hy;have hf:=ZFb hl hyk t0;simp only at hf;obtain⟨f0,f1,c',f2⟩:=t2;obtain⟨m1,m2⟩:=at_ t0 hu;have hs0:WU info steps k=XA (WU info steps t) x.Order:=by
           unfold WU XA;rw[hf,show((k:Int)+1).toNat=k+1 by omega,show(t+1).toNat=k by omega,Z3q steps (b:=k) E E E,Z3r _ hkl,hx0.1];cases x;simp_all
          rw[m1,m2]at f2;refine⟨⟨E,E,?cc,?h1⟩,?h2⟩
          case h1 =>
             rw[hs0,mk,ok];exact ZSd f2 c.1 c.2
          case h2=>rw[hf];simpa[Xk,t0]using t3
         .cases hy
      .rw[Yb k2]at hy
       cases rs with
       |nil=>simp[XY]at hy
       |cons t rs =>
        cases rs with
        |nil=>rw[show XY [t].reverse (info.take k) 2=none from by simp[XY]]at hy;simp at hy
        |cons s rs =>
         rw[Zr3,sW]at hy;obtain⟨t0,t1,t2,t3⟩:=hc;obtain⟨f0,f1,c',f2⟩:=t2;obtain⟨s0,s1,s2,s3⟩:=t3;obtain⟨g0,g1,d',g2⟩:=s2
         cases hu:(info.take k)[s.toNat]? with
         |none=>rw[hu]at hy;simp at hy
         |some u =>
          cases hz:(info.take k)[t.toNat]? with
          |none=>rw[hu,hz]at hy;simp at hy
          |some z =>
           rw[hu,hz]at hy;simp only[Option.map_some]at hy;split at hy
           .rename_i c;obtain⟨o,ho,rfl⟩:=Yr.1 hy;have hf:=ZFb hl hyk s0;simp only at hf;obtain⟨m1,m2⟩:=at_ s0 hu;obtain⟨n1,n2⟩:=at_ t0 hz;have hk3:3<=x.Kind:=by
             unfold Vw at ho
             grind
            have hs0:WU info steps k=WU info steps s++WU info steps t++[x]:=by
             unfold WU;rw[hf,show((k:Int)+1).toNat=k+1 by omega,show(t+1).toNat=k by omega,Z3q steps (a:=(first info s).toNat) (b:=k) E E E,Z3r _ hkl,hx0.1,Z3q steps (a:=(first info s).toNat) (b:=(s+1).toNat) (c:=k) E E E,show(s+1).toNat=(first info t).toNat by omega]
            rw[m1,m2]at g2;rw[n1,n2]at f2;refine⟨⟨E,E,?dd,?h3⟩,?h4⟩
            case h3 =>
             rw[hs0,mk,ok];exact ZSc g2 f2 hk3 hat c.1 c.2 (by rw[ZEW];exact ho)
            case h4=>rw[hf];simpa[Xk,t0]using s3
           .cases hy
   by_cases e:b=k
   .rw[e];exact key.1
   .exact ZFc hl hn xs (k+1) ((k:Int)::rs.drop (Xk y)) st hx0.2 E hg hn2 ⟨E,E,key.1,key.2⟩ b E h2
end
def ZFd{qa:List Zd}:∀{xs:List Zn} {i:Nat} {info:List Zf} {st:V2} {c:List Zf} {cc:V2},Xv qa xs i info st=some (c,cc)->xs≠[]->∃l,cc=l++[((i+xs.length-1:Nat):Int)]
 |[],_,_,_,_,_,_,h=>absurd rfl h
 |x::xs,i,info,st,c,cc,h,_=>by
  rw[Xv]at h
  cases hy:Wm qa x info st with
  |none=>rw[hy]at h;cases h
  |some y =>
   rw[hy]at h;simp only at h
   cases xs with
   |nil=>simp only[Xv,C0,Dj]at h;exact⟨_,h.2.symm⟩
   |cons z zs =>
    obtain⟨l,hl⟩:=ZFd h Z
    grind
theorem ZSg{m:Zt}{n:Int}{qa:List Zd}{xs:List Zn}{mask o c:Int}(hv:Zx n qa=true)(hl:1<=xs.length/\xs.length<=14)(h:Vq m [] qa xs mask o c):∃info,ZG n qa xs=some info/\XN info ((xs.length-1:Nat):Int)=mask:=by
 have g:=Z3p m [] qa xs [] [] 0 (λs hs=>by cases hs);unfold Vq at h;simp only[vw,De,List.reverse_nil,DJ]at g
 cases e:Xv qa xs 0 [] []with
 |none=>rw[e]at g;simp only at g;rw[g]at h;cases h
 |some r =>
  obtain⟨info,st⟩:=r;rw[e]at g;obtain⟨tail,g1,g2,g3⟩:=g;rw[h]at g3;simp only[C0,Dj]at g3;obtain⟨l,hst⟩:=ZFd e (λe=>by rw[e]at hl;simp at hl);have hlen:st.length=1:=by have:=congrArg List.length g3.1;simp at this;omega
  have hl0:l=[]:=by rw[hst]at hlen;simp at hlen;exact hlen
  subst hl0;rw[hst]at g3;simp at g3;refine⟨info,?_,by rw[g3.1.1]⟩;unfold ZG;rw[Ya ⟨hv,by simp[Am];omega⟩,e]
  simp_all
def ZSh{n:Int}{qa:List Zd}{steps:List Zn}{info:List Zf}(h:ZG n qa steps=some info){b:Nat}(hb:b<steps.length):∃AE,ZG n qa (WU info steps b)=some AE/\1<=(WU info steps b).length/\XN AE (((WU info steps b).length-1:Nat):Int)=XN info b:=by
 obtain⟨h1,h2,h3,h4⟩:=Um h;have hw:=(Z2N h).1;have h':=h;unfold ZG at h';rw[Ya ⟨h1,by simp[Am];omega⟩]at h'
 cases e:Xv qa steps 0 [] []with
 |none=>rw[e]at h';cases h'
 |some r =>
  obtain⟨i,st⟩:=r;rw[e]at h';simp only at h';split at h'
  .cases h';obtain⟨f0,f1,c,hm⟩:=ZFc (m:=⟨⟨0,0,0,0,0,[]⟩,⟨0,0,0,0,0,[]⟩,⟨0,0,0,0,0,[]⟩,⟨0,0,0,0,0,[]⟩,⟨0,0,0,0,0,[]⟩⟩) hw h2 steps 0 [] st rfl E (by simpa using e) (λs hs=>by cases hs) rfl b E hb;have hsl:(WU info steps b).length=b+1-(first info b).toNat:=by
    unfold WU;simp;omega
   grind [ZSg]
  .cases h'
def Pc{info:List Zf}{cc:List Zn}{mask:Int}:∀{i:Nat} {j:Int},D4 info mask (Ck (cc.drop i) i)=some j->∃b:Nat,j=b/\b<cc.length/\XN info b=mask/\∃x,cc[b]?=some x/\3<=x.Kind:=by
 intro i;generalize hd:cc.length-i=n
 induction n generalizing i with
 |zero=>intro j h;rw[Ydw E]at h;simp[Ck,D4]at h
 |succ n ih =>
  intro j h;have hi:i<cc.length:=by omega
  rw[Zn6 hi]at h;split at h
  .rename_i c;rw[D4]at h;split at h
   .rename_i y hy;split at h
    .cases h;refine⟨i,rfl,hi,?_,_,Yh hi,c⟩;rename_i e;rw[Yj]at hy;simp only[XN,Yj,hy];exact e
    .exact ih E h
   .cases h
  .exact ih E h
theorem WX{x:Int}(h1:-9223372036854775808<=x)(h2:x<=9223372036854775807):w x=x:=ZF h1 h2
def JG{a b c:Int}:Am a b c=true↔b<=a/\a<=c:=by simp[Am]
def GC(c:Zo):Prop:=0<=c.i/\c.i<=c.b.length/\c.b.length<=1048576
abbrev cB(c:Zo):AF:=.box (c.c.map .t)
def ZFe(x:Int):0<=Ai x 255/\Ai x 255<=255:=by
 unfold Ai
 grind [Nat.le_trans,Nat.and_le_right,WX]
def ZSi(code:V2)(hl:code.length<=1048576):∀i,i<=code.length->∀h1:Int,∃c,gM code h1 i=some (.ptr 0 0,[cB c])/\GC c:=by
 refine down _ ?_ ?_
 .intro h1;refine⟨⟨code,0,h1⟩,Xl.1.1.1.2 _ _ _ _ ?_,by simp[GC];exact hl⟩;simp
 .intro i hi ih h1;by_cases h4:(i:Int)<4000
  .obtain⟨c,e,g⟩:=ih (Ai (w ((w ((w (h1*131))+(w code[i])))+7)) 1073741823);refine⟨c,Xl.1.1.1.2 _ _ _ _ ?_,g⟩;rw[An,Ya h4];refine⟨E,code[i],by simp[hi],?_⟩
   grind [WX]
  .refine⟨⟨code,0,h1⟩,Xl.1.1.1.2 _ _ _ _ ?_,by simp[GC];exact hl⟩;rw[An,Yb h4];rfl
def ZSj(code:V2)(hl:code.length<=1048576):∃c,gL code=some (.ptr 0 0,[cB c])/\GC c:=by
 obtain⟨c,e,g⟩:=ZSi code hl 0 (Yc _) (w (10101+(code.length:Int)))
 grind [Xl.1.1.2.1]
def sZ{c:Zo}(g:GC c):∃c' n,H4 c=some (I n,[cB c'])/\GC c'/\0<=n/\n<=255:=by
 by_cases h:c.i<(c.b.length:Int)
 .obtain⟨i,hi⟩:∃i:Nat,c.i=i:=⟨c.i.toNat,by have:=g.1;omega⟩;have hl:i<c.b.length:=by omega
  refine⟨⟨c.b,w (c.i+1),w ((w (c.h*6364136223846793005))+1442695040888963407)⟩,Ai (w ((Ai (Gg (As (w ((w (c.h*6364136223846793005))+1442695040888963407)) 33) (As (w ((w (c.h*6364136223846793005))+1442695040888963407)) 45)) 255)+(w c.b[i]))) 255,Xl.1.1.2.2 _ _ ?_,?_,ZFe _⟩
  .simp_all
  .have:=g.2.2;rw[show w (c.i+1)=c.i+1 from WX E E];exact⟨by show 0<=c.i+1;omega,by show c.i+1<=(c.b.length:Int);omega,this⟩
 .refine⟨⟨c.b,c.i,w ((w (c.h*6364136223846793005))+1442695040888963407)⟩,Ai (Gg (As (w ((w (c.h*6364136223846793005))+1442695040888963407)) 33) (As (w ((w (c.h*6364136223846793005))+1442695040888963407)) 45)) 255,Xl.1.1.2.2 _ _ ?_,g,ZFe _⟩;rw[Yb h];rfl
def XI{c:Zo}(g:GC c)(a:Int):∃c' n,ZR c a=some (I n,[cB c'])/\GC c'/\0<=n/\(0<a->n<a):=by
 by_cases h:a<=0
 .exact⟨c,0,Xl.1.2.1.1 _ _ _ (by rw[Ya h]),g,E,E⟩
 .by_cases ha:a<=256
  .obtain⟨c',n,e,g',h1,h2⟩:=sZ g;refine⟨c',Int.tmod n a,Xl.1.2.1.1 _ _ _ ?_,g',Int.tmod_nonneg _ h1,λ_=>Int.tmod_lt_of_pos _ E⟩
   grind
  .obtain⟨c1,n1,e1,g1,k1,k2⟩:=sZ g;obtain⟨c2,n2,e2,g2,k3,k4⟩:=sZ g1;obtain⟨c3,n3,e3,g3,k5,k6⟩:=sZ g2;obtain⟨c4,n4,e4,g4,k7,k8⟩:=sZ g3;have q:w ((w ((w ((w (n1*16777216))+(w (n2*65536))))+(w (n3*256))))+n4)=n1*16777216+n2*65536+n3*256+n4:=by
    grind [WX]
   refine⟨c4,Int.tmod (n1*16777216+n2*65536+n3*256+n4) a,Xl.1.2.1.1 _ _ _ ?_,g4,Int.tmod_nonneg _ E,λ_=>Int.tmod_lt_of_pos _ E⟩;rw[Yb h,Yb ha];exact⟨c1,n1,e1,c2,n2,e2,c3,n3,e3,c4,n4,e4,E,by rw[q]⟩
def Vh{c:Zo}(g:GC c)(a:Int):∃c' b,Xo c a=some (Bo b,[cB c'])/\GC c':=by
 obtain⟨c',n,e,g',_⟩:=XI g a;exact⟨c',_,Xl.1.2.1.2 _ _ _ ⟨c',n,e,rfl⟩,g'⟩
def bL{α:Type}{l:List α}{n:Int}(h0:0<=n)(h1:n<l.length):∃e,l[n.toNat]?=some e/\e∈l:=by
 simp_all
def QO{c:Zo}(g:GC c)(l:V2)(h0:l≠[])(hl:l.length<=256):∃c' e,Wu c l=some (I e,[cB c',.arr X5 1 true (l.map ic)])/\GC c'/\e∈l:=by
 have hp:0<l.length:=CE.2 h0;obtain⟨c',n,e,g',h1,h2⟩:=XI g l.length;obtain⟨y,hy,hm⟩:=bL h1 (h2 E)
 grind [Xl.1.2.2.2.1]
def Z3u{c:Zo}(g:GC c)(l:List KI)(h0:l≠[])(hl:l.length<=256):∃c' e,H9 c l=some (.t (.str e),[cB c',.arr ZIn 1 true (l.map sc)])/\GC c'/\e∈l:=by
 have hp:0<l.length:=CE.2 h0;obtain⟨c',n,e,g',h1,h2⟩:=XI g l.length;obtain⟨y,hy,hm⟩:=bL h1 (h2 E)
 grind [WM.2.2.2.1]
def s6{c:Zo}(g:GC c):∃c' a1 a2 a3 a4 a5,∃l:List Z4,H5 c=some (.agg [I a1,I a2,I a3,I a4,I a5,.own 1],[cB c',.arr 198 2 true (l.map Z4.c)])/\GC c'/\l.length<=1:=by
 obtain⟨c1,n1,e1,g1,_⟩:=XI g 5;obtain⟨c2,n2,e2,g2,_⟩:=XI g1 4;obtain⟨c3,n3,e3,g3,_⟩:=XI g2 4;obtain⟨c4,n4,e4,g4,_⟩:=XI g3 3;obtain⟨c5,b5,e5,g5⟩:=Vh g4 3;have tail:∀(c:Zo),GC c->∃c' b,Xo c 3=some (Bo b,[cB c'])/\∃c'' n c3,Wu c' ([1,5,17,32])=some (I n,[cB c'',.arr X5 1 true (([1,5,17,32]:V2).map ic)])/\∃k,ZR c'' 20=some (I k,[cB c3])/\GC c'/\GC c3:=by
  intro c g;obtain⟨c',b,e,g'⟩:=Vh g 3;obtain⟨c'',n,e',g'',_⟩:=QO g' [1,5,17,32] Z Z;obtain⟨c3,k,e3,g3,_⟩:=XI g'' 20
  grind
 rcases tf b5 with hb|hb
 .subst hb;obtain⟨c',b,e,c'',n,c3',e',k,e3',g',g3'⟩:=tail c5 g5;rcases tf b with hb|hb
  .subst hb;exact⟨c',_,_,_,_,_,[],Xl.1.2.2.2.2 _ _ ⟨c1,n1,e1,c2,n2,e2,c3,n3,e3,c4,n4,e4,c5,false,e5,by rw[Yb Z];exact⟨c',false,e,by rw[Yb Z]⟩⟩,g',Z⟩
  .subst hb;exact⟨c3',_,_,_,_,_,[⟨n,k⟩],Xl.1.2.2.2.2 _ _ ⟨c1,n1,e1,c2,n2,e2,c3,n3,e3,c4,n4,e4,c5,false,e5,by rw[Yb Z];exact⟨c',true,e,by rw[Ya rfl];exact⟨c'',_,n,e',c3',k,e3',rfl⟩⟩⟩,g3',Z⟩
 .subst hb;obtain⟨c6,n6,e6,g6,_⟩:=XI g5 3;obtain⟨c',b,e,c'',n,c3',e',k,e3',g',g3'⟩:=tail c6 g6;rcases tf b with hb|hb
  .subst hb;exact⟨c',_,_,_,_,_,[],Xl.1.2.2.2.2 _ _ ⟨c1,n1,e1,c2,n2,e2,c3,n3,e3,c4,n4,e4,c5,true,e5,by rw[Ya rfl];exact⟨c6,n6,e6,c',false,e,by rw[Yb Z]⟩⟩,g',Z⟩
  .subst hb;exact⟨c3',_,_,_,_,_,[⟨n,k⟩],Xl.1.2.2.2.2 _ _ ⟨c1,n1,e1,c2,n2,e2,c3,n3,e3,c4,n4,e4,c5,true,e5,by rw[Ya rfl];exact⟨c6,n6,e6,c',true,e,by rw[Ya rfl];exact⟨c'',_,n,e',c3',k,e3',rfl⟩⟩⟩,g3',Z⟩
def SmM(m:Zt):Prop:=m.Scan.Steps.length<=3/\m.Sort_.Steps.length<=3/\m.Hash.Steps.length<=3/\m.Merge.Steps.length<=3/\m.Nested.Steps.length<=3
def SmM.le{m:Zt}(h:SmM m):Ci m:=by
 obtain⟨h1,h2,h3,h4,h5⟩:=h;omega
def ZSk{c:Zo}(g:GC c):∃c',∃m:Zt,gN c=some (.agg (m.c.map .t),[cB c'])/\GC c'/\SmM m:=by
 obtain⟨c1,b,e,g1⟩:=Vh g 3;rcases tf b with hb|hb
 .subst hb;obtain⟨d1,x1,x2,x3,x4,x5,l1,f1,h1,k1⟩:=s6 g1;obtain⟨d2,y1,y2,y3,y4,y5,l2,f2,h2,k2⟩:=s6 h1;obtain⟨d3,z1,z2,z3,z4,z5,l3,f3,h3,k3⟩:=s6 h2;obtain⟨d4,u1,u2,u3,u4,u5,l4,f4,h4,k4⟩:=s6 h3;obtain⟨d5,v1,v2,v3,v4,v5,l5,f5,h5,k5⟩:=s6 h4;refine⟨d5,⟨⟨x1,x2,x3,x4,x5,l1⟩,⟨y1,y2,y3,y4,y5,l2⟩,⟨z1,z2,z3,z4,z5,l3⟩,⟨u1,u2,u3,u4,u5,l4⟩,⟨v1,v2,v3,v4,v5,l5⟩⟩,Xl.2.1.1.1 _ _ ⟨c1,false,e,?_⟩,h5,?_⟩
  .rw[Yb Z];exact⟨d1,l1,x1,x2,x3,x4,x5,f1,d2,l2,y1,y2,y3,y4,y5,f2,d3,l3,z1,z2,z3,z4,z5,f3,d4,l4,u1,u2,u3,u4,u5,f4,d5,l5,v1,v2,v3,v4,v5,f5,rfl⟩
  .exact⟨by show l1.length<=3;omega,by show l2.length<=3;omega,by show l3.length<=3;omega,by show l4.length<=3;omega,by show l5.length<=3;omega⟩
 .subst hb;refine⟨c1,⟨⟨1,1,0,0,0,[]⟩,⟨2,3,0,0,0,[⟨17,20⟩]⟩,⟨4,2,1,1,0,[]⟩,⟨1,1,1,1,0,[]⟩,⟨1,0,0,1,1,[]⟩⟩,Xl.2.1.1.1 _ _ ⟨c1,true,e,?_⟩,g1,?_⟩
  .rw[Ya rfl];exact⟨_,_,_,_,_,_,_,_,_,_,_,_,_,_,_,_,_,_,_,_,_,_,_,_,_,_,_,_,_,_,Xl.1.2.2.1 _ rfl,rfl⟩
  .exact⟨Z,Z,Z,Z,Z⟩
def Z3v:∀{xs ys:V2},Q7 xs ys=true↔∀(i:Nat) (a b:Int),xs[i]?=some a->ys[i]?=some b->b<=a
 |[],ys=>by simp[Q7]
 |x::xs,[]=>by simp[Q7]
 |x::xs,y::ys=>by
  rw[Q7,Yf,decide_eq_true_eq,Z3v];constructor
  .grind
  .intro h;exact⟨h 0 x y rfl rfl,λi a b ha hb=>h (i+1) a b (by simpa using ha) (by simpa using hb)⟩
def ZFf{xs:V2}:Gm xs=true↔∀(i:Nat) (a:Int),xs[i]?=some a->0<=a/\a<=7:=by
 unfold Gm;rw[Ym];constructor
 .intro h i a ha;exact JG.1 (h a (Yu ha))
 .intro h a ha;obtain⟨i,hi,e⟩:=cO ha;exact JG.2 (h i a (by rw[Yh hi,e]))
structure Bx (lo hi L:V2):Prop where
 l1:lo.length=L.length
 l2:hi.length=L.length
 l3:0<L.length/\L.length<=16
 at_:∀(i:Nat) (e f g:Int),lo[i]?=some e->hi[i]?=some f->L[i]?=some g->0<=e/\e<=g/\g<=f/\f<=7
def bM{xs ys:V2}(h:xs.length=ys.length){i:Nat}{a:Int}(ha:xs[i]?=some a):∃b,ys[i]?=some b:=by
 grind
def Bx.of{lo hi L:V2}(h:Gn lo hi L=true):Bx lo hi L:=by
 unfold Gn WR Ke dom at h;simp only[Yf,decide_eq_true_eq,Z3v,ZFf]at h;obtain⟨⟨⟨⟨⟨h1,h2,h3⟩,h4,h5⟩,h6,h7⟩,h8,h9⟩,h10,h11⟩:=h;exact⟨E,E,E,λi e f g he hf hg=>⟨(h2 i e he).1,h9 i g e hg he,h11 i f g hf hg,(h4 i f hf).2⟩⟩
def Bx.to{lo hi L:V2}(h:Bx lo hi L):Gn lo hi L=true:=by
 obtain⟨a,b,c,k⟩:=h
 have k':∀(i:Nat),(∀e,lo[i]?=some e->∃f g,hi[i]?=some f/\L[i]?=some g)/\(∀f,hi[i]?=some f->∃e g,lo[i]?=some e/\L[i]?=some g):=λi =>
  ⟨λe he=>by obtain⟨f,hf⟩:=bM (a.trans b.symm) he;obtain⟨g,hg⟩:=bM a he;exact⟨f,g,hf,hg⟩,λf hf=>by obtain⟨e,he⟩:=bM (b.trans a.symm) hf;obtain⟨g,hg⟩:=bM b hf;exact⟨e,g,he,hg⟩⟩
 unfold Gn WR Ke dom;simp only[Yf,decide_eq_true_eq,Z3v,ZFf];refine⟨⟨⟨⟨⟨E,λi e he=>?_,E⟩,λi f hf=>?_,E⟩,E,λi f e hf he=>?_⟩,E,λi g e hg he=>?_⟩,E,λi f g hf hg=>?_⟩
 .grind
 .grind
 .grind
 .grind
 .grind
def Bx.valid{lo hi L:V2}(h:Bx lo hi L):WR lo hi=true:=by
 have:=h.to;unfold Gn at this
 simp_all
def Ob(L:V2)(x:Zu):Prop:=0<=x.Mask/\∃g,L[x.Mask.toNat]?=some g/\x.Class<=g/\(x.Exact=true->g=x.Class)
def Xr(L lo hi cc c:V2):Prop:=∀(i:Nat) (g:Int),L[i]?=some g->(lo[i]?=some g->cc[i]?=some g)/\(hi[i]?=some g->c[i]?=some g)
def s8{lo hi L:V2}(h:Bx lo hi L){x:Zu}(ho:Ob L x):∃lo' hi',DH lo hi x=(true,lo',hi')/\Bx lo' hi' L/\Xr L lo hi lo' hi'/\(x.Exact=true->lo'[x.Mask.toNat]?=L[x.Mask.toNat]?/\hi'[x.Mask.toNat]?=L[x.Mask.toNat]?):=by
 obtain⟨m0,g,hg,hc,hx⟩:=ho;have hkl:=(Y2.1 hg).1;obtain⟨e,he⟩:=bM h.l1.symm hg;obtain⟨f,hf⟩:=bM h.l2.symm hg;have k:=h.at_ _ e f g he hf hg;have hlk:=(Y2.1 he).1;have hhk:=(Y2.1 hf).1;have hB:Bx (lo.set x.Mask.toNat (if e<x.Class then x.Class else e)) (if x.Exact=true then hi.set x.Mask.toNat (if x.Class<f then x.Class else f)else hi) L:=by
  refine⟨by rw[Y7];exact h.l1,?_,h.l3,λi a b c ha hb hc'=>?_⟩
  .split
   .rw[Y7];exact h.l2
   .exact h.l2
  .rw[List.getElem?_set]at ha;by_cases hi':x.Mask.toNat=i
   .grind
   .rw[Yb hi']at ha;have hb':hi[i]?=some b:=by
     grind
    exact h.at_ i a b c ha hb' hc'
 refine⟨_,_,?_,hB,λi c hc'=>⟨λha=>?_,λhb=>?_⟩,λhE=>⟨?_,?_⟩⟩
 .unfold DH;rw[Ya ⟨h.valid,JG.2 (by have:=h.l1;omega)⟩,he,hf];simp only;rw[Ya hB.valid]
 .grind
 .grind
 .grind
 .grind
def Xr.trans{L a b c d e f:V2}(h:Xr L a b c d)(k:Xr L c d e f):Xr L a b e f:=λi g hg=>⟨λh1=>(k i g hg).1 ((h i g hg).1 h1),λh1=>(k i g hg).2 ((h i g hg).2 h1)⟩
def Z3w{L:V2}:∀(l:List Zu) (lo hi:V2) (n:Int),Bx lo hi L->(∀x∈l,Ob L x)->Bx (Bi l lo hi n).1 (Bi l lo hi n).2.1 L/\Xr L lo hi (Bi l lo hi n).1 (Bi l lo hi n).2.1/\∀x∈l,x.Exact=true->(Bi l lo hi n).1[x.Mask.toNat]?=L[x.Mask.toNat]?/\(Bi l lo hi n).2.1[x.Mask.toNat]?=L[x.Mask.toNat]?
 |[],lo,hi,n,h,_=>⟨h,λi g _=>⟨id,id⟩,λx hx=>by cases hx⟩
 |x::xs,lo,hi,n,h,ho=>by
  have hox:=ho x Z;obtain⟨lo',hi',e,hB,hK,hE⟩:=s8 h hox;rw[Bi,e,Ya rfl];obtain⟨a,b,c⟩:=Z3w xs lo' hi' (w (n+1)) hB (λy hy=>ho y (by simp[hy]));refine⟨a,hK.trans b,λy hy hyE=>?_⟩;rcases Yy.1 hy with rfl|hy
  .obtain⟨q1,q2⟩:=hE hyE;obtain⟨m0,g,hg,_⟩:=hox;rw[hg]at q1 q2|-;exact⟨(b _ g hg).1 q1,(b _ g hg).2 q2⟩
  .exact c y hy hyE
def Pd{o:Zy}{l r b:Int}{k:Nat}(hk:k<8)(h:b<WB o l r (ZT k)):∀j,j<=k->Hg o l r b j<=k:=by
 refine down _ ?_ ?_
 .simp_all [Zrj]
 .grind [Zrj]
def ZFg{n:Nat}(h:n<=4096):Se (n:Int)=ZT (X4 n)/\Am (X4 (n:Int)) 0 7=true:=⟨rfl,JG.2 (ZRH E E)⟩
section
variable{m:Zt}{d:Zj}{q:Zc}{p:Zr}{info:List Zf}{Ay:Int}(hf:ZN d q=true)(ha:VJ m)(P:PI q p info)(hb:0<=Ay/\Ay<=1000000000000)
include hf ha P hb
theorem Pe:∀i,i<=p.Steps.length->∀(c st:Int) (cc:List Zu),0<=c->c<=Ay->(∀x∈cc,Ob (Vg d q) x)->
  0<=(A6 m (Xz d q p.Steps info) Ay (p.Steps.drop i) (info.drop i) i c st cc).2.1/\(A6 m (Xz d q p.Steps info) Ay (p.Steps.drop i) (info.drop i) i c st cc).2.1<=Ay/\
  (∀x∈(A6 m (Xz d q p.Steps info) Ay (p.Steps.drop i) (info.drop i) i c st cc).2.2.2,Ob (Vg d q) x)/\
  ((A6 m (Xz d q p.Steps info) Ay (p.Steps.drop i) (info.drop i) i c st cc).1=true->(∀x∈cc,x∈(A6 m (Xz d q p.Steps info) Ay (p.Steps.drop i) (info.drop i) i c st cc).2.2.2)/\
   ∀(j:Nat) (x:Zn) (y:Zf),i<=j->p.Steps[j]?=some x->info[j]?=some y->3<=x.Kind->∃o∈(A6 m (Xz d q p.Steps info) Ay (p.Steps.drop i) (info.drop i) i c st cc).2.2.2,o.Mask=y.Mask/\o.Exact=true):=by
 have hg:=rT hf P;have R:Kw q p info (Xz d q p.Steps info):=⟨P,hg.1,hg.2⟩;have hv:=P.val;refine down _ ?_ ?_
 .grind [rZ,List.getElem?_eq_some_iff]
 .intro i hi ih c st cc h0 h1 hs;obtain⟨x,y,hx,hy,_,hk,hR,hRL,_,_⟩:=R.at_ hi;rw[rY R hi hx hy];have n0:=R.n4096 i;rw[Yj]at n0;have hsz:=ZRD hf P hy;have hM:=P.mask y (Yu hy);have hC:=ZEV P.eq y (Yu hy);have hru:∀j,∃a,CD (Xz d q p.Steps info) j=ZT a/\Am a 0 7=true:=λj=>⟨_,ZFg (R.n4096 j)⟩
  obtain⟨n1,n2⟩:=ZFg n0;have Dg:CD (Xz d q p.Steps info) i=ZT (X4 (((Xz d q p.Steps info).getD i ⟨[],[]⟩).Rows.length:Int)):=rfl;have hst:1<=CN m (Xz d q p.Steps info) x y i:=by
   have hG:=ZRG ha x.Kind;unfold CN Ei Ej;obtain⟨a,a1,a2⟩:=hru y.Left;obtain⟨b,b1,b2⟩:=hru y.Right;rw[Dg,a1,b1];split<;>split
   .simp_all [Z3j]
   .exact Z3j hG (b:=0) a2 Om n2
   .omega
   .exact Z3j hG (b:=0) n2 Om n2
  have hwb:w (Ay-c)=Ay-c:=WX E E;have hL:3<=x.Kind->(Vg d q)[y.Mask.toNat]?=some (X4 (((Xz d q p.Steps info).getD i ⟨[],[]⟩).Rows.length:Int)):=by
   intro k3;rw[hsz];have h2:y.Mask<2 ^ q.Atoms.length:=hC.1.2;refine ZRL hf hM.1 h2 ?_;unfold WW;rw[hv.1,hC.2.1,Lh hv.1];simp only[Yf,decide_eq_true_eq,Yk,Bool.and_true];exact⟨JG.2 E,hC.2.2⟩
  by_cases c0:w (Ay-c)<CN m (Xz d q p.Steps info) x y i
  .rw[Ya c0];refine⟨hb.1,Int.le_refl _,?_,λh=>by cases h⟩;simp only;split
   .rename_i k3;intro o ho;rcases Yp.1 ho with ho|ho
    .exact hs o ho
    .simp only[List.mem_singleton]at ho;subst ho;refine⟨hM.1,_,hL k3,?_,λh=>by cases h⟩;have hr0:0<=y.Right:=hR.2 k3;have DE:=JG.1 n2;obtain⟨k,hk'⟩:∃k:Nat,X4 (((Xz d q p.Steps info).getD i ⟨[],[]⟩).Rows.length:Int)=k:=⟨_,(Int.toNat_of_nonneg DE.1).symm⟩;rw[hk'];refine Pd E ?_ 0 (Yc _);unfold CN Ei Ej at c0
     simp_all
   .exact hs
  .rw[Yb c0];rw[hwb]at c0;have hw2:w (c+CN m (Xz d q p.Steps info) x y i)=c+CN m (Xz d q p.Steps info) x y i:=WX E E;rw[hw2];have hs':∀o∈(if 3<=x.Kind then cc++[Hh (Xz d q p.Steps info) y i]else cc),Ob (Vg d q) o:=by
    split
    .rename_i k3;intro o ho;rcases Yp.1 ho with ho|ho
     .exact hs o ho
     .simp only[List.mem_singleton]at ho;subst ho;exact⟨hM.1,_,hL k3,Int.le_refl _,λ_=>rfl⟩
    .exact hs
   obtain⟨r1,r2,r3,r4⟩:=ih (c+CN m (Xz d q p.Steps info) x y i) (w (st+1)) _ E E hs';refine⟨r1,r2,r3,λhd=>?_⟩;obtain⟨q1,q2⟩:=r4 hd;refine⟨λo ho=>q1 o ?_,λj x' y' hj hx' hy' k3=>?_⟩
   .grind
   .by_cases hji:i=j
    .subst hji;rw[hx]at hx';cases hx';rw[hy]at hy';cases hy';exact⟨_,q1 (Hh (Xz d q p.Steps info) y i) (by rw[Ya k3];simp),rfl,rfl⟩
    .grind
end
theorem Z3x{q:Zc}{p:Zr}{info:List Zf}(hp:ZG q.Zi q.Atoms p.Steps=some info){mask:Int}{l:List Zn}(h:QN q p mask=some l):∃AE x,ZG q.Zi q.Atoms l=some AE/\XN AE ((l.length-1:Nat):Int)=mask/\1<=l.length/\l[l.length-1]?=some x/\3<=x.Kind:=by
 unfold QN at h;rw[hp]at h;simp only at h;obtain⟨j,h1,h2⟩:=Yr.1 h;obtain⟨b,rfl,hb,hm,x,hx,hk⟩:=Pc (i:=0) (by simpa using h1);obtain⟨AE,i1,i2,i3⟩:=ZSh hp hb;rw[h2]at i1 i2 i3;refine⟨AE,x,i1,i3.trans hm,i2,?_,hk⟩;have hl:l.length=b+1-(first info b).toNat:=by
  rw[<-h2];unfold WU;simp;omega
 rw[<-h2];unfold WU
 grind
def Z3y{m:Zt}{d:Zj}{q:Zc}{p:Zr}{info:List Zf}{Ay:Int}(hf:ZN d q=true)(ha:VJ m)(hp:ZG q.Zi q.Atoms p.Steps=some info)(hb:Am Ay 0 1000000000000=true)(mask:Int) :
  0<=(AB (AQ m d q p mask Ay)).Cost/\(AB (AQ m d q p mask Ay)).Cost<=Ay/\(∀x∈(AB (AQ m d q p mask Ay)).Seen,Ob (Vg d q) x)/\((AB (AQ m d q p mask Ay)).Done=true->∃o∈(AB (AQ m d q p mask Ay)).Seen,o.Mask=mask/\o.Exact=true):=by
 have hb':=JG.1 hb;unfold AQ
 cases e:QN q p mask with
 |none=>exact⟨Int.le_refl _,hb'.1,λx hx=>by simp[AB]at hx,λh=>by simp[AB]at h⟩
 |some l =>
  obtain⟨AE,x,i1,i2,i3,i4,i5⟩:=Z3x hp e;have P:PI q ⟨l⟩ AE:=⟨i1⟩;have hl:=P.val.2.1;have hr:=Pe hf ha P hb' 0 (Yc _) 0 0 [] (Int.le_refl _) hb'.1 (λx hx=>by cases hx);simp only[Yq]at hr;simp only;unfold Ld;simp only[i1];rw[Ya ⟨hf,ha,hb⟩];generalize (Xz d q l AE).getD (l.length-1) ⟨[],[]⟩=s;have hy:AE[l.length-1]?=some (AE[l.length-1]'(by simp only at hl;omega)):=Yh _;have hmk:(AE[l.length-1]'(by simp only at hl;omega)).Mask=mask:=by
   rw[<-i2];simp only[XN,Yj,hy]
  generalize A6 m (Xz d q l AE) Ay l AE 0 0 0 []=r at *
  obtain⟨f,c,st,o⟩:=r;obtain⟨r1,r2,r3,r4⟩:=hr
  cases f with
  |false=>exact⟨r1,r2,r3,λh=>by simp[AB]at h⟩
  |true =>
   refine⟨r1,r2,r3,λ_=>?_⟩;obtain⟨_,q2⟩:=r4 rfl;obtain⟨z,z1,z2,z3⟩:=q2 (l.length-1) x _ (Yc _) i4 hy i5;exact⟨z,z1,z2.trans hmk,z3⟩
section
variable{m:Zt}{d:Zj}{q:Zc}{p:Zr}{info:List Zf}{Ay:Int}(hf:ZN d q=true)(ha:VJ m)(hp:ZG q.Zi q.Atoms p.Steps=some info)(hb:Am Ay 0 1000000000000=true)
include hf ha hp hb
theorem ZFh:∀(k:Nat) (lo hi:V2) (t:Int),0<=t->t+k*Ay<=1000000000000000->(WK m d q p Ay k lo hi t).2.2<=t+k*Ay
 |0,lo,hi,t,h0,h1=>by simp[WK]
 |k+1,lo,hi,t,h0,h1=>by
  have hb':=JG.1 hb;obtain⟨s1,s2,_,_⟩:=Z3y hf ha hp hb (Xw q.Zi q.Atoms p.Steps lo hi);have hkb:0<=(k:Int)*Ay:=Int.mul_nonneg E hb'.1;rw[Y9,Int.add_mul]at h1|-;unfold WK Ba;simp only;generalize AB (AQ m d q p (Xw q.Zi q.Atoms p.Steps lo hi) Ay)=r at *
  have hw:w (t+r.Cost)=t+r.Cost:=WX E E;split
  .simp only;omega
  .split
   .have:=ZFh k (Bi r.Seen lo hi 0).1 (Bi r.Seen lo hi 0).2.1 (w (t+r.Cost)) E E;omega
   .simp only;omega
theorem Z3z:∀(k:Nat) (lo hi:V2) (t:Int),Bx lo hi (Vg d q)->Bx (WK m d q p Ay k lo hi t).1 (WK m d q p Ay k lo hi t).2.1 (Vg d q)/\Xr (Vg d q) lo hi (WK m d q p Ay k lo hi t).1 (WK m d q p Ay k lo hi t).2.1
 |0,lo,hi,t,h=>⟨h,λi g _=>⟨id,id⟩⟩
 |k+1,lo,hi,t,h=>by
  obtain⟨_,_,s3,_⟩:=Z3y hf ha hp hb (Xw q.Zi q.Atoms p.Steps lo hi);unfold WK Ba;simp only;generalize AB (AQ m d q p (Xw q.Zi q.Atoms p.Steps lo hi) Ay)=r at *
  obtain⟨a,b,_⟩:=Z3w r.Seen lo hi 0 h s3;split
  .exact⟨h,λi g _=>⟨id,id⟩⟩
  .split
   .obtain⟨c,e⟩:=Z3z k _ _ (w (t+r.Cost)) a;exact⟨c,b.trans e⟩
   .exact⟨a,b⟩
theorem ZSl{lo hi:V2}(h:Bx lo hi (Vg d q))(k:Nat)(t:Int){z:Int}(hz:z=Xw q.Zi q.Atoms p.Steps lo hi)(h0:z≠0)(hd:(AB (AQ m d q p z Ay)).Done=true) :
  0<=z/\∃e,(WK m d q p Ay (k+1) lo hi t).1[z.toNat]?=some e/\(Vg d q)[z.toNat]?=some e/\(WK m d q p Ay (k+1) lo hi t).2.1[z.toNat]?=some e:=by
 obtain⟨_,_,s3,s4⟩:=Z3y hf ha hp hb z;obtain⟨o,ho,hm,hE⟩:=s4 hd;obtain⟨a,b,c⟩:=Z3w _ lo hi 0 h s3;obtain⟨c1,c2⟩:=c o ho hE;obtain⟨m0,g,hg,_⟩:=s3 o ho;rw[hm]at c1 c2 m0 hg;rw[hg]at c1 c2;unfold WK Ba;simp only;rw[<-hz,Yb h0,Ya hd];obtain⟨_,e⟩:=Z3z hf ha hp hb k _ _ (w (t+(AB (AQ m d q p z Ay)).Cost)) a;exact⟨m0,g,(e _ g hg).1 c1,hg,(e _ g hg).2 c2⟩
end
