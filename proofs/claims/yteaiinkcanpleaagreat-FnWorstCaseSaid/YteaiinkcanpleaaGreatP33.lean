/-
  Parts of the proofs for this seat: ID.
-/
import Derived.Test.YteaiinkcanpleaaGreatP26
set_option linter.all false
set_option maxRecDepth 100000
set_option maxHeartbeats 4000000
namespace Go.Proofs.YteaiinkcanpleaaGreat
open Go.AM
abbrev B4:=Bool×Bool×Bool×Bool
structure Ed where
 a:Bool
 b:Bool
 c:Bool
 d:Bool
 e:Bool
 f:Bool
def Z2a(g:Ed)(x:B4):B4:=match x with
 |(x0,x1,x2,x3)=>(!x0 && ((x1 && g.a) || (x2 && g.b) || (x3 && g.c)),!x1 && ((x0 && g.a) || (x2 && g.d) || (x3 && g.e)),!x2 && ((x0 && g.b) || (x1 && g.d) || (x3 && g.f)),!x3 && ((x0 && g.c) || (x1 && g.e) || (x2 && g.f)))
def orB(x y:B4):B4:=match x,y with
 |(x0,x1,x2,x3),(y0,y1,y2,y3)=>(x0 || y0,x1 || y1,x2 || y2,x3 || y3)
def Wa(x y:B4):B4:=match x,y with
 |(x0,x1,x2,x3),(y0,y1,y2,y3)=>(x0 && y0,x1 && y1,x2 && y2,x3 && y3)
def Uk(x y:B4):B4:=match x,y with
 |(x0,x1,x2,x3),(y0,y1,y2,y3)=>(x0 && !y0,x1 && !y1,x2 && !y2,x3 && !y3)
def Z2b(g:Ed)(p x:B4):B4:=orB x (Wa (Z2a g x) p)
def ZqT(g:Ed)(p:B4):Nat->B4->B4
 |0,x=>x
 |n+1,x=>ZqT g p n (Z2b g p x)
def Od:B4->B4
 |(p0,p1,p2,p3)=>(p0,!p0 && p1,!p0 && !p1 && p2,!p0 && !p1 && !p2 && p3)
def VD(g:Ed)(n:Nat)(p:B4):Bool:=ZqT g p n (Od p) == p
def Z2c(g:Ed)(x y:B4):Bool:=match x,y with
 |(x0,x1,x2,x3),(y0,y1,y2,y3)=>(x0 && ((y1 && g.a) || (y2 && g.b) || (y3 && g.c))) || (x1 && ((y0 && g.a) || (y2 && g.d) || (y3 && g.e))) || (x2 && ((y0 && g.b) || (y1 && g.d) || (y3 && g.f))) || (x3 && ((y0 && g.c) || (y1 && g.e) || (y2 && g.f)))
def Bt(x:B4):Int:=match x with|(a,b,c,d)=>X1 a b c d
def Oe(n:Nat)(p:B4):Bool:=match p with|(p0,p1,p2,p3)=>(decide (1<=n) || !p0) && (decide (2<=n) || !p1) && (decide (3<=n) || !p2) && (decide (4<=n) || !p3)
def K0(p:B4):Bool:=p == (true,false,false,false) || p == (false,true,false,false) || p == (false,false,true,false) || p == (false,false,false,true)
def Tk(g:Ed)(n:Nat)(p:B4):Bool:=!Oe n p || !VD g n p || K0 p || p == (false,false,false,false) ||
 (Wa p (true,false,false,false) != (false,false,false,false) && VD g n (Uk p (true,false,false,false))) || (Wa p (false,true,false,false) != (false,false,false,false) && VD g n (Uk p (false,true,false,false))) ||
 (Wa p (false,false,true,false) != (false,false,false,false) && VD g n (Uk p (false,false,true,false))) || (Wa p (false,false,false,true) != (false,false,false,false) && VD g n (Uk p (false,false,false,true)))
def Tl(g:Ed)(n:Nat)(p x:B4):Bool:=Wa x p != x || x == (false,false,false,false) || x == p || Z2c g x (Uk p x) || !Oe n p || !VD g n p
set_option maxRecDepth 100000 in
def f1:∀a b c d e f:Bool,∀p0 p1 p2 p3:Bool,Tk ⟨a,b,c,d,e,f⟩ 1 (p0,p1,p2,p3)=true/\Tk ⟨a,b,c,d,e,f⟩ 2 (p0,p1,p2,p3)=true/\Tk ⟨a,b,c,d,e,f⟩ 3 (p0,p1,p2,p3)=true/\Tk ⟨a,b,c,d,e,f⟩ 4 (p0,p1,p2,p3)=true:=by decide +kernel
set_option maxRecDepth 100000 in
def f2:∀a b c d e f:Bool,∀p0 p1 p2 p3 x0 x1 x2 x3:Bool,Tl ⟨a,b,c,d,e,f⟩ 1 (p0,p1,p2,p3) (x0,x1,x2,x3)=true/\Tl ⟨a,b,c,d,e,f⟩ 2 (p0,p1,p2,p3) (x0,x1,x2,x3)=true/\Tl ⟨a,b,c,d,e,f⟩ 3 (p0,p1,p2,p3) (x0,x1,x2,x3)=true/\Tl ⟨a,b,c,d,e,f⟩ 4 (p0,p1,p2,p3) (x0,x1,x2,x3)=true:=by decide +kernel
def AP(m:Int):B4:=(Zy m 0,Zy m 1,Zy m 2,Zy m 3)
set_option maxRecDepth 100000 in
def pR:∀a:Fin 16,Bt (AP (a.1:Int))=(a.1:Int):=by decide
def Z2d{m:Int}(h:AU m):Bt (AP m)=m:=by obtain⟨a,rfl⟩:=m16 h;exact pR a
def ZCU:∀a b c d:Bool,AP (X1 a b c d)=(a,b,c,d)/\AU (X1 a b c d):=by decide
def pS(x:B4):AP (Bt x)=x:=(ZCU x.1 x.2.1 x.2.2.1 x.2.2.2).1
def Of(x:B4):AU (Bt x):=(ZCU x.1 x.2.1 x.2.2.1 x.2.2.2).2
theorem Z2e{x y:B4}(h:Bt x=Bt y):x=y:=by rw[<-pS x,h,pS]
set_option maxRecDepth 100000 in
def ZCV:∀a b c d e f g h:Bool,At (X1 a b c d) (X1 e f g h)=X1 (a || e) (b || f) (c || g) (d || h)/\Ah (X1 a b c d) (X1 e f g h)=X1 (a && e) (b && f) (c && g) (d && h):=by decide
theorem ZCW(x y:B4):At (Bt x) (Bt y)=Bt (orB x y):=(ZCV x.1 x.2.1 x.2.2.1 x.2.2.2 y.1 y.2.1 y.2.2.1 y.2.2.2).1
theorem ZqU(x y:B4):Ah (Bt x) (Bt y)=Bt (Wa x y):=(ZCV x.1 x.2.1 x.2.2.1 x.2.2.2 y.1 y.2.1 y.2.2.1 y.2.2.2).2
def ZP2:∀a b c d:Bool,Ah (X1 a b c d) (w (0-X1 a b c d))=Bt (Od (a,b,c,d)):=by decide
def ZP3:∀a b c d e f g h:Bool,Wa (e,f,g,h) (a,b,c,d)=(e,f,g,h)->X1 a b c d-X1 e f g h=Bt (Uk (a,b,c,d) (e,f,g,h)):=by decide
def ZCX{x y:B4}(h:Wa y x=y):Bt x-Bt y=Bt (Uk x y):=ZP3 x.1 x.2.1 x.2.2.1 x.2.2.2 y.1 y.2.1 y.2.2.1 y.2.2.2 h
def Z2f:∀i j:Fin 4,Zy (Ac 1 i.1) j.1=decide (i=j):=by decide
def Og(qa:List Zg)(h4:qa.length<=4)(m:Int)(u:Nat):pV m qa u=((Zy m 0 && pV (Ac 1 (0:Nat)) qa u) || (Zy m 1 && pV (Ac 1 (1:Nat)) qa u) || (Zy m 2 && pV (Ac 1 (2:Nat)) qa u) || (Zy m 3 && pV (Ac 1 (3:Nat)) qa u)):=by
 have s:∀i j:Nat,i<4->j<4->Zy (Ac 1 (i:Nat)) j=decide (i=j):=λi j hi hj=>by
  have:=Z2f ⟨i,hi⟩ ⟨j,hj⟩
  simp_all
 have pT:=s 0 0 Z Z;have s01:=s 0 1 Z Z;have s02:=s 0 2 Z Z;have s03:=s 0 3 Z Z;have s10:=s 1 0 Z Z;have s11:=s 1 1 Z Z;have s12:=s 1 2 Z Z;have s13:=s 1 3 Z Z;have s20:=s 2 0 Z Z;have s21:=s 2 1 Z Z;have s22:=s 2 2 Z Z;have s23:=s 2 3 Z Z;have pU:=s 3 0 Z Z;have s31:=s 3 1 Z Z;have s32:=s 3 2 Z Z;have s33:=s 3 3 Z Z;simp only[Nat.reduceEqDiff,decide_true,decide_false]at pT s01 s02 s03 s10 s11 s12 s13 s20 s21 s22 s23 pU s31 s32 s33
 match qa,h4 with
 |[],_=>simp[pV,WP]
 |[a],_=>simp only[pV,WP,pT,s10,s20,pU];cases Zy m 0<;>cases Zy m 1<;>cases Zy m 2<;>cases Zy m 3<;>simp
 |[a,b],_=>simp only[pV,WP,pT,s10,s20,pU,s01,s11,s21,s31,Yw];cases Zy m 0<;>cases Zy m 1<;>cases Zy m 2<;>cases Zy m 3<;>simp
 |[a,b,c],_=>simp only[pV,WP,pT,s10,s20,pU,s01,s11,s21,s31,s02,s12,s22,s32,Yw,Nat.reduceAdd];cases Zy m 0<;>cases Zy m 1<;>cases Zy m 2<;>cases Zy m 3<;>simp[Bool.or_assoc]
 |[a,b,c,d],_=>simp only[pV,WP,pT,s10,s20,pU,s01,s11,s21,s31,s02,s12,s22,s32,s03,s13,s23,s33,Yw,Nat.reduceAdd];cases Zy m 0<;>cases Zy m 1<;>cases Zy m 2<;>cases Zy m 3<;>simp[Bool.or_assoc]
 |_::_::_::_::_::_,h=>simp at h
def adj(qa:List Zg)(i j:Nat):Bool:=shr qa (Ac 1 i) (Ac 1 j)
def K1(qa:List Zg)(i j:Nat):adj qa i j=adj qa j i:=by
 unfold adj shr
 grind
def ats(m:Int)(f:Nat->Bool):Bool:=(Zy m 0 && f 0) || (Zy m 1 && f 1) || (Zy m 2 && f 2) || (Zy m 3 && f 3)
def Io{m:Int}{f:Nat->Bool}:ats m f=true↔∃i,i<4/\Zy m i=true/\f i=true:=by
 unfold ats
 grind
def ZCY(qa:List Zg)(h4:qa.length<=4)(x y:Int):shr qa x y=ats x λi=>ats y λj=>adj qa i j:=by
 have pv:∀m u,pV m qa u=ats m λi=>pV (Ac 1 (i:Nat)) qa u:=λm u=>Og qa h4 m u
 rw[EM,Io];unfold shr;rw[List.any_eq_true];constructor
 .rintro⟨u,hu,h⟩;rw[Yg,pv x u,pv y u,Io,Io]at h;obtain⟨⟨i,i1,i2,i3⟩,⟨j,j1,j2,j3⟩⟩:=h;refine⟨i,i1,i2,Io.2 ⟨j,j1,j2,?_⟩⟩;unfold adj shr
  grind
 .rintro⟨i,i1,i2,h⟩;obtain⟨j,j1,j2,h⟩:=Io.1 h;unfold adj shr at h;rw[List.any_eq_true]at h;obtain⟨u,hu,h⟩:=h;rw[Yg]at h;refine⟨u,hu,?_⟩;rw[Yg,pv x u,pv y u,Io,Io]
  grind
def K2(qa:List Zg):Ed:=⟨adj qa 0 1,adj qa 0 2,adj qa 0 3,adj qa 1 2,adj qa 1 3,adj qa 2 3⟩
theorem Oh{qa:List Zg}(h4:qa.length<=4){i:Nat}(hi:i<4)(hl:qa.length<=i)(j:Nat):adj qa i j=false:=by
 have:∀u,pV (Ac 1 (i:Nat)) qa u=false:=by
  intro u;unfold pV;have key:∀(as':List Zg) (k:Nat),k+as'.length<=i->WP (Ac 1 (i:Nat)) as' k u=false:=by
   intro as'
   induction as' with
   |nil=>intro k _;rfl
   |cons a as' ih =>
    intro k hk;simp only[Yx]at hk;have:=Z2f ⟨i,hi⟩ ⟨k,Z⟩;simp only[Fin.mk.injEq]at this;rw[WP,ih (k+1) Z,this,decide_eq_false Z];rfl
  simp_all
 unfold adj shr
 simp_all
def Oi(i:Nat)(hi:i<4)(f:Nat->Bool):ats (Ac 1 (i:Nat)) f=f i:=by
 have s:∀j:Nat,j<4->Zy (Ac 1 (i:Nat)) j=decide (i=j):=λj hj=>by
  have:=Z2f ⟨i,hi⟩ ⟨j,hj⟩
  simp_all
 rw[EM,Io]
 grind
def ZP4{n:Int}{qa:List Zg}(hv:Zx n qa=true)(x:B4):KT qa (Bt x)=Bt (Z2a (K2 qa) x):=by
 have h4:=(W1 hv).2;obtain⟨x0,x1,x2,x3⟩:=x;have hin:=pS (x0,x1,x2,x3);simp only[AP,Ds]at hin;obtain⟨i0,i1,i2,i3⟩:=hin;have key:∀i,i<4->VO qa (Bt (x0,x1,x2,x3)) i=(!Zy (Bt (x0,x1,x2,x3)) i && ((x0 && adj qa i 0) || (x1 && adj qa i 1) || (x2 && adj qa i 2) || (x3 && adj qa i 3))):=by
  intro i hi;unfold VO;rw[ZCY qa h4,Oi i hi];unfold ats
  grind [Oh]
 unfold KT Xs;rw[key 0 Z,key 1 Z,key 2 Z,key 3 Z,i0,i1,i2,i3];unfold Z2a K2 Bt;rw[K1 qa 1 0,K1 qa 2 0,K1 qa 3 0,K1 qa 2 1,K1 qa 3 1,K1 qa 3 2];cases x0<;>cases x1<;>cases x2<;>cases x3<;>simp
def ZP5{n:Int}{qa:List Zg}(hv:Zx n qa=true)(p x:B4):Ks qa (Bt p) (Bt x)=Bt (Z2b (K2 qa) p x):=by
 unfold Ks Z2b;rw[ZP4 hv,ZqU,ZCW]
def ZCZ{n:Int}{qa:List Zg}(hv:Zx n qa=true)(p:B4):∀(k:Nat) (x:B4),Gl qa (Bt p) k (Bt x)=Bt (ZqT (K2 qa) p k x)
 |0,x=>rfl
 |k+1,x=>by rw[Gl,ZqT,ZP5 hv,ZCZ hv p k]
theorem ZqV{n:Int}{qa:List Zg}(hv:Zx n qa=true)(p:B4):XY qa (Bt p)=VD (K2 qa) qa.length p:=by
 unfold XY VD;rw[show Ah (Bt p) (w (0-Bt p))=Bt (Od p)from ZP2 p.1 p.2.1 p.2.2.1 p.2.2.2,ZCZ hv,EM,decide_eq_true_eq,beq_iff_eq]
 grind [Z2e]
def ZP6{qa:List Zg}(h4:qa.length<=4)(x y:B4)(hd:Wa x y=(false,false,false,false)):shr qa (Bt x) (Bt y)=Z2c (K2 qa) x y:=by
 obtain⟨x0,x1,x2,x3⟩:=x;obtain⟨y0,y1,y2,y3⟩:=y;have hx:=pS (x0,x1,x2,x3);have hy:=pS (y0,y1,y2,y3);simp only[AP,Prod.mk.injEq]at hx hy;obtain⟨i0,i1,i2,i3⟩:=hx;obtain⟨j0,j1,j2,j3⟩:=hy;simp only[Wa,Prod.mk.injEq]at hd;rw[ZCY qa h4];unfold ats;rw[i0,i1,i2,i3,j0,j1,j2,j3];unfold Z2c K2;dsimp only;rw[K1 qa 1 0,K1 qa 2 0,K1 qa 3 0,K1 qa 2 1,K1 qa 3 1,K1 qa 3 2];obtain⟨h0,h1,h2,h3⟩:=hd;cases x0<;>cases y0<;>simp at h0<;>cases x1<;>cases y1<;>simp at h1<;>cases x2<;>cases y2<;>simp at h2<;>cases x3<;>cases y3<;>simp at h3<;>simp
