/-
  Parts of the proofs for this seat: ID IE XR DB EV EW EY XS STL STM.
-/
import Derived.Sort.LotA
import Derived.Test.YtgbipcfdgfjplaaGreatP20
import Derived.Test.YtgbipcfdgfjplaaGreatP22
import Derived.Test.YtgbipcfdgfjplaaGreatP23
set_option linter.unusedSectionVars false
set_option linter.unusedSimpArgs false
set_option linter.unusedVariables false
set_option maxRecDepth 100000
set_option maxHeartbeats 4000000
namespace Go.Proofs.YtgbipcfdgfjplaaGreat
open Go.AM
abbrev B4:=Bool×Bool×Bool×Bool
structure Ed where
 a:Bool
 b:Bool
 c:Bool
 d:Bool
 e:Bool
 f:Bool
def ZpS(g:Ed)(x:B4):B4:=match x with
 |(x0,x1,x2,x3)=>(!x0 && ((x1 && g.a) || (x2 && g.b) || (x3 && g.c)),!x1 && ((x0 && g.a) || (x2 && g.d) || (x3 && g.e)),!x2 && ((x0 && g.b) || (x1 && g.d) || (x3 && g.f)),!x3 && ((x0 && g.c) || (x1 && g.e) || (x2 && g.f)))
def orB(x y:B4):B4:=match x,y with
 |(x0,x1,x2,x3),(y0,y1,y2,y3)=>(x0 || y0,x1 || y1,x2 || y2,x3 || y3)
def Vx(x y:B4):B4:=match x,y with
 |(x0,x1,x2,x3),(y0,y1,y2,y3)=>(x0 && y0,x1 && y1,x2 && y2,x3 && y3)
def Vd(x y:B4):B4:=match x,y with
 |(x0,x1,x2,x3),(y0,y1,y2,y3)=>(x0 && !y0,x1 && !y1,x2 && !y2,x3 && !y3)
def ZpT(g:Ed)(p x:B4):B4:=orB x (Vx (ZpS g x) p)
def Zjs(g:Ed)(p:B4):Nat->B4->B4
 |0,x=>x
 |n+1,x=>Zjs g p n (ZpT g p x)
def lowB:B4->B4
 |(p0,p1,p2,p3)=>(p0,!p0 && p1,!p0 && !p1 && p2,!p0 && !p1 && !p2 && p3)
def Jj(g:Ed)(n:Nat)(p:B4):Bool:=Zjs g p n (lowB p) == p
def ZpU(g:Ed)(x y:B4):Bool:=match x,y with
 |(x0,x1,x2,x3),(y0,y1,y2,y3)=>(x0 && ((y1 && g.a) || (y2 && g.b) || (y3 && g.c))) || (x1 && ((y0 && g.a) || (y2 && g.d) || (y3 && g.e))) || (x2 && ((y0 && g.b) || (y1 && g.d) || (y3 && g.f))) || (x3 && ((y0 && g.c) || (y1 && g.e) || (y2 && g.f)))
def toI(x:B4):Int:=match x with|(a,b,c,d)=>ZQ a b c d
def inN(n:Nat)(p:B4):Bool:=match p with|(p0,p1,p2,p3)=>(decide (1<=n) || !p0) && (decide (2<=n) || !p1) && (decide (3<=n) || !p2) && (decide (4<=n) || !p3)
def oneB(p:B4):Bool:=p == (true,false,false,false) || p == (false,true,false,false) || p == (false,false,true,false) || p == (false,false,false,true)
def Zjt(g:Ed)(n:Nat)(p:B4):Bool:=!inN n p || !Jj g n p || oneB p || p == (false,false,false,false) ||
 (Vx p (true,false,false,false) != (false,false,false,false) && Jj g n (Vd p (true,false,false,false))) || (Vx p (false,true,false,false) != (false,false,false,false) && Jj g n (Vd p (false,true,false,false))) ||
 (Vx p (false,false,true,false) != (false,false,false,false) && Jj g n (Vd p (false,false,true,false))) || (Vx p (false,false,false,true) != (false,false,false,false) && Jj g n (Vd p (false,false,false,true)))
def Zdw(g:Ed)(n:Nat)(p x:B4):Bool:=Vx x p != x || x == (false,false,false,false) || x == p || ZpU g x (Vd p x) || !inN n p || !Jj g n p
set_option maxRecDepth 100000 in
theorem f1:∀a b c d e f:Bool,∀p0 p1 p2 p3:Bool,Zjt ⟨a,b,c,d,e,f⟩ 1 (p0,p1,p2,p3)=true/\Zjt ⟨a,b,c,d,e,f⟩ 2 (p0,p1,p2,p3)=true/\Zjt ⟨a,b,c,d,e,f⟩ 3 (p0,p1,p2,p3)=true/\Zjt ⟨a,b,c,d,e,f⟩ 4 (p0,p1,p2,p3)=true:=by decide +kernel
set_option maxRecDepth 100000 in
theorem f2:∀a b c d e f:Bool,∀p0 p1 p2 p3 x0 x1 x2 x3:Bool,Zdw ⟨a,b,c,d,e,f⟩ 1 (p0,p1,p2,p3) (x0,x1,x2,x3)=true/\Zdw ⟨a,b,c,d,e,f⟩ 2 (p0,p1,p2,p3) (x0,x1,x2,x3)=true/\Zdw ⟨a,b,c,d,e,f⟩ 3 (p0,p1,p2,p3) (x0,x1,x2,x3)=true/\Zdw ⟨a,b,c,d,e,f⟩ 4 (p0,p1,p2,p3) (x0,x1,x2,x3)=true:=by decide +kernel
def ofI(m:Int):B4:=(Zx m 0,Zx m 1,Zx m 2,Zx m 3)
set_option maxRecDepth 100000 in
theorem to_of:∀a:Fin 16,toI (ofI (a.1:Int))=(a.1:Int):=by decide
theorem ZzD{m:Int}(h:M16 m):toI (ofI m)=m:=by obtain⟨a,rfl⟩:=m16 h;exact to_of a
theorem of_to:∀a b c d:Bool,ofI (ZQ a b c d)=(a,b,c,d)/\M16 (ZQ a b c d):=by decide
theorem Zgo(x:B4):ofI (toI x)=x:=(of_to x.1 x.2.1 x.2.2.1 x.2.2.2).1
theorem ZzE{x y:B4}(h:toI x=toI y):x=y:=by rw[<-Zgo x,h,Zgo]
set_option maxRecDepth 100000 in
theorem ZzF:∀a b c d e f g h:Bool,orI (ZQ a b c d) (ZQ e f g h)=ZQ (a || e) (b || f) (c || g) (d || h)/\andI (ZQ a b c d) (ZQ e f g h)=ZQ (a && e) (b && f) (c && g) (d && h):=by decide
theorem ZzG(x y:B4):orI (toI x) (toI y)=toI (orB x y):=(ZzF x.1 x.2.1 x.2.2.1 x.2.2.2 y.1 y.2.1 y.2.2.1 y.2.2.2).1
theorem ZpV(x y:B4):andI (toI x) (toI y)=toI (Vx x y):=(ZzF x.1 x.2.1 x.2.2.1 x.2.2.2 y.1 y.2.1 y.2.2.1 y.2.2.2).2
theorem ZAh:∀a b c d:Bool,andI (ZQ a b c d) (w (0-ZQ a b c d))=toI (lowB (a,b,c,d)):=by decide
theorem ZAi:∀a b c d e f g h:Bool,Vx (e,f,g,h) (a,b,c,d)=(e,f,g,h)->ZQ a b c d-ZQ e f g h=toI (Vd (a,b,c,d) (e,f,g,h)):=by decide
theorem ZAj{x y:B4}(h:Vx y x=y):toI x-toI y=toI (Vd x y):=ZAi x.1 x.2.1 x.2.2.1 x.2.2.2 y.1 y.2.1 y.2.2.1 y.2.2.2 h
theorem ZpW:∀i j:Fin 4,Zx (shlI 1 i.1) j.1=decide (i=j):=by decide
theorem pV_any(qa:List Zc)(h4:qa.length<=4)(m:Int)(u:Nat):pV m qa u=((Zx m 0 && pV (shlI 1 (0:Nat)) qa u) || (Zx m 1 && pV (shlI 1 (1:Nat)) qa u) || (Zx m 2 && pV (shlI 1 (2:Nat)) qa u) || (Zx m 3 && pV (shlI 1 (3:Nat)) qa u)):=by
 have s:∀i j:Nat,i<4->j<4->Zx (shlI 1 (i:Nat)) j=decide (i=j):=λi j hi hj=>by
  have:=ZpW ⟨i,hi⟩ ⟨j,hj⟩;simpa[Fin.ext_iff]using this
 have s00:=s 0 0 (by omega) (by omega);have s01:=s 0 1 (by omega) (by omega);have s02:=s 0 2 (by omega) (by omega);have s03:=s 0 3 (by omega) (by omega);have s10:=s 1 0 (by omega) (by omega);have s11:=s 1 1 (by omega) (by omega);have s12:=s 1 2 (by omega) (by omega);have s13:=s 1 3 (by omega) (by omega);have s20:=s 2 0 (by omega) (by omega);have s21:=s 2 1 (by omega) (by omega);have s22:=s 2 2 (by omega) (by omega);have s23:=s 2 3 (by omega) (by omega);have s30:=s 3 0 (by omega) (by omega);have s31:=s 3 1 (by omega) (by omega);have s32:=s 3 2 (by omega) (by omega);have s33:=s 3 3 (by omega) (by omega);simp only[Nat.reduceEqDiff,decide_true,decide_false]at s00 s01 s02 s03 s10 s11 s12 s13 s20 s21 s22 s23 s30 s31 s32 s33
 match qa,h4 with
 |[],_=>simp[pV,ZT]
 |[a],_=>simp only[pV,ZT,s00,s10,s20,s30];cases Zx m 0<;>cases Zx m 1<;>cases Zx m 2<;>cases Zx m 3<;>simp
 |[a,b],_=>simp only[pV,ZT,s00,s10,s20,s30,s01,s11,s21,s31,Yq];cases Zx m 0<;>cases Zx m 1<;>cases Zx m 2<;>cases Zx m 3<;>simp
 |[a,b,c],_=>simp only[pV,ZT,s00,s10,s20,s30,s01,s11,s21,s31,s02,s12,s22,s32,Yq,Nat.reduceAdd];cases Zx m 0<;>cases Zx m 1<;>cases Zx m 2<;>cases Zx m 3<;>simp[Bool.or_assoc]
 |[a,b,c,d],_=>simp only[pV,ZT,s00,s10,s20,s30,s01,s11,s21,s31,s02,s12,s22,s32,s03,s13,s23,s33,Yq,Nat.reduceAdd];cases Zx m 0<;>cases Zx m 1<;>cases Zx m 2<;>cases Zx m 3<;>simp[Bool.or_assoc]
 |_::_::_::_::_::_,h=>simp at h
def adj(qa:List Zc)(i j:Nat):Bool:=shr qa (shlI 1 i) (shlI 1 j)
theorem U2(qa:List Zc)(i j:Nat):adj qa i j=adj qa j i:=by
 unfold adj shr;simp only[Bool.and_comm]
def ats(m:Int)(f:Nat->Bool):Bool:=(Zx m 0 && f 0) || (Zx m 1 && f 1) || (Zx m 2 && f 2) || (Zx m 3 && f 3)
theorem Jk{m:Int}{f:Nat->Bool}:ats m f=true↔∃i,i<4/\Zx m i=true/\f i=true:=by
 unfold ats;constructor
 .intro h;simp only[Yb6,Ye]at h;rcases h with((h|h)|h)|h
  .exact⟨0,by omega,h⟩
  .exact⟨1,by omega,h⟩
  .exact⟨2,by omega,h⟩
  .exact⟨3,by omega,h⟩
 .rintro⟨i,hi,h1,h2⟩;simp only[Yb6,Ye]
  match i,hi with
  |0,_=>exact .inl (.inl (.inl ⟨h1,h2⟩))
  |1,_=>exact .inl (.inl (.inr ⟨h1,h2⟩))
  |2,_=>exact .inl (.inr ⟨h1,h2⟩)
  |3,_=>exact .inr ⟨h1,h2⟩
theorem ZzH(qa:List Zc)(h4:qa.length<=4)(x y:Int):shr qa x y=ats x λi=>ats y λj=>adj qa i j:=by
 have pv:∀m u,pV m qa u=ats m λi=>pV (shlI 1 (i:Nat)) qa u:=λm u=>pV_any qa h4 m u
 rw[Yby,Jk];unfold shr;rw[List.any_eq_true];constructor
 .rintro⟨u,hu,h⟩;rw[Ye,pv x u,pv y u,Jk,Jk]at h;obtain⟨⟨i,i1,i2,i3⟩,⟨j,j1,j2,j3⟩⟩:=h;refine⟨i,i1,i2,Jk.2 ⟨j,j1,j2,?_⟩⟩;unfold adj shr;rw[List.any_eq_true];exact⟨u,hu,by rw[Ye];exact⟨i3,j3⟩⟩
 .rintro⟨i,i1,i2,h⟩;obtain⟨j,j1,j2,h⟩:=Jk.1 h;unfold adj shr at h;rw[List.any_eq_true]at h;obtain⟨u,hu,h⟩:=h;rw[Ye]at h;refine⟨u,hu,?_⟩;rw[Ye,pv x u,pv y u,Jk,Jk];exact⟨⟨i,i1,i2,h.1⟩,⟨j,j1,j2,h.2⟩⟩
def Jl(qa:List Zc):Ed:=⟨adj qa 0 1,adj qa 0 2,adj qa 0 3,adj qa 1 2,adj qa 1 3,adj qa 2 3⟩
theorem Zju{qa:List Zc}(h4:qa.length<=4){i:Nat}(hi:i<4)(hl:qa.length<=i)(j:Nat):adj qa i j=false:=by
 have:∀u,pV (shlI 1 (i:Nat)) qa u=false:=by
  intro u;unfold pV;have key:∀(as':List Zc) (k:Nat),k+as'.length<=i->ZT (shlI 1 (i:Nat)) as' k u=false:=by
   intro as'
   induction as' with
   |nil=>intro k _;rfl
   |cons a as' ih =>
    intro k hk;simp only[Ys]at hk;have:=ZpW ⟨i,hi⟩ ⟨k,by omega⟩;simp only[Fin.mk.injEq]at this;rw[ZT,ih (k+1) (by omega),this,decide_eq_false (by omega)];rfl
  exact key qa 0 (by omega)
 unfold adj shr;rw[Ydp];intro u _;simp[this u]
theorem shl_in(i:Nat)(hi:i<4)(f:Nat->Bool):ats (shlI 1 (i:Nat)) f=f i:=by
 have s:∀j:Nat,j<4->Zx (shlI 1 (i:Nat)) j=decide (i=j):=λj hj=>by
  have:=ZpW ⟨i,hi⟩ ⟨j,hj⟩;simpa[Fin.ext_iff]using this
 rw[Yby,Jk];constructor
 .rintro⟨j,j1,j2,j3⟩;rw[s j j1]at j2
  have:i=j:=of_decide_eq_true j2
  rw[this];exact j3
 .intro h;exact⟨i,hi,by rw[s i hi];simp,h⟩
theorem ZAk{n:Int}{qa:List Zc}(hv:Zu n qa=true)(x:B4):Zdq qa (toI x)=toI (ZpS (Jl qa) x):=by
 have h4:=(Xx hv).2;obtain⟨x0,x1,x2,x3⟩:=x;have hin:=Zgo (x0,x1,x2,x3);simp only[ofI,Ybr]at hin;obtain⟨i0,i1,i2,i3⟩:=hin;have key:∀i,i<4->Vw qa (toI (x0,x1,x2,x3)) i=(!Zx (toI (x0,x1,x2,x3)) i && ((x0 && adj qa i 0) || (x1 && adj qa i 1) || (x2 && adj qa i 2) || (x3 && adj qa i 3))):=by
  intro i hi;unfold Vw;rw[ZzH qa h4,shl_in i hi];unfold ats;rw[i0,i1,i2,i3];by_cases hl:i<qa.length
  .simp[hl]
  .have a0:=Zju h4 hi (by omega) 0;have a1:=Zju h4 hi (by omega) 1;have a2:=Zju h4 hi (by omega) 2;have a3:=Zju h4 hi (by omega) 3;simp[hl,a0,a1,a2,a3]
 unfold Zdq ZH;rw[key 0 (by omega),key 1 (by omega),key 2 (by omega),key 3 (by omega),i0,i1,i2,i3];unfold ZpS Jl toI;rw[U2 qa 1 0,U2 qa 2 0,U2 qa 3 0,U2 qa 2 1,U2 qa 3 1,U2 qa 3 2];cases x0<;>cases x1<;>cases x2<;>cases x3<;>simp
theorem ZAl{n:Int}{qa:List Zc}(hv:Zu n qa=true)(p x:B4):Jg qa (toI p) (toI x)=toI (ZpT (Jl qa) p x):=by
 unfold Jg ZpT;rw[ZAk hv,ZpV,ZzG]
theorem ZzI{n:Int}{qa:List Zc}(hv:Zu n qa=true)(p:B4):∀(k:Nat) (x:B4),Zdr qa (toI p) k (toI x)=toI (Zjs (Jl qa) p k x)
 |0,x=>rfl
 |k+1,x=>by rw[Zdr,Zjs,ZAl hv,ZzI hv p k]
theorem ZAm{n:Int}{qa:List Zc}(hv:Zu n qa=true)(p:B4):UX qa (toI p)=Jj (Jl qa) qa.length p:=by
 unfold UX Jj;rw[show andI (toI p) (w (0-toI p))=toI (lowB p)from ZAh p.1 p.2.1 p.2.2.1 p.2.2.2,ZzI hv,Yby,decide_eq_true_eq,beq_iff_eq];exact⟨ZzE,λh=>by rw[h]⟩
theorem ZAn{qa:List Zc}(h4:qa.length<=4)(x y:B4)(hd:Vx x y=(false,false,false,false)):shr qa (toI x) (toI y)=ZpU (Jl qa) x y:=by
 obtain⟨x0,x1,x2,x3⟩:=x;obtain⟨y0,y1,y2,y3⟩:=y;have hx:=Zgo (x0,x1,x2,x3);have hy:=Zgo (y0,y1,y2,y3);simp only[ofI,Prod.mk.injEq]at hx hy;obtain⟨i0,i1,i2,i3⟩:=hx;obtain⟨j0,j1,j2,j3⟩:=hy;simp only[Vx,Prod.mk.injEq]at hd;rw[ZzH qa h4];unfold ats;rw[i0,i1,i2,i3,j0,j1,j2,j3];unfold ZpU Jl;dsimp only;rw[U2 qa 1 0,U2 qa 2 0,U2 qa 3 0,U2 qa 2 1,U2 qa 3 1,U2 qa 3 2];obtain⟨h0,h1,h2,h3⟩:=hd;cases x0<;>cases y0<;>simp at h0<;>cases x1<;>cases y1<;>simp at h1<;>cases x2<;>cases y2<;>simp at h2<;>cases x3<;>cases y3<;>simp at h3<;>simp
theorem ZzJ{qa:List Zc}{M A:Int}(h:A∈U0 qa M):1<=A/\A<M/\andI A M=A/\UX qa A=true/\UX qa (M-A)=true:=by
 unfold U0 Kg at h;rw[Y2]at h;obtain⟨k,hk,rfl⟩:=h;rw[Y0,List.mem_range'_1]at hk;obtain⟨⟨h1,h2⟩,h3⟩:=hk;simp only[Q0,Ye,decide_eq_true_eq]at h3;exact⟨by omega,by omega,h3⟩
theorem ZAo{qa:List Zc}{M:Int}(h:M16 M):(U0 qa M).length<=16:=by
 unfold U0 Kg;rw[Y6];refine Yu (Ybz _ _) ?_;rw[List.length_range'];omega
set_option maxRecDepth 100000 in
theorem ZAp:∀a b c d e f g h:Bool,Vx (e,f,g,h) (a,b,c,d)=(e,f,g,h)->XK (toI (e,f,g,h))+XK (toI (Vd (a,b,c,d) (e,f,g,h)))=XK (toI (a,b,c,d))/\orB (e,f,g,h) (Vd (a,b,c,d) (e,f,g,h))=(a,b,c,d)/\Vx (e,f,g,h) (Vd (a,b,c,d) (e,f,g,h))=(false,false,false,false):=by decide
theorem inN_of{n:Int}{qa:List Zc}(hv:Zu n qa=true){M:Int}(h:MQ qa M):inN qa.length (ofI M)=true:=by
 have h4:=Xx hv;have h16:=(h.m16 hv).1;obtain⟨a,rfl⟩:=m16 h16;have key:∀a:Fin 16,(a.1<2->inN 1 (ofI (a.1:Int))=true)/\(a.1<4->inN 2 (ofI (a.1:Int))=true)/\(a.1<8->inN 3 (ofI (a.1:Int))=true)/\inN 4 (ofI (a.1:Int))=true:=by decide
 have hk:=key a;have hl:qa.length=1\/qa.length=2\/qa.length=3\/qa.length=4:=by omega
 have h2:=h.2;rcases hl with e|e|e|e
 .rw[e]at h2|-;exact hk.1 (by omega)
 .rw[e]at h2|-;exact hk.2.1 (by omega)
 .rw[e]at h2|-;exact hk.2.2.1 (by omega)
 .rw[e]at h2|-;exact hk.2.2.2
theorem okf2(g:Ed){n:Nat}(hn:1<=n/\n<=4)(p x:B4):Zdw g n p x=true:=by
 have:=f2 g.a g.b g.c g.d g.e g.f p.1 p.2.1 p.2.2.1 p.2.2.2 x.1 x.2.1 x.2.2.1 x.2.2.2;have hl:n=1\/n=2\/n=3\/n=4:=by omega
 rcases hl with rfl|rfl|rfl|rfl
 .exact this.1
 .exact this.2.1
 .exact this.2.2.1
 .exact this.2.2.2
structure Pair (qa:List Zc) (A B M:Int):Prop where
 a16:M16 A
 b16:M16 B
 or:orI A B=M
 dis:andI A B=0
 shr:shr qa A B=true
 pop:XK A+XK B=XK M
theorem ZAq{n:Int}{qa:List Zc}(hv:Zu n qa=true){M A:Int}(hM:MQ qa M)(hc:UX qa M=true)(h:A∈U0 qa M):Pair qa A (M-A) M:=by
 obtain⟨h1,h2,h3,_,_⟩:=ZzJ h;have h16:=(hM.m16 hv).1;have a16:M16 A:=by omega
 have b16:M16 (M-A):=by omega
 have eM:=ZzD h16;have eA:=ZzD a16;have hsub:Vx (ofI A) (ofI M)=ofI A:=by
  apply ZzE;rw[<-ZpV,eM,eA];exact h3
 have eB:=ZAj hsub;rw[eM,eA]at eB;have hp:=ZAp (ofI M).1 (ofI M).2.1 (ofI M).2.2.1 (ofI M).2.2.2 (ofI A).1 (ofI A).2.1 (ofI A).2.2.1 (ofI A).2.2.2 hsub;have hp1:XK (toI (ofI A))+XK (toI (Vd (ofI M) (ofI A)))=XK (toI (ofI M)):=hp.1;have hp2:orB (ofI A) (Vd (ofI M) (ofI A))=ofI M:=hp.2.1;have hp3:Vx (ofI A) (Vd (ofI M) (ofI A))=(false,false,false,false):=hp.2.2;refine⟨a16,b16,?_,?_,?_,?_⟩
 .rw[eB];have:=ZzG (ofI A) (Vd (ofI M) (ofI A));rw[hp2,eM,eA]at this;exact this
 .rw[eB];have:=ZpV (ofI A) (Vd (ofI M) (ofI A));rw[hp3,eA]at this;exact this
 .rw[eB];have:=ZAn (Xx hv).2 (ofI A) (Vd (ofI M) (ofI A)) hp3;rw[eA]at this;rw[this];have h5:=okf2 (Jl qa) (Xx hv) (ofI M) (ofI A);have hcb:=ZAm hv (ofI M);rw[eM,hc]at hcb;have hin:=inN_of hv hM;have n0:ofI A≠(false,false,false,false):=λhe=>by
   rw[he]at eA
   have:toI (false,false,false,false)=0:=rfl
   omega
  have nM:ofI A≠ofI M:=λhe=>by rw[he,eM]at eA;omega
  unfold Zdw at h5;rw[hsub,<-hcb,hin]at h5;simpa[n0,nM]using h5
 .rw[eB];rw[eM,eA]at hp1;exact hp1
theorem ZpX{c:Zf}(g:GC c):∃c' a1 a2 a3 a4 a5,∃l:List Zp,ZbA c=some (.agg [I a1,I a2,I a3,I a4,I a5,.own 1],[cB c',.arr 179 2 true (l.map Zp.c)])/\GC c'/\l.length<=2:=by
 obtain⟨c1,a1,a2,a3,a4,a5,l,e1,g1,hl⟩:=Zdu g;obtain⟨c2,k,e2,g2,_⟩:=ZZ g1 10;by_cases h0:k=0
 .obtain⟨c3,v,e3,g3,_⟩:=Uc g2 [(-1),99,100,(-100)] (by simp) (by simp);exact⟨c3,a1,v,a3,a4,a5,l,ZiY _ _ ⟨c1,l,a1,a2,a3,a4,a5,e1,c2,k,e2,by rw[Ya h0];exact⟨c3,_,v,e3,rfl⟩⟩,g3,by omega⟩
 by_cases h1:k=1
 .obtain⟨c3,v,e3,g3,_⟩:=Uc g2 [0,1,64,8192,8193] (by simp) (by simp);obtain⟨c4,u,e4,g4,_⟩:=Uc g3 [(-3),(-99),4,100] (by simp) (by simp);exact⟨c4,a1,a2,a3,a4,a5,l++[⟨v,u⟩],ZiY _ _ ⟨c1,l,a1,a2,a3,a4,a5,e1,c2,k,e2,by rw[Yb h0,Ya h1];exact⟨c3,_,v,e3,c4,_,u,e4,by omega,rfl⟩⟩,g4,by simp;omega⟩
 by_cases h2:k=2
 .obtain⟨c3,v,e3,g3,_⟩:=Uc g2 [0,(-5),99,9223372036854775807] (by simp) (by simp);exact⟨c3,v,a2,a3,a4,a5,l,ZiY _ _ ⟨c1,l,a1,a2,a3,a4,a5,e1,c2,k,e2,by rw[Yb h0,Yb h1,Ya h2];exact⟨c3,_,v,e3,rfl⟩⟩,g3,by omega⟩
 .exact⟨c2,a1,a2,a3,a4,a5,l,ZiY _ _ ⟨c1,l,a1,a2,a3,a4,a5,e1,c2,k,e2,by rw[Yb h0,Yb h1,Yb h2]⟩,g2,by omega⟩
theorem ZAr{c:Zf}(g:GC c):∃c',∃m:Zm,Zel c=some (.agg (m.c.map .t),[cB c'])/\GC c'/\SmM m:=by
 obtain⟨c1,m,e1,g1,h1,h2,h3,h4,h5⟩:=Zz8 g;obtain⟨c2,b,e2,g2⟩:=U1 g1 6;rcases tf b with hb|hb
 .subst hb;obtain⟨c3,b3,e3,g3⟩:=U1 g2 12;rcases tf b3 with hb|hb
  .subst hb;exact⟨c3,m,ZiZ _ _ ⟨c1,m,e1,c2,false,e2,by rw[Yb (by simp)];exact⟨c3,false,e3,by rw[Yb (by simp)]⟩⟩,g3,h1,h2,h3,h4,h5⟩
  .subst hb;obtain⟨c4,a1,a2,a3,a4,a5,l,e4,g4,hl⟩:=ZpX g3;exact⟨c4,⟨m.Scan,⟨a1,a2,a3,a4,a5,l⟩,m.Hash,m.Merge,m.Nested⟩,ZiZ _ _ ⟨c1,m,e1,c2,false,e2,by rw[Yb (by simp)];exact⟨c3,true,e3,by rw[Ya rfl];exact⟨c4,l,a1,a2,a3,a4,a5,e4,rfl⟩⟩⟩,g4,h1,by show l.length<=_;omega,h3,h4,h5⟩
 .subst hb;obtain⟨d,b1,b2,b3',b4,b5,ll,ed,gd,hll⟩:=ZpX g2;obtain⟨c3,b3,e3,g3⟩:=U1 gd 12;rcases tf b3 with hb|hb
  .subst hb;exact⟨c3,⟨m.Scan,m.Sort_,⟨b1,b2,b3',b4,b5,ll⟩,m.Merge,m.Nested⟩,ZiZ _ _ ⟨c1,m,e1,c2,true,e2,by rw[Ya rfl];exact⟨d,ll,b1,b2,b3',b4,b5,ed,c3,false,e3,by rw[Yb (by simp)];rfl⟩⟩,g3,h1,h2,by show ll.length<=_;omega,h4,h5⟩
  .subst hb;obtain⟨c4,a1,a2,a3,a4,a5,l,e4,g4,hl⟩:=ZpX g3;exact⟨c4,⟨m.Scan,⟨a1,a2,a3,a4,a5,l⟩,⟨b1,b2,b3',b4,b5,ll⟩,m.Merge,m.Nested⟩,ZiZ _ _ ⟨c1,m,e1,c2,true,e2,by rw[Ya rfl];exact⟨d,ll,b1,b2,b3',b4,b5,ed,c3,true,e3,by rw[Ya rfl];exact⟨c4,l,a1,a2,a3,a4,a5,e4,rfl⟩⟩⟩,g4,h1,by show l.length<=_;omega,by show ll.length<=_;omega,h4,h5⟩
theorem ZpY{q:Ze}(hv:Zu q.Zk q.Atoms=true):MQ q.Atoms (We q.Zk q.Atoms):=by
 have:=Zjp hv;have:=Z31 hv;exact⟨by omega,by omega⟩
theorem ZAs(q:Ze)(hq:LeQ q)(m:Int)(hc:Jh q.Zk q.Atoms m=false):JK q m=some (.own 0,[.arr ZU 1 true (([]:WA).map ic)]) :=
 Zxf _ _ _ ⟨_,Zz2 q hq _,by rw[hc,Yb (by simp)]⟩
theorem ZzK(q:Ze)(hq:LeQ q)(p:Zo):∃o,ZbU q p=some (I o,[]):=by
 have e:=Zjk q p hq
 cases h:Xr q.Zk q.Atoms p.Steps with
 |none =>
  rw[h]at e
  exact⟨-1,Zxl _ _ _ ⟨[],false,e,by rw[Yb (by simp)]⟩⟩
 |some info =>
  rw[h]at e;obtain⟨_,h1,h2,h3⟩:=JB h;have h0:info.length-1<info.length:=by omega
  refine⟨info[info.length-1].Order,Zxl _ _ _ ⟨info,true,e,?_⟩⟩;rw[Ya rfl,XL (by omega) (by omega)];refine⟨by omega,info[info.length-1],?_,rfl⟩;rw[show((info.length:Int)-1).toNat=info.length-1 by omega];simp[h0]
def GP(n:Nat)(R:Rs):Prop:=∃(c:Zf) (p:List Zj),R=some (.agg [.own 1],[cB c,.arr Z35 3 true (p.map Zj.c)])/\GC c/\1<=p.length/\p.length<=n
theorem ZAt{q:Ze}(hv:Zu q.Zk q.Atoms=true){a b:Int}(h:shr q.Atoms a b=true):Zdt q a b≠[]:=by
 intro hc;have h1:(Zdt q a b).length=0:=by rw[hc];rfl
 have:=(ZsF hv a b).1 h1;rw[h]at this;cases this
theorem ZAu(q:Ze)(hq:LeQ q):∀m:Nat,m<=15->∀c,GC c->GP (if m=0 then 1 else 4*m-3) (JQ c q m):=by
 intro m
 induction m using Nat.strongRecOn with
 |_ m ih =>
 intro hm c g;by_cases he:Jh q.Zk q.Atoms m=true/\U0 q.Atoms m≠[]
 .obtain⟨hc,hne⟩:=he;have hc0:=hc;unfold Jh at hc0;simp only[Ye,decide_eq_true_eq]at hc0;obtain⟨⟨⟨hv,hin⟩,h0⟩,hcn⟩:=hc0;have hin:=Zz5.1 hin;have hMQ:MQ q.Atoms m:=⟨by omega,by have:=(ZpY hv).2;omega⟩;have hl16:=ZAo (qa:=q.Atoms) (M:=(m:Int)) ⟨by omega,by omega⟩;have hp:0<(U0 q.Atoms m).length:=Yc1.2 hne;obtain⟨c1,n,e1,g1,h1,h2⟩:=ZZ g (U0 q.Atoms m).length;obtain⟨y,hy,hmem⟩:=Ji h1 (h2 (by omega));obtain⟨y1,y2,_,_,_⟩:=ZzJ hmem;have pr:=ZAq hv hMQ hcn hmem;obtain⟨a,ha⟩:∃a:Nat,y=a:=⟨y.toNat,by omega⟩;subst ha;have hw:w ((m:Int)-(a:Int))=((m-a:Nat):Int):=by rw[XL (by omega) (by omega)];omega
  obtain⟨c2,p1,e2,g2,k1,l1⟩:=ih a (by omega) (by omega) c1 g1;obtain⟨c3,p2,e3,g3,k2,l2⟩:=ih (m-a) (by omega) (by omega) c2 g2;rw[Yb (by omega)]at l1 l2;have z1:(⟨p1⟩:Zo).Steps.length<=1000:=by show p1.length<=_;omega
  have z2:(⟨p2⟩:Zo).Steps.length<=1000:=by show p2.length<=_;omega
  rw[Yb (by omega)];obtain⟨c4,k,e4,g4,k0,k3⟩:=ZZ g3 3;have hs:=Zz3 q hq m hc;by_cases k0':k=0
  .exact⟨c4,Wo p1 p2 3 0,Ja _ _ _ _ ⟨_,hs,by rw[Yb (by omega)];exact⟨c1,n,e1,h1,(a:Int),hy,c2,p1,e2,by rw[hw];exact⟨c3,p2,e3,c4,k,e4,by rw[Ya k0'];exact⟨_,Zdv ⟨p1⟩ ⟨p2⟩ 3 0 (by omega) (by omega),rfl⟩⟩⟩⟩,g4,by simp only[Wo,Xn,Ym,Ys];omega,by simp only[Wo,Xn,Ym,Ys,Ybu];omega⟩
  by_cases k1':k=1
  .exact⟨c4,Wo p1 p2 5 0,Ja _ _ _ _ ⟨_,hs,by rw[Yb (by omega)];exact⟨c1,n,e1,h1,(a:Int),hy,c2,p1,e2,by rw[hw];exact⟨c3,p2,e3,c4,k,e4,by rw[Yb k0',Ya k1'];exact⟨_,Zdv ⟨p1⟩ ⟨p2⟩ 5 0 (by omega) (by omega),rfl⟩⟩⟩⟩,g4,by simp only[Wo,Xn,Ym,Ys];omega,by simp only[Wo,Xn,Ym,Ys,Ybu];omega⟩
  have hsh:=ZAa q hq hv (a:Int) ((m-a:Nat):Int) ⟨by omega,by omega⟩ ⟨by omega,by omega⟩;have hsn:=ZAt hv (a:=(a:Int)) (b:=((m-a:Nat):Int)) (by rw[show((m-a:Nat):Int)=(m:Int)-a by omega];exact pr.shr);obtain⟨c5,n2,e5,g5,h3,h4⟩:=ZZ g4 (Zdt q (a:Int) ((m-a:Nat):Int)).length;have hp2:0<(Zdt q (a:Int) ((m-a:Nat):Int)).length:=Yc1.2 hsn;obtain⟨v,hv',_⟩:=Ji h3 (h4 (by omega));obtain⟨o1,eo1⟩:=ZzK q hq ⟨p1⟩;obtain⟨o2,eo2⟩:=ZzK q hq ⟨p2⟩;by_cases q1:o1=v
  .by_cases q2:o2=v
   .exact⟨c5,Wo p1 p2 4 v,Ja _ _ _ _ ⟨_,hs,by rw[Yb (by omega)];exact⟨c1,n,e1,h1,(a:Int),hy,c2,p1,e2,by rw[hw];exact⟨c3,p2,e3,c4,k,e4,by rw[Yb k0',Yb k1'];exact⟨_,hsh,c5,n2,e5,h3,v,hv',o1,eo1,by rw[Ya q1];exact⟨o2,eo2,by rw[Ya q2];exact⟨_,Zdv ⟨p1⟩ ⟨p2⟩ 4 v (by first|omega|(simp[Xn];omega)) (by first|omega|(simp[Xn];omega)),rfl⟩⟩⟩⟩⟩⟩,g5,by simp only[Wo,Xn,Ym,Ys];omega,by simp only[Wo,Xn,Ym,Ys,Ybu];omega⟩
   .exact⟨c5,Wo p1 (Xn p2 v) 4 v,Ja _ _ _ _ ⟨_,hs,by rw[Yb (by omega)];exact⟨c1,n,e1,h1,(a:Int),hy,c2,p1,e2,by rw[hw];exact⟨c3,p2,e3,c4,k,e4,by rw[Yb k0',Yb k1'];exact⟨_,hsh,c5,n2,e5,h3,v,hv',o1,eo1,by rw[Ya q1];exact⟨o2,eo2,by rw[Yb q2];exact⟨_,Zjr ⟨p2⟩ v (by omega),_,Zdv ⟨p1⟩ (⟨Xn p2 v⟩:Zo) 4 v (by first|omega|(simp[Xn];omega)) (by first|omega|(simp[Xn];omega)),rfl⟩⟩⟩⟩⟩⟩,g5,by simp only[Wo,Xn,Ym,Ys];omega,by simp only[Wo,Xn,Ym,Ys,Ybu];omega⟩
  .by_cases q2:o2=v
   .exact⟨c5,Wo (Xn p1 v) p2 4 v,Ja _ _ _ _ ⟨_,hs,by rw[Yb (by omega)];exact⟨c1,n,e1,h1,(a:Int),hy,c2,p1,e2,by rw[hw];exact⟨c3,p2,e3,c4,k,e4,by rw[Yb k0',Yb k1'];exact⟨_,hsh,c5,n2,e5,h3,v,hv',o1,eo1,by rw[Yb q1];exact⟨_,Zjr ⟨p1⟩ v (by omega),o2,eo2,by rw[Ya q2];exact⟨_,Zdv (⟨Xn p1 v⟩:Zo) ⟨p2⟩ 4 v (by first|omega|(simp[Xn];omega)) (by first|omega|(simp[Xn];omega)),rfl⟩⟩⟩⟩⟩⟩,g5,by simp only[Wo,Xn,Ym,Ys];omega,by simp only[Wo,Xn,Ym,Ys,Ybu];omega⟩
   .exact⟨c5,Wo (Xn p1 v) (Xn p2 v) 4 v,Ja _ _ _ _ ⟨_,hs,by rw[Yb (by omega)];exact⟨c1,n,e1,h1,(a:Int),hy,c2,p1,e2,by rw[hw];exact⟨c3,p2,e3,c4,k,e4,by rw[Yb k0',Yb k1'];exact⟨_,hsh,c5,n2,e5,h3,v,hv',o1,eo1,by rw[Yb q1];exact⟨_,Zjr ⟨p1⟩ v (by omega),o2,eo2,by rw[Yb q2];exact⟨_,Zjr ⟨p2⟩ v (by omega),_,Zdv (⟨Xn p1 v⟩:Zo) (⟨Xn p2 v⟩:Zo) 4 v (by first|omega|(simp[Xn];omega)) (by first|omega|(simp[Xn];omega)),rfl⟩⟩⟩⟩⟩⟩,g5,by simp only[Wo,Xn,Ym,Ys];omega,by simp only[Wo,Xn,Ym,Ys,Ybu];omega⟩
 .have hs0:JK q m=some (.own 0,[.arr ZU 1 true (([]:WA).map ic)]):=by
   rcases tf (Jh q.Zk q.Atoms m)with hc|hc
   .exact ZAs q hq m hc
   .have h2:U0 q.Atoms m=[]:=Classical.byContradiction λhn=>he ⟨hc,hn⟩
    rw[Zz3 q hq m hc,h2]
  have hl:1<=(if m=0 then 1 else 4*m-3):=by split<;>omega
  cases ha:ZpN m with
  |nil =>
   refine⟨c,[⟨1,0,0⟩],Ja _ _ _ _ ⟨_,hs0,?_⟩,g,by simp,hl⟩;rw[Ya (by simp)]
   exact⟨_,Zz4 ⟨by omega,by omega⟩,by rw[ha,Ya (by simp)];exact⟨_,ZzC 0,rfl⟩⟩
  |cons x l =>
   refine⟨c,[⟨1,x,0⟩],Ja _ _ _ _ ⟨_,hs0,?_⟩,g,by simp,hl⟩;rw[Ya (by simp)];exact⟨_,Zz4 ⟨by omega,by omega⟩,by rw[ha,Yb (by simp;omega)];exact⟨x,rfl,_,ZzC x,rfl⟩⟩
theorem wS{i n:Nat}(h:i<n)(hn:n<=1099511627776):w ((i:Int)+1)=((i+1:Nat):Int):=by
 rw[show w ((i:Int)+1)=(i:Int)+1 from ZD (by omega) (by omega)];simp
theorem gE{α:Type}{xs:List α}{i:Nat}(h:i<xs.length):xs[(i:Int).toNat]?=some xs[i]:=by rw[Yf];exact Yi h
abbrev dig(v:Int):Bool:=inR v 0 9
def rwB(n:Int)(r:WA):Bool:=r.all dig && decide ((r.length:Int)=n)
theorem ZAv(r:WA)(n:Int)(hl:Le r):∀i,i<=r.length->ZeS r n r r.length i=some (Bo ((r.drop i).all dig && decide ((r.length:Int)=n)),[]):=by
 refine down _ ?_ ?_
 .refine ZxC _ _ _ _ _ _ ?_;rw[Yb (by omega)];simp
 .intro i hi ih;refine ZxC _ _ _ _ _ _ ?_;rw[Ya (by omega),Yj hi,Y3,wS hi hl];refine⟨by omega,_,gE hi,_,WN _ _ _,?_⟩;rcases tf (inR r[i] 0 9)with e|e
  .rw[e];simp[dig,e]
  .rw[e,Ya rfl,ih];simp[dig,e]
@[simp] theorem ZzL(r:WA)(n:Int)(hl:Le r):Zac r n=some (Bo (rwB n r),[]):=Z72 _ _ _ (by simpa[rwB]using ZAv r n hl 0 (Yd _))
theorem ZAw(r:WA)(n:Int)(hl:Le r):∀i,i<=r.length->ZeC r n i=some (Bo ((r.drop i).all dig && decide ((r.length:Int)=n)),[]):=by
 refine down _ ?_ ?_
 .refine Zxp _ _ _ _ ?_;rw[Yb (by omega)];simp
 .intro i hi ih;refine Zxp _ _ _ _ ?_;rw[Ya (by omega),Yj hi,Y3,wS hi hl];refine⟨by omega,_,gE hi,_,XD _ _ _,?_⟩;rcases tf (inR r[i] 0 9)with e|e
  .rw[e];simp[dig,e]
  .rw[e,Ya rfl,ih];simp[dig,e]
@[simp] theorem ZzM(r:WA)(n:Int)(hl:Le r):ZbX r n=some (Bo (rwB n r),[]):=Z7f _ _ _ (by simpa[rwB]using ZAw r n hl 0 (Yd _))
theorem x_cmp(a b:Int):ZhX a b=some (I (if a<b then -1 else if b<a then 1 else 0),[]):=by
 refine Z73 _ _ _ ⟨_,ZxD _ _ rfl,_,ZxD _ _ rfl,?_⟩;rw[Yb (by simp),Yb (by simp)];by_cases h1:a<b
 .rw[Ya h1,Ya h1]
 .rw[Yb h1,Yb h1];by_cases h2:b<a
  .rw[Ya h2,Ya h2]
  .rw[Yb h2,Yb h2]
theorem ZAx(a b:WA)(ha:Le a)(hb:Le b):∀i,i<=a.length->i<=b.length->Zcj a b a a.length i=some (I (Zy (a.drop i) (b.drop i)),[]):=by
 refine down _ ?_ ?_
 .intro h;refine ZxE _ _ _ _ _ _ ?_;rw[Yb (by omega),Yp];by_cases h2:(a.length:Int)<(b.length:Int)
  .rw[Ya h2,Yj (l:=b) (i:=a.length) (by omega)];rfl
  .rw[Yb h2,show a.length=b.length by omega,Yp];rfl
 .intro i hi ih h;refine ZxE _ _ _ _ _ _ ?_;rw[Ya (by omega),Yj hi,wS hi ha];refine⟨by omega,_,gE hi,?_⟩;by_cases h2:(b.length:Int)<=(i:Int)
  .rw[Ya h2,show b.drop i=[]from Ybw (by omega)];rfl
  .have hj:i<b.length:=by omega
   rw[Yb h2,Yj hj];refine⟨_,gE hj,_,x_cmp _ _,?_⟩;unfold Zy;by_cases e1:a[i]<b[i]
   .rw[Ya e1,Ya e1];rfl
   .rw[Yb e1,Yb e1];by_cases e2:b[i]<a[i]
    .rw[Ya e2,Ya e2];rfl
    .rw[Yb e2,Yb e2,Ya rfl];exact ih (by omega)
@[simp] theorem ZAy(a b:WA)(ha:Le a)(hb:Le b):ZhY a b=some (I (Zy a b),[]) :=
 Z75 _ _ _ ⟨_,Z74 _ _ _ (by simpa using ZAx a b ha hb 0 (Yd _) (Yd _)),rfl⟩
theorem ZzN(a b:WA)(i:Nat)(ha:i<=a.length)(hb:i<=b.length)(h:i=a.length\/i=b.length):Zen a b i false=some (I (Zy (a.drop i) (b.drop i)),[]):=by
 refine Z6G _ _ _ _ _ ?_;by_cases h1:(a.length:Int)<(b.length:Int)
 .rw[Ya h1,show a.drop i=[]from Ybw (by omega),Yj (l:=b) (i:=i) (by omega)];rfl
 .rw[Yb h1];by_cases h2:(b.length:Int)<(a.length:Int)
  .rw[Ya h2,show b.drop i=[]from Ybw (by omega),Yj (l:=a) (i:=i) (by omega)];rfl
  .rw[Yb h2,show a.drop i=[]from Ybw (by omega),show b.drop i=[]from Ybw (by omega)];rfl
theorem ZAz(a b:WA)(ha:Le a)(hb:Le b):∀i,i<=a.length->i<=b.length->Zem a b i=some (I (Zy (a.drop i) (b.drop i)),[]):=by
 refine down _ ?_ ?_
 .intro h;refine ZwK _ _ _ _ ?_;rw[Yb (by omega)];exact ZzN a b _ (Yg _) h (.inl rfl)
 .intro i hi ih h;refine ZwK _ _ _ _ ?_;rw[Ya (by omega)];by_cases h2:(i:Int)<(b.length:Int)
  .have hj:i<b.length:=by omega
   rw[Ya h2];refine⟨by omega,_,gE hi,_,gE hj,?_⟩;rw[wS hi ha,Yj hi,Yj hj];unfold Zy;by_cases e1:a[i]<b[i]
   .rw[Ya e1,Ya e1]
   .rw[Yb e1,Yb e1];by_cases e2:b[i]<a[i]
    .rw[Ya e2,Ya e2]
    .rw[Yb e2,Yb e2];exact ih (by omega)
  .rw[Yb h2];exact ZzN a b _ (by omega) h (.inr (by omega))
@[simp] theorem Zgp(a b:WA)(ha:Le a)(hb:Le b):QG a b=some (I (Zy a b),[]) :=
 Z6H _ _ _ (by simpa using ZAz a b ha hb 0 (Yd _) (Yd _))
def pvA{α:Type}(xs:List α):Nat->Option α
 |0=>none
 |k+1=>xs[k]?
def nxt{α:Type}(lt:α->α->Bool)(p:Option α)(x:α):Bool:=match p with
 |none=>true
 |some q=>lt q x
def XM{α:Type}(lt:α->α->Bool):Option α->List α->Bool
 |_,[]=>true
 |p,x::xs=>nxt lt p x && XM lt (some x) xs
theorem Zjv{α:Type}(lt:α->α->Bool){xs:List α}{i:Nat}(hi:i<xs.length):XM lt (pvA xs i) (xs.drop i)=(nxt lt (pvA xs i) xs[i] && XM lt (pvA xs (i+1)) (xs.drop (i+1))):=by
 rw[Yj hi,XM,show pvA xs (i+1)=some xs[i]from Yi hi]
def ltR(a b:WA):Bool:=decide (Zy a b<0)
abbrev LeT(t:Zq):Prop:=Le t.Rows/\∀r∈t.Rows,Le r
theorem wP{i n:Nat}(h0:0<i)(h:i<n)(hn:n<=1099511627776):w ((i:Int)-1)=((i-1:Nat):Int):=by
 rw[show w ((i:Int)-1)=(i:Int)-1 from ZD (by omega) (by omega)];omega
theorem Zdx{α:Type}{xs:List α}{i:Nat}(h0:0<i)(h:i-1<xs.length):pvA xs i=some xs[i-1]:=by
 obtain⟨k,rfl⟩:∃k,i=k+1:=⟨i-1,by omega⟩;exact Yi h
theorem ZA0(rows:XS)(hl:Le rows)(hr:∀r∈rows,Le r):∀i,i<=rows.length->0<i->ZeT rows i=some (Bo (XM ltR (pvA rows i) (rows.drop i)),[]):=by
 refine down _ ?_ ?_
 .intro h0;refine Zpx _ _ _ ?_;rw[Yb (by omega)];simp[XM]
 .intro i hi ih h0;have hp:i-1<rows.length:=by omega
  have ih':=ih (by omega);refine Zpx _ _ _ ?_;rw[Ya (by omega),wP h0 hi hl,wS hi hl,Zjv _ hi,Zdx h0 hp];refine⟨by omega,_,gE hp,by omega,_,gE hi,_,ZAy _ _ (hr _ (Yh hp)) (hr _ (Yh hi)),?_⟩;unfold nxt ltR at *
  by_cases e:0<=Zy rows[i-1] rows[i]
  .rw[Ya e];simp[show ¬Zy rows[i-1] rows[i]<0 by omega]
  .rw[Yb e,ih'];simp[show Zy rows[i-1] rows[i]<0 by omega]
theorem ZA1(rows:XS)(hl:Le rows)(hr:∀r∈rows,Le r):ZhZ rows=some (Bo (XM ltR none rows),[]):=by
 refine Z76 _ _ ?_
 cases rows with
 |nil=>refine Zpx _ _ _ ?_;rw[Yb (by simp)];rfl
 |cons r rs=>exact ZA0 (r::rs) hl hr 1 (by simp) (by omega)
def WO(t:Zq):Bool:=WU t.Name && inR t.Arity 1 3 && decide ((t.Rows.length:Int)<=8) && (t.Rows.all (rwB t.Arity) && XM ltR none t.Rows)
theorem ZA2(t:Zq)(h:LeT t):∀i,i<=t.Rows.length->ZeV t t.Rows t.Rows.length i=some (Bo ((t.Rows.drop i).all (rwB t.Arity) && (WU t.Name && inR t.Arity 1 3 && decide ((t.Rows.length:Int)<=8) && XM ltR none t.Rows)),[]):=by
 refine down _ ?_ ?_
 .refine ZxF _ _ _ _ _ ?_;rw[Yb (by omega)];refine⟨_,Z9w _,?_⟩;rcases tf (WU t.Name)with e1|e1
  .rw[e1];simp
  rw[e1,Ya rfl];refine⟨_,WN _ _ _,?_⟩;rcases tf (inR t.Arity 1 3)with e2|e2
  .rw[e2];simp
  rw[e2,Ya rfl];by_cases e3:(t.Rows.length:Int)<=8
  .rw[Ya e3];exact⟨_,ZA1 t.Rows h.1 h.2,by simp[e3]⟩
  .rw[Yb e3];simp[e3]
 .intro i hi ih;refine ZxF _ _ _ _ _ ?_;rw[Ya (by omega),Yj hi,Y3,wS hi h.1];refine⟨by omega,_,gE hi,_,ZzL _ _ (h.2 _ (Yh hi)),?_⟩;rcases tf (rwB t.Arity t.Rows[i])with e|e
  .rw[e];simp
  .rw[e,Ya rfl,ih];simp
@[simp] theorem ZA3(t:Zq)(h:LeT t):ZeU t=some (Bo (WO t),[]):=by
 refine Z77 _ _ ?_;rw[show(0:Int)=((0:Nat):Int)from rfl,ZA2 t h 0 (Yd _)];unfold WO;simp only[Yo];congr 3;rw[Yby];simp only[Ye]
 grind
theorem ZA4(t:Zq)(h:LeT t):∀i,i<=t.Rows.length->ZbY t i=some (Bo ((t.Rows.drop i).all (rwB t.Arity) && XM ltR (pvA t.Rows i) (t.Rows.drop i)),[]):=by
 refine down _ ?_ ?_
 .refine Zxq _ _ _ ?_;rw[Yb (by omega)];simp[XM]
 .intro i hi ih;have hr:=h.2 _ (Yh hi);refine Zxq _ _ _ ?_;rw[Zjv _ hi,Ya (by omega),Yj hi,Y3,wS hi h.1];refine⟨by omega,_,gE hi,_,ZzM _ _ hr,?_⟩;rcases tf (rwB t.Arity t.Rows[i])with e|e
  .rw[e];simp
  rw[e,Ya rfl];by_cases h0:0<i
  .have hp:i-1<t.Rows.length:=by omega
   rw[Ya (by omega),wP h0 hi h.1,Zdx h0 hp];refine⟨by omega,_,gE hp,_,Zgp _ _ (h.2 _ (Yh hp)) hr,?_⟩;unfold nxt ltR at *
   by_cases e:0<=Zy t.Rows[i-1] t.Rows[i]
   .rw[Ya e];simp[show ¬Zy t.Rows[i-1] t.Rows[i]<0 by omega]
   .rw[Yb e,ih];simp[show Zy t.Rows[i-1] t.Rows[i]<0 by omega]
  .have:i=0:=by omega
   subst this;rw[Yb (by omega),ih];simp[pvA,nxt]
@[simp] theorem ZA5(t:Zq)(h:LeT t):ZhB t=some (Bo (WO t),[]):=by
 refine Z7g _ _ ⟨_,Z9x _,?_⟩;unfold WO;rcases tf (WU t.Name)with e1|e1
 .rw[e1];simp
 rw[e1,Ya rfl];refine⟨_,XD _ _ _,?_⟩;rcases tf (inR t.Arity 1 3)with e2|e2
 .rw[e2];simp
 rw[e2,Ya rfl];by_cases e3:8<(t.Rows.length:Int)
 .rw[Ya e3];simp[show ¬(t.Rows.length:Int)<=8 by omega]
 .rw[Yb e3];have:=ZA4 t h 0 (Yd _);refine Yc this ?_;simp[show(t.Rows.length:Int)<=8 by omega,pvA]
def ltN(a b:Zq):Bool:=Op.bytesLess a.Name.toList b.Name.toList
abbrev LeD(d:Zn):Prop:=Le d.Tables/\∀t∈d.Tables,LeT t
def U3(d:Zn):Bool:=d.Tables.all WO && XM ltN none d.Tables && decide ((d.Tables.length:Int)<=6)
theorem ZA6(d:Zn)(h:LeD d):∀i,i<=d.Tables.length->Zck d d.Tables d.Tables.length i=some (Bo ((d.Tables.drop i).all WO && XM ltN (pvA d.Tables i) (d.Tables.drop i) && decide ((d.Tables.length:Int)<=6)),[]):=by
 refine down _ ?_ ?_
 .refine ZxG _ _ _ _ _ ?_;rw[Yb (by omega)];simp[XM]
 .intro i hi ih;refine ZxG _ _ _ _ _ ?_;rw[Zjv _ hi,Ya (by omega),Yj hi,Y3,wS hi h.1];refine⟨by omega,_,gE hi,_,ZA3 _ (h.2 _ (Yh hi)),?_⟩;rcases tf (WO d.Tables[i])with e|e
  .rw[e];simp
  rw[e,Ya rfl];by_cases h0:0<i
  .have hp:i-1<d.Tables.length:=by omega
   rw[Ya (by omega),wP h0 hi h.1,Zdx h0 hp];refine⟨by omega,_,gE hp,?_⟩;unfold nxt ltN at *
   rcases tf (Op.bytesLess d.Tables[i-1].Name.toList d.Tables[i].Name.toList)with e|e
   .rw[e];simp[e]
   .rw[e,Ya rfl,ih];simp[e]
  .have:i=0:=by omega
   subst this;rw[Yb (by omega),ih];simp[pvA,nxt]
@[simp] theorem ZA7(d:Zn)(h:LeD d):Zia d=some (Bo (U3 d),[]):=by
 refine Z79 _ _ ?_;have:=ZA6 d h 0 (Yd _);refine Yc this ?_;unfold U3;simp[pvA]
theorem ZA8(d:Zn)(h:LeD d):∀i,i<=d.Tables.length->ZbZ d i=some (Bo ((d.Tables.drop i).all WO && XM ltN (pvA d.Tables i) (d.Tables.drop i) && decide ((d.Tables.length:Int)<=6)),[]):=by
 refine down _ ?_ ?_
 .refine Zxr _ _ _ ?_;rw[Yb (by omega)];simp[XM]
 .intro i hi ih;refine Zxr _ _ _ ?_;rw[Zjv _ hi,Ya (by omega),Yj hi,Y3,wS hi h.1];refine⟨by omega,_,gE hi,_,ZA5 _ (h.2 _ (Yh hi)),?_⟩;rcases tf (WO d.Tables[i])with e|e
  .rw[e];simp
  rw[e,Ya rfl];by_cases h0:0<i
  .have hp:i-1<d.Tables.length:=by omega
   rw[Ya (by omega),wP h0 hi h.1,Zdx h0 hp];refine⟨by omega,_,gE hp,?_⟩;unfold nxt ltN at *
   rcases tf (Op.bytesLess d.Tables[i-1].Name.toList d.Tables[i].Name.toList)with e|e
   .rw[e];simp[e]
   .rw[e,Ya rfl,ih];simp[e]
  .have:i=0:=by omega
   subst this;rw[Yb (by omega),ih];simp[pvA,nxt]
@[simp] theorem ZA9(d:Zn)(h:LeD d):ZhC d=some (Bo (U3 d),[]):=by
 refine Z7h _ _ ?_;have:=ZA8 d h 0 (Yd _);refine Yc this ?_;unfold U3;simp[pvA]
def X3(d:Zn)(n:V5):Option Zq:=if U3 d=true then d.Tables.find? (λt=>decide (t.Name=n))else none
theorem ZAA(xs:XS)(hx:Le xs)(hr:∀r∈xs,r.length<=4)(hl:xs.length<=1000000):∀i,i<=xs.length->ZeW (xs.take i) xs xs.length i=some (.own 0,[.arr 42 1 true (xs.map isc)]):=by
 refine down _ ?_ ?_
 .refine ZxH _ _ _ _ _ ?_;rw[Yb (by omega),Yc4]
 .intro i hi ih;refine ZxH _ _ _ _ _ ?_;rw[Ya (by omega),wS hi hx];have:=hr _ (Yh hi);refine⟨by omega,_,gE hi,_,Zdp _ (by omega),by rw[Yb3];omega,?_⟩;rw[Yb0 hi]at ih;exact ih
theorem ZpZ(xs:XS)(hr:∀r∈xs,r.length<=4)(hl:xs.length<=1000000):K8 xs=some (.own 0,[.arr 42 1 true (xs.map isc)]) :=
 Z7B _ _ (by simpa using ZAA xs (by omega) hr hl 0 (Yd _))
theorem ZzO{α:Type}(p:α->Bool):∀(xs:List α) (i:Nat),match xs.find? p with
  |none=>ZM p xs i=-1
  |some x=>∃j,ZM p xs i=((i+j:Nat):Int)/\xs[j]?=some x
 |[],i=>by simp[ZM]
 |x::xs,i=>by
  unfold ZM;rw[List.find?_cons];rcases tf (p x)with e|e
  .rw[e,Yb (by simp)];have:=ZzO p xs (i+1);revert this;simp only
   cases xs.find? p with
   |none=>exact id
   |some y=>rintro⟨j,h1,h2⟩;exact⟨j+1,by rw[h1];congr 1;omega,by simpa using h2⟩
  .rw[e,Ya rfl];exact⟨0,rfl,rfl⟩
theorem l_idxT(s:List Zq)(n:V5)(hs:Le s):∀i,i<=s.length->ZeR s n s.length i=some (I (ZM (λt=>decide (t.Name=n)) (s.drop i) i),[]):=by
 refine down _ ?_ ?_
 .refine ZxB _ _ _ _ _ ?_;rw[Yb (by omega)];simp[ZM]
 .intro i hi ih;refine ZxB _ _ _ _ _ ?_;rw[Ya (by omega),Kz _ hi,wS hi hs];refine⟨by omega,_,gE hi,_,Z70 _ _ _ rfl,?_⟩;split
  .rfl
  .exact ih
def lookR(o:Option Zq):XR:=match o with
 |none=>(.tup [.agg [.t (.str ⟨#[]⟩),I 0,.t .nil],Bo false],[])
 |some t=>(.tup [.agg [.t (.str t.Name),I t.Arity,.own 0],Bo true],[.arr 42 1 true (t.Rows.map isc)])
theorem ZaZ{d:Zn}(hv:U3 d=true){t:Zq}(ht:t∈d.Tables):WO t=true:=by
 unfold U3 at hv;simp only[Ye]at hv;exact Yn.1 hv.1.1 t ht
theorem Zjw{t:Zq}(h:WO t=true):t.Rows.length<=8:=by
 unfold WO at h;simp only[Ye,decide_eq_true_eq]at h;omega
theorem ZzP{t:Zq}(h:WO t=true):∀r∈t.Rows,r.length<=3:=by
 intro r hr;unfold WO at h;simp only[Ye]at h;have h1:=Yn.1 h.2.1 r hr;have h2:=h.1.1.2;unfold rwB at h1;simp only[inR,Ye,decide_eq_true_eq]at h1 h2;omega
theorem Zjx{d:Zn}{n:V5}{t:Zq}(h:X3 d n=some t):U3 d=true/\t∈d.Tables/\t.Name=n:=by
 unfold X3 at h;split at h
 .rename_i hv;exact⟨hv,List.mem_of_find?_eq_some h,by simpa using List.find?_some h⟩
 .cases h
theorem ZzQ(d:Zn)(h:LeD d)(n:V5):Zad d n=some (lookR (X3 d n)):=by
 have hi:=Z71 _ _ _ (by simpa using l_idxT d.Tables n h.1 0 (Yd _));have hf:=ZzO (λt:Zq=>decide (t.Name=n)) d.Tables 0;refine Z7D _ _ _ ⟨_,hi,?_⟩;unfold X3
 cases hq:d.Tables.find? (λt=>decide (t.Name=n))with
 |none =>
  rw[hq]at hf;simp only at hf;rw[hf,Ya (by omega)]
  split<;>rfl
 |some t =>
  rw[hq]at hf;obtain⟨j,h1,h2⟩:=hf;rw[Yq]at h1;rw[h1,Yb (by omega)];refine⟨_,ZA7 d h,?_⟩;rcases tf (U3 d)with e|e
  .rw[e];rfl
  .rw[e,Ya rfl,Ya rfl];have hm:=Yz h2;have hT:=h.2 t hm;have h8:=Zjw (ZaZ e hm);refine⟨by omega,t,by rw[Yf];exact h2,_,_,_,Z7C _ _ ⟨_,ZpZ t.Rows (λr hr=>by have:=ZzP (ZaZ e hm) r hr;omega) (by omega),rfl⟩,rfl⟩
theorem ZAB(t:Zq)(h:LeT t)(h8:t.Rows.length<=8)(h3:∀r∈t.Rows,r.length<=3)(a a':V5)(b b':Int):∀i,i<=t.Rows.length->ZeE t a b a' b' (t.Rows.take i) i=some (.agg [.t (.str a'),I b',.own 0],[.arr 42 1 true (t.Rows.map isc)]):=by
 refine down _ ?_ ?_
 .refine Zxs _ _ _ _ _ _ _ _ ?_;rw[Yb (by omega),Yc4]
 .intro i hi ih;refine Zxs _ _ _ _ _ _ _ _ ?_;rw[Ya (by omega),wS hi h.1];have:=h3 _ (Yh hi);rw[Yb0 hi]at ih;exact⟨by omega,_,gE hi,by omega,by rw[Yb3];omega,ih⟩
theorem ZAC(t:Zq)(h:LeT t)(h8:t.Rows.length<=8)(h3:∀r∈t.Rows,r.length<=3):ZeD t=some (if t.Rows=[]then(.agg [.t (.str t.Name),I t.Arity,.t .nil],[])else(.agg [.t (.str t.Name),I t.Arity,.own 0],[.arr 42 1 true (t.Rows.map isc)])):=by
 refine Z7j _ _ ?_;refine Z7i _ _ _ _ _ _ _ ?_;by_cases e:t.Rows=[]
 .rw[Yb (by rw[e];simp),Ya e]
 .have h0:0<t.Rows.length:=Yc1.2 e;have:=h3 _ (Yh h0);rw[Ya (by omega),Yb e];refine⟨by omega,_,gE h0,by omega,?_⟩;have:=ZAB t h h8 h3 ⟨#[]⟩ t.Name 0 t.Arity 1 (by omega);rw[Yb0 h0]at this;rw[show w (0+1)=1 from by decide];simpa using this
def Zba(o:Option Zq):XR:=match o with
 |none=>(.tup [.agg [.t (.str ⟨#[]⟩),I 0,.t .nil],Bo false],[])
 |some t=>if t.Rows=[]then(.tup [.agg [.t (.str t.Name),I t.Arity,.t .nil],Bo true],[])else(.tup [.agg [.t (.str t.Name),I t.Arity,.own 0],Bo true],[.arr 42 1 true (t.Rows.map isc)])
theorem ZAD(d:Zn)(h:LeD d)(n:V5):∀i,i<=d.Tables.length->ZeF d ⟨#[]⟩ 0 n i=some (Zba (if U3 d=true then(d.Tables.drop i).find? (λt=>decide (t.Name=n))else none)):=by
 refine down _ ?_ ?_
 .refine Zxt _ _ _ _ _ _ ?_;rw[Yb (by omega),Yp];split<;>rfl
 .intro i hi ih;refine Zxt _ _ _ _ _ _ ?_;rw[Ya (by omega),wS hi h.1];refine⟨_,ZA9 d h,?_⟩;rcases tf (U3 d)with e|e
  .rw[e];rfl
  rw[e,Ya rfl]at ih|-;rw[Ya rfl,Yj hi,List.find?_cons];have hm:=Yh hi;refine⟨by omega,_,gE hi,?_⟩;by_cases e2:d.Tables[i].Name=n
  .rw[Ya e2];have hc:=ZAC _ (h.2 _ hm) (Zjw (ZaZ e hm)) (ZzP (ZaZ e hm));simp only[e2,decide_true,Zba];by_cases e3:d.Tables[i].Rows=[]
   .rw[Ya e3]at hc|-;exact .inl ⟨_,_,hc,by rw[e2]⟩
   .rw[Yb e3]at hc|-;exact .inr ⟨_,_,_,hc,by rw[e2]⟩
  .rw[Yb e2,ih];simp only[e2,decide_false]
theorem Zqa(d:Zn)(h:LeD d)(n:V5):UF d n=some (Zba (X3 d n)) :=
 Z7k _ _ _ (by simpa[X3]using ZAD d h n 0 (Yd _))
def XY(d:Zn)(a:Zc):Bool:=match X3 d a.Name with
 |none=>false
 |some t=>decide (t.Arity=(a.Vars.length:Int))
def Z6(d:Zn)(q:Ze):Bool:=Zu q.Zk q.Atoms && q.Atoms.all (XY d)
theorem ZAE(d:Zn)(h:LeD d)(q:Ze)(hq:LeQ q):∀i,i<=q.Atoms.length->ZeX d q.Atoms q.Atoms.length i=some (Bo ((q.Atoms.drop i).all (XY d)),[]):=by
 refine down _ ?_ ?_
 .refine ZxI _ _ _ _ _ ?_;rw[Yb (by omega)];simp
 .intro i hi ih;refine ZxI _ _ _ _ _ ?_;rw[Ya (by omega),Yj hi,Y3,wS hi hq.1];refine⟨by omega,_,gE hi,?_⟩;have hk:=ZzQ d h q.Atoms[i].Name;unfold XY at ih|-
  cases e:X3 d q.Atoms[i].Name with
  |none =>
   rw[e]at hk
   refine .inl ⟨_,_,hk,by simp⟩
  |some t =>
   rw[e]at hk;refine .inr ⟨_,_,_,hk,?_⟩;by_cases e2:t.Arity=(q.Atoms[i].Vars.length:Int)
   .rw[Ya e2,ih];simp[e2]
   .rw[Yb e2];simp[e2]
@[simp] theorem Zqb(d:Zn)(h:LeD d)(q:Ze)(hq:LeQ q):Zcl d q=some (Bo (Z6 d q),[]):=by
 refine Z7E _ _ _ ⟨_,Zzu q hq,?_⟩;unfold Z6;rcases tf (Zu q.Zk q.Atoms)with e|e
 .rw[e];simp
 .rw[e,Ya rfl];have:=ZAE d h q hq 0 (Yd _);refine Yc this ?_;simp
theorem ZAF(d:Zn)(h:LeD d)(q:Ze)(hq:LeQ q):∀i,i<=q.Atoms.length->Zca d q i=some (Bo ((q.Atoms.drop i).all (XY d)),[]):=by
 refine down _ ?_ ?_
 .refine Zxu _ _ _ _ ?_;rw[Yb (by omega)];simp
 .intro i hi ih;refine Zxu _ _ _ _ ?_;rw[Ya (by omega),Yj hi,Y3,wS hi hq.1];refine⟨by omega,_,gE hi,?_⟩;have hk:=Zqa d h q.Atoms[i].Name;unfold XY at ih|-
  cases e:X3 d q.Atoms[i].Name with
  |none =>
   rw[e]at hk
   refine .inl ⟨_,_,_,hk,by simp⟩
  |some t =>
   rw[e]at hk;simp only[Zba]at hk;by_cases e3:t.Rows=[]
   .rw[Ya e3]at hk;refine .inl ⟨_,_,_,hk,?_⟩;rw[Ya rfl];by_cases e2:t.Arity=(q.Atoms[i].Vars.length:Int)
    .rw[Ya e2,ih];simp[e2]
    .rw[Yb e2];simp[e2]
   .rw[Yb e3]at hk;refine .inr ⟨_,_,_,hk,?_⟩;by_cases e2:t.Arity=(q.Atoms[i].Vars.length:Int)
    .rw[Ya e2,ih];simp[e2]
    .rw[Yb e2];simp[e2]
@[simp] theorem Zdy(d:Zn)(h:LeD d)(q:Ze)(hq:LeQ q):QL d q=some (Bo (Z6 d q),[]):=by
 refine Z7l _ _ _ ⟨_,ZaU q hq,?_⟩;unfold Z6;rcases tf (Zu q.Zk q.Atoms)with e|e
 .rw[e];simp
 .rw[e,Ya rfl];have:=ZAF d h q hq 0 (Yd _);refine Yc this ?_;simp
def Kh:WA->WA->Bool->WA->Bool×WA
 |v::vs,y::ys,ok,x=>Kh vs ys (ok && (decide (x.getD v.toNat 0=-1) || decide (x.getD v.toNat 0=y))) (x.set v.toNat y)
 |_,_,ok,x=>(ok,x)
theorem ZzR:∀(vs ys:WA) (ok:Bool) (x:WA),(Kh vs ys ok x).2.length=x.length
 |[],_,_,_=>rfl
 |_::_,[],_,_=>rfl
 |v::vs,y::ys,ok,x=>by unfold Kh;rw[ZzR,Ybq]
def Zjy(vs x r:WA):Option (WA):=if(Kh vs r true x).1=true then some (Kh vs r true x).2 else none
def Ki(vs:WA)(rows:XS)(x:WA):XS:=rows.filterMap (Zjy vs x)
theorem ZAG(vs:WA)(rows:XS)(x:WA):(Ki vs rows x).length<=rows.length:=List.length_filterMap_le _ _
theorem Zqc{vs:WA}{rows:XS}{x y:WA}(h:y∈Ki vs rows x):y.length=x.length:=by
 unfold Ki at h;obtain⟨r,_,hr⟩:=Yb7.1 h;unfold Zjy at hr;split at hr
 .cases hr;exact ZzR _ _ _ _
 .cases hr
def Ve(d:Zn)(a:Zc):XS:=match X3 d a.Name with
 |none=>[]
 |some t=>t.Rows
def Jm(d:Zn)(m:Int):List Zc->Nat->XS->XS
 |[],_,l=>l
 |a::ts,i,l=>Jm d m ts (i+1) (if andI (shrI m i) 1=0 then l else l.flatMap (Ki a.Vars (Ve d a)))
theorem Zgq{α β:Type}(f:α->List β)(k:Nat)(hf:∀x,(f x).length<=k):∀l:List α,(l.flatMap f).length<=k*l.length
 |[]=>by simp
 |x::l=>by rw[Ybx,Ym,Ys,Ydm];have:=hf x;have:=Zgq f k hf l;omega
def selC(row cc:WA):WA:=cc.map λc=>row.getD c.toNat 0
def Zqd(d:Zn)(q:Ze)(m:Int):XS:=Jm d m q.Atoms 0 [List.replicate q.Zk.toNat (-1)]
def Zjz(d:Zn)(q:Ze)(m:Int):XS:=(Zqd d q m).map λx=>selC x (Z9 m q.Atoms q.Zk.toNat)
theorem Zqe(d:Zn)(m:Int)(n:Nat):∀(ts:List Zc) (i:Nat) (l:XS),(∀a∈ts,XY d a=true)->(∀x∈l,x.length=n)->(∀x∈Jm d m ts i l,x.length=n)/\(Jm d m ts i l).length<=8 ^ ts.length*l.length
 |[],_,l,_,h=>⟨h,by simp[Jm]⟩
 |a::ts,i,l,ha,h=>by
  rw[Jm];have hp:=Nat.pow_succ 8 ts.length;by_cases e:andI (shrI m i) 1=0
  .rw[Ya e];obtain⟨h1,h2⟩:=Zqe d m n ts (i+1) l (λb hb=>ha b (by simp[hb])) h;refine⟨h1,Yu h2 (Ybc _ ?_)⟩;rw[Ys];omega
  .rw[Yb e]
   obtain⟨h1,h2⟩:=Zqe d m n ts (i+1) (l.flatMap (Ki a.Vars (Ve d a))) (λb hb=>ha b (by simp[hb])) (by
    intro y hy;obtain⟨x,hx,hy⟩:=Ybv.1 hy
    rw[Zqc hy];exact h x hx)
   refine⟨h1,Yu h2 ?_⟩;have h8:(Ve d a).length<=8:=by
    have:=ha a (by simp);unfold Ve;unfold XY at this
    cases e3:X3 d a.Name with
    |none=>simp
    |some t =>
     obtain⟨hv,ht,_⟩:=Zjx e3;exact Zjw (ZaZ hv ht)
   have:=Zgq (Ki a.Vars (Ve d a)) 8 (λx=>Yu (ZAG _ _ _) h8) l;rw[Ys,hp,Nat.mul_assoc];exact Nat.mul_le_mul_left _ this
def UY(cc c row r:WA):Bool:=(cc.zip r).all λp=>(c.zip row).all λz=>decide (z.1≠p.1) || decide (z.2=p.2)
theorem ZAH(t:Zq)(a:Zc)(c row r:WA)(i k:Nat)(R:XR)(hi:t.Rows[i]?=some r)(hk:k<a.Vars.length)(cc:k<r.length)(cd:row.length<=c.length)(h8:row.length<=1000):∀j,j<=row.length->∀b:Bool,
  JS t a c row i (b && ((c.zip row).drop j).all λz=>decide (z.1≠a.Vars[k]) || decide (z.2=r[k])) (w ((k:Int)+1))=some R->
  JT t a c row i b k j=some R:=by
 have hz:(c.zip row).length=row.length:=by rw[List.length_zip];omega
 refine down _ ?_ ?_
 .intro b h;refine Zxx _ _ _ _ _ _ _ _ _ ?_;rw[Yb (by omega)];rw[show(c.zip row).drop row.length=[]from Ybw (by omega)]at h;simpa using h
 .intro j hj ih b h;refine Zxx _ _ _ _ _ _ _ _ _ ?_;rw[Ya (by omega),wS hj (by omega)];rw[Yj (l:=c.zip row) (i:=j) (by omega),Y3,List.getElem_zip]at h;rcases tf b with e|e
  .subst e;rw[Yb (by simp)];exact ih _ (by simpa using h)
  .subst e;rw[Ya rfl];have hjv:j<c.length:=by omega
   refine⟨by omega,_,gE hjv,by omega,_,gE hk,?_⟩;by_cases e2:c[j]=a.Vars[k]
   .rw[Ya e2];refine⟨_,gE hj,by omega,_,by rw[Yf];exact hi,_,gE cc,ih _ ?_⟩;simpa[e2]using h
   .rw[Yb e2];refine ih _ ?_;simpa[e2]using h
theorem ZAI(t:Zq)(a:Zc)(c row r:WA)(i:Nat)(R:XR)(hi:t.Rows[i]?=some r)(hr:r.length=a.Vars.length)(hl:Le a.Vars)(cc:row.length<=c.length)(h8:row.length<=1000):∀k,k<=a.Vars.length->∀b:Bool,
  (if(b && ((a.Vars.zip r).drop k).all λp=>(c.zip row).all λz=>decide (z.1≠p.1) || decide (z.2=p.2))=true then some (Bo true,[])=some R else JR t a c row (w ((i:Int)+1))=some R)->
  JS t a c row i b k=some R:=by
 have hz:(a.Vars.zip r).length=a.Vars.length:=by rw[List.length_zip];omega
 refine down _ ?_ ?_
 .intro b h;refine Zxw _ _ _ _ _ _ _ _ ?_;rw[Yb (by omega)];rw[show(a.Vars.zip r).drop a.Vars.length=[]from Ybw (by omega)]at h;simpa using h
 .intro k hk ih b h;refine Zxw _ _ _ _ _ _ _ _ ?_;rw[Ya (by omega)];have hkr:k<r.length:=by omega
  refine ZAH t a c row r i k R hi hk hkr cc h8 0 (Yd _) b ?_;rw[wS hk hl];refine ih _ ?_;rw[Yj (l:=a.Vars.zip r) (i:=k) (by omega),Y3,List.getElem_zip]at h;rw[Bool.and_assoc,Yo];exact h
theorem ZAJ(t:Zq)(a:Zc)(c row:WA)(hT:t.Rows.length<=8)(hr:∀r∈t.Rows,r.length=a.Vars.length)(hl:Le a.Vars)(cc:row.length<=c.length)(h8:row.length<=1000):∀i,i<=t.Rows.length->
  JR t a c row i=some (Bo ((t.Rows.drop i).any (UY a.Vars c row)),[]):=by
 refine down _ ?_ ?_
 .refine Zxv _ _ _ _ _ _ ?_;rw[Yb (by omega)];simp
 .intro i hi ih;refine Zxv _ _ _ _ _ _ ?_;rw[Ya (by omega)];refine ZAI t a c row t.Rows[i] i _ (Yi hi) (hr _ (Yh hi)) hl cc h8 0 (Yd _) true ?_;rw[wS hi (by omega),Yj hi,Ydk,Yo,Yy];change if UY a.Vars c row t.Rows[i]=true then _ else _;rcases tf (UY a.Vars c row t.Rows[i])with e|e
  .rw[e,Yb (by simp),Ydi];exact ih
  .rw[e,Ya rfl,Bool.true_or]
theorem Zqf(t:Zq)(a:Zc)(c row:WA)(hT:t.Rows.length<=8)(hr:∀r∈t.Rows,r.length=a.Vars.length)(hl:Le a.Vars)(cc:row.length<=c.length)(h8:row.length<=1000) :
  ZeI t a c row=some (Bo (t.Rows.any (UY a.Vars c row)),[]):=Z7m _ _ _ _ _ (by simpa using ZAJ t a c row hT hr hl cc h8 0 (Yd _))
def okP(ps:List (Zq×Zc))(c row:WA):Bool:=ps.all λp=>p.1.Rows.any (UY p.2.Vars c row)
def wlk(ok:WA->Bool):Nat->WA->XS
 |0,row=>if ok row=true then[row]else[]
 |n+1,row=>if ok row=true then(List.range' 0 10).flatMap λv:Nat=>wlk ok n (row++[(v:Int)])else[]
theorem ZzS(ok:WA->Bool):∀n row,(wlk ok n row).length<=10 ^ n
 |0,row=>by unfold wlk;split<;>simp
 |n+1,row=>by
  unfold wlk;split
  .have:=Zgq (λv:Nat=>wlk ok n (row++[(v:Int)])) (10 ^ n) (λv=>ZzS ok n _) (List.range' 0 10);rw[List.length_range']at this;rw[Nat.pow_succ];exact this
  .simp
def Zqg(p:Zq×Zc):Prop:=p.1.Rows.length<=8/\(∀r∈p.1.Rows,r.length=p.2.Vars.length)/\Le p.2.Vars
abbrev Zj0(ps:List (Zq×Zc))(fr:Bool)(vars row:WA)(b:Bool)(out:XS):Rs :=
 some (.own 4,[.arr 181 3 true ((ps.map Prod.fst).map Zq.c),.arr 185 2 fr ((ps.map Prod.snd).map Zc.c),.arr 3 1 true (vars.map ic),.arr 3 1 true (row.map ic),.arr 42 1 b (out.map isc)])
theorem x_walk(ps:List (Zq×Zc))(fr:Bool)(vars:WA)(c:∀p∈ps,Zqg p)(cc:ps.length<=8)(hv:vars.length<=4):∀n row,row.length+n=vars.length->
  ∃b,JU (ps.map Prod.fst) fr (ps.map Prod.snd) vars row=Zj0 ps fr vars row b (wlk (okP ps vars) n row):=by
 intro n
 induction n with
 |zero =>
  intro row hn
  have:∀i,i<=ps.length->Zcb (ps.map Prod.fst) fr (ps.map Prod.snd) vars row i=Zj0 ps fr vars row true (if okP (ps.drop i) vars row=true then[row]else[]):=by
   refine down _ ?_ ?_
   .refine Zgg _ _ _ _ _ _ _ ?_;rw[Yb (by simp),Ya (by omega),Yp];exact⟨by omega,by simp[okP]⟩
   .intro i hi ih;have h1:i<(ps.map Prod.fst).length:=by simpa using hi
    have h2:i<(ps.map Prod.snd).length:=by simpa using hi
    obtain⟨a1,a2,a3⟩:=c _ (Yh hi);refine Zgg _ _ _ _ _ _ _ ?_;rw[Ya (by omega),wS hi (by omega)];refine⟨by omega,_,gE h1,_,gE h2,_,Zqf _ _ _ _ (by simpa using a1) (by simpa using a2) (by simpa using a3) (by omega) (by omega),?_⟩;rw[Yj hi,okP,Y3];simp only[List.getElem_map];rcases tf (ps[i].1.Rows.any (UY ps[i].2.Vars vars row))with e|e
    .rw[e,Yb (by simp)];simp
    .rw[e,Ya rfl,Yy];exact ih
  exact⟨true,Zxz _ _ _ _ _ _ (by have t:=this 0 (Yd _);rw[Yo]at t;rw[wlk];exact t)⟩
 |succ n IH =>
  intro row hn;have hloop:∀v,v<=10->∀fr1 (out:XS),out.length<=10 ^ n*v->∃b,Zcc (ps.map Prod.fst) fr (ps.map Prod.snd) vars row fr1 out v=Zj0 ps fr vars row b (out++(List.range' v (10-v)).flatMap λu:Nat=>wlk (okP ps vars) n (row++[(u:Int)])):=by
   have h4:10 ^ n<=10000:=Yu (Nat.pow_le_pow_right (by omega) (show n<=4 by omega)) (by decide);refine down _ ?_ ?_
   .intro fr1 out ho;refine⟨fr1,Zxy _ _ _ _ _ _ _ _ _ ?_⟩;rw[Yb (by omega)];simp
   .intro v hv9 ih fr1 out ho;obtain⟨b1,hb1⟩:=IH (row++[(v:Int)]) (by simp;omega);have hlen:=ZzS (okP ps vars) n (row++[(v:Int)]);have hm:10 ^ n*(v+1)=10 ^ n*v+10 ^ n:=Ydm _ _;have hm2:10 ^ n*v<=10000*10:=Ydj h4 (by omega);obtain⟨b2,hb2⟩:=ih (fr1 && flat ((wlk (okP ps vars) n (row++[(v:Int)])).map isc)) (out++wlk (okP ps vars) n (row++[(v:Int)])) (by rw[Ym];omega);refine⟨b2,Zxy _ _ _ _ _ _ _ _ _ ?_⟩;rw[Ya (by omega)];refine⟨by omega,by omega,.inr ⟨_,_,_,_,_,_,_,hb1,by omega,?_⟩⟩;rw[wS (n:=10) hv9 (by omega),show 10-v=(10-(v+1))+1 by omega,Ycl,Ybx,<-Yt];exact hb2
  have:∀i,i<=ps.length->∃b,Zcb (ps.map Prod.fst) fr (ps.map Prod.snd) vars row i=Zj0 ps fr vars row b (if okP (ps.drop i) vars row=true then(List.range' 0 10).flatMap λu:Nat=>wlk (okP ps vars) n (row++[(u:Int)])else[]):=by
   refine down _ ?_ ?_
   .obtain⟨b,hb⟩:=hloop 0 (by omega) true [] (by simp);refine⟨b,Zgg _ _ _ _ _ _ _ ?_⟩;rw[Yb (by simp),Yb (by omega),Yp];rw[show okP [] vars row=true from rfl,Ya rfl];exact hb
   .intro i hi ih;have h1:i<(ps.map Prod.fst).length:=by simpa using hi
    have h2:i<(ps.map Prod.snd).length:=by simpa using hi
    obtain⟨a1,a2,a3⟩:=c _ (Yh hi);obtain⟨b,ih⟩:=ih;rw[Yj hi,okP,Y3];rcases tf (ps[i].1.Rows.any (UY ps[i].2.Vars vars row))with e|e
    .refine⟨true,Zgg _ _ _ _ _ _ _ ?_⟩;rw[Ya (by omega),wS hi (by omega)];refine⟨by omega,_,gE h1,_,gE h2,_,Zqf _ _ _ _ (by simpa using a1) (by simpa using a2) (by simpa using a3) (by omega) (by omega),?_⟩;simp only[List.getElem_map];rw[e,Yb (by simp)];simp
    .refine⟨b,Zgg _ _ _ _ _ _ _ ?_⟩;rw[Ya (by omega),wS hi (by omega)];refine⟨by omega,_,gE h1,_,gE h2,_,Zqf _ _ _ _ (by simpa using a1) (by simpa using a2) (by simpa using a3) (by omega) (by omega),?_⟩;simp only[List.getElem_map];rw[e,Ya rfl,Yy];exact ih
  obtain⟨b,t⟩:=this 0 (Yd _);rw[Yo]at t;exact⟨b,Zxz _ _ _ _ _ _ (by rw[wlk];exact t)⟩
def XF(d:Zn)(m:Int):List Zc->Nat->List (Zq×Zc)
 |[],_=>[]
 |a::ts,i=>match X3 d a.Name with
  |none=>XF d m ts (i+1)
  |some t=>if andI (shrI m i) 1=1 then(t,a)::XF d m ts (i+1)else XF d m ts (i+1)
theorem tabOK{d:Zn}{a:Zc}{t:Zq}(hl:Le a.Vars)(hf:XY d a=true)(h:X3 d a.Name=some t):Zqg (t,a):=by
 obtain⟨hv,ht,_⟩:=Zjx h;have hT:=ZaZ hv ht;refine⟨Zjw hT,?_,hl⟩;intro row hrow;unfold WO at hT;simp only[Ye]at hT;have:=Yn.1 hT.2.1 row hrow;unfold rwB at this;unfold XY at hf;rw[h]at hf;simp only[Ye,decide_eq_true_eq]at this hf;show row.length=a.Vars.length;omega
theorem l_EM(d:Zn)(hd:LeD d)(q:Ze)(hq:LeQ q)(hv:Zu q.Zk q.Atoms=true)(hf:∀a∈q.Atoms,XY d a=true)(m:Int)(hm:MQ q.Atoms m)(ys:XS):∀i,i<=q.Atoms.length->∀(ps:List (Zq×Zc)) (fr:Bool),(∀p∈ps,Zqg p)->ps.length<=i->
  wlk (okP (ps++XF d m (q.Atoms.drop i) i) (ZI q m)) (ZI q m).length []=ys->
  ∃b,JW d q (ps.map Prod.fst) fr (ps.map Prod.snd) m i=some (.tup [.agg [.own 0,.own 1],Bo true],[.arr 3 1 true ((ZI q m).map ic),.arr 42 1 b (ys.map isc)]):=by
 have h4:=Xx hv;have hv4:=ZpO q hv m;refine down _ ?_ ?_
 .intro ps fr hps hpl he;rw[Yp,XF,Ybd]at he;obtain⟨b,hb⟩:=x_walk ps fr (ZI q m) hps (by omega) hv4 (ZI q m).length [] (by simp);refine⟨b,Zpu _ _ _ _ _ _ _ _ ?_⟩;rw[Yb (by omega)];refine⟨_,ZpP q hq hv m hm,.inr ⟨_,_,_,_,_,_,_,hb,?_⟩⟩;rw[he]
 .intro i hi ih ps fr hps hpl he;have hl:=hq.2 _ (Yh hi);have hf1:=hf _ (Yh hi);rw[Yj hi,XF]at he
  cases e3:X3 d q.Atoms[i].Name with
  |none=>unfold XY at hf1;rw[e3]at hf1;simp at hf1
  |some t =>
   rw[e3]at he;simp only at he;by_cases e:andI (shrI m i) 1=1
   .rw[Ya e]at he
    obtain⟨b,hb⟩:=ih (ps++[(t,q.Atoms[i])]) false (by
     intro p hp;rcases Yk.1 hp with e1|e1
     .exact hps p e1
     .rw[List.mem_singleton.1 e1];exact tabOK hl hf1 e3) (by simp;omega) (by rw[Yt];exact he)
    refine⟨b,Zpu _ _ _ _ _ _ _ _ ?_⟩;rw[Ya (by omega),wS hi hq.1];refine⟨by omega,?_⟩;rw[Ya e];refine⟨by omega,_,gE hi,?_⟩;have hk:=Zqa d hd q.Atoms[i].Name;rw[e3]at hk;simp only[Zba]at hk;rw[Ybn,Ybn]at hb;by_cases e4:t.Rows=[]
    .rw[Ya e4]at hk;refine .inl ⟨_,_,_,hk,by simp;omega,by simp;omega,?_⟩;rw[<-e4];exact hb
    .rw[Yb e4]at hk;exact .inr ⟨_,_,_,hk,by simp;omega,by simp;omega,hb⟩
   .rw[Yb e]at he;obtain⟨b,hb⟩:=ih ps fr hps (by omega) he;refine⟨b,Zpu _ _ _ _ _ _ _ _ ?_⟩;rw[Ya (by omega),wS hi hq.1];refine⟨by omega,?_⟩;rw[Yb e];exact hb
def Zgr(d:Zn)(q:Ze)(m:Int):XS:=wlk (okP (XF d m q.Atoms 0) (ZI q m)) (ZI q m).length []
theorem ZzT(d:Zn)(hd:LeD d)(q:Ze)(hq:LeQ q)(hf:Z6 d q=true)(m:Int)(h1:1<=m)(hm:MQ q.Atoms m)(hF:m<=We q.Zk q.Atoms):Vt d q m=some (I ((Zgr d q m).length:Int),[]):=by
 have hf':=hf;unfold Z6 at hf';simp only[Ye,Yn]at hf';obtain⟨b,hb⟩:=l_EM d hd q hq hf'.1 hf'.2 m hm (Zgr d q m) 0 (Yd _) [] true (by simp) (by simp) rfl
 have:JV d q m=some (.tup [.agg [.own 0,.own 1],Bo true],[.arr 3 1 true ((ZI q m).map ic),.arr 42 1 b ((Zgr d q m).map isc)]):=by
  refine Zpv _ _ _ _ ⟨_,Zdy d hd q hq,?_⟩;rw[hf,Ya rfl];refine⟨_,ZpD q hq,_,XD _ _ _,?_⟩;rw[show inR m 1 (We q.Zk q.Atoms)=true by simp[inR];omega,Ya rfl];exact hb
 exact Zx0 _ _ _ _ (.inr (.inr ⟨_,_,_,this,rfl⟩))
theorem ZAK{c:Zf}(g:GC c)(q:Ze):∃c' m,ZeB c q=some (I m,[cB c'])/\GC c':=by
 obtain⟨c1,b,e1,g1⟩:=U1 g 10;rcases tf b with hb|hb
 .subst hb;obtain⟨c2,n,e2,g2,_⟩:=ZZ g1 (shlI 1 (if(q.Atoms.length:Int)<4 then(q.Atoms.length:Int)else 4));exact⟨c2,n,Zxo _ _ _ ⟨c1,false,e1,by rw[Yb (by simp)];exact⟨by split<;>omega,c2,n,e2,rfl⟩⟩,g2⟩
 .subst hb;obtain⟨c2,n,e2,g2,_⟩:=Uc g1 [(-1),0,16,9223372036854775807] (by simp) (by simp);exact⟨c2,n,Zxo _ _ _ ⟨c1,true,e1,by rw[Ya rfl];exact⟨c2,_,n,e2,rfl⟩⟩,g2⟩
def GR(R:Rs):Prop:=∃(c:Zf) (q:Ze) (p:Zo),R=some (.tup [.agg (q.c.map .t),.agg (p.c.map .t)],[cB c])/\GC c/\LeQ q/\p.Steps.length<=57
theorem ZzU{c:Zf}(g:GC c):GR (ZbW c):=by
 obtain⟨c1,n,x,e1,g1,hv⟩:=ZzB g;have hq:LeQ ⟨n,x⟩:=ZpR hv;have hm:=ZpY (q:=⟨n,x⟩) hv;have hl:=Xx hv;have hm15:0<=We n x/\We n x<=15:=by
  have h1:=hm.1;have h2:=hm.2
  have:(2:Int) ^ x.length<=16:=by
   obtain⟨h3,h4⟩:=hl
   have:x.length=1\/x.length=2\/x.length=3\/x.length=4:=by omega
   rcases this with e|e|e|e<;>rw[e]<;>decide
  simp only at h1 h2;omega
 obtain⟨k,hk⟩:∃k:Nat,We n x=k:=⟨(We n x).toNat,by omega⟩;obtain⟨c2,p,e2,g2,hp,hp2⟩:=ZAu ⟨n,x⟩ hq k (by omega) c1 g1;have hp57:p.length<=57:=by split at hp2<;>omega
 obtain⟨c3,y,e3,g3,_⟩:=ZZ g2 12;have pre:∀{r},(if y=0 then(0<=(w ((p.length:Int)-1))/\0<=(w ((p.length:Int)-1)).toNat/\(w ((p.length:Int)-1)).toNat<=p.length/\some (.tup [.agg [I n,L 2 (x.map Zc.c)],.agg [L 3 ((p.take ((w ((p.length:Int)-1)).toNat)).map Zj.c)]],[cB c3])=some r)else _)->ZbW c=some r :=
  λ{r} h=>Z7e _ _ ⟨c1,x,n,e1,k,by rw[<-hk];exact ZpD ⟨n,x⟩ hq,c2,p,e2,c3,y,e3,h⟩
 have hw:w ((p.length:Int)-1)=((p.length-1:Nat):Int):=by rw[XL (by omega) (by omega)];omega
 by_cases h0:y=0
 .refine⟨c3,⟨n,x⟩,⟨p.take (p.length-1)⟩,pre (by rw[Ya h0,hw,Yf];exact⟨by omega,by omega,by omega,rfl⟩),g3,hq,by show(p.take _).length<=_;rw[Yb3];omega⟩
 by_cases h1:y=1
 .obtain⟨c4,i,e4,g4,i0,i1⟩:=ZZ g3 p.length;obtain⟨c5,v,e5,g5,_⟩:=ZZ g4 7;obtain⟨s,hs,_⟩:=Ji i0 (i1 (by omega));exact⟨c5,⟨n,x⟩,⟨p.set i.toNat ⟨v,s.Zc,s.Order⟩⟩,pre (by rw[Yb h0,Ya h1];exact⟨c4,i,e4,c5,v,e5,i0,s,hs,rfl⟩),g5,hq,by show(p.set _ _).length<=_;rw[Ybq];omega⟩
 by_cases h2:y=2
 .obtain⟨c4,i,e4,g4,i0,i1⟩:=ZZ g3 p.length;obtain⟨c5,v,e5,g5,_⟩:=ZZ g4 5;obtain⟨s,hs,_⟩:=Ji i0 (i1 (by omega));exact⟨c5,⟨n,x⟩,⟨p.set i.toNat ⟨s.Kind,s.Zc,w (v-1)⟩⟩,pre (by rw[Yb h0,Yb h1,Ya h2];exact⟨c4,i,e4,c5,v,e5,i0,s,hs,rfl⟩),g5,hq,by show(p.set _ _).length<=_;rw[Ybq];omega⟩
 by_cases h3:y=3
 .obtain⟨c4,v,e4,g4,_⟩:=Uc g3 [(-1),4,1] (by simp) (by simp);obtain⟨s,t,hs⟩:∃s t,p=s::t:=by
   cases p with
   |nil=>simp at hp
   |cons s t=>exact⟨s,t,rfl⟩
  exact⟨c4,⟨n,x⟩,⟨p.set 0 ⟨s.Kind,v,s.Order⟩⟩,pre (by rw[Yb h0,Yb h1,Yb h2,Ya h3];exact⟨c4,_,v,e4,s,by rw[hs];rfl,rfl⟩),g4,hq,by show(p.set _ _).length<=_;rw[Ybq];omega⟩
 by_cases h4:y=4
 .obtain⟨c4,n2,x2,e4,g4,hq2⟩:=ZAg g3;exact⟨c4,⟨n2,x2⟩,⟨p⟩,pre (by rw[Yb h0,Yb h1,Yb h2,Yb h3,Ya h4];exact⟨c4,x2,n2,e4,rfl⟩),g4,hq2,hp57⟩
 .exact⟨c3,⟨n,x⟩,⟨p⟩,pre (by rw[Yb h0,Yb h1,Yb h2,Yb h3,Yb h4];rfl),g3,hq,hp57⟩
theorem l_Put(rows:XS)(row:WA)(hr:rows.length<=1000)(h3:∀r∈rows,r.length<=3)(cc:row.length<=3):∀i,i<=rows.length->∀(c:XS) (b:Bool),c.length<=2*i->∃ys:XS,Wu c rows row b i=some (.own 0,[.arr 42 1 true ((c++ys).map isc)])/\ys.length+i<=rows.length+(if b=true then 0 else 1)/\∀r∈ys,r.length<=3:=by
 refine down _ ?_ ?_
 .intro c b ho;rcases tf b with hb|hb
  .subst hb;exact⟨[row],Zgc _ _ _ _ _ _ (by rw[Yb (by omega),Yb (by simp)];exact⟨by omega,by omega,rfl⟩),by simp;omega,by simpa using cc⟩
  .subst hb;exact⟨[],Zgc _ _ _ _ _ _ (by rw[Yb (by omega),Ya rfl];simp),by simp,by simp⟩
 .intro i hi ih c b ho;have hri:=h3 _ (Yh hi);have e:=Zgp rows[i] row (by omega) (by omega);have go:∀{r},(if Zy rows[i] row=0 then(if 0<Zy rows[i] row then(rows[i].length<=68719476736/\c.length+1<=68719476736/\Wu (c++[rows[i]]) rows row true (w ((i:Int)+1))=some r)else(rows[i].length<=68719476736/\c.length+1<=68719476736/\Wu (c++[rows[i]]) rows row true (w ((i:Int)+1))=some r))else(if 0<Zy rows[i] row then(if b=true then(rows[i].length<=68719476736/\c.length+1<=68719476736/\Wu (c++[rows[i]]) rows row true (w ((i:Int)+1))=some r)else(row.length<=68719476736/\c.length+1<=68719476736/\rows[i].length<=68719476736/\c.length+1+1<=68719476736/\Wu ((c++[row])++[rows[i]]) rows row true (w ((i:Int)+1))=some r))else(rows[i].length<=68719476736/\c.length+1<=68719476736/\Wu (c++[rows[i]]) rows row b (w ((i:Int)+1))=some r)))->Wu c rows row b i=some r:=λ{r} h=>Zgc _ _ _ _ _ r (by rw[Ya (by omega)];exact⟨by omega,rows[i],gE hi,_,e,h⟩)
  have one:∀b',(b=true->b'=true)->∃ys:XS,Wu (c++[rows[i]]) rows row b' (w ((i:Int)+1))=some (.own 0,[.arr 42 1 true ((c++ys).map isc)])/\ys.length+i<=rows.length+(if b=true then 0 else 1)/\∀r∈ys,r.length<=3:=by
   intro b' hb';obtain⟨ys,e,hl,hy⟩:=ih (c++[rows[i]]) b' (by simp;omega);refine⟨rows[i]::ys,?_,?_,?_⟩
   .rw[wN i (by omega),e,Yt];rfl
   .simp only[Ys];rcases tf b with hb|hb
    .rw[hb]at *;simp;split at hl<;>omega
    .rw[hb' hb]at hl;rw[hb];simp at hl|-;omega
   .intro r hr;rcases Yl.1 hr with hr|hr
    .rw[hr];exact hri
    .exact hy r hr
  by_cases c0:Zy rows[i] row=0
  .obtain⟨ys,e,hl,hy⟩:=one true (λ_=>rfl);exact⟨ys,go (by rw[Ya c0,Yb (by omega)];exact⟨by omega,by omega,e⟩),hl,hy⟩
  by_cases c1:0<Zy rows[i] row
  .rcases tf b with hb|hb
   .subst hb;obtain⟨ys,e,hl,hy⟩:=ih ((c++[row])++[rows[i]]) true (by simp;omega);refine⟨row::rows[i]::ys,go (by rw[Yb c0,Ya c1,Yb (by simp)];exact⟨by omega,by omega,by omega,by omega,by rw[wN i (by omega),e];simp⟩),?_,?_⟩
    .simp at hl|-;omega
    .intro r hr;simp only[Yl]at hr;rcases hr with hr|hr|hr
     .rw[hr];exact cc
     .rw[hr];exact hri
     .exact hy r hr
   .subst hb;obtain⟨ys,e,hl,hy⟩:=one true (λ_=>rfl);exact⟨ys,go (by rw[Yb c0,Ya c1,Ya rfl];exact⟨by omega,by omega,e⟩),hl,hy⟩
  .obtain⟨ys,e,hl,hy⟩:=one b (λh=>h);exact⟨ys,go (by rw[Yb c0,Yb c1];exact⟨by omega,by omega,e⟩),hl,hy⟩
theorem x_Put(rows:XS)(row:WA)(hr:rows.length<=1000)(h3:∀r∈rows,r.length<=3)(c:row.length<=3):∃ys:XS,K4 rows row=some (.own 0,[.arr 42 1 true (ys.map isc)])/\ys.length<=rows.length+1/\∀r∈ys,r.length<=3:=by
 obtain⟨ys,e,hl,hy⟩:=l_Put rows row hr h3 c 0 (by omega) [] false (by simp);exact⟨ys,ZwL _ _ _ e,by simpa using hl,hy⟩
theorem x_Put0(row:WA)(h:row.length<=3):K3 row=some (.own 0,[.arr 42 1 true (([row]:XS).map isc)]) :=
 ZwJ _ _ (ZwI _ _ _ _ _ (by rw[Yb (by omega),Yb (by simp)];exact⟨by omega,by simp,rfl⟩))
def GT(nm:V5)(ar:Int)(k:Nat)(R:Rs):Prop:=∃(c:Zf) (x:XS),R=some (.agg [.t (.str nm),I ar,.own 1],[cB c,.arr 42 1 true (x.map isc)])/\GC c/\x.length<=k/\∀r∈x,r.length<=3
theorem GT.of{nm:V5}{ar:Int}{k:Nat}{R R':Rs}(h:GT nm ar k R')(q:∀r,R'=some r->R=some r):GT nm ar k R:=by
 obtain⟨c,x,e,l⟩:=h;exact⟨c,x,q _ e,l⟩
section
variable(Name:V5)(Arity:Int)(nm:V5)(ar:Int)
theorem t0a(m:Nat)(hm:m<=3)(val:Int)(n K:Nat)(hK:K<=1000)(hn:n<=1000)(x:XS)(hx:x.length+(n+1)<=K)(h3:∀r∈x,r.length<=3)(H:∀c (x:XS),GC c->x.length+n<=K->(∀r∈x,r.length<=3)->GT nm ar K (ZbF c Name Arity nm ar x m val n)):∀i,i<=m->∀c row,GC c->row.length<=i->GT nm ar K (Zep c Name Arity nm ar x row m val ((n+1:Nat):Int) i):=by
 refine down _ ?_ ?_
 .intro c row g hr;obtain⟨ys,e,hl,hy⟩:=x_Put x row (by omega) h3 (by omega);refine(H c ys g (by omega) hy).of λr er=>ZwP _ _ _ _ _ _ _ _ _ _ _ _ ?_
  rw[Yb (by omega),show w (((n+1:Nat):Int)-1)=(n:Int) by rw[XL (by omega) (by omega)];omega];exact⟨ys,e,er⟩
 .intro i hi ih c row g hr;obtain⟨c1,v,e,g1,_⟩:=ZZ g val;refine(ih c1 (row++[v]) g1 (by simp;omega)).of λr er=>ZwP _ _ _ _ _ _ _ _ _ _ _ _ ?_
  rw[Ya (by omega),wN i (by omega)];exact⟨c1,v,e,by omega,er⟩
theorem t1a(m:Nat)(hm:m<=3)(val:Int)(K:Nat)(hK:K<=1000):∀n:Nat,n<=1000->∀c (x:XS),GC c->x.length+n<=K->(∀r∈x,r.length<=3)->GT nm ar K (ZbF c Name Arity nm ar x m val n)
 |0,_,c,x,g,hx,h3=>⟨c,x,ZwO _ _ _ _ _ _ _ _ _ _ (by rw[Yb (by omega)]),g,by omega,h3⟩
 |n+1,hn,c,x,g,hx,h3=>(t0a Name Arity nm ar m hm val n K hK (by omega) x hx h3 (λc x g hx h3=>t1a m hm val K hK n (by omega) c x g hx h3) 0 (by omega) c [] g (by simp)).of λr e=>ZwO _ _ _ _ _ _ _ _ _ _ (by rw[Ya (by omega)];exact e)
theorem t0(m:Nat)(hm:m<=3)(val:Int)(n K:Nat)(hK:K<=1000)(hn:n+1<=K):∀i,i<=m->∀c row,GC c->row.length<=i->GT nm ar K (Zeo c Name Arity nm ar row m val ((n+1:Nat):Int) i):=by
 refine down _ ?_ ?_
 .intro c row g hr;refine(t1a Name Arity nm ar m hm val K hK n (by omega) c [row] g (by simp;omega) (by simp;omega)).of λr er=>ZwN _ _ _ _ _ _ _ _ _ _ _ ?_
  rw[Yb (by omega),show w (((n+1:Nat):Int)-1)=(n:Int) by rw[XL (by omega) (by omega)];omega];exact⟨_,x_Put0 row (by omega),er⟩
 .intro i hi ih c row g hr;obtain⟨c1,v,e,g1,_⟩:=ZZ g val;refine(ih c1 (row++[v]) g1 (by simp;omega)).of λr er=>ZwN _ _ _ _ _ _ _ _ _ _ _ ?_
  rw[Ya (by omega),wN i (by omega)];exact⟨c1,v,e,by omega,er⟩
end
theorem ZzV{c:Zf}(g:GC c)(nm:V5)(m:Nat)(hm:m<=3)(most val:Int)(h0:0<=most)(h1:most<=100):GT nm m 100 (Vr c nm m most val):=by
 obtain⟨c1,n,e1,g1,n0,n1⟩:=ZZ g (w (most+1));have hw:w (most+1)=most+1:=XL (by omega) (by omega);rw[hw]at n1 e1;have:=n1 (by omega);obtain⟨k,rfl⟩:∃k:Nat,n=k:=⟨n.toNat,by omega⟩
 cases k with
 |zero=>exact⟨c1,[],ZwQ _ _ _ _ _ _ ⟨c1,0,by rw[hw];exact e1,ZwM _ _ _ _ _ _ _ _ _ (by rw[Yb (by omega)])⟩,g1,by simp,by simp⟩
 |succ k=>exact(t0 ⟨#[]⟩ 0 nm m m hm val k 100 (by omega) (by omega) 0 (by omega) c1 [] g1 (by simp)).of λr e=>ZwQ _ _ _ _ _ _ ⟨c1,_,by rw[hw];exact e1,ZwM _ _ _ _ _ _ _ _ _ (by rw[Ya (by omega)];exact e)⟩
def Zbb(t:Zq):Prop:=t.Rows.length<=100/\∀r∈t.Rows,r.length<=3
def GD(R:Rs):Prop:=∃(c:Zf) (d:Zn),R=some (.agg (d.c.map .t),[cB c])/\GC c/\d.Tables.length<=5/\∀t∈d.Tables,Zbb t
theorem GD.of{R R':Rs}(h:GD R')(q:∀r,R'=some r->R=some r):GD R:=by
 obtain⟨c,x,e,l⟩:=h;exact⟨c,x,q _ e,l⟩
abbrev UZ:List V5:=[(⟨#[114]⟩:V5),(⟨#[115]⟩:V5),(⟨#[116]⟩:V5),(⟨#[117]⟩:V5),(⟨#[118]⟩:V5)]
theorem d0a(val most:Int)(h0:0<=most)(h1:most<=100):∀i,i<=5->∀c (x:List Zq),GC c->x.length=i->1<=i->(∀t∈x,Zbb t)->GD (VC c x UZ val most 5 i):=by
 refine down _ ?_ ?_
 .intro c x g hx _ ht;obtain⟨c1,b,e1,g1⟩:=U1 g 8;rcases tf b with hb|hb
  .subst hb;exact⟨c1,⟨x⟩,Zgd (by rw[Yb (by omega)];exact⟨c1,false,e1,by rw[Yb (by simp)];rfl⟩),g1,by show x.length<=5;omega,ht⟩
  .subst hb;obtain⟨c2,k,e2,g2,k0,k1⟩:=ZZ g1 5;obtain⟨t,he,hm⟩:=Ji (l:=x) k0 (by have:=k1 (by omega);omega);refine⟨c2,⟨x.set k.toNat ⟨t.Name,t.Arity,[]⟩⟩,Zgd (by rw[Yb (by omega)];exact⟨c1,true,e1,by rw[Ya rfl];exact⟨c2,k,e2,k0,t,he,rfl⟩⟩),g2,by show(x.set _ _).length<=5;rw[Ybq];omega,?_⟩;intro u hu;rcases Yc7 hu with h|h
   .exact ht u h
   .subst h;exact⟨by simp,by simp⟩
 .intro i hi ih c x g hx h1i ht;have go:∀(nm:V5) (m:Nat),m<=3->GT nm m 100 (Vr c nm m most val):=λnm m hm=>ZzV g nm m hm most val h0 h1
  have hn:UZ[(i:Int).toNat]?=some UZ[i]:=gE (xs:=UZ) hi;have nxt:∀(m:Nat),m<=3->∃c1 y,Vr c UZ[i] m most val=some (.agg [.t (.str UZ[i]),I m,.own 1],[cB c1,.arr 42 1 true (y.map isc)])/\GD (VC c1 (x++[(⟨UZ[i],m,y⟩:Zq)]) UZ val most 5 (w ((i:Int)+1))):=by
   intro m hm;obtain⟨c1,y,e,g1,hl,h3⟩:=go UZ[i] m hm;refine⟨c1,y,e,?_⟩;rw[wN i (by omega)];refine ih c1 _ g1 (by simp;omega) (by omega) ?_;intro t hm;rcases Yk.1 hm with hm|hm
   .exact ht t hm
   .simp at hm;subst hm;exact⟨hl,h3⟩
  by_cases u:UZ[i]=(⟨#[117]⟩:V5)
  .obtain⟨c1,y,e,G⟩:=nxt 3 (by omega);refine G.of λr er=>Zgd ?_
   rw[Ya (by omega)];refine⟨by omega,_,hn,?_⟩;rw[Ya u,Yb (by rw[u];decide)];exact⟨c1,y,_,_,e,by omega,er⟩
  by_cases v:UZ[i]=(⟨#[118]⟩:V5)
  .obtain⟨c1,y,e,G⟩:=nxt 1 (by omega);refine G.of λr er=>Zgd ?_
   rw[Ya (by omega)];refine⟨by omega,_,hn,?_⟩;rw[Yb u,Ya v];exact⟨c1,y,_,_,e,by omega,er⟩
  .obtain⟨c1,y,e,G⟩:=nxt 2 (by omega);refine G.of λr er=>Zgd ?_
   rw[Ya (by omega)];refine⟨by omega,_,hn,?_⟩;rw[Yb u,Yb v];exact⟨c1,y,_,_,e,by omega,er⟩
theorem ZzW{c:Zf}(g:GC c):GD (ZbH c):=by
 obtain⟨c1,val,e1,g1,_⟩:=Uc g [2,3,4,6] (by simp) (by simp);obtain⟨c2,most,e2,g2,hm⟩:=Uc g1 [2,4,6,8] (by simp) (by simp);have hm:0<=most/\most<=100:=by
  simp only[Yl,List.not_mem_nil,or_false]at hm;omega
 obtain⟨c3,y,e3,g3,hl,h3⟩:=ZzV g2 (⟨#[114]⟩:V5) 2 (by omega) most val hm.1 hm.2;refine(d0a val most hm.1 hm.2 1 (by omega) c3 [⟨(⟨#[114]⟩:V5),2,y⟩] g3 rfl (by omega) (by intro t ht;simp at ht;subst ht;exact⟨hl,h3⟩)).of λr e=>Z6J _ _ ⟨c1,_,val,e1,c2,_,most,e2,Z6Q ?_⟩
 rw[Ya (by decide)];refine⟨by omega,(⟨#[114]⟩:V5),rfl,?_⟩;rw[Yb (by decide),Yb (by decide)];exact⟨c3,y,_,_,e3,e⟩
theorem Zbb.le{d:Zn}(h5:d.Tables.length<=5)(h:∀t∈d.Tables,Zbb t):LeD d:=⟨by omega,λt ht=>⟨by have:=(h t ht).1;omega,λr hr=>by have:=(h t ht).2 r hr;omega⟩⟩
theorem ZzX(d:Zn)(hd:LeD d)(q:Ze)(hq:LeQ q)(m:Int):∃n,Vt d q m=some (I n,[]):=by
 have off:JV d q m=some (.tup [.agg [.t .nil,.t .nil],Bo false],[])->∃n,Vt d q m=some (I n,[]):=λh=>⟨-1,Zx0 _ _ _ _ (.inl ⟨h,rfl⟩)⟩
 rcases tf (Z6 d q)with hf|hf
 .exact off (Zpv _ _ _ _ ⟨_,Zdy d hd q hq,by rw[hf,Yb (by simp)]⟩)
 .have hv:Zu q.Zk q.Atoms=true:=by unfold Z6 at hf;simp only[Ye]at hf;exact hf.1
  have hm:=ZpY (q:=q) hv;rcases tf (inR m 1 (We q.Zk q.Atoms))with hi|hi
  .exact off (Zpv _ _ _ _ ⟨_,Zdy d hd q hq,by rw[hf,Ya rfl];exact⟨_,ZpD q hq,_,XD _ _ _,by rw[hi,Yb (by simp)]⟩⟩)
  .have hi2:=Zz5.1 hi;exact⟨_,ZzT d hd q hq hf m hi2.1 ⟨by omega,by have:=hm.2;omega⟩ hi2.2⟩
end Go.Proofs.YtgbipcfdgfjplaaGreat
namespace Go.Stb
open Go.Sort
variable{α:Type}[Inhabited α](k:α->Int)
def ltK(x y:α):Bool:=decide (k x<k y)
def Srt(a b:Nat)(d:Array α):Prop:=∀x y,a<=x->x<y->y<b->k d[x]!<=k d[y]!
structure Stp (a b:Nat) (d e:Array α):Prop where
 size:e.size=d.size
 out:∀x,(x<a\/b<=x)->e[x]! = d[x]!
 pres:∀P:α->Prop,(∀x,a<=x->x<b->P d[x]!)->∀x,a<=x->x<b->P e[x]!
 stab:∀v:Int,e.toList.filter (λx=>decide (k x=v))=d.toList.filter (λx=>decide (k x=v))
variable{k}
omit [Inhabited α] in
theorem swoK:SWO (ltK k) where
 irrefl x:=by simp[ltK]
 trans x y z h1 h2:=by simp only[ltK,decide_eq_true_eq]at *;omega
 ntrans x y z h1 h2:=by simp only[ltK,decide_eq_false_iff_not]at *;omega
theorem Stp.refl(a b:Nat)(d:Array α):Stp k a b d d:=⟨rfl,λ_ _=>rfl,λP h=>h,λ_=>rfl⟩
theorem Stp.trans{a b:Nat}{d e f:Array α}(h:Stp k a b d e)(g:Stp k a b e f):Stp k a b d f :=
 ⟨g.size.trans h.size,λx hx=>(g.out x hx).trans (h.out x hx),λP hp=>g.pres P (h.pres P hp),λv=>(g.stab v).trans (h.stab v)⟩
theorem Stp.mono{a b a' b':Nat}{d e:Array α}(h:Stp k a b d e)(ha:a'<=a)(hb:b<=b'):Stp k a' b' d e where
 size:=h.size
 out x hx:=h.out x (by omega)
 pres P hp x h1 h2:=by
  by_cases hx:a<=x/\x<b
  .exact h.pres P (λy y1 y2=>hp y (by omega) (by omega)) x hx.1 hx.2
  .rw[h.out x (by omega)];exact hp x h1 h2
 stab:=h.stab
theorem Srt.out{a b c d:Nat}{x y:Array α}(h:Srt k a b x)(g:Stp k c d x y)(hd:b<=c\/d<=a):Srt k a b y:=by
 intro i j h1 h2 h3;rw[g.out i (by omega),g.out j (by omega)];exact h i j h1 h2 h3
theorem Srt.sub{a b a' b':Nat}{x:Array α}(h:Srt k a b x)(ha:a<=a')(hb:b'<=b):Srt k a' b' x :=
 λi j h1 h2 h3=>h i j (by omega) h2 (by omega)
theorem Srt.le{a b:Nat}{x:Array α}(h:Srt k a b x){i j:Nat}(h1:a<=i)(h2:i<=j)(h3:j<b):k x[i]!<=k x[j]!:=by
 by_cases e:i=j
 .subst e;exact Int.le_refl _
 .exact h i j h1 (by omega) h3
theorem U4(d:Array α)(x:Nat)(h:x<d.size):d.toList[x]?=some d[x]!:=by
 rw[Array.getElem?_toList,Array.getElem?_eq_getElem h,getElem!_pos d x h]
theorem Zqh{l:List α}{e:Array α}(hl:l.length=e.size)(h:∀x,x<e.size->l[x]?=some e[x]!):e.toList=l:=by
 apply List.ext_getElem?;intro x;by_cases hx:x<e.size
 .rw[U4 e x hx,h x hx]
 .rw[List.getElem?_eq_none (by simpa using hx),List.getElem?_eq_none (by omega)]
omit [Inhabited α] in
theorem ZzY(p x y s:List α)(v:Int)(h:∀a∈x,∀b∈y,k a≠k b):(p++y++x++s).filter (λa=>decide (k a=v))=(p++x++y++s).filter (λa=>decide (k a=v)):=by
 simp only[List.filter_append];by_cases hx:x.filter (λa=>decide (k a=v))=[]
 .rw[hx];simp
 .by_cases hy:y.filter (λa=>decide (k a=v))=[]
  .rw[hy];simp
  .obtain⟨a,ha⟩:=List.exists_mem_of_ne_nil _ hx;obtain⟨b,hb⟩:=List.exists_mem_of_ne_nil _ hy;simp only[List.mem_filter,decide_eq_true_eq]at ha hb;exact absurd (ha.2.trans hb.2.symm) (h a ha.1 b hb.1)
theorem ZAL(d:Array α)(i:Nat)(h:i+1<d.size):(swp d (i+1) i).toList=d.toList.take i++[d[i+1]!]++[d[i]!]++d.toList.drop (i+2):=by
 refine Zqh (by simp[swp_size];omega) λx hx=>?_
 rw[swp_size]at hx;rw[swp_get d h (show i<d.size by omega)];by_cases h1:x<i
 .rw[if_neg (by omega),if_neg (by omega),List.append_assoc,List.append_assoc,List.getElem?_append_left (by simp;omega),List.getElem?_take,if_pos h1,U4 d x hx]
 .by_cases h2:x=i
  .subst h2;rw[if_pos rfl,List.append_assoc,List.append_assoc,List.getElem?_append_right (by simp;omega)];simp[show min x d.size=x by omega]
  .by_cases h3:x=i+1
   .subst h3;rw[if_neg (by omega),if_pos rfl,List.append_assoc,List.append_assoc,List.getElem?_append_right (by simp;omega)];simp[show min i d.size=i by omega,show i+1-i=1 by omega]
   .rw[if_neg h2,if_neg h3,List.getElem?_append_right (by simp;omega),List.getElem?_drop];rw[show i+2+(x-(d.toList.take i++[d[i+1]!]++[d[i]!]).length)=x by simp;omega];exact U4 d x hx
theorem Zqi(d:Array α)(i:Nat)(h:i+1<d.size):d.toList=d.toList.take i++[d[i]!]++[d[i+1]!]++d.toList.drop (i+2):=by
 refine Zqh (by simp;omega) λx hx=>?_
 by_cases h1:x<i
 .rw[List.append_assoc,List.append_assoc,List.getElem?_append_left (by simp;omega),List.getElem?_take,if_pos h1,U4 d x hx]
 .by_cases h2:x=i
  .subst h2;rw[List.append_assoc,List.append_assoc,List.getElem?_append_right (by simp;omega)];simp[show min x d.size=x by omega]
  .by_cases h3:x=i+1
   .subst h3;rw[List.append_assoc,List.append_assoc,List.getElem?_append_right (by simp;omega)];simp[show min i d.size=i by omega,show i+1-i=1 by omega]
   .rw[List.getElem?_append_right (by simp;omega),List.getElem?_drop];rw[show i+2+(x-(d.toList.take i++[d[i]!]++[d[i+1]!]).length)=x by simp;omega];exact U4 d x hx
theorem Zj1(d:Array α)(i:Nat)(h:i+1<d.size)(hk:k d[i+1]!<k d[i]!):Stp k i (i+2) d (swp d (i+1) i):=by
 have g:=swp_get d h (show i<d.size by omega);refine⟨swp_size _ _ _,λx hx=>by rw[g,if_neg (by omega),if_neg (by omega)],λP hp x h1 h2=>?_,λv=>?_⟩
 .rw[g];split
  .exact hp _ (by omega) (by omega)
  .split
   .exact hp _ (by omega) (by omega)
   .exact hp _ h1 h2
 .rw[ZAL d i h,Zqi d i h];have hl:(d.toList.take i++[d[i]!]++[d[i+1]!]++d.toList.drop (i+2)).take i=d.toList.take i:=by rw[<-Zqi d i h]
  have hr:(d.toList.take i++[d[i]!]++[d[i+1]!]++d.toList.drop (i+2)).drop (i+2)=d.toList.drop (i+2):=by rw[<-Zqi d i h]
  rw[hl,hr];exact ZzY _ _ _ _ v (by simp;omega)
theorem ZAM(d:Array α)(i j:Nat)(hi:i<d.size)(hj:j<d.size):swp d i j=swp d j i:=by
 refine Array.ext (by rw[swp_size,swp_size]) λx h1 h2=>?_
 have g1:=swp_get d hi hj x;have g2:=swp_get d hj hi x;rw[getElem!_pos _ x h1]at g1;rw[getElem!_pos _ x h2]at g2;rw[g1,g2];by_cases e1:x=j
 .by_cases e2:x=i
  .subst e1;subst e2;rfl
  .rw[if_pos e1,if_neg e2,if_pos e1]
 .by_cases e2:x=i
  .rw[if_neg e1,if_pos e2,if_pos e2]
  .rw[if_neg e1,if_neg e2,if_neg e2,if_neg e1]
theorem Zqj(a:Nat):∀(j:Nat) (d:Array α) (b:Nat),a<=j->j<b->b<=d.size->Stp k a b d (insInner (ltK k) a j d)
 |0,d,b,_,_,_=>by unfold insInner;exact .refl _ _ _
 |j+1,d,b,haj,hjb,hb=>by
  unfold insInner;split
  .rename_i hc;simp only[Bool.and_eq_true,decide_eq_true_eq,ltK]at hc;exact((Zj1 d j (by omega) hc.2).mono (by omega) (by omega)).trans (Zqj a j _ b (by omega) (by omega) (by rw[swp_size];exact hb))
  .exact .refl _ _ _
theorem ZzZ(a b:Nat):∀(n i:Nat) (d:Array α),b-i=n->a<i->b<=d.size->Stp k a b d (insOuter (ltK k) a b i d)
 |0,i,d,hn,_,_=>by rw[insOuter,if_neg (by omega)];exact .refl _ _ _
 |n+1,i,d,hn,hai,hb=>by
  rw[insOuter,if_pos (by omega)];have h1:=Zqj (k:=k) a i d b (by omega) (by omega) hb;exact h1.trans (ZzZ a b n (i+1) _ (by omega) (by omega) (by rw[h1.size];exact hb))
theorem ZAN(d:Array α)(a b:Nat)(hb:b<=d.size):Stp k a b d (insertionSort (ltK k) d a b):=ZzZ a b _ _ d rfl (by omega) hb
theorem ZAO(d:Array α)(a b:Nat)(c:a<=b)(hb:b<=d.size):Srt k a b (insertionSort (ltK k) d a b):=by
 have h:=(insertionSort_holds (lt:=ltK k) swoK d a b c hb).2;intro x y h1 h2 h3;have:=h x y h1 h2 h3;simp only[ltK,decide_eq_false_iff_not]at this;omega
def swr(a b:Nat):Nat->Array α->Array α
 |0,d=>d
 |n+1,d=>swp (swr a b n d) (a+n) (b+n)
theorem Q1(a b:Nat):∀(n:Nat) (d:Array α),(swr a b n d).size=d.size
 |0,d=>rfl
 |n+1,d=>by rw[swr,swp_size,Q1]
theorem Z0a(a b:Nat):∀(n:Nat) (d:Array α),a+n<=b->b+n<=d.size->∀x,(swr a b n d)[x]! = if a<=x/\x<a+n then d[b+(x-a)]! else if b<=x/\x<b+n then d[a+(x-b)]! else d[x]!
 |0,d,_,_,x=>by rw[if_neg (by omega),if_neg (by omega)];rfl
 |n+1,d,h1,h2,x=>by
  have ih:=Z0a a b n d (by omega) (by omega);rw[swr,swp_get _ (by rw[Q1];omega) (by rw[Q1];omega),ih,ih,ih];by_cases e1:x=b+n
  .subst e1;rw[if_pos rfl,if_neg (by omega),if_neg (by omega),if_neg (by omega),if_pos (by omega)];congr 1;omega
  .rw[if_neg e1];by_cases e2:x=a+n
   .subst e2;rw[if_pos rfl,if_neg (by omega),if_neg (by omega),if_pos (by omega)];congr 1;omega
   .rw[if_neg e2];by_cases e3:a<=x/\x<a+n
    .rw[if_pos e3,if_pos (by omega)]
    .rw[if_neg e3,if_neg (show ¬(a<=x/\x<a+(n+1)) by omega)];by_cases e4:b<=x/\x<b+n
     .rw[if_pos e4,if_pos (by omega)]
     .rw[if_neg e4,if_neg (by omega)]
theorem Zqk(d:Array α)(p x m y s:List α)(h:d.toList=p++(x++(m++(y++s))))(c:y.length=x.length){a b n:Nat}(ha:a=p.length)(hb:b=a+x.length+m.length)(hn:n=x.length) :
  (swr a b n d).toList=p++(y++(m++(x++s))):=by
 have hs:d.size=p.length+(x.length+(m.length+(y.length+s.length))):=by
  rw[<-Array.length_toList,h];simp
 have hd:∀i,i<d.size->(p++(x++(m++(y++s))))[i]?=some d[i]!:=λi hi=>by rw[<-h];exact U4 d i hi
 refine Zqh (by rw[Q1,hs];simp;omega) λi hi=>?_
 rw[Q1]at hi;rw[Z0a a b n d (by omega) (by omega)];by_cases e0:i<p.length
 .have:=hd i hi;rw[List.getElem?_append_left e0]at this|-;rw[if_neg (by omega),if_neg (by omega)];exact this
 .rw[List.getElem?_append_right (by omega)];by_cases e1:i-p.length<y.length
  .have:=hd (b+(i-a)) (by omega);rw[List.getElem?_append_right (by omega),List.getElem?_append_right (by omega),List.getElem?_append_right (by omega),List.getElem?_append_left (by omega)]at this;rw[List.getElem?_append_left e1,if_pos (by omega),<-this];congr 1;omega
  .rw[List.getElem?_append_right (by omega)];by_cases e2:i-p.length-y.length<m.length
   .have:=hd i hi;rw[List.getElem?_append_right (by omega),List.getElem?_append_right (by omega),List.getElem?_append_left (by omega)]at this;rw[List.getElem?_append_left e2,if_neg (by omega),if_neg (by omega),<-this];congr 1;omega
   .rw[List.getElem?_append_right (by omega)];by_cases e3:i-p.length-y.length-m.length<x.length
    .have:=hd (a+(i-b)) (by omega);rw[List.getElem?_append_right (by omega),List.getElem?_append_left (by omega)]at this;rw[List.getElem?_append_left e3,if_neg (by omega),if_pos (by omega),<-this];congr 1;omega
    .have:=hd i hi;rw[List.getElem?_append_right (by omega),List.getElem?_append_right (by omega),List.getElem?_append_right (by omega),List.getElem?_append_right (by omega)]at this;rw[List.getElem?_append_right (by omega),if_neg (by omega),if_neg (by omega),<-this];congr 1;omega
structure Rot (a m b:Nat) (d:Array α) (i j:Nat) (e:Array α):Prop where
 size:e.size=d.size
 ex:∀P X Y S,d.toList=P++(X++(Y++S))->P.length=a->a+X.length=m->m+Y.length=b->
  ∃p x y s,e.toList=p++(x++(y++s))/\p.length=m-i/\x.length=i/\y.length=j/\p++(y++(x++s))=P++(Y++(X++S))
omit [Inhabited α] in
theorem Rot.start{a m b:Nat}(d:Array α)(h1:a<=m)(h2:m<=b):Rot a m b d (m-a) (b-m) d :=
 ⟨rfl,λP X Y S h p1 p2 p3=>⟨P,X,Y,S,h,by omega,by omega,by omega,rfl⟩⟩
theorem Rot.gt{a m b i j:Nat}{d e:Array α}(R:Rot a m b d i j e)(h:j<i)(hi:i<=m):Rot a m b d (i-j) j (swr (m-i) m j e):=by
 refine⟨(Q1 _ _ _ _).trans R.size,λP X Y S h0 p1 p2 p3=>?_⟩;obtain⟨p,x,y,s,he,q1,q2,q3,q4⟩:=R.ex P X Y S h0 p1 p2 p3;refine⟨p++y,x.drop j,x.take j,s,?_,by simp;omega,by simp;omega,by simp;omega,?_⟩
 .rw[Zqk e p (x.take j) (x.drop j) y s (by rw[he,<-List.append_assoc (x.take j),List.take_append_drop]) (by simp;omega) (by omega) (by simp;omega) (by simp;omega)];simp
 .rw[<-q4];simp only[List.append_assoc];rw[<-List.append_assoc (x.take j),List.take_append_drop]
theorem Rot.lt{a m b i j:Nat}{d e:Array α}(R:Rot a m b d i j e)(h:i<j)(hi:i<=m):Rot a m b d i (j-i) (swr (m-i) (m+j-i) i e):=by
 refine⟨(Q1 _ _ _ _).trans R.size,λP X Y S h0 p1 p2 p3=>?_⟩;obtain⟨p,x,y,s,he,q1,q2,q3,q4⟩:=R.ex P X Y S h0 p1 p2 p3;refine⟨p,y.drop (j-i),y.take (j-i),x++s,?_,by omega,by simp;omega,by simp;omega,?_⟩
 .rw[Zqk e p x (y.take (j-i)) (y.drop (j-i)) s (by rw[he,<-List.append_assoc (y.take (j-i)),List.take_append_drop]) (by simp;omega) (by omega) (by simp;omega) (by omega)]
 .rw[<-q4,<-List.append_assoc (y.take (j-i)),List.take_append_drop]
theorem Rot.eq{a m b i:Nat}{d e:Array α}(R:Rot a m b d i i e)(hi:i<=m):∀P X Y S,d.toList=P++(X++(Y++S))->P.length=a->a+X.length=m->m+Y.length=b->(swr (m-i) m i e).toList=P++(Y++(X++S)):=by
 intro P X Y S h0 p1 p2 p3;obtain⟨p,x,y,s,he,q1,q2,q3,q4⟩:=R.ex P X Y S h0 p1 p2 p3;rw[Zqk e p x [] y s he (by omega) (by omega) (by simp;omega) (by omega),<-q4];rfl
structure Rtd (a m b:Nat) (d e:Array α):Prop where
 size:e.size=d.size
 lo:∀x,a<=x->x<a+(b-m)->e[x]! = d[m+(x-a)]!
 hi:∀x,a+(b-m)<=x->x<b->e[x]! = d[a+(x-(a+(b-m)))]!
 out:∀x,(x<a\/b<=x)->e[x]! = d[x]!
 list:e.toList=d.toList.take a++((d.toList.drop m).take (b-m)++((d.toList.drop a).take (m-a)++d.toList.drop b))
omit [Inhabited α] in
theorem Zql(d:Array α)(a m b:Nat)(h1:a<=m)(h2:m<=b)(h3:b<=d.size):d.toList=d.toList.take a++((d.toList.drop a).take (m-a)++((d.toList.drop m).take (b-m)++d.toList.drop b)):=by
 have e1:d.toList.drop b=(d.toList.drop m).drop (b-m):=by rw[List.drop_drop];congr 1;omega
 have e2:d.toList.drop m=(d.toList.drop a).drop (m-a):=by rw[List.drop_drop];congr 1;omega
 rw[e1,List.take_append_drop,e2,List.take_append_drop,List.take_append_drop]
theorem rtd_of{a m b:Nat}{d e:Array α}(h1:a<=m)(h2:m<=b)(h3:b<=d.size)(h:∀P X Y S,d.toList=P++(X++(Y++S))->P.length=a->a+X.length=m->m+Y.length=b->e.toList=P++(Y++(X++S))):Rtd a m b d e:=by
 have hl:=h _ _ _ _ (Zql d a m b h1 h2 h3) (by simp;omega) (by simp;omega) (by simp;omega);have hs:e.size=d.size:=by rw[<-Array.length_toList,hl];simp;omega
 have hg:∀x,x<d.size->some e[x]! = (d.toList.take a++((d.toList.drop m).take (b-m)++((d.toList.drop a).take (m-a)++d.toList.drop b)))[x]?:=λx hx=>by rw[<-hl,U4 e x (by omega)]
 refine⟨hs,λx p q=>?_,λx p q=>?_,λx p=>?_,hl⟩
 .have:=hg x (by omega);rw[List.getElem?_append_right (by simp;omega),List.getElem?_append_left (by simp;omega),List.getElem?_take,if_pos (by simp;omega),List.getElem?_drop,U4 d _ (by simp;omega)]at this;rw[Option.some.inj this];congr 1;simp;omega
 .have:=hg x (by omega);rw[List.getElem?_append_right (by simp;omega),List.getElem?_append_right (by simp;omega),List.getElem?_append_left (by simp;omega),List.getElem?_take,if_pos (by simp;omega),List.getElem?_drop,U4 d _ (by simp;omega)]at this;rw[Option.some.inj this];congr 1;simp;omega
 .by_cases hx:x<d.size
  .have:=hg x hx;rcases p with p|p
   .rw[List.getElem?_append_left (by simp;omega),List.getElem?_take,if_pos p,U4 d _ hx]at this;exact Option.some.inj this
   .rw[List.getElem?_append_right (by simp;omega),List.getElem?_append_right (by simp;omega),List.getElem?_append_right (by simp;omega),List.getElem?_drop,U4 d _ (by simp;omega)]at this;rw[Option.some.inj this];congr 1;simp;omega
  .rw[getElem!_neg e x (by omega),getElem!_neg d x hx]
theorem Rtd.stp{a m b:Nat}{d e:Array α}(R:Rtd a m b d e)(h1:a<=m)(h2:m<=b)(h3:b<=d.size)(hk:∀x y,a<=x->x<m->m<=y->y<b->k d[y]!<k d[x]!):Stp k a b d e:=by
 refine⟨R.size,R.out,λP hp x p q=>?_,λv=>?_⟩
 .by_cases hx:x<a+(b-m)
  .rw[R.lo x p hx];exact hp _ (by omega) (by omega)
  .rw[R.hi x (by omega) q];exact hp _ (by omega) (by omega)
 .have hc:=Zql d a m b h1 h2 h3;have hl:=R.list;generalize hP:d.toList.take a=P at hc hl;generalize hX:(d.toList.drop a).take (m-a)=X at hc hl;generalize hY:(d.toList.drop m).take (b-m)=Y at hc hl;generalize d.toList.drop b=S at hc hl;rw[hl,hc]
  have:=ZzY (k:=k) P X Y S v (λx hx y hy=>by
   rw[<-hX]at hx;rw[<-hY]at hy;obtain⟨i,hi,ei⟩:=List.getElem_of_mem hx;obtain⟨j,hj,ej⟩:=List.getElem_of_mem hy;simp only[List.length_take,List.length_drop,Array.length_toList]at hi hj;rw[List.getElem_take,List.getElem_drop]at ei ej;have:=hk (a+i) (m+j) (by omega) (by omega) (by omega) (by omega);rw[getElem!_pos d _ (by omega),getElem!_pos d _ (by omega)]at this;rw[<-ei,<-ej,Array.getElem_toList,Array.getElem_toList]
   omega)
  simpa only[List.append_assoc]using this
end Go.Stb
namespace Go.Stb
open Go.Sort
variable{α:Type}[Inhabited α]{k:α->Int}
structure Shl (a q:Nat) (d e:Array α):Prop where
 size:e.size=d.size
 aq:a<=q
 le:∀x,a<=x->x<q->e[x]! = d[x+1]!
 at_:e[q]! = d[a]!
 out:∀x,(x<a\/q<x)->e[x]! = d[x]!
theorem Shl.start(a:Nat)(d:Array α):Shl a a d d:=⟨rfl,Nat.le_refl _,λx h1 h2=>by omega,rfl,λ_ _=>rfl⟩
theorem Shl.next{a q:Nat}{d e:Array α}(h:Shl a q d e)(hq:q+1<d.size):Shl a (q+1) d (swp e (q+1) q):=by
 have hs:=h.size;have haq:=h.aq;have g:=swp_get e (show q+1<e.size by omega) (show q<e.size by omega);refine⟨(swp_size _ _ _).trans hs,by omega,λx h1 h2=>?_,?_,λx hx=>?_⟩
 .rw[g];by_cases e1:x=q
  .subst e1;rw[if_pos rfl,h.out _ (by omega)]
  .rw[if_neg e1,if_neg (by omega)];exact h.le x h1 (by omega)
 .rw[g,if_neg (by omega),if_pos rfl,h.at_]
 .rw[g,if_neg (by omega),if_neg (by omega)];exact h.out x (by omega)
theorem Shl.stp{a q:Nat}{d e:Array α}(h:Shl a q d e)(hq:q+1<d.size)(hk:k d[q+1]!<k d[a]!):Stp k q (q+2) e (swp e (q+1) q) :=
 Zj1 e q (by rw[h.size];exact hq) (by rw[h.at_,h.out _ (by omega)];exact hk)
theorem Shl.srt{a i b:Nat}{d e:Array α}(h:Shl a i d e)(hs:Srt k (a+1) b d)(h1:i=a\/k d[i]!<k d[a]!)(h2:i+1=b\/k d[a]!<=k d[i+1]!)(c:i<b):Srt k a b e:=by
 have hi:=h.aq;intro x y hx hxy hy;by_cases e1:y<i
 .rw[h.le x hx (by omega),h.le y (by omega) e1];exact hs _ _ (by omega) (by omega) (by omega)
 .by_cases e2:y=i
  .subst e2;rw[h.le x hx hxy,h.at_];have:=hs.le (i:=x+1) (j:=y) (by omega) (by omega) (by omega);rcases h1 with h1|h1<;>omega
  .rw[h.out y (by omega)];by_cases e3:x=i
   .subst e3;rw[h.at_];have:=hs.le (i:=x+1) (j:=y) (by omega) (by omega) hy;rcases h2 with h2|h2<;>omega
   .by_cases e4:x<i
    .rw[h.le x hx e4];exact hs _ _ (by omega) (by omega) hy
    .rw[h.out x (by omega)];exact hs _ _ (by omega) hxy hy
structure Shr (q m:Nat) (d e:Array α):Prop where
 size:e.size=d.size
 qm:q<=m
 le:∀x,q<x->x<=m->e[x]! = d[x-1]!
 at_:e[q]! = d[m]!
 out:∀x,(x<q\/m<x)->e[x]! = d[x]!
theorem Shr.start(m:Nat)(d:Array α):Shr m m d d:=⟨rfl,Nat.le_refl _,λx h1 h2=>by omega,rfl,λ_ _=>rfl⟩
theorem Shr.next{q m:Nat}{d e:Array α}(h:Shr (q+1) m d e)(hm:m<d.size):Shr q m d (swp e (q+1) q):=by
 have hs:=h.size;have hqm:=h.qm;have g:=swp_get e (show q+1<e.size by omega) (show q<e.size by omega);refine⟨(swp_size _ _ _).trans hs,by omega,λx h1 h2=>?_,?_,λx hx=>?_⟩
 .rw[g,if_neg (by omega)];by_cases e1:x=q+1
  .subst e1;rw[if_pos rfl,h.out _ (by omega)];rfl
  .rw[if_neg e1];exact h.le x (by omega) h2
 .rw[g,if_pos rfl,h.at_]
 .rw[g,if_neg (by omega),if_neg (by omega)];exact h.out x (by omega)
theorem Shr.stp{q m:Nat}{d e:Array α}(h:Shr (q+1) m d e)(hm:m<d.size)(hk:k d[m]!<k d[q]!):Stp k q (q+2) e (swp e (q+1) q):=by
 have:=h.qm;exact Zj1 e q (by rw[h.size];omega) (by rw[h.at_,h.out _ (by omega)];exact hk)
theorem Shr.srt{a i m:Nat}{d e:Array α}(h:Shr i m d e)(hs:Srt k a m d)(h1:i=a\/k d[i-1]!<=k d[m]!)(h2:i=m\/k d[m]!<k d[i]!)(c:a<=i):Srt k a (m+1) e:=by
 have hi:=h.qm;intro x y hx hxy hy;by_cases e1:i<x
 .rw[h.le x e1 (by omega),h.le y (by omega) (by omega)];exact hs _ _ (by omega) (by omega) (by omega)
 .by_cases e2:x=i
  .subst e2;rw[h.at_,h.le y hxy (by omega)];have:=hs.le (i:=x) (j:=y-1) (by omega) (by omega) (by omega);rcases h2 with h2|h2<;>omega
  .rw[h.out x (by omega)];by_cases e3:y=i
   .subst e3;rw[h.at_];have:=hs.le (i:=x) (j:=y-1) (by omega) (by omega) (by omega);rcases h1 with h1|h1<;>omega
   .by_cases e4:i<y
    .rw[h.le y e4 (by omega)];exact hs.le (by omega) (by omega) (by omega)
    .rw[h.out y (by omega)];exact hs _ _ (by omega) hxy (by omega)
structure Cut (k:α->Int) (a m b mid s:Nat) (d:Array α):Prop where
 am:a<m
 mb:m<b
 sz:b<=d.size
 l1:a<mid
 l2:mid<b
 s1:a<=s
 s2:s<=m
 s3:s<=mid
 s4:mid+m<=s+b
 lo:Srt k a m d
 hi:Srt k m b d
 c1:(s=a\/mid+m=s+b)\/k d[s-1]!<=k d[mid+m-s]!
 c2:(s=mid\/s=m)\/k d[mid+m-s-1]!<k d[s]!
theorem ZAP{s m e:Nat}(d:Array α)(h1:s<=m)(h2:m<=e)(h3:e<=d.size)(h:s=m\/e=m):Rtd s m e d d:=by
 refine⟨rfl,λx p q=>?_,λx p q=>?_,λ_ _=>rfl,?_⟩
 .congr 1;omega
 .congr 1;omega
 .have hc:=Zql d s m e h1 h2 h3;rcases h with h|h
  .rw[h,Nat.sub_self,List.take_zero]at hc|-;simpa using hc
  .rw[h,Nat.sub_self,List.take_zero]at hc|-;simpa using hc
structure Zj2 (k:α->Int) (a b mid s t:Nat) (d e:Array α):Prop where
 stp:Stp k a b d e
 q1:Srt k a s e
 q2:Srt k s mid e
 q3:Srt k mid t e
 q4:Srt k t b e
 cross:∀x y,a<=x->x<mid->mid<=y->y<b->k e[x]!<=k e[y]!
theorem Cut.turn{a m b mid s:Nat}{d e:Array α}(C:Cut k a m b mid s d)(R:Rtd s m (mid+m-s) d e):Zj2 k a b mid s (mid+m-s) d e:=by
 obtain⟨am,mb,sz,l1,l2,s1,s2,s3,s4,lo,hi,c1,c2⟩:=C;have hlo:∀x,s<=x->x<mid->e[x]! = d[m+(x-s)]!:=λx p q=>R.lo x p (by omega)
 have hhi:∀x,mid<=x->x<mid+m-s->e[x]! = d[s+(x-mid)]!:=λx p q=>by
  rw[R.hi x (by omega) q];congr 1;omega
 refine⟨?_,?_,?_,?_,?_,?_⟩
 .refine(R.stp s2 (by omega) (by omega) λx y p q r t=>?_).mono s1 (by omega);have h1:=lo.le (i:=s) (j:=x) s1 p q;have h2:=hi.le (i:=y) (j:=mid+m-s-1) r (by omega) (by omega);rcases c2 with c2|c2<;>omega
 .intro x y p q r;rw[R.out x (by omega),R.out y (by omega)];exact lo x y p q (by omega)
 .intro x y p q r;rw[hlo x p (by omega),hlo y (by omega) r];exact hi _ _ (by omega) (by omega) (by omega)
 .intro x y p q r;rw[hhi x p (by omega),hhi y (by omega) r];exact lo _ _ (by omega) (by omega) (by omega)
 .intro x y p q r;rw[R.out x (by omega),R.out y (by omega)];exact hi x y (by omega) q r
 .intro x y p q r t;by_cases hx:x<s
  .rw[R.out x (by omega)];by_cases hy:y<mid+m-s
   .rw[hhi y r hy];exact lo.le p (by omega) (by omega)
   .rw[R.out y (by omega)];have h1:=lo.le (i:=x) (j:=s-1) p (by omega) (by omega);have h2:=hi.le (i:=mid+m-s) (j:=y) (by omega) (by omega) t;rcases c1 with c1|c1<;>omega
  .rw[hlo x (by omega) q];by_cases hy:y<mid+m-s
   .rw[hhi y r hy];have h1:=hi.le (i:=m+(x-s)) (j:=mid+m-s-1) (by omega) (by omega) (by omega);have h2:=lo.le (i:=s) (j:=s+(y-mid)) s1 (by omega) (by omega);rcases c2 with c2|c2<;>omega
   .rw[R.out y (by omega)];exact hi.le (by omega) (by omega) t
theorem Zj2.join{a b mid s t:Nat}{d e f g:Array α}(C:Zj2 k a b mid s t d e)(h1:a<=mid)(h2:mid<=b)(F:Stp k a mid e f)(F':Srt k a mid f)(G:Stp k mid b f g)(G':Srt k mid b g):Stp k a b d g/\Srt k a b g:=by
 refine⟨(C.stp.trans (F.mono (Nat.le_refl _) h2)).trans (G.mono h1 (Nat.le_refl _)),?_⟩;intro x y p q r;by_cases hy:y<mid
 .rw[G.out x (by omega),G.out y (by omega)];exact F' x y p q hy
 .by_cases hx:mid<=x
  .exact G' x y hx q r
  .have hf:∀x,a<=x->x<mid->∀z,mid<=z->z<b->k f[x]!<=k e[z]!:=by
    refine F.pres (λv=>∀z,mid<=z->z<b->k v<=k e[z]!) λx p q z r t=>C.cross x z p q r t
   have hg:∀y,mid<=y->y<b->k f[x]!<=k g[y]!:=by
    refine G.pres (λv=>k f[x]!<=k v) λy r t=>?_
    rw[F.out y (by omega)];exact hf x p (by omega) y r t
   rw[G.out x (by omega)];exact hg y (by omega) r
theorem Z0b{a s b:Nat}{e:Array α}(h1:Srt k a s e)(h2:Srt k s b e)(h:¬(a<s/\s<b))(h3:a<=s)(h4:s<=b):Srt k a b e:=by
 by_cases h5:a=s
 .subst h5;exact h2
 .have:s=b:=by omega
  subst this;exact h1
def Bks(k:α->Int)(bs n:Nat)(d:Array α):Prop:=∀c,Srt k (c*bs) (min ((c+1)*bs) n) d
def Mid(k:α->Int)(bs n a:Nat)(d:Array α):Prop:=∃t,a=t*(2*bs)/\(∀c,c<t->Srt k (c*(2*bs)) ((c+1)*(2*bs)) d)/\∀c,2*t<=c->Srt k (c*bs) (min ((c+1)*bs) n) d
theorem Mid.start{bs n:Nat}{d:Array α}(h:Bks k bs n d):Mid k bs n 0 d:=⟨0,by omega,λc hc=>by omega,λc _=>h c⟩
theorem Mid.two{bs n a:Nat}{d:Array α}(h:Mid k bs n a d):Srt k a (min (a+bs) n) d/\Srt k (a+bs) (min (a+2*bs) n) d:=by
 obtain⟨t,rfl,h1,h2⟩:=h;have g1:=h2 (2*t) (by omega);have g2:=h2 (2*t+1) (by omega);have e1:2*t*bs=t*(2*bs):=by rw[Nat.mul_comm 2 t,Nat.mul_assoc]
 have e2:(2*t+1)*bs=t*(2*bs)+bs:=by rw[Nat.add_mul,e1];omega
 have e3:(2*t+1+1)*bs=t*(2*bs)+2*bs:=by rw[Nat.add_mul,e2];omega
 rw[e1,e2]at g1;rw[e2,e3]at g2;exact⟨g1,g2⟩
theorem Mid.next{bs n a:Nat}{d e:Array α}(h:Mid k bs n a d)(S:Stp k a (a+2*bs) d e)(S':Srt k a (a+2*bs) e):Mid k bs n (a+2*bs) e:=by
 obtain⟨t,rfl,h1,h2⟩:=h;refine⟨t+1,by rw[Nat.add_mul];omega,λc hc=>?_,λc hc=>?_⟩
 .by_cases e1:c=t
  .subst e1;rw[Nat.add_mul,Nat.one_mul];exact S'
  .refine(h1 c (by omega)).out S (.inl ?_);exact Nat.mul_le_mul_right _ (by omega)
 .refine(h2 c (by omega)).out S (.inr ?_)
  have:(2*(t+1))*bs<=c*bs:=Nat.mul_le_mul_right _ (by omega)
  have e1:(2*(t+1))*bs=t*(2*bs)+2*bs:=by
   rw[Nat.mul_add,Nat.add_mul,Nat.mul_comm 2 t,Nat.mul_assoc]
  omega
theorem Mid.end_{bs n a:Nat}{d e:Array α}(h:Mid k bs n a d)(hn:n<a+2*bs)(S:Stp k a n d e)(S':Srt k a n e):Bks k (2*bs) n e:=by
 obtain⟨t,rfl,h1,h2⟩:=h;intro c;by_cases e1:c<t
 .have:(c+1)*(2*bs)<=t*(2*bs):=Nat.mul_le_mul_right _ (by omega)
  exact((h1 c e1).sub (Nat.le_refl _) (Nat.min_le_left _ _)).out S (.inl (by omega))
 .by_cases e2:c=t
  .subst e2;exact S'.sub (Nat.le_refl _) (Nat.min_le_right _ _)
  .have:(t+1)*(2*bs)<=c*(2*bs):=Nat.mul_le_mul_right _ (by omega)
   rw[Nat.add_mul]at this;intro x y p q r;omega
def Ini(k:α->Int)(a:Nat)(d:Array α):Prop:=∃t,a=t*20/\∀c,c<t->Srt k (c*20) ((c+1)*20) d
theorem Ini.start(d:Array α):Ini k 0 d:=⟨0,by omega,λc hc=>by omega⟩
theorem Ini.next{a:Nat}{d e:Array α}(h:Ini k a d)(S:Stp k a (a+20) d e)(S':Srt k a (a+20) e):Ini k (a+20) e:=by
 obtain⟨t,rfl,h1⟩:=h;refine⟨t+1,by omega,λc hc=>?_⟩;by_cases e1:c=t
 .subst e1;rw[Nat.add_mul];exact S'
 .exact(h1 c (by omega)).out S (.inl (by omega))
theorem Ini.end_{a n:Nat}{d e:Array α}(h:Ini k a d)(hn:n<a+20)(S:Stp k a n d e)(S':Srt k a n e):Bks k 20 n e:=by
 obtain⟨t,rfl,h1⟩:=h;intro c;by_cases e1:c<t
 .exact((h1 c e1).sub (Nat.le_refl _) (Nat.min_le_left _ _)).out S (.inl (by omega))
 .by_cases e2:c=t
  .subst e2;exact S'.sub (Nat.le_refl _) (Nat.min_le_right _ _)
  .intro x y p q r;omega
theorem Bks.whole{bs n:Nat}{d:Array α}(h:Bks k bs n d)(hn:n<=bs):Srt k 0 n d:=by
 have:=h 0;rw[Nat.zero_mul,Nat.zero_add,Nat.one_mul,Nat.min_eq_right hn]at this;exact this
omit [Inhabited α] in
theorem Zqm:∀(n:Nat) (lo:Int) (l:List α),l.Pairwise (λa b=>k a<=k b)->(∀x∈l,lo<=k x/\k x<lo+n)->l=(List.range n).flatMap λi:Nat=>l.filter (λx=>decide (k x=lo+(i:Int)))
 |0,lo,l,_,h=>by
  cases l with
  |nil=>rfl
  |cons x l=>have:=h x (by simp);omega
 |n+1,lo,l,hp,h=>by
  have ih:=Zqm n lo (l.filter (λx=>decide (k x<lo+n))) (hp.filter _) (λx hx=>by
   have:=List.mem_filter.1 hx
   exact⟨(h x this.1).1,by simpa using this.2⟩)
  rw[List.range_succ,List.flatMap_append];have e1:(List.range n).flatMap (λi:Nat=>(l.filter (λx=>decide (k x<lo+n))).filter (λx=>decide (k x=lo+(i:Int))))=(List.range n).flatMap λi:Nat=>l.filter (λx=>decide (k x=lo+(i:Int))):=by
   simp only[List.flatMap_def];congr 1;refine List.map_congr_left λi hi=>?_
   rw[List.filter_filter];refine List.filter_congr λx hx=>?_
   have:=List.mem_range.1 hi;by_cases e:k x=lo+(i:Int)
   .simp only[e,decide_true,Bool.true_and,decide_eq_true_eq];omega
   .simp[e]
  rw[<-e1,<-ih];simp only[List.flatMap_cons,List.flatMap_nil,List.append_nil];clear ih e1
  induction l with
  |nil=>rfl
  |cons x l ih =>
   have hx:=h x (by simp);have hp2:=List.pairwise_cons.1 hp;have ih:=ih hp2.2 (λy hy=>h y (by simp[hy]));by_cases hl:k x<lo+n
   .rw[List.filter_cons_of_pos (by simpa using hl),List.filter_cons_of_neg (by simp;omega),List.cons_append,<-ih]
   .have e2:k x=lo+n:=by omega
    have:(x::l).filter (λx=>decide (k x<lo+n))=[]:=by
     refine List.filter_eq_nil_iff.2 λy hy=>?_
     rcases List.mem_cons.1 hy with rfl|hy
     .simpa using hl
     .have:=hp2.1 y hy;simp;omega
    rw[this,List.nil_append];refine(List.filter_eq_self.2 λy hy=>?_).symm;rcases List.mem_cons.1 hy with rfl|hy
    .simpa using e2
    .have:=hp2.1 y hy;have:=h y (by simp[hy]);simp;omega
theorem Stp.classes{d e:Array α}{n:Nat}(S:Stp k 0 d.size d e)(S':Srt k 0 d.size e)(hk:∀x∈d.toList,0<=k x/\k x<n):e.toList=(List.range n).flatMap λi:Nat=>d.toList.filter (λx=>decide (k x=(i:Int))):=by
 have hm:∀x∈e.toList,0<=k x/\k x<n:=by
  have hp:=S.pres (λv=>0<=k v/\k v<n) (λx _ h2=>hk _ (by rw[getElem!_pos d x h2];simp));intro x hx;obtain⟨i,hi,rfl⟩:=List.getElem_of_mem hx;have hi':i<e.size:=by simpa using hi
  have:=hp i (Nat.zero_le _) (by rw[<-S.size];exact hi');rw[getElem!_pos e i hi']at this;simpa using this
 have h1:=Zqm (k:=k) n 0 e.toList (by
  rw[List.pairwise_iff_getElem];intro i j hi hj hij;have hj':j<e.size:=by simpa using hj
  have:=S' i j (Nat.zero_le _) hij (by rw[<-S.size];exact hj');rw[getElem!_pos e i (by omega),getElem!_pos e j hj']at this
  simpa using this) (λx hx=>by have:=hm x hx;omega)
 simp only[Int.zero_add]at h1;rw[h1];congr 1;funext i;exact S.stab i
end Go.Stb
