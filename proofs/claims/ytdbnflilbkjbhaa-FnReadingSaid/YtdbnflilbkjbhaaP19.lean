/-
  Parts of the proofs for this seat: ID IE XR CM DB EV EW EY XS RS XT L17 SX.
-/
import Derived.Test.YtdbnflilbkjbhaaP4
import Derived.Test.YtdbnflilbkjbhaaP7
import Derived.Test.YtdbnflilbkjbhaaP15
import Derived.Test.YtdbnflilbkjbhaaP16
import Derived.Test.YtdbnflilbkjbhaaP18
set_option linter.unusedSectionVars false
set_option linter.unusedSimpArgs false
set_option linter.unusedVariables false
set_option maxRecDepth 100000
set_option maxHeartbeats 4000000
namespace Go.Proofs.Ytdbnflilbkjbhaa
open Go.AM
abbrev B4:=Bool×Bool×Bool×Bool
structure Ed where
 a:Bool
 b:Bool
 c:Bool
 d:Bool
 e:Bool
 f:Bool
def nearB(g:Ed)(x:B4):B4:=match x with
 |(x0,x1,x2,x3)=>(!x0 && ((x1 && g.a) || (x2 && g.b) || (x3 && g.c)),!x1 && ((x0 && g.a) || (x2 && g.d) || (x3 && g.e)),!x2 && ((x0 && g.b) || (x1 && g.d) || (x3 && g.f)),!x3 && ((x0 && g.c) || (x1 && g.e) || (x2 && g.f)))
def orB(x y:B4):B4:=match x,y with
 |(x0,x1,x2,x3),(y0,y1,y2,y3)=>(x0 || y0,x1 || y1,x2 || y2,x3 || y3)
def andB(x y:B4):B4:=match x,y with
 |(x0,x1,x2,x3),(y0,y1,y2,y3)=>(x0 && y0,x1 && y1,x2 && y2,x3 && y3)
def subB(x y:B4):B4:=match x,y with
 |(x0,x1,x2,x3),(y0,y1,y2,y3)=>(x0 && !y0,x1 && !y1,x2 && !y2,x3 && !y3)
def stepB(g:Ed)(p x:B4):B4:=orB x (andB (nearB g x) p)
def iterB(g:Ed)(p:B4):Nat->B4->B4
 |0,x=>x
 |n+1,x=>iterB g p n (stepB g p x)
def lowB:B4->B4
 |(p0,p1,p2,p3)=>(p0,!p0 && p1,!p0 && !p1 && p2,!p0 && !p1 && !p2 && p3)
def Zhf(g:Ed)(n:Nat)(p:B4):Bool:=iterB g p n (lowB p) == p
def edgeB(g:Ed)(x y:B4):Bool:=match x,y with
 |(x0,x1,x2,x3),(y0,y1,y2,y3)=>(x0 && ((y1 && g.a) || (y2 && g.b) || (y3 && g.c))) || (x1 && ((y0 && g.a) || (y2 && g.d) || (y3 && g.e))) || (x2 && ((y0 && g.b) || (y1 && g.d) || (y3 && g.f))) || (x3 && ((y0 && g.c) || (y1 && g.e) || (y2 && g.f)))
def toI(x:B4):Int:=match x with|(a,b,c,d)=>bit4 a b c d
def inN(n:Nat)(p:B4):Bool:=match p with|(p0,p1,p2,p3)=>(decide (1<=n) || !p0) && (decide (2<=n) || !p1) && (decide (3<=n) || !p2) && (decide (4<=n) || !p3)
def oneB(p:B4):Bool:=p == (true,false,false,false) || p == (false,true,false,false) || p == (false,false,true,false) || p == (false,false,false,true)
def okF1(g:Ed)(n:Nat)(p:B4):Bool:=!inN n p || !Zhf g n p || oneB p || p == (false,false,false,false) ||
 (andB p (true,false,false,false) != (false,false,false,false) && Zhf g n (subB p (true,false,false,false))) || (andB p (false,true,false,false) != (false,false,false,false) && Zhf g n (subB p (false,true,false,false))) ||
 (andB p (false,false,true,false) != (false,false,false,false) && Zhf g n (subB p (false,false,true,false))) || (andB p (false,false,false,true) != (false,false,false,false) && Zhf g n (subB p (false,false,false,true)))
def okF2(g:Ed)(n:Nat)(p x:B4):Bool:=andB x p != x || x == (false,false,false,false) || x == p || edgeB g x (subB p x) || !inN n p || !Zhf g n p
set_option maxRecDepth 100000 in
theorem f1:∀a b c d e f:Bool,∀p0 p1 p2 p3:Bool,okF1 ⟨a,b,c,d,e,f⟩ 1 (p0,p1,p2,p3)=true/\okF1 ⟨a,b,c,d,e,f⟩ 2 (p0,p1,p2,p3)=true/\okF1 ⟨a,b,c,d,e,f⟩ 3 (p0,p1,p2,p3)=true/\okF1 ⟨a,b,c,d,e,f⟩ 4 (p0,p1,p2,p3)=true:=by decide +kernel
set_option maxRecDepth 100000 in
theorem f2:∀a b c d e f:Bool,∀p0 p1 p2 p3 x0 x1 x2 x3:Bool,okF2 ⟨a,b,c,d,e,f⟩ 1 (p0,p1,p2,p3) (x0,x1,x2,x3)=true/\okF2 ⟨a,b,c,d,e,f⟩ 2 (p0,p1,p2,p3) (x0,x1,x2,x3)=true/\okF2 ⟨a,b,c,d,e,f⟩ 3 (p0,p1,p2,p3) (x0,x1,x2,x3)=true/\okF2 ⟨a,b,c,d,e,f⟩ 4 (p0,p1,p2,p3) (x0,x1,x2,x3)=true:=by decide +kernel
def ofI(m:Int):B4:=(Zv m 0,Zv m 1,Zv m 2,Zv m 3)
set_option maxRecDepth 100000 in
theorem to_of:∀a:Fin 16,toI (ofI (a.1:Int))=(a.1:Int):=by decide
theorem Z2g{m:Int}(h:M16 m):toI (ofI m)=m:=by obtain⟨a,rfl⟩:=m16 h;exact to_of a
theorem of_to:∀a b c d:Bool,ofI (bit4 a b c d)=(a,b,c,d)/\M16 (bit4 a b c d):=by decide
theorem Zms(x:B4):ofI (toI x)=x:=(of_to x.1 x.2.1 x.2.2.1 x.2.2.2).1
theorem Z2h{x y:B4}(h:toI x=toI y):x=y:=by rw[<-Zms x,h,Zms]
set_option maxRecDepth 100000 in
theorem Z2i:∀a b c d e f g h:Bool,orI (bit4 a b c d) (bit4 e f g h)=bit4 (a || e) (b || f) (c || g) (d || h)/\andI (bit4 a b c d) (bit4 e f g h)=bit4 (a && e) (b && f) (c && g) (d && h):=by decide
theorem toI_or(x y:B4):orI (toI x) (toI y)=toI (orB x y):=(Z2i x.1 x.2.1 x.2.2.1 x.2.2.2 y.1 y.2.1 y.2.2.1 y.2.2.2).1
theorem Zta(x y:B4):andI (toI x) (toI y)=toI (andB x y):=(Z2i x.1 x.2.1 x.2.2.1 x.2.2.2 y.1 y.2.1 y.2.2.1 y.2.2.2).2
theorem bit_low:∀a b c d:Bool,andI (bit4 a b c d) (w (0-bit4 a b c d))=toI (lowB (a,b,c,d)):=by decide
theorem bit_sub:∀a b c d e f g h:Bool,andB (e,f,g,h) (a,b,c,d)=(e,f,g,h)->bit4 a b c d-bit4 e f g h=toI (subB (a,b,c,d) (e,f,g,h)):=by decide
theorem toI_sub{x y:B4}(h:andB y x=y):toI x-toI y=toI (subB x y):=bit_sub x.1 x.2.1 x.2.2.1 x.2.2.2 y.1 y.2.1 y.2.2.1 y.2.2.2 h
theorem shl4:∀i j:Fin 4,Zv (shlI 1 i.1) j.1=decide (i=j):=by decide
theorem pV_any(qa:List Atom)(h4:qa.length<=4)(m:Int)(u:Nat):pV m qa u=((Zv m 0 && pV (shlI 1 (0:Nat)) qa u) || (Zv m 1 && pV (shlI 1 (1:Nat)) qa u) || (Zv m 2 && pV (shlI 1 (2:Nat)) qa u) || (Zv m 3 && pV (shlI 1 (3:Nat)) qa u)):=by
 have s:∀i j:Nat,i<4->j<4->Zv (shlI 1 (i:Nat)) j=decide (i=j):=λi j hi hj=>by
  have:=shl4 ⟨i,hi⟩ ⟨j,hj⟩;simpa[Fin.ext_iff]using this
 have s00:=s 0 0 (by omega) (by omega);have s01:=s 0 1 (by omega) (by omega);have s02:=s 0 2 (by omega) (by omega);have s03:=s 0 3 (by omega) (by omega);have s10:=s 1 0 (by omega) (by omega);have s11:=s 1 1 (by omega) (by omega);have s12:=s 1 2 (by omega) (by omega);have s13:=s 1 3 (by omega) (by omega);have s20:=s 2 0 (by omega) (by omega);have s21:=s 2 1 (by omega) (by omega);have s22:=s 2 2 (by omega) (by omega);have s23:=s 2 3 (by omega) (by omega);have s30:=s 3 0 (by omega) (by omega);have s31:=s 3 1 (by omega) (by omega);have s32:=s 3 2 (by omega) (by omega);have s33:=s 3 3 (by omega) (by omega);simp only[Nat.reduceEqDiff,decide_true,decide_false]at s00 s01 s02 s03 s10 s11 s12 s13 s20 s21 s22 s23 s30 s31 s32 s33
 match qa,h4 with
 |[],_=>simp[pV,hasV]
 |[a],_=>simp only[pV,hasV,s00,s10,s20,s30];cases Zv m 0<;>cases Zv m 1<;>cases Zv m 2<;>cases Zv m 3<;>simp
 |[a,b],_=>simp only[pV,hasV,s00,s10,s20,s30,s01,s11,s21,s31,Yl];cases Zv m 0<;>cases Zv m 1<;>cases Zv m 2<;>cases Zv m 3<;>simp
 |[a,b,c],_=>simp only[pV,hasV,s00,s10,s20,s30,s01,s11,s21,s31,s02,s12,s22,s32,Yl,Nat.reduceAdd];cases Zv m 0<;>cases Zv m 1<;>cases Zv m 2<;>cases Zv m 3<;>simp[Bool.or_assoc]
 |[a,b,c,d],_=>simp only[pV,hasV,s00,s10,s20,s30,s01,s11,s21,s31,s02,s12,s22,s32,s03,s13,s23,s33,Yl,Nat.reduceAdd];cases Zv m 0<;>cases Zv m 1<;>cases Zv m 2<;>cases Zv m 3<;>simp[Bool.or_assoc]
 |_::_::_::_::_::_,h=>simp at h
def adj(qa:List Atom)(i j:Nat):Bool:=shr qa (shlI 1 i) (shlI 1 j)
theorem Zd2(qa:List Atom)(i j:Nat):adj qa i j=adj qa j i:=by
 unfold adj shr;simp only[Bool.and_comm]
def ats(m:Int)(f:Nat->Bool):Bool:=(Zv m 0 && f 0) || (Zv m 1 && f 1) || (Zv m 2 && f 2) || (Zv m 3 && f 3)
theorem Zhg{m:Int}{f:Nat->Bool}:ats m f=true↔∃i,i<4/\Zv m i=true/\f i=true:=by
 unfold ats;constructor
 .intro h;simp only[Ycs,Yb]at h;rcases h with((h|h)|h)|h
  .exact⟨0,by omega,h⟩
  .exact⟨1,by omega,h⟩
  .exact⟨2,by omega,h⟩
  .exact⟨3,by omega,h⟩
 .rintro⟨i,hi,h1,h2⟩;simp only[Ycs,Yb]
  match i,hi with
  |0,_=>exact .inl (.inl (.inl ⟨h1,h2⟩))
  |1,_=>exact .inl (.inl (.inr ⟨h1,h2⟩))
  |2,_=>exact .inl (.inr ⟨h1,h2⟩)
  |3,_=>exact .inr ⟨h1,h2⟩
theorem Z2j(qa:List Atom)(h4:qa.length<=4)(x y:Int):shr qa x y=ats x λi=>ats y λj=>adj qa i j:=by
 have pv:∀m u,pV m qa u=ats m λi=>pV (shlI 1 (i:Nat)) qa u:=λm u=>pV_any qa h4 m u
 rw[Ybs,Zhg];unfold shr;rw[List.any_eq_true];constructor
 .rintro⟨u,hu,h⟩;rw[Yb,pv x u,pv y u,Zhg,Zhg]at h;obtain⟨⟨i,i1,i2,i3⟩,⟨j,j1,j2,j3⟩⟩:=h;refine⟨i,i1,i2,Zhg.2 ⟨j,j1,j2,?_⟩⟩;unfold adj shr;rw[List.any_eq_true];exact⟨u,hu,by rw[Yb];exact⟨i3,j3⟩⟩
 .rintro⟨i,i1,i2,h⟩;obtain⟨j,j1,j2,h⟩:=Zhg.1 h;unfold adj shr at h;rw[List.any_eq_true]at h;obtain⟨u,hu,h⟩:=h;rw[Yb]at h;refine⟨u,hu,?_⟩;rw[Yb,pv x u,pv y u,Zhg,Zhg];exact⟨⟨i,i1,i2,h.1⟩,⟨j,j1,j2,h.2⟩⟩
def edOf(qa:List Atom):Ed:=⟨adj qa 0 1,adj qa 0 2,adj qa 0 3,adj qa 1 2,adj qa 1 3,adj qa 2 3⟩
theorem Zov{qa:List Atom}(h4:qa.length<=4){i:Nat}(hi:i<4)(hl:qa.length<=i)(j:Nat):adj qa i j=false:=by
 have:∀u,pV (shlI 1 (i:Nat)) qa u=false:=by
  intro u;unfold pV;have key:∀(as':List Atom) (k:Nat),k+as'.length<=i->hasV (shlI 1 (i:Nat)) as' k u=false:=by
   intro as'
   induction as' with
   |nil=>intro k _;rfl
   |cons a as' ih =>
    intro k hk;simp only[Yo]at hk;have:=shl4 ⟨i,hi⟩ ⟨k,by omega⟩;simp only[Fin.mk.injEq]at this;rw[hasV,ih (k+1) (by omega),this,decide_eq_false (by omega)];rfl
  exact key qa 0 (by omega)
 unfold adj shr;rw[Ycv];intro u _;simp[this u]
theorem shl_in(i:Nat)(hi:i<4)(f:Nat->Bool):ats (shlI 1 (i:Nat)) f=f i:=by
 have s:∀j:Nat,j<4->Zv (shlI 1 (i:Nat)) j=decide (i=j):=λj hj=>by
  have:=shl4 ⟨i,hi⟩ ⟨j,hj⟩;simpa[Fin.ext_iff]using this
 rw[Ybs,Zhg];constructor
 .rintro⟨j,j1,j2,j3⟩;rw[s j j1]at j2
  have:i=j:=of_decide_eq_true j2
  rw[this];exact j3
 .intro h;exact⟨i,hi,by rw[s i hi];simp,h⟩
theorem near_bit{n:Int}{qa:List Atom}(hv:Zs n qa=true)(x:B4):nearM qa (toI x)=toI (nearB (edOf qa) x):=by
 have h4:=(Zdv hv).2;obtain⟨x0,x1,x2,x3⟩:=x;have hin:=Zms (x0,x1,x2,x3);simp only[ofI,Ybg]at hin;obtain⟨i0,i1,i2,i3⟩:=hin;have key:∀i,i<4->Zc0 qa (toI (x0,x1,x2,x3)) i=(!Zv (toI (x0,x1,x2,x3)) i && ((x0 && adj qa i 0) || (x1 && adj qa i 1) || (x2 && adj qa i 2) || (x3 && adj qa i 3))):=by
  intro i hi;unfold Zc0;rw[Z2j qa h4,shl_in i hi];unfold ats;rw[i0,i1,i2,i3];by_cases hl:i<qa.length
  .simp[hl]
  .have a0:=Zov h4 hi (by omega) 0;have a1:=Zov h4 hi (by omega) 1;have a2:=Zov h4 hi (by omega) 2;have a3:=Zov h4 hi (by omega) 3;simp[hl,a0,a1,a2,a3]
 unfold nearM Z2;rw[key 0 (by omega),key 1 (by omega),key 2 (by omega),key 3 (by omega),i0,i1,i2,i3];unfold nearB edOf toI;rw[Zd2 qa 1 0,Zd2 qa 2 0,Zd2 qa 3 0,Zd2 qa 2 1,Zd2 qa 3 1,Zd2 qa 3 2];cases x0<;>cases x1<;>cases x2<;>cases x3<;>simp
theorem step_bit{n:Int}{qa:List Atom}(hv:Zs n qa=true)(p x:B4):Zhc qa (toI p) (toI x)=toI (stepB (edOf qa) p x):=by
 unfold Zhc stepB;rw[near_bit hv,Zta,toI_or]
theorem Z2k{n:Int}{qa:List Atom}(hv:Zs n qa=true)(p:B4):∀(k:Nat) (x:B4),iterM qa (toI p) k (toI x)=toI (iterB (edOf qa) p k x)
 |0,x=>rfl
 |k+1,x=>by rw[iterM,iterB,step_bit hv,Z2k hv p k]
theorem conn_bit{n:Int}{qa:List Atom}(hv:Zs n qa=true)(p:B4):conn qa (toI p)=Zhf (edOf qa) qa.length p:=by
 unfold conn Zhf;rw[show andI (toI p) (w (0-toI p))=toI (lowB p)from bit_low p.1 p.2.1 p.2.2.1 p.2.2.2,Z2k hv,Ybs,decide_eq_true_eq,beq_iff_eq];exact⟨Z2h,λh=>by rw[h]⟩
theorem edge_bit{qa:List Atom}(h4:qa.length<=4)(x y:B4)(hd:andB x y=(false,false,false,false)):shr qa (toI x) (toI y)=edgeB (edOf qa) x y:=by
 obtain⟨x0,x1,x2,x3⟩:=x;obtain⟨y0,y1,y2,y3⟩:=y;have hx:=Zms (x0,x1,x2,x3);have hy:=Zms (y0,y1,y2,y3);simp only[ofI,Prod.mk.injEq]at hx hy;obtain⟨i0,i1,i2,i3⟩:=hx;obtain⟨j0,j1,j2,j3⟩:=hy;simp only[andB,Prod.mk.injEq]at hd;rw[Z2j qa h4];unfold ats;rw[i0,i1,i2,i3,j0,j1,j2,j3];unfold edgeB edOf;dsimp only;rw[Zd2 qa 1 0,Zd2 qa 2 0,Zd2 qa 3 0,Zd2 qa 2 1,Zd2 qa 3 1,Zd2 qa 3 2];obtain⟨h0,h1,h2,h3⟩:=hd;cases x0<;>cases y0<;>simp at h0<;>cases x1<;>cases y1<;>simp at h1<;>cases x2<;>cases y2<;>simp at h2<;>cases x3<;>cases y3<;>simp at h3<;>simp
theorem Z2l{qa:List Atom}{M A:Int}(h:A∈Zd0 qa M):1<=A/\A<M/\andI A M=A/\conn qa A=true/\conn qa (M-A)=true:=by
 unfold Zd0 Zfx at h;rw[Y5]at h;obtain⟨k,hk,rfl⟩:=h;rw[Ybf,List.mem_range'_1]at hk;obtain⟨⟨h1,h2⟩,h3⟩:=hk;simp only[Ze1,Yb,decide_eq_true_eq]at h3;exact⟨by omega,by omega,h3⟩
theorem Zbbp{qa:List Atom}{M:Int}(h:M16 M):(Zd0 qa M).length<=16:=by
 unfold Zd0 Zfx;rw[Ycb];refine Yy (Yc0 _ _) ?_;rw[List.length_range'];omega
set_option maxRecDepth 100000 in
theorem Zbbq:∀a b c d e f g h:Bool,andB (e,f,g,h) (a,b,c,d)=(e,f,g,h)->popc (toI (e,f,g,h))+popc (toI (subB (a,b,c,d) (e,f,g,h)))=popc (toI (a,b,c,d))/\orB (e,f,g,h) (subB (a,b,c,d) (e,f,g,h))=(a,b,c,d)/\andB (e,f,g,h) (subB (a,b,c,d) (e,f,g,h))=(false,false,false,false):=by decide
theorem inN_of{n:Int}{qa:List Atom}(hv:Zs n qa=true){M:Int}(h:MQ qa M):inN qa.length (ofI M)=true:=by
 have h4:=Zdv hv;have h16:=(h.m16 hv).1;obtain⟨a,rfl⟩:=m16 h16;have key:∀a:Fin 16,(a.1<2->inN 1 (ofI (a.1:Int))=true)/\(a.1<4->inN 2 (ofI (a.1:Int))=true)/\(a.1<8->inN 3 (ofI (a.1:Int))=true)/\inN 4 (ofI (a.1:Int))=true:=by decide
 have hk:=key a;have hl:qa.length=1\/qa.length=2\/qa.length=3\/qa.length=4:=by omega
 have h2:=h.2;rcases hl with e|e|e|e
 .rw[e]at h2|-;exact hk.1 (by omega)
 .rw[e]at h2|-;exact hk.2.1 (by omega)
 .rw[e]at h2|-;exact hk.2.2.1 (by omega)
 .rw[e]at h2|-;exact hk.2.2.2
theorem okf2(g:Ed){n:Nat}(hn:1<=n/\n<=4)(p x:B4):okF2 g n p x=true:=by
 have:=f2 g.a g.b g.c g.d g.e g.f p.1 p.2.1 p.2.2.1 p.2.2.2 x.1 x.2.1 x.2.2.1 x.2.2.2;have hl:n=1\/n=2\/n=3\/n=4:=by omega
 rcases hl with rfl|rfl|rfl|rfl
 .exact this.1
 .exact this.2.1
 .exact this.2.2.1
 .exact this.2.2.2
structure Pair (qa:List Atom) (A B M:Int):Prop where
 a16:M16 A
 b16:M16 B
 or:orI A B=M
 dis:andI A B=0
 shr:shr qa A B=true
 pop:popc A+popc B=popc M
theorem Zbbr{n:Int}{qa:List Atom}(hv:Zs n qa=true){M A:Int}(hM:MQ qa M)(hc:conn qa M=true)(h:A∈Zd0 qa M):Pair qa A (M-A) M:=by
 obtain⟨h1,h2,h3,_,_⟩:=Z2l h;have h16:=(hM.m16 hv).1;have a16:M16 A:=by omega
 have b16:M16 (M-A):=by omega
 have eM:=Z2g h16;have eA:=Z2g a16;have hsub:andB (ofI A) (ofI M)=ofI A:=by
  apply Z2h;rw[<-Zta,eM,eA];exact h3
 have eB:=toI_sub hsub;rw[eM,eA]at eB;have hp:=Zbbq (ofI M).1 (ofI M).2.1 (ofI M).2.2.1 (ofI M).2.2.2 (ofI A).1 (ofI A).2.1 (ofI A).2.2.1 (ofI A).2.2.2 hsub;have hp1:popc (toI (ofI A))+popc (toI (subB (ofI M) (ofI A)))=popc (toI (ofI M)):=hp.1;have hp2:orB (ofI A) (subB (ofI M) (ofI A))=ofI M:=hp.2.1;have hp3:andB (ofI A) (subB (ofI M) (ofI A))=(false,false,false,false):=hp.2.2;refine⟨a16,b16,?_,?_,?_,?_⟩
 .rw[eB];have:=toI_or (ofI A) (subB (ofI M) (ofI A));rw[hp2,eM,eA]at this;exact this
 .rw[eB];have:=Zta (ofI A) (subB (ofI M) (ofI A));rw[hp3,eA]at this;exact this
 .rw[eB];have:=edge_bit (Zdv hv).2 (ofI A) (subB (ofI M) (ofI A)) hp3;rw[eA]at this;rw[this];have h5:=okf2 (edOf qa) (Zdv hv) (ofI M) (ofI A);have hcb:=conn_bit hv (ofI M);rw[eM,hc]at hcb;have hin:=inN_of hv hM;have n0:ofI A≠(false,false,false,false):=λhe=>by
   rw[he]at eA
   have:toI (false,false,false,false)=0:=rfl
   omega
  have nM:ofI A≠ofI M:=λhe=>by rw[he,eM]at eA;omega
  unfold okF2 at h5;rw[hsub,<-hcb,hin]at h5;simpa[n0,nM]using h5
 .rw[eB];rw[eM,eA]at hp1;exact hp1
theorem Ztb{c:Za}(g:GC c):∃c' a1 a2 a3 a4 a5,∃l:List Zd,Zhw c=some (.agg [I a1,I a2,I a3,I a4,I a5,.own 1],[cB c',.arr 60 2 true (l.map Zd.c)])/\GC c'/\l.length<=2:=by
 obtain⟨c1,a1,a2,a3,a4,a5,l,e1,g1,hl⟩:=Zj4 g;obtain⟨c2,k,e2,g2,_⟩:=Z7 g1 10;by_cases h0:k=0
 .obtain⟨c3,v,e3,g3,_⟩:=Zd1 g2 [(-1),99,100,(-100)] (by simp) (by simp);exact⟨c3,a1,v,a3,a4,a5,l,Zoq ⟨c1,l,a1,a2,a3,a4,a5,e1,c2,k,e2,by rw[if_pos h0];exact⟨c3,_,v,e3,rfl⟩⟩,g3,by omega⟩
 by_cases h1:k=1
 .obtain⟨c3,v,e3,g3,_⟩:=Zd1 g2 [0,1,64,8192,8193] (by simp) (by simp);obtain⟨c4,u,e4,g4,_⟩:=Zd1 g3 [(-3),(-99),4,100] (by simp) (by simp);exact⟨c4,a1,a2,a3,a4,a5,l++[⟨v,u⟩],Zoq ⟨c1,l,a1,a2,a3,a4,a5,e1,c2,k,e2,by rw[if_neg h0,if_pos h1];exact⟨c3,_,v,e3,c4,_,u,e4,by omega,rfl⟩⟩,g4,by simp;omega⟩
 by_cases h2:k=2
 .obtain⟨c3,v,e3,g3,_⟩:=Zd1 g2 [0,(-5),99,9223372036854775807] (by simp) (by simp);exact⟨c3,v,a2,a3,a4,a5,l,Zoq ⟨c1,l,a1,a2,a3,a4,a5,e1,c2,k,e2,by rw[if_neg h0,if_neg h1,if_pos h2];exact⟨c3,_,v,e3,rfl⟩⟩,g3,by omega⟩
 .exact⟨c2,a1,a2,a3,a4,a5,l,Zoq ⟨c1,l,a1,a2,a3,a4,a5,e1,c2,k,e2,by rw[if_neg h0,if_neg h1,if_neg h2]⟩,g2,by omega⟩
theorem Z2m{c:Za}(g:GC c):∃c',∃m:Zj,Zhx c=some (.agg (m.c.map .t),[cB c'])/\GC c'/\SmM m:=by
 obtain⟨c1,m,e1,g1,h1,h2,h3,h4,h5⟩:=Z2b g;obtain⟨c2,b,e2,g2⟩:=Zej g1 6;rcases tf b with hb|hb
 .subst hb;obtain⟨c3,b3,e3,g3⟩:=Zej g2 12;rcases tf b3 with hb|hb
  .subst hb;exact⟨c3,m,Zor ⟨c1,m,e1,c2,false,e2,by rw[if_neg (by simp)];exact⟨c3,false,e3,by rw[if_neg (by simp)]⟩⟩,g3,h1,h2,h3,h4,h5⟩
  .subst hb;obtain⟨c4,a1,a2,a3,a4,a5,l,e4,g4,hl⟩:=Ztb g3;exact⟨c4,⟨m.Scan,⟨a1,a2,a3,a4,a5,l⟩,m.Hash,m.Merge,m.Nested⟩,Zor ⟨c1,m,e1,c2,false,e2,by rw[if_neg (by simp)];exact⟨c3,true,e3,by rw[if_pos rfl];exact⟨c4,l,a1,a2,a3,a4,a5,e4,rfl⟩⟩⟩,g4,h1,by show l.length<=_;omega,h3,h4,h5⟩
 .subst hb;obtain⟨d,b1,b2,b3',b4,b5,ll,ed,gd,hll⟩:=Ztb g2;obtain⟨c3,b3,e3,g3⟩:=Zej gd 12;rcases tf b3 with hb|hb
  .subst hb;exact⟨c3,⟨m.Scan,m.Sort_,⟨b1,b2,b3',b4,b5,ll⟩,m.Merge,m.Nested⟩,Zor ⟨c1,m,e1,c2,true,e2,by rw[if_pos rfl];exact⟨d,ll,b1,b2,b3',b4,b5,ed,c3,false,e3,by rw[if_neg (by simp)];rfl⟩⟩,g3,h1,h2,by show ll.length<=_;omega,h4,h5⟩
  .subst hb;obtain⟨c4,a1,a2,a3,a4,a5,l,e4,g4,hl⟩:=Ztb g3;exact⟨c4,⟨m.Scan,⟨a1,a2,a3,a4,a5,l⟩,⟨b1,b2,b3',b4,b5,ll⟩,m.Merge,m.Nested⟩,Zor ⟨c1,m,e1,c2,true,e2,by rw[if_pos rfl];exact⟨d,ll,b1,b2,b3',b4,b5,ed,c3,true,e3,by rw[if_pos rfl];exact⟨c4,l,a1,a2,a3,a4,a5,e4,rfl⟩⟩⟩,g4,h1,by show l.length<=_;omega,by show ll.length<=_;omega,h4,h5⟩
theorem Ztc{q:Zb}(hv:Zs q.Zp q.Atoms=true):MQ q.Atoms (Zbz q.Zp q.Atoms):=by
 have:=Zs5 hv;have:=Z5i hv;exact⟨by omega,by omega⟩
theorem Zbbs(q:Zb)(hq:LeQ q)(m:Int)(hc:Zhd q.Zp q.Atoms m=false):Zim q m=some (.own 0,[.arr Zbq 1 true (([]:List Int).map ic)]) :=
 Z1a ⟨_,Z16 q hq _,by rw[hc,if_neg (by simp)]⟩
theorem Z2n(q:Zb)(hq:LeQ q)(p:Plan):∃o,Ziq q p=some (I o,[]):=by
 have e:=Zba2 q p hq
 cases h:Zkz q.Zp q.Atoms p.Steps with
 |none =>
  rw[h]at e
  exact⟨-1,Z1f ⟨[],false,e,by rw[if_neg (by simp)]⟩⟩
 |some info =>
  rw[h]at e;obtain⟨_,h1,h2,h3⟩:=Z5h h;have h0:info.length-1<info.length:=by omega
  refine⟨info[info.length-1].Order,Z1f ⟨info,true,e,?_⟩⟩;rw[if_pos rfl,w_id (by omega) (by omega)];refine⟨by omega,info[info.length-1],?_,rfl⟩;rw[show((info.length:Int)-1).toNat=info.length-1 by omega];simp[h0]
def GP(n:Nat)(R:Rs):Prop:=∃(c:Za) (p:List Zf),R=some (.agg [.own 1],[cB c,.arr Z5k 3 true (p.map Zf.c)])/\GC c/\1<=p.length/\p.length<=n
theorem Zbbt{q:Zb}(hv:Zs q.Zp q.Atoms=true){a b:Int}(h:shr q.Atoms a b=true):Zj2 q a b≠[]:=by
 intro hc;have h1:(Zj2 q a b).length=0:=by rw[hc];rfl
 have:=(Z5e hv a b).1 h1;rw[h]at this;cases this
theorem Zbbu(q:Zb)(hq:LeQ q):∀m:Nat,m<=15->∀c,GC c->GP (if m=0 then 1 else 4*m-3) (Zgz c q m):=by
 intro m
 induction m using Nat.strongRecOn with
 |_ m ih =>
 intro hm c g;by_cases he:Zhd q.Zp q.Atoms m=true/\Zd0 q.Atoms m≠[]
 .obtain⟨hc,hne⟩:=he;have hc0:=hc;unfold Zhd at hc0;simp only[Yb,decide_eq_true_eq]at hc0;obtain⟨⟨⟨hv,hin⟩,h0⟩,hcn⟩:=hc0;have hin:=Zj3.1 hin;have hMQ:MQ q.Atoms m:=⟨by omega,by have:=(Ztc hv).2;omega⟩;have hl16:=Zbbp (qa:=q.Atoms) (M:=(m:Int)) ⟨by omega,by omega⟩;have hp:0<(Zd0 q.Atoms m).length:=Yb6.2 hne;obtain⟨c1,n,e1,g1,h1,h2⟩:=Z7 g (Zd0 q.Atoms m).length;obtain⟨y,hy,hmem⟩:=Zhe h1 (h2 (by omega));obtain⟨y1,y2,_,_,_⟩:=Z2l hmem;have pr:=Zbbr hv hMQ hcn hmem;obtain⟨a,ha⟩:∃a:Nat,y=a:=⟨y.toNat,by omega⟩;subst ha;have hw:w ((m:Int)-(a:Int))=((m-a:Nat):Int):=by rw[w_id (by omega) (by omega)];omega
  obtain⟨c2,p1,e2,g2,k1,l1⟩:=ih a (by omega) (by omega) c1 g1;obtain⟨c3,p2,e3,g3,k2,l2⟩:=ih (m-a) (by omega) (by omega) c2 g2;rw[if_neg (by omega)]at l1 l2;have z1:(⟨p1⟩:Plan).Steps.length<=1000:=by show p1.length<=_;omega
  have z2:(⟨p2⟩:Plan).Steps.length<=1000:=by show p2.length<=_;omega
  rw[if_neg (by omega)];obtain⟨c4,k,e4,g4,k0,k3⟩:=Z7 g3 3;have hs:=Z17 q hq m hc;by_cases k0':k=0
  .exact⟨c4,Zb2 p1 p2 3 0,Zhb ⟨_,hs,by rw[if_neg (by omega)];exact⟨c1,n,e1,h1,(a:Int),hy,c2,p1,e2,by rw[hw];exact⟨c3,p2,e3,c4,k,e4,by rw[if_pos k0'];exact⟨_,Zj5 ⟨p1⟩ ⟨p2⟩ 3 0 (by omega) (by omega),rfl⟩⟩⟩⟩,g4,by simp only[Zb2,Zbh,Ye,Yo];omega,by simp only[Zb2,Zbh,Ye,Yo,Ybj];omega⟩
  by_cases k1':k=1
  .exact⟨c4,Zb2 p1 p2 5 0,Zhb ⟨_,hs,by rw[if_neg (by omega)];exact⟨c1,n,e1,h1,(a:Int),hy,c2,p1,e2,by rw[hw];exact⟨c3,p2,e3,c4,k,e4,by rw[if_neg k0',if_pos k1'];exact⟨_,Zj5 ⟨p1⟩ ⟨p2⟩ 5 0 (by omega) (by omega),rfl⟩⟩⟩⟩,g4,by simp only[Zb2,Zbh,Ye,Yo];omega,by simp only[Zb2,Zbh,Ye,Yo,Ybj];omega⟩
  have hsh:=Zbbl q hq hv (a:Int) ((m-a:Nat):Int) ⟨by omega,by omega⟩ ⟨by omega,by omega⟩;have hsn:=Zbbt hv (a:=(a:Int)) (b:=((m-a:Nat):Int)) (by rw[show((m-a:Nat):Int)=(m:Int)-a by omega];exact pr.shr);obtain⟨c5,n2,e5,g5,h3,h4⟩:=Z7 g4 (Zj2 q (a:Int) ((m-a:Nat):Int)).length;have hp2:0<(Zj2 q (a:Int) ((m-a:Nat):Int)).length:=Yb6.2 hsn;obtain⟨v,hv',_⟩:=Zhe h3 (h4 (by omega));obtain⟨o1,eo1⟩:=Z2n q hq ⟨p1⟩;obtain⟨o2,eo2⟩:=Z2n q hq ⟨p2⟩;by_cases q1:o1=v
  .by_cases q2:o2=v
   .exact⟨c5,Zb2 p1 p2 4 v,Zhb ⟨_,hs,by rw[if_neg (by omega)];exact⟨c1,n,e1,h1,(a:Int),hy,c2,p1,e2,by rw[hw];exact⟨c3,p2,e3,c4,k,e4,by rw[if_neg k0',if_neg k1'];exact⟨_,hsh,c5,n2,e5,h3,v,hv',o1,eo1,by rw[if_pos q1];exact⟨o2,eo2,by rw[if_pos q2];exact⟨_,Zj5 ⟨p1⟩ ⟨p2⟩ 4 v (by first|omega|(simp[Zbh];omega)) (by first|omega|(simp[Zbh];omega)),rfl⟩⟩⟩⟩⟩⟩,g5,by simp only[Zb2,Zbh,Ye,Yo];omega,by simp only[Zb2,Zbh,Ye,Yo,Ybj];omega⟩
   .exact⟨c5,Zb2 p1 (Zbh p2 v) 4 v,Zhb ⟨_,hs,by rw[if_neg (by omega)];exact⟨c1,n,e1,h1,(a:Int),hy,c2,p1,e2,by rw[hw];exact⟨c3,p2,e3,c4,k,e4,by rw[if_neg k0',if_neg k1'];exact⟨_,hsh,c5,n2,e5,h3,v,hv',o1,eo1,by rw[if_pos q1];exact⟨o2,eo2,by rw[if_neg q2];exact⟨_,Zou ⟨p2⟩ v (by omega),_,Zj5 ⟨p1⟩ (⟨Zbh p2 v⟩:Plan) 4 v (by first|omega|(simp[Zbh];omega)) (by first|omega|(simp[Zbh];omega)),rfl⟩⟩⟩⟩⟩⟩,g5,by simp only[Zb2,Zbh,Ye,Yo];omega,by simp only[Zb2,Zbh,Ye,Yo,Ybj];omega⟩
  .by_cases q2:o2=v
   .exact⟨c5,Zb2 (Zbh p1 v) p2 4 v,Zhb ⟨_,hs,by rw[if_neg (by omega)];exact⟨c1,n,e1,h1,(a:Int),hy,c2,p1,e2,by rw[hw];exact⟨c3,p2,e3,c4,k,e4,by rw[if_neg k0',if_neg k1'];exact⟨_,hsh,c5,n2,e5,h3,v,hv',o1,eo1,by rw[if_neg q1];exact⟨_,Zou ⟨p1⟩ v (by omega),o2,eo2,by rw[if_pos q2];exact⟨_,Zj5 (⟨Zbh p1 v⟩:Plan) ⟨p2⟩ 4 v (by first|omega|(simp[Zbh];omega)) (by first|omega|(simp[Zbh];omega)),rfl⟩⟩⟩⟩⟩⟩,g5,by simp only[Zb2,Zbh,Ye,Yo];omega,by simp only[Zb2,Zbh,Ye,Yo,Ybj];omega⟩
   .exact⟨c5,Zb2 (Zbh p1 v) (Zbh p2 v) 4 v,Zhb ⟨_,hs,by rw[if_neg (by omega)];exact⟨c1,n,e1,h1,(a:Int),hy,c2,p1,e2,by rw[hw];exact⟨c3,p2,e3,c4,k,e4,by rw[if_neg k0',if_neg k1'];exact⟨_,hsh,c5,n2,e5,h3,v,hv',o1,eo1,by rw[if_neg q1];exact⟨_,Zou ⟨p1⟩ v (by omega),o2,eo2,by rw[if_neg q2];exact⟨_,Zou ⟨p2⟩ v (by omega),_,Zj5 (⟨Zbh p1 v⟩:Plan) (⟨Zbh p2 v⟩:Plan) 4 v (by first|omega|(simp[Zbh];omega)) (by first|omega|(simp[Zbh];omega)),rfl⟩⟩⟩⟩⟩⟩,g5,by simp only[Zb2,Zbh,Ye,Yo];omega,by simp only[Zb2,Zbh,Ye,Yo,Ybj];omega⟩
 .have hs0:Zim q m=some (.own 0,[.arr Zbq 1 true (([]:List Int).map ic)]):=by
   rcases tf (Zhd q.Zp q.Atoms m)with hc|hc
   .exact Zbbs q hq m hc
   .have h2:Zd0 q.Atoms m=[]:=Classical.byContradiction λhn=>he ⟨hc,hn⟩
    rw[Z17 q hq m hc,h2]
  have hl:1<=(if m=0 then 1 else 4*m-3):=by split<;>omega
  cases ha:Zs6 m with
  |nil =>
   refine⟨c,[⟨1,0,0⟩],Zhb ⟨_,hs0,?_⟩,g,by simp,hl⟩;rw[if_pos (by simp)]
   exact⟨_,Z18 ⟨by omega,by omega⟩,by rw[ha,if_pos (by simp)];exact⟨_,Z2f 0,rfl⟩⟩
  |cons x l =>
   refine⟨c,[⟨1,x,0⟩],Zhb ⟨_,hs0,?_⟩,g,by simp,hl⟩;rw[if_pos (by simp)];exact⟨_,Z18 ⟨by omega,by omega⟩,by rw[ha,if_neg (by simp;omega)];exact⟨x,rfl,_,Z2f x,rfl⟩⟩
def cmpR:List Int->List Int->Int
 |[],[]=>0
 |[],_::_=>-1
 |_::_,[]=>1
 |a::x,b::y=>if a<b then -1 else if b<a then 1 else cmpR x y
theorem wS{i n:Nat}(h:i<n)(hn:n<=1099511627776):w ((i:Int)+1)=((i+1:Nat):Int):=by
 rw[show w ((i:Int)+1)=(i:Int)+1 from Z8 (by omega) (by omega)];simp
theorem gE{α:Type}{xs:List α}{i:Nat}(h:i<xs.length):xs[(i:Int).toNat]?=some xs[i]:=by rw[Ym];exact Yh h
abbrev dig(v:Int):Bool:=inR v 0 9
def rwB(n:Int)(r:List Int):Bool:=r.all dig && decide ((r.length:Int)=n)
theorem Zbbv(r:List Int)(n:Int)(hl:Le r):∀i,i<=r.length->Zit r n i=some (Bo ((r.drop i).all dig && decide ((r.length:Int)=n)),[]):=by
 refine down _ ?_ ?_
 .refine Z1i ?_;rw[if_neg (by omega)];simp
 .intro i hi ih;refine Z1i ?_;rw[if_pos (by omega),Yj hi,Y1,wS hi hl];refine⟨by omega,_,gE hi,_,Zcl _ _ _,?_⟩;rcases tf (inR r[i] 0 9)with e|e
  .rw[e];simp[dig,e]
  .rw[e,if_pos rfl,ih];simp[dig,e]
@[simp] theorem Zbbw(r:List Int)(n:Int)(hl:Le r):Zl7 r n=some (Bo (rwB n r),[]):=Zbak (by simpa[rwB]using Zbbv r n hl 0 (Yd _))
theorem Z2o(a b:List Int)(i:Nat)(ha:i<=a.length)(hb:i<=b.length)(h:i=a.length\/i=b.length):Zjl a b i false=some (I (cmpR (a.drop i) (b.drop i)),[]):=by
 refine Z9t ?_;by_cases h1:(a.length:Int)<(b.length:Int)
 .rw[if_pos h1,show a.drop i=[]from Yb1 (by omega),Yj (l:=b) (i:=i) (by omega)];rfl
 .rw[if_neg h1];by_cases h2:(b.length:Int)<(a.length:Int)
  .rw[if_pos h2,show b.drop i=[]from Yb1 (by omega),Yj (l:=a) (i:=i) (by omega)];rfl
  .rw[if_neg h2,show a.drop i=[]from Yb1 (by omega),show b.drop i=[]from Yb1 (by omega)];rfl
theorem Zbbx(a b:List Int)(ha:Le a)(hb:Le b):∀i,i<=a.length->i<=b.length->Zh6 a b i=some (I (cmpR (a.drop i) (b.drop i)),[]):=by
 refine down _ ?_ ?_
 .intro h;refine Z0r ?_;rw[if_neg (by omega)];exact Z2o a b _ (Yg _) h (.inl rfl)
 .intro i hi ih h;refine Z0r ?_;rw[if_pos (by omega)];by_cases h2:(i:Int)<(b.length:Int)
  .have hj:i<b.length:=by omega
   rw[if_pos h2];refine⟨by omega,_,gE hi,_,gE hj,?_⟩;rw[wS hi ha,Yj hi,Yj hj];unfold cmpR;by_cases e1:a[i]<b[i]
   .rw[if_pos e1,if_pos e1]
   .rw[if_neg e1,if_neg e1];by_cases e2:b[i]<a[i]
    .rw[if_pos e2,if_pos e2]
    .rw[if_neg e2,if_neg e2];exact ih (by omega)
  .rw[if_neg h2];exact Z2o a b _ (by omega) h (.inr (by omega))
@[simp] theorem Z2p(a b:List Int)(ha:Le a)(hb:Le b):Zh5 a b=some (I (cmpR a b),[]) :=
 Z9u (by simpa using Zbbx a b ha hb 0 (Yd _) (Yd _))
def pvA{α:Type}(xs:List α):Nat->Option α
 |0=>none
 |k+1=>xs[k]?
def nxt{α:Type}(lt:α->α->Bool)(p:Option α)(x:α):Bool:=match p with
 |none=>true
 |some q=>lt q x
def adjL{α:Type}(lt:α->α->Bool):Option α->List α->Bool
 |_,[]=>true
 |p,x::xs=>nxt lt p x && adjL lt (some x) xs
theorem Z2q{α:Type}(lt:α->α->Bool){xs:List α}{i:Nat}(hi:i<xs.length):adjL lt (pvA xs i) (xs.drop i)=(nxt lt (pvA xs i) xs[i] && adjL lt (pvA xs (i+1)) (xs.drop (i+1))):=by
 rw[Yj hi,adjL,show pvA xs (i+1)=some xs[i]from Yh hi]
def ltR(a b:List Int):Bool:=decide (cmpR a b<0)
abbrev LeT(t:Ze):Prop:=Le t.Rows/\∀r∈t.Rows,Le r
theorem wP{i n:Nat}(h0:0<i)(h:i<n)(hn:n<=1099511627776):w ((i:Int)-1)=((i-1:Nat):Int):=by
 rw[show w ((i:Int)-1)=(i:Int)-1 from Z8 (by omega) (by omega)];omega
theorem pv_pos{α:Type}{xs:List α}{i:Nat}(h0:0<i)(h:i-1<xs.length):pvA xs i=some xs[i-1]:=by
 obtain⟨k,rfl⟩:∃k,i=k+1:=⟨i-1,by omega⟩;exact Yh h
def Zek(t:Ze):Bool:=nmOk t.Name && inR t.Arity 1 3 && decide ((t.Rows.length:Int)<=8) && (t.Rows.all (rwB t.Arity) && adjL ltR none t.Rows)
theorem Zbby(t:Ze)(h:LeT t):∀i,i<=t.Rows.length->Zg0 t i=some (Bo ((t.Rows.drop i).all (rwB t.Arity) && adjL ltR (pvA t.Rows i) (t.Rows.drop i)),[]):=by
 refine down _ ?_ ?_
 .refine Z1j ?_;rw[if_neg (by omega)];simp[adjL]
 .intro i hi ih;have hr:=h.2 _ (Yk hi);refine Z1j ?_;rw[Z2q _ hi,if_pos (by omega),Yj hi,Y1,wS hi h.1];refine⟨by omega,_,gE hi,_,Zbbw _ _ hr,?_⟩;rcases tf (rwB t.Arity t.Rows[i])with e|e
  .rw[e];simp
  rw[e,if_pos rfl];by_cases h0:0<i
  .have hp:i-1<t.Rows.length:=by omega
   rw[if_pos (by omega),wP h0 hi h.1,pv_pos h0 hp];refine⟨by omega,_,gE hp,_,Z2p _ _ (h.2 _ (Yk hp)) hr,?_⟩;unfold nxt ltR at *
   by_cases e:0<=cmpR t.Rows[i-1] t.Rows[i]
   .rw[if_pos e];simp[show ¬cmpR t.Rows[i-1] t.Rows[i]<0 by omega]
   .rw[if_neg e,ih];simp[show cmpR t.Rows[i-1] t.Rows[i]<0 by omega]
  .have:i=0:=by omega
   subst this;rw[if_neg (by omega),ih];simp[pvA,nxt]
@[simp] theorem Zbbz(t:Ze)(h:LeT t):Zl8 t=some (Bo (Zek t),[]):=by
 refine Zbal ⟨_,x_l4Name _,?_⟩;unfold Zek;rcases tf (nmOk t.Name)with e1|e1
 .rw[e1];simp
 rw[e1,if_pos rfl];refine⟨_,Zcl _ _ _,?_⟩;rcases tf (inR t.Arity 1 3)with e2|e2
 .rw[e2];simp
 rw[e2,if_pos rfl];by_cases e3:8<(t.Rows.length:Int)
 .rw[if_pos e3];simp[show ¬(t.Rows.length:Int)<=8 by omega]
 .rw[if_neg e3];have:=Zbby t h 0 (Yd _);refine Ya this ?_;simp[show(t.Rows.length:Int)<=8 by omega,pvA]
def ltN(a b:Ze):Bool:=Op.bytesLess a.Name.toList b.Name.toList
abbrev LeD(d:Zn):Prop:=Le d.Tables/\∀t∈d.Tables,LeT t
def Zhh(d:Zn):Bool:=d.Tables.all Zek && adjL ltN none d.Tables && decide ((d.Tables.length:Int)<=6)
theorem Zbb0(d:Zn)(h:LeD d):∀i,i<=d.Tables.length->Zg1 d i=some (Bo ((d.Tables.drop i).all Zek && adjL ltN (pvA d.Tables i) (d.Tables.drop i) && decide ((d.Tables.length:Int)<=6)),[]):=by
 refine down _ ?_ ?_
 .refine Z1k ?_;rw[if_neg (by omega)];simp[adjL]
 .intro i hi ih;refine Z1k ?_;rw[Z2q _ hi,if_pos (by omega),Yj hi,Y1,wS hi h.1];refine⟨by omega,_,gE hi,_,Zbbz _ (h.2 _ (Yk hi)),?_⟩;rcases tf (Zek d.Tables[i])with e|e
  .rw[e];simp
  rw[e,if_pos rfl];by_cases h0:0<i
  .have hp:i-1<d.Tables.length:=by omega
   rw[if_pos (by omega),wP h0 hi h.1,pv_pos h0 hp];refine⟨by omega,_,gE hp,?_⟩;unfold nxt ltN at *
   rcases tf (Op.bytesLess d.Tables[i-1].Name.toList d.Tables[i].Name.toList)with e|e
   .rw[e];simp[e]
   .rw[e,if_pos rfl,ih];simp[e]
  .have:i=0:=by omega
   subst this;rw[if_neg (by omega),ih];simp[pvA,nxt]
@[simp] theorem Zbb1(d:Zn)(h:LeD d):Zl9 d=some (Bo (Zhh d),[]):=by
 refine Zbam ?_;have:=Zbb0 d h 0 (Yd _);refine Ya this ?_;unfold Zhh;simp[pvA]
def Zfy(d:Zn)(n:ByteArray):Option Ze:=if Zhh d=true then d.Tables.find? (λt=>decide (t.Name=n))else none
theorem Ztd{d:Zn}(hv:Zhh d=true){t:Ze}(ht:t∈d.Tables):Zek t=true:=by
 unfold Zhh at hv;simp only[Yb]at hv;exact Yi.1 hv.1.1 t ht
theorem Z2r{t:Ze}(h:Zek t=true):t.Rows.length<=8:=by
 unfold Zek at h;simp only[Yb,decide_eq_true_eq]at h;omega
theorem Zbb2{t:Ze}(h:Zek t=true):∀r∈t.Rows,r.length<=3:=by
 intro r hr;unfold Zek at h;simp only[Yb]at h;have h1:=Yi.1 h.2.1 r hr;have h2:=h.1.1.2;unfold rwB at h1;simp only[inR,Yb,decide_eq_true_eq]at h1 h2;omega
theorem look_mem{d:Zn}{n:ByteArray}{t:Ze}(h:Zfy d n=some t):Zhh d=true/\t∈d.Tables/\t.Name=n:=by
 unfold Zfy at h;split at h
 .rename_i hv;exact⟨hv,List.mem_of_find?_eq_some h,by simpa using List.find?_some h⟩
 .cases h
theorem Zbb3(t:Ze)(h:LeT t)(h8:t.Rows.length<=8)(h3:∀r∈t.Rows,r.length<=3)(a a':ByteArray)(b b':Int):∀i,i<=t.Rows.length->Ziu t a b a' b' (t.Rows.take i) i=some (.agg [.t (.str a'),I b',.own 0],[.arr 49 1 true (t.Rows.map isc)]):=by
 refine down _ ?_ ?_
 .refine Z1l ?_;rw[if_neg (by omega),List.take_length]
 .intro i hi ih;refine Z1l ?_;rw[if_pos (by omega),wS hi h.1];have:=h3 _ (Yk hi);rw[Yc2 hi]at ih;exact⟨by omega,_,gE hi,by omega,by rw[Ybp];omega,ih⟩
theorem Zbb4(t:Ze)(h:LeT t)(h8:t.Rows.length<=8)(h3:∀r∈t.Rows,r.length<=3):Zjo t=some (if t.Rows=[]then(.agg [.t (.str t.Name),I t.Arity,.t .nil],[])else(.agg [.t (.str t.Name),I t.Arity,.own 0],[.arr 49 1 true (t.Rows.map isc)])):=by
 refine Zbao ?_;refine Zban ?_;by_cases e:t.Rows=[]
 .rw[if_neg (by rw[e];simp),if_pos e]
 .have h0:0<t.Rows.length:=Yb6.2 e;have:=h3 _ (Yk h0);rw[if_pos (by omega),if_neg e];refine⟨by omega,_,gE h0,by omega,?_⟩;have:=Zbb3 t h h8 h3 ⟨#[]⟩ t.Name 0 t.Arity 1 (by omega);rw[Yc2 h0]at this;rw[show w (0+1)=1 from by decide];simpa using this
def lookS(o:Option Ze):AV×List Blk:=match o with
 |none=>(.tup [.agg [.t (.str ⟨#[]⟩),I 0,.t .nil],Bo false],[])
 |some t=>if t.Rows=[]then(.tup [.agg [.t (.str t.Name),I t.Arity,.t .nil],Bo true],[])else(.tup [.agg [.t (.str t.Name),I t.Arity,.own 0],Bo true],[.arr 49 1 true (t.Rows.map isc)])
theorem Zbb5(d:Zn)(h:LeD d)(n:ByteArray):∀i,i<=d.Tables.length->Ziv d ⟨#[]⟩ 0 n i=some (lookS (if Zhh d=true then(d.Tables.drop i).find? (λt=>decide (t.Name=n))else none)):=by
 refine down _ ?_ ?_
 .refine Z1m ?_;rw[if_neg (by omega),Ybt];split<;>rfl
 .intro i hi ih;refine Z1m ?_;rw[if_pos (by omega),wS hi h.1];refine⟨_,Zbb1 d h,?_⟩;rcases tf (Zhh d)with e|e
  .rw[e];rfl
  rw[e,if_pos rfl]at ih|-;rw[if_pos rfl,Yj hi,List.find?_cons];have hm:=Yk hi;refine⟨by omega,_,gE hi,?_⟩;by_cases e2:d.Tables[i].Name=n
  .rw[if_pos e2];have hc:=Zbb4 _ (h.2 _ hm) (Z2r (Ztd e hm)) (Zbb2 (Ztd e hm));simp only[e2,decide_true,lookS];by_cases e3:d.Tables[i].Rows=[]
   .rw[if_pos e3]at hc|-;exact .inl ⟨_,_,hc,by rw[e2]⟩
   .rw[if_neg e3]at hc|-;exact .inr ⟨_,_,_,hc,by rw[e2]⟩
  .rw[if_neg e2,ih];simp only[e2,decide_false]
theorem Z2s(d:Zn)(h:LeD d)(n:ByteArray):Zfr d n=some (lookS (Zfy d n)) :=
 Zbap (by simpa[Zfy]using Zbb5 d h n 0 (Yd _))
def forOk(d:Zn)(a:Atom):Bool:=match Zfy d a.Name with
 |none=>false
 |some t=>decide (t.Arity=(a.Vars.length:Int))
def qFor(d:Zn)(q:Zb):Bool:=Zs q.Zp q.Atoms && q.Atoms.all (forOk d)
theorem Zbb6(d:Zn)(h:LeD d)(q:Zb)(hq:LeQ q):∀i,i<=q.Atoms.length->Zg2 d q i=some (Bo ((q.Atoms.drop i).all (forOk d)),[]):=by
 refine down _ ?_ ?_
 .refine Z1n ?_;rw[if_neg (by omega)];simp
 .intro i hi ih;refine Z1n ?_;rw[if_pos (by omega),Yj hi,Y1,wS hi hq.1];refine⟨by omega,_,gE hi,?_⟩;have hk:=Z2s d h q.Atoms[i].Name;unfold forOk at ih|-
  cases e:Zfy d q.Atoms[i].Name with
  |none =>
   rw[e]at hk
   refine .inl ⟨_,_,_,hk,by simp⟩
  |some t =>
   rw[e]at hk;simp only[lookS]at hk;by_cases e3:t.Rows=[]
   .rw[if_pos e3]at hk;refine .inl ⟨_,_,_,hk,?_⟩;rw[if_pos rfl];by_cases e2:t.Arity=(q.Atoms[i].Vars.length:Int)
    .rw[if_pos e2,ih];simp[e2]
    .rw[if_neg e2];simp[e2]
   .rw[if_neg e3]at hk;refine .inr ⟨_,_,_,hk,?_⟩;by_cases e2:t.Arity=(q.Atoms[i].Vars.length:Int)
    .rw[if_pos e2,ih];simp[e2]
    .rw[if_neg e2];simp[e2]
@[simp] theorem Zte(d:Zn)(h:LeD d)(q:Zb)(hq:LeQ q):Zmc d q=some (Bo (qFor d q),[]):=by
 refine Zbaq ⟨_,Zju q hq,?_⟩;unfold qFor;rcases tf (Zs q.Zp q.Atoms)with e|e
 .rw[e];simp
 .rw[e,if_pos rfl];have:=Zbb6 d h q hq 0 (Yd _);refine Ya this ?_;simp
theorem Z2t{α β:Type}(f:α->List β)(k:Nat)(hf:∀x,(f x).length<=k):∀l:List α,(l.flatMap f).length<=k*l.length
 |[]=>by simp
 |x::l=>by rw[Ycj,Ye,Yo,Nat.mul_succ];have:=hf x;have:=Z2t f k hf l;omega
def fitsR(cc c row r:List Int):Bool:=(cc.zip r).all λp=>(c.zip row).all λz=>decide (z.1≠p.1) || decide (z.2=p.2)
theorem l_fits0(t:Ze)(a:Atom)(c row r:List Int)(i k:Nat)(R:AV×List Blk)(hi:t.Rows[i]?=some r)(hk:k<a.Vars.length)(cc:k<r.length)(cd:row.length<=c.length)(h8:row.length<=1000):∀j,j<=row.length->∀b:Bool,
  Zg4 t a c row i (b && ((c.zip row).drop j).all λz=>decide (z.1≠a.Vars[k]) || decide (z.2=r[k])) (w ((k:Int)+1))=some R->
  Zfs t a c row i b k j=some R:=by
 have hz:(c.zip row).length=row.length:=by rw[List.length_zip];omega
 refine down _ ?_ ?_
 .intro b h;refine Z1q ?_;rw[if_neg (by omega)];rw[show(c.zip row).drop row.length=[]from Yb1 (by omega)]at h;simpa using h
 .intro j hj ih b h;refine Z1q ?_;rw[if_pos (by omega),wS hj (by omega)];rw[Yj (l:=c.zip row) (i:=j) (by omega),Y1,List.getElem_zip]at h;rcases tf b with e|e
  .subst e;rw[if_neg (by simp)];exact ih _ (by simpa using h)
  .subst e;rw[if_pos rfl];have hjv:j<c.length:=by omega
   refine⟨by omega,_,gE hjv,by omega,_,gE hk,?_⟩;by_cases e2:c[j]=a.Vars[k]
   .rw[if_pos e2];refine⟨_,gE hj,by omega,_,by rw[Ym];exact hi,_,gE cc,ih _ ?_⟩;simpa[e2]using h
   .rw[if_neg e2];refine ih _ ?_;simpa[e2]using h
theorem l_fits1(t:Ze)(a:Atom)(c row r:List Int)(i:Nat)(R:AV×List Blk)(hi:t.Rows[i]?=some r)(hr:r.length=a.Vars.length)(hl:Le a.Vars)(cc:row.length<=c.length)(h8:row.length<=1000):∀k,k<=a.Vars.length->∀b:Bool,
  (if(b && ((a.Vars.zip r).drop k).all λp=>(c.zip row).all λz=>decide (z.1≠p.1) || decide (z.2=p.2))=true then some (Bo true,[])=some R else Zg3 t a c row (w ((i:Int)+1))=some R)->
  Zg4 t a c row i b k=some R:=by
 have hz:(a.Vars.zip r).length=a.Vars.length:=by rw[List.length_zip];omega
 refine down _ ?_ ?_
 .intro b h;refine Z1p ?_;rw[if_neg (by omega)];rw[show(a.Vars.zip r).drop a.Vars.length=[]from Yb1 (by omega)]at h;simpa using h
 .intro k hk ih b h;refine Z1p ?_;rw[if_pos (by omega)];have hkr:k<r.length:=by omega
  refine l_fits0 t a c row r i k R hi hk hkr cc h8 0 (Yd _) b ?_;rw[wS hk hl];refine ih _ ?_;rw[Yj (l:=a.Vars.zip r) (i:=k) (by omega),Y1,List.getElem_zip]at h;rw[Bool.and_assoc,Yn];exact h
theorem l_fits2(t:Ze)(a:Atom)(c row:List Int)(hT:t.Rows.length<=8)(hr:∀r∈t.Rows,r.length=a.Vars.length)(hl:Le a.Vars)(cc:row.length<=c.length)(h8:row.length<=1000):∀i,i<=t.Rows.length->
  Zg3 t a c row i=some (Bo ((t.Rows.drop i).any (fitsR a.Vars c row)),[]):=by
 refine down _ ?_ ?_
 .refine Z1o ?_;rw[if_neg (by omega)];simp
 .intro i hi ih;refine Z1o ?_;rw[if_pos (by omega)];refine l_fits1 t a c row t.Rows[i] i _ (Yh hi) (hr _ (Yk hi)) hl cc h8 0 (Yd _) true ?_;rw[wS hi (by omega),Yj hi,List.any_cons,Yn,Yx];change if fitsR a.Vars c row t.Rows[i]=true then _ else _;rcases tf (fitsR a.Vars c row t.Rows[i])with e|e
  .rw[e,if_neg (by simp),Yck];exact ih
  .rw[e,if_pos rfl,Bool.true_or]
theorem Ztf(t:Ze)(a:Atom)(c row:List Int)(hT:t.Rows.length<=8)(hr:∀r∈t.Rows,r.length=a.Vars.length)(hl:Le a.Vars)(cc:row.length<=c.length)(h8:row.length<=1000) :
  Zmf t a c row=some (Bo (t.Rows.any (fitsR a.Vars c row)),[]):=Zbar (by simpa using l_fits2 t a c row hT hr hl cc h8 0 (Yd _))
def okP(ps:List (Ze×Atom))(c row:List Int):Bool:=ps.all λp=>p.1.Rows.any (fitsR p.2.Vars c row)
def wlk(ok:List Int->Bool):Nat->List Int->List (List Int)
 |0,row=>if ok row=true then[row]else[]
 |n+1,row=>if ok row=true then(List.range' 0 10).flatMap λv:Nat=>wlk ok n (row++[(v:Int)])else[]
theorem Z2u(ok:List Int->Bool):∀n row,(wlk ok n row).length<=10 ^ n
 |0,row=>by unfold wlk;split<;>simp
 |n+1,row=>by
  unfold wlk;split
  .have:=Z2t (λv:Nat=>wlk ok n (row++[(v:Int)])) (10 ^ n) (λv=>Z2u ok n _) (List.range' 0 10);rw[List.length_range']at this;rw[Nat.pow_succ];exact this
  .simp
def TabOK(p:Ze×Atom):Prop:=p.1.Rows.length<=8/\(∀r∈p.1.Rows,r.length=p.2.Vars.length)/\Le p.2.Vars
abbrev wRes(ps:List (Ze×Atom))(fr:Bool)(vars row:List Int)(b:Bool)(out:List (List Int)):Rs :=
 some (.own 4,[.arr 99 3 true ((ps.map Prod.fst).map Ze.c),.arr 116 2 fr ((ps.map Prod.snd).map Atom.c),.arr 3 1 true (vars.map ic),.arr 3 1 true (row.map ic),.arr 49 1 b (out.map isc)])
theorem x_walk(ps:List (Ze×Atom))(fr:Bool)(vars:List Int)(c:∀p∈ps,TabOK p)(cc:ps.length<=8)(hv:vars.length<=4):∀n row,row.length+n=vars.length->
  ∃b,Zft (ps.map Prod.fst) fr (ps.map Prod.snd) vars row=wRes ps fr vars row b (wlk (okP ps vars) n row):=by
 intro n
 induction n with
 |zero =>
  intro row hn
  have:∀i,i<=ps.length->Zg5 (ps.map Prod.fst) fr (ps.map Prod.snd) vars row i=wRes ps fr vars row true (if okP (ps.drop i) vars row=true then[row]else[]):=by
   refine down _ ?_ ?_
   .refine Zml ?_;rw[if_neg (by simp),if_pos (by omega),Ybt];exact⟨by omega,by simp[okP]⟩
   .intro i hi ih;have h1:i<(ps.map Prod.fst).length:=by simpa using hi
    have h2:i<(ps.map Prod.snd).length:=by simpa using hi
    obtain⟨a1,a2,a3⟩:=c _ (Yk hi);refine Zml ?_;rw[if_pos (by omega),wS hi (by omega)];refine⟨by omega,_,gE h1,_,gE h2,_,Ztf _ _ _ _ (by simpa using a1) (by simpa using a2) (by simpa using a3) (by omega) (by omega),?_⟩;rw[Yj hi,okP,Y1];simp only[List.getElem_map];rcases tf (ps[i].1.Rows.any (fitsR ps[i].2.Vars vars row))with e|e
    .rw[e,if_neg (by simp)];simp
    .rw[e,if_pos rfl,Yx];exact ih
  exact⟨true,Z1s (by have t:=this 0 (Yd _);rw[Yn]at t;rw[wlk];exact t)⟩
 |succ n IH =>
  intro row hn;have hloop:∀v,v<=10->∀fr1 (out:List (List Int)),out.length<=10 ^ n*v->∃b,Zg6 (ps.map Prod.fst) fr (ps.map Prod.snd) vars row fr1 out v=wRes ps fr vars row b (out++(List.range' v (10-v)).flatMap λu:Nat=>wlk (okP ps vars) n (row++[(u:Int)])):=by
   have h4:10 ^ n<=10000:=Yy (Nat.pow_le_pow_right (by omega) (show n<=4 by omega)) (by decide);refine down _ ?_ ?_
   .intro fr1 out ho;refine⟨fr1,Z1r ?_⟩;rw[if_neg (by omega)];simp
   .intro v hv9 ih fr1 out ho;obtain⟨b1,hb1⟩:=IH (row++[(v:Int)]) (by simp;omega);have hlen:=Z2u (okP ps vars) n (row++[(v:Int)]);have hm:10 ^ n*(v+1)=10 ^ n*v+10 ^ n:=Nat.mul_succ _ _;have hm2:10 ^ n*v<=10000*10:=Nat.mul_le_mul h4 (by omega);obtain⟨b2,hb2⟩:=ih (fr1 && flat ((wlk (okP ps vars) n (row++[(v:Int)])).map isc)) (out++wlk (okP ps vars) n (row++[(v:Int)])) (by rw[Ye];omega);refine⟨b2,Z1r ?_⟩;rw[if_pos (by omega)];refine⟨by omega,by omega,.inr ⟨_,_,_,_,_,_,_,hb1,by omega,?_⟩⟩;rw[wS (n:=10) hv9 (by omega),show 10-v=(10-(v+1))+1 by omega,Ycl,Ycj,<-Y6];exact hb2
  have:∀i,i<=ps.length->∃b,Zg5 (ps.map Prod.fst) fr (ps.map Prod.snd) vars row i=wRes ps fr vars row b (if okP (ps.drop i) vars row=true then(List.range' 0 10).flatMap λu:Nat=>wlk (okP ps vars) n (row++[(u:Int)])else[]):=by
   refine down _ ?_ ?_
   .obtain⟨b,hb⟩:=hloop 0 (by omega) true [] (by simp);refine⟨b,Zml ?_⟩;rw[if_neg (by simp),if_neg (by omega),Ybt];rw[show okP [] vars row=true from rfl,if_pos rfl];exact hb
   .intro i hi ih;have h1:i<(ps.map Prod.fst).length:=by simpa using hi
    have h2:i<(ps.map Prod.snd).length:=by simpa using hi
    obtain⟨a1,a2,a3⟩:=c _ (Yk hi);obtain⟨b,ih⟩:=ih;rw[Yj hi,okP,Y1];rcases tf (ps[i].1.Rows.any (fitsR ps[i].2.Vars vars row))with e|e
    .refine⟨true,Zml ?_⟩;rw[if_pos (by omega),wS hi (by omega)];refine⟨by omega,_,gE h1,_,gE h2,_,Ztf _ _ _ _ (by simpa using a1) (by simpa using a2) (by simpa using a3) (by omega) (by omega),?_⟩;simp only[List.getElem_map];rw[e,if_neg (by simp)];simp
    .refine⟨b,Zml ?_⟩;rw[if_pos (by omega),wS hi (by omega)];refine⟨by omega,_,gE h1,_,gE h2,_,Ztf _ _ _ _ (by simpa using a1) (by simpa using a2) (by simpa using a3) (by omega) (by omega),?_⟩;simp only[List.getElem_map];rw[e,if_pos rfl,Yx];exact ih
  obtain⟨b,t⟩:=this 0 (Yd _);rw[Yn]at t;exact⟨b,Z1s (by rw[wlk];exact t)⟩
def maskP(d:Zn)(m:Int):List Atom->Nat->List (Ze×Atom)
 |[],_=>[]
 |a::ts,i=>match Zfy d a.Name with
  |none=>maskP d m ts (i+1)
  |some t=>if andI (shrI m i) 1=1 then(t,a)::maskP d m ts (i+1)else maskP d m ts (i+1)
theorem tabOK{d:Zn}{a:Atom}{t:Ze}(hl:Le a.Vars)(hf:forOk d a=true)(h:Zfy d a.Name=some t):TabOK (t,a):=by
 obtain⟨hv,ht,_⟩:=look_mem h;have hT:=Ztd hv ht;refine⟨Z2r hT,?_,hl⟩;intro row hrow;unfold Zek at hT;simp only[Yb]at hT;have:=Yi.1 hT.2.1 row hrow;unfold rwB at this;unfold forOk at hf;rw[h]at hf;simp only[Yb,decide_eq_true_eq]at this hf;show row.length=a.Vars.length;omega
theorem l_EM(d:Zn)(hd:LeD d)(q:Zb)(hq:LeQ q)(hv:Zs q.Zp q.Atoms=true)(hf:∀a∈q.Atoms,forOk d a=true)(m:Int)(hm:MQ q.Atoms m)(ys:List (List Int)):∀i,i<=q.Atoms.length->∀(ps:List (Ze×Atom)) (fr:Bool),(∀p∈ps,TabOK p)->ps.length<=i->
  wlk (okP (ps++maskP d m (q.Atoms.drop i) i) (Zcg q m)) (Zcg q m).length []=ys->
  ∃b,Zfu d q (ps.map Prod.fst) fr (ps.map Prod.snd) m i=some (.tup [.agg [.own 0,.own 1],Bo true],[.arr 3 1 true ((Zcg q m).map ic),.arr 49 1 b (ys.map isc)]):=by
 have h4:=Zdv hv;have hv4:=Zs7 q hv m;refine down _ ?_ ?_
 .intro ps fr hps hpl he;rw[Ybt,maskP,Yb0]at he;obtain⟨b,hb⟩:=x_walk ps fr (Zcg q m) hps (by omega) hv4 (Zcg q m).length [] (by simp);refine⟨b,Zsv ?_⟩;rw[if_neg (by omega)];refine⟨_,Zs8 q hq hv m hm,.inr ⟨_,_,_,_,_,_,_,hb,?_⟩⟩;rw[he]
 .intro i hi ih ps fr hps hpl he;have hl:=hq.2 _ (Yk hi);have hf1:=hf _ (Yk hi);rw[Yj hi,maskP]at he
  cases e3:Zfy d q.Atoms[i].Name with
  |none=>unfold forOk at hf1;rw[e3]at hf1;simp at hf1
  |some t =>
   rw[e3]at he;simp only at he;by_cases e:andI (shrI m i) 1=1
   .rw[if_pos e]at he
    obtain⟨b,hb⟩:=ih (ps++[(t,q.Atoms[i])]) false (by
     intro p hp;rcases Yc.1 hp with e1|e1
     .exact hps p e1
     .rw[List.mem_singleton.1 e1];exact tabOK hl hf1 e3) (by simp;omega) (by rw[Y6];exact he)
    refine⟨b,Zsv ?_⟩;rw[if_pos (by omega),wS hi hq.1];refine⟨by omega,?_⟩;rw[if_pos e];refine⟨by omega,_,gE hi,?_⟩;have hk:=Z2s d hd q.Atoms[i].Name;rw[e3]at hk;simp only[lookS]at hk;rw[Yb3,Yb3]at hb;by_cases e4:t.Rows=[]
    .rw[if_pos e4]at hk;refine .inl ⟨_,_,_,hk,by simp;omega,by simp;omega,?_⟩;rw[<-e4];exact hb
    .rw[if_neg e4]at hk;exact .inr ⟨_,_,_,hk,by simp;omega,by simp;omega,hb⟩
   .rw[if_neg e]at he;obtain⟨b,hb⟩:=ih ps fr hps (by omega) he;refine⟨b,Zsv ?_⟩;rw[if_pos (by omega),wS hi hq.1];refine⟨by omega,?_⟩;rw[if_neg e];exact hb
def specR(d:Zn)(q:Zb)(m:Int):List (List Int):=wlk (okP (maskP d m q.Atoms 0) (Zcg q m)) (Zcg q m).length []
theorem Zbb7(d:Zn)(hd:LeD d)(q:Zb)(hq:LeQ q)(hf:qFor d q=true)(m:Int)(h1:1<=m)(hm:MQ q.Atoms m)(hF:m<=Zbz q.Zp q.Atoms):Ziw d q m=some (I ((specR d q m).length:Int),[]):=by
 have hf':=hf;unfold qFor at hf';simp only[Yb,Yi]at hf';obtain⟨b,hb⟩:=l_EM d hd q hq hf'.1 hf'.2 m hm (specR d q m) 0 (Yd _) [] true (by simp) (by simp) rfl
 have:Zg7 d q m=some (.tup [.agg [.own 0,.own 1],Bo true],[.arr 3 1 true ((Zcg q m).map ic),.arr 49 1 b ((specR d q m).map isc)]):=by
  refine Zsw ⟨_,Zte d hd q hq,?_⟩;rw[hf,if_pos rfl];refine⟨_,Zsy q hq,_,Zcl _ _ _,?_⟩;rw[show inR m 1 (Zbz q.Zp q.Atoms)=true by simp[inR];omega,if_pos rfl];exact hb
 exact Z1t (.inr (.inr ⟨_,_,_,this,rfl⟩))
theorem x_l8Mask{c:Za}(g:GC c)(q:Zb):∃c' m,Zl6 c q=some (I m,[cB c'])/\GC c':=by
 obtain⟨c1,b,e1,g1⟩:=Zej g 10;rcases tf b with hb|hb
 .subst hb;obtain⟨c2,n,e2,g2,_⟩:=Z7 g1 (shlI 1 (if(q.Atoms.length:Int)<4 then(q.Atoms.length:Int)else 4));exact⟨c2,n,Z1h ⟨c1,false,e1,by rw[if_neg (by simp)];exact⟨by split<;>omega,c2,n,e2,rfl⟩⟩,g2⟩
 .subst hb;obtain⟨c2,n,e2,g2,_⟩:=Zd1 g1 [(-1),0,16,9223372036854775807] (by simp) (by simp);exact⟨c2,n,Z1h ⟨c1,true,e1,by rw[if_pos rfl];exact⟨c2,_,n,e2,rfl⟩⟩,g2⟩
def GR(R:Rs):Prop:=∃(c:Za) (q:Zb) (p:Plan),R=some (.tup [.agg (q.c.map .t),.agg (p.c.map .t)],[cB c])/\GC c/\LeQ q/\p.Steps.length<=57
theorem Z2v{c:Za}(g:GC c):GR (Zis c):=by
 obtain⟨c1,n,x,e1,g1,hv⟩:=Z2e g;have hq:LeQ ⟨n,x⟩:=Zs9 hv;have hm:=Ztc (q:=⟨n,x⟩) hv;have hl:=Zdv hv;have hm15:0<=Zbz n x/\Zbz n x<=15:=by
  have h1:=hm.1;have h2:=hm.2
  have:(2:Int) ^ x.length<=16:=by
   obtain⟨h3,h4⟩:=hl
   have:x.length=1\/x.length=2\/x.length=3\/x.length=4:=by omega
   rcases this with e|e|e|e<;>rw[e]<;>decide
  simp only at h1 h2;omega
 obtain⟨k,hk⟩:∃k:Nat,Zbz n x=k:=⟨(Zbz n x).toNat,by omega⟩;obtain⟨c2,p,e2,g2,hp,hp2⟩:=Zbbu ⟨n,x⟩ hq k (by omega) c1 g1;have hp57:p.length<=57:=by split at hp2<;>omega
 obtain⟨c3,y,e3,g3,_⟩:=Z7 g2 12;have pre:∀{r},(if y=0 then(0<=(w ((p.length:Int)-1))/\0<=(w ((p.length:Int)-1)).toNat/\(w ((p.length:Int)-1)).toNat<=p.length/\some (.tup [.agg [I n,L 2 (x.map Atom.c)],.agg [L 3 ((p.take ((w ((p.length:Int)-1)).toNat)).map Zf.c)]],[cB c3])=some r)else _)->Zis c=some r :=
  λ{r} h=>Zbaj ⟨c1,x,n,e1,k,by rw[<-hk];exact Zsy ⟨n,x⟩ hq,c2,p,e2,c3,y,e3,h⟩
 have hw:w ((p.length:Int)-1)=((p.length-1:Nat):Int):=by rw[w_id (by omega) (by omega)];omega
 by_cases h0:y=0
 .refine⟨c3,⟨n,x⟩,⟨p.take (p.length-1)⟩,pre (by rw[if_pos h0,hw,Ym];exact⟨by omega,by omega,by omega,rfl⟩),g3,hq,by show(p.take _).length<=_;rw[Ybp];omega⟩
 by_cases h1:y=1
 .obtain⟨c4,i,e4,g4,i0,i1⟩:=Z7 g3 p.length;obtain⟨c5,v,e5,g5,_⟩:=Z7 g4 7;obtain⟨s,hs,_⟩:=Zhe i0 (i1 (by omega));exact⟨c5,⟨n,x⟩,⟨p.set i.toNat ⟨v,s.Atom,s.Order⟩⟩,pre (by rw[if_neg h0,if_pos h1];exact⟨c4,i,e4,c5,v,e5,i0,s,hs,rfl⟩),g5,hq,by show(p.set _ _).length<=_;rw[Ybd];omega⟩
 by_cases h2:y=2
 .obtain⟨c4,i,e4,g4,i0,i1⟩:=Z7 g3 p.length;obtain⟨c5,v,e5,g5,_⟩:=Z7 g4 5;obtain⟨s,hs,_⟩:=Zhe i0 (i1 (by omega));exact⟨c5,⟨n,x⟩,⟨p.set i.toNat ⟨s.Kind,s.Atom,w (v-1)⟩⟩,pre (by rw[if_neg h0,if_neg h1,if_pos h2];exact⟨c4,i,e4,c5,v,e5,i0,s,hs,rfl⟩),g5,hq,by show(p.set _ _).length<=_;rw[Ybd];omega⟩
 by_cases h3:y=3
 .obtain⟨c4,v,e4,g4,_⟩:=Zd1 g3 [(-1),4,1] (by simp) (by simp);obtain⟨s,t,hs⟩:∃s t,p=s::t:=by
   cases p with
   |nil=>simp at hp
   |cons s t=>exact⟨s,t,rfl⟩
  exact⟨c4,⟨n,x⟩,⟨p.set 0 ⟨s.Kind,v,s.Order⟩⟩,pre (by rw[if_neg h0,if_neg h1,if_neg h2,if_pos h3];exact⟨c4,_,v,e4,s,by rw[hs];rfl,rfl⟩),g4,hq,by show(p.set _ _).length<=_;rw[Ybd];omega⟩
 by_cases h4:y=4
 .obtain⟨c4,n2,x2,e4,g4,hq2⟩:=x_l7Any g3;exact⟨c4,⟨n2,x2⟩,⟨p⟩,pre (by rw[if_neg h0,if_neg h1,if_neg h2,if_neg h3,if_pos h4];exact⟨c4,x2,n2,e4,rfl⟩),g4,hq2,hp57⟩
 .exact⟨c3,⟨n,x⟩,⟨p⟩,pre (by rw[if_neg h0,if_neg h1,if_neg h2,if_neg h3,if_neg h4];rfl),g3,hq,hp57⟩
theorem l_Put(rows:List (List Int))(row:List Int)(hr:rows.length<=1000)(h3:∀r∈rows,r.length<=3)(cc:row.length<=3):∀i,i<=rows.length->∀(c:List (List Int)) (b:Bool),c.length<=2*i->∃ys:List (List Int),Zb8 c rows row b i=some (.own 0,[.arr 49 1 true ((c++ys).map isc)])/\ys.length+i<=rows.length+(if b=true then 0 else 1)/\∀r∈ys,r.length<=3:=by
 refine down _ ?_ ?_
 .intro c b ho;rcases tf b with hb|hb
  .subst hb;exact⟨[row],Zsr _ _ _ _ _ _ (by rw[if_neg (by omega),if_neg (by simp)];exact⟨by omega,by omega,rfl⟩),by simp;omega,by simpa using cc⟩
  .subst hb;exact⟨[],Zsr _ _ _ _ _ _ (by rw[if_neg (by omega),if_pos rfl];simp),by simp,by simp⟩
 .intro i hi ih c b ho;have hri:=h3 _ (Yk hi);have e:=Z2p rows[i] row (by omega) (by omega);have go:∀{r},(if cmpR rows[i] row=0 then(if 0<cmpR rows[i] row then(rows[i].length<=68719476736/\c.length+1<=68719476736/\Zb8 (c++[rows[i]]) rows row true (w ((i:Int)+1))=some r)else(rows[i].length<=68719476736/\c.length+1<=68719476736/\Zb8 (c++[rows[i]]) rows row true (w ((i:Int)+1))=some r))else(if 0<cmpR rows[i] row then(if b=true then(rows[i].length<=68719476736/\c.length+1<=68719476736/\Zb8 (c++[rows[i]]) rows row true (w ((i:Int)+1))=some r)else(row.length<=68719476736/\c.length+1<=68719476736/\rows[i].length<=68719476736/\c.length+1+1<=68719476736/\Zb8 ((c++[row])++[rows[i]]) rows row true (w ((i:Int)+1))=some r))else(rows[i].length<=68719476736/\c.length+1<=68719476736/\Zb8 (c++[rows[i]]) rows row b (w ((i:Int)+1))=some r)))->Zb8 c rows row b i=some r:=λ{r} h=>Zsr _ _ _ _ _ r (by rw[if_pos (by omega)];exact⟨by omega,rows[i],gE hi,_,e,h⟩)
  have one:∀b',(b=true->b'=true)->∃ys:List (List Int),Zb8 (c++[rows[i]]) rows row b' (w ((i:Int)+1))=some (.own 0,[.arr 49 1 true ((c++ys).map isc)])/\ys.length+i<=rows.length+(if b=true then 0 else 1)/\∀r∈ys,r.length<=3:=by
   intro b' hb';obtain⟨ys,e,hl,hy⟩:=ih (c++[rows[i]]) b' (by simp;omega);refine⟨rows[i]::ys,?_,?_,?_⟩
   .rw[wN i (by omega),e,Y6];rfl
   .simp only[Yo];rcases tf b with hb|hb
    .rw[hb]at *;simp;split at hl<;>omega
    .rw[hb' hb]at hl;rw[hb];simp at hl|-;omega
   .intro r hr;rcases Yr.1 hr with hr|hr
    .rw[hr];exact hri
    .exact hy r hr
  by_cases c0:cmpR rows[i] row=0
  .obtain⟨ys,e,hl,hy⟩:=one true (λ_=>rfl);exact⟨ys,go (by rw[if_pos c0,if_neg (by omega)];exact⟨by omega,by omega,e⟩),hl,hy⟩
  by_cases c1:0<cmpR rows[i] row
  .rcases tf b with hb|hb
   .subst hb;obtain⟨ys,e,hl,hy⟩:=ih ((c++[row])++[rows[i]]) true (by simp;omega);refine⟨row::rows[i]::ys,go (by rw[if_neg c0,if_pos c1,if_neg (by simp)];exact⟨by omega,by omega,by omega,by omega,by rw[wN i (by omega),e];simp⟩),?_,?_⟩
    .simp at hl|-;omega
    .intro r hr;simp only[Yr]at hr;rcases hr with hr|hr|hr
     .rw[hr];exact cc
     .rw[hr];exact hri
     .exact hy r hr
   .subst hb;obtain⟨ys,e,hl,hy⟩:=one true (λ_=>rfl);exact⟨ys,go (by rw[if_neg c0,if_pos c1,if_pos rfl];exact⟨by omega,by omega,e⟩),hl,hy⟩
  .obtain⟨ys,e,hl,hy⟩:=one b (λh=>h);exact⟨ys,go (by rw[if_neg c0,if_neg c1];exact⟨by omega,by omega,e⟩),hl,hy⟩
theorem x_Put(rows:List (List Int))(row:List Int)(hr:rows.length<=1000)(h3:∀r∈rows,r.length<=3)(c:row.length<=3):∃ys:List (List Int),Zlm rows row=some (.own 0,[.arr 49 1 true (ys.map isc)])/\ys.length<=rows.length+1/\∀r∈ys,r.length<=3:=by
 obtain⟨ys,e,hl,hy⟩:=l_Put rows row hr h3 c 0 (by omega) [] false (by simp);exact⟨ys,Z9v e,by simpa using hl,hy⟩
theorem x_Put0(row:List Int)(h:row.length<=3):Zll row=some (.own 0,[.arr 49 1 true (([row]:List (List Int)).map isc)]) :=
 Z9s (Z9r (by rw[if_neg (by omega),if_neg (by simp)];exact⟨by omega,by simp,rfl⟩))
def GT(nm:ByteArray)(ar:Int)(k:Nat)(R:Rs):Prop:=∃(c:Za) (x:List (List Int)),R=some (.agg [.t (.str nm),I ar,.own 1],[cB c,.arr 49 1 true (x.map isc)])/\GC c/\x.length<=k/\∀r∈x,r.length<=3
theorem GT.of{nm:ByteArray}{ar:Int}{k:Nat}{R R':Rs}(h:GT nm ar k R')(q:∀r,R'=some r->R=some r):GT nm ar k R:=by
 obtain⟨c,x,e,l⟩:=h;exact⟨c,x,q _ e,l⟩
section
variable(Name:ByteArray)(Arity:Int)(nm:ByteArray)(ar:Int)
theorem t0a(m:Nat)(hm:m<=3)(val:Int)(n K:Nat)(hK:K<=1000)(hn:n<=1000)(x:List (List Int))(hx:x.length+(n+1)<=K)(h3:∀r∈x,r.length<=3)(H:∀c (x:List (List Int)),GC c->x.length+n<=K->(∀r∈x,r.length<=3)->GT nm ar K (Zgp c Name Arity nm ar x m val n)):∀i,i<=m->∀c row,GC c->row.length<=i->GT nm ar K (Zia c Name Arity nm ar x row m val ((n+1:Nat):Int) i):=by
 refine down _ ?_ ?_
 .intro c row g hr;obtain⟨ys,e,hl,hy⟩:=x_Put x row (by omega) h3 (by omega);refine(H c ys g (by omega) hy).of λr er=>Z0v ?_
  rw[if_neg (by omega),show w (((n+1:Nat):Int)-1)=(n:Int) by rw[w_id (by omega) (by omega)];omega];exact⟨ys,e,er⟩
 .intro i hi ih c row g hr;obtain⟨c1,v,e,g1,_⟩:=Z7 g val;refine(ih c1 (row++[v]) g1 (by simp;omega)).of λr er=>Z0v ?_
  rw[if_pos (by omega),wN i (by omega)];exact⟨c1,v,e,by omega,er⟩
theorem t1a(m:Nat)(hm:m<=3)(val:Int)(K:Nat)(hK:K<=1000):∀n:Nat,n<=1000->∀c (x:List (List Int)),GC c->x.length+n<=K->(∀r∈x,r.length<=3)->GT nm ar K (Zgp c Name Arity nm ar x m val n)
 |0,_,c,x,g,hx,h3=>⟨c,x,Z0u (by rw[if_neg (by omega)]),g,by omega,h3⟩
 |n+1,hn,c,x,g,hx,h3=>(t0a Name Arity nm ar m hm val n K hK (by omega) x hx h3 (λc x g hx h3=>t1a m hm val K hK n (by omega) c x g hx h3) 0 (by omega) c [] g (by simp)).of λr e=>Z0u (by rw[if_pos (by omega)];exact e)
theorem t0(m:Nat)(hm:m<=3)(val:Int)(n K:Nat)(hK:K<=1000)(hn:n+1<=K):∀i,i<=m->∀c row,GC c->row.length<=i->GT nm ar K (Zh9 c Name Arity nm ar row m val ((n+1:Nat):Int) i):=by
 refine down _ ?_ ?_
 .intro c row g hr;refine(t1a Name Arity nm ar m hm val K hK n (by omega) c [row] g (by simp;omega) (by simp;omega)).of λr er=>Z0t ?_
  rw[if_neg (by omega),show w (((n+1:Nat):Int)-1)=(n:Int) by rw[w_id (by omega) (by omega)];omega];exact⟨_,x_Put0 row (by omega),er⟩
 .intro i hi ih c row g hr;obtain⟨c1,v,e,g1,_⟩:=Z7 g val;refine(ih c1 (row++[v]) g1 (by simp;omega)).of λr er=>Z0t ?_
  rw[if_pos (by omega),wN i (by omega)];exact⟨c1,v,e,by omega,er⟩
end
theorem Z2w{c:Za}(g:GC c)(nm:ByteArray)(m:Nat)(hm:m<=3)(most val:Int)(h0:0<=most)(h1:most<=100):GT nm m 100 (Zcy c nm m most val):=by
 obtain⟨c1,n,e1,g1,n0,n1⟩:=Z7 g (w (most+1));have hw:w (most+1)=most+1:=w_id (by omega) (by omega);rw[hw]at n1 e1;have:=n1 (by omega);obtain⟨k,rfl⟩:∃k:Nat,n=k:=⟨n.toNat,by omega⟩
 cases k with
 |zero=>exact⟨c1,[],Z0w ⟨c1,0,by rw[hw];exact e1,Z0s (by rw[if_neg (by omega)])⟩,g1,by simp,by simp⟩
 |succ k=>exact(t0 ⟨#[]⟩ 0 nm m m hm val k 100 (by omega) (by omega) 0 (by omega) c1 [] g1 (by simp)).of λr e=>Z0w ⟨c1,_,by rw[hw];exact e1,Z0s (by rw[if_pos (by omega)];exact e)⟩
def Zj6(t:Ze):Prop:=t.Rows.length<=100/\∀r∈t.Rows,r.length<=3
def GD(R:Rs):Prop:=∃(c:Za) (d:Zn),R=some (.agg (d.c.map .t),[cB c])/\GC c/\d.Tables.length<=5/\∀t∈d.Tables,Zj6 t
theorem GD.of{R R':Rs}(h:GD R')(q:∀r,R'=some r->R=some r):GD R:=by
 obtain⟨c,x,e,l⟩:=h;exact⟨c,x,q _ e,l⟩
abbrev tabN:List ByteArray:=[(⟨#[114]⟩:ByteArray),(⟨#[115]⟩:ByteArray),(⟨#[116]⟩:ByteArray),(⟨#[117]⟩:ByteArray),(⟨#[118]⟩:ByteArray)]
theorem d0a(val most:Int)(h0:0<=most)(h1:most<=100):∀i,i<=5->∀c (x:List Ze),GC c->x.length=i->1<=i->(∀t∈x,Zj6 t)->GD (Zc7 c x tabN val most 5 i):=by
 refine down _ ?_ ?_
 .intro c x g hx _ ht;obtain⟨c1,b,e1,g1⟩:=Zej g 8;rcases tf b with hb|hb
  .subst hb;exact⟨c1,⟨x⟩,Zmi (by rw[if_neg (by omega)];exact⟨c1,false,e1,by rw[if_neg (by simp)];rfl⟩),g1,by show x.length<=5;omega,ht⟩
  .subst hb;obtain⟨c2,k,e2,g2,k0,k1⟩:=Z7 g1 5;obtain⟨t,he,hm⟩:=Zhe (l:=x) k0 (by have:=k1 (by omega);omega);refine⟨c2,⟨x.set k.toNat ⟨t.Name,t.Arity,[]⟩⟩,Zmi (by rw[if_neg (by omega)];exact⟨c1,true,e1,by rw[if_pos rfl];exact⟨c2,k,e2,k0,t,he,rfl⟩⟩),g2,by show(x.set _ _).length<=5;rw[Ybd];omega,?_⟩;intro u hu;rcases Ybz hu with h|h
   .exact ht u h
   .subst h;exact⟨by simp,by simp⟩
 .intro i hi ih c x g hx h1i ht;have go:∀(nm:ByteArray) (m:Nat),m<=3->GT nm m 100 (Zcy c nm m most val):=λnm m hm=>Z2w g nm m hm most val h0 h1
  have hn:tabN[(i:Int).toNat]?=some tabN[i]:=gE (xs:=tabN) hi;have nxt:∀(m:Nat),m<=3->∃c1 y,Zcy c tabN[i] m most val=some (.agg [.t (.str tabN[i]),I m,.own 1],[cB c1,.arr 49 1 true (y.map isc)])/\GD (Zc7 c1 (x++[(⟨tabN[i],m,y⟩:Ze)]) tabN val most 5 (w ((i:Int)+1))):=by
   intro m hm;obtain⟨c1,y,e,g1,hl,h3⟩:=go tabN[i] m hm;refine⟨c1,y,e,?_⟩;rw[wN i (by omega)];refine ih c1 _ g1 (by simp;omega) (by omega) ?_;intro t hm;rcases Yc.1 hm with hm|hm
   .exact ht t hm
   .simp at hm;subst hm;exact⟨hl,h3⟩
  by_cases u:tabN[i]=(⟨#[117]⟩:ByteArray)
  .obtain⟨c1,y,e,G⟩:=nxt 3 (by omega);refine G.of λr er=>Zmi ?_
   rw[if_pos (by omega)];refine⟨by omega,_,hn,?_⟩;rw[if_pos u,if_neg (by rw[u];decide)];exact⟨c1,y,_,_,e,by omega,er⟩
  by_cases v:tabN[i]=(⟨#[118]⟩:ByteArray)
  .obtain⟨c1,y,e,G⟩:=nxt 1 (by omega);refine G.of λr er=>Zmi ?_
   rw[if_pos (by omega)];refine⟨by omega,_,hn,?_⟩;rw[if_neg u,if_pos v];exact⟨c1,y,_,_,e,by omega,er⟩
  .obtain⟨c1,y,e,G⟩:=nxt 2 (by omega);refine G.of λr er=>Zmi ?_
   rw[if_pos (by omega)];refine⟨by omega,_,hn,?_⟩;rw[if_neg u,if_neg v];exact⟨c1,y,_,_,e,by omega,er⟩
theorem x_l5Db{c:Za}(g:GC c):GD (Zjm c):=by
 obtain⟨c1,val,e1,g1,_⟩:=Zd1 g [2,3,4,6] (by simp) (by simp);obtain⟨c2,most,e2,g2,hm⟩:=Zd1 g1 [2,4,6,8] (by simp) (by simp);have hm:0<=most/\most<=100:=by
  simp only[Yr,List.not_mem_nil,or_false]at hm;omega
 obtain⟨c3,y,e3,g3,hl,h3⟩:=Z2w g2 (⟨#[114]⟩:ByteArray) 2 (by omega) most val hm.1 hm.2;refine(d0a val most hm.1 hm.2 1 (by omega) c3 [⟨(⟨#[114]⟩:ByteArray),2,y⟩] g3 rfl (by omega) (by intro t ht;simp at ht;subst ht;exact⟨hl,h3⟩)).of λr e=>Z9x ⟨c1,_,val,e1,c2,_,most,e2,Z9w ?_⟩
 rw[if_pos (by decide)];refine⟨by omega,(⟨#[114]⟩:ByteArray),rfl,?_⟩;rw[if_neg (by decide),if_neg (by decide)];exact⟨c3,y,_,_,e3,e⟩
theorem Zj6.le{d:Zn}(h5:d.Tables.length<=5)(h:∀t∈d.Tables,Zj6 t):LeD d:=⟨by omega,λt ht=>⟨by have:=(h t ht).1;omega,λr hr=>by have:=(h t ht).2 r hr;omega⟩⟩
theorem x_SubTot(d:Zn)(hd:LeD d)(q:Zb)(hq:LeQ q)(m:Int):∃n,Ziw d q m=some (I n,[]):=by
 have off:Zg7 d q m=some (.tup [.agg [.t .nil,.t .nil],Bo false],[])->∃n,Ziw d q m=some (I n,[]):=λh=>⟨-1,Z1t (.inl ⟨h,rfl⟩)⟩
 rcases tf (qFor d q)with hf|hf
 .exact off (Zsw ⟨_,Zte d hd q hq,by rw[hf,if_neg (by simp)]⟩)
 .have hv:Zs q.Zp q.Atoms=true:=by unfold qFor at hf;simp only[Yb]at hf;exact hf.1
  have hm:=Ztc (q:=q) hv;rcases tf (inR m 1 (Zbz q.Zp q.Atoms))with hi|hi
  .exact off (Zsw ⟨_,Zte d hd q hq,by rw[hf,if_pos rfl];exact⟨_,Zsy q hq,_,Zcl _ _ _,by rw[hi,if_neg (by simp)]⟩⟩)
  .have hi2:=Zj3.1 hi;exact⟨_,Zbb7 d hd q hq hf m hi2.1 ⟨by omega,by have:=hm.2;omega⟩ hi2.2⟩
theorem Zbb8(n:Int)(h0:0<=n)(h1:n<=4096):Zh0 n 0=some (I (Zb7 n),[]):=by
 unfold Zb7;rw[if_neg (by omega:¬n<0)];refine Zg9 ⟨_,Zfv 0,?_⟩;rw[show Z3 0=0 from by decide];by_cases c0:n<=0
 .rw[if_pos c0,if_pos c0]
 rw[if_neg c0,if_neg c0,show w (0+1)=1 from by decide];refine Zg9 ⟨_,Zfv 1,?_⟩;rw[show Z3 1=1 from by decide];by_cases c1:n<=1
 .rw[if_pos c1,if_pos c1]
 rw[if_neg c1,if_neg c1,show w (1+1)=2 from by decide];refine Zg9 ⟨_,Zfv 2,?_⟩;rw[show Z3 2=4 from by decide];by_cases c2:n<=4
 .rw[if_pos c2,if_pos c2]
 rw[if_neg c2,if_neg c2,show w (2+1)=3 from by decide];refine Zg9 ⟨_,Zfv 3,?_⟩;rw[show Z3 3=16 from by decide];by_cases c3:n<=16
 .rw[if_pos c3,if_pos c3]
 rw[if_neg c3,if_neg c3,show w (3+1)=4 from by decide];refine Zg9 ⟨_,Zfv 4,?_⟩;rw[show Z3 4=64 from by decide];by_cases c4:n<=64
 .rw[if_pos c4,if_pos c4]
 rw[if_neg c4,if_neg c4,show w (4+1)=5 from by decide];refine Zg9 ⟨_,Zfv 5,?_⟩;rw[show Z3 5=256 from by decide];by_cases c5:n<=256
 .rw[if_pos c5,if_pos c5]
 rw[if_neg c5,if_neg c5,show w (5+1)=6 from by decide];refine Zg9 ⟨_,Zfv 6,?_⟩;rw[show Z3 6=1024 from by decide];by_cases c6:n<=1024
 .rw[if_pos c6,if_pos c6]
 rw[if_neg c6,if_neg c6,show w (6+1)=7 from by decide];refine Zg9 ⟨_,Zfv 7,?_⟩;rw[show Z3 7=4096 from by decide];rw[if_pos h1,if_pos h1]
theorem Zhi{c a b:Prop}[Decidable c](h:c)(ha:a):if c then a else b:=by rw[if_pos h];exact ha
theorem Zbb9(n:Int)(h0:0<=n)(h1:n<=4096):Zh3 n 0=some (I (Zb7 n),[]):=by
 unfold Zb7;rw[if_neg (by omega:¬n<0)];refine Zha (Zhi (by decide) ⟨_,Zfw 0,?_⟩);rw[show Z3 0=0 from by decide];by_cases c0:n<=0
 .rw[if_pos c0,if_pos c0]
 rw[if_neg c0,if_neg c0,show w (0+1)=1 from by decide];refine Zha (Zhi (by decide) ⟨_,Zfw 1,?_⟩);rw[show Z3 1=1 from by decide];by_cases c1:n<=1
 .rw[if_pos c1,if_pos c1]
 rw[if_neg c1,if_neg c1,show w (1+1)=2 from by decide];refine Zha (Zhi (by decide) ⟨_,Zfw 2,?_⟩);rw[show Z3 2=4 from by decide];by_cases c2:n<=4
 .rw[if_pos c2,if_pos c2]
 rw[if_neg c2,if_neg c2,show w (2+1)=3 from by decide];refine Zha (Zhi (by decide) ⟨_,Zfw 3,?_⟩);rw[show Z3 3=16 from by decide];by_cases c3:n<=16
 .rw[if_pos c3,if_pos c3]
 rw[if_neg c3,if_neg c3,show w (3+1)=4 from by decide];refine Zha (Zhi (by decide) ⟨_,Zfw 4,?_⟩);rw[show Z3 4=64 from by decide];by_cases c4:n<=64
 .rw[if_pos c4,if_pos c4]
 rw[if_neg c4,if_neg c4,show w (4+1)=5 from by decide];refine Zha (Zhi (by decide) ⟨_,Zfw 5,?_⟩);rw[show Z3 5=256 from by decide];by_cases c5:n<=256
 .rw[if_pos c5,if_pos c5]
 rw[if_neg c5,if_neg c5,show w (5+1)=6 from by decide];refine Zha (Zhi (by decide) ⟨_,Zfw 6,?_⟩);rw[show Z3 6=1024 from by decide];by_cases c6:n<=1024
 .rw[if_pos c6,if_pos c6]
 rw[if_neg c6,if_neg c6,show w (6+1)=7 from by decide];refine Zha (Zhi (by decide) ⟨_,Zfw 7,?_⟩);rw[show Z3 7=4096 from by decide];rw[if_pos h1,if_pos h1]
theorem Zbca{n:Int}(h:inR n 0 4096=false):Zb7 n=-1:=by
 simp[inR]at h;unfold Zb7
 repeat' split
 all_goals omega
theorem Zbcb(n:Int):Zk7 n=some (I (Zb7 n),[]):=by
 refine Z84 ⟨_,Zez _ _ _,?_⟩;rcases tf (inR n 0 4096)with e|e
 .rw[e,Zbca e];simp
 .rw[if_pos e];simp[inR]at e;exact Zbb8 n e.1 e.2
theorem Zow(n:Int):Zcw n=some (I (Zc3 n),[]):=Z85 ⟨_,Zbcb n,_,Zfv _,rfl⟩
theorem Zbcc(n:Int)(h1:n<=4096):Zlg n=some (I (Zb7 n),[]):=by
 refine Z9l ?_;by_cases c:n<0
 .rw[if_pos c];unfold Zb7;rw[if_pos c]
 .rw[if_neg c];exact Zbb9 n (by omega) h1
theorem Zmt(n:Int)(h1:n<=4096):Zeg n=some (I (Zc3 n),[]):=Z9m ⟨_,Zbcc n h1,_,Zfw _,rfl⟩
def readC(m:Zj)(n:Int):Int:=if inR n 0 4096=true then Zdi m.Scan (Zc3 n) 0 (Zc3 n)else -1
theorem Z2x(m:Zj)(hm:LeM m)(n:Int):Zh1 m n=some (I (readC m n),[]):=by
 refine Z87 ⟨_,Zow n,?_⟩;unfold readC;rcases tf (inR n 0 4096)with e|e
 .rw[if_pos ((Zwc n).2 e),e];simp
 .have:¬Zc3 n<0:=λhc=>by rw[(Zwc n).1 hc]at e;cases e
  rw[if_neg this,if_pos e];exact⟨_,Z1z _ hm.1 _ _ _,rfl⟩
theorem Z2y(m:Zj)(hm:LeM m)(n:Int):Zh4 m n=some (I (readC m n),[]):=by
 refine Z9n ⟨_,Zcl _ _ _,?_⟩;unfold readC;rcases tf (inR n 0 4096)with e|e
 .rw[e];simp
 .rw[if_pos e,if_pos e];simp[inR]at e;exact⟨_,Zmt n e.2,_,Zsz _ hm.1 _ _ _,rfl⟩
def Zhj(m:Zj)(k n:Int):Bool:=decide (readC m n<=Zdi (mOp m k) 0 0 (Zc3 n))
theorem x_ops18(m:Zj):Zgb m=some (.bsl 1 5,[.box (m.c.map .t),.box [.ptr 0 0,.ptr 0 6,.ptr 0 12,.ptr 0 18,.ptr 0 24]]):=Zz5 rfl
open Classical in
theorem Zbcd(m:Zj)(hm:LeM m)(k n:Int):Zk8 m k n=some (Bo (inR k 3 5 && inR n 0 4096 && decide (Zdz m) && Zhj m k n),[]):=by
 refine Z88 ⟨_,Zez _ _ _,?_⟩;rcases tf (inR k 3 5)with e|e
 .rw[e];simp
 rw[if_pos e];refine⟨_,Zez _ _ _,?_⟩;rcases tf (inR n 0 4096)with e2|e2
 .rw[e,e2];simp
 rw[if_pos e2];refine⟨_,Zbbd m hm,?_⟩;by_cases e3:Zdz m
 rotate_left
 .simp[e,e2,e3]
 rw[if_pos (by simp[e3])];refine⟨_,Z2x m hm n,x_ops18 m,?_⟩;have q:=λj=>Z1z _ (hm.op j) 0 0 (Zc3 n)
 have h3:k=3\/k=4\/k=5:=by simp[inR]at e;omega
 have q3:=q 3;have q4:=q 4;have q5:=q 5;simp only[mOp,Int.reduceEq,if_false,if_true]at q3 q4 q5;rcases h3 with rfl|rfl|rfl
 .rw[if_neg (by decide),if_neg (by decide),if_pos (by decide)];exact⟨_,Zow n,_,q3,by simp[e,e2,e3,Zhj,mOp]⟩
 .rw[if_neg (by decide),if_neg (by decide),if_neg (by decide),if_pos (by decide)];exact⟨_,Zow n,_,q4,by simp[e,e2,e3,Zhj,mOp]⟩
 .rw[if_neg (by decide),if_neg (by decide),if_neg (by decide),if_neg (by decide),if_pos (by decide)];exact⟨_,Zow n,_,q5,by simp[e,e2,e3,Zhj,mOp]⟩
def fst(c:List Zg):Nat->Int->Int
 |0,i=>i
 |f+1,i=>match c[i.toNat]? with
  |some y=>if 0<=y.Left then fst c f y.Left else i
  |none=>i
def first(c:List Zg)(i:Int):Int:=fst c (i.toNat+1) i
def kpF(x:Kept):Bool->List Kept->List Kept
 |true,[]=>[]
 |false,[]=>[x]
 |true,e::es=>if e.Mask=x.Mask then kpF x true es else e::kpF x true es
 |false,e::es=>if x.Mask<=e.Mask then(if e.Mask=x.Mask then x::kpF x true es else x::e::kpF x true es)else(if e.Mask=x.Mask then kpF x false es else e::kpF x false es)
def kp(x:Kept)(l:List Kept):List Kept:=kpF x false l
theorem Zox(x:Kept):∀(b:Bool) (l:List Kept),(kpF x b l).length<=l.length+1
 |true,[]=>by simp[kpF]
 |false,[]=>by simp[kpF]
 |true,e::es=>by
  have:=Zox x true es;have h2:(kpF x true es).length<=es.length:=by
   clear this
   induction es with
   |nil=>simp[kpF]
   |cons e es ih=>unfold kpF;split<;>simp<;>omega
  unfold kpF;split<;>simp<;>omega
 |false,e::es=>by
  have h1:=Zox x false es;have h2:(kpF x true es).length<=es.length:=by
   clear h1
   induction es with
   |nil=>simp[kpF]
   |cons e es ih=>unfold kpF;split<;>simp<;>omega
  unfold kpF;split<;>split<;>simp<;>omega
theorem Z2z(x:Kept)(b:Bool){l:List Kept}{i:Nat}(hi:i<l.length):kpF x b (l.drop i)=match b with
  |true=>if l[i].Mask=x.Mask then kpF x true (l.drop (i+1))else l[i]::kpF x true (l.drop (i+1))
  |false=>if x.Mask<=l[i].Mask then(if l[i].Mask=x.Mask then x::kpF x true (l.drop (i+1))else x::l[i]::kpF x true (l.drop (i+1)))else(if l[i].Mask=x.Mask then kpF x false (l.drop (i+1))else l[i]::kpF x false (l.drop (i+1))):=by
 rw[Yj hi];cases b<;>rw[kpF]
theorem app1{α:Type}(a:List α)(x:α)(b:List α):a++x::b=(a++[x])++b:=by simp
theorem Zbce(x:Kept)(l:List Kept)(hl:l.length<=1000):∀i,i<=l.length->∀(cc:List Kept) (b:Bool),cc.length<=2*i->Zdx x cc b l l.length i=some (.own 0,[.arr 40 2 true ((cc++kpF x b (l.drop i)).map Kept.c)]):=by
 refine down _ ?_ ?_
 .intro cc b ho;refine Z1v ?_;rw[if_neg (by omega),Ybt];cases b
  .rw[if_neg (by simp)];exact⟨by omega,by simp[kpF]⟩
  .rw[if_pos rfl];simp[kpF]
 .intro i hi ih cc b ho;refine Z1v ?_;rw[if_pos (by omega),wS hi (by omega)];refine⟨by omega,_,Yh (by rw[Ym];exact hi),?_⟩;simp only[Ym];rw[Z2z x b hi];cases b
  .rw[if_neg (by simp)];dsimp only;by_cases h1:x.Mask<=l[i].Mask
   .rw[if_pos h1,if_pos h1];refine⟨by omega,?_⟩;by_cases h2:l[i].Mask=x.Mask
    .rw[if_pos h2,if_pos h2,app1 cc x (kpF _ _ _)];exact ih _ _ (by simp;omega)
    .rw[if_neg h2,if_neg h2,app1 cc x (l[i]::kpF _ _ _),app1 (cc++[x]) l[i] (kpF _ _ _)];exact⟨by omega,ih _ _ (by simp;omega)⟩
   .rw[if_neg h1,if_neg h1];by_cases h2:l[i].Mask=x.Mask
    .rw[if_pos h2,if_pos h2];exact ih _ _ (by omega)
    .rw[if_neg h2,if_neg h2,app1 cc l[i] (kpF _ _ _)];exact⟨by omega,ih _ _ (by simp;omega)⟩
  .rw[if_pos rfl];dsimp only;by_cases h2:l[i].Mask=x.Mask
   .rw[if_pos h2,if_pos h2];exact ih _ _ (by omega)
   .rw[if_neg h2,if_neg h2,app1 cc l[i] (kpF _ _ _)];exact⟨by omega,ih _ _ (by simp;omega)⟩
theorem Zbcf(x:Kept)(l:List Kept)(hl:l.length<=1000):∀i,i<=l.length->∀(cc:List Kept) (b:Bool),cc.length<=2*i->Zdw x cc l b i=some (.own 0,[.arr 40 2 true ((cc++kpF x b (l.drop i)).map Kept.c)]):=by
 refine down _ ?_ ?_
 .intro cc b ho;refine Z1u ?_;rw[if_neg (by omega),Ybt];cases b
  .rw[if_neg (by simp)];exact⟨by omega,by simp[kpF]⟩
  .rw[if_pos rfl];simp[kpF]
 .intro i hi ih cc b ho;refine Z1u ?_;rw[if_pos (by omega),wS hi (by omega),Z2z x b hi];cases b
  .rw[if_neg (by simp)];refine⟨by omega,_,Yh (by rw[Ym];exact hi),?_⟩;simp only[Ym];by_cases h1:x.Mask<=l[i].Mask
   .rw[if_pos h1,if_pos h1];refine⟨by omega,?_⟩;by_cases h2:l[i].Mask=x.Mask
    .rw[if_pos h2,if_pos h2,app1 cc x (kpF _ _ _)];exact ih _ _ (by simp;omega)
    .rw[if_neg h2,if_neg h2,app1 cc x (l[i]::kpF _ _ _),app1 (cc++[x]) l[i] (kpF _ _ _)];exact⟨by omega,ih _ _ (by simp;omega)⟩
   .rw[if_neg h1,if_neg h1];by_cases h2:l[i].Mask=x.Mask
    .rw[if_pos h2,if_pos h2];exact ih _ _ (by omega)
    .rw[if_neg h2,if_neg h2,app1 cc l[i] (kpF _ _ _)];exact⟨by omega,ih _ _ (by simp;omega)⟩
  .rw[if_pos rfl];refine⟨by omega,_,Yh (by rw[Ym];exact hi),?_⟩;simp only[Ym];by_cases h2:l[i].Mask=x.Mask
   .rw[if_pos h2,if_pos h2];exact ih _ _ (by omega)
   .rw[if_neg h2,if_neg h2,app1 cc l[i] (kpF _ _ _)];exact⟨by omega,ih _ _ (by simp;omega)⟩
theorem Zbcg(l:List Kept)(x:Kept)(hl:l.length<=1000):Zjr l x=some (.own 0,[.arr 40 2 true ((kp x l).map Kept.c)]) :=
 Zbaw (Zbce x l hl 0 (Yd _) [] false (Yd _))
theorem Z20(l:List Kept)(x:Kept)(hl:l.length<=1000):Zjp l x=some (.own 0,[.arr 40 2 true ((kp x l).map Kept.c)]) :=
 Zbat (Zbcf x l hl 0 (Yd _) [] false (Yd _))
def Asc(l:List Kept):Prop:=l.Pairwise λa b=>a.Mask<b.Mask
theorem kpT(x:Kept):∀l:List Kept,kpF x true l=l.filter λe=>decide (e.Mask≠x.Mask)
 |[]=>rfl
 |e::es=>by
  unfold kpF;rw[Ycx,kpT x es];by_cases h:e.Mask=x.Mask<;>simp[h]
theorem Zoy(x:Kept):∀l:List Kept,Asc l->Asc (kpF x false l)/\(∀y:Int,y<x.Mask->(∀e∈l,y<e.Mask)->∀e∈kpF x false l,y<e.Mask)/\x∈kpF x false l
 |[],_=>by
  unfold kpF
  exact⟨List.pairwise_singleton _ _,λy h _ e he=>by simp at he;rw[he];exact h,by simp⟩
 |e::es,h=>by
  obtain⟨h1,h2⟩:=Ycm.1 h;have hf:Asc (es.filter λe=>decide (e.Mask≠x.Mask)):=h2.filter _;unfold kpF;by_cases c:x.Mask<=e.Mask
  .rw[if_pos c];by_cases d:e.Mask=x.Mask
   .rw[if_pos d,kpT];refine⟨Ycm.2 ⟨λy hy=>by have:=h1 y (Ybf.1 hy).1;omega,hf⟩,?_,by simp⟩;intro y hy hl z hz;rcases Yr.1 hz with hz|hz
    .rw[hz];exact hy
    .exact hl z (by simp[(Ybf.1 hz).1])
   .rw[if_neg d,kpT];refine⟨Ycm.2 ⟨?_,Ycm.2 ⟨λy hy=>h1 y (Ybf.1 hy).1,hf⟩⟩,?_,by simp⟩
    .intro y hy;rcases Yr.1 hy with hy|hy
     .rw[hy];omega
     .have:=h1 y (Ybf.1 hy).1;omega
    .intro y hy hl z hz;simp only[Yr]at hz;rcases hz with hz|hz|hz
     .rw[hz];exact hy
     .exact hl z (by simp[hz])
     .exact hl z (by simp[(Ybf.1 hz).1])
  .rw[if_neg c,if_neg (by omega)];obtain⟨k1,k2,k3⟩:=Zoy x es h2;refine⟨Ycm.2 ⟨λy hy=>k2 e.Mask (by omega) h1 y hy,k1⟩,?_,by simp[k3]⟩;intro y hy hl z hz;rcases Yr.1 hz with hz|hz
   .exact hl z (by simp[hz])
   .exact k2 y hy (λe he=>hl e (by simp[he])) z hz
theorem x_l28All(a:List Int)(ha:a.length<=1048576):∃(c:Za) (m:Zj) (d:Zn) (q:Zb) (p:Plan),Zl5 a=some (.tup [.ptr 0 0,.agg (m.c.map .t),.agg (d.c.map .t),.agg (q.c.map .t),.agg (p.c.map .t)],[cB c])/\GC c/\SmM m/\(d.Tables.length<=5/\∀t∈d.Tables,Zj6 t)/\LeQ q/\p.Steps.length<=57:=by
 obtain⟨c,e,g⟩:=Z19 a ha;obtain⟨c1,m,e1,g1,hm⟩:=Z2b g;obtain⟨c2,b,e2,g2⟩:=Zej g1 10;rcases tf b with hb|hb
 .subst hb;obtain⟨c3,d,e3,g3,hd⟩:=x_l5Db g2;obtain⟨c4,q,p,e4,g4,hq,hp⟩:=Z2v g3;exact⟨c4,m,d,q,p,Z1g ⟨c,e,c1,m,e1,c2,false,e2,by rw[if_neg (by simp)];exact⟨c3,d,e3,c4,q,p,e4,rfl⟩⟩,g4,hm,hd,hq,hp⟩
 .subst hb;obtain⟨c2',m',e2',g2',hm'⟩:=Z2m g2;obtain⟨c3,d,e3,g3,hd⟩:=x_l5Db g2';obtain⟨c4,q,p,e4,g4,hq,hp⟩:=Z2v g3;exact⟨c4,m',d,q,p,Z1g ⟨c,e,c1,m,e1,c2,true,e2,by rw[if_pos rfl];exact⟨c2',m',e2',c3,d,e3,c4,q,p,e4,rfl⟩⟩,g4,hm',hd,hq,hp⟩
theorem Ztg(d:Zn)(hd:LeD d)(q:Zb)(hq:LeQ q):∀k:Nat,k<=100->∀c (l:List Kept),GC c->Asc l->l.length+k<=100->∃(c':Za) (l':List Kept),Zg8 c d q l k=some (L 2 (l'.map Kept.c),[cB c'])/\GC c'/\Asc l'/\l'.length<=100
 |0,_,c,l,g,h,hl=>⟨c,l,Zsx (by rw[if_neg (by omega)]),g,h,by omega⟩
 |k+1,hk,c,l,g,h,hl=>by
  obtain⟨c1,m,e1,g1⟩:=x_l8Mask g q;obtain⟨n,e2⟩:=x_SubTot d hd q hq m;obtain⟨c2,b,e3,g2⟩:=Zej g1 8;have hw:w (((k+1:Nat):Int)-1)=(k:Int):=by rw[w_id (by omega) (by omega)];omega
  have hx:∀x:Kept,(kp x l).length<=l.length+1:=λx=>Zox x false l
  rcases tf b with hb|hb
  .subst hb;obtain⟨c4,l',e4,g4,r⟩:=Ztg d hd q hq k (by omega) c2 (kp ⟨m,n⟩ l) g2 (Zoy _ l h).1 (by have:=hx ⟨m,n⟩;omega);exact⟨c4,l',Zsx (by rw[if_pos (by omega)];exact⟨c1,m,e1,n,e2,c2,false,e3,by rw[if_neg (by simp),hw];exact⟨_,Z20 l _ (by omega),e4⟩⟩),g4,r⟩
  .subst hb;obtain⟨c3,n',e3',g3,_⟩:=Zbbm g2 [(-1),0,3,4097] (by simp) (by simp);obtain⟨c4,l',e4,g4,r⟩:=Ztg d hd q hq k (by omega) c3 (kp ⟨m,n'⟩ l) g3 (Zoy _ l h).1 (by have:=hx ⟨m,n'⟩;omega);exact⟨c4,l',Zsx (by rw[if_pos (by omega)];exact⟨c1,m,e1,n,e2,c2,true,e3,by rw[if_pos rfl,hw];exact⟨c3,n',e3',_,Z20 l _ (by omega),e4⟩⟩),g4,r⟩
theorem Zbch{c:Za}(g:GC c)(d:Zn)(hd:LeD d)(q:Zb)(hq:LeQ q):∃(c':Za) (l:List Kept),Zmh c d q=some (L 2 (l.map Kept.c),[cB c'])/\GC c'/\Asc l/\l.length<=100:=by
 obtain⟨c1,k,e1,g1,k0,k1⟩:=Z7 g 4;have:=k1 (by omega);obtain⟨j,rfl⟩:∃j:Nat,k=j:=⟨k.toNat,by omega⟩;obtain⟨c2,l,e2,g2,r⟩:=Ztg d hd q hq j (by omega) c1 [] g1 .nil (by simp;omega);exact⟨c2,l,Zbau ⟨c1,j,e1,e2⟩,g2,r⟩
theorem Zbci(a:List Int)(ha:a.length<=1048576):∃(l:List Kept) (x:Kept),Zjq a=some (.tup [L 2 (l.map Kept.c),.agg (x.c.map .t)],[])/\Asc l/\l.length<=100:=by
 obtain⟨c,m,d,q,p,e,g,hm,⟨hd,hd2⟩,hq,hp⟩:=x_l28All a ha;obtain⟨c1,l,e1,g1,h1,h2⟩:=Zbch g d (Zj6.le hd hd2) q hq;obtain⟨c2,n,e2,g2,_⟩:=Z7 g1 9;obtain⟨c3,k,e3,g3,_⟩:=Z7 g2 20;exact⟨l,⟨n,k⟩,Zbav ⟨c,m,d,q,p,e,c1,l,e1,c2,n,e2,c3,k,e3,rfl⟩,h1,h2⟩
theorem Zbcj(a:List Int)(ha:a.length<=1048576):∃(m:Zj) (k n:Int),Zk1 a=some (.tup [.agg (m.c.map .t),I k,I n],[])/\SmM m:=by
 obtain⟨c,e,g⟩:=Z19 a ha;obtain⟨c1,m,e1,g1,hm⟩:=Z2m g;obtain⟨c2,k,e2,g2,_⟩:=Z7 g1 8;obtain⟨c3,n,e3,g3,_⟩:=Zd1 g2 [(-1),0,1,3,17,64,4096,4097] (by simp) (by simp);exact⟨m,w (k-1),n,Z8s ⟨c,e,c1,m,e1,c2,k,e2,c3,_,n,e3,rfl⟩,hm⟩
theorem Zth{a:Int}(h:0<=a/\a<=7):inR (Z3 a) 0 4096=true:=by
 have:a=0\/a=1\/a=2\/a=3\/a=4\/a=5\/a=6\/a=7:=by omega
 rcases this with rfl|rfl|rfl|rfl|rfl|rfl|rfl|rfl<;>decide
theorem Z21{o:Zc}(hv:Zbn o=true){a b c:Int}(ha:0<=a/\a<=7)(hb:0<=b/\b<=7)(hc:0<=c/\c<=7):Zdi o (Z3 a) (Z3 b) (Z3 c)=tcl o [a,b,c]:=by
 unfold Zdi tcl;rw[hv,Zth ha,Zth hb,Zth hc];rfl
theorem up1{o:Zc}(h:¬decr o){a b c:Int}(ha:0<=a/\a+1<=7)(hb:0<=b/\b<=7)(hc:0<=c/\c<=7):tcl o [a,b,c]<=tcl o [a+1,b,c] :=
 Int.not_lt.1 λq=>h ⟨[a,b,c],⟨a,b,c,rfl,⟨ha.1,by omega⟩,hb,hc⟩,0,by omega,by omega,a,rfl,ha.2,q⟩
theorem up2{o:Zc}(h:¬decr o){a b c:Int}(ha:0<=a/\a<=7)(hb:0<=b/\b+1<=7)(hc:0<=c/\c<=7):tcl o [a,b,c]<=tcl o [a,b+1,c] :=
 Int.not_lt.1 λq=>h ⟨[a,b,c],⟨a,b,c,rfl,ha,⟨hb.1,by omega⟩,hc⟩,1,by omega,by omega,b,rfl,hb.2,q⟩
theorem up3{o:Zc}(h:¬decr o){a b c:Int}(ha:0<=a/\a<=7)(hb:0<=b/\b<=7)(hc:0<=c/\c+1<=7):tcl o [a,b,c]<=tcl o [a,b,c+1] :=
 Int.not_lt.1 λq=>h ⟨[a,b,c],⟨a,b,c,rfl,ha,hb,⟨hc.1,by omega⟩⟩,2,by omega,by omega,c,rfl,hc.2,q⟩
theorem climb{f:Int->Int}(h:∀x,0<=x->x+1<=7->f x<=f (x+1)){a:Int}(h0:0<=a):∀n:Nat,a+n<=7->f a<=f (a+n)
 |0,_=>by simp
 |n+1,hn=>by
  have h1:=climb h h0 n (by omega);have h2:=h (a+n) (by omega) (by omega);rw[show a+((n+1:Nat):Int)=a+n+1 by omega];omega
theorem climb'{f:Int->Int}(h:∀x,0<=x->x+1<=7->f x<=f (x+1)){a b:Int}(h0:0<=a)(c:a<=b)(h7:b<=7):f a<=f b:=by
 have:=climb h h0 (b-a).toNat (by omega)
 rwa [show a+((b-a).toNat:Int)=b by omega]at this
theorem op_mono{o:Zc}(h:Zb9 o){a b c a' b' c':Int}(ha:0<=a/\a<=a'/\a'<=7)(hb:0<=b/\b<=b'/\b'<=7)(hc:0<=c/\c<=c'/\c'<=7):Zdi o (Z3 a) (Z3 b) (Z3 c)<=Zdi o (Z3 a') (Z3 b') (Z3 c'):=by
 obtain⟨h1,h2,_⟩:=h;rw[Z21 h1 ⟨by omega,by omega⟩ ⟨by omega,by omega⟩ ⟨by omega,by omega⟩,Z21 h1 ⟨by omega,by omega⟩ ⟨by omega,by omega⟩ ⟨by omega,by omega⟩];have q1:=climb' (f:=λx=>tcl o [x,b,c]) (λx k1 k2=>up1 h2 ⟨k1,k2⟩ ⟨by omega,by omega⟩ ⟨by omega,by omega⟩) ha.1 ha.2.1 ha.2.2;have q2:=climb' (f:=λx=>tcl o [a',x,c]) (λx k1 k2=>up2 h2 ⟨by omega,by omega⟩ ⟨k1,k2⟩ ⟨by omega,by omega⟩) hb.1 hb.2.1 hb.2.2;have q3:=climb' (f:=λx=>tcl o [a',b',x]) (λx k1 k2=>up3 h2 ⟨by omega,by omega⟩ ⟨by omega,by omega⟩ ⟨k1,k2⟩) hc.1 hc.2.1 hc.2.2;exact Int.le_trans (Int.le_trans q1 q2) q3
theorem mOp_good{m:Zj}(h:Zdz m)(k:Int):Zb9 (mOp m k):=by
 obtain⟨h1,h2,h3,h4,h5⟩:=h;unfold mOp
 repeat' split
 all_goals assumption
theorem dec_u8(ts:List T)(h:HasShs [.int .u8] ts):∃n:Int,ts=kc .u8 n/\(0<=n/\n<=255):=by
 obtain⟨t,us,rfl,h1,h2⟩:=Ztj h;cases dec_nil h2
 cases h1 with
 |int hw =>
  refine⟨_,rfl,?_⟩;have h':=Bool.and_eq_true_iff.1 hw;exact⟨of_decide_eq_true h'.1,of_decide_eq_true h'.2⟩
theorem decB{t:T}(h:HasSh (.slice [.int .u8]) t):∃xs:List Int,t=.lst 1 (xs.map (kc .u8))/\OkL (λn=>0<=n/\n<=255) xs:=Z46 dec_u8 h
open Classical in
theorem Zbck(m:Zj)(hm:LeM m)(k n:Int):Zlh m k n=some (Bo (inR k 3 5 && inR n 0 4096 && decide (Zdz m) && Zhj m k n),[]):=by
 refine Z9o ⟨_,Zbbc m hm,?_⟩;by_cases e3:Zdz m
 rotate_left
 .simp[e3]
 rw[if_pos (by simp[e3])];refine⟨_,Zcl _ _ _,?_⟩;rcases tf (inR k 3 5)with e|e
 .rw[e];simp
 rw[if_pos e];refine⟨_,Zcl _ _ _,?_⟩;rcases tf (inR n 0 4096)with e2|e2
 .rw[e,e2];simp
 rw[if_pos e2];have:=(Zj3.1 e2).2;exact⟨_,Z2y m hm n,_,Zs3 m k,_,Zmt n this,_,Zsz _ (hm.op k) 0 0 (Zc3 n),by simp[e,e2,e3,Zhj]⟩
theorem x_at(code:List Int)(hl:code.length<=1048576)(hb:∀n∈code,0<=n/\n<=255)(i:Nat)(hi:i<=100):∃v:Int,Zjk code i=some (I v,[])/\0<=v:=by
 by_cases h:i<code.length
 .have:=hb _ (Yk h);exact⟨w code[i],Z0q (by rw[if_pos (by omega)];exact⟨by omega,code[i],gE h,rfl⟩),by rw[w_id (by omega) (by omega)];omega⟩
 .refine⟨_,Z0q (by rw[if_neg (by omega)]),?_⟩;rw[show w ((i:Int)*37)=(i:Int)*37 from w_id (by omega) (by omega),show w ((code.length:Int)*11)=(code.length:Int)*11 from w_id (by omega) (by omega),w_id (by omega) (by omega)];exact Int.tmod_nonneg _ (by omega)
theorem Zti{n:Int}(h0:0<=n)(h1:n<=4096):0<=Zb7 n/\Zb7 n<=7:=by
 unfold Zb7
 repeat' split
 all_goals omega
theorem op_ge{o:Zc}(h:Zb9 o){a b n:Int}(ha:0<=a/\a<=4096)(hb:0<=b/\b<=4096)(hn:0<=n/\n<=4096):Zdi o 0 0 (Zc3 n)<=Zdi o (Zc3 a) (Zc3 b) (Zc3 n):=by
 have h1:=Zti ha.1 ha.2;have h2:=Zti hb.1 hb.2;have h3:=Zti hn.1 hn.2;have:=op_mono h (a:=0) (b:=0) (c:=Zb7 n) (a':=Zb7 a) (b':=Zb7 b) (c':=Zb7 n) ⟨by omega,by omega,by omega⟩ ⟨by omega,by omega,by omega⟩ ⟨by omega,by omega,by omega⟩;rw[show Z3 0=0 from by decide]at this;exact this
theorem Zbcl(m:Zj)(hm:SmM m)(k:Int)(hk:inR k 1 5=true):Zli m k=some (.tup [.agg [I (mOp m k).Fixed,I (mOp m k).Z9,I (mOp m k).Zba,I (mOp m k).Zbb,I (mOp m k).Zbc,.own 0],Bo true],[.arr 60 2 true ((mOp m k).Steps.map Zd.c)]):=by
 have hs:(mOp m k).Steps.length<=3:=by
  obtain⟨h1,h2,h3,h4,h5⟩:=hm;unfold mOp
  repeat' split
  all_goals assumption
 refine Z9q ⟨_,Zcl _ _ _,?_⟩;rw[if_pos hk];exact⟨mOp m k,Zs3 m k,_,_,_,_,_,_,Z9p ⟨by omega,rfl⟩,rfl⟩
theorem l_read(x:Kept)(y:List Kept)(hy:Asc y)(hl:y.length<=1000):∀i,i<=y.length->∀f:Bool,(f=true\/x∈y.drop i)->Zei x y f i=some (Bo true,[]):=by
 refine down _ ?_ ?_
 .intro f hf;rcases hf with hf|hf
  .exact Z1w (by rw[if_neg (by omega),hf])
  .rw[Ybt]at hf;cases hf
 .intro i hi ih f hf;have hn:f=true\/(decide (y[i].Mask=x.Mask/\y[i].Size=x.Size)=true\/x∈y.drop (i+1)):=by
   rcases hf with hf|hf
   .exact .inl hf
   .rw[Yj hi]at hf;rcases Yr.1 hf with hf|hf
    .right;left;rw[<-hf];simp
    .right;right;exact hf
  have hw:=wN i (by omega);refine Z1w ?_;rw[if_pos (by omega),hw];by_cases h0:(0:Int)<i
  .rw[if_pos h0];have hp:w ((i:Int)-1)=((i-1:Nat):Int):=by rw[w_id (by omega) (by omega)];omega
   rw[hp];have hlt:y[i-1].Mask<y[i].Mask:=Yci.1 hy (i-1) i (by omega) hi (by omega);refine⟨by omega,y[i-1],gE (by omega),by omega,y[i],gE hi,?_⟩;rw[if_neg (by omega)];rcases tf f with e|e
   .subst e;rw[if_neg (by simp)];exact ih _ (by rcases hn with h|h;cases h;exact h)
   .subst e;rw[if_pos rfl];exact ih _ (.inl rfl)
  .rw[if_neg h0];rcases tf f with e|e
   .subst e;rw[if_neg (by simp)];exact⟨by omega,y[i],gE hi,ih _ (by rcases hn with h|h;cases h;exact h)⟩
   .subst e;rw[if_pos rfl];exact ih _ (.inl rfl)
open Classical in
theorem Z23(a:List Int)(ha:OkL (λn=>0<=n/\n<=255) a):C Z5j [L 1 (a.map (kc .u8))] []=some (Bo true,[]):=by
 refine Zbax a _ ⟨_,Z8n rfl,?_⟩;by_cases hb:1048576<(a.length:Int)
 .rw[if_pos (by simpa using hb)]
 rw[if_neg (by simpa using hb)];have hl:a.length<=1048576:=by omega
 obtain⟨m,k,n,e1,hm⟩:=Zbcj a hl;obtain⟨l,x,e2,h1,h2⟩:=Zbci a hl;have hr1:=Zbcd m hm.le k n;have hr2:=Zbck m hm.le k n;have e3:=Zbcg l x (by omega);obtain⟨p1,_,p3⟩:=Zoy x l h1;have e4:=l_read x (kp x l) p1 (by have:=Zox x false l;unfold kp;omega) 0 (by omega) false (.inr p3);refine⟨m,k,n,e1,_,hr1,_,hr2,by first|rfl|(congr 1;ac_rfl),_,Z2x m hm.le n,_,Z2y m hm.le n,rfl,?_⟩;by_cases h:(inR k 3 5 && inR n 0 4096 && decide (Zdz m) && Zhj m k n)=true
 .rw[if_pos h];simp only[Yb,decide_eq_true_eq]at h;obtain⟨⟨⟨q1,q2⟩,q3⟩,q4⟩:=h;have q1':=Zj3.1 q1;have q2':=Zj3.1 q2;obtain⟨v,f1,v0⟩:=x_at a hl ha.2 0 (by omega);obtain⟨u,f2,u0⟩:=x_at a hl ha.2 1 (by omega);have t1:0<=Int.tmod v 9/\Int.tmod v 9<=4096:=⟨Int.tmod_nonneg _ v0,by have:=Int.tmod_lt_of_pos v (b:=9) (by omega);omega⟩;have t2:0<=Int.tmod u 9/\Int.tmod u 9<=4096:=⟨Int.tmod_nonneg _ u0,by have:=Int.tmod_lt_of_pos u (b:=9) (by omega);omega⟩;refine⟨_,_,_,_,_,_,Zbcl m hm k (Zj3.2 (by omega)),v,f1,_,Zmt _ t1.2,u,f2,_,Zmt _ t2.2,_,Zmt n q2'.2,_,Zsz (mOp m k) (hm.le.op k) _ _ _,?_,l,x,e2,_,e3,e4⟩;unfold Zhj at q4;have:=of_decide_eq_true q4;have:=op_ge (mOp_good q3 k) t1 t2 q2';omega
 .rw[if_neg h];exact⟨l,x,e2,_,e3,e4⟩
theorem Zbcm(f:Nat)(xs:List AV)(h0:List Blk)(r:AV)(hr:List Blk)(h:ext f xs h0=some (r,hr)):Zbl Try.prog f xs h0 r hr:=by cases h
theorem sound{f:Nat}{xs:List AV}{h0:List Blk}{r:AV}{hr:List Blk}(h:C f xs h0=some (r,hr)):Zbl Try.prog f xs h0 r hr:=Z44 (tblOK _ _) Zbcm h
end Go.Proofs.Ytdbnflilbkjbhaa
