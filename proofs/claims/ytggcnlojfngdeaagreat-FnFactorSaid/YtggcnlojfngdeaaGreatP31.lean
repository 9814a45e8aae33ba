/-
  Parts of the proofs for this seat: ID IN.
-/
import Derived.Test.YtggcnlojfngdeaaGreatP24
set_option linter.all false
set_option maxRecDepth 100000
set_option maxHeartbeats 4000000
namespace Go.Proofs.YtggcnlojfngdeaaGreat
open Go.AM
abbrev B4:=Bool×Bool×Bool×Bool
structure Ed where
 a:Bool
 b:Bool
 c:Bool
 d:Bool
 e:Bool
 f:Bool
def Z0l(g:Ed)(x:B4):B4:=match x with
 |(x0,x1,x2,x3)=>(!x0 && ((x1 && g.a) || (x2 && g.b) || (x3 && g.c)),!x1 && ((x0 && g.a) || (x2 && g.d) || (x3 && g.e)),!x2 && ((x0 && g.b) || (x1 && g.d) || (x3 && g.f)),!x3 && ((x0 && g.c) || (x1 && g.e) || (x2 && g.f)))
def orB(x y:B4):B4:=match x,y with
 |(x0,x1,x2,x3),(y0,y1,y2,y3)=>(x0 || y0,x1 || y1,x2 || y2,x3 || y3)
def XT(x y:B4):B4:=match x,y with
 |(x0,x1,x2,x3),(y0,y1,y2,y3)=>(x0 && y0,x1 && y1,x2 && y2,x3 && y3)
def Ul(x y:B4):B4:=match x,y with
 |(x0,x1,x2,x3),(y0,y1,y2,y3)=>(x0 && !y0,x1 && !y1,x2 && !y2,x3 && !y3)
def Z0m(g:Ed)(p x:B4):B4:=orB x (XT (Z0l g x) p)
def Zqa(g:Ed)(p:B4):Nat->B4->B4
 |0,x=>x
 |n+1,x=>Zqa g p n (Z0m g p x)
def Oj:B4->B4
 |(p0,p1,p2,p3)=>(p0,!p0 && p1,!p0 && !p1 && p2,!p0 && !p1 && !p2 && p3)
def VR(g:Ed)(n:Nat)(p:B4):Bool:=Zqa g p n (Oj p) == p
def Z0n(g:Ed)(x y:B4):Bool:=match x,y with
 |(x0,x1,x2,x3),(y0,y1,y2,y3)=>(x0 && ((y1 && g.a) || (y2 && g.b) || (y3 && g.c))) || (x1 && ((y0 && g.a) || (y2 && g.d) || (y3 && g.e))) || (x2 && ((y0 && g.b) || (y1 && g.d) || (y3 && g.f))) || (x3 && ((y0 && g.c) || (y1 && g.e) || (y2 && g.f)))
def Bl(x:B4):Int:=match x with|(a,b,c,d)=>Xy a b c d
def Ok(n:Nat)(p:B4):Bool:=match p with|(p0,p1,p2,p3)=>(decide (1<=n) || !p0) && (decide (2<=n) || !p1) && (decide (3<=n) || !p2) && (decide (4<=n) || !p3)
def KL(p:B4):Bool:=p == (true,false,false,false) || p == (false,true,false,false) || p == (false,false,true,false) || p == (false,false,false,true)
def Tg(g:Ed)(n:Nat)(p:B4):Bool:=!Ok n p || !VR g n p || KL p || p == (false,false,false,false) ||
 (XT p (true,false,false,false) != (false,false,false,false) && VR g n (Ul p (true,false,false,false))) || (XT p (false,true,false,false) != (false,false,false,false) && VR g n (Ul p (false,true,false,false))) ||
 (XT p (false,false,true,false) != (false,false,false,false) && VR g n (Ul p (false,false,true,false))) || (XT p (false,false,false,true) != (false,false,false,false) && VR g n (Ul p (false,false,false,true)))
def Th(g:Ed)(n:Nat)(p x:B4):Bool:=XT x p != x || x == (false,false,false,false) || x == p || Z0n g x (Ul p x) || !Ok n p || !VR g n p
set_option maxRecDepth 100000 in
def f1:∀a b c d e f:Bool,∀p0 p1 p2 p3:Bool,Tg ⟨a,b,c,d,e,f⟩ 1 (p0,p1,p2,p3)=true/\Tg ⟨a,b,c,d,e,f⟩ 2 (p0,p1,p2,p3)=true/\Tg ⟨a,b,c,d,e,f⟩ 3 (p0,p1,p2,p3)=true/\Tg ⟨a,b,c,d,e,f⟩ 4 (p0,p1,p2,p3)=true:=by decide +kernel
set_option maxRecDepth 100000 in
def f2:∀a b c d e f:Bool,∀p0 p1 p2 p3 x0 x1 x2 x3:Bool,Th ⟨a,b,c,d,e,f⟩ 1 (p0,p1,p2,p3) (x0,x1,x2,x3)=true/\Th ⟨a,b,c,d,e,f⟩ 2 (p0,p1,p2,p3) (x0,x1,x2,x3)=true/\Th ⟨a,b,c,d,e,f⟩ 3 (p0,p1,p2,p3) (x0,x1,x2,x3)=true/\Th ⟨a,b,c,d,e,f⟩ 4 (p0,p1,p2,p3) (x0,x1,x2,x3)=true:=by decide +kernel
def AP(m:Int):B4:=(Z1 m 0,Z1 m 1,Z1 m 2,Z1 m 3)
set_option maxRecDepth 100000 in
def pK:∀a:Fin 16,Bl (AP (a.1:Int))=(a.1:Int):=by decide
def Z0o{m:Int}(h:AX m):Bl (AP m)=m:=by obtain⟨a,rfl⟩:=m16 h;exact pK a
def ZA9:∀a b c d:Bool,AP (Xy a b c d)=(a,b,c,d)/\AX (Xy a b c d):=by decide
def pL(x:B4):AP (Bl x)=x:=(ZA9 x.1 x.2.1 x.2.2.1 x.2.2.2).1
def Ol(x:B4):AX (Bl x):=(ZA9 x.1 x.2.1 x.2.2.1 x.2.2.2).2
theorem Z0p{x y:B4}(h:Bl x=Bl y):x=y:=by rw[<-pL x,h,pL]
set_option maxRecDepth 100000 in
def ZAA:∀a b c d e f g h:Bool,Au (Xy a b c d) (Xy e f g h)=Xy (a || e) (b || f) (c || g) (d || h)/\Aj (Xy a b c d) (Xy e f g h)=Xy (a && e) (b && f) (c && g) (d && h):=by decide
theorem ZAB(x y:B4):Au (Bl x) (Bl y)=Bl (orB x y):=(ZAA x.1 x.2.1 x.2.2.1 x.2.2.2 y.1 y.2.1 y.2.2.1 y.2.2.2).1
theorem Zqb(x y:B4):Aj (Bl x) (Bl y)=Bl (XT x y):=(ZAA x.1 x.2.1 x.2.2.1 x.2.2.2 y.1 y.2.1 y.2.2.1 y.2.2.2).2
def ZMJ:∀a b c d:Bool,Aj (Xy a b c d) (w (0-Xy a b c d))=Bl (Oj (a,b,c,d)):=by decide
def ZMK:∀a b c d e f g h:Bool,XT (e,f,g,h) (a,b,c,d)=(e,f,g,h)->Xy a b c d-Xy e f g h=Bl (Ul (a,b,c,d) (e,f,g,h)):=by decide
def ZAC{x y:B4}(h:XT y x=y):Bl x-Bl y=Bl (Ul x y):=ZMK x.1 x.2.1 x.2.2.1 x.2.2.2 y.1 y.2.1 y.2.2.1 y.2.2.2 h
def Z0q:∀i j:Fin 4,Z1 (Ac 1 i.1) j.1=decide (i=j):=by decide
def On(qa:List Zd)(h4:qa.length<=4)(m:Int)(u:Nat):pV m qa u=((Z1 m 0 && pV (Ac 1 (0:Nat)) qa u) || (Z1 m 1 && pV (Ac 1 (1:Nat)) qa u) || (Z1 m 2 && pV (Ac 1 (2:Nat)) qa u) || (Z1 m 3 && pV (Ac 1 (3:Nat)) qa u)):=by
 have s:∀i j:Nat,i<4->j<4->Z1 (Ac 1 (i:Nat)) j=decide (i=j):=λi j hi hj=>by
  have:=Z0q ⟨i,hi⟩ ⟨j,hj⟩
  simp_all
 have pM:=s 0 0 Z Z;have s01:=s 0 1 Z Z;have s02:=s 0 2 Z Z;have s03:=s 0 3 Z Z;have s10:=s 1 0 Z Z;have s11:=s 1 1 Z Z;have s12:=s 1 2 Z Z;have s13:=s 1 3 Z Z;have s20:=s 2 0 Z Z;have s21:=s 2 1 Z Z;have s22:=s 2 2 Z Z;have s23:=s 2 3 Z Z;have pN:=s 3 0 Z Z;have s31:=s 3 1 Z Z;have s32:=s 3 2 Z Z;have s33:=s 3 3 Z Z;simp only[Nat.reduceEqDiff,decide_true,decide_false]at pM s01 s02 s03 s10 s11 s12 s13 s20 s21 s22 s23 pN s31 s32 s33
 match qa,h4 with
 |[],_=>simp[pV,WF]
 |[a],_=>simp only[pV,WF,pM,s10,s20,pN];cases Z1 m 0<;>cases Z1 m 1<;>cases Z1 m 2<;>cases Z1 m 3<;>simp
 |[a,b],_=>simp only[pV,WF,pM,s10,s20,pN,s01,s11,s21,s31,Yv];cases Z1 m 0<;>cases Z1 m 1<;>cases Z1 m 2<;>cases Z1 m 3<;>simp
 |[a,b,c],_=>simp only[pV,WF,pM,s10,s20,pN,s01,s11,s21,s31,s02,s12,s22,s32,Yv,Nat.reduceAdd];cases Z1 m 0<;>cases Z1 m 1<;>cases Z1 m 2<;>cases Z1 m 3<;>simp[Bool.or_assoc]
 |[a,b,c,d],_=>simp only[pV,WF,pM,s10,s20,pN,s01,s11,s21,s31,s02,s12,s22,s32,s03,s13,s23,s33,Yv,Nat.reduceAdd];cases Z1 m 0<;>cases Z1 m 1<;>cases Z1 m 2<;>cases Z1 m 3<;>simp[Bool.or_assoc]
 |_::_::_::_::_::_,h=>simp at h
def adj(qa:List Zd)(i j:Nat):Bool:=shr qa (Ac 1 i) (Ac 1 j)
def Kr(qa:List Zd)(i j:Nat):adj qa i j=adj qa j i:=by
 unfold adj shr
 grind
def ats(m:Int)(f:Nat->Bool):Bool:=(Z1 m 0 && f 0) || (Z1 m 1 && f 1) || (Z1 m 2 && f 2) || (Z1 m 3 && f 3)
def Ig{m:Int}{f:Nat->Bool}:ats m f=true↔∃i,i<4/\Z1 m i=true/\f i=true:=by
 unfold ats
 grind
def ZAD(qa:List Zd)(h4:qa.length<=4)(x y:Int):shr qa x y=ats x λi=>ats y λj=>adj qa i j:=by
 have pv:∀m u,pV m qa u=ats m λi=>pV (Ac 1 (i:Nat)) qa u:=λm u=>On qa h4 m u
 rw[Fg,Ig];unfold shr;rw[List.any_eq_true];constructor
 .rintro⟨u,hu,h⟩;rw[Yd,pv x u,pv y u,Ig,Ig]at h;obtain⟨⟨i,i1,i2,i3⟩,⟨j,j1,j2,j3⟩⟩:=h;refine⟨i,i1,i2,Ig.2 ⟨j,j1,j2,?_⟩⟩;unfold adj shr
  grind
 .rintro⟨i,i1,i2,h⟩;obtain⟨j,j1,j2,h⟩:=Ig.1 h;unfold adj shr at h;rw[List.any_eq_true]at h;obtain⟨u,hu,h⟩:=h;rw[Yd]at h;refine⟨u,hu,?_⟩;rw[Yd,pv x u,pv y u,Ig,Ig]
  grind
def Ks(qa:List Zd):Ed:=⟨adj qa 0 1,adj qa 0 2,adj qa 0 3,adj qa 1 2,adj qa 1 3,adj qa 2 3⟩
theorem Oo{qa:List Zd}(h4:qa.length<=4){i:Nat}(hi:i<4)(hl:qa.length<=i)(j:Nat):adj qa i j=false:=by
 have:∀u,pV (Ac 1 (i:Nat)) qa u=false:=by
  intro u;unfold pV;have key:∀(as':List Zd) (k:Nat),k+as'.length<=i->WF (Ac 1 (i:Nat)) as' k u=false:=by
   intro as'
   induction as' with
   |nil=>intro k _;rfl
   |cons a as' ih =>
    intro k hk;simp only[Yy]at hk;have:=Z0q ⟨i,hi⟩ ⟨k,Z⟩;simp only[Fin.mk.injEq]at this;rw[WF,ih (k+1) Z,this,decide_eq_false Z];rfl
  simp_all
 unfold adj shr
 simp_all
def Oq(i:Nat)(hi:i<4)(f:Nat->Bool):ats (Ac 1 (i:Nat)) f=f i:=by
 have s:∀j:Nat,j<4->Z1 (Ac 1 (i:Nat)) j=decide (i=j):=λj hj=>by
  have:=Z0q ⟨i,hi⟩ ⟨j,hj⟩
  simp_all
 rw[Fg,Ig]
 grind
def ZML{n:Int}{qa:List Zd}(hv:Z3 n qa=true)(x:B4):SE qa (Bl x)=Bl (Z0l (Ks qa) x):=by
 have h4:=(WZ hv).2;obtain⟨x0,x1,x2,x3⟩:=x;have hin:=pL (x0,x1,x2,x3);simp only[AP,CW]at hin;obtain⟨i0,i1,i2,i3⟩:=hin;have key:∀i,i<4->US qa (Bl (x0,x1,x2,x3)) i=(!Z1 (Bl (x0,x1,x2,x3)) i && ((x0 && adj qa i 0) || (x1 && adj qa i 1) || (x2 && adj qa i 2) || (x3 && adj qa i 3))):=by
  intro i hi;unfold US;rw[ZAD qa h4,Oq i hi];unfold ats
  grind [Oo]
 unfold SE Xt;rw[key 0 Z,key 1 Z,key 2 Z,key 3 Z,i0,i1,i2,i3];unfold Z0l Ks Bl;rw[Kr qa 1 0,Kr qa 2 0,Kr qa 3 0,Kr qa 2 1,Kr qa 3 1,Kr qa 3 2];cases x0<;>cases x1<;>cases x2<;>cases x3<;>simp
def ZMM{n:Int}{qa:List Zd}(hv:Z3 n qa=true)(p x:B4):HR qa (Bl p) (Bl x)=Bl (Z0m (Ks qa) p x):=by
 unfold HR Z0m;rw[ZML hv,Zqb,ZAB]
def ZAE{n:Int}{qa:List Zd}(hv:Z3 n qa=true)(p:B4):∀(k:Nat) (x:B4),SF qa (Bl p) k (Bl x)=Bl (Zqa (Ks qa) p k x)
 |0,x=>rfl
 |k+1,x=>by rw[SF,Zqa,ZMM hv,ZAE hv p k]
theorem Z0r{n:Int}{qa:List Zd}(hv:Z3 n qa=true)(p:B4):Wt qa (Bl p)=VR (Ks qa) qa.length p:=by
 unfold Wt VR;rw[show Aj (Bl p) (w (0-Bl p))=Bl (Oj p)from ZMJ p.1 p.2.1 p.2.2.1 p.2.2.2,ZAE hv,Fg,decide_eq_true_eq,beq_iff_eq]
 grind [Z0p]
def ZMN{qa:List Zd}(h4:qa.length<=4)(x y:B4)(hd:XT x y=(false,false,false,false)):shr qa (Bl x) (Bl y)=Z0n (Ks qa) x y:=by
 obtain⟨x0,x1,x2,x3⟩:=x;obtain⟨y0,y1,y2,y3⟩:=y;have hx:=pL (x0,x1,x2,x3);have hy:=pL (y0,y1,y2,y3);simp only[AP,Prod.mk.injEq]at hx hy;obtain⟨i0,i1,i2,i3⟩:=hx;obtain⟨j0,j1,j2,j3⟩:=hy;simp only[XT,Prod.mk.injEq]at hd;rw[ZAD qa h4];unfold ats;rw[i0,i1,i2,i3,j0,j1,j2,j3];unfold Z0n Ks;dsimp only;rw[Kr qa 1 0,Kr qa 2 0,Kr qa 3 0,Kr qa 2 1,Kr qa 3 1,Kr qa 3 2];obtain⟨h0,h1,h2,h3⟩:=hd;cases x0<;>cases y0<;>simp at h0<;>cases x1<;>cases y1<;>simp at h1<;>cases x2<;>cases y2<;>simp at h2<;>cases x3<;>cases y3<;>simp at h3<;>simp
structure Vr (m:Zf) (sizes:WL) (qa:List Zd) (M:Int) (E:List Ze):Prop where
 ne:E≠[]
 up:E.Pairwise λa b=>a.Order<b.Order
 mask:∀e∈E,e.Mask=M
 ord:∀e∈E,-1<=e.Order/\e.Order<=3
 makes:∀e∈E,Wd m sizes qa e.Zj.Steps M e.Order e.Cost
 len:∀e∈E,1<=e.Zj.Steps.length/\e.Zj.Steps.length+3<=4*Xe M
def ZAF:∀{E:List Ze} {lo:Int},E.Pairwise (λa b=>a.Order<b.Order)->(∀e∈E,lo<=e.Order/\e.Order<=3)->lo<=4->(E.length:Int)<=4-lo
 |[],lo,_,_,h=>by simp;omega
 |e::E,lo,hp,ho,h=>by
  rw[Y9]at hp;have he:=ho e Om;have:=ZAF (lo:=e.Order+1) hp.2 (λx hx=>⟨by have:=hp.1 x hx;omega,(ho x (by simp[hx])).2⟩) Z
  grind
def Vr.le{m:Zf}{sizes:WL}{qa:List Zd}{M:Int}{E:List Ze}(h:Vr m sizes qa M E):E.length<=5:=by
 have:=ZAF (lo:=-1) h.up h.ord Z;omega
def Z0s:∀{E:List Ze} {e:Ze},E.Pairwise (λa b=>a.Order<b.Order)->e∈E->Ca E e.Order=some e
 |a::E,e,hp,he=>by
  rw[Y9]at hp;rcases Yz.1 he with rfl|he
  .simp[Ca]
  .have:¬a.Order=e.Order:=by have:=hp.1 e he;omega
   have ih:=Z0s hp.2 he;unfold Ca at ih|-
   simp_all
def Di(m:Zf)(sizes:WL)(M:Int)(E:List Ze)(v:Int):Ze:=⟨M,v,w ((W4 E).Cost+Xo m.Sort_ (Z5 sizes M) 0 (Z5 sizes M)),⟨lB (W4 E).Zj.Steps v⟩⟩
def inp(m:Zf)(sizes:WL)(M:Int)(E:List Ze)(v:Int):Ze:=match Ca E v with
 |some e=>if e.Cost<=(Di m sizes M E v).Cost then e else Di m sizes M E v
 |none=>Di m sizes M E v
def Vr.best{m:Zf}{sizes:WL}{qa:List Zd}{M:Int}{E:List Ze}(h:Vr m sizes qa M E):W4 E∈E:=Z89 h.ne
theorem J8{M:Int}(h:AX M):Xe M<=4:=by
 grind [m16,Zzp]
def Vr.srt_makes{m:Zf}{sizes:WL}{qa:List Zd}{M:Int}{E:List Ze}(h:Vr m sizes qa M E){v:Int}(hv:Bg qa M v=true)(hb:(W4 E).Order≠v):Wd m sizes qa (Di m sizes M E v).Zj.Steps M v (Di m sizes M E v).Cost:=ZJN (h.makes _ h.best) hv hb
