/-
  Parts of the proofs for this seat: PS1 PS2 PS3 SS CR SO1 SE1 CM SO2 SO3 CPL CPW CPS.
-/
import Derived.BigQuiet
import Derived.BigRegion
import Derived.Deep.LoopGhost
import Derived.Deep.QuietTactic
import Derived.Deep.RegionLaw
import Derived.Lib.SlBy
import Derived.Lib.SliceRun
import Derived.Lib.SlicesCompact
import Derived.Lib.Walk
import Derived.Shelf.RegionOpenPlain
import Derived.Shelf.SlSortCmp.Kit1
import Derived.Test.YtgbipcfdgfjplaaGreatChecked
import Derived.WalkKit
import Derived.Test.YtgbipcfdgfjplaaGreatP3
import Derived.Test.YtgbipcfdgfjplaaGreatP6
import Derived.Test.YtgbipcfdgfjplaaGreatP8
import Derived.Test.YtgbipcfdgfjplaaGreatP24
set_option linter.unusedSectionVars false
set_option linter.unusedSimpArgs false
set_option linter.unusedVariables false
set_option maxRecDepth 100000
set_option maxHeartbeats 4000000
namespace Go.Proofs.YtgbipcfdgfjplaaGreat
open Go.AM
def cix(vs:WA)(v:Int):Int:=ZM (λx=>decide (v=x)) vs 0
def ZP(r:WA)(i:Int):Int:=r.getD i.toNat 0
theorem Z0c(v:Int):∀(vs:WA) (i:Nat),has vs v=true->(i:Int)<=ZM (λx=>decide (v=x)) vs i/\(ZM (λx=>decide (v=x)) vs i).toNat<i+vs.length/\vs[(ZM (λx=>decide (v=x)) vs i).toNat-i]?=some v
 |[],i,h=>by simp[has]at h
 |x::vs,i,h=>by
  unfold ZM;by_cases e:v=x
  .subst e;simp
  .have h':has vs v=true:=by simpa[has,e]using h
   obtain⟨h1,h2,h3⟩:=Z0c v vs (i+1) h';rw[Yb (by simpa using e)];refine⟨by omega,by simp only[Ys];omega,?_⟩;have e2:(ZM (λx=>decide (v=x)) vs (i+1)).toNat-i=(ZM (λx=>decide (v=x)) vs (i+1)).toNat-(i+1)+1:=by omega
   rw[e2,List.getElem?_cons_succ];exact h3
theorem Xj{vs:WA}{v:Int}(h:has vs v=true):0<=cix vs v/\(cix vs v).toNat<vs.length/\vs[(cix vs v).toNat]?=some v:=by
 have:=Z0c v vs 0 h;unfold cix;simpa using this
theorem ZAQ{vs:WA}{v:Int}(h:has vs v=false):cix vs v=-1:=Zef _ _ _ h
theorem W7{vs:WA}{v:Int}:0<=cix vs v↔has vs v=true:=by
 constructor
 .intro h;rcases tf (has vs v)with e|e
  .rw[ZAQ e]at h;omega
  .exact e
 .exact λh=>(Xj h).1
def ZN(vs r:WA)(v:Int):Int:=ZP r (cix vs v)
theorem Qa{vs:WA}{v:Int}(h:has vs v=true)(f:Int->Int):ZN vs (vs.map f) v=f v:=by
 obtain⟨-,h2,h3⟩:=Xj h;unfold ZN ZP;rw[Y5,Ych,h3];rfl
abbrev Asc(l:WA):Prop:=l.Pairwise (·<·)
theorem Zgs:∀{a b:WA},Asc a->Asc b->(∀x,x∈a↔x∈b)->a=b
 |[],[],_,_,_=>rfl
 |[],y::b,_,_,h=>by have:=(h y).2 (by simp);cases this
 |x::a,[],_,_,h=>by have:=(h x).1 (by simp);cases this
 |x::a,y::b,ha,hb,h=>by
  have ha':=Y4.1 ha;have hb':=Y4.1 hb;have e:x=y:=by
   have h1:=(h x).1 (by simp);have h2:=(h y).2 (by simp);rcases Yl.1 h1 with e|e
   .exact e
   .rcases Yl.1 h2 with e2|e2
    .exact e2.symm
    .have:=hb'.1 x e;have:=ha'.1 y e2;omega
  subst e;rw[Zgs ha'.2 hb'.2 λz=>?_];constructor
  .intro hz;have:=(h z).1 (by simp[hz]);rcases Yl.1 this with e|e
   .have:=ha'.1 z hz;omega
   .exact e
  .intro hz;have:=(h z).2 (by simp[hz]);rcases Yl.1 this with e|e
   .have:=hb'.1 z hz;omega
   .exact e
theorem Zgt(l:WA):(Z1 l).Perm l:=Yed _ _
theorem Z0d(l:WA):(Z1 l).Pairwise (·<=·):=by
 have:=List.pairwise_mergeSort (le:=λx y:Int=>decide (x<=y)) (by simp;omega) (by simp;omega) l;exact this.imp (by simp)
theorem Q2(l:WA)(x:Int):x∈Z1 l↔x∈l:=(Zgt l).mem_iff
theorem ZAR{l:WA}(h:l.Nodup):Asc (Z1 l):=by
 have h1:=Z0d l;have h2:(Z1 l).Nodup:=(Zgt l).nodup_iff.2 h;exact(h1.and h2).imp (by intro a b h;omega)
theorem Zqn:∀(l:WA) (x:Int),x∈Xq l↔x∈l
 |[],x=>by simp[Xq]
 |[a],x=>by simp[Xq]
 |a::b::l,x=>by
  unfold Xq;have ih:=Zqn (b::l) x;split
  .rename_i e;subst e;rw[ih];simp
  .rw[Yl,ih];simp
theorem Z0e:∀{l:WA},l.Pairwise (·<=·)->Asc (Xq l)
 |[],_=>by simp[Xq]
 |[a],_=>by simp[Xq]
 |a::b::l,h=>by
  unfold Xq;have h1:=Y4.1 h;have ih:=Z0e h1.2;split
  .exact ih
  .rename_i e;refine Y4.2 ⟨λx hx=>?_,ih⟩;rw[Zqn]at hx;have h2:=Y4.1 h1.2;rcases Yl.1 hx with rfl|hx
   .have:=h1.1 x (by simp);omega
   .have:=h1.1 b (by simp);have:=h2.1 x hx;omega
def uni(a b:WA):WA:=((List.range 4).map λu:Nat=>(u:Int)).filter λv=>has a v || has b v
theorem Z0f(n:Nat)(p:Nat->Bool):Asc (((List.range n).filter p).map λu:Nat=>(u:Int)):=by
 refine List.pairwise_map.2 ?_;exact(List.pairwise_lt_range.filter _).imp (by intro a b h;omega)
theorem Z0g(a b:WA):Asc (uni a b):=by
 have:=Z0f 4 λ_=>true
 rw[List.filter_eq_self.2 (by simp)]at this;exact this.filter _
theorem Zgu{a b:WA}(ha:∀x∈a,inR x 0 3=true)(hb:∀x∈b,inR x 0 3=true)(v:Int):v∈uni a b↔v∈a\/v∈b:=by
 unfold uni;rw[Y0];simp only[Yb6,ZO,Y2,Ybm];constructor
 .exact λh=>h.2
 .intro h;refine⟨?_,h⟩
  have:inR v 0 3=true:=h.elim (ha v) (hb v)
  simp[inR]at this;exact⟨v.toNat,by omega,by omega⟩
theorem ZAS{a b:WA}(ha:∀x∈a,inR x 0 3=true)(hb:∀x∈b,inR x 0 3=true):Xq (Z1 (a++b))=uni a b :=
 Zgs (Z0e (Z0d _)) (Z0g _ _) λx=>by rw[Zqn,Q2,Zgu ha hb,Yk]
theorem Zdz(m:Int)(qa:List Zc)(k:Nat):Asc (Z9 m qa k):=Z0f _ _
theorem Zbc{n:Int}{qa:List Zc}(h:Zu n qa=true)(m v:Int):v∈Z9 m qa n.toNat↔vin qa m v=true:=by rw[<-Zb6 h,ZO]
theorem Jn{n:Int}{qa:List Zc}(h:Zu n qa=true)(m:Int):∀v∈Z9 m qa n.toNat,inR v 0 3=true:=by
 intro v hv;have:=(Zbc h m v).1 hv;unfold vin at this;simp only[Ye]at this;exact this.1
theorem bit16:∀a b:Fin 16,∀j:Fin 4,Zx (orI (a.1:Int) (b.1:Int)) j.1=(Zx (a.1:Int) j.1 || Zx (b.1:Int) j.1):=by decide
theorem Zj3{a b:Int}(ha:0<=a/\a<16)(hb:0<=b/\b<16){j:Nat}(hj:j<4):Zx (orI a b) j=(Zx a j || Zx b j):=by
 have:=bit16 ⟨a.toNat,by omega⟩ ⟨b.toNat,by omega⟩ ⟨j,hj⟩;simp only[]at this;rw[show((a.toNat:Nat):Int)=a by omega,show((b.toNat:Nat):Int)=b by omega]at this;exact this
theorem Z0h{a b:Int}(ha:0<=a/\a<16)(hb:0<=b/\b<16)(u:Int):∀(l:List Zc) (i:Nat),i+l.length<=4->ZT (orI a b) l i u=(ZT a l i u || ZT b l i u)
 |[],_,_=>rfl
 |x::l,i,h=>by
  simp only[Ys]at h;unfold ZT;rw[Zj3 ha hb (by omega),Z0h ha hb u l (i+1) (by omega)];cases Zx a i<;>cases Zx b i<;>cases has x.Vars u<;>cases ZT a l (i+1) u<;>rfl
theorem Zqo{n:Int}{qa:List Zc}(h:Zu n qa=true){a b:Int}(ha:0<=a/\a<16)(hb:0<=b/\b<16):uni (Z9 a qa n.toNat) (Z9 b qa n.toNat)=Z9 (orI a b) qa n.toNat:=by
 refine Zgs (Z0g _ _) (Zdz _ _ _) λv=>?_
 rw[Zgu (Jn h a) (Jn h b),Zbc h,Zbc h,Zbc h];unfold vin pV;rw[Z0h ha hb _ _ 0 (by have:=Xx h;omega)];cases inR v 0 3<;>simp
theorem bitS:∀i j:Fin 4,Zx (shlI 1 (i.1:Int)) j.1=decide (j=i):=by decide
theorem Z0i{i:Nat}(hi:i<4)(u:Int):∀(l:List Zc) (j:Nat),j+l.length<=4->ZT (shlI 1 (i:Int)) l j u=if j<=i then(match l[i-j]? with|some a=>has a.Vars u|none=>false)else false
 |[],j,_=>by simp[ZT]
 |x::l,j,h=>by
  simp only[Ys]at h;unfold ZT;have hb:=bitS ⟨i,hi⟩ ⟨j,by omega⟩;simp only[Fin.mk.injEq]at hb;rw[hb,Z0i hi u l (j+1) (by omega)];by_cases e:j=i
  .subst e;rw[Yb (show ¬j+1<=j by omega),Ya (Yg _),Yc5];simp
  .by_cases e2:j<=i
   .rw[Ya e2,Ya (by omega),show i-j=(i-(j+1))+1 by omega,List.getElem?_cons_succ];simp[e]
   .rw[Yb e2,Yb (by omega)];simp[e]
theorem Z0j{n:Int}:∀{vs c:WA},Vo n c vs=true->vs.Nodup/\∀v∈vs,v ∉ c
 |[],c,_=>⟨Ybi,by simp⟩
 |v::vs,c,h=>by
  unfold Vo at h;simp only[Ye,Bool.not_eq_true']at h;obtain⟨⟨h1,h2⟩,h3⟩:=h;obtain⟨g1,g2⟩:=Z0j h3;have h2':v ∉ c:=by intro hm;rw[ZO.2 hm]at h2;cases h2
  refine⟨Ycn.2 ⟨λhm=>?_,g1⟩,λx hx=>?_⟩
  .exact g2 v hm (by simp)
  .rcases Yl.1 hx with rfl|hx
   .exact h2'
   .intro hm;exact g2 x hx (by simp[hm])
theorem Z0k{n:Int}{qa:List Zc}(h:Zu n qa=true){a:Zc}(ha:a∈qa):a.Vars.Nodup:=by
 simp only[Zu,Ye]at h;have:=Yn.1 h.1.2 a ha;simp only[XO,Ye]at this;exact(Z0j this.2).1
theorem Zqp{n:Int}{qa:List Zc}(h:Zu n qa=true){i:Nat}{a:Zc}(hi:qa[i]?=some a):Z1 a.Vars=Z9 (shlI 1 (i:Int)) qa n.toNat:=by
 have hl:=Xx h;have hi':i<qa.length:=(Yv.1 hi).1;have hm:a∈qa:=Yz hi;refine Zgs (ZAR (Z0k h hm)) (Zdz _ _ _) λv=>?_
 rw[Q2,Zbc h];unfold vin pV;rw[Z0i (by omega) _ _ 0 (by omega),Ya (Yd _),Yda,hi];simp only[Ye,ZO];constructor
 .intro hv;have h3:=K1 h a hm v hv;refine⟨h3,?_⟩;simp[inR]at h3;rw[show((v.toNat:Nat):Int)=v by omega];exact hv
 .rintro⟨h3,hv⟩;simp[inR]at h3
  rwa [show((v.toNat:Nat):Int)=v by omega]at hv
def pcM(m:Int):Nat:=(List.range 4).countP λi=>Zx m i
theorem pc16:∀a b:Fin 16,andI (a.1:Int) (b.1:Int)=0->pcM (orI (a.1:Int) (b.1:Int))=pcM (a.1:Int)+pcM (b.1:Int):=by decide
theorem Zqq{a b:Int}(ha:0<=a/\a<16)(hb:0<=b/\b<16)(h:andI a b=0):pcM (orI a b)=pcM a+pcM b:=by
 have:=pc16 ⟨a.toNat,by omega⟩ ⟨b.toNat,by omega⟩;simp only[]at this;rw[show((a.toNat:Nat):Int)=a by omega,show((b.toNat:Nat):Int)=b by omega]at this;exact this h
theorem pc1:∀i:Fin 4,pcM (shlI 1 (i.1:Int))=1:=by decide
theorem pc_le(m:Int):pcM m<=4:=Yu List.countP_le_length (by simp)
theorem Zj4(m:Int):8 ^ pcM m<=4096:=Yu (Nat.pow_le_pow_right (by decide) (pc_le m)) (by decide)
end Go.Proofs.YtgbipcfdgfjplaaGreat
namespace Go.Proofs.YtgbipcfdgfjplaaGreat
open Go.AM Go.Stb
def kx(x:Nat)(r:WA):Int:=r[x]!
def Vy(x:Nat)(rows:XS):XS:=(List.range 10).flatMap λi:Nat=>rows.filter λr=>decide (kx x r=(i:Int))
theorem Zgv(x:Int)(r:WA):kx x.toNat r=ZP r x:=by
 unfold kx ZP;rw[Y5,List.getElem!_eq_getElem?_getD];rfl
theorem Z0l{x:Nat}{rows:XS}(h:∀r∈rows,0<=kx x r/\kx x r<=9)(r:WA):r∈Vy x rows↔r∈rows:=by
 unfold Vy;rw[Ybv];constructor
 .rintro⟨i,_,hr⟩;exact(Y0.1 hr).1
 .intro hr;have:=h r hr;refine⟨(kx x r).toNat,Ybm.2 (by omega),Y0.2 ⟨hr,?_⟩⟩;simp only[decide_eq_true_eq];omega
theorem Z0m(x:Nat):∀(n:Nat) (rows:XS),((List.range n).flatMap λi:Nat=>rows.filter λr=>decide (kx x r=(i:Int))).length=rows.countP λr=>decide (0<=kx x r/\kx x r<n)
 |0,rows=>by
  simp only[List.range_zero,List.flatMap_nil,Ybu];refine(List.countP_eq_zero.2 λr _=>?_).symm
  simp
 |n+1,rows=>by
  rw[Ycp,List.flatMap_append,Ym,Z0m x n rows];simp only[Ybx,List.flatMap_nil,Ybd];rw[<-List.countP_eq_length_filter]
  induction rows with
  |nil=>rfl
  |cons r rows ih =>
   simp only[List.countP_cons];by_cases h1:0<=kx x r/\kx x r<n
   .rw[Ya (by simpa using h1),Yb (by simp;omega),Ya (by simp;omega)];omega
   .by_cases h2:kx x r=(n:Int)
    .rw[Yb (by simpa using h1),Ya (by simpa using h2),Ya (by simp;omega)];omega
    .rw[Yb (by simpa using h1),Yb (by simpa using h2),Yb (by simp;omega)];omega
theorem ZAT{x:Nat}{rows:XS}(h:∀r∈rows,0<=kx x r/\kx x r<=9):(Vy x rows).length=rows.length:=by
 unfold Vy;rw[Z0m];refine List.countP_eq_length.2 λr hr=>?_
 have:=h r hr;simp;omega
theorem ZAU(x:Nat)(rows:XS):(Vy x rows).Pairwise λa b=>kx x a<=kx x b:=by
 unfold Vy;refine List.pairwise_flatMap.2 ⟨λi _=>?_,?_⟩
 .rw[Yci];intro a b ha hb hab;have h1:=Y0.1 (Yh ha);have h2:=Y0.1 (Yh hb);have h1:=h1.2;have h2:=h2.2;simp only[decide_eq_true_eq]at h1 h2;omega
 .refine List.pairwise_lt_range.imp λ{i j} hij p hp q hq=>?_
  have h1:=(Y0.1 hp).2;have h2:=(Y0.1 hq).2;simp only[decide_eq_true_eq]at h1 h2;omega
theorem ZAV{x:Nat}{rows:XS}(hs:rows.Pairwise λa b=>kx x a<=kx x b)(h:∀r∈rows,0<=kx x r/\kx x r<=9):Vy x rows=rows:=by
 have:=Zqm (k:=kx x) 10 0 rows hs (λr hr=>by have:=h r hr;omega);simp only[Int.zero_add]at this;exact this.symm
def agr(av x bv y:WA):Bool:=(List.range av.length).all λi=>decide (cix bv (av.getD i 0)<0) || decide (x.getD i 0=ZP y (cix bv (av.getD i 0)))
def mrV(av x bv y:WA)(v:Int):Int:=if 0<=cix av v then ZP x (cix av v)else ZP y (cix bv v)
def prS(vs av x bv y:WA):Option (WA):=if agr av x bv y=true then some (vs.map (mrV av x bv y))else none
def Xu(vs:WA)(a b:Zb):XS:=a.Rows.flatMap λx=>b.Rows.filterMap λy=>prS vs a.Vars x b.Vars y
def Vz(vs:WA)(a b:Zb):XS:=b.Rows.flatMap λy=>a.Rows.filterMap λx=>prS vs a.Vars x b.Vars y
def W8(a b:Zb):Zb:=⟨uni a.Vars b.Vars,Xu (uni a.Vars b.Vars) a b⟩
def Jo(a b:Zb):Zb:=⟨uni a.Vars b.Vars,Vz (uni a.Vars b.Vars) a b⟩
def Zbd(s:Zb)(v:Int):Zb:=⟨s.Vars,Vy (cix s.Vars v).toNat s.Rows⟩
def V0(d:Zn)(q:Ze)(i:Int):Zb:=match q.Atoms[i.toNat]? with
 |some a=>⟨Z1 a.Vars,(Ve d a).map λr=>(Z1 a.Vars).map λv=>ZP r (cix a.Vars v)⟩
 |none=>⟨[],[]⟩
theorem Z0n{α β:Type}(f:α->Option β)(l:List α):(l.filterMap f).length<=l.length:=List.length_filterMap_le _ _
theorem Z0o(vs:WA)(a b:Zb):(Xu vs a b).length<=b.Rows.length*a.Rows.length:=Zgq _ _ (λ_=>Z0n _ _) _
theorem Z0p(vs:WA)(a b:Zb):(Vz vs a b).length<=a.Rows.length*b.Rows.length:=Zgq _ _ (λ_=>Z0n _ _) _
theorem ZAW{vs:WA}{a b:Zb}{r:WA}(h:r∈Xu vs a b):∃x∈a.Rows,∃y∈b.Rows,r=vs.map (mrV a.Vars x b.Vars y):=by
 obtain⟨x,hx,h⟩:=Ybv.1 h;obtain⟨y,hy,h⟩:=Yb7.1 h;unfold prS at h;split at h
 .cases h;exact⟨x,hx,y,hy,rfl⟩
 .cases h
theorem ZAX{vs:WA}{a b:Zb}{r:WA}(h:r∈Vz vs a b):∃x∈a.Rows,∃y∈b.Rows,r=vs.map (mrV a.Vars x b.Vars y):=by
 obtain⟨y,hy,h⟩:=Ybv.1 h;obtain⟨x,hx,h⟩:=Yb7.1 h;unfold prS at h;split at h
 .cases h;exact⟨x,hx,y,hy,rfl⟩
 .cases h
theorem ZAY{vs:WA}{a b:Zb}{x:Nat}(hs:a.Rows.Pairwise λp q=>kx x p<=kx x q)(h:∀r∈a.Rows,0<=kx x r/\kx x r<=9) :
  (List.range 10).flatMap (λi:Nat=>Xu vs ⟨a.Vars,a.Rows.filter λr=>decide (kx x r=(i:Int))⟩ b)=Xu vs a b:=by
 have e:=ZAV hs h;unfold Xu
 conv=>rhs;rw[<-e]
 unfold Vy;rw[List.flatMap_assoc]
def VM:Option Int->WA->Bool
 |_,[]=>true
 |p,x::xs=>(inR x 0 3 && nxt (λa b=>decide (a<b)) p x) && VM (some x) xs
def Z0q(s:Zb):Bool:=s.Rows.all (rwB s.Vars.length) && (VM none s.Vars && decide ((s.Rows.length:Int)<=4096))
theorem Zqr:∀(l:WA) (p:Option Int),Asc l->(∀x∈l,inR x 0 3=true)->(∀q,p=some q->∀x∈l,q<x)->VM p l=true
 |[],_,_,_,_=>rfl
 |x::l,p,h,hr,hp=>by
  have h':=Y4.1 h;unfold VM;rw[Zqr l (some x) h'.2 (λy hy=>hr y (by simp[hy])) (λq hq y hy=>by cases hq;exact h'.1 y hy),hr x (by simp)]
  cases p with
  |none=>rfl
  |some q=>simp[nxt,hp q rfl x (by simp)]
structure GS (q:Ze) (y:Za) (s:Zb):Prop where
 vars:s.Vars=Z9 y.Mask q.Atoms q.Zk.toNat
 rows:∀r∈s.Rows,rwB s.Vars.length r=true
 len:s.Rows.length<=8 ^ pcM y.Mask
 ord:0<=y.Order->has s.Vars y.Order=true/\s.Rows.Pairwise λa b=>kx (cix s.Vars y.Order).toNat a<=kx (cix s.Vars y.Order).toNat b
theorem Zj5{n:Nat}{r:WA}(h:rwB n r=true){i:Nat}(hi:i<n):i<r.length/\0<=kx i r/\kx i r<=9:=by
 unfold rwB at h;simp only[Ye,decide_eq_true_eq,Yn]at h;have hl:r.length=n:=by omega
 have h2:=h.1 r[i] (Yh (by omega));unfold kx;rw[getElem!_pos r i (by omega)];simp[dig,inR]at h2;omega
theorem Kj{n:Nat}{r:WA}(h:rwB n r=true):r.length=n:=by
 unfold rwB at h;simp only[Ye,decide_eq_true_eq]at h;omega
theorem GS.valid{q:Ze}{y:Za}{s:Zb}(h:GS q y s)(hq:Zu q.Zk q.Atoms=true):Z0q s=true:=by
 unfold Z0q;simp only[Ye,Yn,decide_eq_true_eq];refine⟨h.rows,?_,by have:=h.len;have:=Zj4 y.Mask;omega⟩;rw[h.vars];exact Zqr _ _ (Zdz _ _ _) (Jn hq _) (by simp)
theorem GS.small{q:Ze}{y:Za}{s:Zb}(h:GS q y s):s.Vars.length<=4\/4<q.Zk:=by
 by_cases e:4<q.Zk
 .exact .inr e
 .left;rw[h.vars];have:=J8 y.Mask q.Atoms q.Zk.toNat;omega
theorem Zqs{vs:WA}{f:Int->Int}(h:∀v∈vs,0<=f v/\f v<=9):rwB vs.length (vs.map f)=true:=by
 unfold rwB;simp only[Ye,decide_eq_true_eq,Yn,Y6,and_true];intro v hv;obtain⟨u,hu,rfl⟩:=Y2.1 hv;have:=h u hu;simp[dig,inR];omega
theorem Zqt{vs r:WA}(h:rwB vs.length r=true){v:Int}(hv:has vs v=true):0<=ZP r (cix vs v)/\ZP r (cix vs v)<=9:=by
 obtain⟨h1,h2,h3⟩:=Xj hv;have:=Zj5 h h2;rw[Zgv]at this;exact this.2
end Go.Proofs.YtgbipcfdgfjplaaGreat
namespace Go.Proofs.YtgbipcfdgfjplaaGreat
open Go.AM Go.Stb
structure Ue (qa:List Zc) (x:Zj) (pre:List Za) (y:Za):Prop where
 scan:x.Kind=1->inR x.Zc 0 (qa.length-1)=true/\y=⟨shlI 1 x.Zc,(match qa[x.Zc.toNat]? with|some a=>a.Vars.headD 0|none=>0),-1,-1⟩
 sort:x.Kind=2->∃s u,0<=s/\pre[s.toNat]?=some u/\vin qa u.Mask x.Order=true/\y=⟨u.Mask,x.Order,s,-1⟩
 join:x.Kind≠1->x.Kind≠2->∃s u t z o,0<=s/\pre[s.toNat]?=some u/\0<=t/\pre[t.toNat]?=some z/\andI u.Mask z.Mask=0/\y=⟨orI u.Mask z.Mask,o,s,t⟩/\
  ((x.Kind=3/\o=-1)\/(x.Kind=5/\o=u.Order)\/(x.Kind=4/\vin qa u.Mask x.Order=true/\vin qa z.Mask x.Order=true/\u.Order=x.Order/\z.Order=x.Order/\o=x.Order))
theorem step_f{qa:List Zc}{x:Zj}{info:List Za}{st:WA}{y:Za}(hs:Vq info st)(h:WW qa x info st=some y):Ue qa x info y:=by
 unfold WW at h;split at h
 .rename_i k1;split at h
  .rename_i c;cases h;exact⟨λ_=>⟨c.1,rfl⟩,λk=>by omega,λk=>absurd k1 k⟩
  .cases h
 .rename_i k1;split at h
  .cases h
  .split at h
   .rename_i k2;split at h
    .rename_i s y' ht;split at h
     .rename_i c;cases h;obtain⟨_,t2,t3,t4⟩:=UD hs (Yg 1) ht;exact⟨λk=>absurd k k1,λ_=>⟨s,y',t2,t4,c.1,rfl⟩,λ_ k=>absurd k2 k⟩
     .cases h
    .cases h
   .rename_i k2;split at h
    .rename_i s y' t z ht hu;split at h
     .rename_i c;obtain⟨_,t2,t3,t4⟩:=UD hs (by omega:1<=2) ht;obtain⟨_,u2,u3,u4⟩:=UD hs (by omega:1<=1) hu;obtain⟨o,ho,rfl⟩:=Yr.1 h;refine⟨λk=>absurd k k1,λk=>absurd k k2,λ_ _=>⟨s,y',t,z,o,t2,t4,u2,u4,c.1,rfl,?_⟩⟩;unfold VV at ho;split at ho
      .rename_i e;cases ho;exact .inl ⟨e.1,rfl⟩
      .split at ho
       .rename_i e;cases ho;exact .inr (.inl ⟨e.1,rfl⟩)
       .split at ho
        .rename_i e;cases ho;exact .inr (.inr ⟨e.1,e.2.1,e.2.2.1,e.2.2.2.1,e.2.2.2.2,rfl⟩)
        .cases ho
     .cases h
    .cases h
theorem Z0r{qa:List Zc}:∀{xs:List Zj} {i:Nat} {info:List Za} {st:WA} {c:List Za} {cc:WA},XB qa xs i info st=some (c,cc)->
  Vq info st->info.length=i->c.length=i+xs.length/\c.take i=info/\∀(j:Nat) (y:Za) (x:Zj),c[i+j]?=some y->xs[j]?=some x->Ue qa x (c.take (i+j)) y
 |[],i,info,st,c,cc,h,hs,hi=>by
  simp[XB]at h;obtain⟨rfl,rfl⟩:=h
  refine⟨by simp[hi],by rw[<-hi,Yc4],λj y x _ hx=>by simp at hx⟩
 |x::xs,i,info,st,c,cc,h,hs,hi=>by
  rw[XB]at h;split at h
  .cases h
  .rename_i y hy;have hn:=Zeh hs y (st.length-WI y);rw[hi]at hn;obtain⟨g1,g2,g3⟩:=Z0r h hn (by simp[hi]);have e1:c.take i=info:=by
    have:=congrArg (List.take i) g2;rw[Yce,Y8 (by omega)]at this;rw[this,<-hi,List.take_left]
   have e2:c[i]?=some y:=by
    have:=congrArg (λl=>l[i]?) g2;simp only[Ybh]at this;rw[Ya (by omega)]at this;rw[this,<-hi];simp
   refine⟨by simp;omega,e1,?_⟩;intro j y' x' hj hx
   cases j with
   |zero =>
    simp only[Ybs,List.getElem?_cons_zero,Ybo]at hj hx|-;rw[e2]at hj;cases hj;cases hx
    rw[e1];exact step_f hs hy
   |succ j =>
    have:=g3 j y' x' (by rw[<-hj];congr 1;omega) (by simpa using hx)
    rwa [show i+1+j=i+(j+1) by omega]at this
theorem Zd0{n:Int}{qa:List Zc}{steps:List Zj}{info:List Za}(h:Xr n qa steps=some info):∀(j:Nat) (y:Za) (x:Zj),info[j]?=some y->steps[j]?=some x->Ue qa x (info.take j) y:=by
 unfold Xr at h;split at h
 .split at h
  .rename_i info' st hg;split at h
   .cases h;obtain⟨-,-,g⟩:=Z0r hg (λs hs=>by cases hs) rfl;intro j y x a b;have:=g j y x (by simpa using a) b;simpa using this
   .cases h
  .cases h
 .cases h
theorem Z0s:∀(rows:XS) (p:Option (WA)),XM ltR p rows=true->(∀r∈rows,0<r.length)->(∀r,p=some r->0<r.length)->
  (rows.Pairwise λa b=>kx 0 a<=kx 0 b)/\∀r,p=some r->∀x∈rows,kx 0 r<=kx 0 x
 |[],p,_,_,_=>⟨.nil,by simp⟩
 |x::rows,p,h,hl,hp=>by
  unfold XM at h;simp only[Ye]at h;obtain⟨i1,i2⟩:=Z0s rows (some x) h.2 (λr hr=>hl r (by simp[hr])) (λr hr=>by cases hr;exact hl x (by simp));refine⟨Y4.2 ⟨i2 x rfl,i1⟩,λr hr y hy=>?_⟩;subst hr;have h1:=h.1;simp only[nxt,ltR,decide_eq_true_eq]at h1;have hx0:=hl x (by simp);have hr0:=hp r rfl;have hrx:kx 0 r<=kx 0 x:=by
   match r,x,hr0,hx0 with
   |a::r,b::x,_,_ =>
    simp only[Zy]at h1;show a<=b;by_cases e:a<b
    .omega
    .rw[Yb e]at h1;by_cases e2:b<a
     .rw[Ya e2]at h1;omega
     .omega
  rcases Yl.1 hy with rfl|hy
  .exact hrx
  .have:=i2 x rfl y hy;omega
theorem Zgw{d:Zn}{q:Ze}(h:Z6 d q=true){a:Zc}(ha:a∈q.Atoms):∃t,X3 d a.Name=some t/\t.Arity=(a.Vars.length:Int)/\Ve d a=t.Rows/\t.Rows.length<=8/\(∀r∈t.Rows,rwB a.Vars.length r=true)/\XM ltR none t.Rows=true:=by
 unfold Z6 at h;simp only[Ye,Yn]at h;have hf:=h.2 a ha;unfold XY at hf;split at hf
 .cases hf
 .rename_i t ht;have har:t.Arity=(a.Vars.length:Int):=by simpa using hf
  obtain⟨h1,h2,h3⟩:=Zjx ht;unfold U3 at h1;simp only[Ye,Yn]at h1;have h4:=h1.1.1 t h2;unfold WO at h4;simp only[Ye,Yn,decide_eq_true_eq]at h4;refine⟨t,ht,har,by unfold Ve;rw[ht],by omega,?_,h4.2.2⟩;rw[<-har];exact h4.2.1
theorem ZAZ{d:Zn}{q:Ze}(h:Z6 d q=true){x:Zj}{c:List Za}{y:Za}(F:Ue q.Atoms x c y)(hk:x.Kind=1):GS q y (V0 d q x.Zc):=by
 have hq:Zu q.Zk q.Atoms=true:=by unfold Z6 at h;simp only[Ye]at h;exact h.1
 obtain⟨f1,rfl⟩:=F.scan hk;have hl:=Xx hq;simp[inR]at f1;obtain⟨i,hi⟩:∃i:Nat,x.Zc=(i:Int):=⟨x.Zc.toNat,by omega⟩;rw[hi];have hlt:i<q.Atoms.length:=by omega
 have he:q.Atoms[i]?=some q.Atoms[i]:=Yi hlt;have hm:q.Atoms[i]∈q.Atoms:=Yh hlt;generalize q.Atoms[i]=a at he hm;obtain⟨t,t1,t2,t3,t4,t5,t6⟩:=Zgw h hm;have hvl:=J7 hq a hm;have hv:=Zqp hq he;have hsc:V0 d q (i:Int)=⟨Z1 a.Vars,t.Rows.map λr=>(Z1 a.Vars).map λv=>ZP r (cix a.Vars v)⟩:=by
  unfold V0;rw[Yf,he];simp only[t3]
 rw[hsc,Yf,he];have hval:∀r∈t.Rows,∀v∈Z1 a.Vars,0<=ZP r (cix a.Vars v)/\ZP r (cix a.Vars v)<=9:=λr hr v hv2=>Zqt (t5 r hr) (ZO.2 ((Q2 _ _).1 hv2))
 refine⟨hv,λr hr=>?_,?_,λ_=>?_⟩
 .obtain⟨r0,hr0,rfl⟩:=Y2.1 hr;exact Zqs (hval r0 hr0)
 .have:=pc1 ⟨i,by omega⟩;simp only[]at this;simp only[Y6,this];omega
 ·-- the first column of a table is sorted
  obtain⟨v0,vs,hvs⟩:∃v0 vs,a.Vars=v0::vs:=by
   cases hc:a.Vars with
   |nil=>rw[hc]at hvl;simp at hvl
   |cons v0 vs=>exact⟨v0,vs,rfl⟩
  have h0:has (Z1 a.Vars) v0=true:=ZO.2 ((Q2 _ _).2 (by rw[hvs];simp));simp only[hvs,List.headD_cons];rw[hvs]at h0;refine⟨h0,?_⟩;have hc0:cix a.Vars v0=0:=by rw[hvs];simp[cix,ZM]
  have hkey:∀r,kx (cix (Z1 a.Vars) v0).toNat ((Z1 a.Vars).map λv=>ZP r (cix a.Vars v))=kx 0 r:=by
   intro r;rw[Zgv];have:=Qa (vs:=Z1 a.Vars) (v:=v0) (by rw[hvs];exact h0) λv=>ZP r (cix a.Vars v)
   unfold ZN at this;rw[this,hc0,<-Zgv];rfl
  rw[hvs]at hkey;refine List.pairwise_map.2 ?_;have:=(Z0s t.Rows none t6 (λr hr=>by have:=Kj (t5 r hr);omega) (by simp)).1;exact this.imp (by intro p r hpr;rw[hkey,hkey];exact hpr)
theorem Zqu{q:Ze}(hq:Zu q.Zk q.Atoms=true){u:Za}{s:Zb}(G:GS q u s){v:Int}(hv:vin q.Atoms u.Mask v=true)(l:Int):GS q ⟨u.Mask,v,l,-1⟩ (Zbd s v)/\has s.Vars v=true:=by
 have hh:has s.Vars v=true:=by rw[G.vars,Zb6 hq];exact hv
 obtain⟨c1,c2,c3⟩:=Xj hh;have hr:∀r∈s.Rows,0<=kx (cix s.Vars v).toNat r/\kx (cix s.Vars v).toNat r<=9:=λr hr=>(Zj5 (G.rows r hr) c2).2
 refine⟨⟨G.vars,λr h=>?_,?_,λ_=>⟨hh,?_⟩⟩,hh⟩
 .exact G.rows r ((Z0l hr r).1 h)
 .show(Vy _ _).length<=_;rw[ZAT hr];exact G.len
 .exact ZAU _ _
theorem Z0t{av bv x y:WA}(hx:rwB av.length x=true)(hy:rwB bv.length y=true){v:Int}(hv:has av v=true\/has bv v=true):0<=mrV av x bv y v/\mrV av x bv y v<=9:=by
 unfold mrV;split
 .rename_i h;exact Zqt hx (W7.1 h)
 .rename_i h;refine Zqt hy (hv.resolve_left λh2=>h (W7.2 h2))
theorem Zqv{a b:WA}{v:Int}(h:v∈uni a b):has a v=true\/has b v=true:=by
 unfold uni at h;have:=(Y0.1 h).2;simpa using this
theorem Z0u{q:Ze}(hq:Zu q.Zk q.Atoms=true){u z:Za}{a b:Zb}(A:GS q u a)(B:GS q z b)(hu:0<=u.Mask/\u.Mask<16)(hz:0<=z.Mask/\z.Mask<16)(h0:andI u.Mask z.Mask=0)(l r:Int):GS q ⟨orI u.Mask z.Mask,u.Order,l,r⟩ (W8 a b):=by
 have hvars:uni a.Vars b.Vars=Z9 (orI u.Mask z.Mask) q.Atoms q.Zk.toNat:=by rw[A.vars,B.vars];exact Zqo hq hu hz
 refine⟨hvars,λp hp=>?_,?_,λho=>?_⟩
 .obtain⟨x,hx,y,hy,rfl⟩:=ZAW hp;exact Zqs λv hv=>Z0t (A.rows x hx) (B.rows y hy) (Zqv hv)
 .have:=Z0o (uni a.Vars b.Vars) a b;show(Xu _ _ _).length<=8 ^ pcM (orI u.Mask z.Mask);rw[Zqq hu hz h0,Nat.pow_add,Yc8];exact Yu this (Ydj B.len A.len)
 .obtain⟨hh,hs⟩:=A.ord ho;have hu2:has (uni a.Vars b.Vars) u.Order=true:=ZO.2 ((Zgu (by rw[A.vars];exact Jn hq _) (by rw[B.vars];exact Jn hq _) _).2 (.inl (ZO.1 hh)));refine⟨hu2,?_⟩;have hkey:∀x y:WA,kx (cix (uni a.Vars b.Vars) u.Order).toNat ((uni a.Vars b.Vars).map (mrV a.Vars x b.Vars y))=kx (cix a.Vars u.Order).toNat x:=by
   intro x y;rw[Zgv,Zgv];have:=Qa hu2 (mrV a.Vars x b.Vars y);unfold ZN at this;rw[this];unfold mrV;rw[Ya (W7.2 hh)]
  have hm:∀x,∀p∈b.Rows.filterMap (λy=>prS (uni a.Vars b.Vars) a.Vars x b.Vars y),kx (cix (uni a.Vars b.Vars) u.Order).toNat p=kx (cix a.Vars u.Order).toNat x:=by
   intro x p hp;obtain⟨y,hy,h⟩:=Yb7.1 hp;unfold prS at h;split at h
   .cases h;exact hkey x y
   .cases h
  refine List.pairwise_flatMap.2 ⟨λx _=>?_,?_⟩
  .rw[Yci];intro i j hi hj _;have h1:=hm x _ (Yh hi);have h2:=hm x _ (Yh hj);show kx (cix (uni a.Vars b.Vars) u.Order).toNat _<=kx (cix (uni a.Vars b.Vars) u.Order).toNat _;rw[h1,h2];exact Int.le_refl _
  .refine hs.imp λ{x x'} hxx p hp p' hp'=>?_
   have h1:=hm x p hp;have h2:=hm x' p' hp';show kx (cix (uni a.Vars b.Vars) u.Order).toNat _<=kx (cix (uni a.Vars b.Vars) u.Order).toNat _;rw[h1,h2];exact hxx
theorem ZBa{q:Ze}(hq:Zu q.Zk q.Atoms=true){u z:Za}{a b:Zb}(A:GS q u a)(B:GS q z b)(hu:0<=u.Mask/\u.Mask<16)(hz:0<=z.Mask/\z.Mask<16)(h0:andI u.Mask z.Mask=0)(l r:Int):GS q ⟨orI u.Mask z.Mask,-1,l,r⟩ (Jo a b):=by
 have hvars:uni a.Vars b.Vars=Z9 (orI u.Mask z.Mask) q.Atoms q.Zk.toNat:=by rw[A.vars,B.vars];exact Zqo hq hu hz
 refine⟨hvars,λp hp=>?_,?_,λho=>absurd ho (by show ¬(0:Int)<=-1;decide)⟩
 .obtain⟨x,hx,y,hy,rfl⟩:=ZAX hp;exact Zqs λv hv=>Z0t (A.rows x hx) (B.rows y hy) (Zqv hv)
 .have:=Z0p (uni a.Vars b.Vars) a b;show(Vz _ _ _).length<=8 ^ pcM (orI u.Mask z.Mask);rw[Zqq hu hz h0,Nat.pow_add];exact Yu this (Ydj A.len B.len)
def stS(d:Zn)(q:Ze)(x:Zj)(y:Za)(c:List Zb):Zb :=
 if x.Kind=1 then V0 d q x.Zc
 else if x.Kind=2 then Zbd (c.getD y.Left.toNat ⟨[],[]⟩) x.Order
 else if x.Kind=3 then Jo (c.getD y.Left.toNat ⟨[],[]⟩) (c.getD y.Right.toNat ⟨[],[]⟩)
 else W8 (c.getD y.Left.toNat ⟨[],[]⟩) (c.getD y.Right.toNat ⟨[],[]⟩)
def Wp(d:Zn)(q:Ze):List Zj->List Za->List Zb->List Zb
 |x::xs,y::ys,out=>Wp d q xs ys (out++[stS d q x y out])
 |_,_,out=>out
def GSs(q:Ze)(info:List Za)(c:List Zb):Prop:=∀(j:Nat) (s:Zb),c[j]?=some s->∃y,info[j]?=some y/\GS q y s
theorem Zbe{q:Ze}{info:List Za}{out:List Zb}(G:GSs q info out){i:Nat}{s:Int}{u:Za}(hi:out.length=i)(h0:0<=s)(h:(info.take i)[s.toNat]?=some u):s.toNat<out.length/\out[s.toNat]?=some (out.getD s.toNat ⟨[],[]⟩)/\GS q u (out.getD s.toNat ⟨[],[]⟩):=by
 rw[Ybh]at h;split at h
 .rename_i hlt;have hl:s.toNat<out.length:=by omega
  have e:out[s.toNat]?=some (out.getD s.toNat ⟨[],[]⟩):=by rw[Y5,Yi hl];rfl
  obtain⟨y,hy,g⟩:=G _ _ e;rw[h]at hy;cases hy;exact⟨hl,e,g⟩
 .cases h
theorem Zj6{d:Zn}{q:Ze}(h:Z6 d q=true){info:List Za}{out:List Zb}(G:GSs q info out)(hM:∀y∈info,0<=y.Mask/\y.Mask<16){i:Nat}(hi:out.length=i){x:Zj}{y:Za}(F:Ue q.Atoms x (info.take i) y):GS q y (stS d q x y out):=by
 have hq:Zu q.Zk q.Atoms=true:=by unfold Z6 at h;simp only[Ye]at h;exact h.1
 have hm:∀{s:Nat} {u:Za},(info.take i)[s]?=some u->0<=u.Mask/\u.Mask<16:=λhs=>hM _ (Y9 (Yz hs))
 unfold stS;by_cases k1:x.Kind=1
 .rw[Ya k1];exact ZAZ h F k1
 .rw[Yb k1];by_cases k2:x.Kind=2
  .rw[Ya k2];obtain⟨s,u,f1,f2,f3,rfl⟩:=F.sort k2;exact(Zqu hq (Zbe G hi f1 f2).2.2 f3 s).1
  .rw[Yb k2];obtain⟨s,u,t,z,o,f1,f2,f3,f4,f5,rfl,f6⟩:=F.join k1 k2;have A:=(Zbe G hi f1 f2).2.2;have B:=(Zbe G hi f3 f4).2.2;rcases f6 with⟨k,rfl⟩|⟨k,rfl⟩|⟨k,g1,g2,g3,g4,rfl⟩
   .rw[Ya k];exact ZBa hq A B (hm f2) (hm f4) f5 s t
   .rw[Yb (by omega)];exact Z0u hq A B (hm f2) (hm f4) f5 s t
   .rw[Yb (by omega)];rw[<-g3];exact Z0u hq A B (hm f2) (hm f4) f5 s t
theorem Zqw{q:Ze}{info:List Za}{out:List Zb}(G:GSs q info out){i:Nat}(hi:out.length=i){y:Za}(hy:info[i]?=some y){s:Zb}(g:GS q y s):GSs q info (out++[s]):=by
 intro j s' hs;by_cases hj:j<out.length
 .rw[Ybl hj]at hs;exact G j s' hs
 .have:j=out.length:=by
   have:=(Yv.1 hs).1;simp at this;omega
  subst this;simp at hs;subst hs;exact⟨y,by rw[hi];exact hy,g⟩
end Go.Proofs.YtgbipcfdgfjplaaGreat
namespace Go.Proofs.YtgbipcfdgfjplaaGreat
open Go.AM Go.Sort Go.Stb
abbrev AR:=Array (WA)
def okC(x:Nat)(r:WA):Prop:=x<r.length/\0<=kx x r/\kx x r<=9
structure OkC (x:Nat) (d:AR):Prop where
 sz:d.size<=4096
 at_:∀i,i<d.size->okC x d[i]!
theorem OkC.stp{x:Nat}{d e:AR}{a b:Nat}(h:OkC x d)(S:Stp (kx x) a b d e)(hb:b<=d.size):OkC x e:=by
 have S':=S.mono (Yd a) hb;refine⟨by rw[S.size];exact h.sz,λi hi=>?_⟩;exact S'.pres (okC x) (λy _ hy=>h.at_ y hy) i (Yd _) (by rw[<-S.size];exact hi)
theorem gA{d:AR}{i:Nat}(h:i<d.size):d.toList[(i:Int).toNat]?=some d[i]!:=by rw[Yf];exact U4 d i h
theorem Zj7(d:AR)(i j:Nat):(d.toList.set i d[j]!).set j d[i]! = (swp d i j).toList:=by simp[swp]
theorem Zj8{d:AR}{i j:Nat}(v:WA)(h:j<d.size):∃e,(d.toList.set i v)[j]?=some e:=⟨_,Yi (by simpa using h)⟩
theorem wA{n:Int}(h1:-1000000<=n)(h2:n<=1000000):w n=n:=ZD (by omega) (by omega)
theorem Jp{i j:Nat}(h:i+j<=1000000):w (shrI (IntKind.wrap .u64 (w ((i:Int)+(j:Int)))) 1)=(((i+j) / 2:Nat):Int):=by
 rw[wA (n:=(i:Int)+(j:Int)) (by omega) (by omega)];have e1:IntKind.wrap .u64 ((i:Int)+(j:Int))=(i:Int)+(j:Int):=by
  simp only[IntKind.wrap,IntKind.signed,IntKind.bits];simp;omega
 rw[e1];have e2:shrI ((i:Int)+(j:Int)) 1=(((i+j) / 2:Nat):Int):=by
  unfold shrI;rw[show(2:Int) ^ (min (1:Int).toNat 64)=2 from rfl,Int.fdiv_eq_ediv_of_nonneg _ (by decide)];omega
 rw[e2];exact wA (by omega) (by omega)
theorem Zgx{x:Nat}{p q:WA}(hp:okC x p)(hq:okC x q):UH x p q=some (I (kx x p-kx x q),[.box [I x]]):=by
 obtain⟨p1,p2,p3⟩:=hp;obtain⟨q1,q2,q3⟩:=hq;have e1:p[x]=kx x p:=(getElem!_pos p x p1).symm;have e2:q[x]=kx x q:=(getElem!_pos q x q1).symm;refine Z7K _ _ _ _ ⟨by omega,_,gE p1,_,gE q1,?_⟩;rw[e1,e2,wA (by omega) (by omega)]
def Rz(D:AR)(x:Nat)(v:Rs):Prop:=∃fr,v=some (.tup [],[.arr 42 1 fr (D.toList.map isc),.box [I x]])
theorem l_in(x a b i:Nat)(hi:i<=8192)(D:AR):∀(j:Nat) (d:AR) (fr:Bool),OkC x d->a<=j->j<d.size->
  (∀fr',Rz D x (QN fr' (insInner (ltK (kx x)) a j d).toList x a b ((i+1:Nat):Int)))->Rz D x (Zaj fr d.toList x a b i j)
 |0,d,fr,hO,haj,hj,h=>by
  obtain⟨f,hf⟩:=h fr;refine⟨f,Zje ?_⟩;rw[Yb (by omega),wA (by omega) (by omega)];unfold insInner at hf
  exact_mod_cast hf
 |j+1,d,fr,hO,haj,hj,h=>by
  unfold insInner at h;have hw:w (((j+1:Nat):Int)-1)=(j:Int):=by have:=hO.sz;rw[wA (by omega) (by omega)];omega
  have hw2:w ((i:Int)+1)=((i+1:Nat):Int):=by rw[wA (by omega) (by omega)];omega
  by_cases hc:a<j+1
  .by_cases hl:kx x d[j+1]!<kx x d[j]!
   .rw[Ya (by simp[ltK,hl];omega)]at h;have hS:=Zj1 (k:=kx x) d j hj hl;obtain⟨f,hf⟩:=l_in x a b i hi D j (swp d (j+1) j) false (hO.stp hS (by omega)) (by omega) (by rw[swp_size];omega) h;refine⟨f,Zje ?_⟩;rw[Ya (by omega),hw];refine⟨by omega,_,gA hj,by omega,_,gA (by omega),_,_,Zgx (hO.at_ _ hj) (hO.at_ _ (by omega)),?_⟩;rw[Ya (by omega),Yf,Yf,Zj7];obtain⟨e,he⟩:=Zj8 (i:=j+1) d[j]! (show j<d.size by omega);exact⟨e,he,hf⟩
   .rw[Yb (by simp[ltK];omega)]at h;obtain⟨f,hf⟩:=h fr;refine⟨f,Zje ?_⟩;rw[Ya (by omega),hw];refine⟨by omega,_,gA hj,by omega,_,gA (by omega),_,_,Zgx (hO.at_ _ hj) (hO.at_ _ (by omega)),?_⟩;rw[Yb (by omega),hw2];exact hf
  .rw[Yb (by simp;omega)]at h;obtain⟨f,hf⟩:=h fr;refine⟨f,Zje ?_⟩;rw[Yb (by omega),hw2];exact hf
theorem Z0v(x a b:Nat):∀(n i:Nat) (d:AR) (fr:Bool),b-i=n->OkC x d->a<i->b<=d.size->i<=b+1->Rz (insOuter (ltK (kx x)) a b i d) x (QN fr d.toList x a b i)
 |0,i,d,fr,hn,hO,hai,hb,hib=>by
  refine⟨fr,ZxP ?_⟩
  rw[Yb (by omega),insOuter,Yb (by omega)]
 |n+1,i,d,fr,hn,hO,hai,hb,hib=>by
  have hsz:=hO.sz;have hS:=Zqj (k:=kx x) a i d b (by omega) (by omega) hb
  obtain⟨f,hf⟩:=l_in x a b i (by omega) (insOuter (ltK (kx x)) a b i d) i d fr hO (by omega) (by omega) (λfr'=>by
   rw[insOuter,Ya (by omega)]
   exact Z0v x a b n (i+1) _ fr' (by omega) (hO.stp hS hb) (by omega) (by rw[hS.size];exact hb) (by omega))
  refine⟨f,ZxP ?_⟩;rw[Ya (by omega)];exact hf
theorem Z0w{x a b:Nat}{d:AR}(fr:Bool)(hO:OkC x d)(c:a<=b)(hb:b<=d.size):∃e,Stp (kx x) a b d e/\Srt (kx x) a b e/\Rz e x (Zcp fr d.toList x a b):=by
 have hsz:=hO.sz;refine⟨_,ZAN d a b hb,ZAO d a b c hb,?_⟩;obtain⟨f,hf⟩:=Z0v x a b _ (a+1) d fr rfl hO (by omega) hb (by omega);refine⟨f,Z7L ?_⟩;rw[wA (by omega) (by omega)]
 exact_mod_cast hf
theorem l_swr(x a b n:Nat)(d:AR)(hs:d.size<=4096)(h1:a+n<=b)(h2:b+n<=d.size):∀i,i<=n->∀fr,Rz (swr a b n d) x (Zal fr (swr a b i d).toList x a b n i):=by
 refine down _ ?_ ?_
 .intro fr;refine⟨fr,ZxQ ?_⟩;rw[Yb (by omega)]
 .intro i hi ih fr;obtain⟨f,hf⟩:=ih false;refine⟨f,ZxQ ?_⟩;have e1:w ((b:Int)+(i:Int))=((b+i:Nat):Int):=by rw[wA (by omega) (by omega)];omega
  have e2:w ((a:Int)+(i:Int))=((a+i:Nat):Int):=by rw[wA (by omega) (by omega)];omega
  have e3:w ((i:Int)+1)=((i+1:Nat):Int):=by rw[wA (by omega) (by omega)];omega
  rw[Ya (by omega),e1,e2,e3];refine⟨by omega,_,gA (by rw[Q1];omega),by omega,_,gA (by rw[Q1];omega),?_⟩;rw[Yf,Yf,Zj7];obtain⟨e,he⟩:=Zj8 (d:=swr a b i d) (i:=a+i) (swr a b i d)[b+i]! (show b+i<_ by rw[Q1];omega);exact⟨e,he,hf⟩
theorem Zqx{x a b n:Nat}{d:AR}(fr:Bool)(hs:d.size<=4096)(h1:a+n<=b)(h2:b+n<=d.size):Rz (swr a b n d) x (Zak fr d.toList x a b n):=by
 obtain⟨f,hf⟩:=l_swr x a b n d hs h1 h2 0 (Yd _) fr;exact⟨f,Z7M hf⟩
theorem Zqy(x a m b:Nat)(d:AR)(hs:d.size<=4096)(h1:a<=m)(h2:m<=b)(h3:b<=d.size):∀(n i j:Nat) (e:AR) (fr:Bool),i+j<=n->0<i->0<j->a+i<=m->m+j<=b->Rot a m b d i j e->
  ∃D,Rtd a m b d D/\Rz D x (K9 fr e.toList x m i j)
 |0,i,j,e,fr,hn,hi,hj,_,_,R=>by omega
 |n+1,i,j,e,fr,hn,hi,hj,him,hjb,R=>by
  have hse:e.size<=4096:=by rw[R.size];exact hs
  have hsd:e.size=d.size:=R.size;have e1:w ((m:Int)-(i:Int))=((m-i:Nat):Int):=by rw[wA (by omega) (by omega)];omega
  have e2:w ((m:Int)+(j:Int))=((m+j:Nat):Int):=by rw[wA (by omega) (by omega)];omega
  have e3:w (((m+j:Nat):Int)-(i:Int))=((m+j-i:Nat):Int):=by rw[wA (by omega) (by omega)];omega
  by_cases hij:i=j
  .subst hij;obtain⟨f,hf⟩:=Zqx (x:=x) (a:=m-i) (b:=m) (n:=i) (d:=e) fr hse (by omega) (by omega);refine⟨swr (m-i) m i e,rtd_of h1 h2 h3 (R.eq (by omega)),f,Zpy ?_⟩;rw[Ya rfl,e1];exact⟨_,_,_,hf,rfl⟩
  .by_cases hlt:j<i
   .have e4:w ((i:Int)-(j:Int))=((i-j:Nat):Int):=by rw[wA (by omega) (by omega)];omega
    obtain⟨f,hf⟩:=Zqx (x:=x) (a:=m-i) (b:=m) (n:=j) (d:=e) fr hse (by omega) (by omega);obtain⟨D,hD,g,hg⟩:=Zqy x a m b d hs h1 h2 h3 n (i-j) j _ f (by omega) (by omega) hj (by omega) hjb (R.gt hlt (by omega));refine⟨D,hD,g,Zpy ?_⟩;rw[Yb (by omega),Ya (by omega),e1,e4];exact⟨_,_,_,hf,hg⟩
   .have e4:w ((j:Int)-(i:Int))=((j-i:Nat):Int):=by rw[wA (by omega) (by omega)];omega
    obtain⟨f,hf⟩:=Zqx (x:=x) (a:=m-i) (b:=m+j-i) (n:=i) (d:=e) fr hse (by omega) (by omega);obtain⟨D,hD,g,hg⟩:=Zqy x a m b d hs h1 h2 h3 n i (j-i) _ f (by omega) hi (by omega) him (by omega) (R.lt (by omega) (by omega));refine⟨D,hD,g,Zpy ?_⟩;rw[Yb (by omega),Yb (by omega),e1,e2,e3,e4];exact⟨_,_,_,hf,hg⟩
theorem x_rot{x a m b:Nat}{d:AR}(fr:Bool)(hs:d.size<=4096)(h1:a<m)(h2:m<b)(h3:b<=d.size):∃D,Rtd a m b d D/\Rz D x (Zfa fr d.toList x a m b):=by
 obtain⟨D,hD,f,hf⟩:=Zqy x a m b d hs (by omega) (by omega) h3 _ (m-a) (b-m) d fr (Yg _) (by omega) (by omega) (by omega) (by omega) (.start d (by omega) (by omega));refine⟨D,hD,f,Z7N ?_⟩;have e1:w ((m:Int)-(a:Int))=((m-a:Nat):Int):=by rw[wA (by omega) (by omega)];omega
 have e2:w ((b:Int)-(m:Int))=((b-m:Nat):Int):=by rw[wA (by omega) (by omega)];omega
 rw[e1,e2];exact hf
def Mgd(x a b:Nat)(d:AR)(v:Rs):Prop:=∃e,Stp (kx x) a b d e/\Srt (kx x) a b e/\Rz e x v
theorem l_m1(x a b i:Nat)(d:AR)(hO:OkC x d)(hb:b<=d.size)(hs:Srt (kx x) (a+1) b d)(c:a<i)(cc:i<=b)(h1:i=a+1\/kx x d[i-1]!<kx x d[a]!)(h2:i=b\/kx x d[a]!<=kx x d[i]!) :
  ∀(n q:Nat) (e:AR) (fr:Bool),i-1-q=n->q<=i-1->Shl a q d e->Stp (kx x) a b d e->Mgd x a b d (Zam fr e.toList x i q)
 |0,q,e,fr,hn,hq,S,T=>by
  have hsz:=hO.sz;obtain rfl:q=i-1:=by omega
  have hI:i-1+1=i:=by omega
  refine⟨e,T,S.srt hs (h1.imp (λh=>by omega) id) (by rw[hI];exact h2) (by omega),fr,ZxR ?_⟩
  rw[wA (by omega) (by omega),Yb (by omega)]
 |n+1,q,e,fr,hn,hq,S,T=>by
  have hsz:=hO.sz;have haq:=S.aq;have hes:e.size=d.size:=S.size;have hk:kx x d[q+1]!<kx x d[a]!:=by
   rcases h1 with h1|h1
   .omega
   .have:=hs.le (i:=q+1) (j:=i-1) (by omega) (by omega) (by omega);omega
  obtain⟨g,G1,G2,f,hf⟩:=l_m1 x a b i d hO hb hs c cc h1 h2 n (q+1) (swp e (q+1) q) false (by omega) (by omega) (S.next (by omega)) (T.trans ((S.stp (by omega) hk).mono haq (by omega)));refine⟨g,G1,G2,f,ZxR ?_⟩;have e1:w ((q:Int)+1)=((q+1:Nat):Int):=by rw[wA (by omega) (by omega)];omega
  rw[wA (n:=(i:Int)-1) (by omega) (by omega),Ya (by omega),e1];refine⟨by omega,_,gA (by omega),by omega,_,gA (by omega),?_⟩;rw[Yf,Yf,Zj7,ZAM e q (q+1) (by omega) (by omega)];obtain⟨v,hv⟩:=Zj8 (i:=q) e[q+1]! (show q+1<e.size by omega);exact⟨v,hv,hf⟩
theorem l_m0(x a b:Nat)(d:AR)(hO:OkC x d)(hb:b<=d.size)(hs:Srt (kx x) (a+1) b d):∀(n i j:Nat) (fr:Bool),j-i<=n->a<i->i<=j->j<=b->
  (i=a+1\/kx x d[i-1]!<kx x d[a]!)->(j=b\/kx x d[a]!<=kx x d[j]!)->Mgd x a b d (KA fr d.toList x a i j)
 |n,i,j,fr,hn,hai,hij,hjb,h1,h2=>by
  have hsz:=hO.sz;by_cases h:i<j
  .have hm1:i<=(i+j) / 2:=by omega
   have hm2:(i+j) / 2<j:=by omega
   have hoc:=Zgx (hO.at_ ((i+j) / 2) (by omega)) (hO.at_ a (by omega));by_cases hl:kx x d[(i+j) / 2]!<kx x d[a]!
   .match n,hn with
    |0,hn=>omega
    |n+1,hn =>
    obtain⟨g,G1,G2,f,hf⟩:=l_m0 x a b d hO hb hs n ((i+j) / 2+1) j fr (by omega) (by omega) (by omega) hjb (.inr hl) h2;refine⟨g,G1,G2,f,Zpz ?_⟩;rw[Ya (by omega),Jp (by omega)];refine⟨by omega,_,gA (by omega),by omega,_,gA (by omega),_,_,hoc,?_⟩;rw[Ya (by omega),wA (by omega) (by omega)]
    exact_mod_cast hf
   .match n,hn with
    |0,hn=>omega
    |n+1,hn =>
    obtain⟨g,G1,G2,f,hf⟩:=l_m0 x a b d hO hb hs n i ((i+j) / 2) fr (by omega) (by omega) (by omega) (by omega) h1 (.inr (by omega));refine⟨g,G1,G2,f,Zpz ?_⟩;rw[Ya (by omega),Jp (by omega)];refine⟨by omega,_,gA (by omega),by omega,_,gA (by omega),_,_,hoc,?_⟩;rw[Yb (by omega)];exact hf
  .obtain rfl:i=j:=by omega
   obtain⟨g,G1,G2,f,hf⟩:=l_m1 x a b i d hO hb hs hai hjb h1 h2 _ a d fr rfl (by omega) (.start a d) (.refl _ _ _);refine⟨g,G1,G2,f,Zpz ?_⟩;rw[Yb (by omega)];exact hf
theorem l_m3(x a m i:Nat)(d:AR)(hO:OkC x d)(hb:m<d.size)(hs:Srt (kx x) a m d)(c:a<=i)(cc:i<=m)(h1:i=a\/kx x d[i-1]!<=kx x d[m]!)(h2:i=m\/kx x d[m]!<kx x d[i]!) :
  ∀(n q:Nat) (e:AR) (fr:Bool),q-i=n->i<=q->Shr q m d e->Stp (kx x) a (m+1) d e->Mgd x a (m+1) d (Zan fr e.toList x i q)
 |0,q,e,fr,hn,hq,S,T=>by
  obtain rfl:q=i:=by omega
  refine⟨e,T,S.srt hs h1 h2 c,fr,ZxS ?_⟩
  rw[Yb (by omega)]
 |n+1,q,e,fr,hn,hq,S,T=>by
  have hsz:=hO.sz;have hqm:=S.qm;have hes:e.size=d.size:=S.size;obtain⟨p,rfl⟩:∃p,q=p+1:=⟨q-1,by omega⟩;have hk:kx x d[m]!<kx x d[p]!:=by
   rcases h2 with h2|h2
   .omega
   .have:=hs.le (i:=i) (j:=p) c (by omega) (by omega);omega
  obtain⟨g,G1,G2,f,hf⟩:=l_m3 x a m i d hO hb hs c cc h1 h2 n p (swp e (p+1) p) false (by omega) (by omega) (S.next hb) (T.trans ((S.stp hb hk).mono (by omega) (by omega)));refine⟨g,G1,G2,f,ZxS ?_⟩;have e1:w (((p+1:Nat):Int)-1)=(p:Int):=by rw[wA (by omega) (by omega)];omega
  rw[Ya (by omega),e1];refine⟨by omega,_,gA (by omega),by omega,_,gA (by omega),?_⟩;rw[Yf,Yf,Zj7];obtain⟨v,hv⟩:=Zj8 (i:=p+1) e[p]! (show p<e.size by omega);exact⟨v,hv,hf⟩
theorem l_m2(x a m:Nat)(d:AR)(hO:OkC x d)(hb:m<d.size)(hs:Srt (kx x) a m d):∀(n i j:Nat) (fr:Bool),j-i<=n->a<=i->i<=j->j<=m->
  (i=a\/kx x d[i-1]!<=kx x d[m]!)->(j=m\/kx x d[m]!<kx x d[j]!)->Mgd x a (m+1) d (KB fr d.toList x m i j)
 |n,i,j,fr,hn,hai,hij,hjb,h1,h2=>by
  have hsz:=hO.sz;by_cases h:i<j
  .have hm1:i<=(i+j) / 2:=by omega
   have hm2:(i+j) / 2<j:=by omega
   have hoc:=Zgx (hO.at_ m (by omega)) (hO.at_ ((i+j) / 2) (by omega));by_cases hl:kx x d[m]!<kx x d[(i+j) / 2]!
   .match n,hn with
    |0,hn=>omega
    |n+1,hn =>
    obtain⟨g,G1,G2,f,hf⟩:=l_m2 x a m d hO hb hs n i ((i+j) / 2) fr (by omega) (by omega) (by omega) (by omega) h1 (.inr hl);refine⟨g,G1,G2,f,Zp0 ?_⟩;rw[Ya (by omega),Jp (by omega)];refine⟨by omega,_,gA (by omega),by omega,_,gA (by omega),_,_,hoc,?_⟩;rw[Ya (by omega)];exact hf
   .match n,hn with
    |0,hn=>omega
    |n+1,hn =>
    obtain⟨g,G1,G2,f,hf⟩:=l_m2 x a m d hO hb hs n ((i+j) / 2+1) j fr (by omega) (by omega) (by omega) hjb (.inr (by simpa using hl)) h2;refine⟨g,G1,G2,f,Zp0 ?_⟩;rw[Ya (by omega),Jp (by omega)];refine⟨by omega,_,gA (by omega),by omega,_,gA (by omega),_,_,hoc,?_⟩;rw[Yb (by omega),wA (by omega) (by omega)]
    exact_mod_cast hf
  .obtain rfl:i=j:=by omega
   obtain⟨g,G1,G2,f,hf⟩:=l_m3 x a m i d hO hb hs hai hjb h1 h2 _ m d fr rfl (by omega) (.start m d) (.refl _ _ _);refine⟨g,G1,G2,f,Zp0 ?_⟩;rw[Yb (by omega)];exact hf
def IHs(x n:Nat):Prop:=∀(a m b:Nat) (d:AR) (fr:Bool),b-a<=n->OkC x d->a<m->m<b->b<=d.size->Srt (kx x) a m d->Srt (kx x) m b d->Mgd x a b d (WZ fr d.toList x a m b)
theorem j_m4{x n a b mid s t:Nat}{d e f:AR}(IH:IHs x n)(hn:b-mid<=n)(hO:OkC x f)(hb:b<=d.size)(C:Zj2 (kx x) a b mid s t d e)(h1:a<=mid)(h2:mid<=t)(h3:t<=b)(F:Stp (kx x) a mid e f)(F':Srt (kx x) a mid f)(fr:Bool) :
  Mgd x a b d (QP fr f.toList x b mid t)/\∀s':Nat,Mgd x a b d (UI fr f.toList x a b mid s' t false):=by
 have hfs:f.size=d.size:=F.size.trans C.stp.size;have q3:=C.q3.out F (.inr (Yg _));have q4:=C.q4.out F (.inr h2);by_cases h:mid<t/\t<b
 .obtain⟨g,G1,G2,r,hr⟩:=IH mid t b f fr hn hO h.1 h.2 (by omega) q3 q4;obtain⟨A,B⟩:=C.join h1 (by omega) F F' G1 G2;constructor
  .refine⟨g,A,B,r,ZxT ?_⟩;rw[Ya (by omega),Ya (by omega)];exact⟨_,_,_,hr,rfl⟩
  .intro s';refine⟨g,A,B,r,ZxU ?_⟩;rw[Ya (by omega),Ya (by omega)];exact⟨_,_,_,hr,rfl⟩
 .obtain⟨A,B⟩:=C.join h1 (by omega) F F' (.refl _ _ _) (Z0b q3 q4 h h2 h3);constructor
  .refine⟨f,A,B,fr,ZxT ?_⟩;by_cases h4:(mid:Int)<(t:Int)
   .rw[Ya h4,Yb (by omega)]
   .rw[Yb h4]
  .intro s';refine⟨f,A,B,fr,ZxU ?_⟩;by_cases h4:(mid:Int)<(t:Int)
   .rw[Ya h4,Yb (by omega)]
   .rw[Yb h4]
theorem Zj9(x n a m b:Nat)(d:AR)(IH:IHs x n)(hn:b-a<=n+1)(hO:OkC x d)(cd:a+1<m)(cl:m+1<b)(hb:b<=d.size)(cc:Srt (kx x) a m d)(c:Srt (kx x) m b d) :
  ∀(k s r:Nat) (fr:Bool),r-s<=k->a<=s->s<=r->r<=m->r<=(a+b) / 2->(a+b) / 2+m<=s+b->
  ((s=a\/(a+b) / 2+m=s+b)\/kx x d[s-1]!<=kx x d[(a+b) / 2+m-s]!)->((r=(a+b) / 2\/r=m)\/kx x d[(a+b) / 2+m-r-1]!<kx x d[r]!)->
  Mgd x a b d (QO fr d.toList x a m b ((a+b) / 2:Nat) ((a+b) / 2+m:Nat) s r ((a+b) / 2+m-1:Nat))
 |k,s,r,fr,hk,hs1,hsr,hr1,hr2,hs4,h1,h2=>by
  have hsz:=hO.sz;by_cases h:s<r
  .have hm1:s<=(s+r) / 2:=by omega
   have hm2:(s+r) / 2<r:=by omega
   have e1:w ((((a+b) / 2+m-1:Nat):Int)-(((s+r) / 2:Nat):Int))=(((a+b) / 2+m-1-(s+r) / 2:Nat):Int):=by rw[wA (by omega) (by omega)];omega
   have hoc:=Zgx (hO.at_ ((a+b) / 2+m-1-(s+r) / 2) (by omega)) (hO.at_ ((s+r) / 2) (by omega));by_cases hl:kx x d[(a+b) / 2+m-1-(s+r) / 2]!<kx x d[(s+r) / 2]!
   .match k,hk with
    |0,hk=>omega
    |k+1,hk =>
    obtain⟨g,G1,G2,f,hf⟩:=Zj9 x n a m b d IH hn hO cd cl hb cc c k s ((s+r) / 2) fr (by omega) hs1 (by omega) (by omega) (by omega) hs4 h1 (.inr (by rw[show(a+b) / 2+m-(s+r) / 2-1=(a+b) / 2+m-1-(s+r) / 2 by omega];exact hl));refine⟨g,G1,G2,f,Zgh ?_⟩;rw[Ya (by omega),Jp (by omega),e1];refine⟨by omega,_,gA (by omega),by omega,_,gA (by omega),_,_,hoc,?_⟩;rw[Ya (by omega)];exact hf
   .match k,hk with
    |0,hk=>omega
    |k+1,hk =>
    obtain⟨g,G1,G2,f,hf⟩:=Zj9 x n a m b d IH hn hO cd cl hb cc c k ((s+r) / 2+1) r fr (by omega) (by omega) (by omega) hr1 hr2 (by omega) (.inr (by
     rw[show(s+r) / 2+1-1=(s+r) / 2 by omega,show(a+b) / 2+m-((s+r) / 2+1)=(a+b) / 2+m-1-(s+r) / 2 by omega];omega)) h2
    refine⟨g,G1,G2,f,Zgh ?_⟩;rw[Ya (by omega),Jp (by omega),e1];refine⟨by omega,_,gA (by omega),by omega,_,gA (by omega),_,_,hoc,?_⟩;rw[Yb (by omega),wA (by omega) (by omega)]
    exact_mod_cast hf
  .obtain rfl:s=r:=by omega
   have e2:w ((((a+b) / 2+m:Nat):Int)-(s:Int))=(((a+b) / 2+m-s:Nat):Int):=by rw[wA (by omega) (by omega)];omega
   have K:Cut (kx x) a m b ((a+b) / 2) s d:=⟨by omega,by omega,hb,by omega,by omega,hs1,hr1,hr2,hs4,cc,c,h1,h2⟩;generalize hmid:(a+b) / 2=mid at *
   have main:∀(D:AR) (fr':Bool),Rtd s m (mid+m-s) d D->Mgd x a b d (Zcq fr' D.toList x a m b mid s ((mid+m-s:Nat):Int) false)/\
     (a<s->s<mid->∃v4 v5 v6,WZ fr' D.toList x a s mid=some (.tup [],[.arr 42 1 v4 (v5.map isc),.box [I v6]])/\Mgd x a b d (QP v4 v5 v6 b mid ((mid+m-s:Nat):Int)))/\
     (¬(a<s/\s<mid)->Mgd x a b d (UI fr' D.toList x a b mid s ((mid+m-s:Nat):Int) false)):=by
    intro D fr' R;have Cd:=K.turn R;have hOD:OkC x D:=hO.stp Cd.stp hb;have hDs:D.size=d.size:=Cd.stp.size;have k1:mid<b:=K.l2;have k2:a<mid:=K.l1;have part1:a<s->s<mid->∃v4 v5 v6,WZ fr' D.toList x a s mid=some (.tup [],[.arr 42 1 v4 (v5.map isc),.box [I v6]])/\Mgd x a b d (QP v4 v5 v6 b mid ((mid+m-s:Nat):Int)):=by
     intro p1 p2;obtain⟨g,G1,G2,f,hf⟩:=IH a s mid D fr' (by omega) hOD p1 p2 (by omega) Cd.q1 Cd.q2;exact⟨_,_,_,hf,(j_m4 IH (by omega) (hOD.stp G1 (by omega)) hb Cd (by omega) (by omega) (by omega) G1 G2 f).1⟩
    have part2:¬(a<s/\s<mid)->Mgd x a b d (UI fr' D.toList x a b mid s ((mid+m-s:Nat):Int) false):=by
     intro p;exact(j_m4 IH (by omega) hOD hb Cd (by omega) (by omega) (by omega) (.refl _ _ _) (Z0b Cd.q1 Cd.q2 p hs1 hr2) fr').2 s
    refine⟨?_,part1,part2⟩;by_cases p:a<s/\s<mid
    .obtain⟨v4,v5,v6,hX,g,G1,G2,f,hf⟩:=part1 p.1 p.2;refine⟨g,G1,G2,f,ZxV ?_⟩;rw[Ya (by omega),Ya (by omega)];exact⟨_,_,_,hX,hf⟩
    .obtain⟨g,G1,G2,f,hf⟩:=part2 p;refine⟨g,G1,G2,f,ZxV ?_⟩;by_cases p1:(a:Int)<(s:Int)
     .rw[Ya p1,Yb (by omega)];exact hf
     .rw[Yb p1];exact hf
   by_cases hc:s<m/\m<mid+m-s
   .obtain⟨D,hD,fD,hfD⟩:=x_rot (x:=x) (d:=d) fr hsz hc.1 hc.2 (by omega);obtain⟨-,p1,p2⟩:=main D fD hD;by_cases p:a<s/\s<mid
    .obtain⟨v4,v5,v6,hX,g,G1,G2,f,hf⟩:=p1 p.1 p.2;refine⟨g,G1,G2,f,Zgh ?_⟩;rw[Yb (by omega),e2,Ya (by omega),Ya (by omega)];refine⟨_,_,_,hfD,?_⟩;rw[Ya (by omega),Ya (by omega)];exact⟨_,_,_,hX,hf⟩
    .obtain⟨g,G1,G2,f,hf⟩:=p2 p;refine⟨g,G1,G2,f,Zgh ?_⟩;rw[Yb (by omega),e2,Ya (by omega),Ya (by omega)];refine⟨_,_,_,hfD,?_⟩;by_cases p1:(a:Int)<(s:Int)
     .rw[Ya p1,Yb (by omega)];exact hf
     .rw[Yb p1];exact hf
   .obtain⟨⟨g,G1,G2,f,hf⟩,-,-⟩:=main d fr (ZAP d hr1 (by omega) (by omega) (by omega));refine⟨g,G1,G2,f,Zgh ?_⟩;rw[Yb (by omega),e2];by_cases p1:(s:Int)<(m:Int)
    .rw[Ya p1,Yb (by omega)];exact hf
    .rw[Yb p1];exact hf
theorem ZjA(x:Nat):∀n,IHs x n
 |0,a,m,b,d,fr,hn,hO,ham,hmb,hb,hlo,hhi=>by omega
 |n+1,a,m,b,d,fr,hn,hO,ham,hmb,hb,hlo,hhi=>by
  have hsz:=hO.sz;have e1:w ((m:Int)-(a:Int))=((m-a:Nat):Int):=by rw[wA (by omega) (by omega)];omega
  have e2:w ((b:Int)-(m:Int))=((b-m:Nat):Int):=by rw[wA (by omega) (by omega)];omega
  by_cases h1:m=a+1
  .subst h1;obtain⟨g,G1,G2,f,hf⟩:=l_m0 x a b d hO hb hhi _ (a+1) b fr (Yg _) (by omega) (by omega) (Yg _) (.inl rfl) (.inl rfl);refine⟨g,G1,G2,f,Zjf ?_⟩;rw[e1,Ya (by omega)];exact hf
  .by_cases h2:b=m+1
   .subst h2;obtain⟨g,G1,G2,f,hf⟩:=l_m2 x a m d hO (by omega) hlo _ a m fr (Yg _) (Yg _) (by omega) (Yg _) (.inl rfl) (.inl rfl);refine⟨g,G1,G2,f,Zjf ?_⟩;rw[e1,Yb (by omega),e2,Ya (by omega)];exact hf
   .have e3:w ((((a+b) / 2:Nat):Int)+(m:Int))=(((a+b) / 2+m:Nat):Int):=by rw[wA (by omega) (by omega)];omega
    have e4:w ((((a+b) / 2+m:Nat):Int)-1)=(((a+b) / 2+m-1:Nat):Int):=by rw[wA (by omega) (by omega)];omega
    by_cases h3:(a+b) / 2<m
    .have e5:w ((((a+b) / 2+m:Nat):Int)-(b:Int))=(((a+b) / 2+m-b:Nat):Int):=by rw[wA (by omega) (by omega)];omega
     obtain⟨g,G1,G2,f,hf⟩:=Zj9 x n a m b d (ZjA x n) hn hO (by omega) (by omega) hb hlo hhi _ ((a+b) / 2+m-b) ((a+b) / 2) fr (Yg _) (by omega) (by omega) (by omega) (Yg _) (by omega) (.inl (.inr (by omega))) (.inl (.inl rfl));refine⟨g,G1,G2,f,Zjf ?_⟩;rw[e1,Yb (by omega),e2,Yb (by omega),Jp (by omega),Ya (by omega),e3,e4,e5];exact hf
    .obtain⟨g,G1,G2,f,hf⟩:=Zj9 x n a m b d (ZjA x n) hn hO (by omega) (by omega) hb hlo hhi _ a m fr (Yg _) (Yg _) (by omega) (Yg _) (by omega) (by omega) (.inl (.inl rfl)) (.inl (.inr rfl));refine⟨g,G1,G2,f,Zjf ?_⟩;rw[e1,Yb (by omega),e2,Yb (by omega),Jp (by omega),Yb (by omega),e3,e4];exact hf
def ZjB(x:Nat)(d0:AR)(v:Rs):Prop:=∃e,Stp (kx x) 0 d0.size d0 e/\Srt (kx x) 0 d0.size e/\Rz e x v
theorem l_s1(x bs:Nat)(d0:AR)(cd:0<bs)(c:OkC x d0)(cc:bs<d0.size)(IH:∀(e:AR) (fr:Bool),OkC x e->Stp (kx x) 0 d0.size d0 e->Bks (kx x) (2*bs) d0.size e->ZjB x d0 (QQ fr e.toList x d0.size ((2*bs:Nat):Int))) :
  ∀(n a:Nat) (e:AR) (fr:Bool),d0.size-a<=n->a<=d0.size->OkC x e->Stp (kx x) 0 d0.size d0 e->Mid (kx x) bs d0.size a e->ZjB x d0 (Zaq fr e.toList x d0.size bs a ((a+2*bs:Nat):Int))
 |n,a,e,fr,hn,han,hO,T,M=>by
  have hsz:=c.sz;have hes:=T.size;obtain⟨t1,t2⟩:=M.two;have e1:w ((a:Int)+(bs:Int))=((a+bs:Nat):Int):=by rw[wA (by omega) (by omega)];omega
  have e2:w (2*(bs:Int))=((2*bs:Nat):Int):=by rw[wA (by omega) (by omega)];omega
  have e3:w (((a+2*bs:Nat):Int)+((2*bs:Nat):Int))=((a+2*bs+2*bs:Nat):Int):=by rw[wA (by omega) (by omega)];omega
  have e4:w ((bs:Int)*2)=((2*bs:Nat):Int):=by rw[wA (by omega) (by omega)];omega
  by_cases h:a+2*bs<=d0.size
  .match n,hn with
   |0,hn=>omega
   |n+1,hn =>
   obtain⟨g,G1,G2,f,hf⟩:=ZjA x _ a (a+bs) (a+2*bs) e fr (Yg _) hO (by omega) (by omega) (by omega) (by rw[Y8 (by omega)]at t1;exact t1) (by rw[Y8 (by omega)]at t2;exact t2);obtain⟨r,R1,R2,f2,hf2⟩:=l_s1 x bs d0 cd c cc IH n (a+2*bs) g f (by omega) h (hO.stp G1 (by omega)) (T.trans (G1.mono (Yd _) h)) (M.next G1 G2);refine⟨r,R1,R2,f2,Zp1 ?_⟩;rw[Ya (by omega),e1,e2,e3];exact⟨_,_,_,hf,hf2⟩
  .by_cases h2:a+bs<d0.size
   .obtain⟨g,G1,G2,f,hf⟩:=ZjA x _ a (a+bs) d0.size e fr (Yg _) hO (by omega) (by omega) (by omega) (by rw[Y8 (by omega)]at t1;exact t1) (by rw[Nat.min_eq_right (by omega)]at t2;exact t2);obtain⟨r,R1,R2,f2,hf2⟩:=IH g f (hO.stp G1 (by omega)) (T.trans (G1.mono (Yd _) (Yg _))) (M.end_ (by omega) G1 G2);refine⟨r,R1,R2,f2,Zp1 ?_⟩;rw[Yb (by omega),e1,Ya (by omega),e4];exact⟨_,_,_,hf,hf2⟩
   .obtain⟨r,R1,R2,f2,hf2⟩:=IH e fr hO T (M.end_ (by omega) (.refl _ _ _) (by rw[Nat.min_eq_right (by omega)]at t1;exact t1));refine⟨r,R1,R2,f2,Zp1 ?_⟩;rw[Yb (by omega),e1,Yb (by omega),e4];exact hf2
theorem l_s2(x:Nat)(d0:AR)(c:OkC x d0):∀(n bs:Nat) (e:AR) (fr:Bool),d0.size-bs<=n->0<bs->bs<=8192->OkC x e->Stp (kx x) 0 d0.size d0 e->Bks (kx x) bs d0.size e->ZjB x d0 (QQ fr e.toList x d0.size bs)
 |n,bs,e,fr,hn,hbs,hb8,hO,T,B=>by
  have hsz:=c.sz;by_cases h:bs<d0.size
  .match n,hn with
   |0,hn=>omega
   |n+1,hn =>
   have e2:w (2*(bs:Int))=((0+2*bs:Nat):Int):=by rw[wA (by omega) (by omega)];omega
   obtain⟨r,R1,R2,f2,hf2⟩:=l_s1 x bs d0 hbs c h (λe fr hO T B=>l_s2 x d0 c n (2*bs) e fr (by omega) (by omega) (by omega) hO T B) _ 0 e fr (Yg _) (Yd _) hO T (.start B);refine⟨r,R1,R2,f2,ZxX ?_⟩;rw[Ya (by omega),e2];exact hf2
  .refine⟨e,T,B.whole (by omega),fr,ZxX ?_⟩;rw[Yb (by omega)]
theorem l_s0(x:Nat)(d0:AR)(c:OkC x d0):∀(n a:Nat) (e:AR) (fr:Bool),d0.size-a<=n->a<=d0.size->OkC x e->Stp (kx x) 0 d0.size d0 e->Ini (kx x) a e->ZjB x d0 (Zap fr e.toList x d0.size 20 a ((a+20:Nat):Int))
 |n,a,e,fr,hn,han,hO,T,M=>by
  have hsz:=c.sz;have hes:=T.size;by_cases h:a+20<=d0.size
  .match n,hn with
   |0,hn=>omega
   |n+1,hn =>
   obtain⟨g,G1,G2,f,hf⟩:=Z0w (x:=x) (a:=a) (b:=a+20) (d:=e) fr hO (by omega) (by omega);obtain⟨r,R1,R2,f2,hf2⟩:=l_s0 x d0 c n (a+20) g f (by omega) h (hO.stp G1 (by omega)) (T.trans (G1.mono (Yd _) h)) (M.next G1 G2);refine⟨r,R1,R2,f2,ZxW ?_⟩;rw[Ya (by omega),wA (by omega) (by omega)];exact⟨_,_,_,hf,by exact_mod_cast hf2⟩
  .obtain⟨g,G1,G2,f,hf⟩:=Z0w (x:=x) (a:=a) (b:=d0.size) (d:=e) fr hO han (by omega);obtain⟨r,R1,R2,f2,hf2⟩:=l_s2 x d0 c _ 20 g f (Yg _) (by omega) (by omega) (hO.stp G1 (by omega)) (T.trans (G1.mono (Yd _) (Yg _))) (M.end_ (by omega) G1 G2);refine⟨r,R1,R2,f2,ZxW ?_⟩;rw[Yb (by omega)];exact⟨_,_,_,hf,hf2⟩
theorem ZBb{x:Nat}{rows:XS}(hl:rows.length<=4096)(hk:∀r∈rows,okC x r):∃fr,Zil rows x=some (.tup [],[.arr 42 1 fr ((Vy x rows).map isc),.box [I x]]):=by
 have hO:OkC x rows.toArray:=⟨by simpa using hl,λi hi=>by
  have hi':i<rows.length:=by simpa using hi
  rw[getElem!_pos rows.toArray i hi]
  exact hk _ (by simp)⟩
 obtain⟨e,S,T,f,hf⟩:=l_s0 x rows.toArray hO _ 0 rows.toArray true (Yg _) (Yd _) hO (.refl _ _ _) (.start _)
 have hc:=S.classes (n:=10) T (λr hr=>by
  have:=hk r (by simpa using hr);unfold okC at this
  omega)
 rw[hc]at hf;refine⟨f,Z7P _ _ _ ⟨_,_,_,Z7O hf,rfl⟩⟩
end Go.Proofs.YtgbipcfdgfjplaaGreat
namespace Go.Proofs.YtgbipcfdgfjplaaGreat
open Go.RowKit Go.Lib
theorem Z0x(x:Int)(w:World):Calls Tryz.prog 347 #[.int .i64 x] w λe w'=>e=.returned (.bool false)/\w'=w:=by
 go_enter Tryz.func347,Tryz.ntmps347
 go_wp2
 go_ret
 exact⟨by simp,rfl⟩
def c3(x y:Int):Int:=if x<y then -1 else if y<x then 1 else 0
theorem ZBc(x y:Int)(w:World):Calls Tryz.prog 326 #[.int .i64 x,.int .i64 y] w λe w'=>e=.returned (.int .i64 (c3 x y))/\w'=w:=by
 have h1:=Z0x x w;have h2:=Z0x y w;by_cases e1:x<y
 .go_enter Tryz.func326,Tryz.ntmps326
  go_wp2_with (first|(refine h1.mono ?_;rintro e w' ⟨rfl,rfl⟩)|(refine h2.mono ?_;rintro e w' ⟨rfl,rfl⟩))
  go_ret
  exact⟨by simp[c3,e1],rfl⟩
 .by_cases e2:y<x
  .go_enter Tryz.func326,Tryz.ntmps326
   go_wp2_with (first|(refine h1.mono ?_;rintro e w' ⟨rfl,rfl⟩)|(refine h2.mono ?_;rintro e w' ⟨rfl,rfl⟩))
   go_ret
   exact⟨by simp[c3,e1,e2],rfl⟩
  .have hc:c3 x y=0:=by unfold c3;rw[if_neg e1,if_neg e2]
   rw[hc];clear hc
   go_enter Tryz.func326,Tryz.ntmps326
   go_wp2_with (first|(refine h1.mono ?_;rintro e w' ⟨rfl,rfl⟩)|(refine h2.mono ?_;rintro e w' ⟨rfl,rfl⟩))
   go_ret
   exact⟨rfl,rfl⟩
def Kk(w:World)(v:Value)(r:List Int):Prop:=∃a c,v=.slice a r.length c/\∀j (h:j<r.length),∃g off,a=some ⟨g,off,none⟩/\w.cell? ⟨g,off+j,none⟩=some (.int .i64 r[j])
theorem ZBd{a b:List Int}{k:Nat}(h1:k<a.length)(h2:k<b.length):Zy (a.drop k) (b.drop k)=if c3 a[k] b[k]=0 then Zy (a.drop (k+1)) (b.drop (k+1))else c3 a[k] b[k]:=by
 rw[List.drop_eq_getElem_cons h1,List.drop_eq_getElem_cons h2]
 conv=>lhs;unfold Zy
 unfold c3;by_cases e1:a[k]<b[k]
 .simp[e1]
 .rw[if_neg e1,if_neg e1];by_cases e2:b[k]<a[k]
  .simp[e2]
  .simp[e2]
theorem ZBe(v1 v2:Value)(a b:List Int)(w:World)(h1:Kk w v1 a)(h2:Kk w v2 b)(c:a.length<2305843009213693952)(cc:b.length<2305843009213693952) :
  Calls Tryz.prog 268 #[v1,v2] w λe w'=>e=.returned (.int .i64 (Zy a b))/\w'=w:=by
 obtain⟨p1,c1,rfl,r1⟩:=h1;obtain⟨p2,c2,rfl,r2⟩:=h2;have mixed:Tryz.prog.follows Departure.mixedOrders=true:=by kernel_rfl
 have hc:=λx y=>ZBc x y w
 generalize hR:Zy a b=R;have HR:Aside (Zy (a.drop 0) (b.drop 0)=R):=hR;clear hR
 go_enter Tryz.func268,Tryz.ntmps268
 go_wp2
 go_loopg [5,6,7,8,11] a.length (λgg _ _ _ _ s11 wr=>∃kk:Nat,kk<=a.length/\a.length-kk<=gg/\s11=.int .i64 kk/\wr=w/\Aside (kk<=b.length)/\Aside (Zy (a.drop kk) (b.drop kk)=R))
 case atStart=>exact⟨0,Nat.zero_le _,by omega,rfl,rfl,Nat.zero_le _,HR⟩
 case round =>
  obtain⟨kk,hkk,hg,rfl,rfl,A,B⟩:=hrel;by_cases hlt:kk<a.length
  .have hltz:(kk:Int)<(a.length:Int):=by omega
   obtain⟨g1,o1,rfl,d1⟩:=r1 kk hlt;by_cases hlb:kk<b.length
   .have hltb:¬(b.length:Int)<=(kk:Int):=by omega
    obtain⟨g2,o2,rfl,d2⟩:=r2 kk hlb;have hs:=ZBd hlt hlb;have hcall:=hc a[kk] b[kk];have S:Aside (Zy (a.drop kk) (b.drop kk)=if c3 a[kk] b[kk]=0 then Zy (a.drop (kk+1)) (b.drop (kk+1))else c3 a[kk] b[kk]):=hs;clear hs hc r1 r2;generalize c3 a[kk] b[kk]=z at hcall S;generalize a[kk]=x at hcall d1;generalize b[kk]=y at hcall d2;by_cases hz:z=0
    .subst hz
     go_wp2_with (refine hcall.mono ?_;rintro e w' ⟨rfl,rfl⟩)
     go_roundg (a.length-(kk+1))
     case measure=>omega
     case rel =>
      refine⟨kk+1,by omega,by omega,by go_num,rfl,(show Aside _ from by show kk+1<=b.length;omega),(show Aside _ from ?_)⟩;have:=S.out;rw[B.out]at this;show Zy (a.drop (kk+1)) (b.drop (kk+1))=R;simpa using this.symm
    .have hr:R=z:=by rw[<-B.out,S.out,if_neg hz]
     go_wp2_with (refine hcall.mono ?_;rintro e w' ⟨rfl,rfl⟩)
     go_ret
     exact⟨by subst hr;rfl,rfl⟩
   .have hltb:(b.length:Int)<=(kk:Int):=by omega
    have hr:R=1:=by
     rw[<-B.out,List.drop_eq_getElem_cons hlt,show b.drop kk=[]from List.drop_of_length_le (by omega)];rfl
    clear hc r2
    go_wp2
    go_ret
    exact⟨by subst hr;rfl,rfl⟩
  .have hltz:¬(kk:Int)<(a.length:Int):=by omega
   have he:kk=a.length:=by omega
   have hA:=A.out;by_cases hlb:(a.length:Int)<(b.length:Int)
   .have hr:R=-1:=by
     rw[<-B.out,he,List.drop_length,List.drop_eq_getElem_cons (l:=b) (i:=a.length) (by omega)];rfl
    clear hc r1 r2
    go_wp2
    go_ret
    exact⟨by subst hr;rfl,rfl⟩
   .have hr:R=0:=by
     rw[<-B.out,he,List.drop_length,show b.drop a.length=[]from List.drop_of_length_le (by omega)];rfl
    clear hc r1 r2
    go_wp2
    go_ret
    exact⟨by subst hr;rfl,rfl⟩
theorem ZBf(v1 v2:Value)(a b:List Int)(w:World)(h1:Kk w v1 a)(h2:Kk w v2 b)(c:a.length<2305843009213693952)(cc:b.length<2305843009213693952) :
  Calls Tryz.prog 205 #[v1,v2] w λe w'=>e=.returned (.int .i64 (Zy a b))/\w'=w:=by
 have hc:=ZBe v1 v2 a b w h1 h2 c cc;generalize Zy a b=R at hc|-;obtain⟨p1,c1,rfl,r1⟩:=h1;obtain⟨p2,c2,rfl,r2⟩:=h2;clear r1 r2
 go_enter Tryz.func205,Tryz.ntmps205
 go_wp2_with (refine hc.mono ?_;rintro e w' ⟨rfl,rfl⟩)
 go_ret
 exact⟨rfl,rfl⟩
end Go.Proofs.YtgbipcfdgfjplaaGreat
namespace Go.Proofs.YtgbipcfdgfjplaaGreat
open Go.RowKit Go.AM
theorem Z0y{w:World}:∀{r:WA} {vs:V3} {fp:V2},TRs w (r.map ic).flatten vs fp->vs=r.map (Value.int .i64)
 |[],vs,fp,h=>by cases h;rfl
 |x::r,vs,fp,h=>by
  rw[Yw,Yba]at h;change TRs w (T.int .i64 x::(r.map ic).flatten) vs fp at h
  cases h with
  |cons h hs =>
   cases h;rw[Yw,<-Z0y hs]
theorem ZjC{w W:World}{r:WA}{v:Value}{fp:V2}(h:TR w (.lst 1 (r.map ic)) v fp)(hW:∀g∈fp,W.heap[g]?=w.heap[g]?):Kk W v r:=by
 have h:=h.frame hW;generalize he:r.map ic=es at h
 cases h with
 |lst0 sz a cap =>
  have:r=[]:=List.map_eq_nil_iff.1 he
  subst this
  exact⟨a,cap,rfl,λj hj=>absurd hj (Nat.not_lt_zero _)⟩
 |@lst sz es g off cap c e fz fp hne hsz hcap hg hlen hc =>
  subst he;have hv:=Z0y hc;refine⟨some ⟨g,off,none⟩,cap,by rw[Y6],λj hj=>⟨g,off,rfl,?_⟩⟩;have h1:((c.toList.drop off).take ((r.map ic).length*1))[j]?=some (.int .i64 r[j]):=by
   rw[hv,Ych,Yi hj];rfl
  rw[Ybh,Ya (by rw[Y6];omega),Yde]at h1;unfold World.cell?;rw[hg];simpa using h1
end Go.Proofs.YtgbipcfdgfjplaaGreat
namespace Go.Proofs.YtgbipcfdgfjplaaGreat
open Go.RowKit Go.Lib
theorem dropEq{a b:List Int}{k:Nat}(h1:k<a.length)(h2:k<b.length):decide (a.drop k=b.drop k)=(decide (a[k]=b[k]) && decide (a.drop (k+1)=b.drop (k+1))):=by
 rw[Bool.eq_iff_iff];simp only[Bool.and_eq_true,decide_eq_true_eq];rw[List.drop_eq_getElem_cons h1,List.drop_eq_getElem_cons h2,List.cons.injEq]
theorem ZBg(v1 v2:Value)(a b:List Int)(w:World)(h1:Kk w v1 a)(h2:Kk w v2 b)(c:a.length<2305843009213693952)(cc:b.length<2305843009213693952) :
  Calls Tryz.prog 111 #[v1,v2] w λe w'=>e=.returned (.bool (decide (a=b)))/\∃q,w'=w.drewN q:=by
 obtain⟨p1,c1,rfl,r1⟩:=h1;obtain⟨p2,c2,rfl,r2⟩:=h2;have mixed:Tryz.prog.follows Departure.mixedOrders=true:=by kernel_rfl
 by_cases hlen:a.length=b.length
 .obtain⟨n,hna⟩:∃n:Nat,a.length=n:=⟨_,rfl⟩;have hnb:b.length=n:=by omega
  rw[hna,hnb];have HN:Aside (a.length=n/\b.length=n):=⟨hna,hnb⟩;have hln:n<2305843009213693952:=by omega
  clear hna hnb hlen c cc;generalize hR:decide (a=b)=R;have HR:Aside (decide (a.drop 0=b.drop 0)=R):=hR;clear hR
  go_enter Tryz.func111,Tryz.ntmps111
  go_wp2
  go_loopg [5,13] n (λgg _ s13 wr=>∃kk q:Nat,kk<=n/\n-kk<=gg/\s13=.int .i64 kk/\wr=w.drewN q/\Aside (a.length=n/\b.length=n)/\Aside (decide (a.drop kk=b.drop kk)=R))
  case atStart=>exact⟨0,0,Nat.zero_le _,by omega,rfl,rfl,HN,HR⟩
  case round =>
   obtain⟨kk,q,hkk,hg,rfl,rfl,A,B⟩:=hrel;have hA:=A.out;obtain⟨hA1,hA2⟩:=hA;by_cases hltn:kk<n
   .have hltz:(kk:Int)<(n:Int):=by omega
    have hlta:kk<a.length:=by omega
    have hlt:kk<b.length:=by omega
    obtain⟨g1,o1,rfl,d1⟩:=r1 kk hlta;obtain⟨g2,o2,rfl,d2⟩:=r2 kk hlt;have S:Aside (decide (a.drop kk=b.drop kk)=(decide (a[kk]=b[kk]) && decide (a.drop (kk+1)=b.drop (kk+1)))):=by
     exact dropEq hlta hlt
    clear r1 r2 hA1 hA2;generalize a[kk]=x at d1 S;generalize b[kk]=y at d2 S;by_cases hz:x=y
    .subst hz
     go_wp2_with fail
     go_region_o
     go_wp2
     go_roundg (n-(kk+1))
     case measure=>omega
     case rel =>
      refine⟨kk+1,q+1,by omega,by omega,by go_num,rfl,A,(show Aside _ from ?_)⟩;have:=S.out;rw[B.out]at this;show decide (a.drop (kk+1)=b.drop (kk+1))=R;simpa using this.symm
    .have hr:R=false:=by rw[<-B.out,S.out];simp[hz]
     go_wp2_with fail
     go_region_o
     go_wp2
     go_ret
     exact⟨by subst hr;rfl,q+1,rfl⟩
   .have hltz:¬(kk:Int)<(n:Int):=by omega
    have hr:R=true:=by
     rw[<-B.out,show b.drop kk=[]from List.drop_of_length_le (by omega),show a.drop kk=[]from List.drop_of_length_le (by omega)];simp
    clear r1 r2 hA1 hA2
    go_wp2
    go_ret
    exact⟨by subst hr;rfl,q,rfl⟩
 .have hne:decide (a=b)=false:=by
   rw[decide_eq_false_iff_not];intro e;exact hlen (by rw[e])
  have hlz:¬(a.length:Int)=(b.length:Int):=by omega
  rw[hne];clear hne r1 r2
  go_enter Tryz.func111,Tryz.ntmps111
  go_wp2
  go_ret
  exact⟨rfl,0,rfl⟩
theorem ZBh(v1 v2:Value)(a b:List Int)(w:World)(h1:Kk w v1 a)(h2:Kk w v2 b)(c:a.length<2305843009213693952)(cc:b.length<2305843009213693952) :
  Calls Tryz.prog 207 #[v1,v2] w λe w'=>e=.returned (.bool (decide (a=b)))/\∃q,w'=w.drewN q:=by
 have hc:=ZBg v1 v2 a b w h1 h2 c cc;generalize decide (a=b)=R at hc|-;obtain⟨p1,c1,rfl,r1⟩:=h1;obtain⟨p2,c2,rfl,r2⟩:=h2;clear r1 r2
 go_enter Tryz.func207,Tryz.ntmps207
 go_wp2_with (refine hc.mono ?_;rintro e w' ⟨rfl,q,rfl⟩)
 go_ret
 exact⟨rfl,q,rfl⟩
end Go.Proofs.YtgbipcfdgfjplaaGreat
namespace Go.Proofs.YtgbipcfdgfjplaaGreat
theorem V7:∀a b:List Int,Zy b a=- Zy a b
 |[],[]=>rfl
 |[],_::_=>rfl
 |_::_,[]=>rfl
 |x::a,y::b=>by
  have ih:=V7 a b;simp only[Zy];by_cases h1:x<y
  .rw[if_neg (by omega),if_pos h1,if_pos h1];rfl
  .by_cases h2:y<x
   .rw[if_pos h2,if_neg h1,if_pos h2]
   .rw[if_neg h2,if_neg h1,if_neg h1,if_neg h2];exact ih
theorem Jq:∀a b:List Int,Zy a b=0->a=b
 |[],[],_=>rfl
 |[],_::_,h=>by simp[Zy]at h
 |_::_,[],h=>by simp[Zy]at h
 |x::a,y::b,h=>by
  simp only[Zy]at h;by_cases h1:x<y
  .rw[if_pos h1]at h;cases h
  .rw[if_neg h1]at h;by_cases h2:y<x
   .rw[if_pos h2]at h;cases h
   .rw[if_neg h2]at h;rw[Jq a b h,show x=y by omega]
theorem Zd1(a:List Int):Zy a a=0:=by have:=V7 a a;omega
theorem Zbf:∀a b c:List Int,Zy a b<=0->Zy b c<=0->Zy a c<=0
 |[],_,[],_,_=>by simp[Zy]
 |[],_,_::_,_,_=>by simp[Zy]
 |_::_,[],_,h,_=>by simp[Zy]at h
 |_::_,_::_,[],_,h=>by simp[Zy]at h
 |x::a,y::b,z::c,h1,h2=>by
  simp only[Zy]at h1 h2|-;by_cases e1:x<y
  .by_cases e2:y<z
   .rw[if_pos (by omega)];decide
   .rw[if_neg e2]at h2;by_cases e3:z<y
    .rw[if_pos e3]at h2;exact absurd h2 (by decide)
    .rw[if_pos (by omega)];decide
  .rw[if_neg e1]at h1;by_cases e2:y<x
   .rw[if_pos e2]at h1;exact absurd h1 (by decide)
   .rw[if_neg e2]at h1
    have:x=y:=by omega
    subst this;by_cases e3:x<z
    .rw[if_pos e3];decide
    .rw[if_neg e3]at h2|-;by_cases e4:z<x
     .rw[if_pos e4]at h2;exact absurd h2 (by decide)
     .rw[if_neg e4]at h2|-;exact Zbf a b c h1 h2
theorem ZBi(a b c:List Int)(h1:leR a b=true)(h2:leR b c=true):leR a c=true:=by
 unfold leR at *
 simp only[decide_eq_true_eq]at *
 exact Zbf a b c h1 h2
theorem ZBj(a b:List Int):(leR a b || leR b a)=true:=by
 unfold leR;have:=V7 a b;simp only[Bool.or_eq_true,decide_eq_true_eq];omega
theorem ZBk(a b:List Int)(h1:leR a b=true)(h2:leR b a=true):a=b:=by
 unfold leR at *
 simp only[decide_eq_true_eq]at *
 have:=V7 a b;exact Jq a b (by omega)
theorem Zd2(rows:List (List Int)):(VW rows).Perm rows:=List.mergeSort_perm _ _
theorem Z0z(rows:List (List Int)):(VW rows).Pairwise λa b=>leR a b=true:=List.pairwise_mergeSort ZBi ZBj rows
theorem ZBl{rows l:List (List Int)}(hp:l.Perm rows)(hs:l.Pairwise λa b=>leR a b=true):l=VW rows :=
 List.Perm.eq_of_pairwise (λa b _ _=>ZBk a b) hs (Z0z rows) (hp.trans (Zd2 rows).symm)
theorem ZjD:∀(l:List (List Int)) (y:List Int),y∈Wj l↔y∈l
 |[],y=>by simp[Wj]
 |[a],y=>by simp[Wj]
 |a::b::l,y=>by
  unfold Wj;have ih:=ZjD (b::l) y;split
  .rename_i e;subst e;rw[ih];simp
  .rw[List.mem_cons,ih];simp
theorem Z00:∀l:List (List Int),(Wj l).length<=l.length
 |[]=>Nat.le_refl _
 |[a]=>Nat.le_refl _
 |a::b::l=>by
  unfold Wj;have:=Z00 (b::l);split
  .exact Nat.le_trans this (Nat.le_succ _)
  .exact Nat.succ_le_succ this
end Go.Proofs.YtgbipcfdgfjplaaGreat
namespace Go.Proofs.YtgbipcfdgfjplaaGreat
open Go.RowKit Go.AM Go.Lib Go.Sort
def Z01:Prop:=∀(α:Type) [Inhabited α] (enc:α->Value) (_:OneCell enc) (cf:α->α->Int) (_:SWO (ltOf cf)) (blk off cap:Nat) (d:Array α) (w:World),CmpLays1 Tryz.prog 205 #[] enc cf blk off d.size w->Holds enc w blk off d->blk<w.heap.size->d.size<4611686018427387904->
 Calls Tryz.prog 204 #[.slice (some ⟨blk,off,none⟩) d.size cap,.func (.func 205) #[] #[]] w λe w'=>e=.returned (.tuple #[])/\∃d' n os,PermIn 0 d.size d d'/\SortedIn (ltOf cf) 0 d.size d'/\w'=sortWorld enc w blk off n d' os
def Z02:Prop:=∀(p:Option Addr) (cap:Nat) (w:World),Calls Tryz.prog 204 #[.slice p 0 cap,.func (.func 205) #[] #[]] w λe w'=>e=.returned (.tuple #[])/\w'=w
def El(w:World)(g:Nat):Type:={p:WA×Value×V2 // TR w (.lst 1 (p.1.map ic)) p.2.1 p.2.2/\(∀x∈p.2.2,x≠g)/\p.1.length<=4}
instance (w:World) (g:Nat):Inhabited (El w g):=⟨⟨([],.slice none 0 0,[]),.lst0 1 none 0,by simp,by simp⟩⟩
def El.enc{w:World}{g:Nat}(x:El w g):Value:=x.1.2.1
def El.row{w:World}{g:Nat}(x:El w g):WA:=x.1.1
def El.tri{w:World}{g:Nat}(x:El w g):XS×Value×V2:=([x.1.1],x.1.2.1,x.1.2.2)
def El.t3{w:World}{g:Nat}(x:El w g):V4×V3×V2:=(isc x.row,[x.enc],x.1.2.2)
theorem El.list{w:World}{g:Nat}:∀l:List (V4×V3×V2),(∀p∈l,∃q:El w g,q.t3=p)->∃L:List (El w g),L.map El.t3=l
 |[],_=>⟨[],rfl⟩
 |p::l,h=>by
  obtain⟨q,hq⟩:=h p (by simp);obtain⟨L,hL⟩:=El.list l λp hp=>h p (by simp[hp])
  exact⟨q::L,by simp[hq,hL]⟩
def cfE{w:World}{g:Nat}(x y:El w g):Int:=Zy x.row y.row
theorem swoE{w:World}{g:Nat}:SWO (ltOf (cfE (w:=w) (g:=g))) where
 irrefl x:=by unfold ltOf cfE;rw[Zd1];rfl
 trans x y z h1 h2:=by
  unfold ltOf cfE at *
  simp only[decide_eq_true_eq]at *
  have h3:=Zbf _ _ _ (Int.le_of_lt h1) (Int.le_of_lt h2);have h4:=V7 x.row z.row;have h5:=V7 y.row z.row;rcases Yd7 h3 with h|h
  .exact h
  .have:=Jq _ _ h;rw[this]at h1;omega
 ntrans x y z h1 h2:=by
  unfold ltOf cfE at *
  simp only[decide_eq_false_iff_not]at *
  have h3:=V7 x.row y.row;have h4:=V7 y.row z.row;have h5:=V7 x.row z.row;have:=Zbf z.row y.row x.row (by omega) (by omega);omega
theorem ZjE{α:Type}[Inhabited α](enc:α->Value)(w:World)(blk off n:Nat)(d:Array α)(os:Array Obj){k:Nat}(hk:k<w.heap.size)(c:k≠blk):(sortWorld enc w blk off n d os).heap[k]?=w.heap[k]?:=by
 show((w.heap.modify blk (onCells (putCells enc off d)))++os)[k]?=_;rw[Yeb (by simpa using hk),Yds,Yb (Ne.symm c)]
theorem Z03{α:Type}[Inhabited α](enc:α->Value)(w:World)(blk off n:Nat)(d:Array α)(os:Array Obj){c:Array Value}{e:TypeId}{fz:Nat×Nat}(hg:w.heap[blk]?=some (.cells c e fz)):(sortWorld enc w blk off n d os).heap[blk]?=some (.cells (putCells enc off d c) e fz):=by
 have hk:blk<w.heap.size:=(Ycd.1 hg).1;show((w.heap.modify blk (onCells (putCells enc off d)))++os)[blk]?=_;rw[Yeb (by simpa using hk),Yds,Ya rfl,hg];rfl
theorem ZBm(w:World)(g size:Nat):CmpLays1 Tryz.prog 205 #[] (El.enc (w:=w) (g:=g)) cfE g 0 size w:=by
 intro m os dk hs x y;have hx:=ZjC (W:=sortWorld El.enc w g 0 m dk os) x.2.1 λk hk=>ZjE _ _ _ _ _ _ _ (x.2.1.lt k hk) (x.2.2.1 k hk)
 have hy:=ZjC (W:=sortWorld El.enc w g 0 m dk os) y.2.1 λk hk=>ZjE _ _ _ _ _ _ _ (y.2.1.lt k hk) (y.2.2.1 k hk)
 have h4:=x.2.2.2;have h5:=y.2.2.2;refine(ZBf x.enc y.enc x.row y.row _ hx hy (by unfold El.row;omega) (by unfold El.row;omega)).mono ?_;rintro e w' ⟨rfl,rfl⟩;exact⟨rfl,0,#[],by simp[grow,World.drewN]⟩
end Go.Proofs.YtgbipcfdgfjplaaGreat
namespace Go.Proofs.YtgbipcfdgfjplaaGreat
open Go.RowKit Go.AM Go.Lib Go.Sort
theorem Z04{w:World}{g:Nat}{r:WA}{z:V3}{f:V2}(h:TRs w (isc r) z f)(hf:∀x∈f,x≠g)(hr:r.length<=4):∃q:El w g,q.t3=(isc r,z,f):=by
 unfold isc at h
 cases h with
 |@cons t v fp ts vs fq h hs =>
  cases hs;rw[Ybd]at hf|-;exact⟨⟨(r,v,fp),h,hf,hr⟩,rfl⟩
theorem Zqz{a b:WA}(h:isc a=isc b):a=b:=by
 unfold isc at h;simp only[List.cons.injEq,T.lst.injEq,true_and,and_true]at h;exact(Ydt (f:=ic) (by intro x y hxy;simpa[ic]using hxy)).1 h
theorem ZjF{α:Type}[Inhabited α](enc:α->Value)(d:Array α)(c:Array Value)(h:d.size<=c.size):(putCells enc 0 d c).toList=d.toList.map enc++c.toList.drop d.size:=by
 refine Yca (by simp[putCells];omega) λi h1 h2=>?_
 have hi:i<c.size:=by simpa[putCells]using h1
 simp only[putCells,Yd6,Array.getElem_mapIdx];by_cases e:i<d.size
 .rw[Ya (by omega),List.getElem_append_left (by simpa using e)];simp[e]
 .rw[Yb (by omega),List.getElem_append_right (by simp;omega)];simp;congr 1;omega
theorem ZjG{w:World}{g:Nat}:∀L:List (El w g),((L.map El.t3).map (·.2.1)).flatten=L.map El.enc
 |[]=>rfl
 |x::L=>by
  have ih:=ZjG L;simp only[Yw,Yba]at ih|-;rw[ih];rfl
theorem Z05{w:World}{g:Nat}(L:List (El w g)):(L.map El.t3).map (·.1)=(L.map El.row).map isc:=by simp[El.t3]
theorem ZBn(K:Z01)(K0:Z02){fr:Bool}{rows:XS}(cd:rows.length<=4096)(cc:∀r∈rows,r.length<=4) :
  Xg Tryz.prog 204 [.own 0,.fn 205 []] [.arr 42 1 fr (rows.map isc)] (.tup []) [.arr 42 1 fr ((VW rows).map isc)]:=by
 refine⟨by decide +kernel,?_⟩;intro N base w ρ vs R hdom hv hz;obtain⟨l⟩:=vs;simp only at hv
 cases hv with|cons q0 hv =>
 cases hv with|cons q1 hv =>
 cases hv
 cases q0 with|own hr h1 =>
 rename_i r
 cases q1 with|fn q1 =>
 rename_i c;obtain⟨c⟩:=c;simp only at q1;cases q1;have hb:gt [Blk.arr 42 1 fr (rows.map isc)] 0=.arr 42 1 fr (rows.map isc):=by simp[gt]
 have hd0:gt [Blk.arr 42 1 fr (rows.map isc)] 0≠.dead:=by rw[hb];intro hc;cases hc
 obtain⟨r2,e1,e2⟩:=R.blk 0 hd0;rw[hr]at e1;cases e1;rw[hb]at e2;obtain⟨hex,e',xs,hel,ho,hsz,hlen1,htr,hfree,hfr,how⟩:=e2;obtain⟨hxl,ho⟩:=ho;rcases ho with⟨hrv,hn⟩|⟨g,cap,cur,hrv,hbg,hg,hcap,hcm,hcur,htake⟩
 .have hn:rows=[]:=by simpa using hn
  subst hn;rw[hrv];refine(K0 none 0 w).mono ?_;rintro e w' ⟨rfl,rfl⟩;exact⟨_,ρ,rfl,Below.refl _ _,by simpa[VW]using R,.tup .nil,hdom,by simp,λ_ _ _=>rfl,λg hg hzz=>⟨by simpa[VW]using hz g hzz,rfl⟩,λb r0 _ h=>⟨r0,h,rfl⟩⟩
 obtain⟨zs,hzx,hch⟩:=Ch.of htr;obtain⟨l,p1,p2,p3,p4⟩:=hch.zip;have hblk:ZF r.v=some g:=by rw[hrv];rfl
 have hfg:∀x∈r.fp,x≠g:=λx hx e=>by
  subst e;exact(hfree x hx).2 0 r hr hd0 (.inl hblk)
 have hgs:g<w.heap.size:=(Ycd.1 hg).1
 obtain⟨L,hL⟩:=El.list (w:=w) (g:=g) l (by
  intro p hp;have hm:p.1∈rows.map isc:=by rw[<-p1];exact Y2.2 ⟨p,hp,rfl⟩
  obtain⟨r0,hr0,e0⟩:=Y2.1 hm;have ht:=p4 p hp;rw[<-e0]at ht;obtain⟨q,hq⟩:=Z04 (g:=g) ht (λx hx=>hfg x (by rw[<-p3];exact Yc2.2 ⟨p.2.2,Y2.2 ⟨p,hp,rfl⟩,hx⟩)) (cc r0 hr0)
  exact⟨q,by rw[hq,e0]⟩)
 subst hL;have hrows:L.map El.row=rows:=by
  have:(L.map El.row).map isc=rows.map isc:=by rw[<-p1];simp[El.t3]
  exact(Ydt (λa b h=>Zqz h)).1 this
 have hLl:L.length=rows.length:=by rw[<-hrows,Y6]
 have henc:L.map El.enc=cur.toList.take ((rows.map isc).length*1):=by
  rw[htake,<-hzx,<-p2];simp[El.t3];clear p1 p2 p3 p4 hrows hLl
  induction L with
  |nil=>rfl
  |cons x L ih=>simp[ih];rfl
 have hcell:Holds El.enc w g 0 L.toArray:=by
  intro j hj;have hj':j<L.length:=by simpa using hj
  have h2:cur[j]?=some (L[j].enc):=by
   have h3:(cur.toList.take ((rows.map isc).length*1))[j]?=some (L[j].enc):=by rw[<-henc,Ych,Yi hj'];rfl
   rw[Ybh,Ya (by simp;omega)]at h3;simpa using h3
  refine⟨?_,?_⟩
  .unfold World.cell?;rw[hg];simp[h2,hj']
  .simp[World.frozen?,hg]
 have hcall:=K (El w g) El.enc (λx=>x.2.1.one) cfE swoE g 0 cap L.toArray w (ZBm w g _) hcell hgs (by simp;omega);rw[hrv,show(rows.map isc).length=L.toArray.size by simp[hLl]];refine hcall.mono ?_;rintro e w' ⟨rfl,d',n,os,hP,hS,rfl⟩;have hds:d'.size=L.length:=by have:=hP.1;simpa using this
 have hperm:d'.toList.Perm L:=by
  have:=hP.2.2;rw[show L.toArray.size=d'.size from hP.1.symm,Array.extract_size]at this;rw[hP.1,Array.extract_size]at this;simpa using this
 have hgr:w.grownBy (sortWorld El.enc w g 0 n d' os) (some g):=⟨rfl,rfl,rfl,by show w.heap.size<=((w.heap.modify g _)++os).size;simp,λk hk hne=>ZjE _ _ _ _ _ _ _ hk (by intro e;exact hne (by rw[e]))⟩;have hpl:(d'.toList.map El.t3).Perm (L.map El.t3):=hperm.map _
 obtain⟨P1,P2,P3⟩:=Zs4 R hr (by intro b hb;exact hdom b (by simpa using hb)) hrv hg p1 (by rw[p2,hzx,htake]) p3 p4 hpl ⟨_,Z03 _ _ _ _ _ _ _ hg,by
  rw[ZjF _ _ _ (by simp at hcap;omega),ZjG,hds,hLl];simp⟩ hgr
 have hsd:(d'.toList.map El.row)=VW rows:=by
  refine ZBl (by rw[<-hrows];exact hperm.map _) ?_;rw[List.pairwise_map,Yci];intro i j hi hj hij;have h:=hS i j (Yd _) hij (by simp at hj|-;omega);rw[getElem!_pos d' j (by simpa using hj),getElem!_pos d' i (by simpa using hi)]at h;unfold ltOf cfE at h;unfold leR;simp only[decide_eq_false_iff_not,decide_eq_true_eq,Yd6]at h|-;have:=V7 d'[i].row d'[j].row;omega
 rw[Z05,hsd]at P1 P2;refine⟨_,_,rfl,⟨hgr.os,hgr.tape,hgr.output,hgr.size,λk hk=>hgr.block k (Yco hk R.hb) (by intro e;cases e;omega)⟩,P1,.tup .nil,λb hb=>?_,by simp,P3,λk hk hzz=>P2.free k hk (hz k hzz),λb r0 hb h0=>P2.root b r0 h0⟩;simp only[updM];rw[Yb (by simp at hb;omega)];exact hdom b (by simpa using hb)
end Go.Proofs.YtgbipcfdgfjplaaGreat
namespace Go.Proofs.YtgbipcfdgfjplaaGreat
open Go.Sort
section
variable{α β:Type}[Inhabited α][DecidableEq β](f:α->β)
def nbk(p:α):List α->List α
 |[]=>[]
 |x::l=>if f x=f p then nbk x l else x::nbk x l
def nb:List α->List α
 |[]=>[]
 |x::l=>x::nbk f x l
omit [Inhabited α] in
theorem Z06:∀(l:List α) (p y:α),nbk f p (l++[y])=nbk f p l++if f y=f (l.getLastD p)then[]else[y]
 |[],p,y=>by by_cases h:f y=f p<;>simp[nbk,h]
 |x::l,p,y=>by
  rw[List.cons_append,nbk,nbk,Z06 l x y,List.getLastD_cons];split<;>rfl
omit [Inhabited α] in
theorem ZBo:∀(l:List α) (p y:α),l≠[]->nb f (l++[y])=nb f l++if f y=f (l.getLastD p)then[]else[y]
 |[],p,y,h=>absurd rfl h
 |x::l,p,y,_=>by
  rw[List.cons_append,nb,nb,Z06,List.getLastD_cons];rfl
omit [Inhabited α] in
theorem Zq0:∀(l:List α) (p:α),(nbk f p l).Sublist l
 |[],p=>.slnil
 |x::l,p=>by
  rw[nbk];split
  .exact(Zq0 l x).cons _
  .exact(Zq0 l x).cons_cons _
omit [Inhabited α] in
theorem nb_sub:∀l:List α,(nb f l).Sublist l
 |[]=>.slnil
 |x::l=>(Zq0 f l x).cons_cons _
theorem ZjH{l:List α}{m:Nat}(h0:0<m)(h:m<l.length):nb f (l.take (m+1))=nb f (l.take m)++if f l[m]! = f l[m-1]! then[]else[l[m]!]:=by
 have hl:(l.take m).getLastD default=l[m-1]:=by
  rw[List.getLastD_eq_getLast?,List.getLast?_take,if_neg (by omega),List.getElem?_eq_getElem (show m-1<l.length by omega)];rfl
 rw[List.take_succ_eq_append_getElem h,ZBo f _ default _ (by intro e;have:=congrArg List.length e;rw[List.length_take,List.length_nil]at this;omega),hl,getElem!_pos l m h,getElem!_pos l (m-1) (by omega)]
structure WP (d:Array α) (m k:Nat) (e:Array α):Prop where
 len:(nb f (d.toList.take m)).length=k
 lt:k<m
 row:e.toList=nb f (d.toList.take m)++d.toList.drop k
omit [Inhabited α] in
theorem WP.size{d e:Array α}{m k:Nat}(I:WP f d m k e)(hm:m<=d.size):e.size=d.size:=by
 have h1:=I.lt;rw[<-Array.length_toList,I.row,List.length_append,I.len,List.length_drop,Array.length_toList];omega
theorem WP.read{d e:Array α}{m k:Nat}(I:WP f d m k e)(hm:m<=d.size){j:Nat}(hj:k<=j)(hd:j<d.size):e[j]! = d[j]!:=by
 have hs:=I.size f hm;have h:=I.len;have h2:e.toList[j]?=d.toList[j]?:=by
  rw[I.row,List.getElem?_append_right (by omega),List.getElem?_drop,h];congr 1;omega
 rw[getElem!_pos e j (by omega),getElem!_pos d j hd];rw[Array.getElem?_toList,Array.getElem?_toList,Array.getElem?_eq_getElem (by omega),Array.getElem?_eq_getElem hd]at h2;exact Option.some.inj h2
theorem Jr(d:Array α)(j:Nat):d.toList[j]! = d[j]!:=by simp[Array.getElem!_eq_getD,Array.getD_eq_getD_getElem?]
theorem WP.start{d:Array α}{k:Nat}(h0:0<k)(hk:k<d.size)(ha:nb f (d.toList.take k)=d.toList.take k)(he:f d[k]! = f d[k-1]!):WP f d (k+1) k d:=by
 have h:=ZjH f h0 (show k<d.toList.length from hk);rw[Jr,Jr,if_pos he,List.append_nil,ha]at h;refine⟨?_,Nat.lt_succ_self _,?_⟩
 .rw[h,List.length_take,Array.length_toList];omega
 .rw[h,List.take_append_drop]
theorem WP.skip{d e:Array α}{m k:Nat}(I:WP f d m k e)(hm:m<d.size)(he:f d[m]! = f d[m-1]!):WP f d (m+1) k e:=by
 have hl:=I.lt;have h:=ZjH f (show 0<m by omega) (show m<d.toList.length from hm);rw[Jr,Jr,if_pos he,List.append_nil]at h;exact⟨by rw[h];exact I.len,by omega,by rw[h];exact I.row⟩
theorem WP.keep{d e:Array α}{m k:Nat}(I:WP f d m k e)(hm:m<d.size)(he:¬f d[m]! = f d[m-1]!):WP f d (m+1) (k+1) (e.setIfInBounds k d[m]!):=by
 have hl:=I.lt;have hn:=I.len;have h:=ZjH f (show 0<m by omega) (show m<d.toList.length from hm);rw[Jr,Jr,if_neg he]at h;refine⟨by rw[h,List.length_append,hn];rfl,by omega,?_⟩;rw[Array.toList_setIfInBounds,I.row,h,List.set_append_right _ _ (by omega),hn,Nat.sub_self,List.drop_eq_getElem_cons (show k<d.toList.length by rw[Array.length_toList];omega),List.set_cons_zero];simp
omit [Inhabited α] in
theorem WP.fill{d e:Array α}{k:Nat}(I:WP f d d.size k e)(z:α):(Lib.lay e k (List.replicate (d.size-k) z)).toList=nb f d.toList++List.replicate (d.size-k) z:=by
 have hs:=I.size f (Nat.le_refl _);have hl:=I.lt;have hr:=I.row;have hn:=I.len;rw[show d.toList.take d.size=d.toList from List.take_of_length_le (by simp)]at hr hn;apply List.ext_getElem?;intro j;rw[Array.getElem?_toList,Lib.lay_get? _ _ _ _ (by simp;omega),List.length_replicate];by_cases h1:j<k
 .rw[if_neg (by omega),List.getElem?_append_left (by omega),<-Array.getElem?_toList,hr,List.getElem?_append_left (by omega)]
 .rw[List.getElem?_append_right (by omega),hn];by_cases h2:j<d.size
  .rw[if_pos (by omega)]
  .rw[if_neg (by omega),Array.getElem?_eq_none (by omega),List.getElem?_eq_none (by simp;omega)]
theorem ZBp{d:Array α}{k:Nat}(h0:0<k)(hk:k<d.size)(ha:nb f (d.toList.take k)=d.toList.take k)(he:¬f d[k]! = f d[k-1]!):nb f (d.toList.take (k+1))=d.toList.take (k+1):=by
 have h:=ZjH f h0 (show k<d.toList.length from hk);rw[Jr,Jr,if_neg he,ha]at h;rw[h,List.take_succ_eq_append_getElem (show k<d.toList.length from hk)];simp[getElem!_pos,hk]
omit [Inhabited α] in
theorem nb_one{d:Array α}(h:d.size<=1):nb f d.toList=d.toList:=by
 obtain⟨l⟩:=d
 match l with
 |[]=>rfl
 |[a]=>rfl
 |a::b::l=>simp at h
omit [Inhabited α] in
theorem ZBq(d:Array α):nb f (d.toList.take 1)=d.toList.take 1:=by
 obtain⟨l⟩:=d
 cases l with
 |nil=>rfl
 |cons a l=>simp[nb,nbk]
end
theorem Z07{α:Type}(f:α->List Int):∀l:List α,(nb f l).map f=Wj (l.map f)
 |[]=>rfl
 |[a]=>rfl
 |a::b::l=>by
  have ih:=Z07 f (b::l);rw[nb]at ih;rw[nb,nbk,List.map_cons,List.map_cons,List.map_cons,Wj];rw[List.map_cons,List.map_cons]at ih;by_cases e:f b=f a
  .rw[if_pos e,if_pos e.symm,<-ih,e]
  .rw[if_neg e,if_neg (λh=>e h.symm),<-ih];rfl
end Go.Proofs.YtgbipcfdgfjplaaGreat
namespace Go.Proofs.YtgbipcfdgfjplaaGreat
open Go.RowKit Go.AM Go.Lib Go.Sort
theorem Z08{α:Type}[Inhabited α](enc:α->Value)(w:World)(c off n:Nat)(d:Array α){k:Nat}(cc:k≠c):(putRow enc (Sort.ahead w n) c off d).heap[k]?=w.heap[k]?:=by
 show(w.heap.modify c (onCells (putCells enc off d)))[k]?=_;rw[Yds,Yb (Ne.symm cc)]
theorem ZjI{w:World}{g q n:Nat}{d:Array (El w g)}:(putRow El.enc (Sort.ahead w q) g 0 d).drewN n=putRow El.enc (Sort.ahead w (q+n)) g 0 d:=by
 simp[putRow,mapBlock,Sort.ahead,World.drewN,Ydg]
theorem Z09{w wr:World}{g:Nat}(c:∀k,k≠g->wr.heap[k]?=w.heap[k]?)(x y:El w g)(n:Nat) :
  Calls Tryz.prog 207 #[x.enc,y.enc] (wr.drewN n) λr w'=>r=.returned (.bool (decide (x.row=y.row)))/\∃p,w'=(wr.drewN n).drewN p:=by
 have hx:=ZjC (W:=wr.drewN n) x.2.1 λk hk=>c k (x.2.2.1 k hk)
 have hy:=ZjC (W:=wr.drewN n) y.2.1 λk hk=>c k (y.2.2.1 k hk)
 have h4:=x.2.2.2;have h5:=y.2.2.2;exact ZBh x.enc y.enc x.row y.row _ hx hy (by unfold El.row;omega) (by unfold El.row;omega)
theorem El.one{w:World}{g:Nat}(x:El w g):x.enc.oneCell'=true:=x.2.1.one
theorem put_at{w w':World}{g q kk:Nat}{dk:Array (El w g)}{z:El w g}{x:Value}(hk:kk<dk.size)(hw:w'=putRow El.enc (Sort.ahead w q) g 0 dk)(hx:El.enc z=x):w'.setCell ⟨g,kk,none⟩ x=putRow El.enc (Sort.ahead w q) g 0 (dk.setIfInBounds kk z):=by
 subst hw;subst hx;have:=putRow_set El.enc (Sort.ahead w q) g 0 dk kk z hk
 rwa [Yq]at this
theorem ZBr{w wr:World}{g q kk:Nat}{d dk:Array (El w g)}(f:El w g->WA)(I:WP f d d.size kk dk)(z:El w g)(hw:wr=putRow El.enc (Sort.ahead w q) g 0 dk):wr.setCells g kk (List.replicate (d.size-kk) z.enc)=putRow El.enc (Sort.ahead w q) g 0 (nb f d.toList++List.replicate (d.size-kk) z).toArray:=by
 subst hw;have hs:=I.size f (Yg _);have hl:=I.lt;have:=putRow_setCells El.enc (Sort.ahead w q) g 0 (List.replicate (d.size-kk) z) dk kk (by simp;omega);rw[Yq,Ydo]at this;rw[this];congr 1;rw[<-I.fill f z]
theorem ZBs(w:World):Calls Tryz.prog 206 #[.slice none 0 0,.func (.func 207) #[] #[]] w λe w'=>e=.returned (.slice none 0 0)/\w'=w:=by
 have mixed:Tryz.prog.follows Departure.mixedOrders=true:=by kernel_rfl
 go_enter Tryz.func206,Tryz.ntmps206
 go_wp2
 go_ret
 exact⟨rfl,rfl⟩
theorem ZBt{w:World}{g:Nat}(cap:Nat)(d:Array (El w g))(hH:Holds El.enc w g 0 d)(cc:d.size<=4096)(c:d.size<=cap) :
  Calls Tryz.prog 206 #[.slice (some ⟨g,0,none⟩) d.size cap,.func (.func 207) #[] #[]] w λe w'=>e=.returned (.slice (some ⟨g,0,none⟩) (nb El.row d.toList).length cap)/\
   ∃q,w'=putRow El.enc (Sort.ahead w q) g 0 (nb El.row d.toList++List.replicate (d.size-(nb El.row d.toList).length) default).toArray:=by
 have mixed:Tryz.prog.follows Departure.mixedOrders=true:=by kernel_rfl
 have HS:Aside (∀q,nb El.row d.toList=d.toList->(nb El.row d.toList).length=d.size/\putRow El.enc (Sort.ahead w q) g 0 d=putRow El.enc (Sort.ahead w q) g 0 (nb El.row d.toList++List.replicate (d.size-(nb El.row d.toList).length) default).toArray):=by
  intro q e;rw[e];simp
 have HH:Aside (Holds El.enc w g 0 d):=hH;clear hH;by_cases h2:d.size<2
 .go_enter Tryz.func206,Tryz.ntmps206
  go_wp2
  go_ret
  obtain⟨e1,e2⟩:=HS.out 0 (nb_one El.row (by omega));refine⟨by rw[e1];rfl,0,?_⟩;rw[<-e2];exact(putRow_self El.enc w g 0 d HH.out).symm
 .go_enter Tryz.func206,Tryz.ntmps206
  go_wp2
  go_loopg [5] d.size (λgg s5 wr=>∃k q:Nat,1<=k/\k<=d.size/\d.size-k<=gg/\s5=.int .i64 k/\Aside (wr=putRow El.enc (Sort.ahead w q) g 0 d)/\Aside (nb El.row (d.toList.take k)=d.toList.take k))
  case atStart=>exact⟨1,0,Yg _,by omega,by omega,rfl,(putRow_self El.enc w g 0 d HH.out).symm,ZBq El.row d⟩
  case round =>
   obtain⟨k,q,hk1,hk,hg,rfl,W,A⟩:=hrel;by_cases hlt:k<d.size
   .have hHk:Holds El.enc wr g 0 d:=by rw[W.out];exact holds_putRow El.enc _ g 0 d d (holds_ahead El.enc w q g 0 d HH.out) rfl
    obtain⟨kp,rfl⟩:∃kp,k=kp+1:=⟨k-1,by omega⟩;obtain⟨c1,f1⟩:=hHk (kp+1) hlt;obtain⟨c0,f0⟩:=hHk kp (by omega);have hcall:=Z09 (w:=w) (wr:=wr) (g:=g) (λk hk=>by rw[W.out];exact Z08 _ _ _ _ _ _ hk) d[kp+1]! d[kp]!;simp only[Yq]at c1 c0 f1 f0;clear hHk;have hwp:IntKind.i64.wrap (kp:Int)=(kp:Int):=by rw[IntKind.wrap_i64];omega
    have jz:(kp:Int)+1<(d.size:Int):=by omega
    have jz1:(kp:Int)<(d.size:Int):=by omega
    have p0:(0:Int)<=(kp:Int)+1:=by omega
    have e0:((kp:Int)+1).toNat=kp+1:=by omega
    generalize El.enc d[kp+1]! = x at c1 hcall;generalize El.enc d[kp]! = y at c0 hcall;by_cases hdup:El.row d[kp+1]! = El.row d[kp]!
    .rw[decide_eq_true hdup]at hcall;have DD:Aside (El.row d[kp+1]! = El.row d[kp]!):=hdup;clear hdup
     go_wp2_with fail
     go_quiet (refine Calls.quiet_of (hcall _))
     go_wp2_with fail
     have W3:Aside (wr.drewN nq=putRow El.enc (Sort.ahead w (q+nq)) g 0 d):=by show _=_;rw[W.out,ZjI]
     clear hcall c0 c1 f0 f1;generalize wr.drewN nq=wz at W3|-
     go_loopg [5,7] d.size (λgg s5 s7 wr=>∃(kk k2 q2:Nat) (dk:Array (El w g)),s5=.int .i64 kk/\s7=.int .i64 k2/\1<=k2/\kp+1+k2<=d.size/\d.size-(kp+1+k2)<=gg/\Aside (wr=putRow El.enc (Sort.ahead w q2) g 0 dk)/\Aside (WP El.row d (kp+1+k2) kk dk))
     case atStart=>exact⟨kp+1,1,q+nq,d,rfl,rfl,Yg _,by omega,by omega,W3,WP.start El.row (by omega) hlt A.out DD.out⟩
     case round =>
      clear W W3;obtain⟨kk,k2,q2,dk,rfl,rfl,h1,hle,hg2,W2,I2⟩:=hrel;have hkk:=I2.out.lt;have hds:=I2.out.size El.row hle;have hHk:Holds El.enc wr g 0 dk:=by rw[W2.out];exact holds_putRow El.enc _ g 0 d dk (holds_ahead El.enc w q2 g 0 d HH.out) hds
      obtain⟨kz,rfl⟩:∃kz,k2=kz+1:=⟨k2-1,by omega⟩;by_cases hlt2:kp+1+(kz+1)<d.size
      .obtain⟨cm,_⟩:=hHk (kp+1+(kz+1)) (by omega);obtain⟨cp,_⟩:=hHk (kp+1+kz) (by omega);obtain⟨ck,fk⟩:=hHk kk (by omega);rw[I2.out.read El.row hle (by omega) hlt2,Yq]at cm;rw[I2.out.read El.row hle (by omega) (by omega),Yq]at cp;rw[Yq]at ck fk;clear hHk;have hcall:=Z09 (w:=w) (wr:=wr) (g:=g) (λk hk=>by rw[W2.out];exact Z08 _ _ _ _ _ _ hk) d[kp+1+(kz+1)]! d[kp+1+kz]!;have st:∀a m w1,_:=λa m w1=>run_store Tryz.prog w1 a (El.enc d[kp+1+(kz+1)]!) m (El.one _)
       obtain⟨x,hx⟩:∃x,El.enc d[kp+1+(kz+1)]! = x:=⟨_,rfl⟩;have cl:=OneCell.cells (enc:=El.enc) El.one d[kp+1+(kz+1)]!;rw[hx]at cm hcall st cl;simp only[Value.cells]at cl;have XE:Aside (El.enc d[kp+1+(kz+1)]! = x):=hx;clear hx;generalize El.enc d[kp+1+kz]! = y at cp hcall;generalize El.enc dk[kk]! = old at ck;have jz:(kz:Int)+1<((d.size-(kp+1):Nat):Int):=by omega
       have jz1:(kz:Int)<((d.size-(kp+1):Nat):Int):=by omega
       have hwz:IntKind.i64.wrap (kz:Int)=(kz:Int):=by rw[IntKind.wrap_i64];omega
       have q0:(0:Int)<=(kz:Int)+1:=by omega
       have r0:((kz:Int)+1).toNat=kz+1:=by omega
       have kkz:(kk:Int)<(d.size:Int):=by omega
       by_cases hdup2:El.row d[kp+1+(kz+1)]! = El.row d[kp+1+kz]!
       .rw[decide_eq_true hdup2]at hcall;have D2:Aside (El.row d[kp+1+(kz+1)]! = El.row d[kp+1+kz]!):=hdup2;clear hdup2
        go_wp2_with fail
        go_quiet (refine Calls.quiet_of (hcall _))
        go_wp2
        go_roundg (d.size-(kp+1+(kz+1+1)))
        case measure=>omega
        case rel=>exact⟨kk,kz+1+1,q2+nq,dk,rfl,by go_num,by omega,by omega,Yg _,(show Aside _ from by show _=_;rw[W2.out,ZjI]),I2.out.skip El.row hlt2 D2.out⟩
       .rw[decide_eq_false hdup2]at hcall;have D2:Aside (¬El.row d[kp+1+(kz+1)]! = El.row d[kp+1+kz]!):=hdup2;clear hdup2
        go_wp2_with fail
        go_quiet (refine Calls.quiet_of (hcall _))
        go_wp2_with fail
        have W4:Aside (wr.drewN nq=putRow El.enc (Sort.ahead w (q2+nq)) g 0 dk):=by show _=_;rw[W2.out,ZjI]
        clear hcall cm cp ck fk;generalize wr.drewN nq=wq at W4|-
        go_roundg (d.size-(kp+1+(kz+1+1)))
        case measure=>omega
        case rel=>exact⟨kk+1,kz+1+1,q2+nq,dk.setIfInBounds kk d[kp+1+(kz+1)]!,by go_num,by go_num,by omega,by omega,Yg _,(show Aside _ from put_at (by omega) W4.out XE.out),I2.out.keep El.row hlt2 D2.out⟩
      .have hend:kp+1+(kz+1)=d.size:=by omega
       have jz:¬(kz:Int)+1<((d.size-(kp+1):Nat):Int):=by omega
       have kkz:(kk:Int)<=(d.size:Int):=by omega
       have hcl:∀ty,(Builtin.clear_ #[43] ty #[.slice (some ⟨g,kk,none⟩) (d.size-kk) (cap-kk)]).run Tryz.prog wr=.ok (.tuple #[]) (wr.setCells g kk (List.replicate (d.size-kk) (.slice none 0 0))) :=
        λty=>Lib.run_clear_slice wr _ _ ty _ Tryz.underlying43 Tryz.zeroValue42 rfl rfl g kk _ _ (by omega) (λj hj=>by have:=(hHk (kk+j) (by omega)).1;rw[Yq]at this;rw[this];rfl) (λj hj=>by have:=(hHk (kk+j) (by omega)).2;rw[Yq]at this;exact this)
       clear hHk
       go_wp2
       go_ret
       have hI:=I2.out;rw[hend]at hI;have hlen:=hI.len;rw[show d.toList.take d.size=d.toList from Yb4 (by simp)]at hlen;exact⟨by rw[hlen];rfl,q2,by rw[hlen];exact ZBr El.row hI default W2.out⟩
    .rw[decide_eq_false hdup]at hcall;have DD:Aside (¬El.row d[kp+1]! = El.row d[kp]!):=hdup;clear hdup
     go_wp2_with fail
     go_quiet (refine Calls.quiet_of (hcall _))
     go_wp2
     go_roundg (d.size-(kp+1+1))
     case measure=>omega
     case rel=>exact⟨kp+1+1,q+nq,by omega,by omega,Yg _,by go_num,(show Aside _ from by show _=_;rw[W.out,ZjI]),ZBp El.row (by omega) hlt A.out DD.out⟩
   .have hk2:k=d.size:=by omega
    have hltz:¬(k:Int)<(d.size:Int):=by omega
    go_wp2
    go_ret
    obtain⟨e1,e2⟩:=HS.out q (by have:=A.out;rw[hk2,show d.toList.take d.size=d.toList from Yb4 (by simp)]at this;exact this);exact⟨by rw[e1];rfl,q,by rw[<-e2];exact W.out⟩
end Go.Proofs.YtgbipcfdgfjplaaGreat
namespace Go.Proofs.YtgbipcfdgfjplaaGreat
open Go.RowKit Go.AM Go.Lib Go.Sort
theorem Z0A{N:Par}{base:Nat}{ρ:Map}{w w':World}{el sz:Nat}{fr:Bool}(R:Rel N base ρ [.arr el sz fr []] w){r:Root}(hr:ρ 0=some r)(c:∀b,1<=b->ρ b=none)(cc:w.grownBy w' none) :
  Rel N base (updM ρ 1 ⟨.slice none 0 0,[],[]⟩) [.dead,.arr el sz fr []] w'/\
   Keeps ρ w (Free N ρ [.arr el sz fr []]) (updM ρ 1 ⟨.slice none 0 0,[],[]⟩) w' (Free N (updM ρ 1 ⟨.slice none 0 0,[],[]⟩) [.dead,.arr el sz fr []])/\
   ∀g,g<w.heap.size->¬N.a g->w'.heap[g]?=w.heap[g]?:=by
 have hb:gt [Blk.arr el sz fr []] 0=.arr el sz fr []:=by simp[gt]
 have hd:gt [Blk.arr el sz fr []] 0≠.dead:=by rw[hb];intro hc;cases hc
 obtain⟨r1,h1,h2⟩:=R.blk 0 hd;rw[hr]at h1;cases h1;rw[hb]at h2;obtain⟨hex,e2,xs,hel,ho,hsz,hlen,htr,hfree,hfr,how⟩:=h2;have hup:upd [Blk.arr el sz fr []] (kill [0]++[(1,.arr el sz fr [])])=[.dead,.arr el sz fr []]:=by simp[upd,kill,stB]
 have hp:=Qi R (n:=1) (ks:=[0]) (x:=.arr el sz fr []) (r:=⟨.slice none 0 0,[],[]⟩) (row:=none) (w':=w')
  (by intro r0 h0;rw[c 1 (Yg _)]at h0;cases h0) cc
  (by intro g' hg';cases hg') (by intro g' hg';cases hg')
  (λhk=>⟨rfl,e2,[],hel,⟨by simp,.inl ⟨rfl,rfl⟩⟩,hsz,(by intro x hx;cases hx),.nil,(by intro x hx;cases hx),λ_=>⟨.nil,by intro x hx;cases hx⟩,λ_=>.nil⟩)
  (by intro _ x hx;cases hx)
 rw[hup]at hp;exact hp
theorem Z0B{α:Type}[Inhabited α](enc:α->Value)(w:World)(c off n:Nat)(d:Array α){k:Nat}(cc:k≠c):(putRow enc (Sort.ahead w n) c off d).heap[k]?=w.heap[k]?:=by
 show(w.heap.modify c (onCells (putCells enc off d)))[k]?=_;rw[Yds,Yb (Ne.symm cc)]
theorem Z0C{α:Type}[Inhabited α](enc:α->Value)(w:World)(cc off n:Nat)(d:Array α){c:Array Value}{e:TypeId}{fz:Nat×Nat}(hg:w.heap[cc]?=some (.cells c e fz)):(putRow enc (Sort.ahead w n) cc off d).heap[cc]?=some (.cells (putCells enc off d c) e fz):=by
 show(w.heap.modify cc (onCells (putCells enc off d)))[cc]?=_;rw[Yds,Ya rfl,hg];rfl
theorem ZBu{fr:Bool}{rows:XS}(cd:rows.length<=4096)(cc:∀r∈rows,r.length<=4) :
  Xg Tryz.prog 206 [.own 0,.fn 207 []] [.arr 42 1 fr (rows.map isc)] (.own 1) [.dead,.arr 42 1 fr ((Wj rows).map isc)]:=by
 refine⟨by decide +kernel,?_⟩;intro N base w ρ vs R hdom hv hz;obtain⟨l⟩:=vs;simp only at hv
 cases hv with|cons q0 hv =>
 cases hv with|cons q1 hv =>
 cases hv
 cases q0 with|own hr h1 =>
 rename_i r
 cases q1 with|fn q1 =>
 rename_i c;obtain⟨c⟩:=c;simp only at q1;cases q1;have hb:gt [Blk.arr 42 1 fr (rows.map isc)] 0=.arr 42 1 fr (rows.map isc):=by simp[gt]
 have hd0:gt [Blk.arr 42 1 fr (rows.map isc)] 0≠.dead:=by rw[hb];intro hc;cases hc
 obtain⟨r2,e1,e2⟩:=R.blk 0 hd0;rw[hr]at e1;cases e1;rw[hb]at e2;obtain⟨hex,e',xs,hel,ho,hsz,hlen1,htr,hfree,hfr,how⟩:=e2;obtain⟨hxl,ho⟩:=ho;have hdom1:∀b,1<=b->ρ b=none:=by intro b hb;exact hdom b (by simpa using hb)
 rcases ho with⟨hrv,hn⟩|⟨g,cap,cur,hrv,hbg,hg,hcap,hcm,hcur,htake⟩
 .have hn:rows=[]:=by simpa using hn
  subst hn;rw[hrv];refine(ZBs w).mono ?_;rintro e w' ⟨rfl,rfl⟩;obtain⟨p1,p2,p3⟩:=Z0A R hr hdom1 (w':=w') ⟨rfl,rfl,rfl,Yg _,λ_ _ _=>rfl⟩;refine⟨_,_,rfl,Below.refl _ _,p1,.own (b:=1) (r:=⟨.slice none 0 0,[],[]⟩) (by simp[updM]) rfl,λb hb=>?_,by simp,p3,λk hk hzz=>p2.free k hk (hz k hzz),λb r0 hb h0=>p2.root b r0 h0⟩;simp only[updM];rw[Yb (by simp at hb;omega)];exact hdom1 b (by simp at hb;omega)
 obtain⟨zs,hzx,hch⟩:=Ch.of htr;obtain⟨l,p1,p2,p3,p4⟩:=hch.zip;have hblk:ZF r.v=some g:=by rw[hrv];rfl
 have hfg:∀x∈r.fp,x≠g:=λx hx e=>by
  subst e;exact(hfree x hx).2 0 r hr hd0 (.inl hblk)
 have hgs:g<w.heap.size:=(Ycd.1 hg).1
 obtain⟨L,hL⟩:=El.list (w:=w) (g:=g) l (by
  intro p hp;have hm:p.1∈rows.map isc:=by rw[<-p1];exact Y2.2 ⟨p,hp,rfl⟩
  obtain⟨r0,hr0,e0⟩:=Y2.1 hm;have ht:=p4 p hp;rw[<-e0]at ht;obtain⟨q,hq⟩:=Z04 (g:=g) ht (λx hx=>hfg x (by rw[<-p3];exact Yc2.2 ⟨p.2.2,Y2.2 ⟨p,hp,rfl⟩,hx⟩)) (cc r0 hr0)
  exact⟨q,by rw[hq,e0]⟩)
 subst hL;have hrows:L.map El.row=rows:=by
  have:(L.map El.row).map isc=rows.map isc:=by rw[<-p1];simp[El.t3]
  exact(Ydt (λa b h=>Zqz h)).1 this
 have hLl:L.length=rows.length:=by rw[<-hrows,Y6]
 have henc:L.map El.enc=cur.toList.take ((rows.map isc).length*1):=by
  rw[htake,<-hzx,<-p2,ZjG]
 have hcell:Holds El.enc w g 0 L.toArray:=by
  intro j hj;have hj':j<L.length:=by simpa using hj
  have h2:cur[j]?=some (L[j].enc):=by
   have h3:(cur.toList.take ((rows.map isc).length*1))[j]?=some (L[j].enc):=by rw[<-henc,Ych,Yi hj'];rfl
   rw[Ybh,Ya (by simp;omega)]at h3;simpa using h3
  refine⟨?_,?_⟩
  .unfold World.cell?;rw[hg];simp[h2,hj']
  .simp[World.frozen?,hg]
 have hcall:=ZBt (w:=w) (g:=g) cap L.toArray hcell (by simp;omega) (by simp at hcap|-;omega);rw[hrv,show(rows.map isc).length=L.toArray.size by simp[hLl]];refine hcall.mono ?_;rintro e w' ⟨rfl,q,rfl⟩;have hsub:=nb_sub El.row L;have hnl:(nb El.row L).length<=L.length:=hsub.length_le;have hgr:w.grownBy (putRow El.enc (Sort.ahead w q) g 0 (nb El.row L++List.replicate (L.length-(nb El.row L).length) default).toArray) (some g) :=
  ⟨rfl,rfl,rfl,by show w.heap.size<=(w.heap.modify g _).size;simp,λk hk hne=>Z0B _ _ _ _ _ _ (by intro e;exact hne (by rw[e]))⟩
 obtain⟨P1,P2,P3⟩:=Zs5 R hr hdom1 hrv hg p1 (by rw[p2,hzx,htake]) p3 p4 (hsub.map El.t3) (zr:=List.replicate (L.length-(nb El.row L).length) (El.enc (default:El w g))) (by simp[hLl]) ⟨_,Z0C _ _ _ _ _ _ hg,by
  rw[ZjF _ _ _ (by simp at hcap|-;omega),ZjG];simp only[Ybn,Ydo,Ydf,Ym,Ydn,Y6]
  rw[show(nb El.row L).length+(L.length-(nb El.row L).length)=rows.length*1 by omega]⟩ hgr
 rw[Z05,Z07,hrows,Y6]at P1 P2;have hln:(nb El.row L.toArray.toList).length=(nb El.row L).length:=rfl;refine⟨_,_,rfl,⟨hgr.os,hgr.tape,hgr.output,hgr.size,λk hk=>hgr.block k (Yco hk R.hb) (by intro e;cases e;omega)⟩,P1,.own (b:=1) (r:=⟨.slice (some ⟨g,0,none⟩) (nb El.row L).length cap,(((nb El.row L).map El.t3).map (·.2.2)).flatten,[]⟩) (by unfold updM;rw[Ya rfl]) rfl,λb hb=>?_,by simp,P3,λk hk hzz=>P2.free k hk (hz k hzz),λb r0 hb h0=>P2.root b r0 h0⟩;simp only[updM];rw[Yb (by simp at hb;omega)];exact hdom1 b (by simp at hb;omega)
end Go.Proofs.YtgbipcfdgfjplaaGreat
