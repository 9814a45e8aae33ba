/-
  Parts of the proofs for this seat: SS CR.
-/
import Derived.Deep.LoopGhost
import Derived.Deep.RegionLaw
import Derived.Lib.SlBy
import Derived.Lib.SliceRun
import Derived.Lib.Walk
import Derived.Shelf.RegionOpenPlain
import Derived.Test.YtgnfoghkbpkgjaaGreatChecked
import Derived.WalkKit
import Derived.Test.YtgnfoghkbpkgjaaGreatP7
import Derived.Test.YtgnfoghkbpkgjaaGreatP12
set_option linter.unusedSimpArgs false
set_option linter.unusedVariables false
set_option maxRecDepth 100000
set_option maxHeartbeats 4000000
namespace Go.Proofs.YtgnfoghkbpkgjaaGreat
open Go.AM Go.Sort Go.Stb
abbrev AR:=Array (List Int)
def okC(x:Nat)(r:List Int):Prop:=x<r.length/\0<=kx x r/\kx x r<=9
structure OkC (x:Nat) (d:AR):Prop where
 sz:d.size<=4096
 at_:∀i,i<d.size->okC x d[i]!
theorem OkC.stp{x:Nat}{d e:AR}{a b:Nat}(h:OkC x d)(S:Stp (kx x) a b d e)(hb:b<=d.size):OkC x e:=by
 have S':=S.mono (Yb a) hb;refine⟨by rw[S.size];exact h.sz,λi hi=>?_⟩;exact S'.pres (okC x) (λy _ hy=>h.at_ y hy) i (Yb _) (by rw[<-S.size];exact hi)
theorem gA{d:AR}{i:Nat}(h:i<d.size):d.toList[(i:Int).toNat]?=some d[i]!:=by rw[Ye];exact Zfd d i h
theorem set2(d:AR)(i j:Nat):(d.toList.set i d[j]!).set j d[i]! = (swp d i j).toList:=by simp[swp]
theorem set3{d:AR}{i j:Nat}(v:List Int)(h:j<d.size):∃e,(d.toList.set i v)[j]?=some e:=⟨_,Yg (by simpa using h)⟩
theorem wA{n:Int}(h1:-1000000<=n)(h2:n<=1000000):w n=n:=Zo (by omega) (by omega)
theorem Zi7{i j:Nat}(h:i+j<=1000000):w (shrI (IntKind.wrap .u64 (w ((i:Int)+(j:Int)))) 1)=(((i+j) / 2:Nat):Int):=by
 rw[wA (n:=(i:Int)+(j:Int)) (by omega) (by omega)];have e1:IntKind.wrap .u64 ((i:Int)+(j:Int))=(i:Int)+(j:Int):=by
  simp only[IntKind.wrap,IntKind.signed,IntKind.bits];simp;omega
 rw[e1];have e2:shrI ((i:Int)+(j:Int)) 1=(((i+j) / 2:Nat):Int):=by
  unfold shrI;rw[show(2:Int) ^ (min (1:Int).toNat 64)=2 from rfl,Int.fdiv_eq_ediv_of_nonneg _ (by decide)];omega
 rw[e2];exact wA (by omega) (by omega)
theorem Zsa{x:Nat}{p q:List Int}(hp:okC x p)(hq:okC x q):Zfl x p q=some (I (kx x p-kx x q),[.box [I x]]):=by
 obtain⟨p1,p2,p3⟩:=hp;obtain⟨q1,q2,q3⟩:=hq;have e1:p[x]=kx x p:=(getElem!_pos p x p1).symm;have e2:q[x]=kx x q:=(getElem!_pos q x q1).symm;refine Zbv7 ⟨by omega,_,gE p1,_,gE q1,?_⟩;rw[e1,e2,wA (by omega) (by omega)]
def Rz(D:AR)(x:Nat)(v:Rs):Prop:=∃fr,v=some (.tup [],[.arr 30 1 fr (D.toList.map isc),.box [I x]])
theorem l_in(x a b i:Nat)(hi:i<=8192)(D:AR):∀(j:Nat) (d:AR) (fr:Bool),OkC x d->a<=j->j<d.size->
  (∀fr',Rz D x (Zhb fr' (insInner (ltK (kx x)) a j d).toList x a b ((i+1:Nat):Int)))->Rz D x (Zj3 fr d.toList x a b i j)
 |0,d,fr,hO,haj,hj,h=>by
  obtain⟨f,hf⟩:=h fr;refine⟨f,Zv5 ?_⟩;rw[if_neg (by omega),wA (by omega) (by omega)];unfold insInner at hf
  exact_mod_cast hf
 |j+1,d,fr,hO,haj,hj,h=>by
  unfold insInner at h;have hw:w (((j+1:Nat):Int)-1)=(j:Int):=by have:=hO.sz;rw[wA (by omega) (by omega)];omega
  have hw2:w ((i:Int)+1)=((i+1:Nat):Int):=by rw[wA (by omega) (by omega)];omega
  by_cases hc:a<j+1
  .by_cases hl:kx x d[j+1]!<kx x d[j]!
   .rw[if_pos (by simp[ltK,hl];omega)]at h;have hS:=Zwg (k:=kx x) d j hj hl;obtain⟨f,hf⟩:=l_in x a b i hi D j (swp d (j+1) j) false (hO.stp hS (by omega)) (by omega) (by rw[swp_size];omega) h;refine⟨f,Zv5 ?_⟩;rw[if_pos (by omega),hw];refine⟨by omega,_,gA hj,by omega,_,gA (by omega),_,_,Zsa (hO.at_ _ hj) (hO.at_ _ (by omega)),?_⟩;rw[if_pos (by omega),Ye,Ye,set2];obtain⟨e,he⟩:=set3 (i:=j+1) d[j]! (show j<d.size by omega);exact⟨e,he,hf⟩
   .rw[if_neg (by simp[ltK];omega)]at h;obtain⟨f,hf⟩:=h fr;refine⟨f,Zv5 ?_⟩;rw[if_pos (by omega),hw];refine⟨by omega,_,gA hj,by omega,_,gA (by omega),_,_,Zsa (hO.at_ _ hj) (hO.at_ _ (by omega)),?_⟩;rw[if_neg (by omega),hw2];exact hf
  .rw[if_neg (by simp;omega)]at h;obtain⟨f,hf⟩:=h fr;refine⟨f,Zv5 ?_⟩;rw[if_neg (by omega),hw2];exact hf
theorem l_out(x a b:Nat):∀(n i:Nat) (d:AR) (fr:Bool),b-i=n->OkC x d->a<i->b<=d.size->i<=b+1->Rz (insOuter (ltK (kx x)) a b i d) x (Zhb fr d.toList x a b i)
 |0,i,d,fr,hn,hO,hai,hb,hib=>by
  refine⟨fr,Zbe6 ?_⟩
  rw[if_neg (by omega),insOuter,if_neg (by omega)]
 |n+1,i,d,fr,hn,hO,hai,hb,hib=>by
  have hsz:=hO.sz;have hS:=Z5f (k:=kx x) a i d b (by omega) (by omega) hb
  obtain⟨f,hf⟩:=l_in x a b i (by omega) (insOuter (ltK (kx x)) a b i d) i d fr hO (by omega) (by omega) (λfr'=>by
   rw[insOuter,if_pos (by omega)]
   exact l_out x a b n (i+1) _ fr' (by omega) (hO.stp hS hb) (by omega) (by rw[hS.size];exact hb) (by omega))
  refine⟨f,Zbe6 ?_⟩;rw[if_pos (by omega)];exact hf
theorem x_ins{x a b:Nat}{d:AR}(fr:Bool)(hO:OkC x d)(hab:a<=b)(hb:b<=d.size):∃e,Stp (kx x) a b d e/\Srt (kx x) a b e/\Rz e x (Zmk fr d.toList x a b):=by
 have hsz:=hO.sz;refine⟨_,ins_stp d a b hb,ins_srt d a b hab hb,?_⟩;obtain⟨f,hf⟩:=l_out x a b _ (a+1) d fr rfl hO (by omega) hb (by omega);refine⟨f,Zbv8 ?_⟩;rw[wA (by omega) (by omega)]
 exact_mod_cast hf
theorem l_swr(x a b n:Nat)(d:AR)(hs:d.size<=4096)(h1:a+n<=b)(h2:b+n<=d.size):∀i,i<=n->∀fr,Rz (swr a b n d) x (Zj5 fr (swr a b i d).toList x a b n i):=by
 refine down _ ?_ ?_
 .intro fr;refine⟨fr,Zbe7 ?_⟩;rw[if_neg (by omega)]
 .intro i hi ih fr;obtain⟨f,hf⟩:=ih false;refine⟨f,Zbe7 ?_⟩;have e1:w ((b:Int)+(i:Int))=((b+i:Nat):Int):=by rw[wA (by omega) (by omega)];omega
  have e2:w ((a:Int)+(i:Int))=((a+i:Nat):Int):=by rw[wA (by omega) (by omega)];omega
  have e3:w ((i:Int)+1)=((i+1:Nat):Int):=by rw[wA (by omega) (by omega)];omega
  rw[if_pos (by omega),e1,e2,e3];refine⟨by omega,_,gA (by rw[Zgt];omega),by omega,_,gA (by rw[Zgt];omega),?_⟩;rw[Ye,Ye,set2];obtain⟨e,he⟩:=set3 (d:=swr a b i d) (i:=a+i) (swr a b i d)[b+i]! (show b+i<_ by rw[Zgt];omega);exact⟨e,he,hf⟩
theorem x_swr{x a b n:Nat}{d:AR}(fr:Bool)(hs:d.size<=4096)(h1:a+n<=b)(h2:b+n<=d.size):Rz (swr a b n d) x (Zj4 fr d.toList x a b n):=by
 obtain⟨f,hf⟩:=l_swr x a b n d hs h1 h2 0 (Yb _) fr;exact⟨f,Zbv9 hf⟩
theorem l_rot(x a m b:Nat)(d:AR)(hs:d.size<=4096)(h1:a<=m)(h2:m<=b)(h3:b<=d.size):∀(n i j:Nat) (e:AR) (fr:Bool),i+j<=n->0<i->0<j->a+i<=m->m+j<=b->Rot a m b d i j e->
  ∃D,Rtd a m b d D/\Rz D x (Zif fr e.toList x m i j)
 |0,i,j,e,fr,hn,hi,hj,_,_,R=>by omega
 |n+1,i,j,e,fr,hn,hi,hj,him,hjb,R=>by
  have hse:e.size<=4096:=by rw[R.size];exact hs
  have hsd:e.size=d.size:=R.size;have e1:w ((m:Int)-(i:Int))=((m-i:Nat):Int):=by rw[wA (by omega) (by omega)];omega
  have e2:w ((m:Int)+(j:Int))=((m+j:Nat):Int):=by rw[wA (by omega) (by omega)];omega
  have e3:w (((m+j:Nat):Int)-(i:Int))=((m+j-i:Nat):Int):=by rw[wA (by omega) (by omega)];omega
  by_cases hij:i=j
  .subst hij;obtain⟨f,hf⟩:=x_swr (x:=x) (a:=m-i) (b:=m) (n:=i) (d:=e) fr hse (by omega) (by omega);refine⟨swr (m-i) m i e,rtd_of h1 h2 h3 (R.eq (by omega)),f,Z4k ?_⟩;rw[if_pos rfl,e1];exact⟨_,_,_,hf,rfl⟩
  .by_cases hlt:j<i
   .have e4:w ((i:Int)-(j:Int))=((i-j:Nat):Int):=by rw[wA (by omega) (by omega)];omega
    obtain⟨f,hf⟩:=x_swr (x:=x) (a:=m-i) (b:=m) (n:=j) (d:=e) fr hse (by omega) (by omega);obtain⟨D,hD,g,hg⟩:=l_rot x a m b d hs h1 h2 h3 n (i-j) j _ f (by omega) (by omega) hj (by omega) hjb (R.gt hlt (by omega));refine⟨D,hD,g,Z4k ?_⟩;rw[if_neg (by omega),if_pos (by omega),e1,e4];exact⟨_,_,_,hf,hg⟩
   .have e4:w ((j:Int)-(i:Int))=((j-i:Nat):Int):=by rw[wA (by omega) (by omega)];omega
    obtain⟨f,hf⟩:=x_swr (x:=x) (a:=m-i) (b:=m+j-i) (n:=i) (d:=e) fr hse (by omega) (by omega);obtain⟨D,hD,g,hg⟩:=l_rot x a m b d hs h1 h2 h3 n i (j-i) _ f (by omega) hi (by omega) him (by omega) (R.lt (by omega) (by omega));refine⟨D,hD,g,Z4k ?_⟩;rw[if_neg (by omega),if_neg (by omega),e1,e2,e3,e4];exact⟨_,_,_,hf,hg⟩
theorem x_rot{x a m b:Nat}{d:AR}(fr:Bool)(hs:d.size<=4096)(h1:a<m)(h2:m<b)(h3:b<=d.size):∃D,Rtd a m b d D/\Rz D x (Zp9 fr d.toList x a m b):=by
 obtain⟨D,hD,f,hf⟩:=l_rot x a m b d hs (by omega) (by omega) h3 _ (m-a) (b-m) d fr (Yc _) (by omega) (by omega) (by omega) (by omega) (.start d (by omega) (by omega));refine⟨D,hD,f,Zbwa ?_⟩;have e1:w ((m:Int)-(a:Int))=((m-a:Nat):Int):=by rw[wA (by omega) (by omega)];omega
 have e2:w ((b:Int)-(m:Int))=((b-m:Nat):Int):=by rw[wA (by omega) (by omega)];omega
 rw[e1,e2];exact hf
def Mgd(x a b:Nat)(d:AR)(v:Rs):Prop:=∃e,Stp (kx x) a b d e/\Srt (kx x) a b e/\Rz e x v
theorem l_m1(x a b i:Nat)(d:AR)(hO:OkC x d)(hb:b<=d.size)(hs:Srt (kx x) (a+1) b d)(hai:a<i)(hib:i<=b)(h1:i=a+1\/kx x d[i-1]!<kx x d[a]!)(h2:i=b\/kx x d[a]!<=kx x d[i]!) :
  ∀(n q:Nat) (e:AR) (fr:Bool),i-1-q=n->q<=i-1->Shl a q d e->Stp (kx x) a b d e->Mgd x a b d (Zj6 fr e.toList x i q)
 |0,q,e,fr,hn,hq,S,T=>by
  have hsz:=hO.sz;obtain rfl:q=i-1:=by omega
  have hI:i-1+1=i:=by omega
  refine⟨e,T,S.srt hs (h1.imp (λh=>by omega) id) (by rw[hI];exact h2) (by omega),fr,Zbe8 ?_⟩
  rw[wA (by omega) (by omega),if_neg (by omega)]
 |n+1,q,e,fr,hn,hq,S,T=>by
  have hsz:=hO.sz;have haq:=S.aq;have hes:e.size=d.size:=S.size;have hk:kx x d[q+1]!<kx x d[a]!:=by
   rcases h1 with h1|h1
   .omega
   .have:=hs.le (i:=q+1) (j:=i-1) (by omega) (by omega) (by omega);omega
  obtain⟨g,G1,G2,f,hf⟩:=l_m1 x a b i d hO hb hs hai hib h1 h2 n (q+1) (swp e (q+1) q) false (by omega) (by omega) (S.next (by omega)) (T.trans ((S.stp (by omega) hk).mono haq (by omega)));refine⟨g,G1,G2,f,Zbe8 ?_⟩;have e1:w ((q:Int)+1)=((q+1:Nat):Int):=by rw[wA (by omega) (by omega)];omega
  rw[wA (n:=(i:Int)-1) (by omega) (by omega),if_pos (by omega),e1];refine⟨by omega,_,gA (by omega),by omega,_,gA (by omega),?_⟩;rw[Ye,Ye,set2,swp_comm e q (q+1) (by omega) (by omega)];obtain⟨v,hv⟩:=set3 (i:=q) e[q+1]! (show q+1<e.size by omega);exact⟨v,hv,hf⟩
theorem l_m0(x a b:Nat)(d:AR)(hO:OkC x d)(hb:b<=d.size)(hs:Srt (kx x) (a+1) b d):∀(n i j:Nat) (fr:Bool),j-i<=n->a<i->i<=j->j<=b->
  (i=a+1\/kx x d[i-1]!<kx x d[a]!)->(j=b\/kx x d[a]!<=kx x d[j]!)->Mgd x a b d (Zig fr d.toList x a i j)
 |n,i,j,fr,hn,hai,hij,hjb,h1,h2=>by
  have hsz:=hO.sz;by_cases h:i<j
  .have hm1:i<=(i+j) / 2:=by omega
   have hm2:(i+j) / 2<j:=by omega
   have hoc:=Zsa (hO.at_ ((i+j) / 2) (by omega)) (hO.at_ a (by omega));by_cases hl:kx x d[(i+j) / 2]!<kx x d[a]!
   .match n,hn with
    |0,hn=>omega
    |n+1,hn =>
    obtain⟨g,G1,G2,f,hf⟩:=l_m0 x a b d hO hb hs n ((i+j) / 2+1) j fr (by omega) (by omega) (by omega) hjb (.inr hl) h2;refine⟨g,G1,G2,f,Z4l ?_⟩;rw[if_pos (by omega),Zi7 (by omega)];refine⟨by omega,_,gA (by omega),by omega,_,gA (by omega),_,_,hoc,?_⟩;rw[if_pos (by omega),wA (by omega) (by omega)]
    exact_mod_cast hf
   .match n,hn with
    |0,hn=>omega
    |n+1,hn =>
    obtain⟨g,G1,G2,f,hf⟩:=l_m0 x a b d hO hb hs n i ((i+j) / 2) fr (by omega) (by omega) (by omega) (by omega) h1 (.inr (by omega));refine⟨g,G1,G2,f,Z4l ?_⟩;rw[if_pos (by omega),Zi7 (by omega)];refine⟨by omega,_,gA (by omega),by omega,_,gA (by omega),_,_,hoc,?_⟩;rw[if_neg (by omega)];exact hf
  .obtain rfl:i=j:=by omega
   obtain⟨g,G1,G2,f,hf⟩:=l_m1 x a b i d hO hb hs hai hjb h1 h2 _ a d fr rfl (by omega) (.start a d) (.refl _ _ _);refine⟨g,G1,G2,f,Z4l ?_⟩;rw[if_neg (by omega)];exact hf
theorem l_m3(x a m i:Nat)(d:AR)(hO:OkC x d)(hb:m<d.size)(hs:Srt (kx x) a m d)(hai:a<=i)(him:i<=m)(h1:i=a\/kx x d[i-1]!<=kx x d[m]!)(h2:i=m\/kx x d[m]!<kx x d[i]!) :
  ∀(n q:Nat) (e:AR) (fr:Bool),q-i=n->i<=q->Shr q m d e->Stp (kx x) a (m+1) d e->Mgd x a (m+1) d (Zj7 fr e.toList x i q)
 |0,q,e,fr,hn,hq,S,T=>by
  obtain rfl:q=i:=by omega
  refine⟨e,T,S.srt hs h1 h2 hai,fr,Zbe9 ?_⟩
  rw[if_neg (by omega)]
 |n+1,q,e,fr,hn,hq,S,T=>by
  have hsz:=hO.sz;have hqm:=S.qm;have hes:e.size=d.size:=S.size;obtain⟨p,rfl⟩:∃p,q=p+1:=⟨q-1,by omega⟩;have hk:kx x d[m]!<kx x d[p]!:=by
   rcases h2 with h2|h2
   .omega
   .have:=hs.le (i:=i) (j:=p) hai (by omega) (by omega);omega
  obtain⟨g,G1,G2,f,hf⟩:=l_m3 x a m i d hO hb hs hai him h1 h2 n p (swp e (p+1) p) false (by omega) (by omega) (S.next hb) (T.trans ((S.stp hb hk).mono (by omega) (by omega)));refine⟨g,G1,G2,f,Zbe9 ?_⟩;have e1:w (((p+1:Nat):Int)-1)=(p:Int):=by rw[wA (by omega) (by omega)];omega
  rw[if_pos (by omega),e1];refine⟨by omega,_,gA (by omega),by omega,_,gA (by omega),?_⟩;rw[Ye,Ye,set2];obtain⟨v,hv⟩:=set3 (i:=p+1) e[p]! (show p<e.size by omega);exact⟨v,hv,hf⟩
theorem l_m2(x a m:Nat)(d:AR)(hO:OkC x d)(hb:m<d.size)(hs:Srt (kx x) a m d):∀(n i j:Nat) (fr:Bool),j-i<=n->a<=i->i<=j->j<=m->
  (i=a\/kx x d[i-1]!<=kx x d[m]!)->(j=m\/kx x d[m]!<kx x d[j]!)->Mgd x a (m+1) d (Zih fr d.toList x m i j)
 |n,i,j,fr,hn,hai,hij,hjb,h1,h2=>by
  have hsz:=hO.sz;by_cases h:i<j
  .have hm1:i<=(i+j) / 2:=by omega
   have hm2:(i+j) / 2<j:=by omega
   have hoc:=Zsa (hO.at_ m (by omega)) (hO.at_ ((i+j) / 2) (by omega));by_cases hl:kx x d[m]!<kx x d[(i+j) / 2]!
   .match n,hn with
    |0,hn=>omega
    |n+1,hn =>
    obtain⟨g,G1,G2,f,hf⟩:=l_m2 x a m d hO hb hs n i ((i+j) / 2) fr (by omega) (by omega) (by omega) (by omega) h1 (.inr hl);refine⟨g,G1,G2,f,Z4m ?_⟩;rw[if_pos (by omega),Zi7 (by omega)];refine⟨by omega,_,gA (by omega),by omega,_,gA (by omega),_,_,hoc,?_⟩;rw[if_pos (by omega)];exact hf
   .match n,hn with
    |0,hn=>omega
    |n+1,hn =>
    obtain⟨g,G1,G2,f,hf⟩:=l_m2 x a m d hO hb hs n ((i+j) / 2+1) j fr (by omega) (by omega) (by omega) hjb (.inr (by simpa using hl)) h2;refine⟨g,G1,G2,f,Z4m ?_⟩;rw[if_pos (by omega),Zi7 (by omega)];refine⟨by omega,_,gA (by omega),by omega,_,gA (by omega),_,_,hoc,?_⟩;rw[if_neg (by omega),wA (by omega) (by omega)]
    exact_mod_cast hf
  .obtain rfl:i=j:=by omega
   obtain⟨g,G1,G2,f,hf⟩:=l_m3 x a m i d hO hb hs hai hjb h1 h2 _ m d fr rfl (by omega) (.start m d) (.refl _ _ _);refine⟨g,G1,G2,f,Z4m ?_⟩;rw[if_neg (by omega)];exact hf
def IHs(x n:Nat):Prop:=∀(a m b:Nat) (d:AR) (fr:Bool),b-a<=n->OkC x d->a<m->m<b->b<=d.size->Srt (kx x) a m d->Srt (kx x) m b d->Mgd x a b d (Zdb fr d.toList x a m b)
theorem j_m4{x n a b mid s t:Nat}{d e f:AR}(IH:IHs x n)(hn:b-mid<=n)(hO:OkC x f)(hb:b<=d.size)(C:Cutd (kx x) a b mid s t d e)(h1:a<=mid)(h2:mid<=t)(h3:t<=b)(F:Stp (kx x) a mid e f)(F':Srt (kx x) a mid f)(fr:Bool) :
  Mgd x a b d (Zhd fr f.toList x b mid t)/\∀s':Nat,Mgd x a b d (Zfm fr f.toList x a b mid s' t false):=by
 have hfs:f.size=d.size:=F.size.trans C.stp.size;have q3:=C.q3.out F (.inr (Yc _));have q4:=C.q4.out F (.inr h2);by_cases h:mid<t/\t<b
 .obtain⟨g,G1,G2,r,hr⟩:=IH mid t b f fr hn hO h.1 h.2 (by omega) q3 q4;obtain⟨A,B⟩:=C.join h1 (by omega) F F' G1 G2;constructor
  .refine⟨g,A,B,r,Zbfa ?_⟩;rw[if_pos (by omega),if_pos (by omega)];exact⟨_,_,_,hr,rfl⟩
  .intro s';refine⟨g,A,B,r,Zbfb ?_⟩;rw[if_pos (by omega),if_pos (by omega)];exact⟨_,_,_,hr,rfl⟩
 .obtain⟨A,B⟩:=C.join h1 (by omega) F F' (.refl _ _ _) (Zbik q3 q4 h h2 h3);constructor
  .refine⟨f,A,B,fr,Zbfa ?_⟩;by_cases h4:(mid:Int)<(t:Int)
   .rw[if_pos h4,if_neg (by omega)]
   .rw[if_neg h4]
  .intro s';refine⟨f,A,B,fr,Zbfb ?_⟩;by_cases h4:(mid:Int)<(t:Int)
   .rw[if_pos h4,if_neg (by omega)]
   .rw[if_neg h4]
theorem l_m4(x n a m b:Nat)(d:AR)(IH:IHs x n)(hn:b-a<=n+1)(hO:OkC x d)(ham:a+1<m)(hmb:m+1<b)(hb:b<=d.size)(hlo:Srt (kx x) a m d)(hhi:Srt (kx x) m b d) :
  ∀(k s r:Nat) (fr:Bool),r-s<=k->a<=s->s<=r->r<=m->r<=(a+b) / 2->(a+b) / 2+m<=s+b->
  ((s=a\/(a+b) / 2+m=s+b)\/kx x d[s-1]!<=kx x d[(a+b) / 2+m-s]!)->((r=(a+b) / 2\/r=m)\/kx x d[(a+b) / 2+m-r-1]!<kx x d[r]!)->
  Mgd x a b d (Zhc fr d.toList x a m b ((a+b) / 2:Nat) ((a+b) / 2+m:Nat) s r ((a+b) / 2+m-1:Nat))
 |k,s,r,fr,hk,hs1,hsr,hr1,hr2,hs4,h1,h2=>by
  have hsz:=hO.sz;by_cases h:s<r
  .have hm1:s<=(s+r) / 2:=by omega
   have hm2:(s+r) / 2<r:=by omega
   have e1:w ((((a+b) / 2+m-1:Nat):Int)-(((s+r) / 2:Nat):Int))=(((a+b) / 2+m-1-(s+r) / 2:Nat):Int):=by rw[wA (by omega) (by omega)];omega
   have hoc:=Zsa (hO.at_ ((a+b) / 2+m-1-(s+r) / 2) (by omega)) (hO.at_ ((s+r) / 2) (by omega));by_cases hl:kx x d[(a+b) / 2+m-1-(s+r) / 2]!<kx x d[(s+r) / 2]!
   .match k,hk with
    |0,hk=>omega
    |k+1,hk =>
    obtain⟨g,G1,G2,f,hf⟩:=l_m4 x n a m b d IH hn hO ham hmb hb hlo hhi k s ((s+r) / 2) fr (by omega) hs1 (by omega) (by omega) (by omega) hs4 h1 (.inr (by rw[show(a+b) / 2+m-(s+r) / 2-1=(a+b) / 2+m-1-(s+r) / 2 by omega];exact hl));refine⟨g,G1,G2,f,Zrz ?_⟩;rw[if_pos (by omega),Zi7 (by omega),e1];refine⟨by omega,_,gA (by omega),by omega,_,gA (by omega),_,_,hoc,?_⟩;rw[if_pos (by omega)];exact hf
   .match k,hk with
    |0,hk=>omega
    |k+1,hk =>
    obtain⟨g,G1,G2,f,hf⟩:=l_m4 x n a m b d IH hn hO ham hmb hb hlo hhi k ((s+r) / 2+1) r fr (by omega) (by omega) (by omega) hr1 hr2 (by omega) (.inr (by
     rw[show(s+r) / 2+1-1=(s+r) / 2 by omega,show(a+b) / 2+m-((s+r) / 2+1)=(a+b) / 2+m-1-(s+r) / 2 by omega];omega)) h2
    refine⟨g,G1,G2,f,Zrz ?_⟩;rw[if_pos (by omega),Zi7 (by omega),e1];refine⟨by omega,_,gA (by omega),by omega,_,gA (by omega),_,_,hoc,?_⟩;rw[if_neg (by omega),wA (by omega) (by omega)]
    exact_mod_cast hf
  .obtain rfl:s=r:=by omega
   have e2:w ((((a+b) / 2+m:Nat):Int)-(s:Int))=(((a+b) / 2+m-s:Nat):Int):=by rw[wA (by omega) (by omega)];omega
   have K:Cut (kx x) a m b ((a+b) / 2) s d:=⟨by omega,by omega,hb,by omega,by omega,hs1,hr1,hr2,hs4,hlo,hhi,h1,h2⟩;generalize hmid:(a+b) / 2=mid at *
   have main:∀(D:AR) (fr':Bool),Rtd s m (mid+m-s) d D->Mgd x a b d (Zml fr' D.toList x a m b mid s ((mid+m-s:Nat):Int) false)/\
     (a<s->s<mid->∃v4 v5 v6,Zdb fr' D.toList x a s mid=some (.tup [],[.arr 30 1 v4 (v5.map isc),.box [I v6]])/\Mgd x a b d (Zhd v4 v5 v6 b mid ((mid+m-s:Nat):Int)))/\
     (¬(a<s/\s<mid)->Mgd x a b d (Zfm fr' D.toList x a b mid s ((mid+m-s:Nat):Int) false)):=by
    intro D fr' R;have Cd:=K.turn R;have hOD:OkC x D:=hO.stp Cd.stp hb;have hDs:D.size=d.size:=Cd.stp.size;have k1:mid<b:=K.l2;have k2:a<mid:=K.l1;have part1:a<s->s<mid->∃v4 v5 v6,Zdb fr' D.toList x a s mid=some (.tup [],[.arr 30 1 v4 (v5.map isc),.box [I v6]])/\Mgd x a b d (Zhd v4 v5 v6 b mid ((mid+m-s:Nat):Int)):=by
     intro p1 p2;obtain⟨g,G1,G2,f,hf⟩:=IH a s mid D fr' (by omega) hOD p1 p2 (by omega) Cd.q1 Cd.q2;exact⟨_,_,_,hf,(j_m4 IH (by omega) (hOD.stp G1 (by omega)) hb Cd (by omega) (by omega) (by omega) G1 G2 f).1⟩
    have part2:¬(a<s/\s<mid)->Mgd x a b d (Zfm fr' D.toList x a b mid s ((mid+m-s:Nat):Int) false):=by
     intro p;exact(j_m4 IH (by omega) hOD hb Cd (by omega) (by omega) (by omega) (.refl _ _ _) (Zbik Cd.q1 Cd.q2 p hs1 hr2) fr').2 s
    refine⟨?_,part1,part2⟩;by_cases p:a<s/\s<mid
    .obtain⟨v4,v5,v6,hX,g,G1,G2,f,hf⟩:=part1 p.1 p.2;refine⟨g,G1,G2,f,Zbfc ?_⟩;rw[if_pos (by omega),if_pos (by omega)];exact⟨_,_,_,hX,hf⟩
    .obtain⟨g,G1,G2,f,hf⟩:=part2 p;refine⟨g,G1,G2,f,Zbfc ?_⟩;by_cases p1:(a:Int)<(s:Int)
     .rw[if_pos p1,if_neg (by omega)];exact hf
     .rw[if_neg p1];exact hf
   by_cases hc:s<m/\m<mid+m-s
   .obtain⟨D,hD,fD,hfD⟩:=x_rot (x:=x) (d:=d) fr hsz hc.1 hc.2 (by omega);obtain⟨-,p1,p2⟩:=main D fD hD;by_cases p:a<s/\s<mid
    .obtain⟨v4,v5,v6,hX,g,G1,G2,f,hf⟩:=p1 p.1 p.2;refine⟨g,G1,G2,f,Zrz ?_⟩;rw[if_neg (by omega),e2,if_pos (by omega),if_pos (by omega)];refine⟨_,_,_,hfD,?_⟩;rw[if_pos (by omega),if_pos (by omega)];exact⟨_,_,_,hX,hf⟩
    .obtain⟨g,G1,G2,f,hf⟩:=p2 p;refine⟨g,G1,G2,f,Zrz ?_⟩;rw[if_neg (by omega),e2,if_pos (by omega),if_pos (by omega)];refine⟨_,_,_,hfD,?_⟩;by_cases p1:(a:Int)<(s:Int)
     .rw[if_pos p1,if_neg (by omega)];exact hf
     .rw[if_neg p1];exact hf
   .obtain⟨⟨g,G1,G2,f,hf⟩,-,-⟩:=main d fr (rtd_triv d hr1 (by omega) (by omega) (by omega));refine⟨g,G1,G2,f,Zrz ?_⟩;rw[if_neg (by omega),e2];by_cases p1:(s:Int)<(m:Int)
    .rw[if_pos p1,if_neg (by omega)];exact hf
    .rw[if_neg p1];exact hf
theorem x_sym(x:Nat):∀n,IHs x n
 |0,a,m,b,d,fr,hn,hO,ham,hmb,hb,hlo,hhi=>by omega
 |n+1,a,m,b,d,fr,hn,hO,ham,hmb,hb,hlo,hhi=>by
  have hsz:=hO.sz;have e1:w ((m:Int)-(a:Int))=((m-a:Nat):Int):=by rw[wA (by omega) (by omega)];omega
  have e2:w ((b:Int)-(m:Int))=((b-m:Nat):Int):=by rw[wA (by omega) (by omega)];omega
  by_cases h1:m=a+1
  .subst h1;obtain⟨g,G1,G2,f,hf⟩:=l_m0 x a b d hO hb hhi _ (a+1) b fr (Yc _) (by omega) (by omega) (Yc _) (.inl rfl) (.inl rfl);refine⟨g,G1,G2,f,Zv6 ?_⟩;rw[e1,if_pos (by omega)];exact hf
  .by_cases h2:b=m+1
   .subst h2;obtain⟨g,G1,G2,f,hf⟩:=l_m2 x a m d hO (by omega) hlo _ a m fr (Yc _) (Yc _) (by omega) (Yc _) (.inl rfl) (.inl rfl);refine⟨g,G1,G2,f,Zv6 ?_⟩;rw[e1,if_neg (by omega),e2,if_pos (by omega)];exact hf
   .have e3:w ((((a+b) / 2:Nat):Int)+(m:Int))=(((a+b) / 2+m:Nat):Int):=by rw[wA (by omega) (by omega)];omega
    have e4:w ((((a+b) / 2+m:Nat):Int)-1)=(((a+b) / 2+m-1:Nat):Int):=by rw[wA (by omega) (by omega)];omega
    by_cases h3:(a+b) / 2<m
    .have e5:w ((((a+b) / 2+m:Nat):Int)-(b:Int))=(((a+b) / 2+m-b:Nat):Int):=by rw[wA (by omega) (by omega)];omega
     obtain⟨g,G1,G2,f,hf⟩:=l_m4 x n a m b d (x_sym x n) hn hO (by omega) (by omega) hb hlo hhi _ ((a+b) / 2+m-b) ((a+b) / 2) fr (Yc _) (by omega) (by omega) (by omega) (Yc _) (by omega) (.inl (.inr (by omega))) (.inl (.inl rfl));refine⟨g,G1,G2,f,Zv6 ?_⟩;rw[e1,if_neg (by omega),e2,if_neg (by omega),Zi7 (by omega),if_pos (by omega),e3,e4,e5];exact hf
    .obtain⟨g,G1,G2,f,hf⟩:=l_m4 x n a m b d (x_sym x n) hn hO (by omega) (by omega) hb hlo hhi _ a m fr (Yc _) (Yc _) (by omega) (Yc _) (by omega) (by omega) (.inl (.inl rfl)) (.inl (.inr rfl));refine⟨g,G1,G2,f,Zv6 ?_⟩;rw[e1,if_neg (by omega),e2,if_neg (by omega),Zi7 (by omega),if_neg (by omega),e3,e4];exact hf
def StdS(x:Nat)(d0:AR)(v:Rs):Prop:=∃e,Stp (kx x) 0 d0.size d0 e/\Srt (kx x) 0 d0.size e/\Rz e x v
theorem l_s1(x bs:Nat)(d0:AR)(hbs:0<bs)(hO0:OkC x d0)(hbn:bs<d0.size)(IH:∀(e:AR) (fr:Bool),OkC x e->Stp (kx x) 0 d0.size d0 e->Bks (kx x) (2*bs) d0.size e->StdS x d0 (Zhe fr e.toList x d0.size ((2*bs:Nat):Int))) :
  ∀(n a:Nat) (e:AR) (fr:Bool),d0.size-a<=n->a<=d0.size->OkC x e->Stp (kx x) 0 d0.size d0 e->Mid (kx x) bs d0.size a e->StdS x d0 (Zj9 fr e.toList x d0.size bs a ((a+2*bs:Nat):Int))
 |n,a,e,fr,hn,han,hO,T,M=>by
  have hsz:=hO0.sz;have hes:=T.size;obtain⟨t1,t2⟩:=M.two;have e1:w ((a:Int)+(bs:Int))=((a+bs:Nat):Int):=by rw[wA (by omega) (by omega)];omega
  have e2:w (2*(bs:Int))=((2*bs:Nat):Int):=by rw[wA (by omega) (by omega)];omega
  have e3:w (((a+2*bs:Nat):Int)+((2*bs:Nat):Int))=((a+2*bs+2*bs:Nat):Int):=by rw[wA (by omega) (by omega)];omega
  have e4:w ((bs:Int)*2)=((2*bs:Nat):Int):=by rw[wA (by omega) (by omega)];omega
  by_cases h:a+2*bs<=d0.size
  .match n,hn with
   |0,hn=>omega
   |n+1,hn =>
   obtain⟨g,G1,G2,f,hf⟩:=x_sym x _ a (a+bs) (a+2*bs) e fr (Yc _) hO (by omega) (by omega) (by omega) (by rw[Y0 (by omega)]at t1;exact t1) (by rw[Y0 (by omega)]at t2;exact t2);obtain⟨r,R1,R2,f2,hf2⟩:=l_s1 x bs d0 hbs hO0 hbn IH n (a+2*bs) g f (by omega) h (hO.stp G1 (by omega)) (T.trans (G1.mono (Yb _) h)) (M.next G1 G2);refine⟨r,R1,R2,f2,Z4n ?_⟩;rw[if_pos (by omega),e1,e2,e3];exact⟨_,_,_,hf,hf2⟩
  .by_cases h2:a+bs<d0.size
   .obtain⟨g,G1,G2,f,hf⟩:=x_sym x _ a (a+bs) d0.size e fr (Yc _) hO (by omega) (by omega) (by omega) (by rw[Y0 (by omega)]at t1;exact t1) (by rw[Nat.min_eq_right (by omega)]at t2;exact t2);obtain⟨r,R1,R2,f2,hf2⟩:=IH g f (hO.stp G1 (by omega)) (T.trans (G1.mono (Yb _) (Yc _))) (M.end_ (by omega) G1 G2);refine⟨r,R1,R2,f2,Z4n ?_⟩;rw[if_neg (by omega),e1,if_pos (by omega),e4];exact⟨_,_,_,hf,hf2⟩
   .obtain⟨r,R1,R2,f2,hf2⟩:=IH e fr hO T (M.end_ (by omega) (.refl _ _ _) (by rw[Nat.min_eq_right (by omega)]at t1;exact t1));refine⟨r,R1,R2,f2,Z4n ?_⟩;rw[if_neg (by omega),e1,if_neg (by omega),e4];exact hf2
theorem l_s2(x:Nat)(d0:AR)(hO0:OkC x d0):∀(n bs:Nat) (e:AR) (fr:Bool),d0.size-bs<=n->0<bs->bs<=8192->OkC x e->Stp (kx x) 0 d0.size d0 e->Bks (kx x) bs d0.size e->StdS x d0 (Zhe fr e.toList x d0.size bs)
 |n,bs,e,fr,hn,hbs,hb8,hO,T,B=>by
  have hsz:=hO0.sz;by_cases h:bs<d0.size
  .match n,hn with
   |0,hn=>omega
   |n+1,hn =>
   have e2:w (2*(bs:Int))=((0+2*bs:Nat):Int):=by rw[wA (by omega) (by omega)];omega
   obtain⟨r,R1,R2,f2,hf2⟩:=l_s1 x bs d0 hbs hO0 h (λe fr hO T B=>l_s2 x d0 hO0 n (2*bs) e fr (by omega) (by omega) (by omega) hO T B) _ 0 e fr (Yc _) (Yb _) hO T (.start B);refine⟨r,R1,R2,f2,Zbfe ?_⟩;rw[if_pos (by omega),e2];exact hf2
  .refine⟨e,T,B.whole (by omega),fr,Zbfe ?_⟩;rw[if_neg (by omega)]
theorem l_s0(x:Nat)(d0:AR)(hO0:OkC x d0):∀(n a:Nat) (e:AR) (fr:Bool),d0.size-a<=n->a<=d0.size->OkC x e->Stp (kx x) 0 d0.size d0 e->Ini (kx x) a e->StdS x d0 (Zj8 fr e.toList x d0.size 20 a ((a+20:Nat):Int))
 |n,a,e,fr,hn,han,hO,T,M=>by
  have hsz:=hO0.sz;have hes:=T.size;by_cases h:a+20<=d0.size
  .match n,hn with
   |0,hn=>omega
   |n+1,hn =>
   obtain⟨g,G1,G2,f,hf⟩:=x_ins (x:=x) (a:=a) (b:=a+20) (d:=e) fr hO (by omega) (by omega);obtain⟨r,R1,R2,f2,hf2⟩:=l_s0 x d0 hO0 n (a+20) g f (by omega) h (hO.stp G1 (by omega)) (T.trans (G1.mono (Yb _) h)) (M.next G1 G2);refine⟨r,R1,R2,f2,Zbfd ?_⟩;rw[if_pos (by omega),wA (by omega) (by omega)];exact⟨_,_,_,hf,by exact_mod_cast hf2⟩
  .obtain⟨g,G1,G2,f,hf⟩:=x_ins (x:=x) (a:=a) (b:=d0.size) (d:=e) fr hO han (by omega);obtain⟨r,R1,R2,f2,hf2⟩:=l_s2 x d0 hO0 _ 20 g f (Yc _) (by omega) (by omega) (hO.stp G1 (by omega)) (T.trans (G1.mono (Yb _) (Yc _))) (M.end_ (by omega) G1 G2);refine⟨r,R1,R2,f2,Zbfd ?_⟩;rw[if_neg (by omega)];exact⟨_,_,_,hf,hf2⟩
theorem x_stable{x:Nat}{rows:List (List Int)}(hl:rows.length<=4096)(hk:∀r∈rows,okC x r):∃fr,Zus rows x=some (.tup [],[.arr 30 1 fr ((stbR x rows).map isc),.box [I x]]):=by
 have hO:OkC x rows.toArray:=⟨by simpa using hl,λi hi=>by
  have hi':i<rows.length:=by simpa using hi
  rw[getElem!_pos rows.toArray i hi]
  exact hk _ (by simp)⟩
 obtain⟨e,S,T,f,hf⟩:=l_s0 x rows.toArray hO _ 0 rows.toArray true (Yc _) (Yb _) hO (.refl _ _ _) (.start _)
 have hc:=S.classes (n:=10) T (λr hr=>by
  have:=hk r (by simpa using hr);unfold okC at this
  omega)
 rw[hc]at hf;refine⟨f,Zbwc ⟨_,_,_,Zbwb hf,rfl⟩⟩
end Go.Proofs.YtgnfoghkbpkgjaaGreat
namespace Go.Proofs.YtgnfoghkbpkgjaaGreat
open Go.RowKit Go.Lib
theorem Zbi4(x:Int)(w:World):Calls Tryz.prog 438 #[.int .i64 x] w λe w'=>e=.returned (.bool false)/\w'=w:=by
 go_enter Tryz.func438,Tryz.ntmps438
 go_wp2
 go_ret
 exact⟨by simp,rfl⟩
def c3(x y:Int):Int:=if x<y then -1 else if y<x then 1 else 0
theorem cmp_walk(x y:Int)(w:World):Calls Tryz.prog 428 #[.int .i64 x,.int .i64 y] w λe w'=>e=.returned (.int .i64 (c3 x y))/\w'=w:=by
 have h1:=Zbi4 x w;have h2:=Zbi4 y w;by_cases e1:x<y
 .go_enter Tryz.func428,Tryz.ntmps428
  go_wp2_with (first|(refine h1.mono ?_;rintro e w' ⟨rfl,rfl⟩)|(refine h2.mono ?_;rintro e w' ⟨rfl,rfl⟩))
  go_ret
  exact⟨by simp[c3,e1],rfl⟩
 .by_cases e2:y<x
  .go_enter Tryz.func428,Tryz.ntmps428
   go_wp2_with (first|(refine h1.mono ?_;rintro e w' ⟨rfl,rfl⟩)|(refine h2.mono ?_;rintro e w' ⟨rfl,rfl⟩))
   go_ret
   exact⟨by simp[c3,e1,e2],rfl⟩
  .have hc:c3 x y=0:=by unfold c3;rw[if_neg e1,if_neg e2]
   rw[hc];clear hc
   go_enter Tryz.func428,Tryz.ntmps428
   go_wp2_with (first|(refine h1.mono ?_;rintro e w' ⟨rfl,rfl⟩)|(refine h2.mono ?_;rintro e w' ⟨rfl,rfl⟩))
   go_ret
   exact⟨rfl,rfl⟩
def Zhr(w:World)(v:Value)(r:List Int):Prop:=∃a c,v=.slice a r.length c/\∀j (h:j<r.length),∃g off,a=some ⟨g,off,none⟩/\w.cell? ⟨g,off+j,none⟩=some (.int .i64 r[j])
theorem Zb0y{a b:List Int}{k:Nat}(h1:k<a.length)(h2:k<b.length):cmpR (a.drop k) (b.drop k)=if c3 a[k] b[k]=0 then cmpR (a.drop (k+1)) (b.drop (k+1))else c3 a[k] b[k]:=by
 rw[List.drop_eq_getElem_cons h1,List.drop_eq_getElem_cons h2]
 conv=>lhs;unfold cmpR
 unfold c3;by_cases e1:a[k]<b[k]
 .simp[e1]
 .rw[if_neg e1,if_neg e1];by_cases e2:b[k]<a[k]
  .simp[e2]
  .simp[e2]
theorem Zb0z(v1 v2:Value)(a b:List Int)(w:World)(h1:Zhr w v1 a)(h2:Zhr w v2 b)(hl1:a.length<2305843009213693952)(hl2:b.length<2305843009213693952) :
  Calls Tryz.prog 394 #[v1,v2] w λe w'=>e=.returned (.int .i64 (cmpR a b))/\w'=w:=by
 obtain⟨p1,c1,rfl,r1⟩:=h1;obtain⟨p2,c2,rfl,r2⟩:=h2;have mixed:Tryz.prog.follows Departure.mixedOrders=true:=by kernel_rfl
 have hc:=λx y=>cmp_walk x y w
 generalize hR:cmpR a b=R;have HR:Aside (cmpR (a.drop 0) (b.drop 0)=R):=hR;clear hR
 go_enter Tryz.func394,Tryz.ntmps394
 go_wp2
 go_loopg [5,6,7,8,11] a.length (λgg _ _ _ _ s11 wr=>∃kk:Nat,kk<=a.length/\a.length-kk<=gg/\s11=.int .i64 kk/\wr=w/\Aside (kk<=b.length)/\Aside (cmpR (a.drop kk) (b.drop kk)=R))
 case atStart=>exact⟨0,Nat.zero_le _,by omega,rfl,rfl,Nat.zero_le _,HR⟩
 case round =>
  obtain⟨kk,hkk,hg,rfl,rfl,A,B⟩:=hrel;by_cases hlt:kk<a.length
  .have hltz:(kk:Int)<(a.length:Int):=by omega
   obtain⟨g1,o1,rfl,d1⟩:=r1 kk hlt;by_cases hlb:kk<b.length
   .have hltb:¬(b.length:Int)<=(kk:Int):=by omega
    obtain⟨g2,o2,rfl,d2⟩:=r2 kk hlb;have hs:=Zb0y hlt hlb;have hcall:=hc a[kk] b[kk];have S:Aside (cmpR (a.drop kk) (b.drop kk)=if c3 a[kk] b[kk]=0 then cmpR (a.drop (kk+1)) (b.drop (kk+1))else c3 a[kk] b[kk]):=hs;clear hs hc r1 r2;generalize c3 a[kk] b[kk]=z at hcall S;generalize a[kk]=x at hcall d1;generalize b[kk]=y at hcall d2;by_cases hz:z=0
    .subst hz
     go_wp2_with (refine hcall.mono ?_;rintro e w' ⟨rfl,rfl⟩)
     go_roundg (a.length-(kk+1))
     case measure=>omega
     case rel =>
      refine⟨kk+1,by omega,by omega,by go_num,rfl,(show Aside _ from by show kk+1<=b.length;omega),(show Aside _ from ?_)⟩;have:=S.out;rw[B.out]at this;show cmpR (a.drop (kk+1)) (b.drop (kk+1))=R;simpa using this.symm
    .have hr:R=z:=by rw[<-B.out,S.out,if_neg hz]
     go_wp2_with (refine hcall.mono ?_;rintro e w' ⟨rfl,rfl⟩)
     go_ret
     exact⟨by subst hr;rfl,rfl⟩
   .have hltb:(b.length:Int)<=(kk:Int):=by omega
    have hr:R=1:=by
     rw[<-B.out,List.drop_eq_getElem_cons hlt,show b.drop kk=[]from List.drop_of_length_le (by omega)];rfl
    clear hc r2
    go_wp2
    go_ret
    exact⟨by subst hr;rfl,rfl⟩
  .have hltz:¬(kk:Int)<(a.length:Int):=by omega
   have he:kk=a.length:=by omega
   have hA:=A.out;by_cases hlb:(a.length:Int)<(b.length:Int)
   .have hr:R=-1:=by
     rw[<-B.out,he,List.drop_length,List.drop_eq_getElem_cons (l:=b) (i:=a.length) (by omega)];rfl
    clear hc r1 r2
    go_wp2
    go_ret
    exact⟨by subst hr;rfl,rfl⟩
   .have hr:R=0:=by
     rw[<-B.out,he,List.drop_length,show b.drop a.length=[]from List.drop_of_length_le (by omega)];rfl
    clear hc r1 r2
    go_wp2
    go_ret
    exact⟨by subst hr;rfl,rfl⟩
theorem Zb00(v1 v2:Value)(a b:List Int)(w:World)(h1:Zhr w v1 a)(h2:Zhr w v2 b)(hl1:a.length<2305843009213693952)(hl2:b.length<2305843009213693952) :
  Calls Tryz.prog 331 #[v1,v2] w λe w'=>e=.returned (.int .i64 (cmpR a b))/\w'=w:=by
 have hc:=Zb0z v1 v2 a b w h1 h2 hl1 hl2;generalize cmpR a b=R at hc|-;obtain⟨p1,c1,rfl,r1⟩:=h1;obtain⟨p2,c2,rfl,r2⟩:=h2;clear r1 r2
 go_enter Tryz.func331,Tryz.ntmps331
 go_wp2_with (refine hc.mono ?_;rintro e w' ⟨rfl,rfl⟩)
 go_ret
 exact⟨rfl,rfl⟩
end Go.Proofs.YtgnfoghkbpkgjaaGreat
