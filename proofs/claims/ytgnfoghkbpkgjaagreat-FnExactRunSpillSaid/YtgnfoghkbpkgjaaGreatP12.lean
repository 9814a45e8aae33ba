/-
  Parts of the proofs for this seat: STL STM PS1 PS2 PS3 SS CR.
-/
import Derived.Deep.LoopGhost
import Derived.Deep.RegionLaw
import Derived.Lib.SlBy
import Derived.Lib.SliceRun
import Derived.Lib.Walk
import Derived.Shelf.RegionOpenPlain
import Derived.Sort.LotA
import Derived.Test.YtgnfoghkbpkgjaaGreatChecked
import Derived.WalkKit
import Derived.Test.YtgnfoghkbpkgjaaGreatP7
import Derived.Test.YtgnfoghkbpkgjaaGreatP11
set_option linter.unusedSimpArgs false
set_option linter.unusedVariables false
set_option maxRecDepth 100000
set_option maxHeartbeats 4000000
namespace Go.Stb
open Go.Sort
variable {α:Type} [Inhabited α] (k:α→Int)
def ltK (x y:α):Bool:=decide (k x<k y)
def Srt (a b:Nat) (d:Array α):Prop:=∀ x y,a≤x→x<y→y<b→k d[x]!≤k d[y]!
structure Stp (a b:Nat) (d e:Array α):Prop where
 size:e.size=d.size
 out:∀ x,(x<a∨b≤x)→e[x]! = d[x]!
 pres:∀ P:α→Prop,(∀ x,a≤x→x<b→P d[x]!)→∀ x,a≤x→x<b→P e[x]!
 stab:∀ v:Int,e.toList.filter (fun x=>decide (k x=v))=d.toList.filter (fun x=>decide (k x=v))
variable {k}
omit [Inhabited α] in
theorem swoK:SWO (ltK k) where
 irrefl x:=by simp [ltK]
 trans x y z h1 h2:=by simp only [ltK,decide_eq_true_eq] at *;omega
 ntrans x y z h1 h2:=by simp only [ltK,decide_eq_false_iff_not] at *;omega
theorem Stp.refl (a b:Nat) (d:Array α):Stp k a b d d:=⟨rfl,fun _ _=>rfl,fun P h=>h,fun _=>rfl⟩
theorem Stp.trans {a b:Nat} {d e f:Array α} (h:Stp k a b d e) (g:Stp k a b e f):Stp k a b d f :=
 ⟨g.size.trans h.size,fun x hx=>(g.out x hx).trans (h.out x hx),fun P hp=>g.pres P (h.pres P hp),fun v=>(g.stab v).trans (h.stab v)⟩
theorem Stp.mono {a b a' b':Nat} {d e:Array α} (h:Stp k a b d e) (ha:a'≤a) (hb:b≤b'):Stp k a' b' d e where
 size:=h.size
 out x hx:=h.out x (by omega)
 pres P hp x h1 h2:=by
  by_cases hx:a≤x∧x<b
  ·exact h.pres P (fun y y1 y2=>hp y (by omega) (by omega)) x hx.1 hx.2
  ·rw [h.out x (by omega)];exact hp x h1 h2
 stab:=h.stab
theorem Srt.out {a b c d:Nat} {x y:Array α} (h:Srt k a b x) (g:Stp k c d x y) (hd:b≤c∨d≤a):Srt k a b y:=by
 intro i j h1 h2 h3;rw [g.out i (by omega),g.out j (by omega)];exact h i j h1 h2 h3
theorem Srt.sub {a b a' b':Nat} {x:Array α} (h:Srt k a b x) (ha:a≤a') (hb:b'≤b):Srt k a' b' x :=
 fun i j h1 h2 h3=>h i j (by omega) h2 (by omega)
theorem Srt.le {a b:Nat} {x:Array α} (h:Srt k a b x) {i j:Nat} (h1:a≤i) (h2:i≤j) (h3:j<b):k x[i]!≤k x[j]!:=by
 by_cases e:i=j
 ·subst e;exact Int.le_refl _
 ·exact h i j h1 (by omega) h3
theorem Zc9 (d:Array α) (x:Nat) (h:x<d.size):d.toList[x]?=some d[x]!:=by
 rw [Array.getElem?_toList,Array.getElem?_eq_getElem h,getElem!_pos d x h]
theorem Zxg {l:List α} {e:Array α} (hl:l.length=e.size) (h:∀ x,x<e.size→l[x]?=some e[x]!):e.toList=l:=by
 apply List.ext_getElem?;intro x;by_cases hx:x<e.size
 ·rw [Zc9 e x hx,h x hx]
 ·rw [List.getElem?_eq_none (by simpa using hx),List.getElem?_eq_none (by omega)]
omit [Inhabited α] in
theorem Z7i (p x y s:List α) (v:Int) (h:∀ a∈x,∀ b∈y,k a≠k b):(p++y++x++s).filter (fun a=>decide (k a=v))=(p++x++y++s).filter (fun a=>decide (k a=v)):=by
 simp only [List.filter_append];by_cases hx:x.filter (fun a=>decide (k a=v))=[]
 ·rw [hx];simp
 ·by_cases hy:y.filter (fun a=>decide (k a=v))=[]
  ·rw [hy];simp
  ·obtain ⟨a,ha⟩:=List.exists_mem_of_ne_nil _ hx;obtain ⟨b,hb⟩:=List.exists_mem_of_ne_nil _ hy;simp only [List.mem_filter,decide_eq_true_eq] at ha hb;exact absurd (ha.2.trans hb.2.symm) (h a ha.1 b hb.1)
theorem swp_list (d:Array α) (i:Nat) (h:i+1<d.size):(swp d (i+1) i).toList=d.toList.take i++[d[i+1]!]++[d[i]!]++d.toList.drop (i+2):=by
 refine Zxg (by simp [swp_size];omega) fun x hx=>?_
 rw [swp_size] at hx;rw [swp_get d h (show i<d.size by omega)];by_cases h1:x<i
 ·rw [if_neg (by omega),if_neg (by omega),List.append_assoc,List.append_assoc,List.getElem?_append_left (by simp;omega),List.getElem?_take,if_pos h1,Zc9 d x hx]
 ·by_cases h2:x=i
  ·subst h2;rw [if_pos rfl,List.append_assoc,List.append_assoc,List.getElem?_append_right (by simp;omega)];simp [show min x d.size=x by omega]
  ·by_cases h3:x=i+1
   ·subst h3;rw [if_neg (by omega),if_pos rfl,List.append_assoc,List.append_assoc,List.getElem?_append_right (by simp;omega)];simp [show min i d.size=i by omega,show i+1 - i=1 by omega]
   ·rw [if_neg h2,if_neg h3,List.getElem?_append_right (by simp;omega),List.getElem?_drop];rw [show i+2+(x - (d.toList.take i++[d[i+1]!]++[d[i]!]).length)=x by simp;omega];exact Zc9 d x hx
theorem Zxh (d:Array α) (i:Nat) (h:i+1<d.size):d.toList=d.toList.take i++[d[i]!]++[d[i+1]!]++d.toList.drop (i+2):=by
 refine Zxg (by simp;omega) fun x hx=>?_
 by_cases h1:x<i
 ·rw [List.append_assoc,List.append_assoc,List.getElem?_append_left (by simp;omega),List.getElem?_take,if_pos h1,Zc9 d x hx]
 ·by_cases h2:x=i
  ·subst h2;rw [List.append_assoc,List.append_assoc,List.getElem?_append_right (by simp;omega)];simp [show min x d.size=x by omega]
  ·by_cases h3:x=i+1
   ·subst h3;rw [List.append_assoc,List.append_assoc,List.getElem?_append_right (by simp;omega)];simp [show min i d.size=i by omega,show i+1 - i=1 by omega]
   ·rw [List.getElem?_append_right (by simp;omega),List.getElem?_drop];rw [show i+2+(x - (d.toList.take i++[d[i]!]++[d[i+1]!]).length)=x by simp;omega];exact Zc9 d x hx
theorem Zqd (d:Array α) (i:Nat) (h:i+1<d.size) (hk:k d[i+1]!<k d[i]!):Stp k i (i+2) d (swp d (i+1) i):=by
 have g:=swp_get d h (show i<d.size by omega);refine ⟨swp_size _ _ _,fun x hx=>by rw [g,if_neg (by omega),if_neg (by omega)],fun P hp x h1 h2=>?_,fun v=>?_⟩
 ·rw [g];split
  ·exact hp _ (by omega) (by omega)
  ·split
   ·exact hp _ (by omega) (by omega)
   ·exact hp _ h1 h2
 ·rw [swp_list d i h,Zxh d i h];have hl:(d.toList.take i++[d[i]!]++[d[i+1]!]++d.toList.drop (i+2)).take i=d.toList.take i:=by rw [← Zxh d i h]
  have hr:(d.toList.take i++[d[i]!]++[d[i+1]!]++d.toList.drop (i+2)).drop (i+2)=d.toList.drop (i+2):=by rw [← Zxh d i h]
  rw [hl,hr];exact Z7i _ _ _ _ v (by simp;omega)
theorem swp_comm (d:Array α) (i j:Nat) (hi:i<d.size) (hj:j<d.size):swp d i j=swp d j i:=by
 refine Array.ext (by rw [swp_size,swp_size]) fun x h1 h2=>?_
 have g1:=swp_get d hi hj x;have g2:=swp_get d hj hi x;rw [getElem!_pos _ x h1] at g1;rw [getElem!_pos _ x h2] at g2;rw [g1,g2];by_cases e1:x=j
 ·by_cases e2:x=i
  ·subst e1;subst e2;rfl
  ·rw [if_pos e1,if_neg e2,if_pos e1]
 ·by_cases e2:x=i
  ·rw [if_neg e1,if_pos e2,if_pos e2]
  ·rw [if_neg e1,if_neg e2,if_neg e2,if_neg e1]
theorem Zxi (a:Nat):∀ (j:Nat) (d:Array α) (b:Nat),a≤j→j<b→b≤d.size→Stp k a b d (insInner (ltK k) a j d)
 | 0,d,b,_,_,_=>by unfold insInner;exact .refl _ _ _
 | j+1,d,b,haj,hjb,hb=>by
  unfold insInner;split
  ·rename_i hc;simp only [Bool.and_eq_true,decide_eq_true_eq,ltK] at hc;exact ((Zqd d j (by omega) hc.2).mono (by omega) (by omega)).trans (Zxi a j _ b (by omega) (by omega) (by rw [swp_size];exact hb))
  ·exact .refl _ _ _
theorem Z7j (a b:Nat):∀ (n i:Nat) (d:Array α),b - i=n→a<i→b≤d.size→Stp k a b d (insOuter (ltK k) a b i d)
 | 0,i,d,hn,_,_=>by rw [insOuter,if_neg (by omega)];exact .refl _ _ _
 | n+1,i,d,hn,hai,hb=>by
  rw [insOuter,if_pos (by omega)];have h1:=Zxi (k:=k) a i d b (by omega) (by omega) hb;exact h1.trans (Z7j a b n (i+1) _ (by omega) (by omega) (by rw [h1.size];exact hb))
theorem ins_stp (d:Array α) (a b:Nat) (hb:b≤d.size):Stp k a b d (insertionSort (ltK k) d a b):=Z7j a b _ _ d rfl (by omega) hb
theorem ins_srt (d:Array α) (a b:Nat) (hab:a≤b) (hb:b≤d.size):Srt k a b (insertionSort (ltK k) d a b):=by
 have h:=(insertionSort_holds (lt:=ltK k) swoK d a b hab hb).2;intro x y h1 h2 h3;have:=h x y h1 h2 h3;simp only [ltK,decide_eq_false_iff_not] at this;omega
def swr (a b:Nat):Nat→Array α→Array α
 | 0,d=>d
 | n+1,d=>swp (swr a b n d) (a+n) (b+n)
theorem Zd4 (a b:Nat):∀ (n:Nat) (d:Array α),(swr a b n d).size=d.size
 | 0,d=>rfl
 | n+1,d=>by rw [swr,swp_size,Zd4]
theorem Z7k (a b:Nat):∀ (n:Nat) (d:Array α),a+n≤b→b+n≤d.size→∀ x,(swr a b n d)[x]! = if a≤x∧x<a+n then d[b+(x - a)]! else if b≤x∧x<b+n then d[a+(x - b)]! else d[x]!
 | 0,d,_,_,x=>by rw [if_neg (by omega),if_neg (by omega)];rfl
 | n+1,d,h1,h2,x=>by
  have ih:=Z7k a b n d (by omega) (by omega);rw [swr,swp_get _ (by rw [Zd4];omega) (by rw [Zd4];omega),ih,ih,ih];by_cases e1:x=b+n
  ·subst e1;rw [if_pos rfl,if_neg (by omega),if_neg (by omega),if_neg (by omega),if_pos (by omega)];congr 1;omega
  ·rw [if_neg e1];by_cases e2:x=a+n
   ·subst e2;rw [if_pos rfl,if_neg (by omega),if_neg (by omega),if_pos (by omega)];congr 1;omega
   ·rw [if_neg e2];by_cases e3:a≤x∧x<a+n
    ·rw [if_pos e3,if_pos (by omega)]
    ·rw [if_neg e3,if_neg (show ¬(a≤x∧x<a+(n+1)) by omega)];by_cases e4:b≤x∧x<b+n
     ·rw [if_pos e4,if_pos (by omega)]
     ·rw [if_neg e4,if_neg (by omega)]
theorem Zxj (d:Array α) (p x m y s:List α) (h:d.toList=p++(x++(m++(y++s)))) (hxy:y.length=x.length) {a b n:Nat} (ha:a=p.length) (hb:b=a+x.length+m.length) (hn:n=x.length) :
  (swr a b n d).toList=p++(y++(m++(x++s))):=by
 have hs:d.size=p.length+(x.length+(m.length+(y.length+s.length))):=by
  rw [← Array.length_toList,h];simp
 have hd:∀ i,i<d.size→(p++(x++(m++(y++s))))[i]?=some d[i]!:=fun i hi=>by rw [← h];exact Zc9 d i hi
 refine Zxg (by rw [Zd4,hs];simp;omega) fun i hi=>?_
 rw [Zd4] at hi;rw [Z7k a b n d (by omega) (by omega)];by_cases e0:i<p.length
 ·have:=hd i hi;rw [List.getElem?_append_left e0] at this ⊢;rw [if_neg (by omega),if_neg (by omega)];exact this
 ·rw [List.getElem?_append_right (by omega)];by_cases e1:i - p.length<y.length
  ·have:=hd (b+(i - a)) (by omega);rw [List.getElem?_append_right (by omega),List.getElem?_append_right (by omega),List.getElem?_append_right (by omega),List.getElem?_append_left (by omega)] at this;rw [List.getElem?_append_left e1,if_pos (by omega),← this];congr 1;omega
  ·rw [List.getElem?_append_right (by omega)];by_cases e2:i - p.length - y.length<m.length
   ·have:=hd i hi;rw [List.getElem?_append_right (by omega),List.getElem?_append_right (by omega),List.getElem?_append_left (by omega)] at this;rw [List.getElem?_append_left e2,if_neg (by omega),if_neg (by omega),← this];congr 1;omega
   ·rw [List.getElem?_append_right (by omega)];by_cases e3:i - p.length - y.length - m.length<x.length
    ·have:=hd (a+(i - b)) (by omega);rw [List.getElem?_append_right (by omega),List.getElem?_append_left (by omega)] at this;rw [List.getElem?_append_left e3,if_neg (by omega),if_pos (by omega),← this];congr 1;omega
    ·have:=hd i hi;rw [List.getElem?_append_right (by omega),List.getElem?_append_right (by omega),List.getElem?_append_right (by omega),List.getElem?_append_right (by omega)] at this;rw [List.getElem?_append_right (by omega),if_neg (by omega),if_neg (by omega),← this];congr 1;omega
structure Rot (a m b:Nat) (d:Array α) (i j:Nat) (e:Array α):Prop where
 size:e.size=d.size
 ex:∀ P X Y S,d.toList=P++(X++(Y++S))→P.length=a→a+X.length=m→m+Y.length=b →
  ∃ p x y s,e.toList=p++(x++(y++s))∧p.length=m - i∧x.length=i∧y.length=j∧p++(y++(x++s))=P++(Y++(X++S))
omit [Inhabited α] in
theorem Rot.start {a m b:Nat} (d:Array α) (h1:a≤m) (h2:m≤b):Rot a m b d (m - a) (b - m) d :=
 ⟨rfl,fun P X Y S h p1 p2 p3=>⟨P,X,Y,S,h,by omega,by omega,by omega,rfl⟩⟩
theorem Rot.gt {a m b i j:Nat} {d e:Array α} (R:Rot a m b d i j e) (h:j<i) (hi:i≤m):Rot a m b d (i - j) j (swr (m - i) m j e):=by
 refine ⟨(Zd4 _ _ _ _).trans R.size,fun P X Y S h0 p1 p2 p3=>?_⟩;obtain ⟨p,x,y,s,he,q1,q2,q3,q4⟩:=R.ex P X Y S h0 p1 p2 p3;refine ⟨p++y,x.drop j,x.take j,s,?_,by simp;omega,by simp;omega,by simp;omega,?_⟩
 ·rw [Zxj e p (x.take j) (x.drop j) y s (by rw [he,← List.append_assoc (x.take j),List.take_append_drop]) (by simp;omega) (by omega) (by simp;omega) (by simp;omega)];simp
 ·rw [← q4];simp only [List.append_assoc];rw [← List.append_assoc (x.take j),List.take_append_drop]
theorem Rot.lt {a m b i j:Nat} {d e:Array α} (R:Rot a m b d i j e) (h:i<j) (hi:i≤m):Rot a m b d i (j - i) (swr (m - i) (m+j - i) i e):=by
 refine ⟨(Zd4 _ _ _ _).trans R.size,fun P X Y S h0 p1 p2 p3=>?_⟩;obtain ⟨p,x,y,s,he,q1,q2,q3,q4⟩:=R.ex P X Y S h0 p1 p2 p3;refine ⟨p,y.drop (j - i),y.take (j - i),x++s,?_,by omega,by simp;omega,by simp;omega,?_⟩
 ·rw [Zxj e p x (y.take (j - i)) (y.drop (j - i)) s (by rw [he,← List.append_assoc (y.take (j - i)),List.take_append_drop]) (by simp;omega) (by omega) (by simp;omega) (by omega)]
 ·rw [← q4,← List.append_assoc (y.take (j - i)),List.take_append_drop]
theorem Rot.eq {a m b i:Nat} {d e:Array α} (R:Rot a m b d i i e) (hi:i≤m):∀ P X Y S,d.toList=P++(X++(Y++S))→P.length=a→a+X.length=m→m+Y.length=b→(swr (m - i) m i e).toList=P++(Y++(X++S)):=by
 intro P X Y S h0 p1 p2 p3;obtain ⟨p,x,y,s,he,q1,q2,q3,q4⟩:=R.ex P X Y S h0 p1 p2 p3;rw [Zxj e p x [] y s he (by omega) (by omega) (by simp;omega) (by omega),← q4];rfl
structure Rtd (a m b:Nat) (d e:Array α):Prop where
 size:e.size=d.size
 lo:∀ x,a≤x→x<a+(b - m)→e[x]! = d[m+(x - a)]!
 hi:∀ x,a+(b - m)≤x→x<b→e[x]! = d[a+(x - (a+(b - m)))]!
 out:∀ x,(x<a∨b≤x)→e[x]! = d[x]!
 list:e.toList=d.toList.take a++((d.toList.drop m).take (b - m)++((d.toList.drop a).take (m - a)++d.toList.drop b))
omit [Inhabited α] in
theorem Zxk (d:Array α) (a m b:Nat) (h1:a≤m) (h2:m≤b) (h3:b≤d.size):d.toList=d.toList.take a++((d.toList.drop a).take (m - a)++((d.toList.drop m).take (b - m)++d.toList.drop b)):=by
 have e1:d.toList.drop b=(d.toList.drop m).drop (b - m):=by rw [List.drop_drop];congr 1;omega
 have e2:d.toList.drop m=(d.toList.drop a).drop (m - a):=by rw [List.drop_drop];congr 1;omega
 rw [e1,List.take_append_drop,e2,List.take_append_drop,List.take_append_drop]
theorem rtd_of {a m b:Nat} {d e:Array α} (h1:a≤m) (h2:m≤b) (h3:b≤d.size) (h:∀ P X Y S,d.toList=P++(X++(Y++S))→P.length=a→a+X.length=m→m+Y.length=b→e.toList=P++(Y++(X++S))):Rtd a m b d e:=by
 have hl:=h _ _ _ _ (Zxk d a m b h1 h2 h3) (by simp;omega) (by simp;omega) (by simp;omega);have hs:e.size=d.size:=by rw [← Array.length_toList,hl];simp;omega
 have hg:∀ x,x<d.size→some e[x]! = (d.toList.take a++((d.toList.drop m).take (b - m)++((d.toList.drop a).take (m - a)++d.toList.drop b)))[x]?:=fun x hx=>by rw [← hl,Zc9 e x (by omega)]
 refine ⟨hs,fun x p q=>?_,fun x p q=>?_,fun x p=>?_,hl⟩
 ·have:=hg x (by omega);rw [List.getElem?_append_right (by simp;omega),List.getElem?_append_left (by simp;omega),List.getElem?_take,if_pos (by simp;omega),List.getElem?_drop,Zc9 d _ (by simp;omega)] at this;rw [Option.some.inj this];congr 1;simp;omega
 ·have:=hg x (by omega);rw [List.getElem?_append_right (by simp;omega),List.getElem?_append_right (by simp;omega),List.getElem?_append_left (by simp;omega),List.getElem?_take,if_pos (by simp;omega),List.getElem?_drop,Zc9 d _ (by simp;omega)] at this;rw [Option.some.inj this];congr 1;simp;omega
 ·by_cases hx:x<d.size
  ·have:=hg x hx;rcases p with p | p
   ·rw [List.getElem?_append_left (by simp;omega),List.getElem?_take,if_pos p,Zc9 d _ hx] at this;exact Option.some.inj this
   ·rw [List.getElem?_append_right (by simp;omega),List.getElem?_append_right (by simp;omega),List.getElem?_append_right (by simp;omega),List.getElem?_drop,Zc9 d _ (by simp;omega)] at this;rw [Option.some.inj this];congr 1;simp;omega
  ·rw [getElem!_neg e x (by omega),getElem!_neg d x hx]
theorem Rtd.stp {a m b:Nat} {d e:Array α} (R:Rtd a m b d e) (h1:a≤m) (h2:m≤b) (h3:b≤d.size) (hk:∀ x y,a≤x→x<m→m≤y→y<b→k d[y]!<k d[x]!):Stp k a b d e:=by
 refine ⟨R.size,R.out,fun P hp x p q=>?_,fun v=>?_⟩
 ·by_cases hx:x<a+(b - m)
  ·rw [R.lo x p hx];exact hp _ (by omega) (by omega)
  ·rw [R.hi x (by omega) q];exact hp _ (by omega) (by omega)
 ·have hc:=Zxk d a m b h1 h2 h3;have hl:=R.list;generalize hP:d.toList.take a=P at hc hl;generalize hX:(d.toList.drop a).take (m - a)=X at hc hl;generalize hY:(d.toList.drop m).take (b - m)=Y at hc hl;generalize d.toList.drop b=S at hc hl;rw [hl,hc]
  have:=Z7i (k:=k) P X Y S v (fun x hx y hy=>by
   rw [← hX] at hx;rw [← hY] at hy;obtain ⟨i,hi,ei⟩:=List.getElem_of_mem hx;obtain ⟨j,hj,ej⟩:=List.getElem_of_mem hy;simp only [List.length_take,List.length_drop,Array.length_toList] at hi hj;rw [List.getElem_take,List.getElem_drop] at ei ej;have:=hk (a+i) (m+j) (by omega) (by omega) (by omega) (by omega);rw [getElem!_pos d _ (by omega),getElem!_pos d _ (by omega)] at this;rw [← ei,← ej,Array.getElem_toList,Array.getElem_toList]
   omega)
  simpa only [List.append_assoc] using this
end Go.Stb
namespace Go.Stb
open Go.Sort
variable {α:Type} [Inhabited α] {k:α→Int}
structure Shl (a q:Nat) (d e:Array α):Prop where
 size:e.size=d.size
 aq:a≤q
 le:∀ x,a≤x→x<q→e[x]! = d[x+1]!
 at_:e[q]! = d[a]!
 out:∀ x,(x<a∨q<x)→e[x]! = d[x]!
theorem Shl.start (a:Nat) (d:Array α):Shl a a d d:=⟨rfl,Nat.le_refl _,fun x h1 h2=>by omega,rfl,fun _ _=>rfl⟩
theorem Shl.next {a q:Nat} {d e:Array α} (h:Shl a q d e) (hq:q+1<d.size):Shl a (q+1) d (swp e (q+1) q):=by
 have hs:=h.size;have haq:=h.aq;have g:=swp_get e (show q+1<e.size by omega) (show q<e.size by omega);refine ⟨(swp_size _ _ _).trans hs,by omega,fun x h1 h2=>?_,?_,fun x hx=>?_⟩
 ·rw [g];by_cases e1:x=q
  ·subst e1;rw [if_pos rfl,h.out _ (by omega)]
  ·rw [if_neg e1,if_neg (by omega)];exact h.le x h1 (by omega)
 ·rw [g,if_neg (by omega),if_pos rfl,h.at_]
 ·rw [g,if_neg (by omega),if_neg (by omega)];exact h.out x (by omega)
theorem Shl.stp {a q:Nat} {d e:Array α} (h:Shl a q d e) (hq:q+1<d.size) (hk:k d[q+1]!<k d[a]!):Stp k q (q+2) e (swp e (q+1) q) :=
 Zqd e q (by rw [h.size];exact hq) (by rw [h.at_,h.out _ (by omega)];exact hk)
theorem Shl.srt {a i b:Nat} {d e:Array α} (h:Shl a i d e) (hs:Srt k (a+1) b d) (h1:i=a∨k d[i]!<k d[a]!) (h2:i+1=b∨k d[a]!≤k d[i+1]!) (hib:i<b):Srt k a b e:=by
 have hi:=h.aq;intro x y hx hxy hy;by_cases e1:y<i
 ·rw [h.le x hx (by omega),h.le y (by omega) e1];exact hs _ _ (by omega) (by omega) (by omega)
 ·by_cases e2:y=i
  ·subst e2;rw [h.le x hx hxy,h.at_];have:=hs.le (i:=x+1) (j:=y) (by omega) (by omega) (by omega);rcases h1 with h1 | h1 <;> omega
  ·rw [h.out y (by omega)];by_cases e3:x=i
   ·subst e3;rw [h.at_];have:=hs.le (i:=x+1) (j:=y) (by omega) (by omega) hy;rcases h2 with h2 | h2 <;> omega
   ·by_cases e4:x<i
    ·rw [h.le x hx e4];exact hs _ _ (by omega) (by omega) hy
    ·rw [h.out x (by omega)];exact hs _ _ (by omega) hxy hy
structure Shr (q m:Nat) (d e:Array α):Prop where
 size:e.size=d.size
 qm:q≤m
 le:∀ x,q<x→x≤m→e[x]! = d[x - 1]!
 at_:e[q]! = d[m]!
 out:∀ x,(x<q∨m<x)→e[x]! = d[x]!
theorem Shr.start (m:Nat) (d:Array α):Shr m m d d:=⟨rfl,Nat.le_refl _,fun x h1 h2=>by omega,rfl,fun _ _=>rfl⟩
theorem Shr.next {q m:Nat} {d e:Array α} (h:Shr (q+1) m d e) (hm:m<d.size):Shr q m d (swp e (q+1) q):=by
 have hs:=h.size;have hqm:=h.qm;have g:=swp_get e (show q+1<e.size by omega) (show q<e.size by omega);refine ⟨(swp_size _ _ _).trans hs,by omega,fun x h1 h2=>?_,?_,fun x hx=>?_⟩
 ·rw [g,if_neg (by omega)];by_cases e1:x=q+1
  ·subst e1;rw [if_pos rfl,h.out _ (by omega)];rfl
  ·rw [if_neg e1];exact h.le x (by omega) h2
 ·rw [g,if_pos rfl,h.at_]
 ·rw [g,if_neg (by omega),if_neg (by omega)];exact h.out x (by omega)
theorem Shr.stp {q m:Nat} {d e:Array α} (h:Shr (q+1) m d e) (hm:m<d.size) (hk:k d[m]!<k d[q]!):Stp k q (q+2) e (swp e (q+1) q):=by
 have:=h.qm;exact Zqd e q (by rw [h.size];omega) (by rw [h.at_,h.out _ (by omega)];exact hk)
theorem Shr.srt {a i m:Nat} {d e:Array α} (h:Shr i m d e) (hs:Srt k a m d) (h1:i=a∨k d[i - 1]!≤k d[m]!) (h2:i=m∨k d[m]!<k d[i]!) (hai:a≤i):Srt k a (m+1) e:=by
 have hi:=h.qm;intro x y hx hxy hy;by_cases e1:i<x
 ·rw [h.le x e1 (by omega),h.le y (by omega) (by omega)];exact hs _ _ (by omega) (by omega) (by omega)
 ·by_cases e2:x=i
  ·subst e2;rw [h.at_,h.le y hxy (by omega)];have:=hs.le (i:=x) (j:=y - 1) (by omega) (by omega) (by omega);rcases h2 with h2 | h2 <;> omega
  ·rw [h.out x (by omega)];by_cases e3:y=i
   ·subst e3;rw [h.at_];have:=hs.le (i:=x) (j:=y - 1) (by omega) (by omega) (by omega);rcases h1 with h1 | h1 <;> omega
   ·by_cases e4:i<y
    ·rw [h.le y e4 (by omega)];exact hs.le (by omega) (by omega) (by omega)
    ·rw [h.out y (by omega)];exact hs _ _ (by omega) hxy (by omega)
structure Cut (k:α→Int) (a m b mid s:Nat) (d:Array α):Prop where
 am:a<m
 mb:m<b
 sz:b≤d.size
 l1:a<mid
 l2:mid<b
 s1:a≤s
 s2:s≤m
 s3:s≤mid
 s4:mid+m≤s+b
 lo:Srt k a m d
 hi:Srt k m b d
 c1:(s=a∨mid+m=s+b)∨k d[s - 1]!≤k d[mid+m - s]!
 c2:(s=mid∨s=m)∨k d[mid+m - s - 1]!<k d[s]!
theorem rtd_triv {s m e:Nat} (d:Array α) (h1:s≤m) (h2:m≤e) (h3:e≤d.size) (h:s=m∨e=m):Rtd s m e d d:=by
 refine ⟨rfl,fun x p q=>?_,fun x p q=>?_,fun _ _=>rfl,?_⟩
 ·congr 1;omega
 ·congr 1;omega
 ·have hc:=Zxk d s m e h1 h2 h3;rcases h with h | h
  ·rw [h,Nat.sub_self,List.take_zero] at hc ⊢;simpa using hc
  ·rw [h,Nat.sub_self,List.take_zero] at hc ⊢;simpa using hc
structure Cutd (k:α→Int) (a b mid s t:Nat) (d e:Array α):Prop where
 stp:Stp k a b d e
 q1:Srt k a s e
 q2:Srt k s mid e
 q3:Srt k mid t e
 q4:Srt k t b e
 cross:∀ x y,a≤x→x<mid→mid≤y→y<b→k e[x]!≤k e[y]!
theorem Cut.turn {a m b mid s:Nat} {d e:Array α} (C:Cut k a m b mid s d) (R:Rtd s m (mid+m - s) d e):Cutd k a b mid s (mid+m - s) d e:=by
 obtain ⟨am,mb,sz,l1,l2,s1,s2,s3,s4,lo,hi,c1,c2⟩:=C;have hlo:∀ x,s≤x→x<mid→e[x]! = d[m+(x - s)]!:=fun x p q=>R.lo x p (by omega)
 have hhi:∀ x,mid≤x→x<mid+m - s→e[x]! = d[s+(x - mid)]!:=fun x p q=>by
  rw [R.hi x (by omega) q];congr 1;omega
 refine ⟨?_,?_,?_,?_,?_,?_⟩
 ·refine (R.stp s2 (by omega) (by omega) fun x y p q r t=>?_).mono s1 (by omega);have h1:=lo.le (i:=s) (j:=x) s1 p q;have h2:=hi.le (i:=y) (j:=mid+m - s - 1) r (by omega) (by omega);rcases c2 with c2 | c2 <;> omega
 ·intro x y p q r;rw [R.out x (by omega),R.out y (by omega)];exact lo x y p q (by omega)
 ·intro x y p q r;rw [hlo x p (by omega),hlo y (by omega) r];exact hi _ _ (by omega) (by omega) (by omega)
 ·intro x y p q r;rw [hhi x p (by omega),hhi y (by omega) r];exact lo _ _ (by omega) (by omega) (by omega)
 ·intro x y p q r;rw [R.out x (by omega),R.out y (by omega)];exact hi x y (by omega) q r
 ·intro x y p q r t;by_cases hx:x<s
  ·rw [R.out x (by omega)];by_cases hy:y<mid+m - s
   ·rw [hhi y r hy];exact lo.le p (by omega) (by omega)
   ·rw [R.out y (by omega)];have h1:=lo.le (i:=x) (j:=s - 1) p (by omega) (by omega);have h2:=hi.le (i:=mid+m - s) (j:=y) (by omega) (by omega) t;rcases c1 with c1 | c1 <;> omega
  ·rw [hlo x (by omega) q];by_cases hy:y<mid+m - s
   ·rw [hhi y r hy];have h1:=hi.le (i:=m+(x - s)) (j:=mid+m - s - 1) (by omega) (by omega) (by omega);have h2:=lo.le (i:=s) (j:=s+(y - mid)) s1 (by omega) (by omega);rcases c2 with c2 | c2 <;> omega
   ·rw [R.out y (by omega)];exact hi.le (by omega) (by omega) t
theorem Cutd.join {a b mid s t:Nat} {d e f g:Array α} (C:Cutd k a b mid s t d e) (h1:a≤mid) (h2:mid≤b) (F:Stp k a mid e f) (F':Srt k a mid f) (G:Stp k mid b f g) (G':Srt k mid b g):Stp k a b d g∧Srt k a b g:=by
 refine ⟨(C.stp.trans (F.mono (Nat.le_refl _) h2)).trans (G.mono h1 (Nat.le_refl _)),?_⟩;intro x y p q r;by_cases hy:y<mid
 ·rw [G.out x (by omega),G.out y (by omega)];exact F' x y p q hy
 ·by_cases hx:mid≤x
  ·exact G' x y hx q r
  ·have hf:∀ x,a≤x→x<mid→∀ z,mid≤z→z<b→k f[x]!≤k e[z]!:=by
    refine F.pres (fun v=>∀ z,mid≤z→z<b→k v≤k e[z]!) fun x p q z r t=>C.cross x z p q r t
   have hg:∀ y,mid≤y→y<b→k f[x]!≤k g[y]!:=by
    refine G.pres (fun v=>k f[x]!≤k v) fun y r t=>?_
    rw [F.out y (by omega)];exact hf x p (by omega) y r t
   rw [G.out x (by omega)];exact hg y (by omega) r
theorem Z7l {a s b:Nat} {e:Array α} (h1:Srt k a s e) (h2:Srt k s b e) (h:¬ (a<s∧s<b)) (h3:a≤s) (h4:s≤b):Srt k a b e:=by
 by_cases h5:a=s
 ·subst h5;exact h2
 ·have:s=b:=by omega
  subst this;exact h1
def Bks (k:α→Int) (bs n:Nat) (d:Array α):Prop:=∀ c,Srt k (c*bs) (min ((c+1)*bs) n) d
def Mid (k:α→Int) (bs n a:Nat) (d:Array α):Prop:=∃ t,a=t*(2*bs)∧(∀ c,c<t→Srt k (c*(2*bs)) ((c+1)*(2*bs)) d)∧∀ c,2*t≤c→Srt k (c*bs) (min ((c+1)*bs) n) d
theorem Mid.start {bs n:Nat} {d:Array α} (h:Bks k bs n d):Mid k bs n 0 d:=⟨0,by omega,fun c hc=>by omega,fun c _=>h c⟩
theorem Mid.two {bs n a:Nat} {d:Array α} (h:Mid k bs n a d):Srt k a (min (a+bs) n) d∧Srt k (a+bs) (min (a+2*bs) n) d:=by
 obtain ⟨t,rfl,h1,h2⟩:=h;have g1:=h2 (2*t) (by omega);have g2:=h2 (2*t+1) (by omega);have e1:2*t*bs=t*(2*bs):=by rw [Nat.mul_comm 2 t,Nat.mul_assoc]
 have e2:(2*t+1)*bs=t*(2*bs)+bs:=by rw [Nat.add_mul,e1];omega
 have e3:(2*t+1+1)*bs=t*(2*bs)+2*bs:=by rw [Nat.add_mul,e2];omega
 rw [e1,e2] at g1;rw [e2,e3] at g2;exact ⟨g1,g2⟩
theorem Mid.next {bs n a:Nat} {d e:Array α} (h:Mid k bs n a d) (S:Stp k a (a+2*bs) d e) (S':Srt k a (a+2*bs) e):Mid k bs n (a+2*bs) e:=by
 obtain ⟨t,rfl,h1,h2⟩:=h;refine ⟨t+1,by rw [Nat.add_mul];omega,fun c hc=>?_,fun c hc=>?_⟩
 ·by_cases e1:c=t
  ·subst e1;rw [Nat.add_mul,Nat.one_mul];exact S'
  ·refine (h1 c (by omega)).out S (.inl ?_);exact Nat.mul_le_mul_right _ (by omega)
 ·refine (h2 c (by omega)).out S (.inr ?_);have:(2*(t+1))*bs≤c*bs:=Nat.mul_le_mul_right _ (by omega);have e1:(2*(t+1))*bs=t*(2*bs)+2*bs:=by
   rw [Nat.mul_add,Nat.add_mul,Nat.mul_comm 2 t,Nat.mul_assoc]
  omega
theorem Mid.end_ {bs n a:Nat} {d e:Array α} (h:Mid k bs n a d) (hn:n<a+2*bs) (S:Stp k a n d e) (S':Srt k a n e):Bks k (2*bs) n e:=by
 obtain ⟨t,rfl,h1,h2⟩:=h;intro c;by_cases e1:c<t
 ·have:(c+1)*(2*bs)≤t*(2*bs):=Nat.mul_le_mul_right _ (by omega);exact ((h1 c e1).sub (Nat.le_refl _) (Nat.min_le_left _ _)).out S (.inl (by omega))
 ·by_cases e2:c=t
  ·subst e2;exact S'.sub (Nat.le_refl _) (Nat.min_le_right _ _)
  ·have:(t+1)*(2*bs)≤c*(2*bs):=Nat.mul_le_mul_right _ (by omega);rw [Nat.add_mul] at this;intro x y p q r;omega
def Ini (k:α→Int) (a:Nat) (d:Array α):Prop:=∃ t,a=t*20∧∀ c,c<t→Srt k (c*20) ((c+1)*20) d
theorem Ini.start (d:Array α):Ini k 0 d:=⟨0,by omega,fun c hc=>by omega⟩
theorem Ini.next {a:Nat} {d e:Array α} (h:Ini k a d) (S:Stp k a (a+20) d e) (S':Srt k a (a+20) e):Ini k (a+20) e:=by
 obtain ⟨t,rfl,h1⟩:=h;refine ⟨t+1,by omega,fun c hc=>?_⟩;by_cases e1:c=t
 ·subst e1;rw [Nat.add_mul];exact S'
 ·exact (h1 c (by omega)).out S (.inl (by omega))
theorem Ini.end_ {a n:Nat} {d e:Array α} (h:Ini k a d) (hn:n<a+20) (S:Stp k a n d e) (S':Srt k a n e):Bks k 20 n e:=by
 obtain ⟨t,rfl,h1⟩:=h;intro c;by_cases e1:c<t
 ·exact ((h1 c e1).sub (Nat.le_refl _) (Nat.min_le_left _ _)).out S (.inl (by omega))
 ·by_cases e2:c=t
  ·subst e2;exact S'.sub (Nat.le_refl _) (Nat.min_le_right _ _)
  ·intro x y p q r;omega
theorem Bks.whole {bs n:Nat} {d:Array α} (h:Bks k bs n d) (hn:n≤bs):Srt k 0 n d:=by
 have:=h 0;rw [Nat.zero_mul,Nat.zero_add,Nat.one_mul,Nat.min_eq_right hn] at this;exact this
omit [Inhabited α] in
theorem Zxl:∀ (n:Nat) (lo:Int) (l:List α),l.Pairwise (fun a b=>k a≤k b)→(∀ x∈l,lo≤k x∧k x<lo+n)→l=(List.range n).flatMap fun i:Nat=>l.filter (fun x=>decide (k x=lo+(i:Int)))
 | 0,lo,l,_,h=>by
  cases l with
  | nil=>rfl
  | cons x l=>have:=h x (by simp);omega
 | n+1,lo,l,hp,h=>by
  have ih:=Zxl n lo (l.filter (fun x=>decide (k x<lo+n))) (hp.filter _) (fun x hx=>by
   have:=List.mem_filter.1 hx
   exact ⟨(h x this.1).1,by simpa using this.2⟩)
  rw [List.range_succ,List.flatMap_append];have e1:(List.range n).flatMap (fun i:Nat=>(l.filter (fun x=>decide (k x<lo+n))).filter (fun x=>decide (k x=lo+(i:Int))))=(List.range n).flatMap fun i:Nat=>l.filter (fun x=>decide (k x=lo+(i:Int))):=by
   simp only [List.flatMap_def];congr 1;refine List.map_congr_left fun i hi=>?_
   rw [List.filter_filter];refine List.filter_congr fun x hx=>?_
   have:=List.mem_range.1 hi;by_cases e:k x=lo+(i:Int)
   ·simp only [e,decide_true,Bool.true_and,decide_eq_true_eq];omega
   ·simp [e]
  rw [← e1,← ih];simp only [List.flatMap_cons,List.flatMap_nil,List.append_nil];clear ih e1
  induction l with
  | nil=>rfl
  | cons x l ih =>
   have hx:=h x (by simp);have hp2:=List.pairwise_cons.1 hp;have ih:=ih hp2.2 (fun y hy=>h y (by simp [hy]));by_cases hl:k x<lo+n
   ·rw [List.filter_cons_of_pos (by simpa using hl),List.filter_cons_of_neg (by simp;omega),List.cons_append,← ih]
   ·have e2:k x=lo+n:=by omega
    have:(x::l).filter (fun x=>decide (k x<lo+n))=[]:=by
     refine List.filter_eq_nil_iff.2 fun y hy=>?_
     rcases List.mem_cons.1 hy with rfl | hy
     ·simpa using hl
     ·have:=hp2.1 y hy;simp;omega
    rw [this,List.nil_append];refine (List.filter_eq_self.2 fun y hy=>?_).symm;rcases List.mem_cons.1 hy with rfl | hy
    ·simpa using e2
    ·have:=hp2.1 y hy;have:=h y (by simp [hy]);simp;omega
theorem Stp.classes {d e:Array α} {n:Nat} (S:Stp k 0 d.size d e) (S':Srt k 0 d.size e) (hk:∀ x∈d.toList,0≤k x∧k x<n):e.toList=(List.range n).flatMap fun i:Nat=>d.toList.filter (fun x=>decide (k x=(i:Int))):=by
 have hm:∀ x∈e.toList,0≤k x∧k x<n:=by
  have hp:=S.pres (fun v=>0≤k v∧k v<n) (fun x _ h2=>hk _ (by rw [getElem!_pos d x h2];simp));intro x hx;obtain ⟨i,hi,rfl⟩:=List.getElem_of_mem hx;have hi':i<e.size:=by simpa using hi
  have:=hp i (Nat.zero_le _) (by rw [← S.size];exact hi');rw [getElem!_pos e i hi'] at this;simpa using this
 have h1:=Zxl (k:=k) n 0 e.toList (by
  rw [List.pairwise_iff_getElem];intro i j hi hj hij;have hj':j<e.size:=by simpa using hj
  have:=S' i j (Nat.zero_le _) hij (by rw [← S.size];exact hj');rw [getElem!_pos e i (by omega),getElem!_pos e j hj'] at this
  simpa using this) (fun x hx=>by have:=hm x hx;omega)
 simp only [Int.zero_add] at h1;rw [h1];congr 1;funext i;exact S.stab i
end Go.Stb
namespace Go.Proofs.YtgnfoghkbpkgjaaGreat
open Go.AM
def cix (vs:List Int) (v:Int):Int:=Z1 (fun x=>decide (v=x)) vs 0
def celI (r:List Int) (i:Int):Int:=r.getD i.toNat 0
theorem Z7m (v:Int):∀ (vs:List Int) (i:Nat),has vs v=true→(i:Int)≤Z1 (fun x=>decide (v=x)) vs i∧(Z1 (fun x=>decide (v=x)) vs i).toNat<i+vs.length∧vs[(Z1 (fun x=>decide (v=x)) vs i).toNat - i]?=some v
 | [],i,h=>by simp [has] at h
 | x::vs,i,h=>by
  unfold Z1;by_cases e:v=x
  ·subst e;simp
  ·have h':has vs v=true:=by simpa [has,e] using h
   obtain ⟨h1,h2,h3⟩:=Z7m v vs (i+1) h';rw [if_neg (by simpa using e)];refine ⟨by omega,by simp only [List.length_cons];omega,?_⟩;have e2:(Z1 (fun x=>decide (v=x)) vs (i+1)).toNat - i=(Z1 (fun x=>decide (v=x)) vs (i+1)).toNat - (i+1)+1:=by omega
   rw [e2,List.getElem?_cons_succ];exact h3
theorem Z8 {vs:List Int} {v:Int} (h:has vs v=true):0≤cix vs v∧(cix vs v).toNat<vs.length∧vs[(cix vs v).toNat]?=some v:=by
 have:=Z7m v vs 0 h;unfold cix;simpa using this
theorem cix_not {vs:List Int} {v:Int} (h:has vs v=false):cix vs v=-1:=Zrp _ _ _ h
theorem Zdo {vs:List Int} {v:Int}:0≤cix vs v↔has vs v=true:=by
 constructor
 ·intro h;rcases tf (has vs v) with e | e
  ·rw [cix_not e] at h;omega
  ·exact e
 ·exact fun h=>(Z8 h).1
def valR (vs r:List Int) (v:Int):Int:=celI r (cix vs v)
theorem Z7n {vs:List Int} {v:Int} (h:has vs v=true) (f:Int→Int):valR vs (vs.map f) v=f v:=by
 obtain ⟨-,h2,h3⟩:=Z8 h;unfold valR celI;rw [List.getD_eq_getElem?_getD,List.getElem?_map,h3];rfl
abbrev Asc (l:List Int):Prop:=l.Pairwise (·<·)
theorem Zm9:∀ {a b:List Int},Asc a→Asc b→(∀ x,x∈a↔x∈b)→a=b
 | [],[],_,_,_=>rfl
 | [],y::b,_,_,h=>by have:=(h y).2 (by simp);cases this
 | x::a,[],_,_,h=>by have:=(h x).1 (by simp);cases this
 | x::a,y::b,ha,hb,h=>by
  have ha':=List.pairwise_cons.1 ha;have hb':=List.pairwise_cons.1 hb;have e:x=y:=by
   have h1:=(h x).1 (by simp);have h2:=(h y).2 (by simp);rcases List.mem_cons.1 h1 with e | e
   ·exact e
   ·rcases List.mem_cons.1 h2 with e2 | e2
    ·exact e2.symm
    ·have:=hb'.1 x e;have:=ha'.1 y e2;omega
  subst e;rw [Zm9 ha'.2 hb'.2 fun z=>?_];constructor
  ·intro hz;have:=(h z).1 (by simp [hz]);rcases List.mem_cons.1 this with e | e
   ·have:=ha'.1 z hz;omega
   ·exact e
  ·intro hz;have:=(h z).2 (by simp [hz]);rcases List.mem_cons.1 this with e | e
   ·have:=hb'.1 z hz;omega
   ·exact e
theorem Zqe (l:List Int):(srtI l).Perm l:=List.mergeSort_perm _ _
theorem Z7o (l:List Int):(srtI l).Pairwise (·≤·):=by
 have:=List.pairwise_mergeSort (le:=fun x y:Int=>decide (x≤y)) (by simp;omega) (by simp;omega) l;exact this.imp (by simp)
theorem Zfh (l:List Int) (x:Int):x∈srtI l↔x∈l:=(Zqe l).mem_iff
theorem srtI_asc {l:List Int} (h:l.Nodup):Asc (srtI l):=by
 have h1:=Z7o l;have h2:(srtI l).Nodup:=(Zqe l).nodup_iff.2 h;exact (h1.and h2).imp (by intro a b h;omega)
theorem Zxm:∀ (l:List Int) (x:Int),x∈cptI l↔x∈l
 | [],x=>by simp [cptI]
 | [a],x=>by simp [cptI]
 | a::b::l,x=>by
  unfold cptI;have ih:=Zxm (b::l) x;split
  ·rename_i e;subst e;rw [ih];simp
  ·rw [List.mem_cons,ih];simp
theorem Z7p:∀ {l:List Int},l.Pairwise (·≤·)→Asc (cptI l)
 | [],_=>by simp [cptI]
 | [a],_=>by simp [cptI]
 | a::b::l,h=>by
  unfold cptI;have h1:=List.pairwise_cons.1 h;have ih:=Z7p h1.2;split
  ·exact ih
  ·rename_i e;refine List.pairwise_cons.2 ⟨fun x hx=>?_,ih⟩;rw [Zxm] at hx;have h2:=List.pairwise_cons.1 h1.2;rcases List.mem_cons.1 hx with rfl | hx
   ·have:=h1.1 x (by simp);omega
   ·have:=h1.1 b (by simp);have:=h2.1 x hx;omega
def uni (a b:List Int):List Int:=((List.range 4).map fun u:Nat=>(u:Int)).filter fun v=>has a v || has b v
theorem Z7q (n:Nat) (p:Nat→Bool):Asc (((List.range n).filter p).map fun u:Nat=>(u:Int)):=by
 refine List.pairwise_map.2 ?_;exact (List.pairwise_lt_range.filter _).imp (by intro a b h;omega)
theorem Z7r (a b:List Int):Asc (uni a b):=by
 have:=Z7q 4 fun _=>true
 rw [List.filter_eq_self.2 (by simp)] at this;exact this.filter _
theorem Zqf {a b:List Int} (ha:∀ x∈a,inR x 0 3=true) (hb:∀ x∈b,inR x 0 3=true) (v:Int):v∈uni a b↔v∈a∨v∈b:=by
 unfold uni;rw [List.mem_filter];simp only [Bool.or_eq_true,Zbl,List.mem_map,List.mem_range];constructor
 ·exact fun h=>h.2
 ·intro h;refine ⟨?_,h⟩;have:inR v 0 3=true:=h.elim (ha v) (hb v);simp [inR] at this;exact ⟨v.toNat,by omega,by omega⟩
theorem cpt_uni {a b:List Int} (ha:∀ x∈a,inR x 0 3=true) (hb:∀ x∈b,inR x 0 3=true):cptI (srtI (a++b))=uni a b :=
 Zm9 (Z7p (Z7o _)) (Z7r _ _) fun x=>by rw [Zxm,Zfh,Zqf ha hb,List.mem_append]
theorem Zj3 (m:Int) (qa:List Atom) (k:Nat):Asc (varL m qa k):=Z7q _ _
theorem Zj4 {n:Int} {qa:List Atom} (h:Zn n qa=true) (m v:Int):v∈varL m qa n.toNat↔vin qa m v=true:=by rw [← Zhq h,Zbl]
theorem Zj5 {n:Int} {qa:List Atom} (h:Zn n qa=true) (m:Int):∀ v∈varL m qa n.toNat,inR v 0 3=true:=by
 intro v hv;have:=(Zj4 h m v).1 hv;unfold vin at this;simp only [Bool.and_eq_true] at this;exact this.1
theorem bit16:∀ a b:Fin 16,∀ j:Fin 4,Zbd (orI (a.1:Int) (b.1:Int)) j.1=(Zbd (a.1:Int) j.1 || Zbd (b.1:Int) j.1):=by decide
theorem Zbm0 {a b:Int} (ha:0≤a∧a<16) (hb:0≤b∧b<16) {j:Nat} (hj:j<4):Zbd (orI a b) j=(Zbd a j || Zbd b j):=by
 have:=bit16 ⟨a.toNat,by omega⟩ ⟨b.toNat,by omega⟩ ⟨j,hj⟩;simp only [] at this;rw [show ((a.toNat:Nat):Int)=a by omega,show ((b.toNat:Nat):Int)=b by omega] at this;exact this
theorem Z7s {a b:Int} (ha:0≤a∧a<16) (hb:0≤b∧b<16) (u:Int):∀ (l:List Atom) (i:Nat),i+l.length≤4→hasV (orI a b) l i u=(hasV a l i u || hasV b l i u)
 | [],_,_=>rfl
 | x::l,i,h=>by
  simp only [List.length_cons] at h;unfold hasV;rw [Zbm0 ha hb (by omega),Z7s ha hb u l (i+1) (by omega)];cases Zbd a i <;> cases Zbd b i <;> cases has x.Vars u <;> cases hasV a l (i+1) u <;> rfl
theorem Z7t {n:Int} {qa:List Atom} (h:Zn n qa=true) {a b:Int} (ha:0≤a∧a<16) (hb:0≤b∧b<16):uni (varL a qa n.toNat) (varL b qa n.toNat)=varL (orI a b) qa n.toNat:=by
 refine Zm9 (Z7r _ _) (Zj3 _ _ _) fun v=>?_
 rw [Zqf (Zj5 h a) (Zj5 h b),Zj4 h,Zj4 h,Zj4 h];unfold vin pV;rw [Z7s ha hb _ _ 0 (by have:=Zdt h;omega)];cases inR v 0 3 <;> simp
theorem bitS:∀ i j:Fin 4,Zbd (shlI 1 (i.1:Int)) j.1=decide (j=i):=by decide
theorem Z7u {i:Nat} (hi:i<4) (u:Int):∀ (l:List Atom) (j:Nat),j+l.length≤4→hasV (shlI 1 (i:Int)) l j u=if j≤i then (match l[i - j]? with | some a=>has a.Vars u | none=>false) else false
 | [],j,_=>by simp [hasV]
 | x::l,j,h=>by
  simp only [List.length_cons] at h;unfold hasV;have hb:=bitS ⟨i,hi⟩ ⟨j,by omega⟩;simp only [Fin.mk.injEq] at hb;rw [hb,Z7u hi u l (j+1) (by omega)];by_cases e:j=i
  ·subst e;rw [if_neg (show ¬ j+1≤j by omega),if_pos (Nat.le_refl _),Nat.sub_self];simp
  ·by_cases e2:j≤i
   ·rw [if_pos e2,if_pos (by omega),show i - j=(i - (j+1))+1 by omega,List.getElem?_cons_succ];simp [e]
   ·rw [if_neg e2,if_neg (by omega)];simp [e]
theorem Z7v {n:Int}:∀ {vs pre:List Int},Zbv n pre vs=true→vs.Nodup∧∀ v∈vs,v ∉ pre
 | [],pre,_=>⟨List.nodup_nil,by simp⟩
 | v::vs,pre,h=>by
  unfold Zbv at h;simp only [Bool.and_eq_true,Bool.not_eq_true'] at h;obtain ⟨⟨h1,h2⟩,h3⟩:=h;obtain ⟨g1,g2⟩:=Z7v h3;have h2':v ∉ pre:=by intro hm;rw [Zbl.2 hm] at h2;cases h2
  refine ⟨List.nodup_cons.2 ⟨fun hm=>?_,g1⟩,fun x hx=>?_⟩
  ·exact g2 v hm (by simp)
  ·rcases List.mem_cons.1 hx with rfl | hx
   ·exact h2'
   ·intro hm;exact g2 x hx (by simp [hm])
theorem Zbm1 {n:Int} {qa:List Atom} (h:Zn n qa=true) {a:Atom} (ha:a∈qa):a.Vars.Nodup:=by
 simp only [Zn,Bool.and_eq_true] at h;have:=List.all_eq_true.1 h.1.2 a ha;simp only [Zbf,Bool.and_eq_true] at this;exact (Z7v this.2).1
theorem Z7w {n:Int} {qa:List Atom} (h:Zn n qa=true) {i:Nat} {a:Atom} (hi:qa[i]?=some a):srtI a.Vars=varL (shlI 1 (i:Int)) qa n.toNat:=by
 have hl:=Zdt h;have hi':i<qa.length:=(List.getElem?_eq_some_iff.1 hi).1;have hm:a∈qa:=List.mem_of_getElem? hi;refine Zm9 (srtI_asc (Zbm1 h hm)) (Zj3 _ _ _) fun v=>?_
 rw [Zfh,Zj4 h];unfold vin pV;rw [Z7u (by omega) _ _ 0 (by omega),if_pos (Nat.zero_le _),Nat.sub_zero,hi];simp only [Bool.and_eq_true,Zbl];constructor
 ·intro hv;have h3:=Zkm h a hm v hv;refine ⟨h3,?_⟩;simp [inR] at h3;rw [show ((v.toNat:Nat):Int)=v by omega];exact hv
 ·rintro ⟨h3,hv⟩;simp [inR] at h3
  rwa [show ((v.toNat:Nat):Int)=v by omega] at hv
def pcM (m:Int):Nat:=(List.range 4).countP fun i=>Zbd m i
theorem pc16:∀ a b:Fin 16,andI (a.1:Int) (b.1:Int)=0→pcM (orI (a.1:Int) (b.1:Int))=pcM (a.1:Int)+pcM (b.1:Int):=by decide
theorem pc_or {a b:Int} (ha:0≤a∧a<16) (hb:0≤b∧b<16) (h:andI a b=0):pcM (orI a b)=pcM a+pcM b:=by
 have:=pc16 ⟨a.toNat,by omega⟩ ⟨b.toNat,by omega⟩;simp only [] at this;rw [show ((a.toNat:Nat):Int)=a by omega,show ((b.toNat:Nat):Int)=b by omega] at this;exact this h
theorem pc1:∀ i:Fin 4,pcM (shlI 1 (i.1:Int))=1:=by decide
theorem pc_le (m:Int):pcM m≤4:=Nat.le_trans List.countP_le_length (by simp)
theorem Zqg (m:Int):8 ^ pcM m≤4096:=Nat.le_trans (Nat.pow_le_pow_right (by decide) (pc_le m)) (by decide)
end Go.Proofs.YtgnfoghkbpkgjaaGreat
namespace Go.Proofs.YtgnfoghkbpkgjaaGreat
open Go.AM Go.Stb
def kx (x:Nat) (r:List Int):Int:=r[x]!
def stbR (x:Nat) (rows:List (List Int)):List (List Int):=(List.range 10).flatMap fun i:Nat=>rows.filter fun r=>decide (kx x r=(i:Int))
theorem Zna (x:Int) (r:List Int):kx x.toNat r=celI r x:=by
 unfold kx celI;rw [List.getD_eq_getElem?_getD,List.getElem!_eq_getElem?_getD];rfl
theorem stbR_mem {x:Nat} {rows:List (List Int)} (h:∀ r∈rows,0≤kx x r∧kx x r≤9) (r:List Int):r∈stbR x rows↔r∈rows:=by
 unfold stbR;rw [List.mem_flatMap];constructor
 ·rintro ⟨i,_,hr⟩;exact (List.mem_filter.1 hr).1
 ·intro hr;have:=h r hr;refine ⟨(kx x r).toNat,List.mem_range.2 (by omega),List.mem_filter.2 ⟨hr,?_⟩⟩;simp only [decide_eq_true_eq];omega
theorem Z7x (x:Nat):∀ (n:Nat) (rows:List (List Int)),((List.range n).flatMap fun i:Nat=>rows.filter fun r=>decide (kx x r=(i:Int))).length=rows.countP fun r=>decide (0≤kx x r∧kx x r<n)
 | 0,rows=>by
  simp only [List.range_zero,List.flatMap_nil,List.length_nil];refine (List.countP_eq_zero.2 fun r _=>?_).symm
  simp
 | n+1,rows=>by
  rw [List.range_succ,List.flatMap_append,List.length_append,Z7x x n rows];simp only [List.flatMap_cons,List.flatMap_nil,List.append_nil];rw [← List.countP_eq_length_filter]
  induction rows with
  | nil=>rfl
  | cons r rows ih =>
   simp only [List.countP_cons];by_cases h1:0≤kx x r∧kx x r<n
   ·rw [if_pos (by simpa using h1),if_neg (by simp;omega),if_pos (by simp;omega)];omega
   ·by_cases h2:kx x r=(n:Int)
    ·rw [if_neg (by simpa using h1),if_pos (by simpa using h2),if_pos (by simp;omega)];omega
    ·rw [if_neg (by simpa using h1),if_neg (by simpa using h2),if_neg (by simp;omega)];omega
theorem stbR_len {x:Nat} {rows:List (List Int)} (h:∀ r∈rows,0≤kx x r∧kx x r≤9):(stbR x rows).length=rows.length:=by
 unfold stbR;rw [Z7x];refine List.countP_eq_length.2 fun r hr=>?_
 have:=h r hr;simp;omega
theorem stbR_srt (x:Nat) (rows:List (List Int)):(stbR x rows).Pairwise fun a b=>kx x a≤kx x b:=by
 unfold stbR;refine List.pairwise_flatMap.2 ⟨fun i _=>?_,?_⟩
 ·rw [List.pairwise_iff_getElem];intro a b ha hb hab;have h1:=List.mem_filter.1 (List.getElem_mem ha);have h2:=List.mem_filter.1 (List.getElem_mem hb);have h1:=h1.2;have h2:=h2.2;simp only [decide_eq_true_eq] at h1 h2;omega
 ·refine List.pairwise_lt_range.imp fun {i j} hij p hp q hq=>?_
  have h1:=(List.mem_filter.1 hp).2;have h2:=(List.mem_filter.1 hq).2;simp only [decide_eq_true_eq] at h1 h2;omega
theorem Zbm2 {x:Nat} {rows:List (List Int)} (hs:rows.Pairwise fun a b=>kx x a≤kx x b) (h:∀ r∈rows,0≤kx x r∧kx x r≤9):stbR x rows=rows:=by
 have:=Zxl (k:=kx x) 10 0 rows hs (fun r hr=>by have:=h r hr;omega);simp only [Int.zero_add] at this;exact this.symm
def agr (av x bv y:List Int):Bool:=(List.range av.length).all fun i=>decide (cix bv (av.getD i 0)<0) || decide (x.getD i 0=celI y (cix bv (av.getD i 0)))
def mrV (av x bv y:List Int) (v:Int):Int:=if 0≤cix av v then celI x (cix av v) else celI y (cix bv v)
def prS (vs av x bv y:List Int):Option (List Int):=if agr av x bv y=true then some (vs.map (mrV av x bv y)) else none
def Zbc (vs:List Int) (a b:Za):List (List Int):=a.Rows.flatMap fun x=>b.Rows.filterMap fun y=>prS vs a.Vars x b.Vars y
def Zdp (vs:List Int) (a b:Za):List (List Int):=b.Rows.flatMap fun y=>a.Rows.filterMap fun x=>prS vs a.Vars x b.Vars y
def Zbn (a b:Za):Za:=⟨uni a.Vars b.Vars,Zbc (uni a.Vars b.Vars) a b⟩
def hashS (a b:Za):Za:=⟨uni a.Vars b.Vars,Zdp (uni a.Vars b.Vars) a b⟩
def sortS (s:Za) (v:Int):Za:=⟨s.Vars,stbR (cix s.Vars v).toNat s.Rows⟩
def Zda (d:Zk) (q:Zd) (i:Int):Za:=match q.Atoms[i.toNat]? with
 | some a=>⟨srtI a.Vars,(rowsA d a).map fun r=>(srtI a.Vars).map fun v=>celI r (cix a.Vars v)⟩
 | none=>⟨[],[]⟩
theorem Z7y {α β:Type} (f:α→Option β) (l:List α):(l.filterMap f).length≤l.length:=List.length_filterMap_le _ _
theorem Z7z (vs:List Int) (a b:Za):(Zbc vs a b).length≤b.Rows.length*a.Rows.length:=Zxf _ _ (fun _=>Z7y _ _) _
theorem Z70 (vs:List Int) (a b:Za):(Zdp vs a b).length≤a.Rows.length*b.Rows.length:=Zxf _ _ (fun _=>Z7y _ _) _
theorem Zbm3 {vs:List Int} {a b:Za} {r:List Int} (h:r∈Zbc vs a b):∃ x∈a.Rows,∃ y∈b.Rows,r=vs.map (mrV a.Vars x b.Vars y):=by
 obtain ⟨x,hx,h⟩:=List.mem_flatMap.1 h;obtain ⟨y,hy,h⟩:=List.mem_filterMap.1 h;unfold prS at h;split at h
 ·cases h;exact ⟨x,hx,y,hy,rfl⟩
 ·cases h
theorem Zbm4 {vs:List Int} {a b:Za} {r:List Int} (h:r∈Zdp vs a b):∃ x∈a.Rows,∃ y∈b.Rows,r=vs.map (mrV a.Vars x b.Vars y):=by
 obtain ⟨y,hy,h⟩:=List.mem_flatMap.1 h;obtain ⟨x,hx,h⟩:=List.mem_filterMap.1 h;unfold prS at h;split at h
 ·cases h;exact ⟨x,hx,y,hy,rfl⟩
 ·cases h
theorem Zbm5 {vs:List Int} {a b:Za} {x:Nat} (hs:a.Rows.Pairwise fun p q=>kx x p≤kx x q) (h:∀ r∈a.Rows,0≤kx x r∧kx x r≤9) :
  (List.range 10).flatMap (fun i:Nat=>Zbc vs ⟨a.Vars,a.Rows.filter fun r=>decide (kx x r=(i:Int))⟩ b)=Zbc vs a b:=by
 have e:=Zbm2 hs h;unfold Zbc
 conv=>rhs;rw [← e]
 unfold stbR;rw [List.flatMap_assoc]
def ascV:Option Int→List Int→Bool
 | _,[]=>true
 | p,x::xs=>(inR x 0 3 && nxt (fun a b=>decide (a<b)) p x) && ascV (some x) xs
def validS (s:Za):Bool:=s.Rows.all (rwB s.Vars.length) && (ascV none s.Vars && decide ((s.Rows.length:Int)≤4096))
theorem Zxn:∀ (l:List Int) (p:Option Int),Asc l→(∀ x∈l,inR x 0 3=true)→(∀ q,p=some q→∀ x∈l,q<x)→ascV p l=true
 | [],_,_,_,_=>rfl
 | x::l,p,h,hr,hp=>by
  have h':=List.pairwise_cons.1 h;unfold ascV;rw [Zxn l (some x) h'.2 (fun y hy=>hr y (by simp [hy])) (fun q hq y hy=>by cases hq;exact h'.1 y hy),hr x (by simp)]
  cases p with
  | none=>rfl
  | some q=>simp [nxt,hp q rfl x (by simp)]
structure GS (q:Zd) (y:Zb) (s:Za):Prop where
 vars:s.Vars=varL y.Mask q.Atoms q.Zl.toNat
 rows:∀ r∈s.Rows,rwB s.Vars.length r=true
 len:s.Rows.length≤8 ^ pcM y.Mask
 ord:0≤y.Order→has s.Vars y.Order=true∧s.Rows.Pairwise fun a b=>kx (cix s.Vars y.Order).toNat a≤kx (cix s.Vars y.Order).toNat b
theorem rw_get {n:Nat} {r:List Int} (h:rwB n r=true) {i:Nat} (hi:i<n):i<r.length∧0≤kx i r∧kx i r≤9:=by
 unfold rwB at h;simp only [Bool.and_eq_true,decide_eq_true_eq,List.all_eq_true] at h;have hl:r.length=n:=by omega
 have h2:=h.1 r[i] (List.getElem_mem (by omega));unfold kx;rw [getElem!_pos r i (by omega)];simp [dig,inR] at h2;omega
theorem Zqh {n:Nat} {r:List Int} (h:rwB n r=true):r.length=n:=by
 unfold rwB at h;simp only [Bool.and_eq_true,decide_eq_true_eq] at h;omega
theorem GS.valid {q:Zd} {y:Zb} {s:Za} (h:GS q y s) (hq:Zn q.Zl q.Atoms=true):validS s=true:=by
 unfold validS;simp only [Bool.and_eq_true,List.all_eq_true,decide_eq_true_eq];refine ⟨h.rows,?_,by have:=h.len;have:=Zqg y.Mask;omega⟩;rw [h.vars];exact Zxn _ _ (Zj3 _ _ _) (Zj5 hq _) (by simp)
theorem GS.small {q:Zd} {y:Zb} {s:Za} (h:GS q y s):s.Vars.length≤4∨4<q.Zl:=by
 by_cases e:4<q.Zl
 ·exact .inr e
 ·left;rw [h.vars];have:=Zhp y.Mask q.Atoms q.Zl.toNat;omega
theorem rw_map {vs:List Int} {f:Int→Int} (h:∀ v∈vs,0≤f v∧f v≤9):rwB vs.length (vs.map f)=true:=by
 unfold rwB;simp only [Bool.and_eq_true,decide_eq_true_eq,List.all_eq_true,List.length_map,and_true];intro v hv;obtain ⟨u,hu,rfl⟩:=List.mem_map.1 hv;have:=h u hu;simp [dig,inR];omega
theorem val_in {vs r:List Int} (h:rwB vs.length r=true) {v:Int} (hv:has vs v=true):0≤celI r (cix vs v)∧celI r (cix vs v)≤9:=by
 obtain ⟨h1,h2,h3⟩:=Z8 hv;have:=rw_get h h2;rw [Zna] at this;exact this.2
end Go.Proofs.YtgnfoghkbpkgjaaGreat
namespace Go.Proofs.YtgnfoghkbpkgjaaGreat
open Go.AM Go.Stb
structure Zd5 (qa:List Atom) (x:Ze) (pre:List Zb) (y:Zb):Prop where
 scan:x.Kind=1→inR x.Atom 0 (qa.length - 1)=true∧y=⟨shlI 1 x.Atom,(match qa[x.Atom.toNat]? with | some a=>a.Vars.headD 0 | none=>0),-1,-1⟩
 sort:x.Kind=2→∃ s u,0≤s∧pre[s.toNat]?=some u∧vin qa u.Mask x.Order=true∧y=⟨u.Mask,x.Order,s,-1⟩
 join:x.Kind≠1→x.Kind≠2→∃ s u t z o,0≤s∧pre[s.toNat]?=some u∧0≤t∧pre[t.toNat]?=some z∧andI u.Mask z.Mask=0∧y=⟨orI u.Mask z.Mask,o,s,t⟩ ∧
  ((x.Kind=3∧o=-1)∨(x.Kind=5∧o=u.Order)∨(x.Kind=4∧vin qa u.Mask x.Order=true∧vin qa z.Mask x.Order=true∧u.Order=x.Order∧z.Order=x.Order∧o=x.Order))
theorem step_f {qa:List Atom} {x:Ze} {info:List Zb} {st:List Int} {y:Zb} (hs:StOk info st) (h:Zbq qa x info st=some y):Zd5 qa x info y:=by
 unfold Zbq at h;split at h
 ·rename_i k1;split at h
  ·rename_i c;cases h;exact ⟨fun _=>⟨c.1,rfl⟩,fun k=>by omega,fun k=>absurd k1 k⟩
  ·cases h
 ·rename_i k1;split at h
  ·cases h
  ·split at h
   ·rename_i k2;split at h
    ·rename_i s y' ht;split at h
     ·rename_i c;cases h;obtain ⟨_,t2,t3,t4⟩:=Zdc hs (Nat.le_refl 1) ht;exact ⟨fun k=>absurd k k1,fun _=>⟨s,y',t2,t4,c.1,rfl⟩,fun _ k=>absurd k2 k⟩
     ·cases h
    ·cases h
   ·rename_i k2;split at h
    ·rename_i s y' t z ht hu;split at h
     ·rename_i c;obtain ⟨_,t2,t3,t4⟩:=Zdc hs (by omega:1≤2) ht;obtain ⟨_,u2,u3,u4⟩:=Zdc hs (by omega:1≤1) hu;obtain ⟨o,ho,rfl⟩:=Option.map_eq_some_iff.1 h;refine ⟨fun k=>absurd k k1,fun k=>absurd k k2,fun _ _=>⟨s,y',t,z,o,t2,t4,u2,u4,c.1,rfl,?_⟩⟩;unfold Zcd at ho;split at ho
      ·rename_i e;cases ho;exact .inl ⟨e.1,rfl⟩
      ·split at ho
       ·rename_i e;cases ho;exact .inr (.inl ⟨e.1,rfl⟩)
       ·split at ho
        ·rename_i e;cases ho;exact .inr (.inr ⟨e.1,e.2.1,e.2.2.1,e.2.2.2.1,e.2.2.2.2,rfl⟩)
        ·cases ho
     ·cases h
    ·cases h
theorem Z71 {qa:List Atom}:∀ {xs:List Ze} {i:Nat} {info:List Zb} {st:List Int} {info':List Zb} {st':List Int},Zbb qa xs i info st=some (info',st') →
  StOk info st→info.length=i→info'.length=i+xs.length∧info'.take i=info∧∀ (j:Nat) (y:Zb) (x:Ze),info'[i+j]?=some y→xs[j]?=some x→Zd5 qa x (info'.take (i+j)) y
 | [],i,info,st,info',st',h,hs,hi=>by
  simp [Zbb] at h;obtain ⟨rfl,rfl⟩:=h
  refine ⟨by simp [hi],by rw [← hi,List.take_length],fun j y x _ hx=>by simp at hx⟩
 | x::xs,i,info,st,info',st',h,hs,hi=>by
  rw [Zbb] at h;split at h
  ·cases h
  ·rename_i y hy;have hn:=Zkn hs y (st.length - pops y);rw [hi] at hn;obtain ⟨g1,g2,g3⟩:=Z71 h hn (by simp [hi]);have e1:info'.take i=info:=by
    have:=congrArg (List.take i) g2;rw [List.take_take,Nat.min_eq_left (by omega)] at this;rw [this,← hi,List.take_left]
   have e2:info'[i]?=some y:=by
    have:=congrArg (fun l=>l[i]?) g2;simp only [List.getElem?_take] at this;rw [if_pos (by omega)] at this;rw [this,← hi];simp
   refine ⟨by simp;omega,e1,?_⟩;intro j y' x' hj hx
   cases j with
   | zero =>
    simp only [Nat.add_zero,List.getElem?_cons_zero,Option.some.injEq] at hj hx ⊢;rw [e2] at hj;cases hj;cases hx
    rw [e1];exact step_f hs hy
   | succ j =>
    have:=g3 j y' x' (by rw [← hj];congr 1;omega) (by simpa using hx)
    rwa [show i+1+j=i+(j+1) by omega] at this
theorem Zqi {n:Int} {qa:List Atom} {steps:List Ze} {info:List Zb} (h:Z3 n qa steps=some info):∀ (j:Nat) (y:Zb) (x:Ze),info[j]?=some y→steps[j]?=some x→Zd5 qa x (info.take j) y:=by
 unfold Z3 at h;split at h
 ·split at h
  ·rename_i info' st hg;split at h
   ·cases h;obtain ⟨-,-,g⟩:=Z71 hg (fun s hs=>by cases hs) rfl;intro j y x a b;have:=g j y x (by simpa using a) b;simpa using this
   ·cases h
  ·cases h
 ·cases h
theorem Z72:∀ (rows:List (List Int)) (p:Option (List Int)),adjL ltR p rows=true→(∀ r∈rows,0<r.length)→(∀ r,p=some r→0<r.length) →
  (rows.Pairwise fun a b=>kx 0 a≤kx 0 b)∧∀ r,p=some r→∀ x∈rows,kx 0 r≤kx 0 x
 | [],p,_,_,_=>⟨.nil,by simp⟩
 | x::rows,p,h,hl,hp=>by
  unfold adjL at h;simp only [Bool.and_eq_true] at h;obtain ⟨i1,i2⟩:=Z72 rows (some x) h.2 (fun r hr=>hl r (by simp [hr])) (fun r hr=>by cases hr;exact hl x (by simp));refine ⟨List.pairwise_cons.2 ⟨i2 x rfl,i1⟩,fun r hr y hy=>?_⟩;subst hr;have h1:=h.1;simp only [nxt,ltR,decide_eq_true_eq] at h1;have hx0:=hl x (by simp);have hr0:=hp r rfl;have hrx:kx 0 r≤kx 0 x:=by
   match r,x,hr0,hx0 with
   | a::r,b::x,_,_ =>
    simp only [cmpR] at h1;show a≤b;by_cases e:a<b
    ·omega
    ·rw [if_neg e] at h1;by_cases e2:b<a
     ·rw [if_pos e2] at h1;omega
     ·omega
  rcases List.mem_cons.1 hy with rfl | hy
  ·exact hrx
  ·have:=i2 x rfl y hy;omega
theorem Zxo {d:Zk} {q:Zd} (h:qFor d q=true) {a:Atom} (ha:a∈q.Atoms):∃ t,Zdn d a.Name=some t∧t.Arity=(a.Vars.length:Int)∧rowsA d a=t.Rows∧t.Rows.length≤8∧(∀ r∈t.Rows,rwB a.Vars.length r=true)∧adjL ltR none t.Rows=true:=by
 unfold qFor at h;simp only [Bool.and_eq_true,List.all_eq_true] at h;have hf:=h.2 a ha;unfold forOk at hf;split at hf
 ·cases hf
 ·rename_i t ht;have har:t.Arity=(a.Vars.length:Int):=by simpa using hf
  obtain ⟨h1,h2,h3⟩:=look_mem ht;unfold Zc8 at h1;simp only [Bool.and_eq_true,List.all_eq_true] at h1;have h4:=h1.1.1 t h2;unfold Zb0 at h4;simp only [Bool.and_eq_true,List.all_eq_true,decide_eq_true_eq] at h4;refine ⟨t,ht,har,by unfold rowsA;rw [ht],by omega,?_,h4.2.2⟩;rw [← har];exact h4.2.1
theorem scan_gs {d:Zk} {q:Zd} (h:qFor d q=true) {x:Ze} {pre:List Zb} {y:Zb} (F:Zd5 q.Atoms x pre y) (hk:x.Kind=1):GS q y (Zda d q x.Atom):=by
 have hq:Zn q.Zl q.Atoms=true:=by unfold qFor at h;simp only [Bool.and_eq_true] at h;exact h.1
 obtain ⟨f1,rfl⟩:=F.scan hk;have hl:=Zdt hq;simp [inR] at f1;obtain ⟨i,hi⟩:∃ i:Nat,x.Atom=(i:Int):=⟨x.Atom.toNat,by omega⟩;rw [hi];have hlt:i<q.Atoms.length:=by omega
 have he:q.Atoms[i]?=some q.Atoms[i]:=List.getElem?_eq_getElem hlt;have hm:q.Atoms[i]∈q.Atoms:=List.getElem_mem hlt;generalize q.Atoms[i]=a at he hm;obtain ⟨t,t1,t2,t3,t4,t5,t6⟩:=Zxo h hm;have hvl:=Zkl hq a hm;have hv:=Z7w hq he;have hsc:Zda d q (i:Int)=⟨srtI a.Vars,t.Rows.map fun r=>(srtI a.Vars).map fun v=>celI r (cix a.Vars v)⟩:=by
  unfold Zda;rw [Int.toNat_natCast,he];simp only [t3]
 rw [hsc,Int.toNat_natCast,he];have hval:∀ r∈t.Rows,∀ v∈srtI a.Vars,0≤celI r (cix a.Vars v)∧celI r (cix a.Vars v)≤9:=fun r hr v hv2=>val_in (t5 r hr) (Zbl.2 ((Zfh _ _).1 hv2))
 refine ⟨hv,fun r hr=>?_,?_,fun _=>?_⟩
 ·obtain ⟨r0,hr0,rfl⟩:=List.mem_map.1 hr;exact rw_map (hval r0 hr0)
 ·have:=pc1 ⟨i,by omega⟩;simp only [] at this;simp only [List.length_map,this];omega
 ·-- the first column of a table is sorted
  obtain ⟨v0,vs,hvs⟩:∃ v0 vs,a.Vars=v0::vs:=by
   cases hc:a.Vars with
   | nil=>rw [hc] at hvl;simp at hvl
   | cons v0 vs=>exact ⟨v0,vs,rfl⟩
  have h0:has (srtI a.Vars) v0=true:=Zbl.2 ((Zfh _ _).2 (by rw [hvs];simp));simp only [hvs,List.headD_cons];rw [hvs] at h0;refine ⟨h0,?_⟩;have hc0:cix a.Vars v0=0:=by rw [hvs];simp [cix,Z1]
  have hkey:∀ r,kx (cix (srtI a.Vars) v0).toNat ((srtI a.Vars).map fun v=>celI r (cix a.Vars v))=kx 0 r:=by
   intro r;rw [Zna];have:=Z7n (vs:=srtI a.Vars) (v:=v0) (by rw [hvs];exact h0) fun v=>celI r (cix a.Vars v)
   unfold valR at this;rw [this,hc0,← Zna];rfl
  rw [hvs] at hkey;refine List.pairwise_map.2 ?_;have:=(Z72 t.Rows none t6 (fun r hr=>by have:=Zqh (t5 r hr);omega) (by simp)).1;exact this.imp (by intro p r hpr;rw [hkey,hkey];exact hpr)
theorem Z73 {q:Zd} (hq:Zn q.Zl q.Atoms=true) {u:Zb} {s:Za} (G:GS q u s) {v:Int} (hv:vin q.Atoms u.Mask v=true) (l:Int):GS q ⟨u.Mask,v,l,-1⟩ (sortS s v)∧has s.Vars v=true:=by
 have hh:has s.Vars v=true:=by rw [G.vars,Zhq hq];exact hv
 obtain ⟨c1,c2,c3⟩:=Z8 hh;have hr:∀ r∈s.Rows,0≤kx (cix s.Vars v).toNat r∧kx (cix s.Vars v).toNat r≤9:=fun r hr=>(rw_get (G.rows r hr) c2).2
 refine ⟨⟨G.vars,fun r h=>?_,?_,fun _=>⟨hh,?_⟩⟩,hh⟩
 ·exact G.rows r ((stbR_mem hr r).1 h)
 ·show (stbR _ _).length≤_;rw [stbR_len hr];exact G.len
 ·exact stbR_srt _ _
theorem mr_in {av bv x y:List Int} (hx:rwB av.length x=true) (hy:rwB bv.length y=true) {v:Int} (hv:has av v=true∨has bv v=true):0≤mrV av x bv y v∧mrV av x bv y v≤9:=by
 unfold mrV;split
 ·rename_i h;exact val_in hx (Zdo.1 h)
 ·rename_i h;refine val_in hy (hv.resolve_left fun h2=>h (Zdo.2 h2))
theorem Zxp {a b:List Int} {v:Int} (h:v∈uni a b):has a v=true∨has b v=true:=by
 unfold uni at h;have:=(List.mem_filter.1 h).2;simpa using this
theorem Z74 {q:Zd} (hq:Zn q.Zl q.Atoms=true) {u z:Zb} {a b:Za} (A:GS q u a) (B:GS q z b) (hu:0≤u.Mask∧u.Mask<16) (hz:0≤z.Mask∧z.Mask<16) (h0:andI u.Mask z.Mask=0) (l r:Int):GS q ⟨orI u.Mask z.Mask,u.Order,l,r⟩ (Zbn a b):=by
 have hvars:uni a.Vars b.Vars=varL (orI u.Mask z.Mask) q.Atoms q.Zl.toNat:=by rw [A.vars,B.vars];exact Z7t hq hu hz
 refine ⟨hvars,fun p hp=>?_,?_,fun ho=>?_⟩
 ·obtain ⟨x,hx,y,hy,rfl⟩:=Zbm3 hp;exact rw_map fun v hv=>mr_in (A.rows x hx) (B.rows y hy) (Zxp hv)
 ·have:=Z7z (uni a.Vars b.Vars) a b;show (Zbc _ _ _).length≤8 ^ pcM (orI u.Mask z.Mask);rw [pc_or hu hz h0,Nat.pow_add,Nat.mul_comm];exact Nat.le_trans this (Nat.mul_le_mul B.len A.len)
 ·obtain ⟨hh,hs⟩:=A.ord ho;have hu2:has (uni a.Vars b.Vars) u.Order=true:=Zbl.2 ((Zqf (by rw [A.vars];exact Zj5 hq _) (by rw [B.vars];exact Zj5 hq _) _).2 (.inl (Zbl.1 hh)));refine ⟨hu2,?_⟩;have hkey:∀ x y:List Int,kx (cix (uni a.Vars b.Vars) u.Order).toNat ((uni a.Vars b.Vars).map (mrV a.Vars x b.Vars y))=kx (cix a.Vars u.Order).toNat x:=by
   intro x y;rw [Zna,Zna];have:=Z7n hu2 (mrV a.Vars x b.Vars y);unfold valR at this;rw [this];unfold mrV;rw [if_pos (Zdo.2 hh)]
  have hm:∀ x,∀ p∈b.Rows.filterMap (fun y=>prS (uni a.Vars b.Vars) a.Vars x b.Vars y),kx (cix (uni a.Vars b.Vars) u.Order).toNat p=kx (cix a.Vars u.Order).toNat x:=by
   intro x p hp;obtain ⟨y,hy,h⟩:=List.mem_filterMap.1 hp;unfold prS at h;split at h
   ·cases h;exact hkey x y
   ·cases h
  refine List.pairwise_flatMap.2 ⟨fun x _=>?_,?_⟩
  ·rw [List.pairwise_iff_getElem];intro i j hi hj _;have h1:=hm x _ (List.getElem_mem hi);have h2:=hm x _ (List.getElem_mem hj);show kx (cix (uni a.Vars b.Vars) u.Order).toNat _≤kx (cix (uni a.Vars b.Vars) u.Order).toNat _;rw [h1,h2];exact Int.le_refl _
  ·refine hs.imp fun {x x'} hxx p hp p' hp'=>?_
   have h1:=hm x p hp;have h2:=hm x' p' hp';show kx (cix (uni a.Vars b.Vars) u.Order).toNat _≤kx (cix (uni a.Vars b.Vars) u.Order).toNat _;rw [h1,h2];exact hxx
theorem hash_gs {q:Zd} (hq:Zn q.Zl q.Atoms=true) {u z:Zb} {a b:Za} (A:GS q u a) (B:GS q z b) (hu:0≤u.Mask∧u.Mask<16) (hz:0≤z.Mask∧z.Mask<16) (h0:andI u.Mask z.Mask=0) (l r:Int):GS q ⟨orI u.Mask z.Mask,-1,l,r⟩ (hashS a b):=by
 have hvars:uni a.Vars b.Vars=varL (orI u.Mask z.Mask) q.Atoms q.Zl.toNat:=by rw [A.vars,B.vars];exact Z7t hq hu hz
 refine ⟨hvars,fun p hp=>?_,?_,fun ho=>absurd ho (by show ¬ (0:Int)≤-1;decide)⟩
 ·obtain ⟨x,hx,y,hy,rfl⟩:=Zbm4 hp;exact rw_map fun v hv=>mr_in (A.rows x hx) (B.rows y hy) (Zxp hv)
 ·have:=Z70 (uni a.Vars b.Vars) a b;show (Zdp _ _ _).length≤8 ^ pcM (orI u.Mask z.Mask);rw [pc_or hu hz h0,Nat.pow_add];exact Nat.le_trans this (Nat.mul_le_mul A.len B.len)
def stS (d:Zk) (q:Zd) (x:Ze) (y:Zb) (out:List Za):Za :=
 if x.Kind=1 then Zda d q x.Atom
 else if x.Kind=2 then sortS (out.getD y.Left.toNat ⟨[],[]⟩) x.Order
 else if x.Kind=3 then hashS (out.getD y.Left.toNat ⟨[],[]⟩) (out.getD y.Right.toNat ⟨[],[]⟩)
 else Zbn (out.getD y.Left.toNat ⟨[],[]⟩) (out.getD y.Right.toNat ⟨[],[]⟩)
def Zbo (d:Zk) (q:Zd):List Ze→List Zb→List Za→List Za
 | x::xs,y::ys,out=>Zbo d q xs ys (out++[stS d q x y out])
 | _,_,out=>out
def GSs (q:Zd) (info:List Zb) (out:List Za):Prop:=∀ (j:Nat) (s:Za),out[j]?=some s→∃ y,info[j]?=some y∧GS q y s
theorem Zj6 {q:Zd} {info:List Zb} {out:List Za} (G:GSs q info out) {i:Nat} {s:Int} {u:Zb} (hi:out.length=i) (h0:0≤s) (h:(info.take i)[s.toNat]?=some u):s.toNat<out.length∧out[s.toNat]?=some (out.getD s.toNat ⟨[],[]⟩)∧GS q u (out.getD s.toNat ⟨[],[]⟩):=by
 rw [List.getElem?_take] at h;split at h
 ·rename_i hlt;have hl:s.toNat<out.length:=by omega
  have e:out[s.toNat]?=some (out.getD s.toNat ⟨[],[]⟩):=by rw [List.getD_eq_getElem?_getD,List.getElem?_eq_getElem hl];rfl
  obtain ⟨y,hy,g⟩:=G _ _ e;rw [h] at hy;cases hy;exact ⟨hl,e,g⟩
 ·cases h
theorem st_gs {d:Zk} {q:Zd} (h:qFor d q=true) {info:List Zb} {out:List Za} (G:GSs q info out) (hM:∀ y∈info,0≤y.Mask∧y.Mask<16) {i:Nat} (hi:out.length=i) {x:Ze} {y:Zb} (F:Zd5 q.Atoms x (info.take i) y):GS q y (stS d q x y out):=by
 have hq:Zn q.Zl q.Atoms=true:=by unfold qFor at h;simp only [Bool.and_eq_true] at h;exact h.1
 have hm:∀ {s:Nat} {u:Zb},(info.take i)[s]?=some u→0≤u.Mask∧u.Mask<16:=fun hs=>hM _ (List.mem_of_mem_take (List.mem_of_getElem? hs))
 unfold stS;by_cases k1:x.Kind=1
 ·rw [if_pos k1];exact scan_gs h F k1
 ·rw [if_neg k1];by_cases k2:x.Kind=2
  ·rw [if_pos k2];obtain ⟨s,u,f1,f2,f3,rfl⟩:=F.sort k2;exact (Z73 hq (Zj6 G hi f1 f2).2.2 f3 s).1
  ·rw [if_neg k2];obtain ⟨s,u,t,z,o,f1,f2,f3,f4,f5,rfl,f6⟩:=F.join k1 k2;have A:=(Zj6 G hi f1 f2).2.2;have B:=(Zj6 G hi f3 f4).2.2;rcases f6 with ⟨k,rfl⟩ | ⟨k,rfl⟩ | ⟨k,g1,g2,g3,g4,rfl⟩
   ·rw [if_pos k];exact hash_gs hq A B (hm f2) (hm f4) f5 s t
   ·rw [if_neg (by omega)];exact Z74 hq A B (hm f2) (hm f4) f5 s t
   ·rw [if_neg (by omega)];rw [← g3];exact Z74 hq A B (hm f2) (hm f4) f5 s t
theorem Zxq {q:Zd} {info:List Zb} {out:List Za} (G:GSs q info out) {i:Nat} (hi:out.length=i) {y:Zb} (hy:info[i]?=some y) {s:Za} (g:GS q y s):GSs q info (out++[s]):=by
 intro j s' hs;by_cases hj:j<out.length
 ·rw [List.getElem?_append_left hj] at hs;exact G j s' hs
 ·have:j=out.length:=by
   have:=(List.getElem?_eq_some_iff.1 hs).1;simp at this;omega
  subst this;simp at hs;subst hs;exact ⟨y,by rw [hi];exact hy,g⟩
end Go.Proofs.YtgnfoghkbpkgjaaGreat
namespace Go.Proofs.YtgnfoghkbpkgjaaGreat
open Go.AM Go.Sort Go.Stb
abbrev AR:=Array (List Int)
def okC (x:Nat) (r:List Int):Prop:=x<r.length∧0≤kx x r∧kx x r≤9
structure OkC (x:Nat) (d:AR):Prop where
 sz:d.size≤4096
 at_:∀ i,i<d.size→okC x d[i]!
theorem OkC.stp {x:Nat} {d e:AR} {a b:Nat} (h:OkC x d) (S:Stp (kx x) a b d e) (hb:b≤d.size):OkC x e:=by
 have S':=S.mono (Nat.zero_le a) hb;refine ⟨by rw [S.size];exact h.sz,fun i hi=>?_⟩;exact S'.pres (okC x) (fun y _ hy=>h.at_ y hy) i (Nat.zero_le _) (by rw [← S.size];exact hi)
theorem gA {d:AR} {i:Nat} (h:i<d.size):d.toList[(i:Int).toNat]?=some d[i]!:=by rw [Int.toNat_natCast];exact Zc9 d i h
theorem set2 (d:AR) (i j:Nat):(d.toList.set i d[j]!).set j d[i]! = (swp d i j).toList:=by simp [swp]
theorem set3 {d:AR} {i j:Nat} (v:List Int) (h:j<d.size):∃ e,(d.toList.set i v)[j]?=some e:=⟨_,List.getElem?_eq_getElem (by simpa using h)⟩
theorem wA {n:Int} (h1:-1000000≤n) (h2:n≤1000000):w n=n:=wrap64 (by omega) (by omega)
theorem Zfi {i j:Nat} (h:i+j≤1000000):w (shrI (IntKind.wrap .u64 (w ((i:Int)+(j:Int)))) 1)=(((i+j) / 2:Nat):Int):=by
 rw [wA (n:=(i:Int)+(j:Int)) (by omega) (by omega)];have e1:IntKind.wrap .u64 ((i:Int)+(j:Int))=(i:Int)+(j:Int):=by
  simp only [IntKind.wrap,IntKind.signed,IntKind.bits];simp;omega
 rw [e1];have e2:shrI ((i:Int)+(j:Int)) 1=(((i+j) / 2:Nat):Int):=by
  unfold shrI;rw [show (2:Int) ^ (min (1:Int).toNat 64)=2 from rfl,Int.fdiv_eq_ediv_of_nonneg _ (by decide)];omega
 rw [e2];exact wA (by omega) (by omega)
theorem Znb {x:Nat} {p q:List Int} (hp:okC x p) (hq:okC x q):Zeu x p q=some (I (kx x p - kx x q),[.box [I x]]):=by
 obtain ⟨p1,p2,p3⟩:=hp;obtain ⟨q1,q2,q3⟩:=hq;have e1:p[x]=kx x p:=(getElem!_pos p x p1).symm;have e2:q[x]=kx x q:=(getElem!_pos q x q1).symm;refine Zbir _ _ _ _ ⟨by omega,_,gE p1,_,gE q1,?_⟩;rw [e1,e2,wA (by omega) (by omega)]
def Rz (D:AR) (x:Nat) (v:Rs):Prop:=∃ fr,v=some (.tup [],[.arr 30 1 fr (D.toList.map isc),.box [I x]])
theorem l_in (x a b i:Nat) (hi:i≤8192) (D:AR):∀ (j:Nat) (d:AR) (fr:Bool),OkC x d→a≤j→j<d.size →
  (∀ fr',Rz D x (Zf3 fr' (insInner (ltK (kx x)) a j d).toList x a b ((i+1:Nat):Int)))→Rz D x (Zk6 fr d.toList x a b i j)
 | 0,d,fr,hO,haj,hj,h=>by
  obtain ⟨f,hf⟩:=h fr;refine ⟨f,Zpz _ _ _ _ _ _ _ _ ?_⟩;rw [if_neg (by omega),wA (by omega) (by omega)];unfold insInner at hf
  exact_mod_cast hf
 | j+1,d,fr,hO,haj,hj,h=>by
  unfold insInner at h;have hw:w (((j+1:Nat):Int) - 1)=(j:Int):=by have:=hO.sz;rw [wA (by omega) (by omega)];omega
  have hw2:w ((i:Int)+1)=((i+1:Nat):Int):=by rw [wA (by omega) (by omega)];omega
  by_cases hc:a<j+1
  ·by_cases hl:kx x d[j+1]!<kx x d[j]!
   ·rw [if_pos (by simp [ltK,hl];omega)] at h;have hS:=Zqd (k:=kx x) d j hj hl;obtain ⟨f,hf⟩:=l_in x a b i hi D j (swp d (j+1) j) false (hO.stp hS (by omega)) (by omega) (by rw [swp_size];omega) h;refine ⟨f,Zpz _ _ _ _ _ _ _ _ ?_⟩;rw [if_pos (by omega),hw];refine ⟨by omega,_,gA hj,by omega,_,gA (by omega),_,_,Znb (hO.at_ _ hj) (hO.at_ _ (by omega)),?_⟩;rw [if_pos (by omega),Int.toNat_natCast,Int.toNat_natCast,set2];obtain ⟨e,he⟩:=set3 (i:=j+1) d[j]! (show j<d.size by omega);exact ⟨e,he,hf⟩
   ·rw [if_neg (by simp [ltK];omega)] at h;obtain ⟨f,hf⟩:=h fr;refine ⟨f,Zpz _ _ _ _ _ _ _ _ ?_⟩;rw [if_pos (by omega),hw];refine ⟨by omega,_,gA hj,by omega,_,gA (by omega),_,_,Znb (hO.at_ _ hj) (hO.at_ _ (by omega)),?_⟩;rw [if_neg (by omega),hw2];exact hf
  ·rw [if_neg (by simp;omega)] at h;obtain ⟨f,hf⟩:=h fr;refine ⟨f,Zpz _ _ _ _ _ _ _ _ ?_⟩;rw [if_neg (by omega),hw2];exact hf
theorem l_out (x a b:Nat):∀ (n i:Nat) (d:AR) (fr:Bool),b - i=n→OkC x d→a<i→b≤d.size→i≤b+1→Rz (insOuter (ltK (kx x)) a b i d) x (Zf3 fr d.toList x a b i)
 | 0,i,d,fr,hn,hO,hai,hb,hib=>by
  refine ⟨fr,Z4i _ _ _ _ _ _ _ ?_⟩
  rw [if_neg (by omega),insOuter,if_neg (by omega)]
 | n+1,i,d,fr,hn,hO,hai,hb,hib=>by
  have hsz:=hO.sz;have hS:=Zxi (k:=kx x) a i d b (by omega) (by omega) hb
  obtain ⟨f,hf⟩:=l_in x a b i (by omega) (insOuter (ltK (kx x)) a b i d) i d fr hO (by omega) (by omega) (fun fr'=>by
   rw [insOuter,if_pos (by omega)]
   exact l_out x a b n (i+1) _ fr' (by omega) (hO.stp hS hb) (by omega) (by rw [hS.size];exact hb) (by omega))
  refine ⟨f,Z4i _ _ _ _ _ _ _ ?_⟩;rw [if_pos (by omega)];exact hf
theorem x_ins {x a b:Nat} {d:AR} (fr:Bool) (hO:OkC x d) (hab:a≤b) (hb:b≤d.size):∃ e,Stp (kx x) a b d e∧Srt (kx x) a b e∧Rz e x (Zh4 fr d.toList x a b):=by
 have hsz:=hO.sz;refine ⟨_,ins_stp d a b hb,ins_srt d a b hab hb,?_⟩;obtain ⟨f,hf⟩:=l_out x a b _ (a+1) d fr rfl hO (by omega) hb (by omega);refine ⟨f,Zbis _ _ _ _ _ _ ?_⟩;rw [wA (by omega) (by omega)]
 exact_mod_cast hf
theorem l_swr (x a b n:Nat) (d:AR) (hs:d.size≤4096) (h1:a+n≤b) (h2:b+n≤d.size):∀ i,i≤n→∀ fr,Rz (swr a b n d) x (Zk7 fr (swr a b i d).toList x a b n i):=by
 refine down _ ?_ ?_
 ·intro fr;refine ⟨fr,Z4j _ _ _ _ _ _ _ _ ?_⟩;rw [if_neg (by omega)]
 ·intro i hi ih fr;obtain ⟨f,hf⟩:=ih false;refine ⟨f,Z4j _ _ _ _ _ _ _ _ ?_⟩;have e1:w ((b:Int)+(i:Int))=((b+i:Nat):Int):=by rw [wA (by omega) (by omega)];omega
  have e2:w ((a:Int)+(i:Int))=((a+i:Nat):Int):=by rw [wA (by omega) (by omega)];omega
  have e3:w ((i:Int)+1)=((i+1:Nat):Int):=by rw [wA (by omega) (by omega)];omega
  rw [if_pos (by omega),e1,e2,e3];refine ⟨by omega,_,gA (by rw [Zd4];omega),by omega,_,gA (by rw [Zd4];omega),?_⟩;rw [Int.toNat_natCast,Int.toNat_natCast,set2];obtain ⟨e,he⟩:=set3 (d:=swr a b i d) (i:=a+i) (swr a b i d)[b+i]! (show b+i<_ by rw [Zd4];omega);exact ⟨e,he,hf⟩
theorem x_swr {x a b n:Nat} {d:AR} (fr:Bool) (hs:d.size≤4096) (h1:a+n≤b) (h2:b+n≤d.size):Rz (swr a b n d) x (Zh5 fr d.toList x a b n):=by
 obtain ⟨f,hf⟩:=l_swr x a b n d hs h1 h2 0 (Nat.zero_le _) fr;exact ⟨f,Zbit _ _ _ _ _ _ _ hf⟩
theorem l_rot (x a m b:Nat) (d:AR) (hs:d.size≤4096) (h1:a≤m) (h2:m≤b) (h3:b≤d.size):∀ (n i j:Nat) (e:AR) (fr:Bool),i+j≤n→0<i→0<j→a+i≤m→m+j≤b→Rot a m b d i j e →
  ∃ D,Rtd a m b d D∧Rz D x (Zf4 fr e.toList x m i j)
 | 0,i,j,e,fr,hn,hi,hj,_,_,R=>by omega
 | n+1,i,j,e,fr,hn,hi,hj,him,hjb,R=>by
  have hse:e.size≤4096:=by rw [R.size];exact hs
  have hsd:e.size=d.size:=R.size;have e1:w ((m:Int) - (i:Int))=((m - i:Nat):Int):=by rw [wA (by omega) (by omega)];omega
  have e2:w ((m:Int)+(j:Int))=((m+j:Nat):Int):=by rw [wA (by omega) (by omega)];omega
  have e3:w (((m+j:Nat):Int) - (i:Int))=((m+j - i:Nat):Int):=by rw [wA (by omega) (by omega)];omega
  by_cases hij:i=j
  ·subst hij;obtain ⟨f,hf⟩:=x_swr (x:=x) (a:=m - i) (b:=m) (n:=i) (d:=e) fr hse (by omega) (by omega);refine ⟨swr (m - i) m i e,rtd_of h1 h2 h3 (R.eq (by omega)),f,Zwo _ _ _ _ _ _ _ ?_⟩;rw [if_pos rfl,e1];exact ⟨_,_,_,hf,rfl⟩
  ·by_cases hlt:j<i
   ·have e4:w ((i:Int) - (j:Int))=((i - j:Nat):Int):=by rw [wA (by omega) (by omega)];omega
    obtain ⟨f,hf⟩:=x_swr (x:=x) (a:=m - i) (b:=m) (n:=j) (d:=e) fr hse (by omega) (by omega);obtain ⟨D,hD,g,hg⟩:=l_rot x a m b d hs h1 h2 h3 n (i - j) j _ f (by omega) (by omega) hj (by omega) hjb (R.gt hlt (by omega));refine ⟨D,hD,g,Zwo _ _ _ _ _ _ _ ?_⟩;rw [if_neg (by omega),if_pos (by omega),e1,e4];exact ⟨_,_,_,hf,hg⟩
   ·have e4:w ((j:Int) - (i:Int))=((j - i:Nat):Int):=by rw [wA (by omega) (by omega)];omega
    obtain ⟨f,hf⟩:=x_swr (x:=x) (a:=m - i) (b:=m+j - i) (n:=i) (d:=e) fr hse (by omega) (by omega);obtain ⟨D,hD,g,hg⟩:=l_rot x a m b d hs h1 h2 h3 n i (j - i) _ f (by omega) hi (by omega) him (by omega) (R.lt (by omega) (by omega));refine ⟨D,hD,g,Zwo _ _ _ _ _ _ _ ?_⟩;rw [if_neg (by omega),if_neg (by omega),e1,e2,e3,e4];exact ⟨_,_,_,hf,hg⟩
theorem x_rot {x a m b:Nat} {d:AR} (fr:Bool) (hs:d.size≤4096) (h1:a<m) (h2:m<b) (h3:b≤d.size):∃ D,Rtd a m b d D∧Rz D x (Zk8 fr d.toList x a m b):=by
 obtain ⟨D,hD,f,hf⟩:=l_rot x a m b d hs (by omega) (by omega) h3 _ (m - a) (b - m) d fr (Nat.le_refl _) (by omega) (by omega) (by omega) (by omega) (.start d (by omega) (by omega));refine ⟨D,hD,f,Zbiv _ _ _ _ _ _ _ ?_⟩;have e1:w ((m:Int) - (a:Int))=((m - a:Nat):Int):=by rw [wA (by omega) (by omega)];omega
 have e2:w ((b:Int) - (m:Int))=((b - m:Nat):Int):=by rw [wA (by omega) (by omega)];omega
 rw [e1,e2];exact hf
def Mgd (x a b:Nat) (d:AR) (v:Rs):Prop:=∃ e,Stp (kx x) a b d e∧Srt (kx x) a b e∧Rz e x v
theorem l_m1 (x a b i:Nat) (d:AR) (hO:OkC x d) (hb:b≤d.size) (hs:Srt (kx x) (a+1) b d) (hai:a<i) (hib:i≤b) (h1:i=a+1∨kx x d[i - 1]!<kx x d[a]!) (h2:i=b∨kx x d[a]!≤kx x d[i]!) :
  ∀ (n q:Nat) (e:AR) (fr:Bool),i - 1 - q=n→q≤i - 1→Shl a q d e→Stp (kx x) a b d e→Mgd x a b d (Zk9 fr e.toList x i q)
 | 0,q,e,fr,hn,hq,S,T=>by
  have hsz:=hO.sz;obtain rfl:q=i - 1:=by omega
  have hI:i - 1+1=i:=by omega
  refine ⟨e,T,S.srt hs (h1.imp (fun h=>by omega) id) (by rw [hI];exact h2) (by omega),fr,Z4k _ _ _ _ _ _ ?_⟩
  rw [wA (by omega) (by omega),if_neg (by omega)]
 | n+1,q,e,fr,hn,hq,S,T=>by
  have hsz:=hO.sz;have haq:=S.aq;have hes:e.size=d.size:=S.size;have hk:kx x d[q+1]!<kx x d[a]!:=by
   rcases h1 with h1 | h1
   ·omega
   ·have:=hs.le (i:=q+1) (j:=i - 1) (by omega) (by omega) (by omega);omega
  obtain ⟨g,G1,G2,f,hf⟩:=l_m1 x a b i d hO hb hs hai hib h1 h2 n (q+1) (swp e (q+1) q) false (by omega) (by omega) (S.next (by omega)) (T.trans ((S.stp (by omega) hk).mono haq (by omega)));refine ⟨g,G1,G2,f,Z4k _ _ _ _ _ _ ?_⟩;have e1:w ((q:Int)+1)=((q+1:Nat):Int):=by rw [wA (by omega) (by omega)];omega
  rw [wA (n:=(i:Int) - 1) (by omega) (by omega),if_pos (by omega),e1];refine ⟨by omega,_,gA (by omega),by omega,_,gA (by omega),?_⟩;rw [Int.toNat_natCast,Int.toNat_natCast,set2,swp_comm e q (q+1) (by omega) (by omega)];obtain ⟨v,hv⟩:=set3 (i:=q) e[q+1]! (show q+1<e.size by omega);exact ⟨v,hv,hf⟩
theorem l_m0 (x a b:Nat) (d:AR) (hO:OkC x d) (hb:b≤d.size) (hs:Srt (kx x) (a+1) b d):∀ (n i j:Nat) (fr:Bool),j - i≤n→a<i→i≤j→j≤b →
  (i=a+1∨kx x d[i - 1]!<kx x d[a]!)→(j=b∨kx x d[a]!≤kx x d[j]!)→Mgd x a b d (Zh6 fr d.toList x a i j)
 | n,i,j,fr,hn,hai,hij,hjb,h1,h2=>by
  have hsz:=hO.sz;by_cases h:i<j
  ·have hm1:i≤(i+j) / 2:=by omega
   have hm2:(i+j) / 2<j:=by omega
   have hoc:=Znb (hO.at_ ((i+j) / 2) (by omega)) (hO.at_ a (by omega));by_cases hl:kx x d[(i+j) / 2]!<kx x d[a]!
   ·match n,hn with
    | 0,hn=>omega
    | n+1,hn =>
    obtain ⟨g,G1,G2,f,hf⟩:=l_m0 x a b d hO hb hs n ((i+j) / 2+1) j fr (by omega) (by omega) (by omega) hjb (.inr hl) h2;refine ⟨g,G1,G2,f,Zwp _ _ _ _ _ _ _ ?_⟩;rw [if_pos (by omega),Zfi (by omega)];refine ⟨by omega,_,gA (by omega),by omega,_,gA (by omega),_,_,hoc,?_⟩;rw [if_pos (by omega),wA (by omega) (by omega)]
    exact_mod_cast hf
   ·match n,hn with
    | 0,hn=>omega
    | n+1,hn =>
    obtain ⟨g,G1,G2,f,hf⟩:=l_m0 x a b d hO hb hs n i ((i+j) / 2) fr (by omega) (by omega) (by omega) (by omega) h1 (.inr (by omega));refine ⟨g,G1,G2,f,Zwp _ _ _ _ _ _ _ ?_⟩;rw [if_pos (by omega),Zfi (by omega)];refine ⟨by omega,_,gA (by omega),by omega,_,gA (by omega),_,_,hoc,?_⟩;rw [if_neg (by omega)];exact hf
  ·obtain rfl:i=j:=by omega
   obtain ⟨g,G1,G2,f,hf⟩:=l_m1 x a b i d hO hb hs hai hjb h1 h2 _ a d fr rfl (by omega) (.start a d) (.refl _ _ _);refine ⟨g,G1,G2,f,Zwp _ _ _ _ _ _ _ ?_⟩;rw [if_neg (by omega)];exact hf
theorem l_m3 (x a m i:Nat) (d:AR) (hO:OkC x d) (hb:m<d.size) (hs:Srt (kx x) a m d) (hai:a≤i) (him:i≤m) (h1:i=a∨kx x d[i - 1]!≤kx x d[m]!) (h2:i=m∨kx x d[m]!<kx x d[i]!) :
  ∀ (n q:Nat) (e:AR) (fr:Bool),q - i=n→i≤q→Shr q m d e→Stp (kx x) a (m+1) d e→Mgd x a (m+1) d (Zla fr e.toList x i q)
 | 0,q,e,fr,hn,hq,S,T=>by
  obtain rfl:q=i:=by omega
  refine ⟨e,T,S.srt hs h1 h2 hai,fr,Z4l _ _ _ _ _ _ ?_⟩
  rw [if_neg (by omega)]
 | n+1,q,e,fr,hn,hq,S,T=>by
  have hsz:=hO.sz;have hqm:=S.qm;have hes:e.size=d.size:=S.size;obtain ⟨p,rfl⟩:∃ p,q=p+1:=⟨q - 1,by omega⟩;have hk:kx x d[m]!<kx x d[p]!:=by
   rcases h2 with h2 | h2
   ·omega
   ·have:=hs.le (i:=i) (j:=p) hai (by omega) (by omega);omega
  obtain ⟨g,G1,G2,f,hf⟩:=l_m3 x a m i d hO hb hs hai him h1 h2 n p (swp e (p+1) p) false (by omega) (by omega) (S.next hb) (T.trans ((S.stp hb hk).mono (by omega) (by omega)));refine ⟨g,G1,G2,f,Z4l _ _ _ _ _ _ ?_⟩;have e1:w (((p+1:Nat):Int) - 1)=(p:Int):=by rw [wA (by omega) (by omega)];omega
  rw [if_pos (by omega),e1];refine ⟨by omega,_,gA (by omega),by omega,_,gA (by omega),?_⟩;rw [Int.toNat_natCast,Int.toNat_natCast,set2];obtain ⟨v,hv⟩:=set3 (i:=p+1) e[p]! (show p<e.size by omega);exact ⟨v,hv,hf⟩
theorem l_m2 (x a m:Nat) (d:AR) (hO:OkC x d) (hb:m<d.size) (hs:Srt (kx x) a m d):∀ (n i j:Nat) (fr:Bool),j - i≤n→a≤i→i≤j→j≤m →
  (i=a∨kx x d[i - 1]!≤kx x d[m]!)→(j=m∨kx x d[m]!<kx x d[j]!)→Mgd x a (m+1) d (Zh7 fr d.toList x m i j)
 | n,i,j,fr,hn,hai,hij,hjb,h1,h2=>by
  have hsz:=hO.sz;by_cases h:i<j
  ·have hm1:i≤(i+j) / 2:=by omega
   have hm2:(i+j) / 2<j:=by omega
   have hoc:=Znb (hO.at_ m (by omega)) (hO.at_ ((i+j) / 2) (by omega));by_cases hl:kx x d[m]!<kx x d[(i+j) / 2]!
   ·match n,hn with
    | 0,hn=>omega
    | n+1,hn =>
    obtain ⟨g,G1,G2,f,hf⟩:=l_m2 x a m d hO hb hs n i ((i+j) / 2) fr (by omega) (by omega) (by omega) (by omega) h1 (.inr hl);refine ⟨g,G1,G2,f,Zwq _ _ _ _ _ _ _ ?_⟩;rw [if_pos (by omega),Zfi (by omega)];refine ⟨by omega,_,gA (by omega),by omega,_,gA (by omega),_,_,hoc,?_⟩;rw [if_pos (by omega)];exact hf
   ·match n,hn with
    | 0,hn=>omega
    | n+1,hn =>
    obtain ⟨g,G1,G2,f,hf⟩:=l_m2 x a m d hO hb hs n ((i+j) / 2+1) j fr (by omega) (by omega) (by omega) hjb (.inr (by simpa using hl)) h2;refine ⟨g,G1,G2,f,Zwq _ _ _ _ _ _ _ ?_⟩;rw [if_pos (by omega),Zfi (by omega)];refine ⟨by omega,_,gA (by omega),by omega,_,gA (by omega),_,_,hoc,?_⟩;rw [if_neg (by omega),wA (by omega) (by omega)]
    exact_mod_cast hf
  ·obtain rfl:i=j:=by omega
   obtain ⟨g,G1,G2,f,hf⟩:=l_m3 x a m i d hO hb hs hai hjb h1 h2 _ m d fr rfl (by omega) (.start m d) (.refl _ _ _);refine ⟨g,G1,G2,f,Zwq _ _ _ _ _ _ _ ?_⟩;rw [if_neg (by omega)];exact hf
def IHs (x n:Nat):Prop:=∀ (a m b:Nat) (d:AR) (fr:Bool),b - a≤n→OkC x d→a<m→m<b→b≤d.size→Srt (kx x) a m d→Srt (kx x) m b d→Mgd x a b d (Zde fr d.toList x a m b)
theorem j_m4 {x n a b mid s t:Nat} {d e f:AR} (IH:IHs x n) (hn:b - mid≤n) (hO:OkC x f) (hb:b≤d.size) (C:Cutd (kx x) a b mid s t d e) (h1:a≤mid) (h2:mid≤t) (h3:t≤b) (F:Stp (kx x) a mid e f) (F':Srt (kx x) a mid f) (fr:Bool) :
  Mgd x a b d (Zf6 fr f.toList x b mid t)∧∀ s':Nat,Mgd x a b d (Zef fr f.toList x a b mid s' t false):=by
 have hfs:f.size=d.size:=F.size.trans C.stp.size;have q3:=C.q3.out F (.inr (Nat.le_refl _));have q4:=C.q4.out F (.inr h2);by_cases h:mid<t∧t<b
 ·obtain ⟨g,G1,G2,r,hr⟩:=IH mid t b f fr hn hO h.1 h.2 (by omega) q3 q4;obtain ⟨A,B⟩:=C.join h1 (by omega) F F' G1 G2;constructor
  ·refine ⟨g,A,B,r,Z4m _ _ _ _ _ _ _ ?_⟩;rw [if_pos (by omega),if_pos (by omega)];exact ⟨_,_,_,hr,rfl⟩
  ·intro s';refine ⟨g,A,B,r,Z4n _ _ _ _ _ _ _ _ _ _ ?_⟩;rw [if_pos (by omega),if_pos (by omega)];exact ⟨_,_,_,hr,rfl⟩
 ·obtain ⟨A,B⟩:=C.join h1 (by omega) F F' (.refl _ _ _) (Z7l q3 q4 h h2 h3);constructor
  ·refine ⟨f,A,B,fr,Z4m _ _ _ _ _ _ _ ?_⟩;by_cases h4:(mid:Int)<(t:Int)
   ·rw [if_pos h4,if_neg (by omega)]
   ·rw [if_neg h4]
  ·intro s';refine ⟨f,A,B,fr,Z4n _ _ _ _ _ _ _ _ _ _ ?_⟩;by_cases h4:(mid:Int)<(t:Int)
   ·rw [if_pos h4,if_neg (by omega)]
   ·rw [if_neg h4]
theorem l_m4 (x n a m b:Nat) (d:AR) (IH:IHs x n) (hn:b - a≤n+1) (hO:OkC x d) (ham:a+1<m) (hmb:m+1<b) (hb:b≤d.size) (hlo:Srt (kx x) a m d) (hhi:Srt (kx x) m b d) :
  ∀ (k s r:Nat) (fr:Bool),r - s≤k→a≤s→s≤r→r≤m→r≤(a+b) / 2→(a+b) / 2+m≤s+b →
  ((s=a∨(a+b) / 2+m=s+b)∨kx x d[s - 1]!≤kx x d[(a+b) / 2+m - s]!)→((r=(a+b) / 2∨r=m)∨kx x d[(a+b) / 2+m - r - 1]!<kx x d[r]!) →
  Mgd x a b d (Zf5 fr d.toList x a m b ((a+b) / 2:Nat) ((a+b) / 2+m:Nat) s r ((a+b) / 2+m - 1:Nat))
 | k,s,r,fr,hk,hs1,hsr,hr1,hr2,hs4,h1,h2=>by
  have hsz:=hO.sz;by_cases h:s<r
  ·have hm1:s≤(s+r) / 2:=by omega
   have hm2:(s+r) / 2<r:=by omega
   have e1:w ((((a+b) / 2+m - 1:Nat):Int) - (((s+r) / 2:Nat):Int))=(((a+b) / 2+m - 1 - (s+r) / 2:Nat):Int):=by rw [wA (by omega) (by omega)];omega
   have hoc:=Znb (hO.at_ ((a+b) / 2+m - 1 - (s+r) / 2) (by omega)) (hO.at_ ((s+r) / 2) (by omega));by_cases hl:kx x d[(a+b) / 2+m - 1 - (s+r) / 2]!<kx x d[(s+r) / 2]!
   ·match k,hk with
    | 0,hk=>omega
    | k+1,hk =>
    obtain ⟨g,G1,G2,f,hf⟩:=l_m4 x n a m b d IH hn hO ham hmb hb hlo hhi k s ((s+r) / 2) fr (by omega) hs1 (by omega) (by omega) (by omega) hs4 h1 (.inr (by rw [show (a+b) / 2+m - (s+r) / 2 - 1=(a+b) / 2+m - 1 - (s+r) / 2 by omega];exact hl));refine ⟨g,G1,G2,f,Zmz _ _ _ _ _ _ _ _ _ _ _ _ ?_⟩;rw [if_pos (by omega),Zfi (by omega),e1];refine ⟨by omega,_,gA (by omega),by omega,_,gA (by omega),_,_,hoc,?_⟩;rw [if_pos (by omega)];exact hf
   ·match k,hk with
    | 0,hk=>omega
    | k+1,hk =>
    obtain ⟨g,G1,G2,f,hf⟩:=l_m4 x n a m b d IH hn hO ham hmb hb hlo hhi k ((s+r) / 2+1) r fr (by omega) (by omega) (by omega) hr1 hr2 (by omega) (.inr (by
     rw [show (s+r) / 2+1 - 1=(s+r) / 2 by omega,show (a+b) / 2+m - ((s+r) / 2+1)=(a+b) / 2+m - 1 - (s+r) / 2 by omega];omega)) h2
    refine ⟨g,G1,G2,f,Zmz _ _ _ _ _ _ _ _ _ _ _ _ ?_⟩;rw [if_pos (by omega),Zfi (by omega),e1];refine ⟨by omega,_,gA (by omega),by omega,_,gA (by omega),_,_,hoc,?_⟩;rw [if_neg (by omega),wA (by omega) (by omega)]
    exact_mod_cast hf
  ·obtain rfl:s=r:=by omega
   have e2:w ((((a+b) / 2+m:Nat):Int) - (s:Int))=(((a+b) / 2+m - s:Nat):Int):=by rw [wA (by omega) (by omega)];omega
   have K:Cut (kx x) a m b ((a+b) / 2) s d:=⟨by omega,by omega,hb,by omega,by omega,hs1,hr1,hr2,hs4,hlo,hhi,h1,h2⟩;generalize hmid:(a+b) / 2=mid at *
   have main:∀ (D:AR) (fr':Bool),Rtd s m (mid+m - s) d D→Mgd x a b d (Zlb fr' D.toList x a m b mid s ((mid+m - s:Nat):Int) false) ∧
     (a<s→s<mid→∃ v4 v5 v6,Zde fr' D.toList x a s mid=some (.tup [],[.arr 30 1 v4 (v5.map isc),.box [I v6]])∧Mgd x a b d (Zf6 v4 v5 v6 b mid ((mid+m - s:Nat):Int))) ∧
     (¬ (a<s∧s<mid)→Mgd x a b d (Zef fr' D.toList x a b mid s ((mid+m - s:Nat):Int) false)):=by
    intro D fr' R;have Cd:=K.turn R;have hOD:OkC x D:=hO.stp Cd.stp hb;have hDs:D.size=d.size:=Cd.stp.size;have k1:mid<b:=K.l2;have k2:a<mid:=K.l1;have part1:a<s→s<mid→∃ v4 v5 v6,Zde fr' D.toList x a s mid=some (.tup [],[.arr 30 1 v4 (v5.map isc),.box [I v6]])∧Mgd x a b d (Zf6 v4 v5 v6 b mid ((mid+m - s:Nat):Int)):=by
     intro p1 p2;obtain ⟨g,G1,G2,f,hf⟩:=IH a s mid D fr' (by omega) hOD p1 p2 (by omega) Cd.q1 Cd.q2;exact ⟨_,_,_,hf,(j_m4 IH (by omega) (hOD.stp G1 (by omega)) hb Cd (by omega) (by omega) (by omega) G1 G2 f).1⟩
    have part2:¬ (a<s∧s<mid)→Mgd x a b d (Zef fr' D.toList x a b mid s ((mid+m - s:Nat):Int) false):=by
     intro p;exact (j_m4 IH (by omega) hOD hb Cd (by omega) (by omega) (by omega) (.refl _ _ _) (Z7l Cd.q1 Cd.q2 p hs1 hr2) fr').2 s
    refine ⟨?_,part1,part2⟩;by_cases p:a<s∧s<mid
    ·obtain ⟨v4,v5,v6,hX,g,G1,G2,f,hf⟩:=part1 p.1 p.2;refine ⟨g,G1,G2,f,Z4o _ _ _ _ _ _ _ _ _ _ _ ?_⟩;rw [if_pos (by omega),if_pos (by omega)];exact ⟨_,_,_,hX,hf⟩
    ·obtain ⟨g,G1,G2,f,hf⟩:=part2 p;refine ⟨g,G1,G2,f,Z4o _ _ _ _ _ _ _ _ _ _ _ ?_⟩;by_cases p1:(a:Int)<(s:Int)
     ·rw [if_pos p1,if_neg (by omega)];exact hf
     ·rw [if_neg p1];exact hf
   by_cases hc:s<m∧m<mid+m - s
   ·obtain ⟨D,hD,fD,hfD⟩:=x_rot (x:=x) (d:=d) fr hsz hc.1 hc.2 (by omega);obtain ⟨-,p1,p2⟩:=main D fD hD;by_cases p:a<s∧s<mid
    ·obtain ⟨v4,v5,v6,hX,g,G1,G2,f,hf⟩:=p1 p.1 p.2;refine ⟨g,G1,G2,f,Zmz _ _ _ _ _ _ _ _ _ _ _ _ ?_⟩;rw [if_neg (by omega),e2,if_pos (by omega),if_pos (by omega)];refine ⟨_,_,_,hfD,?_⟩;rw [if_pos (by omega),if_pos (by omega)];exact ⟨_,_,_,hX,hf⟩
    ·obtain ⟨g,G1,G2,f,hf⟩:=p2 p;refine ⟨g,G1,G2,f,Zmz _ _ _ _ _ _ _ _ _ _ _ _ ?_⟩;rw [if_neg (by omega),e2,if_pos (by omega),if_pos (by omega)];refine ⟨_,_,_,hfD,?_⟩;by_cases p1:(a:Int)<(s:Int)
     ·rw [if_pos p1,if_neg (by omega)];exact hf
     ·rw [if_neg p1];exact hf
   ·obtain ⟨⟨g,G1,G2,f,hf⟩,-,-⟩:=main d fr (rtd_triv d hr1 (by omega) (by omega) (by omega));refine ⟨g,G1,G2,f,Zmz _ _ _ _ _ _ _ _ _ _ _ _ ?_⟩;rw [if_neg (by omega),e2];by_cases p1:(s:Int)<(m:Int)
    ·rw [if_pos p1,if_neg (by omega)];exact hf
    ·rw [if_neg p1];exact hf
theorem x_sym (x:Nat):∀ n,IHs x n
 | 0,a,m,b,d,fr,hn,hO,ham,hmb,hb,hlo,hhi=>by omega
 | n+1,a,m,b,d,fr,hn,hO,ham,hmb,hb,hlo,hhi=>by
  have hsz:=hO.sz;have e1:w ((m:Int) - (a:Int))=((m - a:Nat):Int):=by rw [wA (by omega) (by omega)];omega
  have e2:w ((b:Int) - (m:Int))=((b - m:Nat):Int):=by rw [wA (by omega) (by omega)];omega
  by_cases h1:m=a+1
  ·subst h1;obtain ⟨g,G1,G2,f,hf⟩:=l_m0 x a b d hO hb hhi _ (a+1) b fr (Nat.le_refl _) (by omega) (by omega) (Nat.le_refl _) (.inl rfl) (.inl rfl);refine ⟨g,G1,G2,f,Zp0 _ _ _ _ _ _ _ ?_⟩;rw [e1,if_pos (by omega)];exact hf
  ·by_cases h2:b=m+1
   ·subst h2;obtain ⟨g,G1,G2,f,hf⟩:=l_m2 x a m d hO (by omega) hlo _ a m fr (Nat.le_refl _) (Nat.le_refl _) (by omega) (Nat.le_refl _) (.inl rfl) (.inl rfl);refine ⟨g,G1,G2,f,Zp0 _ _ _ _ _ _ _ ?_⟩;rw [e1,if_neg (by omega),e2,if_pos (by omega)];exact hf
   ·have e3:w ((((a+b) / 2:Nat):Int)+(m:Int))=(((a+b) / 2+m:Nat):Int):=by rw [wA (by omega) (by omega)];omega
    have e4:w ((((a+b) / 2+m:Nat):Int) - 1)=(((a+b) / 2+m - 1:Nat):Int):=by rw [wA (by omega) (by omega)];omega
    by_cases h3:(a+b) / 2<m
    ·have e5:w ((((a+b) / 2+m:Nat):Int) - (b:Int))=(((a+b) / 2+m - b:Nat):Int):=by rw [wA (by omega) (by omega)];omega
     obtain ⟨g,G1,G2,f,hf⟩:=l_m4 x n a m b d (x_sym x n) hn hO (by omega) (by omega) hb hlo hhi _ ((a+b) / 2+m - b) ((a+b) / 2) fr (Nat.le_refl _) (by omega) (by omega) (by omega) (Nat.le_refl _) (by omega) (.inl (.inr (by omega))) (.inl (.inl rfl));refine ⟨g,G1,G2,f,Zp0 _ _ _ _ _ _ _ ?_⟩;rw [e1,if_neg (by omega),e2,if_neg (by omega),Zfi (by omega),if_pos (by omega),e3,e4,e5];exact hf
    ·obtain ⟨g,G1,G2,f,hf⟩:=l_m4 x n a m b d (x_sym x n) hn hO (by omega) (by omega) hb hlo hhi _ a m fr (Nat.le_refl _) (Nat.le_refl _) (by omega) (Nat.le_refl _) (by omega) (by omega) (.inl (.inl rfl)) (.inl (.inr rfl));refine ⟨g,G1,G2,f,Zp0 _ _ _ _ _ _ _ ?_⟩;rw [e1,if_neg (by omega),e2,if_neg (by omega),Zfi (by omega),if_neg (by omega),e3,e4];exact hf
def StdS (x:Nat) (d0:AR) (v:Rs):Prop:=∃ e,Stp (kx x) 0 d0.size d0 e∧Srt (kx x) 0 d0.size e∧Rz e x v
theorem l_s1 (x bs:Nat) (d0:AR) (hbs:0<bs) (hO0:OkC x d0) (hbn:bs<d0.size) (IH:∀ (e:AR) (fr:Bool),OkC x e→Stp (kx x) 0 d0.size d0 e→Bks (kx x) (2*bs) d0.size e→StdS x d0 (Zf7 fr e.toList x d0.size ((2*bs:Nat):Int))) :
  ∀ (n a:Nat) (e:AR) (fr:Bool),d0.size - a≤n→a≤d0.size→OkC x e→Stp (kx x) 0 d0.size d0 e→Mid (kx x) bs d0.size a e→StdS x d0 (Zlc fr e.toList x d0.size bs a ((a+2*bs:Nat):Int))
 | n,a,e,fr,hn,han,hO,T,M=>by
  have hsz:=hO0.sz;have hes:=T.size;obtain ⟨t1,t2⟩:=M.two;have e1:w ((a:Int)+(bs:Int))=((a+bs:Nat):Int):=by rw [wA (by omega) (by omega)];omega
  have e2:w (2*(bs:Int))=((2*bs:Nat):Int):=by rw [wA (by omega) (by omega)];omega
  have e3:w (((a+2*bs:Nat):Int)+((2*bs:Nat):Int))=((a+2*bs+2*bs:Nat):Int):=by rw [wA (by omega) (by omega)];omega
  have e4:w ((bs:Int)*2)=((2*bs:Nat):Int):=by rw [wA (by omega) (by omega)];omega
  by_cases h:a+2*bs≤d0.size
  ·match n,hn with
   | 0,hn=>omega
   | n+1,hn =>
   obtain ⟨g,G1,G2,f,hf⟩:=x_sym x _ a (a+bs) (a+2*bs) e fr (Nat.le_refl _) hO (by omega) (by omega) (by omega) (by rw [Nat.min_eq_left (by omega)] at t1;exact t1) (by rw [Nat.min_eq_left (by omega)] at t2;exact t2);obtain ⟨r,R1,R2,f2,hf2⟩:=l_s1 x bs d0 hbs hO0 hbn IH n (a+2*bs) g f (by omega) h (hO.stp G1 (by omega)) (T.trans (G1.mono (Nat.zero_le _) h)) (M.next G1 G2);refine ⟨r,R1,R2,f2,Zwr _ _ _ _ _ _ _ _ ?_⟩;rw [if_pos (by omega),e1,e2,e3];exact ⟨_,_,_,hf,hf2⟩
  ·by_cases h2:a+bs<d0.size
   ·obtain ⟨g,G1,G2,f,hf⟩:=x_sym x _ a (a+bs) d0.size e fr (Nat.le_refl _) hO (by omega) (by omega) (by omega) (by rw [Nat.min_eq_left (by omega)] at t1;exact t1) (by rw [Nat.min_eq_right (by omega)] at t2;exact t2);obtain ⟨r,R1,R2,f2,hf2⟩:=IH g f (hO.stp G1 (by omega)) (T.trans (G1.mono (Nat.zero_le _) (Nat.le_refl _))) (M.end_ (by omega) G1 G2);refine ⟨r,R1,R2,f2,Zwr _ _ _ _ _ _ _ _ ?_⟩;rw [if_neg (by omega),e1,if_pos (by omega),e4];exact ⟨_,_,_,hf,hf2⟩
   ·obtain ⟨r,R1,R2,f2,hf2⟩:=IH e fr hO T (M.end_ (by omega) (.refl _ _ _) (by rw [Nat.min_eq_right (by omega)] at t1;exact t1));refine ⟨r,R1,R2,f2,Zwr _ _ _ _ _ _ _ _ ?_⟩;rw [if_neg (by omega),e1,if_neg (by omega),e4];exact hf2
theorem l_s2 (x:Nat) (d0:AR) (hO0:OkC x d0):∀ (n bs:Nat) (e:AR) (fr:Bool),d0.size - bs≤n→0<bs→bs≤8192→OkC x e→Stp (kx x) 0 d0.size d0 e→Bks (kx x) bs d0.size e→StdS x d0 (Zf7 fr e.toList x d0.size bs)
 | n,bs,e,fr,hn,hbs,hb8,hO,T,B=>by
  have hsz:=hO0.sz;by_cases h:bs<d0.size
  ·match n,hn with
   | 0,hn=>omega
   | n+1,hn =>
   have e2:w (2*(bs:Int))=((0+2*bs:Nat):Int):=by rw [wA (by omega) (by omega)];omega
   obtain ⟨r,R1,R2,f2,hf2⟩:=l_s1 x bs d0 hbs hO0 h (fun e fr hO T B=>l_s2 x d0 hO0 n (2*bs) e fr (by omega) (by omega) (by omega) hO T B) _ 0 e fr (Nat.le_refl _) (Nat.zero_le _) hO T (.start B);refine ⟨r,R1,R2,f2,Z4q _ _ _ _ _ _ ?_⟩;rw [if_pos (by omega),e2];exact hf2
  ·refine ⟨e,T,B.whole (by omega),fr,Z4q _ _ _ _ _ _ ?_⟩;rw [if_neg (by omega)]
theorem l_s0 (x:Nat) (d0:AR) (hO0:OkC x d0):∀ (n a:Nat) (e:AR) (fr:Bool),d0.size - a≤n→a≤d0.size→OkC x e→Stp (kx x) 0 d0.size d0 e→Ini (kx x) a e→StdS x d0 (Zh8 fr e.toList x d0.size 20 a ((a+20:Nat):Int))
 | n,a,e,fr,hn,han,hO,T,M=>by
  have hsz:=hO0.sz;have hes:=T.size;by_cases h:a+20≤d0.size
  ·match n,hn with
   | 0,hn=>omega
   | n+1,hn =>
   obtain ⟨g,G1,G2,f,hf⟩:=x_ins (x:=x) (a:=a) (b:=a+20) (d:=e) fr hO (by omega) (by omega);obtain ⟨r,R1,R2,f2,hf2⟩:=l_s0 x d0 hO0 n (a+20) g f (by omega) h (hO.stp G1 (by omega)) (T.trans (G1.mono (Nat.zero_le _) h)) (M.next G1 G2);refine ⟨r,R1,R2,f2,Z4p _ _ _ _ _ _ _ _ ?_⟩;rw [if_pos (by omega),wA (by omega) (by omega)];exact ⟨_,_,_,hf,by exact_mod_cast hf2⟩
  ·obtain ⟨g,G1,G2,f,hf⟩:=x_ins (x:=x) (a:=a) (b:=d0.size) (d:=e) fr hO han (by omega);obtain ⟨r,R1,R2,f2,hf2⟩:=l_s2 x d0 hO0 _ 20 g f (Nat.le_refl _) (by omega) (by omega) (hO.stp G1 (by omega)) (T.trans (G1.mono (Nat.zero_le _) (Nat.le_refl _))) (M.end_ (by omega) G1 G2);refine ⟨r,R1,R2,f2,Z4p _ _ _ _ _ _ _ _ ?_⟩;rw [if_neg (by omega)];exact ⟨_,_,_,hf,hf2⟩
theorem x_stable {x:Nat} {rows:List (List Int)} (hl:rows.length≤4096) (hk:∀ r∈rows,okC x r):∃ fr,Zor rows x=some (.tup [],[.arr 30 1 fr ((stbR x rows).map isc),.box [I x]]):=by
 have hO:OkC x rows.toArray:=⟨by simpa using hl,fun i hi=>by
  have hi':i<rows.length:=by simpa using hi
  rw [getElem!_pos rows.toArray i hi]
  exact hk _ (by simp)⟩
 obtain ⟨e,S,T,f,hf⟩:=l_s0 x rows.toArray hO _ 0 rows.toArray true (Nat.le_refl _) (Nat.zero_le _) hO (.refl _ _ _) (.start _)
 have hc:=S.classes (n:=10) T (fun r hr=>by
  have:=hk r (by simpa using hr);unfold okC at this
  omega)
 rw [hc] at hf;refine ⟨f,Zbix _ _ _ ⟨_,_,_,Zbiw _ _ _ _ hf,rfl⟩⟩
end Go.Proofs.YtgnfoghkbpkgjaaGreat
namespace Go.Proofs.YtgnfoghkbpkgjaaGreat
open Go.RowKit Go.Lib
theorem Z75 (x:Int) (w:World):Calls Tryz.prog 438 #[.int .i64 x] w fun e w'=>e=.returned (.bool false)∧w'=w:=by
 go_enter Tryz.func438,Tryz.ntmps438
 go_wp2
 go_ret
 exact ⟨by simp,rfl⟩
def c3 (x y:Int):Int:=if x<y then -1 else if y<x then 1 else 0
theorem cmp_walk (x y:Int) (w:World):Calls Tryz.prog 428 #[.int .i64 x,.int .i64 y] w fun e w'=>e=.returned (.int .i64 (c3 x y))∧w'=w:=by
 have h1:=Z75 x w;have h2:=Z75 y w;by_cases e1:x<y
 ·go_enter Tryz.func428,Tryz.ntmps428
  go_wp2_with (first | (refine h1.mono ?_;rintro e w' ⟨rfl,rfl⟩) | (refine h2.mono ?_;rintro e w' ⟨rfl,rfl⟩))
  go_ret
  exact ⟨by simp [c3,e1],rfl⟩
 ·by_cases e2:y<x
  ·go_enter Tryz.func428,Tryz.ntmps428
   go_wp2_with (first | (refine h1.mono ?_;rintro e w' ⟨rfl,rfl⟩) | (refine h2.mono ?_;rintro e w' ⟨rfl,rfl⟩))
   go_ret
   exact ⟨by simp [c3,e1,e2],rfl⟩
  ·have hc:c3 x y=0:=by unfold c3;rw [if_neg e1,if_neg e2]
   rw [hc];clear hc
   go_enter Tryz.func428,Tryz.ntmps428
   go_wp2_with (first | (refine h1.mono ?_;rintro e w' ⟨rfl,rfl⟩) | (refine h2.mono ?_;rintro e w' ⟨rfl,rfl⟩))
   go_ret
   exact ⟨rfl,rfl⟩
def Zep (w:World) (v:Value) (r:List Int):Prop:=∃ a c,v=.slice a r.length c∧∀ j (h:j<r.length),∃ g off,a=some ⟨g,off,none⟩∧w.cell? ⟨g,off+j,none⟩=some (.int .i64 r[j])
theorem Zbm6 {a b:List Int} {k:Nat} (h1:k<a.length) (h2:k<b.length):cmpR (a.drop k) (b.drop k)=if c3 a[k] b[k]=0 then cmpR (a.drop (k+1)) (b.drop (k+1)) else c3 a[k] b[k]:=by
 rw [List.drop_eq_getElem_cons h1,List.drop_eq_getElem_cons h2]
 conv=>lhs;unfold cmpR
 unfold c3;by_cases e1:a[k]<b[k]
 ·simp [e1]
 ·rw [if_neg e1,if_neg e1];by_cases e2:b[k]<a[k]
  ·simp [e2]
  ·simp [e2]
theorem Zbm7 (v1 v2:Value) (a b:List Int) (w:World) (h1:Zep w v1 a) (h2:Zep w v2 b) (hl1:a.length<2305843009213693952) (hl2:b.length<2305843009213693952) :
  Calls Tryz.prog 394 #[v1,v2] w fun e w'=>e=.returned (.int .i64 (cmpR a b))∧w'=w:=by
 obtain ⟨p1,c1,rfl,r1⟩:=h1;obtain ⟨p2,c2,rfl,r2⟩:=h2;have mixed:Tryz.prog.follows Departure.mixedOrders=true:=by kernel_rfl
 have hc:=fun x y=>cmp_walk x y w
 generalize hR:cmpR a b=R;have HR:Aside (cmpR (a.drop 0) (b.drop 0)=R):=hR;clear hR
 go_enter Tryz.func394,Tryz.ntmps394
 go_wp2
 go_loopg [5,6,7,8,11] a.length (fun gg _ _ _ _ s11 wr=>∃ kk:Nat,kk≤a.length∧a.length - kk≤gg∧s11=.int .i64 kk∧wr=w∧Aside (kk≤b.length)∧Aside (cmpR (a.drop kk) (b.drop kk)=R))
 case atStart=>exact ⟨0,Nat.zero_le _,by omega,rfl,rfl,Nat.zero_le _,HR⟩
 case round =>
  obtain ⟨kk,hkk,hg,rfl,rfl,A,B⟩:=hrel;by_cases hlt:kk<a.length
  ·have hltz:(kk:Int)<(a.length:Int):=by omega
   obtain ⟨g1,o1,rfl,d1⟩:=r1 kk hlt;by_cases hlb:kk<b.length
   ·have hltb:¬ (b.length:Int)≤(kk:Int):=by omega
    obtain ⟨g2,o2,rfl,d2⟩:=r2 kk hlb;have hs:=Zbm6 hlt hlb;have hcall:=hc a[kk] b[kk];have S:Aside (cmpR (a.drop kk) (b.drop kk)=if c3 a[kk] b[kk]=0 then cmpR (a.drop (kk+1)) (b.drop (kk+1)) else c3 a[kk] b[kk]):=hs;clear hs hc r1 r2;generalize c3 a[kk] b[kk]=z at hcall S;generalize a[kk]=x at hcall d1;generalize b[kk]=y at hcall d2;by_cases hz:z=0
    ·subst hz
     go_wp2_with (refine hcall.mono ?_;rintro e w' ⟨rfl,rfl⟩)
     go_roundg (a.length - (kk+1))
     case measure=>omega
     case rel =>
      refine ⟨kk+1,by omega,by omega,by go_num,rfl,(show Aside _ from by show kk+1≤b.length;omega),(show Aside _ from ?_)⟩;have:=S.out;rw [B.out] at this;show cmpR (a.drop (kk+1)) (b.drop (kk+1))=R;simpa using this.symm
    ·have hr:R=z:=by rw [← B.out,S.out,if_neg hz]
     go_wp2_with (refine hcall.mono ?_;rintro e w' ⟨rfl,rfl⟩)
     go_ret
     exact ⟨by subst hr;rfl,rfl⟩
   ·have hltb:(b.length:Int)≤(kk:Int):=by omega
    have hr:R=1:=by
     rw [← B.out,List.drop_eq_getElem_cons hlt,show b.drop kk=[] from List.drop_of_length_le (by omega)];rfl
    clear hc r2
    go_wp2
    go_ret
    exact ⟨by subst hr;rfl,rfl⟩
  ·have hltz:¬ (kk:Int)<(a.length:Int):=by omega
   have he:kk=a.length:=by omega
   have hA:=A.out;by_cases hlb:(a.length:Int)<(b.length:Int)
   ·have hr:R=-1:=by
     rw [← B.out,he,List.drop_length,List.drop_eq_getElem_cons (l:=b) (i:=a.length) (by omega)];rfl
    clear hc r1 r2
    go_wp2
    go_ret
    exact ⟨by subst hr;rfl,rfl⟩
   ·have hr:R=0:=by
     rw [← B.out,he,List.drop_length,show b.drop a.length=[] from List.drop_of_length_le (by omega)];rfl
    clear hc r1 r2
    go_wp2
    go_ret
    exact ⟨by subst hr;rfl,rfl⟩
theorem Zbm8 (v1 v2:Value) (a b:List Int) (w:World) (h1:Zep w v1 a) (h2:Zep w v2 b) (hl1:a.length<2305843009213693952) (hl2:b.length<2305843009213693952) :
  Calls Tryz.prog 331 #[v1,v2] w fun e w'=>e=.returned (.int .i64 (cmpR a b))∧w'=w:=by
 have hc:=Zbm7 v1 v2 a b w h1 h2 hl1 hl2;generalize cmpR a b=R at hc ⊢;obtain ⟨p1,c1,rfl,r1⟩:=h1;obtain ⟨p2,c2,rfl,r2⟩:=h2;clear r1 r2
 go_enter Tryz.func331,Tryz.ntmps331
 go_wp2_with (refine hc.mono ?_;rintro e w' ⟨rfl,rfl⟩)
 go_ret
 exact ⟨rfl,rfl⟩
end Go.Proofs.YtgnfoghkbpkgjaaGreat
