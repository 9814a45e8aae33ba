/-
  Parts of the proofs for this seat: SO1 SE1 CM SO2 SO3 CPL CPW CPS RP RS KS SX OH K FA L30.
-/
import Derived.BigQuiet
import Derived.BigRegion
import Derived.Deep.QuietTactic
import Derived.Laws.CopyRow
import Derived.Lib.SlicesCompact
import Derived.Shelf.SlSortCmp.Kit1
import Derived.Shelf.SlSortCmp.NoneTotal
import Derived.Test.YtgnfoghkbpkgjaaGreatP3
import Derived.Test.YtgnfoghkbpkgjaaGreatP6
import Derived.Test.YtgnfoghkbpkgjaaGreatP7
import Derived.Test.YtgnfoghkbpkgjaaGreatP13
import Derived.Test.YtgnfoghkbpkgjaaGreatP14
set_option linter.unusedSimpArgs false
set_option linter.unusedVariables false
set_option maxRecDepth 100000
set_option maxHeartbeats 4000000
namespace Go.Proofs.YtgnfoghkbpkgjaaGreat
open Go.RowKit Go.AM
theorem Z68 {w:World}:∀ {r:List Int} {vs:List Value} {fp:List Nat},TRs w (r.map ic).flatten vs fp→vs=r.map (Value.int .i64)
 | [],vs,fp,h=>by cases h;rfl
 | x::r,vs,fp,h=>by
  rw [List.map_cons,List.flatten_cons] at h
  change TRs w (T.int .i64 x::(r.map ic).flatten) vs fp at h
  cases h with
  | cons h hs =>
   cases h
   rw [List.map_cons,← Z68 hs]
theorem Zmr {w W:World} {r:List Int} {v:Value} {fp:List Nat} (h:TR w (.lst 1 (r.map ic)) v fp) (hW:∀ g∈fp,W.heap[g]?=w.heap[g]?):Ze6 W v r:=by
 have h:=h.frame hW
 generalize he:r.map ic=es at h
 cases h with
 | lst0 sz a cap =>
  have:r=[]:=List.map_eq_nil_iff.1 he
  subst this
  exact ⟨a,cap,rfl,fun j hj=>absurd hj (Nat.not_lt_zero _)⟩
 | @lst sz es g off cap c e fz fp hne hsz hcap hg hlen hc =>
  subst he
  have hv:=Z68 hc
  refine ⟨some ⟨g,off,none⟩,cap,by rw [List.length_map],fun j hj=>⟨g,off,rfl,?_⟩⟩
  have h1:((c.toList.drop off).take ((r.map ic).length*1))[j]?=some (.int .i64 r[j]):=by
   rw [hv,List.getElem?_map,List.getElem?_eq_getElem hj];rfl
  rw [List.getElem?_take,if_pos (by rw [List.length_map];omega),List.getElem?_drop] at h1
  unfold World.cell?
  rw [hg]
  simpa using h1
end Go.Proofs.YtgnfoghkbpkgjaaGreat
namespace Go.Proofs.YtgnfoghkbpkgjaaGreat
open Go.RowKit Go.Lib
theorem dropEq {a b:List Int} {k:Nat} (h1:k<a.length) (h2:k<b.length):decide (a.drop k=b.drop k)=(decide (a[k]=b[k]) && decide (a.drop (k+1)=b.drop (k+1))):=by
 rw [Bool.eq_iff_iff]
 simp only [Bool.and_eq_true,decide_eq_true_eq]
 rw [List.drop_eq_getElem_cons h1,List.drop_eq_getElem_cons h2,List.cons.injEq]
theorem eq_walk (v1 v2:Value) (a b:List Int) (w:World) (h1:Ze6 w v1 a) (h2:Ze6 w v2 b) (hl1:a.length<2305843009213693952) (hl2:b.length<2305843009213693952) :
  Calls Tryz.prog 334 #[v1,v2] w fun e w'=>e=.returned (.bool (decide (a=b)))∧∃ q,w'=w.drewN q:=by
 obtain ⟨p1,c1,rfl,r1⟩:=h1
 obtain ⟨p2,c2,rfl,r2⟩:=h2
 have mixed:Tryz.prog.follows Departure.mixedOrders=true:=by kernel_rfl
 by_cases hlen:a.length=b.length
 ·obtain ⟨n,hna⟩:∃ n:Nat,a.length=n:=⟨_,rfl⟩
  have hnb:b.length=n:=by omega
  rw [hna,hnb]
  have HN:Aside (a.length=n∧b.length=n):=⟨hna,hnb⟩
  have hln:n<2305843009213693952:=by omega
  clear hna hnb hlen hl1 hl2
  generalize hR:decide (a=b)=R
  have HR:Aside (decide (a.drop 0=b.drop 0)=R):=hR
  clear hR
  go_enter Tryz.func334,Tryz.ntmps334
  go_wp2
  go_loopg [5,13] n (fun gg _ s13 wr=>∃ kk q:Nat,kk≤n∧n - kk≤gg∧s13=.int .i64 kk∧wr=w.drewN q∧Aside (a.length=n∧b.length=n)∧Aside (decide (a.drop kk=b.drop kk)=R))
  case atStart=>exact ⟨0,0,Nat.zero_le _,by omega,rfl,rfl,HN,HR⟩
  case round =>
   obtain ⟨kk,q,hkk,hg,rfl,rfl,A,B⟩:=hrel
   have hA:=A.out
   obtain ⟨hA1,hA2⟩:=hA
   by_cases hltn:kk<n
   ·have hltz:(kk:Int)<(n:Int):=by omega
    have hlta:kk<a.length:=by omega
    have hlt:kk<b.length:=by omega
    obtain ⟨g1,o1,rfl,d1⟩:=r1 kk hlta
    obtain ⟨g2,o2,rfl,d2⟩:=r2 kk hlt
    have S:Aside (decide (a.drop kk=b.drop kk)=(decide (a[kk]=b[kk]) && decide (a.drop (kk+1)=b.drop (kk+1)))):=by
     exact dropEq hlta hlt
    clear r1 r2 hA1 hA2
    generalize a[kk]=x at d1 S
    generalize b[kk]=y at d2 S
    by_cases hz:x=y
    ·subst hz
     go_wp2_with fail
     go_region_o
     go_wp2
     go_roundg (n - (kk+1))
     case measure=>omega
     case rel =>
      refine ⟨kk+1,q+1,by omega,by omega,by go_num,rfl,A,(show Aside _ from ?_)⟩
      have:=S.out
      rw [B.out] at this
      show decide (a.drop (kk+1)=b.drop (kk+1))=R
      simpa using this.symm
    ·have hr:R=false:=by rw [← B.out,S.out];simp [hz]
     go_wp2_with fail
     go_region_o
     go_wp2
     go_ret
     exact ⟨by subst hr;rfl,q+1,rfl⟩
   ·have hltz:¬ (kk:Int)<(n:Int):=by omega
    have hr:R=true:=by
     rw [← B.out,show b.drop kk=[] from List.drop_of_length_le (by omega),show a.drop kk=[] from List.drop_of_length_le (by omega)];simp
    clear r1 r2 hA1 hA2
    go_wp2
    go_ret
    exact ⟨by subst hr;rfl,q,rfl⟩
 ·have hne:decide (a=b)=false:=by
   rw [decide_eq_false_iff_not];intro e;exact hlen (by rw [e])
  have hlz:¬ (a.length:Int)=(b.length:Int):=by omega
  rw [hne]
  clear hne r1 r2
  go_enter Tryz.func334,Tryz.ntmps334
  go_wp2
  go_ret
  exact ⟨rfl,0,rfl⟩
theorem eqf_walk (v1 v2:Value) (a b:List Int) (w:World) (h1:Ze6 w v1 a) (h2:Ze6 w v2 b) (hl1:a.length<2305843009213693952) (hl2:b.length<2305843009213693952) :
  Calls Tryz.prog 333 #[v1,v2] w fun e w'=>e=.returned (.bool (decide (a=b)))∧∃ q,w'=w.drewN q:=by
 have hc:=eq_walk v1 v2 a b w h1 h2 hl1 hl2
 generalize decide (a=b)=R at hc ⊢
 obtain ⟨p1,c1,rfl,r1⟩:=h1
 obtain ⟨p2,c2,rfl,r2⟩:=h2
 clear r1 r2
 go_enter Tryz.func333,Tryz.ntmps333
 go_wp2_with (refine hc.mono ?_;rintro e w' ⟨rfl,q,rfl⟩)
 go_ret
 exact ⟨rfl,q,rfl⟩
end Go.Proofs.YtgnfoghkbpkgjaaGreat
namespace Go.Proofs.YtgnfoghkbpkgjaaGreat
theorem Zef:∀ a b:List Int,cmpR b a=- cmpR a b
 | [],[]=>rfl
 | [],_::_=>rfl
 | _::_,[]=>rfl
 | x::a,y::b=>by
  have ih:=Zef a b
  simp only [cmpR]
  by_cases h1:x<y
  ·rw [if_neg (by omega),if_pos h1,if_pos h1];rfl
  ·by_cases h2:y<x
   ·rw [if_pos h2,if_neg h1,if_pos h2]
   ·rw [if_neg h2,if_neg h1,if_neg h1,if_neg h2];exact ih
theorem Zwn:∀ a b:List Int,cmpR a b=0→a=b
 | [],[],_=>rfl
 | [],_::_,h=>by simp [cmpR] at h
 | _::_,[],h=>by simp [cmpR] at h
 | x::a,y::b,h=>by
  simp only [cmpR] at h
  by_cases h1:x<y
  ·rw [if_pos h1] at h;cases h
  ·rw [if_neg h1] at h
   by_cases h2:y<x
   ·rw [if_pos h2] at h;cases h
   ·rw [if_neg h2] at h
    rw [Zwn a b h,show x=y by omega]
theorem Zbkq (a:List Int):cmpR a a=0:=by have:=Zef a a;omega
theorem Zpx:∀ a b c:List Int,cmpR a b≤0→cmpR b c≤0→cmpR a c≤0
 | [],_,[],_,_=>by simp [cmpR]
 | [],_,_::_,_,_=>by simp [cmpR]
 | _::_,[],_,h,_=>by simp [cmpR] at h
 | _::_,_::_,[],_,h=>by simp [cmpR] at h
 | x::a,y::b,z::c,h1,h2=>by
  simp only [cmpR] at h1 h2 ⊢
  by_cases e1:x<y
  ·by_cases e2:y<z
   ·rw [if_pos (by omega)];decide
   ·rw [if_neg e2] at h2
    by_cases e3:z<y
    ·rw [if_pos e3] at h2;exact absurd h2 (by decide)
    ·rw [if_pos (by omega)];decide
  ·rw [if_neg e1] at h1
   by_cases e2:y<x
   ·rw [if_pos e2] at h1;exact absurd h1 (by decide)
   ·rw [if_neg e2] at h1
    have:x=y:=by omega
    subst this
    by_cases e3:x<z
    ·rw [if_pos e3];decide
    ·rw [if_neg e3] at h2 ⊢
     by_cases e4:z<x
     ·rw [if_pos e4] at h2;exact absurd h2 (by decide)
     ·rw [if_neg e4] at h2 ⊢
      exact Zpx a b c h1 h2
theorem Zbkr (a b c:List Int) (h1:leR a b=true) (h2:leR b c=true):leR a c=true:=by
 unfold leR at *
 simp only [decide_eq_true_eq] at *
 exact Zpx a b c h1 h2
theorem Zbks (a b:List Int):(leR a b || leR b a)=true:=by
 unfold leR
 have:=Zef a b
 simp only [Bool.or_eq_true,decide_eq_true_eq]
 omega
theorem Z69 (a b:List Int) (h1:leR a b=true) (h2:leR b a=true):a=b:=by
 unfold leR at *
 simp only [decide_eq_true_eq] at *
 have:=Zef a b
 exact Zwn a b (by omega)
theorem Z7a (rows:List (List Int)):(srtR rows).Perm rows:=List.mergeSort_perm _ _
theorem Z7b (rows:List (List Int)):(srtR rows).Pairwise fun a b=>leR a b=true:=List.pairwise_mergeSort Zbkr Zbks rows
theorem Zbkt {rows l:List (List Int)} (hp:l.Perm rows) (hs:l.Pairwise fun a b=>leR a b=true):l=srtR rows :=
 List.Perm.eq_of_pairwise (fun a b _ _=>Z69 a b) hs (Z7b rows) (hp.trans (Z7a rows).symm)
theorem Zwo:∀ (l:List (List Int)) (y:List Int),y∈cptR l↔y∈l
 | [],y=>by simp [cptR]
 | [a],y=>by simp [cptR]
 | a::b::l,y=>by
  unfold cptR
  have ih:=Zwo (b::l) y
  split
  ·rename_i e;subst e;rw [ih];simp
  ·rw [List.mem_cons,ih];simp
theorem Z7c:∀ l:List (List Int),(cptR l).length≤l.length
 | []=>Nat.le_refl _
 | [a]=>Nat.le_refl _
 | a::b::l=>by
  unfold cptR
  have:=Z7c (b::l)
  split
  ·exact Nat.le_trans this (Nat.le_succ _)
  ·exact Nat.succ_le_succ this
theorem Zwp:∀ l:List (List Int),l.Pairwise (fun a b=>leR a b=true)→(cptR l).Nodup
 | [],_=>by simp [cptR]
 | [a],_=>by simp [cptR]
 | a::b::l,h=>by
  have h1:=List.pairwise_cons.1 h
  unfold cptR
  split
  ·exact Zwp (b::l) h1.2
  ·rename_i e
   refine List.nodup_cons.2 ⟨fun hm=>?_,Zwp (b::l) h1.2⟩
   rw [Zwo] at hm
   rcases List.mem_cons.1 hm with e2 | e2
   ·exact e e2
   ·exact e (Z69 a b (h1.1 b (by simp)) ((List.pairwise_cons.1 h1.2).1 a e2))
end Go.Proofs.YtgnfoghkbpkgjaaGreat
namespace Go.Proofs.YtgnfoghkbpkgjaaGreat
open Go.RowKit Go.AM Go.Lib Go.Sort
def Z7d:Prop:=∀ (α:Type) [Inhabited α] (enc:α→Value) (_:OneCell enc) (cf:α→α→Int) (_:SWO (ltOf cf)) (blk off cap:Nat) (d:Array α) (w:World),CmpLays1 Tryz.prog 331 #[] enc cf blk off d.size w→Holds enc w blk off d→blk<w.heap.size→d.size<4611686018427387904 →
 Calls Tryz.prog 330 #[.slice (some ⟨blk,off,none⟩) d.size cap,.func (.func 331) #[] #[]] w fun e w'=>e=.returned (.tuple #[])∧∃ d' n os,PermIn 0 d.size d d'∧SortedIn (ltOf cf) 0 d.size d'∧w'=sortWorld enc w blk off n d' os
def Z7e:Prop:=∀ (p:Option Addr) (cap:Nat) (w:World),Calls Tryz.prog 330 #[.slice p 0 cap,.func (.func 331) #[] #[]] w fun e w'=>e=.returned (.tuple #[])∧w'=w
def El (w:World) (g:Nat):Type:={p:List Int×Value×List Nat // TR w (.lst 1 (p.1.map ic)) p.2.1 p.2.2∧(∀ x∈p.2.2,x≠g)∧p.1.length≤4}
instance (w:World) (g:Nat):Inhabited (El w g):=⟨⟨([],.slice none 0 0,[]),.lst0 1 none 0,by simp,by simp⟩⟩
def El.enc {w:World} {g:Nat} (x:El w g):Value:=x.1.2.1
def El.row {w:World} {g:Nat} (x:El w g):List Int:=x.1.1
def El.t3 {w:World} {g:Nat} (x:El w g):List T×List Value×List Nat:=(isc x.row,[x.enc],x.1.2.2)
theorem El.list {w:World} {g:Nat}:∀ l:List (List T×List Value×List Nat),(∀ p∈l,∃ q:El w g,q.t3=p)→∃ L:List (El w g),L.map El.t3=l
 | [],_=>⟨[],rfl⟩
 | p::l,h=>by
  obtain ⟨q,hq⟩:=h p (by simp)
  obtain ⟨L,hL⟩:=El.list l fun p hp=>h p (by simp [hp])
  exact ⟨q::L,by simp [hq,hL]⟩
def cfE {w:World} {g:Nat} (x y:El w g):Int:=cmpR x.row y.row
theorem swoE {w:World} {g:Nat}:SWO (ltOf (cfE (w:=w) (g:=g))) where
 irrefl x:=by unfold ltOf cfE;rw [Zbkq];rfl
 trans x y z h1 h2:=by
  unfold ltOf cfE at *
  simp only [decide_eq_true_eq] at *
  have h3:=Zpx _ _ _ (Int.le_of_lt h1) (Int.le_of_lt h2)
  have h4:=Zef x.row z.row
  have h5:=Zef y.row z.row
  rcases Int.lt_or_eq_of_le h3 with h | h
  ·exact h
  ·have:=Zwn _ _ h
   rw [this] at h1
   omega
 ntrans x y z h1 h2:=by
  unfold ltOf cfE at *
  simp only [decide_eq_false_iff_not] at *
  have h3:=Zef x.row y.row
  have h4:=Zef y.row z.row
  have h5:=Zef x.row z.row
  have:=Zpx z.row y.row x.row (by omega) (by omega)
  omega
theorem Zwq {α:Type} [Inhabited α] (enc:α→Value) (w:World) (blk off n:Nat) (d:Array α) (os:Array Obj) {k:Nat} (hk:k<w.heap.size) (hne:k≠blk):(sortWorld enc w blk off n d os).heap[k]?=w.heap[k]?:=by
 show ((w.heap.modify blk (onCells (putCells enc off d)))++os)[k]?=_
 rw [Array.getElem?_append_left (by simpa using hk),Array.getElem?_modify,if_neg (Ne.symm hne)]
theorem Zbku {α:Type} [Inhabited α] (enc:α→Value) (w:World) (blk off n:Nat) (d:Array α) (os:Array Obj) {c:Array Value} {e:TypeId} {fz:Nat×Nat} (hg:w.heap[blk]?=some (.cells c e fz)):(sortWorld enc w blk off n d os).heap[blk]?=some (.cells (putCells enc off d c) e fz):=by
 have hk:blk<w.heap.size:=(Array.getElem?_eq_some_iff.1 hg).1
 show ((w.heap.modify blk (onCells (putCells enc off d)))++os)[blk]?=_
 rw [Array.getElem?_append_left (by simpa using hk),Array.getElem?_modify,if_pos rfl,hg]
 rfl
theorem cmp_lays (w:World) (g size:Nat):CmpLays1 Tryz.prog 331 #[] (El.enc (w:=w) (g:=g)) cfE g 0 size w:=by
 intro m os dk hs x y
 have hx:=Zmr (W:=sortWorld El.enc w g 0 m dk os) x.2.1 fun k hk=>Zwq _ _ _ _ _ _ _ (x.2.1.lt k hk) (x.2.2.1 k hk)
 have hy:=Zmr (W:=sortWorld El.enc w g 0 m dk os) y.2.1 fun k hk=>Zwq _ _ _ _ _ _ _ (y.2.1.lt k hk) (y.2.2.1 k hk)
 have h4:=x.2.2.2
 have h5:=y.2.2.2
 refine (Zbkp x.enc y.enc x.row y.row _ hx hy (by unfold El.row;omega) (by unfold El.row;omega)).mono ?_
 rintro e w' ⟨rfl,rfl⟩
 exact ⟨rfl,0,#[],by simp [grow,World.drewN]⟩
end Go.Proofs.YtgnfoghkbpkgjaaGreat
namespace Go.Proofs.YtgnfoghkbpkgjaaGreat
open Go.RowKit Go.AM Go.Lib Go.Sort
theorem el_of {w:World} {g:Nat} {r:List Int} {z:List Value} {f:List Nat} (h:TRs w (isc r) z f) (hf:∀ x∈f,x≠g) (hr:r.length≤4):∃ q:El w g,q.t3=(isc r,z,f):=by
 unfold isc at h
 cases h with
 | @cons t v fp ts vs fq h hs =>
  cases hs
  rw [List.append_nil] at hf ⊢
  exact ⟨⟨(r,v,fp),h,hf,hr⟩,rfl⟩
theorem Zwr {a b:List Int} (h:isc a=isc b):a=b:=by
 unfold isc at h
 simp only [List.cons.injEq,T.lst.injEq,true_and,and_true] at h
 exact (List.map_inj_right (f:=ic) (by intro x y hxy;simpa [ic] using hxy)).1 h
theorem Z7f {α:Type} [Inhabited α] (enc:α→Value) (d:Array α) (c:Array Value) (h:d.size≤c.size):(putCells enc 0 d c).toList=d.toList.map enc++c.toList.drop d.size:=by
 refine List.ext_getElem (by simp [putCells];omega) fun i h1 h2=>?_
 have hi:i<c.size:=by simpa [putCells] using h1
 simp only [putCells,Array.getElem_toList,Array.getElem_mapIdx]
 by_cases e:i<d.size
 ·rw [if_pos (by omega),List.getElem_append_left (by simpa using e)]
  simp [e]
 ·rw [if_neg (by omega),List.getElem_append_right (by simp;omega)]
  simp
  congr 1
  omega
theorem Zpy {w:World} {g:Nat}:∀ L:List (El w g),((L.map El.t3).map (·.2.1)).flatten=L.map El.enc
 | []=>rfl
 | x::L=>by
  have ih:=Zpy L
  simp only [List.map_cons,List.flatten_cons] at ih ⊢
  rw [ih];rfl
theorem Z7g {w:World} {g:Nat} (L:List (El w g)):(L.map El.t3).map (·.1)=(L.map El.row).map isc:=by simp [El.t3]
theorem Zbkv (K:Z7d) (K0:Z7e) {fr:Bool} {rows:List (List Int)} (hlen:rows.length≤4096) (hr4:∀ r∈rows,r.length≤4) :
  Sound Tryz.prog 330 [.own 0,.fn 331 []] [.arr 30 1 fr (rows.map isc)] (.tup []) [.arr 30 1 fr ((srtR rows).map isc)]:=by
 refine ⟨by decide +kernel,?_⟩
 intro N base w ρ vs R hdom hv hz
 obtain ⟨l⟩:=vs
 simp only at hv
 cases hv with | cons q0 hv =>
 cases hv with | cons q1 hv =>
 cases hv
 cases q0 with | own hr h1 =>
 rename_i r
 cases q1 with | fn q1 =>
 rename_i c
 obtain ⟨c⟩:=c
 simp only at q1
 cases q1
 have hb:gt [Blk.arr 30 1 fr (rows.map isc)] 0=.arr 30 1 fr (rows.map isc):=by simp [gt]
 have hd0:gt [Blk.arr 30 1 fr (rows.map isc)] 0≠.dead:=by rw [hb];intro hc;cases hc
 obtain ⟨r2,e1,e2⟩:=R.blk 0 hd0
 rw [hr] at e1
 cases e1
 rw [hb] at e2
 obtain ⟨hex,e',xs,hel,ho,hsz,hlen1,htr,hfree,hfr,how⟩:=e2
 obtain ⟨hxl,ho⟩:=ho
 rcases ho with ⟨hrv,hn⟩ | ⟨g,cap,cur,hrv,hbg,hg,hcap,hcm,hcur,htake⟩
 ·have hn:rows=[]:=by simpa using hn
  subst hn
  rw [hrv]
  refine (K0 none 0 w).mono ?_
  rintro e w' ⟨rfl,rfl⟩
  exact ⟨_,ρ,rfl,Below.refl _ _,by simpa [srtR] using R,.tup .nil,hdom,by simp,fun _ _ _=>rfl,fun g hg hzz=>⟨by simpa [srtR] using hz g hzz,rfl⟩,fun b r0 _ h=>⟨r0,h,rfl⟩⟩
 obtain ⟨zs,hzx,hch⟩:=Ch.of htr
 obtain ⟨l,p1,p2,p3,p4⟩:=hch.zip
 have hblk:blkOf r.v=some g:=by rw [hrv];rfl
 have hfg:∀ x∈r.fp,x≠g:=fun x hx e=>by
  subst e
  exact (hfree x hx).2 0 r hr hd0 (.inl hblk)
 have hgs:g<w.heap.size:=(Array.getElem?_eq_some_iff.1 hg).1
 obtain ⟨L,hL⟩:=El.list (w:=w) (g:=g) l (by
  intro p hp
  have hm:p.1∈rows.map isc:=by rw [← p1];exact List.mem_map.2 ⟨p,hp,rfl⟩
  obtain ⟨r0,hr0,e0⟩:=List.mem_map.1 hm
  have ht:=p4 p hp
  rw [← e0] at ht
  obtain ⟨q,hq⟩:=el_of (g:=g) ht (fun x hx=>hfg x (by rw [← p3];exact List.mem_flatten.2 ⟨p.2.2,List.mem_map.2 ⟨p,hp,rfl⟩,hx⟩)) (hr4 r0 hr0)
  exact ⟨q,by rw [hq,e0]⟩)
 subst hL
 have hrows:L.map El.row=rows:=by
  have:(L.map El.row).map isc=rows.map isc:=by rw [← p1];simp [El.t3]
  exact (List.map_inj_right (fun a b h=>Zwr h)).1 this
 have hLl:L.length=rows.length:=by rw [← hrows,List.length_map]
 have henc:L.map El.enc=cur.toList.take ((rows.map isc).length*1):=by
  rw [htake,← hzx,← p2]
  simp [El.t3]
  clear p1 p2 p3 p4 hrows hLl
  induction L with
  | nil=>rfl
  | cons x L ih=>simp [ih];rfl
 have hcell:Holds El.enc w g 0 L.toArray:=by
  intro j hj
  have hj':j<L.length:=by simpa using hj
  have h2:cur[j]?=some (L[j].enc):=by
   have h3:(cur.toList.take ((rows.map isc).length*1))[j]?=some (L[j].enc):=by rw [← henc,List.getElem?_map,List.getElem?_eq_getElem hj'];rfl
   rw [List.getElem?_take,if_pos (by simp;omega)] at h3
   simpa using h3
  refine ⟨?_,?_⟩
  ·unfold World.cell?
   rw [hg]
   simp [h2,hj']
  ·simp [World.frozen?,hg]
 have hcall:=K (El w g) El.enc (fun x=>x.2.1.one) cfE swoE g 0 cap L.toArray w (cmp_lays w g _) hcell hgs (by simp;omega)
 rw [hrv,show (rows.map isc).length=L.toArray.size by simp [hLl]]
 refine hcall.mono ?_
 rintro e w' ⟨rfl,d',n,os,hP,hS,rfl⟩
 have hds:d'.size=L.length:=by have:=hP.1;simpa using this
 have hperm:d'.toList.Perm L:=by
  have:=hP.2.2
  rw [show L.toArray.size=d'.size from hP.1.symm,Array.extract_size] at this
  rw [hP.1,Array.extract_size] at this
  simpa using this
 have hgr:w.grownBy (sortWorld El.enc w g 0 n d' os) (some g):=⟨rfl,rfl,rfl,by show w.heap.size≤((w.heap.modify g _)++os).size;simp,fun k hk hne=>Zwq _ _ _ _ _ _ _ hk (by intro e;exact hne (by rw [e]))⟩
 have hpl:(d'.toList.map El.t3).Perm (L.map El.t3):=hperm.map _
 obtain ⟨P1,P2,P3⟩:=perm_rel R hr (by intro b hb;exact hdom b (by simpa using hb)) hrv hg p1 (by rw [p2,hzx,htake]) p3 p4 hpl ⟨_,Zbku _ _ _ _ _ _ _ hg,by
  rw [Z7f _ _ _ (by simp at hcap;omega),Zpy,hds,hLl];simp⟩ hgr
 have hsd:(d'.toList.map El.row)=srtR rows:=by
  refine Zbkt (by rw [← hrows];exact hperm.map _) ?_
  rw [List.pairwise_map,List.pairwise_iff_getElem]
  intro i j hi hj hij
  have h:=hS i j (Nat.zero_le _) hij (by simp at hj ⊢;omega)
  rw [getElem!_pos d' j (by simpa using hj),getElem!_pos d' i (by simpa using hi)] at h
  unfold ltOf cfE at h
  unfold leR
  simp only [decide_eq_false_iff_not,decide_eq_true_eq,Array.getElem_toList] at h ⊢
  have:=Zef d'[i].row d'[j].row
  omega
 rw [Z7g,hsd] at P1 P2
 refine ⟨_,_,rfl,⟨hgr.os,hgr.tape,hgr.output,hgr.size,fun k hk=>hgr.block k (Nat.lt_of_lt_of_le hk R.hb) (by intro e;cases e;omega)⟩,P1,.tup .nil,fun b hb=>?_,by simp,P3,fun k hk hzz=>P2.free k hk (hz k hzz),fun b r0 hb h0=>P2.root b r0 h0⟩
 simp only [updM]
 rw [if_neg (by simp at hb;omega)]
 exact hdom b (by simpa using hb)
end Go.Proofs.YtgnfoghkbpkgjaaGreat
namespace Go.Proofs.YtgnfoghkbpkgjaaGreat
open Go.Sort
section
variable {α β:Type} [Inhabited α] [DecidableEq β] (f:α→β)
def nbk (p:α):List α→List α
 | []=>[]
 | x::l=>if f x=f p then nbk x l else x::nbk x l
def nb:List α→List α
 | []=>[]
 | x::l=>x::nbk f x l
omit [Inhabited α] in
theorem Z7h:∀ (l:List α) (p y:α),nbk f p (l++[y])=nbk f p l++if f y=f (l.getLastD p) then [] else [y]
 | [],p,y=>by by_cases h:f y=f p <;> simp [nbk,h]
 | x::l,p,y=>by
  rw [List.cons_append,nbk,nbk,Z7h l x y,List.getLastD_cons]
  split <;> rfl
omit [Inhabited α] in
theorem nb_snoc:∀ (l:List α) (p y:α),l≠[]→nb f (l++[y])=nb f l++if f y=f (l.getLastD p) then [] else [y]
 | [],p,y,h=>absurd rfl h
 | x::l,p,y,_=>by
  rw [List.cons_append,nb,nb,Z7h,List.getLastD_cons]
  rfl
omit [Inhabited α] in
theorem Zws:∀ (l:List α) (p:α),(nbk f p l).Sublist l
 | [],p=>.slnil
 | x::l,p=>by
  rw [nbk]
  split
  ·exact (Zws l x).cons _
  ·exact (Zws l x).cons_cons _
omit [Inhabited α] in
theorem nb_sub:∀ l:List α,(nb f l).Sublist l
 | []=>.slnil
 | x::l=>(Zws f l x).cons_cons _
theorem Zpz {l:List α} {m:Nat} (h0:0<m) (h:m<l.length):nb f (l.take (m+1))=nb f (l.take m)++if f l[m]! = f l[m - 1]! then [] else [l[m]!]:=by
 have hl:(l.take m).getLastD default=l[m - 1]:=by
  rw [List.getLastD_eq_getLast?,List.getLast?_take,if_neg (by omega),List.getElem?_eq_getElem (show m - 1<l.length by omega)]
  rfl
 rw [List.take_succ_eq_append_getElem h,nb_snoc f _ default _ (by intro e;have:=congrArg List.length e;rw [List.length_take,List.length_nil] at this;omega),hl,getElem!_pos l m h,getElem!_pos l (m - 1) (by omega)]
structure CInv (d:Array α) (m k:Nat) (e:Array α):Prop where
 len:(nb f (d.toList.take m)).length=k
 lt:k<m
 row:e.toList=nb f (d.toList.take m)++d.toList.drop k
omit [Inhabited α] in
theorem CInv.size {d e:Array α} {m k:Nat} (I:CInv f d m k e) (hm:m≤d.size):e.size=d.size:=by
 have h1:=I.lt
 rw [← Array.length_toList,I.row,List.length_append,I.len,List.length_drop,Array.length_toList]
 omega
theorem CInv.read {d e:Array α} {m k:Nat} (I:CInv f d m k e) (hm:m≤d.size) {j:Nat} (hj:k≤j) (hd:j<d.size):e[j]! = d[j]!:=by
 have hs:=I.size f hm
 have h:=I.len
 have h2:e.toList[j]?=d.toList[j]?:=by
  rw [I.row,List.getElem?_append_right (by omega),List.getElem?_drop,h]
  congr 1
  omega
 rw [getElem!_pos e j (by omega),getElem!_pos d j hd]
 rw [Array.getElem?_toList,Array.getElem?_toList,Array.getElem?_eq_getElem (by omega),Array.getElem?_eq_getElem hd] at h2
 exact Option.some.inj h2
theorem Zf5 (d:Array α) (j:Nat):d.toList[j]! = d[j]!:=by simp [Array.getElem!_eq_getD,Array.getD_eq_getD_getElem?]
theorem CInv.start {d:Array α} {k:Nat} (h0:0<k) (hk:k<d.size) (ha:nb f (d.toList.take k)=d.toList.take k) (he:f d[k]! = f d[k - 1]!):CInv f d (k+1) k d:=by
 have h:=Zpz f h0 (show k<d.toList.length from hk)
 rw [Zf5,Zf5,if_pos he,List.append_nil,ha] at h
 refine ⟨?_,Nat.lt_succ_self _,?_⟩
 ·rw [h,List.length_take,Array.length_toList];omega
 ·rw [h,List.take_append_drop]
theorem CInv.skip {d e:Array α} {m k:Nat} (I:CInv f d m k e) (hm:m<d.size) (he:f d[m]! = f d[m - 1]!):CInv f d (m+1) k e:=by
 have hl:=I.lt
 have h:=Zpz f (show 0<m by omega) (show m<d.toList.length from hm)
 rw [Zf5,Zf5,if_pos he,List.append_nil] at h
 exact ⟨by rw [h];exact I.len,by omega,by rw [h];exact I.row⟩
theorem CInv.keep {d e:Array α} {m k:Nat} (I:CInv f d m k e) (hm:m<d.size) (he:¬ f d[m]! = f d[m - 1]!):CInv f d (m+1) (k+1) (e.setIfInBounds k d[m]!):=by
 have hl:=I.lt
 have hn:=I.len
 have h:=Zpz f (show 0<m by omega) (show m<d.toList.length from hm)
 rw [Zf5,Zf5,if_neg he] at h
 refine ⟨by rw [h,List.length_append,hn];rfl,by omega,?_⟩
 rw [Array.toList_setIfInBounds,I.row,h,List.set_append_right _ _ (by omega),hn,Nat.sub_self,List.drop_eq_getElem_cons (show k<d.toList.length by rw [Array.length_toList];omega),List.set_cons_zero]
 simp
omit [Inhabited α] in
theorem CInv.fill {d e:Array α} {k:Nat} (I:CInv f d d.size k e) (z:α):(Lib.lay e k (List.replicate (d.size - k) z)).toList=nb f d.toList++List.replicate (d.size - k) z:=by
 have hs:=I.size f (Nat.le_refl _)
 have hl:=I.lt
 have hr:=I.row
 have hn:=I.len
 rw [show d.toList.take d.size=d.toList from List.take_of_length_le (by simp)] at hr hn
 apply List.ext_getElem?
 intro j
 rw [Array.getElem?_toList,Lib.lay_get? _ _ _ _ (by simp;omega),List.length_replicate]
 by_cases h1:j<k
 ·rw [if_neg (by omega),List.getElem?_append_left (by omega),← Array.getElem?_toList,hr,List.getElem?_append_left (by omega)]
 ·rw [List.getElem?_append_right (by omega),hn]
  by_cases h2:j<d.size
  ·rw [if_pos (by omega)]
  ·rw [if_neg (by omega),Array.getElem?_eq_none (by omega),List.getElem?_eq_none (by simp;omega)]
theorem nb_next {d:Array α} {k:Nat} (h0:0<k) (hk:k<d.size) (ha:nb f (d.toList.take k)=d.toList.take k) (he:¬ f d[k]! = f d[k - 1]!):nb f (d.toList.take (k+1))=d.toList.take (k+1):=by
 have h:=Zpz f h0 (show k<d.toList.length from hk)
 rw [Zf5,Zf5,if_neg he,ha] at h
 rw [h,List.take_succ_eq_append_getElem (show k<d.toList.length from hk)]
 simp [getElem!_pos,hk]
omit [Inhabited α] in
theorem nb_one {d:Array α} (h:d.size≤1):nb f d.toList=d.toList:=by
 obtain ⟨l⟩:=d
 match l with
 | []=>rfl
 | [a]=>rfl
 | a::b::l=>simp at h
omit [Inhabited α] in
theorem nb_one1 (d:Array α):nb f (d.toList.take 1)=d.toList.take 1:=by
 obtain ⟨l⟩:=d
 cases l with
 | nil=>rfl
 | cons a l=>simp [nb,nbk]
end
theorem nb_cpt {α:Type} (f:α→List Int):∀ l:List α,(nb f l).map f=cptR (l.map f)
 | []=>rfl
 | [a]=>rfl
 | a::b::l=>by
  have ih:=nb_cpt f (b::l)
  rw [nb] at ih
  rw [nb,nbk,List.map_cons,List.map_cons,List.map_cons,cptR]
  rw [List.map_cons,List.map_cons] at ih
  by_cases e:f b=f a
  ·rw [if_pos e,if_pos e.symm,← ih,e]
  ·rw [if_neg e,if_neg (fun h=>e h.symm),← ih]
   rfl
end Go.Proofs.YtgnfoghkbpkgjaaGreat
namespace Go.Proofs.YtgnfoghkbpkgjaaGreat
open Go.RowKit Go.AM Go.Lib Go.Sort
theorem Z7i {α:Type} [Inhabited α] (enc:α→Value) (w:World) (blk off n:Nat) (d:Array α) {k:Nat} (hne:k≠blk):(putRow enc (Sort.ahead w n) blk off d).heap[k]?=w.heap[k]?:=by
 show (w.heap.modify blk (onCells (putCells enc off d)))[k]?=_
 rw [Array.getElem?_modify,if_neg (Ne.symm hne)]
theorem Zp0 {w:World} {g q n:Nat} {d:Array (El w g)}:(putRow El.enc (Sort.ahead w q) g 0 d).drewN n=putRow El.enc (Sort.ahead w (q+n)) g 0 d:=by
 simp [putRow,mapBlock,Sort.ahead,World.drewN,Nat.add_assoc]
theorem Z7j {w wr:World} {g:Nat} (hwr:∀ k,k≠g→wr.heap[k]?=w.heap[k]?) (x y:El w g) (n:Nat) :
  Calls Tryz.prog 333 #[x.enc,y.enc] (wr.drewN n) fun r w'=>r=.returned (.bool (decide (x.row=y.row)))∧∃ p,w'=(wr.drewN n).drewN p:=by
 have hx:=Zmr (W:=wr.drewN n) x.2.1 fun k hk=>hwr k (x.2.2.1 k hk)
 have hy:=Zmr (W:=wr.drewN n) y.2.1 fun k hk=>hwr k (y.2.2.1 k hk)
 have h4:=x.2.2.2
 have h5:=y.2.2.2
 exact eqf_walk x.enc y.enc x.row y.row _ hx hy (by unfold El.row;omega) (by unfold El.row;omega)
theorem El.one {w:World} {g:Nat} (x:El w g):x.enc.oneCell'=true:=x.2.1.one
theorem put_at {w w':World} {g q kk:Nat} {dk:Array (El w g)} {z:El w g} {x:Value} (hk:kk<dk.size) (hw:w'=putRow El.enc (Sort.ahead w q) g 0 dk) (hx:El.enc z=x):w'.setCell ⟨g,kk,none⟩ x=putRow El.enc (Sort.ahead w q) g 0 (dk.setIfInBounds kk z):=by
 subst hw
 subst hx
 have:=putRow_set El.enc (Sort.ahead w q) g 0 dk kk z hk
 rwa [Nat.zero_add] at this
theorem put_end {w wr:World} {g q kk:Nat} {d dk:Array (El w g)} (f:El w g→List Int) (I:CInv f d d.size kk dk) (z:El w g) (hw:wr=putRow El.enc (Sort.ahead w q) g 0 dk):wr.setCells g kk (List.replicate (d.size - kk) z.enc)=putRow El.enc (Sort.ahead w q) g 0 (nb f d.toList++List.replicate (d.size - kk) z).toArray:=by
 subst hw
 have hs:=I.size f (Nat.le_refl _)
 have hl:=I.lt
 have:=putRow_setCells El.enc (Sort.ahead w q) g 0 (List.replicate (d.size - kk) z) dk kk (by simp;omega)
 rw [Nat.zero_add,List.map_replicate] at this
 rw [this]
 congr 1
 rw [← I.fill f z]
theorem cpt_nil (w:World):Calls Tryz.prog 332 #[.slice none 0 0,.func (.func 333) #[] #[]] w fun e w'=>e=.returned (.slice none 0 0)∧w'=w:=by
 have mixed:Tryz.prog.follows Departure.mixedOrders=true:=by kernel_rfl
 go_enter Tryz.func332,Tryz.ntmps332
 go_wp2
 go_ret
 exact ⟨rfl,rfl⟩
theorem cpt_walk {w:World} {g:Nat} (cap:Nat) (d:Array (El w g)) (hH:Holds El.enc w g 0 d) (hsz:d.size≤4096) (hcap:d.size≤cap) :
  Calls Tryz.prog 332 #[.slice (some ⟨g,0,none⟩) d.size cap,.func (.func 333) #[] #[]] w fun e w'=>e=.returned (.slice (some ⟨g,0,none⟩) (nb El.row d.toList).length cap) ∧
   ∃ q,w'=putRow El.enc (Sort.ahead w q) g 0 (nb El.row d.toList++List.replicate (d.size - (nb El.row d.toList).length) default).toArray:=by
 have mixed:Tryz.prog.follows Departure.mixedOrders=true:=by kernel_rfl
 have HS:Aside (∀ q,nb El.row d.toList=d.toList→(nb El.row d.toList).length=d.size∧putRow El.enc (Sort.ahead w q) g 0 d=putRow El.enc (Sort.ahead w q) g 0 (nb El.row d.toList++List.replicate (d.size - (nb El.row d.toList).length) default).toArray):=by
  intro q e
  rw [e]
  simp
 have HH:Aside (Holds El.enc w g 0 d):=hH
 clear hH
 by_cases h2:d.size<2
 ·go_enter Tryz.func332,Tryz.ntmps332
  go_wp2
  go_ret
  obtain ⟨e1,e2⟩:=HS.out 0 (nb_one El.row (by omega))
  refine ⟨by rw [e1];rfl,0,?_⟩
  rw [← e2]
  exact (putRow_self El.enc w g 0 d HH.out).symm
 ·go_enter Tryz.func332,Tryz.ntmps332
  go_wp2
  go_loopg [5] d.size (fun gg s5 wr=>∃ k q:Nat,1≤k∧k≤d.size∧d.size - k≤gg∧s5=.int .i64 k∧Aside (wr=putRow El.enc (Sort.ahead w q) g 0 d)∧Aside (nb El.row (d.toList.take k)=d.toList.take k))
  case atStart=>exact ⟨1,0,Nat.le_refl _,by omega,by omega,rfl,(putRow_self El.enc w g 0 d HH.out).symm,nb_one1 El.row d⟩
  case round =>
   obtain ⟨k,q,hk1,hk,hg,rfl,W,A⟩:=hrel
   by_cases hlt:k<d.size
   ·have hHk:Holds El.enc wr g 0 d:=by rw [W.out];exact holds_putRow El.enc _ g 0 d d (holds_ahead El.enc w q g 0 d HH.out) rfl
    obtain ⟨kp,rfl⟩:∃ kp,k=kp+1:=⟨k - 1,by omega⟩
    obtain ⟨c1,f1⟩:=hHk (kp+1) hlt
    obtain ⟨c0,f0⟩:=hHk kp (by omega)
    have hcall:=Z7j (w:=w) (wr:=wr) (g:=g) (fun k hk=>by rw [W.out];exact Z7i _ _ _ _ _ _ hk) d[kp+1]! d[kp]!
    simp only [Nat.zero_add] at c1 c0 f1 f0
    clear hHk
    have hwp:IntKind.i64.wrap (kp:Int)=(kp:Int):=by rw [IntKind.wrap_i64];omega
    have jz:(kp:Int)+1<(d.size:Int):=by omega
    have jz1:(kp:Int)<(d.size:Int):=by omega
    have p0:(0:Int)≤(kp:Int)+1:=by omega
    have e0:((kp:Int)+1).toNat=kp+1:=by omega
    generalize El.enc d[kp+1]! = x at c1 hcall
    generalize El.enc d[kp]! = y at c0 hcall
    by_cases hdup:El.row d[kp+1]! = El.row d[kp]!
    ·rw [decide_eq_true hdup] at hcall
     have DD:Aside (El.row d[kp+1]! = El.row d[kp]!):=hdup
     clear hdup
     go_wp2_with fail
     go_quiet (refine Calls.quiet_of (hcall _))
     go_wp2_with fail
     have W3:Aside (wr.drewN nq=putRow El.enc (Sort.ahead w (q+nq)) g 0 d):=by show _=_;rw [W.out,Zp0]
     clear hcall c0 c1 f0 f1
     generalize wr.drewN nq=wz at W3 ⊢
     go_loopg [5,7] d.size (fun gg s5 s7 wr=>∃ (kk k2 q2:Nat) (dk:Array (El w g)),s5=.int .i64 kk∧s7=.int .i64 k2∧1≤k2∧kp+1+k2≤d.size∧d.size - (kp+1+k2)≤gg∧Aside (wr=putRow El.enc (Sort.ahead w q2) g 0 dk)∧Aside (CInv El.row d (kp+1+k2) kk dk))
     case atStart=>exact ⟨kp+1,1,q+nq,d,rfl,rfl,Nat.le_refl _,by omega,by omega,W3,CInv.start El.row (by omega) hlt A.out DD.out⟩
     case round =>
      clear W W3
      obtain ⟨kk,k2,q2,dk,rfl,rfl,h1,hle,hg2,W2,I2⟩:=hrel
      have hkk:=I2.out.lt
      have hds:=I2.out.size El.row hle
      have hHk:Holds El.enc wr g 0 dk:=by rw [W2.out];exact holds_putRow El.enc _ g 0 d dk (holds_ahead El.enc w q2 g 0 d HH.out) hds
      obtain ⟨kz,rfl⟩:∃ kz,k2=kz+1:=⟨k2 - 1,by omega⟩
      by_cases hlt2:kp+1+(kz+1)<d.size
      ·obtain ⟨cm,_⟩:=hHk (kp+1+(kz+1)) (by omega)
       obtain ⟨cp,_⟩:=hHk (kp+1+kz) (by omega)
       obtain ⟨ck,fk⟩:=hHk kk (by omega)
       rw [I2.out.read El.row hle (by omega) hlt2,Nat.zero_add] at cm
       rw [I2.out.read El.row hle (by omega) (by omega),Nat.zero_add] at cp
       rw [Nat.zero_add] at ck fk
       clear hHk
       have hcall:=Z7j (w:=w) (wr:=wr) (g:=g) (fun k hk=>by rw [W2.out];exact Z7i _ _ _ _ _ _ hk) d[kp+1+(kz+1)]! d[kp+1+kz]!
       have st:∀ a m w1,_:=fun a m w1=>run_store Tryz.prog w1 a (El.enc d[kp+1+(kz+1)]!) m (El.one _)
       obtain ⟨x,hx⟩:∃ x,El.enc d[kp+1+(kz+1)]! = x:=⟨_,rfl⟩
       have cl:=OneCell.cells (enc:=El.enc) El.one d[kp+1+(kz+1)]!
       rw [hx] at cm hcall st cl
       simp only [Value.cells] at cl
       have XE:Aside (El.enc d[kp+1+(kz+1)]! = x):=hx
       clear hx
       generalize El.enc d[kp+1+kz]! = y at cp hcall
       generalize El.enc dk[kk]! = old at ck
       have jz:(kz:Int)+1<((d.size - (kp+1):Nat):Int):=by omega
       have jz1:(kz:Int)<((d.size - (kp+1):Nat):Int):=by omega
       have hwz:IntKind.i64.wrap (kz:Int)=(kz:Int):=by rw [IntKind.wrap_i64];omega
       have q0:(0:Int)≤(kz:Int)+1:=by omega
       have r0:((kz:Int)+1).toNat=kz+1:=by omega
       have kkz:(kk:Int)<(d.size:Int):=by omega
       by_cases hdup2:El.row d[kp+1+(kz+1)]! = El.row d[kp+1+kz]!
       ·rw [decide_eq_true hdup2] at hcall
        have D2:Aside (El.row d[kp+1+(kz+1)]! = El.row d[kp+1+kz]!):=hdup2
        clear hdup2
        go_wp2_with fail
        go_quiet (refine Calls.quiet_of (hcall _))
        go_wp2
        go_roundg (d.size - (kp+1+(kz+1+1)))
        case measure=>omega
        case rel=>exact ⟨kk,kz+1+1,q2+nq,dk,rfl,by go_num,by omega,by omega,Nat.le_refl _,(show Aside _ from by show _=_;rw [W2.out,Zp0]),I2.out.skip El.row hlt2 D2.out⟩
       ·rw [decide_eq_false hdup2] at hcall
        have D2:Aside (¬ El.row d[kp+1+(kz+1)]! = El.row d[kp+1+kz]!):=hdup2
        clear hdup2
        go_wp2_with fail
        go_quiet (refine Calls.quiet_of (hcall _))
        go_wp2_with fail
        have W4:Aside (wr.drewN nq=putRow El.enc (Sort.ahead w (q2+nq)) g 0 dk):=by show _=_;rw [W2.out,Zp0]
        clear hcall cm cp ck fk
        generalize wr.drewN nq=wq at W4 ⊢
        go_roundg (d.size - (kp+1+(kz+1+1)))
        case measure=>omega
        case rel=>exact ⟨kk+1,kz+1+1,q2+nq,dk.setIfInBounds kk d[kp+1+(kz+1)]!,by go_num,by go_num,by omega,by omega,Nat.le_refl _,(show Aside _ from put_at (by omega) W4.out XE.out),I2.out.keep El.row hlt2 D2.out⟩
      ·have hend:kp+1+(kz+1)=d.size:=by omega
       have jz:¬ (kz:Int)+1<((d.size - (kp+1):Nat):Int):=by omega
       have kkz:(kk:Int)≤(d.size:Int):=by omega
       have hcl:∀ ty,(Builtin.clear_ #[34] ty #[.slice (some ⟨g,kk,none⟩) (d.size - kk) (cap - kk)]).run Tryz.prog wr=.ok (.tuple #[]) (wr.setCells g kk (List.replicate (d.size - kk) (.slice none 0 0))) :=
        fun ty=>Lib.run_clear_slice wr _ _ ty _ Tryz.underlying34 Tryz.zeroValue30 rfl rfl g kk _ _ (by omega) (fun j hj=>by have:=(hHk (kk+j) (by omega)).1;rw [Nat.zero_add] at this;rw [this];rfl) (fun j hj=>by have:=(hHk (kk+j) (by omega)).2;rw [Nat.zero_add] at this;exact this)
       clear hHk
       go_wp2
       go_ret
       have hI:=I2.out
       rw [hend] at hI
       have hlen:=hI.len
       rw [show d.toList.take d.size=d.toList from List.take_of_length_le (by simp)] at hlen
       exact ⟨by rw [hlen];rfl,q2,by rw [hlen];exact put_end El.row hI default W2.out⟩
    ·rw [decide_eq_false hdup] at hcall
     have DD:Aside (¬ El.row d[kp+1]! = El.row d[kp]!):=hdup
     clear hdup
     go_wp2_with fail
     go_quiet (refine Calls.quiet_of (hcall _))
     go_wp2
     go_roundg (d.size - (kp+1+1))
     case measure=>omega
     case rel=>exact ⟨kp+1+1,q+nq,by omega,by omega,Nat.le_refl _,by go_num,(show Aside _ from by show _=_;rw [W.out,Zp0]),nb_next El.row (by omega) hlt A.out DD.out⟩
   ·have hk2:k=d.size:=by omega
    have hltz:¬ (k:Int)<(d.size:Int):=by omega
    go_wp2
    go_ret
    obtain ⟨e1,e2⟩:=HS.out q (by have:=A.out;rw [hk2,show d.toList.take d.size=d.toList from List.take_of_length_le (by simp)] at this;exact this)
    exact ⟨by rw [e1];rfl,q,by rw [← e2];exact W.out⟩
end Go.Proofs.YtgnfoghkbpkgjaaGreat
namespace Go.Proofs.YtgnfoghkbpkgjaaGreat
open Go.RowKit Go.AM Go.Lib Go.Sort
theorem subN_rel {N:Par} {base:Nat} {ρ:Map} {w w':World} {el sz:Nat} {fr:Bool} (R:Rel N base ρ [.arr el sz fr []] w) {r:Root} (hr:ρ 0=some r) (hdom:∀ b,1≤b→ρ b=none) (hgr:w.grownBy w' none) :
  Rel N base (updM ρ 1 ⟨.slice none 0 0,[],[]⟩) [.dead,.arr el sz fr []] w' ∧
   Keeps ρ w (Free N ρ [.arr el sz fr []]) (updM ρ 1 ⟨.slice none 0 0,[],[]⟩) w' (Free N (updM ρ 1 ⟨.slice none 0 0,[],[]⟩) [.dead,.arr el sz fr []]) ∧
   ∀ g,g<w.heap.size→¬ N.a g→w'.heap[g]?=w.heap[g]?:=by
 have hb:gt [Blk.arr el sz fr []] 0=.arr el sz fr []:=by simp [gt]
 have hd:gt [Blk.arr el sz fr []] 0≠.dead:=by rw [hb];intro hc;cases hc
 obtain ⟨r1,h1,h2⟩:=R.blk 0 hd
 rw [hr] at h1
 cases h1
 rw [hb] at h2
 obtain ⟨hex,e2,xs,hel,ho,hsz,hlen,htr,hfree,hfr,how⟩:=h2
 have hup:upd [Blk.arr el sz fr []] (kill [0]++[(1,.arr el sz fr [])])=[.dead,.arr el sz fr []]:=by simp [upd,kill,stB]
 have hp:=put_rel R (n:=1) (ks:=[0]) (x:=.arr el sz fr []) (r:=⟨.slice none 0 0,[],[]⟩) (row:=none) (w':=w')
  (by intro r0 h0;rw [hdom 1 (Nat.le_refl _)] at h0;cases h0) hgr
  (by intro g' hg';cases hg') (by intro g' hg';cases hg')
  (fun hk=>⟨rfl,e2,[],hel,⟨by simp,.inl ⟨rfl,rfl⟩⟩,hsz,(by intro x hx;cases hx),.nil,(by intro x hx;cases hx),fun _=>⟨.nil,by intro x hx;cases hx⟩,fun _=>.nil⟩)
  (by intro _ x hx;cases hx)
 rw [hup] at hp
 exact hp
theorem heap_put {α:Type} [Inhabited α] (enc:α→Value) (w:World) (blk off n:Nat) (d:Array α) {k:Nat} (hne:k≠blk):(putRow enc (Sort.ahead w n) blk off d).heap[k]?=w.heap[k]?:=by
 show (w.heap.modify blk (onCells (putCells enc off d)))[k]?=_
 rw [Array.getElem?_modify,if_neg (Ne.symm hne)]
theorem Zbkw {α:Type} [Inhabited α] (enc:α→Value) (w:World) (blk off n:Nat) (d:Array α) {c:Array Value} {e:TypeId} {fz:Nat×Nat} (hg:w.heap[blk]?=some (.cells c e fz)):(putRow enc (Sort.ahead w n) blk off d).heap[blk]?=some (.cells (putCells enc off d c) e fz):=by
 show (w.heap.modify blk (onCells (putCells enc off d)))[blk]?=_
 rw [Array.getElem?_modify,if_pos rfl,hg]
 rfl
theorem Zbkx {fr:Bool} {rows:List (List Int)} (hlen:rows.length≤4096) (hr4:∀ r∈rows,r.length≤4) :
  Sound Tryz.prog 332 [.own 0,.fn 333 []] [.arr 30 1 fr (rows.map isc)] (.own 1) [.dead,.arr 30 1 fr ((cptR rows).map isc)]:=by
 refine ⟨by decide +kernel,?_⟩
 intro N base w ρ vs R hdom hv hz
 obtain ⟨l⟩:=vs
 simp only at hv
 cases hv with | cons q0 hv =>
 cases hv with | cons q1 hv =>
 cases hv
 cases q0 with | own hr h1 =>
 rename_i r
 cases q1 with | fn q1 =>
 rename_i c
 obtain ⟨c⟩:=c
 simp only at q1
 cases q1
 have hb:gt [Blk.arr 30 1 fr (rows.map isc)] 0=.arr 30 1 fr (rows.map isc):=by simp [gt]
 have hd0:gt [Blk.arr 30 1 fr (rows.map isc)] 0≠.dead:=by rw [hb];intro hc;cases hc
 obtain ⟨r2,e1,e2⟩:=R.blk 0 hd0
 rw [hr] at e1
 cases e1
 rw [hb] at e2
 obtain ⟨hex,e',xs,hel,ho,hsz,hlen1,htr,hfree,hfr,how⟩:=e2
 obtain ⟨hxl,ho⟩:=ho
 have hdom1:∀ b,1≤b→ρ b=none:=by intro b hb;exact hdom b (by simpa using hb)
 rcases ho with ⟨hrv,hn⟩ | ⟨g,cap,cur,hrv,hbg,hg,hcap,hcm,hcur,htake⟩
 ·have hn:rows=[]:=by simpa using hn
  subst hn
  rw [hrv]
  refine (cpt_nil w).mono ?_
  rintro e w' ⟨rfl,rfl⟩
  obtain ⟨p1,p2,p3⟩:=subN_rel R hr hdom1 (w':=w') ⟨rfl,rfl,rfl,Nat.le_refl _,fun _ _ _=>rfl⟩
  refine ⟨_,_,rfl,Below.refl _ _,p1,.own (b:=1) (r:=⟨.slice none 0 0,[],[]⟩) (by simp [updM]) rfl,fun b hb=>?_,by simp,p3,fun k hk hzz=>p2.free k hk (hz k hzz),fun b r0 hb h0=>p2.root b r0 h0⟩
  simp only [updM]
  rw [if_neg (by simp at hb;omega)]
  exact hdom1 b (by simp at hb;omega)
 obtain ⟨zs,hzx,hch⟩:=Ch.of htr
 obtain ⟨l,p1,p2,p3,p4⟩:=hch.zip
 have hblk:blkOf r.v=some g:=by rw [hrv];rfl
 have hfg:∀ x∈r.fp,x≠g:=fun x hx e=>by
  subst e
  exact (hfree x hx).2 0 r hr hd0 (.inl hblk)
 have hgs:g<w.heap.size:=(Array.getElem?_eq_some_iff.1 hg).1
 obtain ⟨L,hL⟩:=El.list (w:=w) (g:=g) l (by
  intro p hp
  have hm:p.1∈rows.map isc:=by rw [← p1];exact List.mem_map.2 ⟨p,hp,rfl⟩
  obtain ⟨r0,hr0,e0⟩:=List.mem_map.1 hm
  have ht:=p4 p hp
  rw [← e0] at ht
  obtain ⟨q,hq⟩:=el_of (g:=g) ht (fun x hx=>hfg x (by rw [← p3];exact List.mem_flatten.2 ⟨p.2.2,List.mem_map.2 ⟨p,hp,rfl⟩,hx⟩)) (hr4 r0 hr0)
  exact ⟨q,by rw [hq,e0]⟩)
 subst hL
 have hrows:L.map El.row=rows:=by
  have:(L.map El.row).map isc=rows.map isc:=by rw [← p1];simp [El.t3]
  exact (List.map_inj_right (fun a b h=>Zwr h)).1 this
 have hLl:L.length=rows.length:=by rw [← hrows,List.length_map]
 have henc:L.map El.enc=cur.toList.take ((rows.map isc).length*1):=by
  rw [htake,← hzx,← p2,Zpy]
 have hcell:Holds El.enc w g 0 L.toArray:=by
  intro j hj
  have hj':j<L.length:=by simpa using hj
  have h2:cur[j]?=some (L[j].enc):=by
   have h3:(cur.toList.take ((rows.map isc).length*1))[j]?=some (L[j].enc):=by rw [← henc,List.getElem?_map,List.getElem?_eq_getElem hj'];rfl
   rw [List.getElem?_take,if_pos (by simp;omega)] at h3
   simpa using h3
  refine ⟨?_,?_⟩
  ·unfold World.cell?
   rw [hg]
   simp [h2,hj']
  ·simp [World.frozen?,hg]
 have hcall:=cpt_walk (w:=w) (g:=g) cap L.toArray hcell (by simp;omega) (by simp at hcap ⊢;omega)
 rw [hrv,show (rows.map isc).length=L.toArray.size by simp [hLl]]
 refine hcall.mono ?_
 rintro e w' ⟨rfl,q,rfl⟩
 have hsub:=nb_sub El.row L
 have hnl:(nb El.row L).length≤L.length:=hsub.length_le
 have hgr:w.grownBy (putRow El.enc (Sort.ahead w q) g 0 (nb El.row L++List.replicate (L.length - (nb El.row L).length) default).toArray) (some g) :=
  ⟨rfl,rfl,rfl,by show w.heap.size≤(w.heap.modify g _).size;simp,fun k hk hne=>heap_put _ _ _ _ _ _ (by intro e;exact hne (by rw [e]))⟩
 obtain ⟨P1,P2,P3⟩:=sub_rel R hr hdom1 hrv hg p1 (by rw [p2,hzx,htake]) p3 p4 (hsub.map El.t3) (zr:=List.replicate (L.length - (nb El.row L).length) (El.enc (default:El w g))) (by simp [hLl]) ⟨_,Zbkw _ _ _ _ _ _ hg,by
  rw [Z7f _ _ _ (by simp at hcap ⊢;omega),Zpy]
  simp only [List.map_append,List.map_replicate,List.size_toArray,List.length_append,List.length_replicate,List.length_map]
  rw [show (nb El.row L).length+(L.length - (nb El.row L).length)=rows.length*1 by omega]⟩ hgr
 rw [Z7g,nb_cpt,hrows,List.length_map] at P1 P2
 have hln:(nb El.row L.toArray.toList).length=(nb El.row L).length:=rfl
 refine ⟨_,_,rfl,⟨hgr.os,hgr.tape,hgr.output,hgr.size,fun k hk=>hgr.block k (Nat.lt_of_lt_of_le hk R.hb) (by intro e;cases e;omega)⟩,P1,.own (b:=1) (r:=⟨.slice (some ⟨g,0,none⟩) (nb El.row L).length cap,(((nb El.row L).map El.t3).map (·.2.2)).flatten,[]⟩) (by unfold updM;rw [if_pos rfl]) rfl,fun b hb=>?_,by simp,P3,fun k hk hzz=>P2.free k hk (hz k hzz),fun b r0 hb h0=>P2.root b r0 h0⟩
 simp only [updM]
 rw [if_neg (by simp at hb;omega)]
 exact hdom1 b (by simp at hb;omega)
end Go.Proofs.YtgnfoghkbpkgjaaGreat
namespace Go.Proofs.YtgnfoghkbpkgjaaGreat
open Go.RowKit Go.Lib
theorem mk1 (w:World):(Instr.makeSlice 30 (.int .i64 1) (.int .i64 1)).run Tryz.prog w=.ok (.slice (some ⟨w.heap.size,0,none⟩) 1 1) (w.alloc (.cells #[.int .i64 0] 3)):=by kernel_rfl
theorem u30:Tryz.prog.underlying 30=some (.slice 3):=by kernel_rfl
theorem i3:(Tryz.prog.info? 3).map (·.size)=some 1:=by kernel_rfl
theorem Z7k (w:World) (c c':Array Value) (t:TypeId):(w.alloc (.cells c t)).setRow w.heap.size c'=w.alloc (.cells c' t):=by
 unfold World.setRow World.alloc
 congr 1
 apply Array.ext_getElem?
 intro i
 rw [Array.getElem?_modify,Array.getElem?_push,Array.getElem?_push]
 by_cases e:i=w.heap.size
 ·rw [if_pos e.symm,if_pos e,if_pos e];rfl
 ·rw [if_neg (Ne.symm e),if_neg e,if_neg e]
theorem k0:IntKind.u64.wrap (IntKind.u64.wrap (IntKind.u64.wrap (IntKind.u64.wrap (bits BinOp.and IntKind.u64 1 4294967295*bits BinOp.and IntKind.u64 1 4294967295) / 4294967296) / 4294967296)+IntKind.u64.wrap (bits BinOp.and IntKind.u64 (IntKind.u64.wrap (IntKind.u64.wrap (bits BinOp.and IntKind.u64 1 4294967295*bits BinOp.and IntKind.u64 1 4294967295) / 4294967296)) 4294967295) / 4294967296)=0:=by decide
theorem Zp1 (w:World) (g off cap n:Nat) (x:Value) (hx:x.oneCell'=true) (hc:w.cell? ⟨g,off,none⟩=some x) (z:Array Value) (hz:z.size=n+1) (ty:TypeId) :
  (Builtin.copy_ #[30,30] ty #[.slice (some ⟨w.heap.size,0,none⟩) (n+1) (n+1),.slice (some ⟨g,off,none⟩) 1 cap]).run Tryz.prog (w.alloc (.cells z 3))=.ok (goInt 1) (w.alloc (.cells (x::z.toList.drop 1).toArray 3)):=by
 have hg:g<w.heap.size:=by
  rcases Nat.lt_or_ge g w.heap.size with h' | h'
  ·exact h'
  ·simp [World.cell?,Array.getElem?_eq_none h'] at hc
 have:=run_copy_row Tryz.prog (w.alloc (.cells z 3)) 30 30 ty 3 w.heap.size 0 (n+1) (n+1) ⟨g,off,none⟩ 1 cap z 3 [x] u30 i3 (by show (w.heap.push _)[w.heap.size]?=_;rw [Array.getElem?_push,if_pos rfl]) (by show 1=Nat.min 1 (n+1);simp only [Nat.min_def];rw [if_pos (by omega)]) (by
  intro j v hj
  match j with
  | 0 =>
   simp at hj
   subst hj
   rw [← hc]
   have he:(w.alloc (.cells z 3)).heap[g]?=w.heap[g]?:=by show (w.heap.push _)[g]?=_;rw [Array.getElem?_push,if_neg (Nat.ne_of_lt hg)]
   show (w.alloc (.cells z 3)).cell? ⟨g,off+0,none⟩=_
   unfold World.cell?
   rw [he];rfl
  | j+1=>simp at hj) (by simp;omega) (by simpa using hx)
 rw [Z7k] at this
 simpa using this
theorem Zbky (g off cap:Nat) (w:World) (hc:w.cell? ⟨g,off,none⟩=some (.int .i64 (-1))) :
  Calls Tryz.prog 369 #[.slice (some ⟨g,off,none⟩) 1 cap,.int .i64 1] w fun e w'=>e=.returned (.slice (some ⟨w.heap.size,0,none⟩) 1 1)∧∃ q,w'=((w.alloc (.cells #[.int .i64 (-1)] 3)).drewN q):=by
 have mixed:Tryz.prog.follows Departure.mixedOrders=true:=by kernel_rfl
 have hm:=mk1 w
 have hk:=k0
 have hcp:=Zp1 w g off cap 0 _ rfl hc #[.int .i64 0] rfl
 simp at hcp
 go_enter Tryz.func369,Tryz.ntmps369
 go_wp2
 refine wp_loop_rounds 1 ?_
 rw [rounds_succ]
 go_wp2
 go_ret
 exact ⟨rfl,0,rfl⟩
theorem Zms (w:World) (k m c1 c2 q:Nat) (z cs:Array Value) (h1:∀ v∈cs.toList,v.oneCell'=true) (hj:cs.size=Nat.min k m) (hs:∀ (i:Nat) (v:Value),cs.toList[i]?=some v→z[i]?=some v) (hfit:k+cs.size≤z.size) (ty:TypeId) :
  (Builtin.copy_ #[30,30] ty #[.slice (some ⟨w.heap.size,k,none⟩) m c1,.slice (some ⟨w.heap.size,0,none⟩) k c2]).run Tryz.prog ((w.alloc (.cells z 3)).drewN q)=.ok (goInt cs.size) ((w.alloc (.cells (z.toList.take k++cs.toList++z.toList.drop (k+cs.size)).toArray 3)).drewN q):=by
 have hg:((w.alloc (.cells z 3)).drewN q).heap[w.heap.size]?=some (.cells z 3 (0,0)):=by show (w.heap.push _)[w.heap.size]?=_;rw [Array.getElem?_push,if_pos rfl]
 have:=run_copy_row Tryz.prog ((w.alloc (.cells z 3)).drewN q) 30 30 ty 3 w.heap.size k m c1 ⟨w.heap.size,0,none⟩ k c2 z 3 cs.toList u30 i3 hg (by rw [Array.length_toList];exact hj) (by
  intro j v hj
  have h:=hs j v hj
  have ha:(⟨w.heap.size,0,none⟩:Addr).add j=⟨w.heap.size,j,none⟩:=by
   unfold Addr.add
   by_cases e:j=0
   ·rw [if_pos e,e]
   ·rw [if_neg e,Nat.zero_add]
  rw [ha]
  unfold World.cell?
  rw [hg]
  exact h) (by rw [Array.length_toList];exact hfit) h1
 rw [show ((w.alloc (.cells z 3)).drewN q).setRow w.heap.size (z.toList.take k++cs.toList++z.toList.drop (k+cs.toList.length)).toArray=((w.alloc (.cells z 3)).setRow w.heap.size (z.toList.take k++cs.toList++z.toList.drop (k+cs.toList.length)).toArray).drewN q from rfl,Z7k,Array.length_toList] at this
 exact this
theorem mk2 (w:World):(Instr.makeSlice 30 (.int .i64 2) (.int .i64 2)).run Tryz.prog w=.ok (.slice (some ⟨w.heap.size,0,none⟩) 2 2) (w.alloc (.cells #[.int .i64 0,.int .i64 0] 3)):=by kernel_rfl
theorem Zbkz (g off cap:Nat) (w:World) (hc:w.cell? ⟨g,off,none⟩=some (.int .i64 (-1))) :
  Calls Tryz.prog 369 #[.slice (some ⟨g,off,none⟩) 1 cap,.int .i64 2] w fun e w'=>e=.returned (.slice (some ⟨w.heap.size,0,none⟩) 2 2)∧∃ q,w'=((w.alloc (.cells #[.int .i64 (-1),.int .i64 (-1)] 3)).drewN q):=by
 have mixed:Tryz.prog.follows Departure.mixedOrders=true:=by kernel_rfl
 have hm:=mk2 w
 have hk:=k0
 have hcp:=Zp1 w g off cap 1 _ rfl hc #[.int .i64 0,.int .i64 0] rfl
 have hc1:=fun c1 c2=>Zms w 1 1 c1 c2 1 #[.int .i64 (-1),.int .i64 0] #[.int .i64 (-1)] (by simp [Value.oneCell']) rfl (by intro i v h;match i with | 0=>simpa using h | i+1=>simp at h) (by decide)
 simp at hcp hc1
 have hd:∀ W:World,W.drewN 1=W.drew:=fun _=>rfl
 simp only [hd] at hc1
 clear hd
 go_enter Tryz.func369,Tryz.ntmps369
 go_wp2
 refine wp_loop_rounds 2 ?_
 rw [rounds_succ]
 go_wp2_with fail
 go_region_o
 go_wp2
 rw [rounds_succ]
 go_wp2
 go_ret
 exact ⟨rfl,1,rfl⟩
theorem mk3 (w:World):(Instr.makeSlice 30 (.int .i64 3) (.int .i64 3)).run Tryz.prog w=.ok (.slice (some ⟨w.heap.size,0,none⟩) 3 3) (w.alloc (.cells #[.int .i64 0,.int .i64 0,.int .i64 0] 3)):=by kernel_rfl
theorem Zbk0 (g off cap:Nat) (w:World) (hc:w.cell? ⟨g,off,none⟩=some (.int .i64 (-1))) :
  Calls Tryz.prog 369 #[.slice (some ⟨g,off,none⟩) 1 cap,.int .i64 3] w fun e w'=>e=.returned (.slice (some ⟨w.heap.size,0,none⟩) 3 3)∧∃ q,w'=((w.alloc (.cells #[.int .i64 (-1),.int .i64 (-1),.int .i64 (-1)] 3)).drewN q):=by
 have mixed:Tryz.prog.follows Departure.mixedOrders=true:=by kernel_rfl
 have hm:=mk3 w
 have hk:=k0
 have hcp:=Zp1 w g off cap 2 _ rfl hc #[.int .i64 0,.int .i64 0,.int .i64 0] rfl
 have hc1:=fun c1 c2=>Zms w 1 2 c1 c2 1 #[.int .i64 (-1),.int .i64 0,.int .i64 0] #[.int .i64 (-1)] (by simp [Value.oneCell']) rfl (by intro i v h;match i with | 0=>simpa using h | i+1=>simp at h) (by decide)
 have hc2:=fun c1 c2=>Zms w 2 1 c1 c2 2 #[.int .i64 (-1),.int .i64 (-1),.int .i64 0] #[.int .i64 (-1)] (by simp [Value.oneCell']) rfl (by intro i v h;match i with | 0=>simpa using h | i+1=>simp at h) (by decide)
 simp at hcp hc1 hc2
 have hd:∀ W:World,W.drewN 1=W.drew:=fun _=>rfl
 have hd2:∀ W:World,W.drewN 2=W.drew.drew:=fun _=>rfl
 simp only [hd] at hc1
 simp only [hd2] at hc2
 clear hd hd2
 go_enter Tryz.func369,Tryz.ntmps369
 go_wp2
 refine wp_loop_rounds 3 ?_
 rw [rounds_succ]
 go_wp2_with fail
 go_region_o
 go_wp2
 rw [rounds_succ]
 go_wp2_with fail
 go_region_o
 go_wp2
 rw [rounds_succ]
 go_wp2
 go_ret
 exact ⟨rfl,2,rfl⟩
theorem mk4 (w:World):(Instr.makeSlice 30 (.int .i64 4) (.int .i64 4)).run Tryz.prog w=.ok (.slice (some ⟨w.heap.size,0,none⟩) 4 4) (w.alloc (.cells #[.int .i64 0,.int .i64 0,.int .i64 0,.int .i64 0] 3)):=by kernel_rfl
theorem Zbk1 (g off cap:Nat) (w:World) (hc:w.cell? ⟨g,off,none⟩=some (.int .i64 (-1))) :
  Calls Tryz.prog 369 #[.slice (some ⟨g,off,none⟩) 1 cap,.int .i64 4] w fun e w'=>e=.returned (.slice (some ⟨w.heap.size,0,none⟩) 4 4)∧∃ q,w'=((w.alloc (.cells #[.int .i64 (-1),.int .i64 (-1),.int .i64 (-1),.int .i64 (-1)] 3)).drewN q):=by
 have mixed:Tryz.prog.follows Departure.mixedOrders=true:=by kernel_rfl
 have hm:=mk4 w
 have hk:=k0
 have hcp:=Zp1 w g off cap 3 _ rfl hc #[.int .i64 0,.int .i64 0,.int .i64 0,.int .i64 0] rfl
 have hc1:=fun c1 c2=>Zms w 1 3 c1 c2 1 #[.int .i64 (-1),.int .i64 0,.int .i64 0,.int .i64 0] #[.int .i64 (-1)] (by simp [Value.oneCell']) rfl (by intro i v h;match i with | 0=>simpa using h | i+1=>simp at h) (by decide)
 have hc2:=fun c1 c2=>Zms w 2 2 c1 c2 2 #[.int .i64 (-1),.int .i64 (-1),.int .i64 0,.int .i64 0] #[.int .i64 (-1),.int .i64 (-1)] (by simp [Value.oneCell']) rfl (by intro i v h;match i with | 0=>simpa using h | 1=>simpa using h | i+2=>simp at h) (by decide)
 simp at hcp hc1 hc2
 have hd:∀ W:World,W.drewN 1=W.drew:=fun _=>rfl
 have hd2:∀ W:World,W.drewN 2=W.drew.drew:=fun _=>rfl
 simp only [hd] at hc1
 simp only [hd2] at hc2
 clear hd hd2
 go_enter Tryz.func369,Tryz.ntmps369
 go_wp2
 refine wp_loop_rounds 3 ?_
 rw [rounds_succ]
 go_wp2_with fail
 go_region_o
 go_wp2
 rw [rounds_succ]
 go_wp2_with fail
 go_region_o
 go_wp2
 rw [rounds_succ]
 go_wp2
 go_ret
 exact ⟨rfl,2,rfl⟩
end Go.Proofs.YtgnfoghkbpkgjaaGreat
namespace Go.Proofs.YtgnfoghkbpkgjaaGreat
open Go.RowKit Go.AM Go.Lib
theorem Zp2 (n:Nat) (h1:1≤n) (h4:n≤4) (hw:∀ (g off cap:Nat) (w:World),w.cell? ⟨g,off,none⟩=some (.int .i64 (-1))→Calls Tryz.prog 369 #[.slice (some ⟨g,off,none⟩) 1 cap,.int .i64 (n:Int)] w fun e w'=>e=.returned (.slice (some ⟨w.heap.size,0,none⟩) n n)∧∃ q,w'=((w.alloc (.cells (List.replicate n (Value.int .i64 (-1))).toArray 3)).drewN q)) :
  Sound Tryz.prog 369 [L 1 ([(-1)].map ic),I n] [] (.own 0) [.arr 3 1 true ((List.replicate n (-1:Int)).map ic)]:=by
 refine ⟨by decide +kernel,?_⟩
 intro N base w ρ vs R hdom hv hz
 obtain ⟨l⟩:=vs
 simp only at hv
 cases hv with | cons q0 hv =>
 cases hv with | cons q1 hv =>
 cases hv
 cases q0 with | t q0 _ =>
 cases q1 with | t q1 _ =>
 cases q1
 obtain ⟨a,c,rfl,hc⟩:=Zmr (W:=w) (r:=[-1]) q0 (fun _ _=>rfl)
 obtain ⟨g,off,rfl,hcell⟩:=hc 0 (by simp)
 refine (hw g off c w hcell).mono ?_
 rintro e w' ⟨rfl,q,rfl⟩
 have hgr:w.grownBy ((w.alloc (.cells (List.replicate n (Value.int .i64 (-1))).toArray 3)).drewN q) none:=⟨rfl,rfl,rfl,by show w.heap.size≤(w.heap.push _).size;rw [Array.size_push];omega,fun k hk _=>by show (w.heap.push _)[k]?=_;rw [Array.getElem?_push,if_neg (by omega)]⟩
 have hup:upd [] (kill []++[(0,Blk.arr 3 1 true ((List.replicate n (-1:Int)).map ic))])=[Blk.arr 3 1 true ((List.replicate n (-1:Int)).map ic)]:=by simp [upd,kill,stB]
 have htrs:∀ (W:World) (k:Nat),TRs W ((List.replicate k (-1:Int)).map ic).flatten (List.replicate k (Value.int .i64 (-1))) []:=by
  intro W k
  induction k with
  | zero=>exact .nil
  | succ k ih=>exact .cons (fp:=[]) (.int _ _) ih
 have hp:=put_rel R (n:=0) (ks:=[]) (x:=.arr 3 1 true ((List.replicate n (-1:Int)).map ic)) (r:=⟨.slice (some ⟨w.heap.size,0,none⟩) n n,[],[]⟩) (row:=none) (w':=(w.alloc (.cells (List.replicate n (Value.int .i64 (-1))).toArray 3)).drewN q)
  (by intro r0 h0;rw [hdom 0 (Nat.le_refl _)] at h0;cases h0) hgr (by intro g' hg';cases hg') (by intro g' hg';cases hg';exact .inl (Nat.le_refl _))
  (fun hk=>⟨rfl,3,List.replicate n (Value.int .i64 (-1)),.inr rfl,⟨by simp,.inr ⟨w.heap.size,n,(List.replicate n (Value.int .i64 (-1))).toArray,by simp,R.hb,by show (w.heap.push _)[w.heap.size]?=_;rw [Array.getElem?_push,if_pos rfl],by simp,by unfold maxLen;omega,by simp,by simp⟩⟩,by decide,by simp [ic],htrs _ n,by simp,fun _=>⟨List.nodup_nil,by simp⟩,fun _=>OWs.easy (by simp [ic]) (by simp [ic,AM.easy])⟩)
  (by intro _ x hx;cases hx)
 rw [hup] at hp
 obtain ⟨p1,p2,p3⟩:=hp
 refine ⟨_,_,rfl,⟨hgr.os,hgr.tape,hgr.output,hgr.size,fun k hk=>hgr.block k (Nat.lt_of_lt_of_le hk R.hb) (by simp)⟩,p1,.own (b:=0) (r:=⟨.slice (some ⟨w.heap.size,0,none⟩) n n,[],[]⟩) (by simp [updM]) rfl,fun b hb=>?_,by simp,p3,fun k hk hzz=>p2.free k hk (hz k hzz),fun b r0 hb=>by simp at hb⟩
 simp only [updM]
 rw [if_neg (by simp at hb;omega)]
 exact hdom b (by simp)
theorem Zbk2 (n:Int) (h1:1≤n) (h4:n≤4):Sound Tryz.prog 369 [L 1 ([(-1)].map ic),I n] [] (.own 0) [.arr 3 1 true ((List.replicate n.toNat (-1:Int)).map ic)]:=by
 have:n=1∨n=2∨n=3∨n=4:=by omega
 rcases this with rfl | rfl | rfl | rfl
 ·exact Zp2 1 (by omega) (by omega) fun g off cap w h=>Zbky g off cap w h
 ·exact Zp2 2 (by omega) (by omega) fun g off cap w h=>Zbkz g off cap w h
 ·exact Zp2 3 (by omega) (by omega) fun g off cap w h=>Zbk0 g off cap w h
 ·exact Zp2 4 (by omega) (by omega) fun g off cap w h=>Zbk1 g off cap w h
end Go.Proofs.YtgnfoghkbpkgjaaGreat
namespace Go.Proofs.YtgnfoghkbpkgjaaGreat
open Go.RowKit Go.AM Go.Lib Go.Sort Go.Shelf
def Zbk3:Go.Shelf.Ren:=⟨fun | 6=>330 | 15=>386 | 14=>393 | 28=>417 | 29=>418 | 20=>419 | 21=>421 | 22=>422 | 23=>423 | 24=>424 | 25=>425 | 26=>426 | 27=>427 | 46=>440 | 47=>434 | 48=>435 | 49=>441 | 50=>442 | 57=>445 | n=>n,fun | 22=>34 | 24=>30 | 25=>230 | 3=>3 | 39=>382 | 0=>0 | 53=>407 | 55=>409 | 4=>4 | 46=>401 | 45=>400 | 50=>157 | 5=>5 | 9=>9 | 66=>421 | 70=>389 | 76=>428 | 77=>429 | n=>n,fun | n=>n⟩
theorem sortR:Go.Proofs.SlLaysF.n6 Tryz.prog Zbk3:={ mixed:=by kernel_rfl,f6:=⟨Tryz.f330.name,by decide,Tryz.func330.trans (congrArg some (by kernel_rfl))⟩,f14:=⟨Tryz.f393.name,by decide,Tryz.func393.trans (congrArg some (by kernel_rfl))⟩,f15:=Tryz.func386.trans (congrArg some (by kernel_rfl)),f20:=⟨Tryz.f419.name,by decide,Tryz.func419.trans (congrArg some (by kernel_rfl))⟩,f21:=⟨Tryz.f421.name,by decide,Tryz.func421.trans (congrArg some (by kernel_rfl))⟩,f22:=⟨Tryz.f422.name,by decide,Tryz.func422.trans (congrArg some (by kernel_rfl))⟩,f23:=⟨Tryz.f423.name,by decide,Tryz.func423.trans (congrArg some (by kernel_rfl))⟩,f24:=⟨Tryz.f424.name,by decide,Tryz.func424.trans (congrArg some (by kernel_rfl))⟩,f25:=⟨Tryz.f425.name,by decide,Tryz.func425.trans (congrArg some (by kernel_rfl))⟩,f26:=⟨Tryz.f426.name,by decide,Tryz.func426.trans (congrArg some (by kernel_rfl))⟩,f27:=⟨Tryz.f427.name,by decide,Tryz.func427.trans (congrArg some (by kernel_rfl))⟩,f28:=Tryz.func417.trans (congrArg some (by kernel_rfl)),f29:=Tryz.func418.trans (congrArg some (by kernel_rfl)),f46:=⟨Tryz.f440.name,by decide,Tryz.func440.trans (congrArg some (by kernel_rfl))⟩,f47:=Tryz.func434.trans (congrArg some (by kernel_rfl)),f48:=Tryz.func435.trans (congrArg some (by kernel_rfl)),f49:=⟨Tryz.f441.name,by decide,Tryz.func441.trans (congrArg some (by kernel_rfl))⟩,f50:=⟨Tryz.f442.name,by decide,Tryz.func442.trans (congrArg some (by kernel_rfl))⟩,f57:=⟨Tryz.f445.name,by decide,Tryz.func445.trans (congrArg some (by kernel_rfl))⟩,t0:=Tryz.underlying0,a0:=Tryz.isAgg0,z0:=Tryz.sizeOf0,v0:=Tryz.zeroValue0,t3:=Tryz.underlying3,a3:=Tryz.isAgg3,z3:=Tryz.sizeOf3,v3:=Tryz.zeroValue3,t4:=Tryz.underlying4,a4:=Tryz.isAgg4,z4:=Tryz.sizeOf4,v4:=Tryz.zeroValue4,t5:=Tryz.underlying5,a5:=Tryz.isAgg5,z5:=Tryz.sizeOf5,v5:=Tryz.zeroValue5,t9:=Tryz.underlying9,a9:=Tryz.isAgg9,z9:=Tryz.sizeOf9,v9:=Tryz.zeroValue9,t22:=Tryz.underlying34,a22:=Tryz.isAgg34,z22:=Tryz.sizeOf34,v22:=Tryz.zeroValue34,a24:=Tryz.isAgg30,z24:=Tryz.sizeOf30,t25:=Tryz.underlying230,a25:=Tryz.isAgg230,z25:=Tryz.sizeOf230,v25:=Tryz.zeroValue230,t39:=Tryz.underlying382,a39:=Tryz.isAgg382,z39:=Tryz.sizeOf382,v39:=Tryz.zeroValue382,t45:=Tryz.underlying400,a45:=Tryz.isAgg400,z45:=Tryz.sizeOf400,v45:=Tryz.zeroValue400,t46:=Tryz.underlying401,a46:=Tryz.isAgg401,z46:=Tryz.sizeOf401,v46:=Tryz.zeroValue401,t50:=Tryz.underlying157,a50:=Tryz.isAgg157,z50:=Tryz.sizeOf157,v50:=Tryz.zeroValue157,t53:=Tryz.underlying407,a53:=Tryz.isAgg407,z53:=Tryz.sizeOf407,v53:=Tryz.zeroValue407,t55:=Tryz.underlying409,a55:=Tryz.isAgg409,z55:=Tryz.sizeOf409,v55:=Tryz.zeroValue409,t66:=Tryz.underlying421,a66:=Tryz.isAgg421,z66:=Tryz.sizeOf421,v66:=Tryz.zeroValue421,t70:=Tryz.underlying389,a70:=Tryz.isAgg389,z70:=Tryz.sizeOf389,v70:=Tryz.zeroValue389,t76:=Tryz.underlying428,a76:=Tryz.isAgg428,z76:=Tryz.sizeOf428,v76:=Tryz.zeroValue428,t77:=Tryz.underlying429,a77:=Tryz.isAgg429,z77:=Tryz.sizeOf429,v77:=Tryz.zeroValue429 }
theorem kitSort:Z7d:=by
 intro α _ enc h1 cf hO blk off cap d w hcmp hH hblk hsz
 have eg:∀ args w,(callFunc 331 args).run Tryz.prog w=.ok (.enter 331 args) w:=enters_of Tryz.func331 (by kernel_rfl) rfl
 exact Any.slices_SortFunc sortR enc h1 cf hO 331 #[] blk off cap d w eg hcmp hH hblk hsz
theorem kitSort0:Z7e:=fun p cap w=>AnyF.slices_SortFunc_none { sortR with } p cap _ w
theorem Zbk4 {a b:List (List Int)} (h:a.map isc=b.map isc):a=b:=(List.map_inj_right (fun _ _ h=>Zwr h)).1 h
theorem Z7l {rows:List (List Int)} (h1:rows.length≤4096) (h2:∀ r∈rows,r.length≤4) (k:List (List Int)→AV×List Blk):extS (rows.map isc) k=some (k rows):=by
 have h:∃ r,Zw9 (rows.map isc) r:=⟨rows,rfl,h1,h2⟩
 unfold extS
 rw [dif_pos h,Zbk4 h.choose_spec.1.symm]
theorem Zbk5 (f:Nat) (xs:List AV) (h0:List Blk) (r:AV) (hr:List Blk) (h:ext f xs h0=some (r,hr)):Sound Tryz.prog f xs h0 r hr:=by
 unfold ext at h
 split at h
 ·split at h
  ·subst f
   unfold extS at h
   split at h
   ·rename_i hc
    obtain ⟨h1,h2,h3⟩:=hc.choose_spec
    generalize hc.choose=rows at h h1 h2 h3
    subst h1
    cases h
    exact Zbkv kitSort kitSort0 h2 h3
   ·cases h
  ·cases h
 ·split at h
  ·subst f
   unfold extS at h
   split at h
   ·rename_i hc
    obtain ⟨h1,h2,h3⟩:=hc.choose_spec
    generalize hc.choose=rows at h h1 h2 h3
    subst h1
    cases h
    exact Zbkx h2 h3
   ·cases h
  ·cases h
 ·split at h
  ·rename_i hc
   obtain ⟨rfl,h1,h2⟩:=hc
   cases h
   exact Zbk2 _ h1 h2
  ·cases h
 ·cases h
theorem sound {f:Nat} {xs:List AV} {h0:List Blk} {r:AV} {hr:List Blk} (h:C f xs h0=some (r,hr)):Sound Tryz.prog f xs h0 r hr:=callC_sound tbl_ok Zbk5 h
theorem t330:tbl 330=none:=by kernel_rfl
theorem t332:tbl 332=none:=by kernel_rfl
theorem t369:tbl 369=none:=by kernel_rfl
theorem c_sort {fr:Bool} {rows:List (List Int)} (h1:rows.length≤4096) (h2:∀ r∈rows,r.length≤4):C 330 [.own 0,.fn 331 []] [.arr 30 1 fr (rows.map isc)]=some (.tup [],[.arr 30 1 fr ((srtR rows).map isc)]) :=
 callC_ext t330 (by simp only [ext,if_pos];exact Z7l h1 h2 _)
theorem c_cpt {fr:Bool} {rows:List (List Int)} (h1:rows.length≤4096) (h2:∀ r∈rows,r.length≤4):C 332 [.own 0,.fn 333 []] [.arr 30 1 fr (rows.map isc)]=some (.own 1,[.dead,.arr 30 1 fr ((cptR rows).map isc)]) :=
 callC_ext t332 (by simp only [ext,if_pos];exact Z7l h1 h2 _)
theorem c_rep {n:Int} (h1:1≤n) (h4:n≤4):C 369 [L 1 ([(-1)].map ic),I n] []=some (.own 0,[.arr 3 1 true ((List.replicate n.toNat (-1:Int)).map ic)]) :=
 callC_ext t369 (by show (if (369:Nat)=369∧1≤n∧n≤4 then _ else _)=_;rw [if_pos ⟨rfl,h1,h4⟩])
theorem hSort:HSort:=by
 intro xs h1 h2
 have p:=Z7a xs
 have l1:(srtR xs).length=xs.length:=p.length_eq
 have l2:=Z7c (srtR xs)
 have h3:∀ r∈srtR xs,r.length≤4:=fun r hr=>h2 r (p.mem_iff.1 hr)
 refine ⟨cptR (srtR xs),⟨?_,?_⟩,Zwp _ (Z7b xs),fun y=>(Zwo _ y).trans p.mem_iff,by omega⟩
 ·exact Zbem _ _ ⟨_,Z40 xs h2 (by omega),_,c_sort h1 h2,_,c_cpt (by omega) h3,rfl⟩
 ·intro e
  subst e
  exact Zbel _ ⟨[],Zbek _ (Zbej _ _ _ _ (by rw [if_neg (by omega)])),_,c_sort (rows:=[]) (by simp) (by simp),_,c_cpt (rows:=srtR []) (by simp [srtR]) (by simp [srtR]),rfl⟩
theorem hRep:HRep:=fun n h1 h4=>c_rep h1 h4
def Zmt:MFun:=⟨3,63,[.tmp 6],.r [.bx 3 0,.bx 4 1,.bx 5 2,.o 6 (.mov (.q false))] [3,4,5] (.r [.mk' 7 1048576] [3,4,5,7] (.r [.ln 13 30 3,.m 14 7,.cl 15 11 [13,14],.m 7 15] [3,4,5,7] (.wc [.m 16 7,.bk 17 .lss 16 0] [3,4,5,7,17] 17 (.r [.o 6 (.mov (.q true))] [6] .ret) (.r [.ln 18 1 4,.m 19 7,.cl 20 28 [18,19],.m 7 20] [3,4,5,7] (.wc [.m 21 7,.bk 22 .lss 21 0] [3,4,5,7,22] 22 (.r [.o 6 (.mov (.q true))] [6] .ret) (.r [.ln 23 2 5,.m 24 7,.cl 25 12 [23,24],.m 7 25] [3,4,5,7] (.wc [.m 26 7,.bk 27 .lss 26 0] [3,4,5,27] 27 (.r [.o 6 (.mov (.q true))] [6] .ret) (.seq (.drw [.ln 28 30 3,.xl 29 15 [28],.ln 30 1 4,.xl 31 30 [30],.ln 32 2 5,.xl 33 16 [32],.cl 34 29 [29,31,33],.m 8 34] [[],[0],[],[2,1],[],[4,3],[1,3,5,5],[6,6,0,1,2,3,4,5,6]] [3,4,5,8]) (.r [.ln 35 30 3,.xl 36 15 [35],.o 9 (.alloc [.t .z,.t .z,.t .z,.t .z,.t .z,.t .nil,.t .z,.t .z,.t .z,.t .z,.t .z,.t .nil,.t .z,.t .z,.t .z,.t .z,.t .z,.t .nil,.t .z,.t .z,.t .z,.t .z,.t .z,.t .nil,.t .z,.t .z,.t .z,.t .z,.t .z,.t .nil]),.st 30 9 36] [3,4,5,8,9] (.r [.ln 37 1 4,.xl 38 30 [37],.o 10 (.alloc [.t .nil]),.st 1 10 38] [3,4,5,8,9,10] (.r [.ln 39 2 5,.xl 40 16 [39],.o 11 (.alloc [.t .z,.t .nil]),.st 2 11 40] [3,4,5,8,9,10,11] (.r [.ln 41 30 9,.ln 42 1 10,.ln 43 2 11,.cl 44 31 [41,42,43],.m 12 44] [3,4,5,8,9,10,11,12] (.wc [.m 45 12,.m 46 8,.b 47 .neq 45 46] [3,4,5,9,10,11,47] 47 (.r [.o 6 (.mov (.q false))] [6] .ret) (.seq (.seq (.drw [.ln 48 30 9,.ln 49 30 3,.xl 50 15 [49],.cl 51 20 [48,50],.o 52 (.un .not (.s 51))] [[],[],[1],[0,2,2],[3]] [4,5,10,11,52]) (.cond (.s 52) (.r [.o 6 (.mov (.q false))] [6] .ret) .skip)) (.seq (.seq (.drw [.ln 53 1 10,.ln 54 1 4,.xl 55 30 [54],.cl 56 32 [53,55],.o 57 (.un .not (.s 56))] [[],[],[1],[0,2,2],[3]] [5,11,57]) (.cond (.s 57) (.r [.o 6 (.mov (.q false))] [6] .ret) .skip)) (.seq (.seq (.drw [.ln 58 2 11,.ln 59 2 5,.xl 60 16 [59],.cl 61 21 [58,60],.o 62 (.un .not (.s 61))] [[],[],[1],[0,2,2],[3]] [62]) (.cond (.s 62) (.r [.o 6 (.mov (.q false))] [6] .ret) .skip)) (.r [.o 6 (.mov (.q true))] [6] .ret)))))))))))))))))⟩
theorem Zbk6:tbl 4=some Zmt:=Zg Tryz.func4 (by kernel_rfl) (by kernel_rfl)
def Z7m:MFun:=⟨2,36,[.tmp 4],.r [.bx 2 0,.mk' 4 0] [1,2] (.r [.fa 5 0 2,.ln 6 6 5,.m 7 1,.cl 8 74 [6,7],.m 1 8] [1,2] (.wc [.m 9 1,.bk 10 .lss 9 0] [1,2,10] 10 (.r [.mk' 4 (-1)] [4] .ret) (.r [.fa 11 6 2,.ln 12 6 11,.m 13 1,.cl 14 74 [12,13],.m 1 14] [1,2] (.wc [.m 15 1,.bk 16 .lss 15 0] [1,2,16] 16 (.r [.mk' 4 (-1)] [4] .ret) (.r [.fa 17 12 2,.ln 18 6 17,.m 19 1,.cl 20 74 [18,19],.m 1 20] [1,2] (.wc [.m 21 1,.bk 22 .lss 21 0] [1,2,22] 22 (.r [.mk' 4 (-1)] [4] .ret) (.r [.fa 23 18 2,.ln 24 6 23,.m 25 1,.cl 26 74 [24,25],.m 1 26] [1,2] (.wc [.m 27 1,.bk 28 .lss 27 0] [1,2,28] 28 (.r [.mk' 4 (-1)] [4] .ret) (.r [.fa 29 24 2,.ln 30 6 29,.m 31 1,.cl 32 74 [30,31],.m 1 32] [1] (.wc [.m 33 1,.bk 34 .lss 33 0] [1,34] 34 (.r [.mk' 4 (-1)] [4] .ret) (.r [.m 35 1,.m 4 35] [4] .ret)))))))))))⟩
theorem Zbk7:tbl 11=some Z7m:=Zg Tryz.func11 (by kernel_rfl) (by kernel_rfl)
def Z7n:MFun:=⟨2,12,[.tmp 4],.r [.bx 2 0,.mk' 4 0] [1,2] (.r [.fa 5 1 2,.l 6 5,.m 7 1,.cl 8 75 [6,7],.m 1 8] [1] (.wc [.m 9 1,.bk 10 .lss 9 0] [1,10] 10 (.r [.mk' 4 (-1)] [4] .ret) (.r [.m 11 1,.m 4 11] [4] .ret)))⟩
theorem Zbk8:tbl 12=some Z7n:=Zg Tryz.func12 (by kernel_rfl) (by kernel_rfl)
def Z7o:MFun:=⟨1,25,[.cell 2 (some 30)],.r [.bx 1 0,.o 2 (.alloc [.t .z,.t .z,.t .z,.t .z,.t .z,.t .nil,.t .z,.t .z,.t .z,.t .z,.t .z,.t .nil,.t .z,.t .z,.t .z,.t .z,.t .z,.t .nil,.t .z,.t .z,.t .z,.t .z,.t .z,.t .nil,.t .z,.t .z,.t .z,.t .z,.t .z,.t .nil])] [1,2] (.r [.o 3 (.alloc [.t .z,.t .z,.t .z,.t .z,.t .z,.t .nil,.t .z,.t .z,.t .z,.t .z,.t .z,.t .nil,.t .z,.t .z,.t .z,.t .z,.t .z,.t .nil,.t .z,.t .z,.t .z,.t .z,.t .z,.t .nil,.t .z,.t .z,.t .z,.t .z,.t .z,.t .nil])] [1,2,3] (.r [.fa 4 0 1,.ln 5 6 4,.cl 6 89 [5],.fa 7 0 3,.st 6 7 6] [1,2,3] (.r [.fa 8 6 1,.ln 9 6 8,.cl 10 89 [9],.fa 11 6 3,.st 6 11 10] [1,2,3] (.r [.fa 12 12 1,.ln 13 6 12,.cl 14 89 [13],.fa 15 12 3,.st 6 15 14] [1,2,3] (.r [.fa 16 18 1,.ln 17 6 16,.cl 18 89 [17],.fa 19 18 3,.st 6 19 18] [1,2,3] (.r [.fa 20 24 1,.ln 21 6 20,.cl 22 89 [21],.fa 23 24 3,.st 6 23 22] [2,3] (.r [.ln 24 30 3,.st 30 2 24] [2] .ret)))))))⟩
theorem Zbk9:tbl 15=some Z7o:=Zg Tryz.func15 (by kernel_rfl) (by kernel_rfl)
def Z7p:MFun:=⟨1,12,[.cell 2 (some 2)],.r [.bx 1 0,.o 2 (.alloc [.t .z,.t .nil])] [1,2] (.r [.o 3 (.alloc [.t .z,.t .nil])] [1,2,3] (.r [.fa 4 0 1,.l 5 4,.fa 6 0 3,.st 1 6 5] [1,2,3] (.r [.fa 7 1 1,.l 8 7,.cl 9 90 [8],.fa 10 1 3,.st 1 10 9] [2,3] (.r [.ln 11 2 3,.st 2 2 11] [2] .ret))))⟩
theorem Zbla:tbl 16=some Z7p:=Zg Tryz.func16 (by kernel_rfl) (by kernel_rfl)
def Zp3:MCode :=.we [.m 11 5,.m 12 0,.ll 13 12,.b 14 .lss 11 13] [0,1,5,14] 14 0 (.seq (.block 1 (.seq (.drw [.m 17 0,.m 18 5,.ia 19 1 17 18,.l 20 19,.m 21 1,.m 22 5,.ia 23 1 21 22,.l 24 23,.b 25 .neq 20 24] [[],[],[0,1],[2],[],[],[4,5],[6],[3,7]] [0,1,5,25]) (.cond (.s 25) (.r [.o 4 (.mov (.q false))] [4] .ret) .skip))) (.reg [.m 15 5,.bk 16 .add 15 1,.m 5 16] [0,1,5]))
def Zwt:MFun:=⟨2,26,[.tmp 4],.r [.o 4 (.mov (.q false))] [0,1] (.wc [.m 6 0,.ll 7 6,.m 8 1,.ll 9 8,.b 10 .neq 7 9] [0,1,10] 10 (.r [.o 4 (.mov (.q false))] [4] .ret) (.seq (.r [.mk' 5 0] [0,1,5] (.block 0 (.loop [0,1,5] Zp3))) (.r [.o 4 (.mov (.q true))] [4] .ret)))⟩
theorem Zblb:tbl 19=some Zwt:=Zg Tryz.func19 (by kernel_rfl) (by kernel_rfl)
def Z7q:MFun:=⟨2,35,[.tmp 4],.r [.bx 2 0,.bx 3 1,.o 4 (.mov (.q false))] [2,3] (.wc [.fa 5 0 2,.ln 6 6 5,.fa 7 0 3,.ln 8 6 7,.cl 9 99 [6,8],.o 10 (.un .not (.s 9))] [2,3,10] 10 (.r [.o 4 (.mov (.q false))] [4] .ret) (.wc [.fa 11 6 2,.ln 12 6 11,.fa 13 6 3,.ln 14 6 13,.cl 15 99 [12,14],.o 16 (.un .not (.s 15))] [2,3,16] 16 (.r [.o 4 (.mov (.q false))] [4] .ret) (.wc [.fa 17 12 2,.ln 18 6 17,.fa 19 12 3,.ln 20 6 19,.cl 21 99 [18,20],.o 22 (.un .not (.s 21))] [2,3,22] 22 (.r [.o 4 (.mov (.q false))] [4] .ret) (.wc [.fa 23 18 2,.ln 24 6 23,.fa 25 18 3,.ln 26 6 25,.cl 27 99 [24,26],.o 28 (.un .not (.s 27))] [2,3,28] 28 (.r [.o 4 (.mov (.q false))] [4] .ret) (.wc [.fa 29 24 2,.ln 30 6 29,.fa 31 24 3,.ln 32 6 31,.cl 33 99 [30,32],.o 34 (.un .not (.s 33))] [34] 34 (.r [.o 4 (.mov (.q false))] [4] .ret) (.r [.o 4 (.mov (.q true))] [4] .ret))))))⟩
theorem Zblc:tbl 20=some Z7q:=Zg Tryz.func20 (by kernel_rfl) (by kernel_rfl)
def Z7r:MFun:=⟨2,16,[.tmp 4],.r [.bx 2 0,.bx 3 1,.o 4 (.mov (.q false))] [2,3] (.wc [.fa 5 0 2,.l 6 5,.fa 7 0 3,.l 8 7,.b 9 .neq 6 8] [2,3,9] 9 (.r [.o 4 (.mov (.q false))] [4] .ret) (.wc [.fa 10 1 2,.l 11 10,.fa 12 1 3,.l 13 12,.cl 14 100 [11,13],.o 15 (.un .not (.s 14))] [15] 15 (.r [.o 4 (.mov (.q false))] [4] .ret) (.r [.o 4 (.mov (.q true))] [4] .ret)))⟩
theorem Zbld:tbl 21=some Z7r:=Zg Tryz.func21 (by kernel_rfl) (by kernel_rfl)
def Z7s:MFun:=⟨2,12,[.tmp 4],.r [.bx 2 0,.mk' 4 0] [1,2] (.r [.fa 5 0 2,.l 6 5,.m 7 1,.cl 8 107 [6,7],.m 1 8] [1] (.wc [.m 9 1,.bk 10 .lss 9 0] [1,10] 10 (.r [.mk' 4 (-1)] [4] .ret) (.r [.m 11 1,.m 4 11] [4] .ret)))⟩
theorem Zble:tbl 28=some Z7s:=Zg Tryz.func28 (by kernel_rfl) (by kernel_rfl)
def Z7t:MFun:=⟨1,9,[.cell 2 (some 1)],.r [.bx 1 0,.o 2 (.alloc [.t .nil])] [1,2] (.r [.o 3 (.alloc [.t .nil])] [1,2,3] (.r [.fa 4 0 1,.l 5 4,.cl 6 111 [5],.fa 7 0 3,.st 1 7 6] [2,3] (.r [.ln 8 1 3,.st 1 2 8] [2] .ret)))⟩
theorem Zblf:tbl 30=some Z7t:=Zg Tryz.func30 (by kernel_rfl) (by kernel_rfl)
def Z7u:MFun:=⟨2,11,[.tmp 4],.r [.bx 2 0,.bx 3 1,.o 4 (.mov (.q false))] [2,3] (.wc [.fa 5 0 2,.l 6 5,.fa 7 0 3,.l 8 7,.cl 9 114 [6,8],.o 10 (.un .not (.s 9))] [10] 10 (.r [.o 4 (.mov (.q false))] [4] .ret) (.r [.o 4 (.mov (.q true))] [4] .ret))⟩
theorem Zblg:tbl 32=some Z7u:=Zg Tryz.func32 (by kernel_rfl) (by kernel_rfl)
def Z7v:MFun:=⟨2,12,[.tmp 4],.r [.bx 2 0,.mk' 4 0] [1,2] (.r [.fa 5 5 2,.l 6 5,.m 7 1,.cl 8 192 [6,7],.m 1 8] [1] (.wc [.m 9 1,.bk 10 .lss 9 0] [1,10] 10 (.r [.mk' 4 (-1)] [4] .ret) (.r [.m 11 1,.m 4 11] [4] .ret)))⟩
theorem Zblh:tbl 74=some Z7v:=Zg Tryz.func74 (by kernel_rfl) (by kernel_rfl)
def Zhm:MCode :=.we [.m 12 5,.m 13 0,.ll 14 13,.b 15 .lss 12 14] [0,1,5,15] 15 0 (.seq (.block 1 (.r [.m 18 0,.m 19 5,.ia 20 2 18 19,.ln 21 2 20,.m 22 1,.cl 23 193 [21,22],.m 1 23] [0,1,5] (.r [.m 24 1,.bk 25 .lss 24 0] [0,1,5,25] (.cond (.s 25) (.r [.mk' 4 (-1)] [4] .ret) .skip)))) (.reg [.m 16 5,.bk 17 .add 16 1,.m 5 17] [0,1,5]))
def Z7w:MFun:=⟨2,27,[.tmp 4],.r [.mk' 4 0] [0,1] (.r [.m 6 1,.m 7 0,.ll 8 7,.b 9 .sub 6 8,.m 1 9] [0,1] (.wc [.m 10 1,.bk 11 .lss 10 0] [0,1,11] 11 (.r [.mk' 4 (-1)] [4] .ret) (.seq (.r [.mk' 5 0] [0,1,5] (.block 0 (.loop [0,1,5] Zhm))) (.r [.m 26 1,.m 4 26] [4] .ret))))⟩
theorem Zbli:tbl 75=some Z7w:=Zg Tryz.func75 (by kernel_rfl) (by kernel_rfl)
def Z7x:MFun:=⟨2,12,[.tmp 4],.r [.mk' 4 0] [0,1] (.r [.m 5 1,.m 6 0,.ll 7 6,.b 8 .sub 5 7,.m 1 8] [1] (.wc [.m 9 1,.bk 10 .lss 9 0] [1,10] 10 (.r [.mk' 4 (-1)] [4] .ret) (.r [.m 11 1,.m 4 11] [4] .ret)))⟩
theorem Zblj:tbl 76=some Z7x:=Zg Tryz.func76 (by kernel_rfl) (by kernel_rfl)
def Zhn:MCode :=.we [.m 12 5,.m 13 0,.ll 14 13,.b 15 .lss 12 14] [0,1,5,15] 15 0 (.seq (.block 1 (.r [.m 18 0,.m 19 5,.ia 20 1 18 19,.l 21 20,.m 22 1,.cl 23 76 [21,22],.m 1 23] [0,1,5] (.r [.m 24 1,.bk 25 .lss 24 0] [0,1,5,25] (.cond (.s 25) (.r [.mk' 4 (-1)] [4] .ret) .skip)))) (.reg [.m 16 5,.bk 17 .add 16 1,.m 5 17] [0,1,5]))
def Z7y:MFun:=⟨2,27,[.tmp 4],.r [.mk' 4 0] [0,1] (.r [.m 6 1,.m 7 0,.ll 8 7,.b 9 .sub 6 8,.m 1 9] [0,1] (.wc [.m 10 1,.bk 11 .lss 10 0] [0,1,11] 11 (.r [.mk' 4 (-1)] [4] .ret) (.seq (.r [.mk' 5 0] [0,1,5] (.block 0 (.loop [0,1,5] Zhn))) (.r [.m 26 1,.m 4 26] [4] .ret))))⟩
theorem Zblk:tbl 78=some Z7y:=Zg Tryz.func78 (by kernel_rfl) (by kernel_rfl)
def Z7z:MFun:=⟨1,24,[.cell 2 (some 6)],.r [.bx 1 0,.o 2 (.alloc [.t .z,.t .z,.t .z,.t .z,.t .z,.t .nil])] [1,2] (.r [.o 3 (.alloc [.t .z,.t .z,.t .z,.t .z,.t .z,.t .nil])] [1,2,3] (.r [.fa 4 0 1,.l 5 4,.fa 6 0 3,.st 1 6 5] [1,2,3] (.r [.fa 7 1 1,.l 8 7,.fa 9 1 3,.st 1 9 8] [1,2,3] (.r [.fa 10 2 1,.l 11 10,.fa 12 2 3,.st 1 12 11] [1,2,3] (.r [.fa 13 3 1,.l 14 13,.fa 15 3 3,.st 1 15 14] [1,2,3] (.r [.fa 16 4 1,.l 17 16,.fa 18 4 3,.st 1 18 17] [1,2,3] (.r [.fa 19 5 1,.l 20 19,.cl 21 209 [20],.fa 22 5 3,.st 1 22 21] [2,3] (.r [.ln 23 6 3,.st 6 2 23] [2] .ret))))))))⟩
theorem Zbll:tbl 89=some Z7z:=Zg Tryz.func89 (by kernel_rfl) (by kernel_rfl)
def Zp4:MCode :=.we [.m 8 4,.m 9 0,.ll 10 9,.b 11 .lss 8 10] [0,3,4,11] 11 0 (.seq (.block 1 (.reg [.m 14 3,.m 15 4,.m 16 0,.m 17 4,.ia 18 2 16 17,.ln 19 2 18,.cl 20 210 [19],.ia 21 2 14 15,.st 2 21 20] [0,3,4])) (.reg [.m 12 4,.bk 13 .add 12 1,.m 4 13] [0,3,4]))
def Z70:MFun:=⟨1,23,[.tmp 2],.r [.o 2 (.mov (.c (.t .nil)))] [0] (.r [.m 5 0,.ll 6 5,.o 7 (.mkslice 264 2 40 [.str ⟨#[]⟩,.lst 1 []] (.s 6) (.s 6)),.m 3 7] [0,3] (.seq (.r [.mk' 4 0] [0,3,4] (.block 0 (.loop [0,3,4] Zp4))) (.r [.m 22 3,.m 2 22] [2] .ret)))⟩
theorem Zblm:tbl 90=some Z70:=Zg Tryz.func90 (by kernel_rfl) (by kernel_rfl)
def Zp5:MCode :=.we [.m 8 4,.m 9 0,.ll 10 9,.b 11 .lss 8 10] [0,3,4,11] 11 0 (.seq (.block 1 (.reg [.m 14 3,.m 15 4,.m 16 0,.m 17 4,.ia 18 1 16 17,.l 19 18,.ia 20 1 14 15,.st 1 20 19] [0,3,4])) (.reg [.m 12 4,.bk 13 .add 12 1,.m 4 13] [0,3,4]))
def Z71:MFun:=⟨1,22,[.tmp 2],.r [.o 2 (.mov (.c (.t .nil)))] [0] (.r [.m 5 0,.ll 6 5,.o 7 (.mkslice 3 1 8 [.z] (.s 6) (.s 6)),.m 3 7] [0,3] (.seq (.r [.mk' 4 0] [0,3,4] (.block 0 (.loop [0,3,4] Zp5))) (.r [.m 21 3,.m 2 21] [2] .ret)))⟩
theorem Zbln:tbl 91=some Z71:=Zg Tryz.func91 (by kernel_rfl) (by kernel_rfl)
def Zp6:MCode :=.we [.m 8 4,.m 9 0,.ll 10 9,.b 11 .lss 8 10] [0,3,4,11] 11 0 (.seq (.block 1 (.reg [.m 14 3,.m 15 4,.m 16 0,.m 17 4,.ia 18 1 16 17,.l 19 18,.cl 20 91 [19],.ia 21 1 14 15,.st 1 21 20] [0,3,4])) (.reg [.m 12 4,.bk 13 .add 12 1,.m 4 13] [0,3,4]))
def Z72:MFun:=⟨1,23,[.tmp 2],.r [.o 2 (.mov (.c (.t .nil)))] [0] (.r [.m 5 0,.ll 6 5,.o 7 (.mkslice 30 1 24 [.lst 1 []] (.s 6) (.s 6)),.m 3 7] [0,3] (.seq (.r [.mk' 4 0] [0,3,4] (.block 0 (.loop [0,3,4] Zp6))) (.r [.m 22 3,.m 2 22] [2] .ret)))⟩
theorem Zblo:tbl 93=some Z72:=Zg Tryz.func93 (by kernel_rfl) (by kernel_rfl)
def Z73:MFun:=⟨2,36,[.tmp 4],.r [.bx 2 0,.bx 3 1,.o 4 (.mov (.q false))] [2,3] (.wc [.fa 5 0 2,.l 6 5,.fa 7 0 3,.l 8 7,.b 9 .neq 6 8] [2,3,9] 9 (.r [.o 4 (.mov (.q false))] [4] .ret) (.wc [.fa 10 1 2,.l 11 10,.fa 12 1 3,.l 13 12,.b 14 .neq 11 13] [2,3,14] 14 (.r [.o 4 (.mov (.q false))] [4] .ret) (.wc [.fa 15 2 2,.l 16 15,.fa 17 2 3,.l 18 17,.b 19 .neq 16 18] [2,3,19] 19 (.r [.o 4 (.mov (.q false))] [4] .ret) (.wc [.fa 20 3 2,.l 21 20,.fa 22 3 3,.l 23 22,.b 24 .neq 21 23] [2,3,24] 24 (.r [.o 4 (.mov (.q false))] [4] .ret) (.wc [.fa 25 4 2,.l 26 25,.fa 27 4 3,.l 28 27,.b 29 .neq 26 28] [2,3,29] 29 (.r [.o 4 (.mov (.q false))] [4] .ret) (.wc [.fa 30 5 2,.l 31 30,.fa 32 5 3,.l 33 32,.cl 34 219 [31,33],.o 35 (.un .not (.s 34))] [35] 35 (.r [.o 4 (.mov (.q false))] [4] .ret) (.r [.o 4 (.mov (.q true))] [4] .ret)))))))⟩
theorem Zblp:tbl 99=some Z73:=Zg Tryz.func99 (by kernel_rfl) (by kernel_rfl)
def Zp7:MCode :=.we [.m 11 5,.m 12 0,.ll 13 12,.b 14 .lss 11 13] [0,1,5,14] 14 0 (.seq (.block 1 (.seq (.drw [.m 17 0,.m 18 5,.ia 19 2 17 18,.ln 20 2 19,.m 21 1,.m 22 5,.ia 23 2 21 22,.ln 24 2 23,.cl 25 220 [20,24],.o 26 (.un .not (.s 25))] [[],[],[0,1],[2],[],[],[4,5],[6],[3,7],[8]] [0,1,5,26]) (.cond (.s 26) (.r [.o 4 (.mov (.q false))] [4] .ret) .skip))) (.reg [.m 15 5,.bk 16 .add 15 1,.m 5 16] [0,1,5]))
def Zwu:MFun:=⟨2,27,[.tmp 4],.r [.o 4 (.mov (.q false))] [0,1] (.wc [.m 6 0,.ll 7 6,.m 8 1,.ll 9 8,.b 10 .neq 7 9] [0,1,10] 10 (.r [.o 4 (.mov (.q false))] [4] .ret) (.seq (.r [.mk' 5 0] [0,1,5] (.block 0 (.loop [0,1,5] Zp7))) (.r [.o 4 (.mov (.q true))] [4] .ret)))⟩
theorem Zblq:tbl 100=some Zwu:=Zg Tryz.func100 (by kernel_rfl) (by kernel_rfl)
def Zp8:MCode :=.we [.m 11 5,.m 12 0,.ll 13 12,.b 14 .lss 11 13] [0,1,5,14] 14 0 (.seq (.block 1 (.seq (.drw [.m 17 0,.m 18 5,.ia 19 1 17 18,.l 20 19,.m 21 1,.m 22 5,.ia 23 1 21 22,.l 24 23,.cl 25 19 [20,24],.o 26 (.un .not (.s 25))] [[],[],[0,1],[2],[],[],[4,5],[6],[3,7],[8]] [0,1,5,26]) (.cond (.s 26) (.r [.o 4 (.mov (.q false))] [4] .ret) .skip))) (.reg [.m 15 5,.bk 16 .add 15 1,.m 5 16] [0,1,5]))
def Zwv:MFun:=⟨2,27,[.tmp 4],.r [.o 4 (.mov (.q false))] [0,1] (.wc [.m 6 0,.ll 7 6,.m 8 1,.ll 9 8,.b 10 .neq 7 9] [0,1,10] 10 (.r [.o 4 (.mov (.q false))] [4] .ret) (.seq (.r [.mk' 5 0] [0,1,5] (.block 0 (.loop [0,1,5] Zp8))) (.r [.o 4 (.mov (.q true))] [4] .ret)))⟩
theorem Zblr:tbl 102=some Zwv:=Zg Tryz.func102 (by kernel_rfl) (by kernel_rfl)
def Zho:MCode :=.we [.m 12 5,.m 13 0,.ll 14 13,.b 15 .lss 12 14] [0,1,5,15] 15 0 (.seq (.block 1 (.r [.m 18 0,.m 19 5,.ia 20 3 18 19,.ln 21 3 20,.m 22 1,.cl 23 223 [21,22],.m 1 23] [0,1,5] (.r [.m 24 1,.bk 25 .lss 24 0] [0,1,5,25] (.cond (.s 25) (.r [.mk' 4 (-1)] [4] .ret) .skip)))) (.reg [.m 16 5,.bk 17 .add 16 1,.m 5 17] [0,1,5]))
def Z74:MFun:=⟨2,27,[.tmp 4],.r [.mk' 4 0] [0,1] (.r [.m 6 1,.m 7 0,.ll 8 7,.b 9 .sub 6 8,.m 1 9] [0,1] (.wc [.m 10 1,.bk 11 .lss 10 0] [0,1,11] 11 (.r [.mk' 4 (-1)] [4] .ret) (.seq (.r [.mk' 5 0] [0,1,5] (.block 0 (.loop [0,1,5] Zho))) (.r [.m 26 1,.m 4 26] [4] .ret))))⟩
theorem Zbls:tbl 107=some Z74:=Zg Tryz.func107 (by kernel_rfl) (by kernel_rfl)
def Zp9:MCode :=.we [.m 8 4,.m 9 0,.ll 10 9,.b 11 .lss 8 10] [0,3,4,11] 11 0 (.seq (.block 1 (.reg [.m 14 3,.m 15 4,.m 16 0,.m 17 4,.ia 18 3 16 17,.ln 19 3 18,.cl 20 228 [19],.ia 21 3 14 15,.st 3 21 20] [0,3,4])) (.reg [.m 12 4,.bk 13 .add 12 1,.m 4 13] [0,3,4]))
def Z75:MFun:=⟨1,23,[.tmp 2],.r [.o 2 (.mov (.c (.t .nil)))] [0] (.r [.m 5 0,.ll 6 5,.o 7 (.mkslice 277 3 48 [.str ⟨#[]⟩,.z,.lst 1 []] (.s 6) (.s 6)),.m 3 7] [0,3] (.seq (.r [.mk' 4 0] [0,3,4] (.block 0 (.loop [0,3,4] Zp9))) (.r [.m 22 3,.m 2 22] [2] .ret)))⟩
theorem Zblt:tbl 111=some Z75:=Zg Tryz.func111 (by kernel_rfl) (by kernel_rfl)
def Zqa:MCode :=.we [.m 11 5,.m 12 0,.ll 13 12,.b 14 .lss 11 13] [0,1,5,14] 14 0 (.seq (.block 1 (.seq (.drw [.m 17 0,.m 18 5,.ia 19 3 17 18,.ln 20 3 19,.m 21 1,.m 22 5,.ia 23 3 21 22,.ln 24 3 23,.cl 25 233 [20,24],.o 26 (.un .not (.s 25))] [[],[],[0,1],[2],[],[],[4,5],[6],[3,7],[8]] [0,1,5,26]) (.cond (.s 26) (.r [.o 4 (.mov (.q false))] [4] .ret) .skip))) (.reg [.m 15 5,.bk 16 .add 15 1,.m 5 16] [0,1,5]))
def Zww:MFun:=⟨2,27,[.tmp 4],.r [.o 4 (.mov (.q false))] [0,1] (.wc [.m 6 0,.ll 7 6,.m 8 1,.ll 9 8,.b 10 .neq 7 9] [0,1,10] 10 (.r [.o 4 (.mov (.q false))] [4] .ret) (.seq (.r [.mk' 5 0] [0,1,5] (.block 0 (.loop [0,1,5] Zqa))) (.r [.o 4 (.mov (.q true))] [4] .ret)))⟩
theorem Zblu:tbl 114=some Zww:=Zg Tryz.func114 (by kernel_rfl) (by kernel_rfl)
def Z76:MFun:=⟨2,12,[.tmp 4],.r [.mk' 4 0] [0,1] (.r [.m 5 1,.m 6 0,.ll 7 6,.b 8 .sub 5 7,.m 1 8] [1] (.wc [.m 9 1,.bk 10 .lss 9 0] [1,10] 10 (.r [.mk' 4 (-1)] [4] .ret) (.r [.m 11 1,.m 4 11] [4] .ret)))⟩
theorem Zblv:tbl 192=some Z76:=Zg Tryz.func192 (by kernel_rfl) (by kernel_rfl)
def Z77:MFun:=⟨2,19,[.tmp 4],.r [.bx 2 0,.mk' 4 0] [1,2] (.r [.m 5 1,.fa 6 0 2,.l 7 6,.o 8 (.len true (.s 7)),.b 9 .sub 5 8,.m 1 9] [1,2] (.wc [.m 10 1,.bk 11 .lss 10 0] [1,2,11] 11 (.r [.mk' 4 (-1)] [4] .ret) (.r [.fa 12 1 2,.l 13 12,.m 14 1,.cl 15 76 [13,14],.m 1 15] [1] (.wc [.m 16 1,.bk 17 .lss 16 0] [1,17] 17 (.r [.mk' 4 (-1)] [4] .ret) (.r [.m 18 1,.m 4 18] [4] .ret)))))⟩
theorem Zblw:tbl 193=some Z77:=Zg Tryz.func193 (by kernel_rfl) (by kernel_rfl)
def Zqb:MCode :=.we [.m 8 4,.m 9 0,.ll 10 9,.b 11 .lss 8 10] [0,3,4,11] 11 0 (.seq (.block 1 (.reg [.m 14 3,.m 15 4,.m 16 0,.m 17 4,.ia 18 2 16 17,.ln 19 2 18,.cl 20 294 [19],.ia 21 2 14 15,.st 2 21 20] [0,3,4])) (.reg [.m 12 4,.bk 13 .add 12 1,.m 4 13] [0,3,4]))
def Z78:MFun:=⟨1,23,[.tmp 2],.r [.o 2 (.mov (.c (.t .nil)))] [0] (.r [.m 5 0,.ll 6 5,.o 7 (.mkslice 307 2 16 [.z,.z] (.s 6) (.s 6)),.m 3 7] [0,3] (.seq (.r [.mk' 4 0] [0,3,4] (.block 0 (.loop [0,3,4] Zqb))) (.r [.m 22 3,.m 2 22] [2] .ret)))⟩
theorem Zblx:tbl 209=some Z78:=Zg Tryz.func209 (by kernel_rfl) (by kernel_rfl)
def Z79:MFun:=⟨1,12,[.cell 2 (some 2)],.r [.bx 1 0,.o 2 (.alloc [.t (.str ⟨#[]⟩),.t .nil])] [1,2] (.r [.o 3 (.alloc [.t (.str ⟨#[]⟩),.t .nil])] [1,2,3] (.r [.fa 4 0 1,.l 5 4,.fa 6 0 3,.st 1 6 5] [1,2,3] (.r [.fa 7 1 1,.l 8 7,.cl 9 91 [8],.fa 10 1 3,.st 1 10 9] [2,3] (.r [.ln 11 2 3,.st 2 2 11] [2] .ret))))⟩
theorem Zbly:tbl 210=some Z79:=Zg Tryz.func210 (by kernel_rfl) (by kernel_rfl)
def Zqc:MCode :=.we [.m 11 5,.m 12 0,.ll 13 12,.b 14 .lss 11 13] [0,1,5,14] 14 0 (.seq (.block 1 (.seq (.drw [.m 17 0,.m 18 5,.ia 19 2 17 18,.ln 20 2 19,.m 21 1,.m 22 5,.ia 23 2 21 22,.ln 24 2 23,.cl 25 299 [20,24],.o 26 (.un .not (.s 25))] [[],[],[0,1],[2],[],[],[4,5],[6],[3,7],[8]] [0,1,5,26]) (.cond (.s 26) (.r [.o 4 (.mov (.q false))] [4] .ret) .skip))) (.reg [.m 15 5,.bk 16 .add 15 1,.m 5 16] [0,1,5]))
def Zwx:MFun:=⟨2,27,[.tmp 4],.r [.o 4 (.mov (.q false))] [0,1] (.wc [.m 6 0,.ll 7 6,.m 8 1,.ll 9 8,.b 10 .neq 7 9] [0,1,10] 10 (.r [.o 4 (.mov (.q false))] [4] .ret) (.seq (.r [.mk' 5 0] [0,1,5] (.block 0 (.loop [0,1,5] Zqc))) (.r [.o 4 (.mov (.q true))] [4] .ret)))⟩
theorem Zblz:tbl 219=some Zwx:=Zg Tryz.func219 (by kernel_rfl) (by kernel_rfl)
def Z8a:MFun:=⟨2,16,[.tmp 4],.r [.bx 2 0,.bx 3 1,.o 4 (.mov (.q false))] [2,3] (.wc [.fa 5 0 2,.l 6 5,.fa 7 0 3,.l 8 7,.b 9 .neq 6 8] [2,3,9] 9 (.r [.o 4 (.mov (.q false))] [4] .ret) (.wc [.fa 10 1 2,.l 11 10,.fa 12 1 3,.l 13 12,.cl 14 19 [11,13],.o 15 (.un .not (.s 14))] [15] 15 (.r [.o 4 (.mov (.q false))] [4] .ret) (.r [.o 4 (.mov (.q true))] [4] .ret)))⟩
theorem Zbl0:tbl 220=some Z8a:=Zg Tryz.func220 (by kernel_rfl) (by kernel_rfl)
def Z8b:MFun:=⟨2,19,[.tmp 4],.r [.bx 2 0,.mk' 4 0] [1,2] (.r [.m 5 1,.fa 6 0 2,.l 7 6,.o 8 (.len true (.s 7)),.b 9 .sub 5 8,.m 1 9] [1,2] (.wc [.m 10 1,.bk 11 .lss 10 0] [1,2,11] 11 (.r [.mk' 4 (-1)] [4] .ret) (.r [.fa 12 2 2,.l 13 12,.m 14 1,.cl 15 78 [13,14],.m 1 15] [1] (.wc [.m 16 1,.bk 17 .lss 16 0] [1,17] 17 (.r [.mk' 4 (-1)] [4] .ret) (.r [.m 18 1,.m 4 18] [4] .ret)))))⟩
theorem Zbl1:tbl 223=some Z8b:=Zg Tryz.func223 (by kernel_rfl) (by kernel_rfl)
def Z8c:MFun:=⟨1,15,[.cell 2 (some 3)],.r [.bx 1 0,.o 2 (.alloc [.t (.str ⟨#[]⟩),.t .z,.t .nil])] [1,2] (.r [.o 3 (.alloc [.t (.str ⟨#[]⟩),.t .z,.t .nil])] [1,2,3] (.r [.fa 4 0 1,.l 5 4,.fa 6 0 3,.st 1 6 5] [1,2,3] (.r [.fa 7 1 1,.l 8 7,.fa 9 1 3,.st 1 9 8] [1,2,3] (.r [.fa 10 2 1,.l 11 10,.cl 12 93 [11],.fa 13 2 3,.st 1 13 12] [2,3] (.r [.ln 14 3 3,.st 3 2 14] [2] .ret)))))⟩
theorem Zbl2:tbl 228=some Z8c:=Zg Tryz.func228 (by kernel_rfl) (by kernel_rfl)
def Z8d:MFun:=⟨2,21,[.tmp 4],.r [.bx 2 0,.bx 3 1,.o 4 (.mov (.q false))] [2,3] (.wc [.fa 5 0 2,.l 6 5,.fa 7 0 3,.l 8 7,.b 9 .neq 6 8] [2,3,9] 9 (.r [.o 4 (.mov (.q false))] [4] .ret) (.wc [.fa 10 1 2,.l 11 10,.fa 12 1 3,.l 13 12,.b 14 .neq 11 13] [2,3,14] 14 (.r [.o 4 (.mov (.q false))] [4] .ret) (.wc [.fa 15 2 2,.l 16 15,.fa 17 2 3,.l 18 17,.cl 19 102 [16,18],.o 20 (.un .not (.s 19))] [20] 20 (.r [.o 4 (.mov (.q false))] [4] .ret) (.r [.o 4 (.mov (.q true))] [4] .ret))))⟩
theorem Zbl3:tbl 233=some Z8d:=Zg Tryz.func233 (by kernel_rfl) (by kernel_rfl)
def Z8e:MFun:=⟨1,11,[.cell 2 (some 2)],.r [.bx 1 0,.o 2 (.alloc [.t .z,.t .z])] [1,2] (.r [.o 3 (.alloc [.t .z,.t .z])] [1,2,3] (.r [.fa 4 0 1,.l 5 4,.fa 6 0 3,.st 1 6 5] [1,2,3] (.r [.fa 7 1 1,.l 8 7,.fa 9 1 3,.st 1 9 8] [2,3] (.r [.ln 10 2 3,.st 2 2 10] [2] .ret))))⟩
theorem Zbl4:tbl 294=some Z8e:=Zg Tryz.func294 (by kernel_rfl) (by kernel_rfl)
def Z8f:MFun:=⟨2,15,[.tmp 4],.r [.bx 2 0,.bx 3 1,.o 4 (.mov (.q false))] [2,3] (.wc [.fa 5 0 2,.l 6 5,.fa 7 0 3,.l 8 7,.b 9 .neq 6 8] [2,3,9] 9 (.r [.o 4 (.mov (.q false))] [4] .ret) (.wc [.fa 10 1 2,.l 11 10,.fa 12 1 3,.l 13 12,.b 14 .neq 11 13] [14] 14 (.r [.o 4 (.mov (.q false))] [4] .ret) (.r [.o 4 (.mov (.q true))] [4] .ret)))⟩
theorem Zbl5:tbl 299=some Z8f:=Zg Tryz.func299 (by kernel_rfl) (by kernel_rfl)
theorem l_toIntS (xs:List Int) (h:SmA xs) (fr:List Fr):∀ i,i≤xs.length→EvL C fr [0,3,4] Zp5 ⟨[(0,L 1 (xs.map ic)),(3,.own 0),(4,I i)],[[]],[.arr Zv 1 true (fill ic [.int .i64 0] xs i)]⟩ =
  EvX C fr (.x 0) ⟨[(0,L 1 (xs.map ic)),(3,.own 0),(4,I xs.length),(11,Bo false)],[[]],[.arr Zv 1 true (xs.map ic)]⟩:=by
 have hl:xs.length≤4294967296:=h
 refine down xs.length ?_ ?_
 ·rw [EvL_eq Zp5.eq_1]
  simp [fill_all]
 ·intro i hi ih
  rw [EvL_eq Zp5.eq_1,← ih]
  have h1:=fill_set (f:=ic) (z:=[.int .i64 0]) hi
  have h3:=fill_len (f:=ic) (z:=[.int .i64 0]) (Nat.le_of_lt hi)
  have h4:IntKind.wrap .i64 ((i:Int)+1)=(i:Int)+1:=wrap64 (by omega) (by omega)
  simp at h1
  simp [hi,h3,h4,h1]
theorem Z8g (xs:List Int) (h:SmA xs):C Z9a [L 1 (xs.map ic)] []=some (.own 0,[.arr Zv 1 true (xs.map ic)]):=by
 refine run Zbln rfl ?_
 have hl:xs.length≤4294967296:=h
 have h1:∀ b,b≤4096→xs.length*b≤room:=fun b hb=>Nat.le_trans (Nat.mul_le_mul hl hb) (by decide)
 have h2:(xs.length:Int)≤140737488355328:=by omega
 have h3:=fun fr=>l_toIntS xs h fr 0 (Nat.zero_le _)
 simp [fill_zero] at h3
 simp [Z71,h1,h2,h3]
theorem l_eqIntS (xs ys:List Int) (h:SmA xs) (hl:ys.length=xs.length) (fr:List Fr):∀ i,i≤xs.length→EvL C fr [0,1,5] Zp3 ⟨[(0,L 1 (xs.map ic)),(1,L 1 (ys.map ic)),(5,I i)],[[]],[]⟩ =
  if xs.drop i=ys.drop i then EvX C fr (.x 0) ⟨[(0,L 1 (xs.map ic)),(1,L 1 (ys.map ic)),(5,I xs.length),(14,Bo false)],[[]],[]⟩ else EvX C fr .r ⟨[(4,Bo false)],[[]],[]⟩:=by
 have hm:xs.length≤4294967296:=h
 refine down xs.length ?_ ?_
 ·rw [EvL_eq Zp3.eq_1]
  simp [hl,List.drop_eq_nil_of_le]
 ·intro i hi ih
  have hi2:i<ys.length:=by omega
  have h4:IntKind.wrap .i64 ((i:Int)+1)=(i:Int)+1:=wrap64 (by omega) (by omega)
  rw [EvL_eq Zp3.eq_1]
  simp +decide [hi,hi2,h4]
  simp at ih
  simp only [drop_eq_iff hi hi2,ih]
  split <;> first | (simp_all;done) | grind
theorem Z8h (xs ys:List Int) (h:SmA xs):C Z8y [L 1 (xs.map ic),L 1 (ys.map ic)] []=some (Bo (decide (xs=ys)),[]):=by
 refine run Zblb rfl ?_
 by_cases hl:ys.length=xs.length
 ·have h3:=fun fr=>l_eqIntS xs ys h hl fr 0 (Nat.zero_le _)
  simp at h3
  simp [Zwt,h3,hl]
  split <;> simp_all
 ·have h1:xs≠ys:=fun h=>hl (by rw [h])
  have h2:¬ ((xs.length:Int)=ys.length):=by omega
  simp [Zwt,h1,h2]
@[simp] theorem Z8i (es:List (List T)) (left:Int):C Z86 [L 1 es,I left] []=some (I (sz1 es.length left),[]):=by
 refine run Zblj rfl ?_
 simp [Z7x,sz1]
 split <;> simp_all
theorem Zbl6 (xs:List (List Int)) (h:SmL SmA xs) (fr:List Fr):∀ i,i≤xs.length→EvL C fr [0,3,4] Zp6 ⟨[(0,L 1 (xs.map isc)),(3,.own 0),(4,I i)],[[]],[.arr Zhq 1 true (fill isc [.lst 1 []] xs i)]⟩ =
  EvX C fr (.x 0) ⟨[(0,L 1 (xs.map isc)),(3,.own 0),(4,I xs.length),(11,Bo false)],[[]],[.arr Zhq 1 true (xs.map isc)]⟩:=by
 have hl:xs.length≤4294967296:=h.1
 refine down xs.length ?_ ?_
 ·rw [EvL_eq Zp6.eq_1]
  simp [fill_all]
 ·intro i hi ih
  rw [EvL_eq Zp6.eq_1,← ih]
  have h1:=fill_set (f:=isc) (z:=[.lst 1 []]) hi
  have h3:=fill_len (f:=isc) (z:=[.lst 1 []]) (Nat.le_of_lt hi)
  have h4:IntKind.wrap .i64 ((i:Int)+1)=(i:Int)+1:=wrap64 (by omega) (by omega)
  simp at h1
  simp [hi,Z8g _ (h.2 _ (List.getElem_mem hi)),h3,h4,h1]
theorem Zbl7 (xs:List (List Int)) (h:SmL SmA xs):C Z9b [L 1 (xs.map isc)] []=some (.own 0,[.arr Zhq 1 true (xs.map isc)]):=by
 refine run Zblo rfl ?_
 have hl:xs.length≤4294967296:=h.1
 have h1:∀ b,b≤4096→xs.length*b≤room:=fun b hb=>Nat.le_trans (Nat.mul_le_mul hl hb) (by decide)
 have h2:(xs.length:Int)≤140737488355328:=by omega
 have h3:=fun fr=>Zbl6 xs h fr 0 (Nat.zero_le _)
 simp [fill_zero] at h3
 simp [Z72,h1,h2,h3]
theorem Zbl8 (xs ys:List (List Int)) (h:SmL SmA xs) (hl:ys.length=xs.length) (fr:List Fr):∀ i,i≤xs.length→EvL C fr [0,1,5] Zp8 ⟨[(0,L 1 (xs.map isc)),(1,L 1 (ys.map isc)),(5,I i)],[[]],[]⟩ =
  if xs.drop i=ys.drop i then EvX C fr (.x 0) ⟨[(0,L 1 (xs.map isc)),(1,L 1 (ys.map isc)),(5,I xs.length),(14,Bo false)],[[]],[]⟩ else EvX C fr .r ⟨[(4,Bo false)],[[]],[]⟩:=by
 have hm:xs.length≤4294967296:=h.1
 refine down xs.length ?_ ?_
 ·rw [EvL_eq Zp8.eq_1]
  simp [hl,List.drop_eq_nil_of_le]
 ·intro i hi ih
  have hi2:i<ys.length:=by omega
  have h4:IntKind.wrap .i64 ((i:Int)+1)=(i:Int)+1:=wrap64 (by omega) (by omega)
  rw [EvL_eq Zp8.eq_1]
  simp +decide [hi,hi2,Z8h _ _ (h.2 _ (List.getElem_mem hi)),h4]
  simp at ih
  simp only [drop_eq_iff hi hi2,ih]
  split <;> first | (simp_all;done) | grind
theorem Zbl9 (xs ys:List (List Int)) (h:SmL SmA xs):C Z9e [L 1 (xs.map isc),L 1 (ys.map isc)] []=some (Bo (decide (xs=ys)),[]):=by
 refine run Zblr rfl ?_
 by_cases hl:ys.length=xs.length
 ·have h3:=fun fr=>Zbl8 xs ys h hl fr 0 (Nat.zero_le _)
  simp at h3
  simp [Zwv,h3,hl]
  split <;> simp_all
 ·have h1:xs≠ys:=fun h=>hl (by rw [h])
  have h2:¬ ((xs.length:Int)=ys.length):=by omega
  simp [Zwv,h1,h2]
theorem Zbma (xs:List (List Int)) (h:OkL (OkL OkI) xs) (fr:List Fr):∀ i,i≤xs.length→∀ left:Int,
  (EvL C fr [0,1,5] Zhn ⟨[(0,L 1 (xs.map isc)),(1,I left),(5,I i)],[[]],[]⟩=EvX C fr .r ⟨[(4,I (-1))],[[]],[]⟩∧szFold szI (xs.drop i) left=-1) ∨
  EvL C fr [0,1,5] Zhn ⟨[(0,L 1 (xs.map isc)),(1,I left),(5,I i)],[[]],[]⟩=EvX C fr (.x 0) ⟨[(0,L 1 (xs.map isc)),(1,I (szFold szI (xs.drop i) left)),(5,I xs.length),(15,Bo false)],[[]],[]⟩:=by
 have hm:maxLen≤9223372036854775807:=by decide
 have hl:=h.1
 refine down xs.length ?_ ?_
 ·intro left
  right
  rw [EvL_eq Zhn.eq_1]
  simp [List.drop_eq_nil_of_le,szFold]
 ·intro i hi ih left
  have h4:IntKind.wrap .i64 ((i:Int)+1)=(i:Int)+1:=wrap64 (by omega) (by omega)
  have e:EvL C fr [0,1,5] Zhn ⟨[(0,L 1 (xs.map isc)),(1,I left),(5,I i)],[[]],[]⟩=if szI xs[i] left<0 then EvX C fr .r ⟨[(4,I (-1))],[[]],[]⟩ else EvL C fr [0,1,5] Zhn ⟨[(0,L 1 (xs.map isc)),(1,I (szI xs[i] left)),(5,I ((i+1:Nat):Int))],[[]],[]⟩:=by
   rw [EvL_eq Zhn.eq_1]
   simp [hi,Z8i,h4]
  rw [e,List.drop_eq_getElem_cons hi,szFold]
  split
  ·exact .inl ⟨rfl,rfl⟩
  ·exact ih _
theorem Zbmb (xs:List (List Int)) (left:Int) (h:OkL (OkL OkI) xs):C Z87 [L 1 (xs.map isc),I left] []=some (I (szL szI xs left),[]):=by
 refine run Zblk rfl ?_
 have h3:=fun fr l=>Zbma xs h fr 0 (Nat.zero_le _) l
 simp at h3
 simp [Z7y,szL,andSz,sz1]
 split
 ·simp_all
 ·rcases h3 [.blk 0,.seq _,.fin _ _] (IntKind.wrap .i64 (left - xs.length)) with ⟨h5,h6⟩ | h5
  ·rw [h5];simp [h6]
  ·rw [h5];simp
theorem Zbmc (x0:ByteArray) (x1:Int) (x2:List (List Int)) (h2:SmL SmA x2):C Z9p [.agg [.t (.str x0),I x1,.t (tII x2)]] []=some (.agg [.t (.str x0),I x1,.own 0],[.arr Zhq 1 true (x2.map isc)]):=by
 refine run Zbl2 rfl ?_
 simp [Z8c,Zbl7 _ h2]
theorem Zbmd (x0:ByteArray) (x1:Int) (x2:List (List Int)) (y0:ByteArray) (y1:Int) (y2:List (List Int)) (h2:SmL SmA x2):C Z9q [.agg [.t (.str x0),I x1,.t (tII x2)],.agg [.t (.str y0),I y1,.t (tII y2)]] []=some (Bo (decide (x0=y0∧x1=y1∧x2=y2)),[]):=by
 refine run Zbl3 rfl ?_
 simp [Z8d,Zbl9 _ _ h2]
 repeat' split
 all_goals first | (simp_all;done) | grind
theorem Zbme (x0:ByteArray) (x1:Int) (x2:List (List Int)) (left:Int) (h2:OkL (OkL OkI) x2):C Z9o [.agg [.t (.str x0),I x1,.t (tII x2)],I left] []=some (I (Zh.sz ⟨x0,x1,x2⟩ left),[]):=by
 refine run Zbl1 rfl ?_
 simp [Z8b,Zbmb _ _ h2,Zh.sz,andSz,sz1]
 repeat' split
 all_goals first | (simp_all;done) | grind
theorem Zbmf (xs:List Zh) (h:SmL Zh.small xs) (fr:List Fr):∀ i,i≤xs.length→EvL C fr [0,3,4] Zp9 ⟨[(0,L 3 (xs.map Zh.c)),(3,.own 0),(4,I i)],[[]],[.arr Zm3 3 true (fill Zh.c [.str ⟨#[]⟩,.int .i64 0,.lst 1 []] xs i)]⟩ =
  EvX C fr (.x 0) ⟨[(0,L 3 (xs.map Zh.c)),(3,.own 0),(4,I xs.length),(11,Bo false)],[[]],[.arr Zm3 3 true (xs.map Zh.c)]⟩:=by
 have hl:xs.length≤4294967296:=h.1
 refine down xs.length ?_ ?_
 ·rw [EvL_eq Zp9.eq_1]
  simp [fill_all]
 ·intro i hi ih
  rw [EvL_eq Zp9.eq_1,← ih]
  have h1:=fill_set (f:=Zh.c) (z:=[.str ⟨#[]⟩,.int .i64 0,.lst 1 []]) hi
  have h3:=fill_len (f:=Zh.c) (z:=[.str ⟨#[]⟩,.int .i64 0,.lst 1 []]) (Nat.le_of_lt hi)
  have h4:IntKind.wrap .i64 ((i:Int)+1)=(i:Int)+1:=wrap64 (by omega) (by omega)
  simp at h1
  simp [hi,Zbmc _ _ _ (h.2 _ (List.getElem_mem hi)).2,h3,h4,h1]
theorem Zbmg (xs:List Zh) (h:SmL Zh.small xs):C Z9g [L 3 (xs.map Zh.c)] []=some (.own 0,[.arr Zm3 3 true (xs.map Zh.c)]):=by
 refine run Zblt rfl ?_
 have hl:xs.length≤4294967296:=h.1
 have h1:∀ b,b≤4096→xs.length*b≤room:=fun b hb=>Nat.le_trans (Nat.mul_le_mul hl hb) (by decide)
 have h2:(xs.length:Int)≤140737488355328:=by omega
 have h3:=fun fr=>Zbmf xs h fr 0 (Nat.zero_le _)
 simp [fill_zero] at h3
 simp [Z75,h1,h2,h3]
theorem Zbmh (xs ys:List Zh) (h:SmL Zh.small xs) (hl:ys.length=xs.length) (fr:List Fr):∀ i,i≤xs.length→EvL C fr [0,1,5] Zqa ⟨[(0,L 3 (xs.map Zh.c)),(1,L 3 (ys.map Zh.c)),(5,I i)],[[]],[]⟩ =
  if xs.drop i=ys.drop i then EvX C fr (.x 0) ⟨[(0,L 3 (xs.map Zh.c)),(1,L 3 (ys.map Zh.c)),(5,I xs.length),(14,Bo false)],[[]],[]⟩ else EvX C fr .r ⟨[(4,Bo false)],[[]],[]⟩:=by
 have hm:xs.length≤4294967296:=h.1
 refine down xs.length ?_ ?_
 ·rw [EvL_eq Zqa.eq_1]
  simp [hl,List.drop_eq_nil_of_le]
 ·intro i hi ih
  have hi2:i<ys.length:=by omega
  have h4:IntKind.wrap .i64 ((i:Int)+1)=(i:Int)+1:=wrap64 (by omega) (by omega)
  rw [EvL_eq Zqa.eq_1]
  simp +decide [hi,hi2,Zbmd _ _ _ _ _ _ (h.2 _ (List.getElem_mem hi)).2,h4]
  simp at ih
  simp only [drop_eq_iff hi hi2,ih,Zh.ext_iff]
  split <;> first | (simp_all;done) | grind
theorem Zbmi (xs ys:List Zh) (h:SmL Zh.small xs):C Z9h [L 3 (xs.map Zh.c),L 3 (ys.map Zh.c)] []=some (Bo (decide (xs=ys)),[]):=by
 refine run Zblu rfl ?_
 by_cases hl:ys.length=xs.length
 ·have h3:=fun fr=>Zbmh xs ys h hl fr 0 (Nat.zero_le _)
  simp at h3
  simp [Zww,h3,hl]
  split <;> simp_all
 ·have h1:xs≠ys:=fun h=>hl (by rw [h])
  have h2:¬ ((xs.length:Int)=ys.length):=by omega
  simp [Zww,h1,h2]
theorem Zbmj (xs:List Zh) (h:OkL Zh.okay xs) (fr:List Fr):∀ i,i≤xs.length→∀ left:Int,
  (EvL C fr [0,1,5] Zho ⟨[(0,L 3 (xs.map Zh.c)),(1,I left),(5,I i)],[[]],[]⟩=EvX C fr .r ⟨[(4,I (-1))],[[]],[]⟩∧szFold Zh.sz (xs.drop i) left=-1) ∨
  EvL C fr [0,1,5] Zho ⟨[(0,L 3 (xs.map Zh.c)),(1,I left),(5,I i)],[[]],[]⟩=EvX C fr (.x 0) ⟨[(0,L 3 (xs.map Zh.c)),(1,I (szFold Zh.sz (xs.drop i) left)),(5,I xs.length),(15,Bo false)],[[]],[]⟩:=by
 have hm:maxLen≤9223372036854775807:=by decide
 have hl:=h.1
 refine down xs.length ?_ ?_
 ·intro left
  right
  rw [EvL_eq Zho.eq_1]
  simp [List.drop_eq_nil_of_le,szFold]
 ·intro i hi ih left
  have h4:IntKind.wrap .i64 ((i:Int)+1)=(i:Int)+1:=wrap64 (by omega) (by omega)
  have e:EvL C fr [0,1,5] Zho ⟨[(0,L 3 (xs.map Zh.c)),(1,I left),(5,I i)],[[]],[]⟩=if Zh.sz xs[i] left<0 then EvX C fr .r ⟨[(4,I (-1))],[[]],[]⟩ else EvL C fr [0,1,5] Zho ⟨[(0,L 3 (xs.map Zh.c)),(1,I (Zh.sz xs[i] left)),(5,I ((i+1:Nat):Int))],[[]],[]⟩:=by
   rw [EvL_eq Zho.eq_1]
   simp [hi,Zbme _ _ _ _ (h.2 _ (List.getElem_mem hi)).2.2,h4]
  rw [e,List.drop_eq_getElem_cons hi,szFold]
  split
  ·exact .inl ⟨rfl,rfl⟩
  ·exact ih _
theorem Zbmk (xs:List Zh) (left:Int) (h:OkL Zh.okay xs):C Z9f [L 3 (xs.map Zh.c),I left] []=some (I (szL Zh.sz xs left),[]):=by
 refine run Zbls rfl ?_
 have h3:=fun fr l=>Zbmj xs h fr 0 (Nat.zero_le _) l
 simp at h3
 simp [Z74,szL,andSz,sz1]
 split
 ·simp_all
 ·rcases h3 [.blk 0,.seq _,.fin _ _] (IntKind.wrap .i64 (left - xs.length)) with ⟨h5,h6⟩ | h5
  ·rw [h5];simp [h6]
  ·rw [h5];simp
theorem Zbml (x0:List Zh) (h0:SmL Zh.small x0):C Z82 [.agg [.t (.lst 3 (x0.map Zh.c))]] []=some (.agg [.own 0],[.arr Zm3 3 true (x0.map Zh.c)]):=by
 refine run Zblf rfl ?_
 simp [Z7t,Zbmg _ h0]
theorem Zbmm (x0:List Zh) (y0:List Zh) (h0:SmL Zh.small x0):C Z83 [.agg [.t (.lst 3 (x0.map Zh.c))],.agg [.t (.lst 3 (y0.map Zh.c))]] []=some (Bo (decide (x0=y0)),[]):=by
 refine run Zblg rfl ?_
 simp [Z7u,Zbmi _ _ h0]
 repeat' split
 all_goals first | (simp_all;done) | grind
theorem Zbmn (x0:List Zh) (left:Int) (h0:OkL Zh.okay x0):C Z81 [.agg [.t (.lst 3 (x0.map Zh.c))],I left] []=some (I (Zi.sz ⟨x0⟩ left),[]):=by
 refine run Zble rfl ?_
 simp [Z7s,Zbmk _ _ h0,Zi.sz,andSz,sz1]
 repeat' split
 all_goals first | (simp_all;done) | grind
theorem c_toAtom (x0:ByteArray) (x1:List Int) (h1:SmA x1):C Z9l [.agg [.t (.str x0),.t (tI x1)]] []=some (.agg [.t (.str x0),.own 0],[.arr Zv 1 true (x1.map ic)]):=by
 refine run Zbly rfl ?_
 simp [Z79,Z8g _ h1]
theorem c_eqAtom (x0:ByteArray) (x1:List Int) (y0:ByteArray) (y1:List Int) (h1:SmA x1):C Z9n [.agg [.t (.str x0),.t (tI x1)],.agg [.t (.str y0),.t (tI y1)]] []=some (Bo (decide (x0=y0∧x1=y1)),[]):=by
 refine run Zbl0 rfl ?_
 simp [Z8a,Z8h _ _ h1]
 repeat' split
 all_goals first | (simp_all;done) | grind
theorem c_szAtom (x0:ByteArray) (x1:List Int) (left:Int) :C Z9j [.agg [.t (.str x0),.t (tI x1)],I left] []=some (I (Atom.sz ⟨x0,x1⟩ left),[]):=by
 refine run Zblw rfl ?_
 simp [Z77,Z8i,Atom.sz,andSz,sz1]
 repeat' split
 all_goals first | (simp_all;done) | grind
theorem Zbmo (xs:List Atom) (h:SmL Atom.small xs) (fr:List Fr):∀ i,i≤xs.length→EvL C fr [0,3,4] Zp4 ⟨[(0,L 2 (xs.map Atom.c)),(3,.own 0),(4,I i)],[[]],[.arr Zm2 2 true (fill Atom.c [.str ⟨#[]⟩,.lst 1 []] xs i)]⟩ =
  EvX C fr (.x 0) ⟨[(0,L 2 (xs.map Atom.c)),(3,.own 0),(4,I xs.length),(11,Bo false)],[[]],[.arr Zm2 2 true (xs.map Atom.c)]⟩:=by
 have hl:xs.length≤4294967296:=h.1
 refine down xs.length ?_ ?_
 ·rw [EvL_eq Zp4.eq_1]
  simp [fill_all]
 ·intro i hi ih
  rw [EvL_eq Zp4.eq_1,← ih]
  have h1:=fill_set (f:=Atom.c) (z:=[.str ⟨#[]⟩,.lst 1 []]) hi
  have h3:=fill_len (f:=Atom.c) (z:=[.str ⟨#[]⟩,.lst 1 []]) (Nat.le_of_lt hi)
  have h4:IntKind.wrap .i64 ((i:Int)+1)=(i:Int)+1:=wrap64 (by omega) (by omega)
  simp at h1
  simp [hi,c_toAtom _ _ (h.2 _ (List.getElem_mem hi)).2,h3,h4,h1]
theorem Zbmp (xs:List Atom) (h:SmL Atom.small xs):C Z89 [L 2 (xs.map Atom.c)] []=some (.own 0,[.arr Zm2 2 true (xs.map Atom.c)]):=by
 refine run Zblm rfl ?_
 have hl:xs.length≤4294967296:=h.1
 have h1:∀ b,b≤4096→xs.length*b≤room:=fun b hb=>Nat.le_trans (Nat.mul_le_mul hl hb) (by decide)
 have h2:(xs.length:Int)≤140737488355328:=by omega
 have h3:=fun fr=>Zbmo xs h fr 0 (Nat.zero_le _)
 simp [fill_zero] at h3
 simp [Z70,h1,h2,h3]
theorem Zbmq (xs ys:List Atom) (h:SmL Atom.small xs) (hl:ys.length=xs.length) (fr:List Fr):∀ i,i≤xs.length→EvL C fr [0,1,5] Zp7 ⟨[(0,L 2 (xs.map Atom.c)),(1,L 2 (ys.map Atom.c)),(5,I i)],[[]],[]⟩ =
  if xs.drop i=ys.drop i then EvX C fr (.x 0) ⟨[(0,L 2 (xs.map Atom.c)),(1,L 2 (ys.map Atom.c)),(5,I xs.length),(14,Bo false)],[[]],[]⟩ else EvX C fr .r ⟨[(4,Bo false)],[[]],[]⟩:=by
 have hm:xs.length≤4294967296:=h.1
 refine down xs.length ?_ ?_
 ·rw [EvL_eq Zp7.eq_1]
  simp [hl,List.drop_eq_nil_of_le]
 ·intro i hi ih
  have hi2:i<ys.length:=by omega
  have h4:IntKind.wrap .i64 ((i:Int)+1)=(i:Int)+1:=wrap64 (by omega) (by omega)
  rw [EvL_eq Zp7.eq_1]
  simp +decide [hi,hi2,c_eqAtom _ _ _ _ (h.2 _ (List.getElem_mem hi)).2,h4]
  simp at ih
  simp only [drop_eq_iff hi hi2,ih,Atom.ext_iff]
  split <;> first | (simp_all;done) | grind
theorem Zbmr (xs ys:List Atom) (h:SmL Atom.small xs):C Z9d [L 2 (xs.map Atom.c),L 2 (ys.map Atom.c)] []=some (Bo (decide (xs=ys)),[]):=by
 refine run Zblq rfl ?_
 by_cases hl:ys.length=xs.length
 ·have h3:=fun fr=>Zbmq xs ys h hl fr 0 (Nat.zero_le _)
  simp at h3
  simp [Zwu,h3,hl]
  split <;> simp_all
 ·have h1:xs≠ys:=fun h=>hl (by rw [h])
  have h2:¬ ((xs.length:Int)=ys.length):=by omega
  simp [Zwu,h1,h2]
theorem Zbms (xs:List Atom) (h:OkL Atom.okay xs) (fr:List Fr):∀ i,i≤xs.length→∀ left:Int,
  (EvL C fr [0,1,5] Zhm ⟨[(0,L 2 (xs.map Atom.c)),(1,I left),(5,I i)],[[]],[]⟩=EvX C fr .r ⟨[(4,I (-1))],[[]],[]⟩∧szFold Atom.sz (xs.drop i) left=-1) ∨
  EvL C fr [0,1,5] Zhm ⟨[(0,L 2 (xs.map Atom.c)),(1,I left),(5,I i)],[[]],[]⟩=EvX C fr (.x 0) ⟨[(0,L 2 (xs.map Atom.c)),(1,I (szFold Atom.sz (xs.drop i) left)),(5,I xs.length),(15,Bo false)],[[]],[]⟩:=by
 have hm:maxLen≤9223372036854775807:=by decide
 have hl:=h.1
 refine down xs.length ?_ ?_
 ·intro left
  right
  rw [EvL_eq Zhm.eq_1]
  simp [List.drop_eq_nil_of_le,szFold]
 ·intro i hi ih left
  have h4:IntKind.wrap .i64 ((i:Int)+1)=(i:Int)+1:=wrap64 (by omega) (by omega)
  have e:EvL C fr [0,1,5] Zhm ⟨[(0,L 2 (xs.map Atom.c)),(1,I left),(5,I i)],[[]],[]⟩=if Atom.sz xs[i] left<0 then EvX C fr .r ⟨[(4,I (-1))],[[]],[]⟩ else EvL C fr [0,1,5] Zhm ⟨[(0,L 2 (xs.map Atom.c)),(1,I (Atom.sz xs[i] left)),(5,I ((i+1:Nat):Int))],[[]],[]⟩:=by
   rw [EvL_eq Zhm.eq_1]
   simp [hi,c_szAtom,h4]
  rw [e,List.drop_eq_getElem_cons hi,szFold]
  split
  ·exact .inl ⟨rfl,rfl⟩
  ·exact ih _
theorem Zbmt (xs:List Atom) (left:Int) (h:OkL Atom.okay xs):C Z85 [L 2 (xs.map Atom.c),I left] []=some (I (szL Atom.sz xs left),[]):=by
 refine run Zbli rfl ?_
 have h3:=fun fr l=>Zbms xs h fr 0 (Nat.zero_le _) l
 simp at h3
 simp [Z7w,szL,andSz,sz1]
 split
 ·simp_all
 ·rcases h3 [.blk 0,.seq _,.fin _ _] (IntKind.wrap .i64 (left - xs.length)) with ⟨h5,h6⟩ | h5
  ·rw [h5];simp [h6]
  ·rw [h5];simp
theorem Zbmu (x0:Int) (x1:List Atom) (h1:SmL Atom.small x1):C Z8x [.agg [I x0,.t (.lst 2 (x1.map Atom.c))]] []=some (.agg [I x0,.own 0],[.arr Zm2 2 true (x1.map Atom.c)]):=by
 refine run Zbla rfl ?_
 simp [Z7p,Zbmp _ h1]
theorem Zbmv (x0:Int) (x1:List Atom) (y0:Int) (y1:List Atom) (h1:SmL Atom.small x1):C Z80 [.agg [I x0,.t (.lst 2 (x1.map Atom.c))],.agg [I y0,.t (.lst 2 (y1.map Atom.c))]] []=some (Bo (decide (x0=y0∧x1=y1)),[]):=by
 refine run Zbld rfl ?_
 simp [Z7r,Zbmr _ _ h1]
 repeat' split
 all_goals first | (simp_all;done) | grind
theorem Zbmw (x0:Int) (x1:List Atom) (left:Int) (h1:OkL Atom.okay x1):C Z8v [.agg [I x0,.t (.lst 2 (x1.map Atom.c))],I left] []=some (I (Zc.sz ⟨x0,x1⟩ left),[]):=by
 refine run Zbk8 rfl ?_
 simp [Z7n,Zbmt _ _ h1,Zc.sz,andSz,sz1]
 repeat' split
 all_goals first | (simp_all;done) | grind
theorem Zbmx (x0:Int) (x1:Int) :C Z9r [.agg [I x0,I x1]] []=some (.agg [I x0,I x1],[]):=by
 refine run Zbl4 rfl ?_
 simp [Z8e]
theorem Zbmy (x0:Int) (x1:Int) (y0:Int) (y1:Int) :C Z9s [.agg [I x0,I x1],.agg [I y0,I y1]] []=some (Bo (decide (x0=y0∧x1=y1)),[]):=by
 refine run Zbl5 rfl ?_
 simp [Z8f]
 repeat' split
 all_goals first | (simp_all;done) | grind
theorem Zbmz (xs:List Zf) (h:SmA xs) (fr:List Fr):∀ i,i≤xs.length→EvL C fr [0,3,4] Zqb ⟨[(0,L 2 (xs.map Zf.c)),(3,.own 0),(4,I i)],[[]],[.arr Zej 2 true (fill Zf.c [.int .i64 0,.int .i64 0] xs i)]⟩ =
  EvX C fr (.x 0) ⟨[(0,L 2 (xs.map Zf.c)),(3,.own 0),(4,I xs.length),(11,Bo false)],[[]],[.arr Zej 2 true (xs.map Zf.c)]⟩:=by
 have hl:xs.length≤4294967296:=h
 refine down xs.length ?_ ?_
 ·rw [EvL_eq Zqb.eq_1]
  simp [fill_all]
 ·intro i hi ih
  rw [EvL_eq Zqb.eq_1,← ih]
  have h1:=fill_set (f:=Zf.c) (z:=[.int .i64 0,.int .i64 0]) hi
  have h3:=fill_len (f:=Zf.c) (z:=[.int .i64 0,.int .i64 0]) (Nat.le_of_lt hi)
  have h4:IntKind.wrap .i64 ((i:Int)+1)=(i:Int)+1:=wrap64 (by omega) (by omega)
  simp at h1
  simp [hi,Zbmx,h3,h4,h1]
theorem Zbm0 (xs:List Zf) (h:SmA xs):C Z9k [L 2 (xs.map Zf.c)] []=some (.own 0,[.arr Zej 2 true (xs.map Zf.c)]):=by
 refine run Zblx rfl ?_
 have hl:xs.length≤4294967296:=h
 have h1:∀ b,b≤4096→xs.length*b≤room:=fun b hb=>Nat.le_trans (Nat.mul_le_mul hl hb) (by decide)
 have h2:(xs.length:Int)≤140737488355328:=by omega
 have h3:=fun fr=>Zbmz xs h fr 0 (Nat.zero_le _)
 simp [fill_zero] at h3
 simp [Z78,h1,h2,h3]
theorem Zbm1 (xs ys:List Zf) (h:SmA xs) (hl:ys.length=xs.length) (fr:List Fr):∀ i,i≤xs.length→EvL C fr [0,1,5] Zqc ⟨[(0,L 2 (xs.map Zf.c)),(1,L 2 (ys.map Zf.c)),(5,I i)],[[]],[]⟩ =
  if xs.drop i=ys.drop i then EvX C fr (.x 0) ⟨[(0,L 2 (xs.map Zf.c)),(1,L 2 (ys.map Zf.c)),(5,I xs.length),(14,Bo false)],[[]],[]⟩ else EvX C fr .r ⟨[(4,Bo false)],[[]],[]⟩:=by
 have hm:xs.length≤4294967296:=h
 refine down xs.length ?_ ?_
 ·rw [EvL_eq Zqc.eq_1]
  simp [hl,List.drop_eq_nil_of_le]
 ·intro i hi ih
  have hi2:i<ys.length:=by omega
  have h4:IntKind.wrap .i64 ((i:Int)+1)=(i:Int)+1:=wrap64 (by omega) (by omega)
  rw [EvL_eq Zqc.eq_1]
  simp +decide [hi,hi2,Zbmy _ _ _ _ ,h4]
  simp at ih
  simp only [drop_eq_iff hi hi2,ih,Zf.ext_iff]
  split <;> first | (simp_all;done) | grind
theorem Zbm2 (xs ys:List Zf) (h:SmA xs):C Z9m [L 2 (xs.map Zf.c),L 2 (ys.map Zf.c)] []=some (Bo (decide (xs=ys)),[]):=by
 refine run Zblz rfl ?_
 by_cases hl:ys.length=xs.length
 ·have h3:=fun fr=>Zbm1 xs ys h hl fr 0 (Nat.zero_le _)
  simp at h3
  simp [Zwx,h3,hl]
  split <;> simp_all
 ·have h1:xs≠ys:=fun h=>hl (by rw [h])
  have h2:¬ ((xs.length:Int)=ys.length):=by omega
  simp [Zwx,h1,h2]
@[simp] theorem Zbm3 (es:List (List T)) (left:Int):C Z9i [L 2 es,I left] []=some (I (sz1 es.length left),[]):=by
 refine run Zblv rfl ?_
 simp [Z76,sz1]
 split <;> simp_all
theorem Zmu (x0:Int) (x1:Int) (x2:Int) (x3:Int) (x4:Int) (x5:List Zf) (h5:SmA x5):C Z88 [.agg [I x0,I x1,I x2,I x3,I x4,.t (.lst 2 (x5.map Zf.c))]] []=some (.agg [I x0,I x1,I x2,I x3,I x4,.own 0],[.arr Zej 2 true (x5.map Zf.c)]):=by
 refine run Zbll rfl ?_
 simp [Z7z,Zbm0 _ h5]
theorem Zmv (x0:Int) (x1:Int) (x2:Int) (x3:Int) (x4:Int) (x5:List Zf) (y0:Int) (y1:Int) (y2:Int) (y3:Int) (y4:Int) (y5:List Zf) (h5:SmA x5):C Z9c [.agg [I x0,I x1,I x2,I x3,I x4,.t (.lst 2 (x5.map Zf.c))],.agg [I y0,I y1,I y2,I y3,I y4,.t (.lst 2 (y5.map Zf.c))]] []=some (Bo (decide (x0=y0∧x1=y1∧x2=y2∧x3=y3∧x4=y4∧x5=y5)),[]):=by
 refine run Zblp rfl ?_
 simp [Z73,Zbm2 _ _ h5]
 repeat' split
 all_goals first | (simp_all;done) | grind
theorem Zbm4 (x0:Int) (x1:Int) (x2:Int) (x3:Int) (x4:Int) (x5:List Zf) (left:Int) :C Z84 [.agg [I x0,I x1,I x2,I x3,I x4,.t (.lst 2 (x5.map Zf.c))],I left] []=some (I (Zj.sz ⟨x0,x1,x2,x3,x4,x5⟩ left),[]):=by
 refine run Zblh rfl ?_
 simp [Z7v,Zbm3,Zj.sz,andSz,sz1]
 repeat' split
 all_goals first | (simp_all;done) | grind
theorem Zbm5 (x0:Int) (x1:Int) (x2:Int) (x3:Int) (x4:Int) (x5:List Zf) (x6:Int) (x7:Int) (x8:Int) (x9:Int) (x10:Int) (x11:List Zf) (x12:Int) (x13:Int) (x14:Int) (x15:Int) (x16:Int) (x17:List Zf) (x18:Int) (x19:Int) (x20:Int) (x21:Int) (x22:Int) (x23:List Zf) (x24:Int) (x25:Int) (x26:Int) (x27:Int) (x28:Int) (x29:List Zf) (h5:SmA x5) (h11:SmA x11) (h17:SmA x17) (h23:SmA x23) (h29:SmA x29):C Z8w [.agg [I x0,I x1,I x2,I x3,I x4,.t (.lst 2 (x5.map Zf.c)),I x6,I x7,I x8,I x9,I x10,.t (.lst 2 (x11.map Zf.c)),I x12,I x13,I x14,I x15,I x16,.t (.lst 2 (x17.map Zf.c)),I x18,I x19,I x20,I x21,I x22,.t (.lst 2 (x23.map Zf.c)),I x24,I x25,I x26,I x27,I x28,.t (.lst 2 (x29.map Zf.c))]] []=some (.agg [I x0,I x1,I x2,I x3,I x4,.own 0,I x6,I x7,I x8,I x9,I x10,.own 1,I x12,I x13,I x14,I x15,I x16,.own 2,I x18,I x19,I x20,I x21,I x22,.own 3,I x24,I x25,I x26,I x27,I x28,.own 4],[.arr Zej 2 true (x5.map Zf.c),.arr Zej 2 true (x11.map Zf.c),.arr Zej 2 true (x17.map Zf.c),.arr Zej 2 true (x23.map Zf.c),.arr Zej 2 true (x29.map Zf.c)]):=by
 refine run Zbk9 rfl ?_
 simp [Z7o,Zmu _ _ _ _ _ _ h5,Zmu _ _ _ _ _ _ h11,Zmu _ _ _ _ _ _ h17,Zmu _ _ _ _ _ _ h23,Zmu _ _ _ _ _ _ h29]
theorem Zbm6 (x0:Int) (x1:Int) (x2:Int) (x3:Int) (x4:Int) (x5:List Zf) (x6:Int) (x7:Int) (x8:Int) (x9:Int) (x10:Int) (x11:List Zf) (x12:Int) (x13:Int) (x14:Int) (x15:Int) (x16:Int) (x17:List Zf) (x18:Int) (x19:Int) (x20:Int) (x21:Int) (x22:Int) (x23:List Zf) (x24:Int) (x25:Int) (x26:Int) (x27:Int) (x28:Int) (x29:List Zf) (y0:Int) (y1:Int) (y2:Int) (y3:Int) (y4:Int) (y5:List Zf) (y6:Int) (y7:Int) (y8:Int) (y9:Int) (y10:Int) (y11:List Zf) (y12:Int) (y13:Int) (y14:Int) (y15:Int) (y16:Int) (y17:List Zf) (y18:Int) (y19:Int) (y20:Int) (y21:Int) (y22:Int) (y23:List Zf) (y24:Int) (y25:Int) (y26:Int) (y27:Int) (y28:Int) (y29:List Zf) (h5:SmA x5) (h11:SmA x11) (h17:SmA x17) (h23:SmA x23) (h29:SmA x29):C Z8z [.agg [I x0,I x1,I x2,I x3,I x4,.t (.lst 2 (x5.map Zf.c)),I x6,I x7,I x8,I x9,I x10,.t (.lst 2 (x11.map Zf.c)),I x12,I x13,I x14,I x15,I x16,.t (.lst 2 (x17.map Zf.c)),I x18,I x19,I x20,I x21,I x22,.t (.lst 2 (x23.map Zf.c)),I x24,I x25,I x26,I x27,I x28,.t (.lst 2 (x29.map Zf.c))],.agg [I y0,I y1,I y2,I y3,I y4,.t (.lst 2 (y5.map Zf.c)),I y6,I y7,I y8,I y9,I y10,.t (.lst 2 (y11.map Zf.c)),I y12,I y13,I y14,I y15,I y16,.t (.lst 2 (y17.map Zf.c)),I y18,I y19,I y20,I y21,I y22,.t (.lst 2 (y23.map Zf.c)),I y24,I y25,I y26,I y27,I y28,.t (.lst 2 (y29.map Zf.c))]] []=some (Bo (decide (x0=y0∧x1=y1∧x2=y2∧x3=y3∧x4=y4∧x5=y5∧x6=y6∧x7=y7∧x8=y8∧x9=y9∧x10=y10∧x11=y11∧x12=y12∧x13=y13∧x14=y14∧x15=y15∧x16=y16∧x17=y17∧x18=y18∧x19=y19∧x20=y20∧x21=y21∧x22=y22∧x23=y23∧x24=y24∧x25=y25∧x26=y26∧x27=y27∧x28=y28∧x29=y29)),[]):=by
 refine run Zblc rfl ?_
 simp [Z7q,Zmv _ _ _ _ _ _ _ _ _ _ _ _ h5,Zmv _ _ _ _ _ _ _ _ _ _ _ _ h11,Zmv _ _ _ _ _ _ _ _ _ _ _ _ h17,Zmv _ _ _ _ _ _ _ _ _ _ _ _ h23,Zmv _ _ _ _ _ _ _ _ _ _ _ _ h29]
 repeat' split
 all_goals first | (simp_all;done) | grind
theorem Zbm7 (x0:Int) (x1:Int) (x2:Int) (x3:Int) (x4:Int) (x5:List Zf) (x6:Int) (x7:Int) (x8:Int) (x9:Int) (x10:Int) (x11:List Zf) (x12:Int) (x13:Int) (x14:Int) (x15:Int) (x16:Int) (x17:List Zf) (x18:Int) (x19:Int) (x20:Int) (x21:Int) (x22:Int) (x23:List Zf) (x24:Int) (x25:Int) (x26:Int) (x27:Int) (x28:Int) (x29:List Zf) (left:Int) :C Z8u [.agg [I x0,I x1,I x2,I x3,I x4,.t (.lst 2 (x5.map Zf.c)),I x6,I x7,I x8,I x9,I x10,.t (.lst 2 (x11.map Zf.c)),I x12,I x13,I x14,I x15,I x16,.t (.lst 2 (x17.map Zf.c)),I x18,I x19,I x20,I x21,I x22,.t (.lst 2 (x23.map Zf.c)),I x24,I x25,I x26,I x27,I x28,.t (.lst 2 (x29.map Zf.c))],I left] []=some (I (Zd.sz ⟨⟨x0,x1,x2,x3,x4,x5⟩,⟨x6,x7,x8,x9,x10,x11⟩,⟨x12,x13,x14,x15,x16,x17⟩,⟨x18,x19,x20,x21,x22,x23⟩,⟨x24,x25,x26,x27,x28,x29⟩⟩ left),[]):=by
 refine run Zbk7 rfl ?_
 simp [Z7m,Zbm4,Zd.sz,andSz,sz1]
 repeat' split
 all_goals first | (simp_all;done) | grind
theorem Z8j (m:Zd) (d:Zi) (q:Zc) (hm:m.okay) (hd:d.okay) (hq:q.okay):C Z8t [.agg (m.c.map .t),.agg (d.c.map .t),.agg (q.c.map .t)] []=some (Bo true,[]):=by
 refine run Zbk6 rfl ?_
 have e1:=fun l=>Zbm7 m.Scan.Fixed m.Scan.Zl m.Scan.Zm m.Scan.Zo m.Scan.Zn m.Scan.Steps m.Sort_.Fixed m.Sort_.Zl m.Sort_.Zm m.Sort_.Zo m.Sort_.Zn m.Sort_.Steps m.Hash.Fixed m.Hash.Zl m.Hash.Zm m.Hash.Zo m.Hash.Zn m.Hash.Steps m.Merge.Fixed m.Merge.Zl m.Merge.Zm m.Merge.Zo m.Merge.Zn m.Merge.Steps m.Nested.Fixed m.Nested.Zl m.Nested.Zm m.Nested.Zo m.Nested.Zn m.Nested.Steps l
 by_cases h1:Zd.sz m (1048576)<0
 ·simp [Zmt,e1,h1]
 obtain ⟨b1,g1⟩:=Zd.Zbn m _ hm (by omega) (by omega) (by omega:0≤Zd.sz m (1048576))
 have e2:=fun l=>Zbmn d.Tables l (hd)
 by_cases h2:Zi.sz d (Zd.sz m (1048576))<0
 ·simp [Zmt,e1,h1,e2,h2]
 obtain ⟨b2,g2⟩:=Zi.Zbn d _ hd (by omega) (by omega) (by omega:0≤Zi.sz d (Zd.sz m (1048576)))
 have e3:=fun l=>Zbmw q.Ze q.Atoms l (hq.2)
 by_cases h3:Zc.sz q (Zi.sz d (Zd.sz m (1048576)))<0
 ·simp [Zmt,e1,h1,e2,h2,e3,h3]
 obtain ⟨b3,g3⟩:=Zc.Zbn q _ hq (by omega) (by omega) (by omega:0≤Zc.sz q (Zi.sz d (Zd.sz m (1048576))))
 have t1:=Zbm5 m.Scan.Fixed m.Scan.Zl m.Scan.Zm m.Scan.Zo m.Scan.Zn m.Scan.Steps m.Sort_.Fixed m.Sort_.Zl m.Sort_.Zm m.Sort_.Zo m.Sort_.Zn m.Sort_.Steps m.Hash.Fixed m.Hash.Zl m.Hash.Zm m.Hash.Zo m.Hash.Zn m.Hash.Steps m.Merge.Fixed m.Merge.Zl m.Merge.Zm m.Merge.Zo m.Merge.Zn m.Merge.Steps m.Nested.Fixed m.Nested.Zl m.Nested.Zm m.Nested.Zo m.Nested.Zn m.Nested.Steps (g1.1) (g1.2.1) (g1.2.2.1) (g1.2.2.2.1) (g1.2.2.2.2)
 have q1:=fun y0 y1 y2 y3 y4 y5 y6 y7 y8 y9 y10 y11 y12 y13 y14 y15 y16 y17 y18 y19 y20 y21 y22 y23 y24 y25 y26 y27 y28 y29=>Zbm6 m.Scan.Fixed m.Scan.Zl m.Scan.Zm m.Scan.Zo m.Scan.Zn m.Scan.Steps m.Sort_.Fixed m.Sort_.Zl m.Sort_.Zm m.Sort_.Zo m.Sort_.Zn m.Sort_.Steps m.Hash.Fixed m.Hash.Zl m.Hash.Zm m.Hash.Zo m.Hash.Zn m.Hash.Steps m.Merge.Fixed m.Merge.Zl m.Merge.Zm m.Merge.Zo m.Merge.Zn m.Merge.Steps m.Nested.Fixed m.Nested.Zl m.Nested.Zm m.Nested.Zo m.Nested.Zn m.Nested.Steps y0 y1 y2 y3 y4 y5 y6 y7 y8 y9 y10 y11 y12 y13 y14 y15 y16 y17 y18 y19 y20 y21 y22 y23 y24 y25 y26 y27 y28 y29 (g1.1) (g1.2.1) (g1.2.2.1) (g1.2.2.2.1) (g1.2.2.2.2)
 have t2:=Zbml d.Tables (g2)
 have q2:=fun y0=>Zbmm d.Tables y0 (g2)
 have t3:=Zbmu q.Ze q.Atoms (g3)
 have q3:=fun y0 y1=>Zbmv q.Ze q.Atoms y0 y1 (g3)
 have n1:LeM m:=⟨by have:=g1.1;omega,by have:=g1.2.1;omega,by have:=g1.2.2.1;omega,by have:=g1.2.2.2.1;omega,by have:=g1.2.2.2.2;omega⟩
 have n2:LeD d:=⟨by have:=g2.1;omega,fun t ht=>⟨by have:=(g2.2 t ht).2.1;omega,fun r hr=>by have:=(g2.2 t ht).2.2 r hr;omega⟩⟩
 have n3:LeQ q:=⟨by have:=g3.1;omega,fun x hx=>by have:=(g3.2 x hx).2;omega⟩
 have s0:=Zbkm hSort hRep (m:=m) (d:=d) (q:=q) n1 n2 n3
 unfold Zo7 at s0
 have s1:=Zbkj hSort hRep (m:=m) (d:=d) (q:=q) n1 n2 n3
 unfold Zn4 at s1
 simp only [Zi.c_def,Zd.c_def,Zc.c_def,List.map_cons,List.map_nil] at s0 s1
 simp +decide [Zmt,e1,h1,e2,h2,e3,h3,t1,q1,t2,q2,t3,q3,s0,s1]
end Go.Proofs.YtgnfoghkbpkgjaaGreat
