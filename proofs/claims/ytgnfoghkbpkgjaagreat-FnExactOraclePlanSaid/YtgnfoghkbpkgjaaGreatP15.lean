/-
  Parts of the proofs for this seat: SO1 SE1 CM SO2 SO3 CPL CPW CPS RP RS KS SX OH OQ K.
-/
import Derived.BigQuiet
import Derived.BigRegion
import Derived.Deep.QuietTactic
import Derived.Laws.CopyRow
import Derived.Lib.SlicesCompact
import Derived.Shelf.SlSortCmp.Kit1
import Derived.Shelf.SlSortCmp.NoneTotal
import Derived.Test.YtgnfoghkbpkgjaaGreatP3
import Derived.Test.YtgnfoghkbpkgjaaGreatP6
import Derived.Test.YtgnfoghkbpkgjaaGreatP7
import Derived.Test.YtgnfoghkbpkgjaaGreatP13
import Derived.Test.YtgnfoghkbpkgjaaGreatP14
set_option linter.unusedSimpArgs false
set_option linter.unusedVariables false
set_option maxRecDepth 100000
set_option maxHeartbeats 4000000
namespace Go.Proofs.YtgnfoghkbpkgjaaGreat
open Go.RowKit Go.AM
theorem Z8m {w:World}:∀ {r:List Int} {vs:List Value} {fp:List Nat},TRs w (r.map ic).flatten vs fp→vs=r.map (Value.int .i64)
 | [],vs,fp,h=>by cases h;rfl
 | x::r,vs,fp,h=>by
  rw [List.map_cons,List.flatten_cons] at h
  change TRs w (T.int .i64 x::(r.map ic).flatten) vs fp at h
  cases h with
  | cons h hs =>
   cases h
   rw [List.map_cons,← Z8m hs]
theorem Znd {w W:World} {r:List Int} {v:Value} {fp:List Nat} (h:TR w (.lst 1 (r.map ic)) v fp) (hW:∀ g∈fp,W.heap[g]?=w.heap[g]?):Zfg W v r:=by
 have h:=h.frame hW
 generalize he:r.map ic=es at h
 cases h with
 | lst0 sz a cap =>
  have:r=[]:=List.map_eq_nil_iff.1 he
  subst this
  exact ⟨a,cap,rfl,fun j hj=>absurd hj (Nat.not_lt_zero _)⟩
 | @lst sz es g off cap c e fz fp hne hsz hcap hg hlen hc =>
  subst he
  have hv:=Z8m hc
  refine ⟨some ⟨g,off,none⟩,cap,by rw [List.length_map],fun j hj=>⟨g,off,rfl,?_⟩⟩
  have h1:((c.toList.drop off).take ((r.map ic).length*1))[j]?=some (.int .i64 r[j]):=by
   rw [hv,List.getElem?_map,List.getElem?_eq_getElem hj];rfl
  rw [List.getElem?_take,if_pos (by rw [List.length_map];omega),List.getElem?_drop] at h1
  unfold World.cell?
  rw [hg]
  simpa using h1
end Go.Proofs.YtgnfoghkbpkgjaaGreat
namespace Go.Proofs.YtgnfoghkbpkgjaaGreat
open Go.RowKit Go.Lib
theorem dropEq {a b:List Int} {k:Nat} (h1:k<a.length) (h2:k<b.length):decide (a.drop k=b.drop k)=(decide (a[k]=b[k]) && decide (a.drop (k+1)=b.drop (k+1))):=by
 rw [Bool.eq_iff_iff]
 simp only [Bool.and_eq_true,decide_eq_true_eq]
 rw [List.drop_eq_getElem_cons h1,List.drop_eq_getElem_cons h2,List.cons.injEq]
theorem eq_walk (v1 v2:Value) (a b:List Int) (w:World) (h1:Zfg w v1 a) (h2:Zfg w v2 b) (hl1:a.length<2305843009213693952) (hl2:b.length<2305843009213693952) :
  Calls Tryz.prog 334 #[v1,v2] w fun e w'=>e=.returned (.bool (decide (a=b)))∧∃ q,w'=w.drewN q:=by
 obtain ⟨p1,c1,rfl,r1⟩:=h1
 obtain ⟨p2,c2,rfl,r2⟩:=h2
 have mixed:Tryz.prog.follows Departure.mixedOrders=true:=by kernel_rfl
 by_cases hlen:a.length=b.length
 ·obtain ⟨n,hna⟩:∃ n:Nat,a.length=n:=⟨_,rfl⟩
  have hnb:b.length=n:=by omega
  rw [hna,hnb]
  have HN:Aside (a.length=n∧b.length=n):=⟨hna,hnb⟩
  have hln:n<2305843009213693952:=by omega
  clear hna hnb hlen hl1 hl2
  generalize hR:decide (a=b)=R
  have HR:Aside (decide (a.drop 0=b.drop 0)=R):=hR
  clear hR
  go_enter Tryz.func334,Tryz.ntmps334
  go_wp2
  go_loopg [5,13] n (fun gg _ s13 wr=>∃ kk q:Nat,kk≤n∧n - kk≤gg∧s13=.int .i64 kk∧wr=w.drewN q∧Aside (a.length=n∧b.length=n)∧Aside (decide (a.drop kk=b.drop kk)=R))
  case atStart=>exact ⟨0,0,Nat.zero_le _,by omega,rfl,rfl,HN,HR⟩
  case round =>
   obtain ⟨kk,q,hkk,hg,rfl,rfl,A,B⟩:=hrel
   have hA:=A.out
   obtain ⟨hA1,hA2⟩:=hA
   by_cases hltn:kk<n
   ·have hltz:(kk:Int)<(n:Int):=by omega
    have hlta:kk<a.length:=by omega
    have hlt:kk<b.length:=by omega
    obtain ⟨g1,o1,rfl,d1⟩:=r1 kk hlta
    obtain ⟨g2,o2,rfl,d2⟩:=r2 kk hlt
    have S:Aside (decide (a.drop kk=b.drop kk)=(decide (a[kk]=b[kk]) && decide (a.drop (kk+1)=b.drop (kk+1)))):=by
     exact dropEq hlta hlt
    clear r1 r2 hA1 hA2
    generalize a[kk]=x at d1 S
    generalize b[kk]=y at d2 S
    by_cases hz:x=y
    ·subst hz
     go_wp2_with fail
     go_region_o
     go_wp2
     go_roundg (n - (kk+1))
     case measure=>omega
     case rel =>
      refine ⟨kk+1,q+1,by omega,by omega,by go_num,rfl,A,(show Aside _ from ?_)⟩
      have:=S.out
      rw [B.out] at this
      show decide (a.drop (kk+1)=b.drop (kk+1))=R
      simpa using this.symm
    ·have hr:R=false:=by rw [← B.out,S.out];simp [hz]
     go_wp2_with fail
     go_region_o
     go_wp2
     go_ret
     exact ⟨by subst hr;rfl,q+1,rfl⟩
   ·have hltz:¬ (kk:Int)<(n:Int):=by omega
    have hr:R=true:=by
     rw [← B.out,show b.drop kk=[] from List.drop_of_length_le (by omega),show a.drop kk=[] from List.drop_of_length_le (by omega)];simp
    clear r1 r2 hA1 hA2
    go_wp2
    go_ret
    exact ⟨by subst hr;rfl,q,rfl⟩
 ·have hne:decide (a=b)=false:=by
   rw [decide_eq_false_iff_not];intro e;exact hlen (by rw [e])
  have hlz:¬ (a.length:Int)=(b.length:Int):=by omega
  rw [hne]
  clear hne r1 r2
  go_enter Tryz.func334,Tryz.ntmps334
  go_wp2
  go_ret
  exact ⟨rfl,0,rfl⟩
theorem eqf_walk (v1 v2:Value) (a b:List Int) (w:World) (h1:Zfg w v1 a) (h2:Zfg w v2 b) (hl1:a.length<2305843009213693952) (hl2:b.length<2305843009213693952) :
  Calls Tryz.prog 333 #[v1,v2] w fun e w'=>e=.returned (.bool (decide (a=b)))∧∃ q,w'=w.drewN q:=by
 have hc:=eq_walk v1 v2 a b w h1 h2 hl1 hl2
 generalize decide (a=b)=R at hc ⊢
 obtain ⟨p1,c1,rfl,r1⟩:=h1
 obtain ⟨p2,c2,rfl,r2⟩:=h2
 clear r1 r2
 go_enter Tryz.func333,Tryz.ntmps333
 go_wp2_with (refine hc.mono ?_;rintro e w' ⟨rfl,q,rfl⟩)
 go_ret
 exact ⟨rfl,q,rfl⟩
end Go.Proofs.YtgnfoghkbpkgjaaGreat
namespace Go.Proofs.YtgnfoghkbpkgjaaGreat
theorem Zen:∀ a b:List Int,cmpR b a=- cmpR a b
 | [],[]=>rfl
 | [],_::_=>rfl
 | _::_,[]=>rfl
 | x::a,y::b=>by
  have ih:=Zen a b
  simp only [cmpR]
  by_cases h1:x<y
  ·rw [if_neg (by omega),if_pos h1,if_pos h1];rfl
  ·by_cases h2:y<x
   ·rw [if_pos h2,if_neg h1,if_pos h2]
   ·rw [if_neg h2,if_neg h1,if_neg h1,if_neg h2];exact ih
theorem Zxq:∀ a b:List Int,cmpR a b=0→a=b
 | [],[],_=>rfl
 | [],_::_,h=>by simp [cmpR] at h
 | _::_,[],h=>by simp [cmpR] at h
 | x::a,y::b,h=>by
  simp only [cmpR] at h
  by_cases h1:x<y
  ·rw [if_pos h1] at h;cases h
  ·rw [if_neg h1] at h
   by_cases h2:y<x
   ·rw [if_pos h2] at h;cases h
   ·rw [if_neg h2] at h
    rw [Zxq a b h,show x=y by omega]
theorem Zbms (a:List Int):cmpR a a=0:=by have:=Zen a a;omega
theorem Zqt:∀ a b c:List Int,cmpR a b≤0→cmpR b c≤0→cmpR a c≤0
 | [],_,[],_,_=>by simp [cmpR]
 | [],_,_::_,_,_=>by simp [cmpR]
 | _::_,[],_,h,_=>by simp [cmpR] at h
 | _::_,_::_,[],_,h=>by simp [cmpR] at h
 | x::a,y::b,z::c,h1,h2=>by
  simp only [cmpR] at h1 h2 ⊢
  by_cases e1:x<y
  ·by_cases e2:y<z
   ·rw [if_pos (by omega)];decide
   ·rw [if_neg e2] at h2
    by_cases e3:z<y
    ·rw [if_pos e3] at h2;exact absurd h2 (by decide)
    ·rw [if_pos (by omega)];decide
  ·rw [if_neg e1] at h1
   by_cases e2:y<x
   ·rw [if_pos e2] at h1;exact absurd h1 (by decide)
   ·rw [if_neg e2] at h1
    have:x=y:=by omega
    subst this
    by_cases e3:x<z
    ·rw [if_pos e3];decide
    ·rw [if_neg e3] at h2 ⊢
     by_cases e4:z<x
     ·rw [if_pos e4] at h2;exact absurd h2 (by decide)
     ·rw [if_neg e4] at h2 ⊢
      exact Zqt a b c h1 h2
theorem Zbmt (a b c:List Int) (h1:leR a b=true) (h2:leR b c=true):leR a c=true:=by
 unfold leR at *
 simp only [decide_eq_true_eq] at *
 exact Zqt a b c h1 h2
theorem Zbmu (a b:List Int):(leR a b || leR b a)=true:=by
 unfold leR
 have:=Zen a b
 simp only [Bool.or_eq_true,decide_eq_true_eq]
 omega
theorem Z8n (a b:List Int) (h1:leR a b=true) (h2:leR b a=true):a=b:=by
 unfold leR at *
 simp only [decide_eq_true_eq] at *
 have:=Zen a b
 exact Zxq a b (by omega)
theorem Z8o (rows:List (List Int)):(srtR rows).Perm rows:=List.mergeSort_perm _ _
theorem Z8p (rows:List (List Int)):(srtR rows).Pairwise fun a b=>leR a b=true:=List.pairwise_mergeSort Zbmt Zbmu rows
theorem Zbmv {rows l:List (List Int)} (hp:l.Perm rows) (hs:l.Pairwise fun a b=>leR a b=true):l=srtR rows :=
 List.Perm.eq_of_pairwise (fun a b _ _=>Z8n a b) hs (Z8p rows) (hp.trans (Z8o rows).symm)
theorem Zxr:∀ (l:List (List Int)) (y:List Int),y∈cptR l↔y∈l
 | [],y=>by simp [cptR]
 | [a],y=>by simp [cptR]
 | a::b::l,y=>by
  unfold cptR
  have ih:=Zxr (b::l) y
  split
  ·rename_i e;subst e;rw [ih];simp
  ·rw [List.mem_cons,ih];simp
theorem Z8q:∀ l:List (List Int),(cptR l).length≤l.length
 | []=>Nat.le_refl _
 | [a]=>Nat.le_refl _
 | a::b::l=>by
  unfold cptR
  have:=Z8q (b::l)
  split
  ·exact Nat.le_trans this (Nat.le_succ _)
  ·exact Nat.succ_le_succ this
theorem Zxs:∀ l:List (List Int),l.Pairwise (fun a b=>leR a b=true)→(cptR l).Nodup
 | [],_=>by simp [cptR]
 | [a],_=>by simp [cptR]
 | a::b::l,h=>by
  have h1:=List.pairwise_cons.1 h
  unfold cptR
  split
  ·exact Zxs (b::l) h1.2
  ·rename_i e
   refine List.nodup_cons.2 ⟨fun hm=>?_,Zxs (b::l) h1.2⟩
   rw [Zxr] at hm
   rcases List.mem_cons.1 hm with e2 | e2
   ·exact e e2
   ·exact e (Z8n a b (h1.1 b (by simp)) ((List.pairwise_cons.1 h1.2).1 a e2))
end Go.Proofs.YtgnfoghkbpkgjaaGreat
namespace Go.Proofs.YtgnfoghkbpkgjaaGreat
open Go.RowKit Go.AM Go.Lib Go.Sort
def Z8r:Prop:=∀ (α:Type) [Inhabited α] (enc:α→Value) (_:OneCell enc) (cf:α→α→Int) (_:SWO (ltOf cf)) (blk off cap:Nat) (d:Array α) (w:World),CmpLays1 Tryz.prog 331 #[] enc cf blk off d.size w→Holds enc w blk off d→blk<w.heap.size→d.size<4611686018427387904 →
 Calls Tryz.prog 330 #[.slice (some ⟨blk,off,none⟩) d.size cap,.func (.func 331) #[] #[]] w fun e w'=>e=.returned (.tuple #[])∧∃ d' n os,PermIn 0 d.size d d'∧SortedIn (ltOf cf) 0 d.size d'∧w'=sortWorld enc w blk off n d' os
def Z8s:Prop:=∀ (p:Option Addr) (cap:Nat) (w:World),Calls Tryz.prog 330 #[.slice p 0 cap,.func (.func 331) #[] #[]] w fun e w'=>e=.returned (.tuple #[])∧w'=w
def El (w:World) (g:Nat):Type:={p:List Int×Value×List Nat // TR w (.lst 1 (p.1.map ic)) p.2.1 p.2.2∧(∀ x∈p.2.2,x≠g)∧p.1.length≤4}
instance (w:World) (g:Nat):Inhabited (El w g):=⟨⟨([],.slice none 0 0,[]),.lst0 1 none 0,by simp,by simp⟩⟩
def El.enc {w:World} {g:Nat} (x:El w g):Value:=x.1.2.1
def El.row {w:World} {g:Nat} (x:El w g):List Int:=x.1.1
def El.t3 {w:World} {g:Nat} (x:El w g):List T×List Value×List Nat:=(isc x.row,[x.enc],x.1.2.2)
theorem El.list {w:World} {g:Nat}:∀ l:List (List T×List Value×List Nat),(∀ p∈l,∃ q:El w g,q.t3=p)→∃ L:List (El w g),L.map El.t3=l
 | [],_=>⟨[],rfl⟩
 | p::l,h=>by
  obtain ⟨q,hq⟩:=h p (by simp)
  obtain ⟨L,hL⟩:=El.list l fun p hp=>h p (by simp [hp])
  exact ⟨q::L,by simp [hq,hL]⟩
def cfE {w:World} {g:Nat} (x y:El w g):Int:=cmpR x.row y.row
theorem swoE {w:World} {g:Nat}:SWO (ltOf (cfE (w:=w) (g:=g))) where
 irrefl x:=by unfold ltOf cfE;rw [Zbms];rfl
 trans x y z h1 h2:=by
  unfold ltOf cfE at *
  simp only [decide_eq_true_eq] at *
  have h3:=Zqt _ _ _ (Int.le_of_lt h1) (Int.le_of_lt h2)
  have h4:=Zen x.row z.row
  have h5:=Zen y.row z.row
  rcases Int.lt_or_eq_of_le h3 with h | h
  ·exact h
  ·have:=Zxq _ _ h
   rw [this] at h1
   omega
 ntrans x y z h1 h2:=by
  unfold ltOf cfE at *
  simp only [decide_eq_false_iff_not] at *
  have h3:=Zen x.row y.row
  have h4:=Zen y.row z.row
  have h5:=Zen x.row z.row
  have:=Zqt z.row y.row x.row (by omega) (by omega)
  omega
theorem Zxt {α:Type} [Inhabited α] (enc:α→Value) (w:World) (blk off n:Nat) (d:Array α) (os:Array Obj) {k:Nat} (hk:k<w.heap.size) (hne:k≠blk):(sortWorld enc w blk off n d os).heap[k]?=w.heap[k]?:=by
 show ((w.heap.modify blk (onCells (putCells enc off d)))++os)[k]?=_
 rw [Array.getElem?_append_left (by simpa using hk),Array.getElem?_modify,if_neg (Ne.symm hne)]
theorem Zbmw {α:Type} [Inhabited α] (enc:α→Value) (w:World) (blk off n:Nat) (d:Array α) (os:Array Obj) {c:Array Value} {e:TypeId} {fz:Nat×Nat} (hg:w.heap[blk]?=some (.cells c e fz)):(sortWorld enc w blk off n d os).heap[blk]?=some (.cells (putCells enc off d c) e fz):=by
 have hk:blk<w.heap.size:=(Array.getElem?_eq_some_iff.1 hg).1
 show ((w.heap.modify blk (onCells (putCells enc off d)))++os)[blk]?=_
 rw [Array.getElem?_append_left (by simpa using hk),Array.getElem?_modify,if_pos rfl,hg]
 rfl
theorem cmp_lays (w:World) (g size:Nat):CmpLays1 Tryz.prog 331 #[] (El.enc (w:=w) (g:=g)) cfE g 0 size w:=by
 intro m os dk hs x y
 have hx:=Znd (W:=sortWorld El.enc w g 0 m dk os) x.2.1 fun k hk=>Zxt _ _ _ _ _ _ _ (x.2.1.lt k hk) (x.2.2.1 k hk)
 have hy:=Znd (W:=sortWorld El.enc w g 0 m dk os) y.2.1 fun k hk=>Zxt _ _ _ _ _ _ _ (y.2.1.lt k hk) (y.2.2.1 k hk)
 have h4:=x.2.2.2
 have h5:=y.2.2.2
 refine (Zbmr x.enc y.enc x.row y.row _ hx hy (by unfold El.row;omega) (by unfold El.row;omega)).mono ?_
 rintro e w' ⟨rfl,rfl⟩
 exact ⟨rfl,0,#[],by simp [grow,World.drewN]⟩
end Go.Proofs.YtgnfoghkbpkgjaaGreat
namespace Go.Proofs.YtgnfoghkbpkgjaaGreat
open Go.RowKit Go.AM Go.Lib Go.Sort
theorem el_of {w:World} {g:Nat} {r:List Int} {z:List Value} {f:List Nat} (h:TRs w (isc r) z f) (hf:∀ x∈f,x≠g) (hr:r.length≤4):∃ q:El w g,q.t3=(isc r,z,f):=by
 unfold isc at h
 cases h with
 | @cons t v fp ts vs fq h hs =>
  cases hs
  rw [List.append_nil] at hf ⊢
  exact ⟨⟨(r,v,fp),h,hf,hr⟩,rfl⟩
theorem Zxu {a b:List Int} (h:isc a=isc b):a=b:=by
 unfold isc at h
 simp only [List.cons.injEq,T.lst.injEq,true_and,and_true] at h
 exact (List.map_inj_right (f:=ic) (by intro x y hxy;simpa [ic] using hxy)).1 h
theorem Z8t {α:Type} [Inhabited α] (enc:α→Value) (d:Array α) (c:Array Value) (h:d.size≤c.size):(putCells enc 0 d c).toList=d.toList.map enc++c.toList.drop d.size:=by
 refine List.ext_getElem (by simp [putCells];omega) fun i h1 h2=>?_
 have hi:i<c.size:=by simpa [putCells] using h1
 simp only [putCells,Array.getElem_toList,Array.getElem_mapIdx]
 by_cases e:i<d.size
 ·rw [if_pos (by omega),List.getElem_append_left (by simpa using e)]
  simp [e]
 ·rw [if_neg (by omega),List.getElem_append_right (by simp;omega)]
  simp
  congr 1
  omega
theorem Zqu {w:World} {g:Nat}:∀ L:List (El w g),((L.map El.t3).map (·.2.1)).flatten=L.map El.enc
 | []=>rfl
 | x::L=>by
  have ih:=Zqu L
  simp only [List.map_cons,List.flatten_cons] at ih ⊢
  rw [ih];rfl
theorem Z8u {w:World} {g:Nat} (L:List (El w g)):(L.map El.t3).map (·.1)=(L.map El.row).map isc:=by simp [El.t3]
theorem Zbmx (K:Z8r) (K0:Z8s) {fr:Bool} {rows:List (List Int)} (hlen:rows.length≤4096) (hr4:∀ r∈rows,r.length≤4) :
  Sound Tryz.prog 330 [.own 0,.fn 331 []] [.arr 30 1 fr (rows.map isc)] (.tup []) [.arr 30 1 fr ((srtR rows).map isc)]:=by
 refine ⟨by decide +kernel,?_⟩
 intro N base w ρ vs R hdom hv hz
 obtain ⟨l⟩:=vs
 simp only at hv
 cases hv with | cons q0 hv =>
 cases hv with | cons q1 hv =>
 cases hv
 cases q0 with | own hr h1 =>
 rename_i r
 cases q1 with | fn q1 =>
 rename_i c
 obtain ⟨c⟩:=c
 simp only at q1
 cases q1
 have hb:gt [Blk.arr 30 1 fr (rows.map isc)] 0=.arr 30 1 fr (rows.map isc):=by simp [gt]
 have hd0:gt [Blk.arr 30 1 fr (rows.map isc)] 0≠.dead:=by rw [hb];intro hc;cases hc
 obtain ⟨r2,e1,e2⟩:=R.blk 0 hd0
 rw [hr] at e1
 cases e1
 rw [hb] at e2
 obtain ⟨hex,e',xs,hel,ho,hsz,hlen1,htr,hfree,hfr,how⟩:=e2
 obtain ⟨hxl,ho⟩:=ho
 rcases ho with ⟨hrv,hn⟩ | ⟨g,cap,cur,hrv,hbg,hg,hcap,hcm,hcur,htake⟩
 ·have hn:rows=[]:=by simpa using hn
  subst hn
  rw [hrv]
  refine (K0 none 0 w).mono ?_
  rintro e w' ⟨rfl,rfl⟩
  exact ⟨_,ρ,rfl,Below.refl _ _,by simpa [srtR] using R,.tup .nil,hdom,by simp,fun _ _ _=>rfl,fun g hg hzz=>⟨by simpa [srtR] using hz g hzz,rfl⟩,fun b r0 _ h=>⟨r0,h,rfl⟩⟩
 obtain ⟨zs,hzx,hch⟩:=Ch.of htr
 obtain ⟨l,p1,p2,p3,p4⟩:=hch.zip
 have hblk:blkOf r.v=some g:=by rw [hrv];rfl
 have hfg:∀ x∈r.fp,x≠g:=fun x hx e=>by
  subst e
  exact (hfree x hx).2 0 r hr hd0 (.inl hblk)
 have hgs:g<w.heap.size:=(Array.getElem?_eq_some_iff.1 hg).1
 obtain ⟨L,hL⟩:=El.list (w:=w) (g:=g) l (by
  intro p hp
  have hm:p.1∈rows.map isc:=by rw [← p1];exact List.mem_map.2 ⟨p,hp,rfl⟩
  obtain ⟨r0,hr0,e0⟩:=List.mem_map.1 hm
  have ht:=p4 p hp
  rw [← e0] at ht
  obtain ⟨q,hq⟩:=el_of (g:=g) ht (fun x hx=>hfg x (by rw [← p3];exact List.mem_flatten.2 ⟨p.2.2,List.mem_map.2 ⟨p,hp,rfl⟩,hx⟩)) (hr4 r0 hr0)
  exact ⟨q,by rw [hq,e0]⟩)
 subst hL
 have hrows:L.map El.row=rows:=by
  have:(L.map El.row).map isc=rows.map isc:=by rw [← p1];simp [El.t3]
  exact (List.map_inj_right (fun a b h=>Zxu h)).1 this
 have hLl:L.length=rows.length:=by rw [← hrows,List.length_map]
 have henc:L.map El.enc=cur.toList.take ((rows.map isc).length*1):=by
  rw [htake,← hzx,← p2]
  simp [El.t3]
  clear p1 p2 p3 p4 hrows hLl
  induction L with
  | nil=>rfl
  | cons x L ih=>simp [ih];rfl
 have hcell:Holds El.enc w g 0 L.toArray:=by
  intro j hj
  have hj':j<L.length:=by simpa using hj
  have h2:cur[j]?=some (L[j].enc):=by
   have h3:(cur.toList.take ((rows.map isc).length*1))[j]?=some (L[j].enc):=by rw [← henc,List.getElem?_map,List.getElem?_eq_getElem hj'];rfl
   rw [List.getElem?_take,if_pos (by simp;omega)] at h3
   simpa using h3
  refine ⟨?_,?_⟩
  ·unfold World.cell?
   rw [hg]
   simp [h2,hj']
  ·simp [World.frozen?,hg]
 have hcall:=K (El w g) El.enc (fun x=>x.2.1.one) cfE swoE g 0 cap L.toArray w (cmp_lays w g _) hcell hgs (by simp;omega)
 rw [hrv,show (rows.map isc).length=L.toArray.size by simp [hLl]]
 refine hcall.mono ?_
 rintro e w' ⟨rfl,d',n,os,hP,hS,rfl⟩
 have hds:d'.size=L.length:=by have:=hP.1;simpa using this
 have hperm:d'.toList.Perm L:=by
  have:=hP.2.2
  rw [show L.toArray.size=d'.size from hP.1.symm,Array.extract_size] at this
  rw [hP.1,Array.extract_size] at this
  simpa using this
 have hgr:w.grownBy (sortWorld El.enc w g 0 n d' os) (some g):=⟨rfl,rfl,rfl,by show w.heap.size≤((w.heap.modify g _)++os).size;simp,fun k hk hne=>Zxt _ _ _ _ _ _ _ hk (by intro e;exact hne (by rw [e]))⟩
 have hpl:(d'.toList.map El.t3).Perm (L.map El.t3):=hperm.map _
 obtain ⟨P1,P2,P3⟩:=perm_rel R hr (by intro b hb;exact hdom b (by simpa using hb)) hrv hg p1 (by rw [p2,hzx,htake]) p3 p4 hpl ⟨_,Zbmw _ _ _ _ _ _ _ hg,by
  rw [Z8t _ _ _ (by simp at hcap;omega),Zqu,hds,hLl];simp⟩ hgr
 have hsd:(d'.toList.map El.row)=srtR rows:=by
  refine Zbmv (by rw [← hrows];exact hperm.map _) ?_
  rw [List.pairwise_map,List.pairwise_iff_getElem]
  intro i j hi hj hij
  have h:=hS i j (Nat.zero_le _) hij (by simp at hj ⊢;omega)
  rw [getElem!_pos d' j (by simpa using hj),getElem!_pos d' i (by simpa using hi)] at h
  unfold ltOf cfE at h
  unfold leR
  simp only [decide_eq_false_iff_not,decide_eq_true_eq,Array.getElem_toList] at h ⊢
  have:=Zen d'[i].row d'[j].row
  omega
 rw [Z8u,hsd] at P1 P2
 refine ⟨_,_,rfl,⟨hgr.os,hgr.tape,hgr.output,hgr.size,fun k hk=>hgr.block k (Nat.lt_of_lt_of_le hk R.hb) (by intro e;cases e;omega)⟩,P1,.tup .nil,fun b hb=>?_,by simp,P3,fun k hk hzz=>P2.free k hk (hz k hzz),fun b r0 hb h0=>P2.root b r0 h0⟩
 simp only [updM]
 rw [if_neg (by simp at hb;omega)]
 exact hdom b (by simpa using hb)
end Go.Proofs.YtgnfoghkbpkgjaaGreat
namespace Go.Proofs.YtgnfoghkbpkgjaaGreat
open Go.Sort
section
variable {α β:Type} [Inhabited α] [DecidableEq β] (f:α→β)
def nbk (p:α):List α→List α
 | []=>[]
 | x::l=>if f x=f p then nbk x l else x::nbk x l
def nb:List α→List α
 | []=>[]
 | x::l=>x::nbk f x l
omit [Inhabited α] in
theorem Z8v:∀ (l:List α) (p y:α),nbk f p (l++[y])=nbk f p l++if f y=f (l.getLastD p) then [] else [y]
 | [],p,y=>by by_cases h:f y=f p <;> simp [nbk,h]
 | x::l,p,y=>by
  rw [List.cons_append,nbk,nbk,Z8v l x y,List.getLastD_cons]
  split <;> rfl
omit [Inhabited α] in
theorem nb_snoc:∀ (l:List α) (p y:α),l≠[]→nb f (l++[y])=nb f l++if f y=f (l.getLastD p) then [] else [y]
 | [],p,y,h=>absurd rfl h
 | x::l,p,y,_=>by
  rw [List.cons_append,nb,nb,Z8v,List.getLastD_cons]
  rfl
omit [Inhabited α] in
theorem Zxv:∀ (l:List α) (p:α),(nbk f p l).Sublist l
 | [],p=>.slnil
 | x::l,p=>by
  rw [nbk]
  split
  ·exact (Zxv l x).cons _
  ·exact (Zxv l x).cons_cons _
omit [Inhabited α] in
theorem nb_sub:∀ l:List α,(nb f l).Sublist l
 | []=>.slnil
 | x::l=>(Zxv f l x).cons_cons _
theorem Zqv {l:List α} {m:Nat} (h0:0<m) (h:m<l.length):nb f (l.take (m+1))=nb f (l.take m)++if f l[m]! = f l[m - 1]! then [] else [l[m]!]:=by
 have hl:(l.take m).getLastD default=l[m - 1]:=by
  rw [List.getLastD_eq_getLast?,List.getLast?_take,if_neg (by omega),List.getElem?_eq_getElem (show m - 1<l.length by omega)]
  rfl
 rw [List.take_succ_eq_append_getElem h,nb_snoc f _ default _ (by intro e;have:=congrArg List.length e;rw [List.length_take,List.length_nil] at this;omega),hl,getElem!_pos l m h,getElem!_pos l (m - 1) (by omega)]
structure CInv (d:Array α) (m k:Nat) (e:Array α):Prop where
 len:(nb f (d.toList.take m)).length=k
 lt:k<m
 row:e.toList=nb f (d.toList.take m)++d.toList.drop k
omit [Inhabited α] in
theorem CInv.size {d e:Array α} {m k:Nat} (I:CInv f d m k e) (hm:m≤d.size):e.size=d.size:=by
 have h1:=I.lt
 rw [← Array.length_toList,I.row,List.length_append,I.len,List.length_drop,Array.length_toList]
 omega
theorem CInv.read {d e:Array α} {m k:Nat} (I:CInv f d m k e) (hm:m≤d.size) {j:Nat} (hj:k≤j) (hd:j<d.size):e[j]! = d[j]!:=by
 have hs:=I.size f hm
 have h:=I.len
 have h2:e.toList[j]?=d.toList[j]?:=by
  rw [I.row,List.getElem?_append_right (by omega),List.getElem?_drop,h]
  congr 1
  omega
 rw [getElem!_pos e j (by omega),getElem!_pos d j hd]
 rw [Array.getElem?_toList,Array.getElem?_toList,Array.getElem?_eq_getElem (by omega),Array.getElem?_eq_getElem hd] at h2
 exact Option.some.inj h2
theorem Zgh (d:Array α) (j:Nat):d.toList[j]! = d[j]!:=by simp [Array.getElem!_eq_getD,Array.getD_eq_getD_getElem?]
theorem CInv.start {d:Array α} {k:Nat} (h0:0<k) (hk:k<d.size) (ha:nb f (d.toList.take k)=d.toList.take k) (he:f d[k]! = f d[k - 1]!):CInv f d (k+1) k d:=by
 have h:=Zqv f h0 (show k<d.toList.length from hk)
 rw [Zgh,Zgh,if_pos he,List.append_nil,ha] at h
 refine ⟨?_,Nat.lt_succ_self _,?_⟩
 ·rw [h,List.length_take,Array.length_toList];omega
 ·rw [h,List.take_append_drop]
theorem CInv.skip {d e:Array α} {m k:Nat} (I:CInv f d m k e) (hm:m<d.size) (he:f d[m]! = f d[m - 1]!):CInv f d (m+1) k e:=by
 have hl:=I.lt
 have h:=Zqv f (show 0<m by omega) (show m<d.toList.length from hm)
 rw [Zgh,Zgh,if_pos he,List.append_nil] at h
 exact ⟨by rw [h];exact I.len,by omega,by rw [h];exact I.row⟩
theorem CInv.keep {d e:Array α} {m k:Nat} (I:CInv f d m k e) (hm:m<d.size) (he:¬ f d[m]! = f d[m - 1]!):CInv f d (m+1) (k+1) (e.setIfInBounds k d[m]!):=by
 have hl:=I.lt
 have hn:=I.len
 have h:=Zqv f (show 0<m by omega) (show m<d.toList.length from hm)
 rw [Zgh,Zgh,if_neg he] at h
 refine ⟨by rw [h,List.length_append,hn];rfl,by omega,?_⟩
 rw [Array.toList_setIfInBounds,I.row,h,List.set_append_right _ _ (by omega),hn,Nat.sub_self,List.drop_eq_getElem_cons (show k<d.toList.length by rw [Array.length_toList];omega),List.set_cons_zero]
 simp
omit [Inhabited α] in
theorem CInv.fill {d e:Array α} {k:Nat} (I:CInv f d d.size k e) (z:α):(Lib.lay e k (List.replicate (d.size - k) z)).toList=nb f d.toList++List.replicate (d.size - k) z:=by
 have hs:=I.size f (Nat.le_refl _)
 have hl:=I.lt
 have hr:=I.row
 have hn:=I.len
 rw [show d.toList.take d.size=d.toList from List.take_of_length_le (by simp)] at hr hn
 apply List.ext_getElem?
 intro j
 rw [Array.getElem?_toList,Lib.lay_get? _ _ _ _ (by simp;omega),List.length_replicate]
 by_cases h1:j<k
 ·rw [if_neg (by omega),List.getElem?_append_left (by omega),← Array.getElem?_toList,hr,List.getElem?_append_left (by omega)]
 ·rw [List.getElem?_append_right (by omega),hn]
  by_cases h2:j<d.size
  ·rw [if_pos (by omega)]
  ·rw [if_neg (by omega),Array.getElem?_eq_none (by omega),List.getElem?_eq_none (by simp;omega)]
theorem nb_next {d:Array α} {k:Nat} (h0:0<k) (hk:k<d.size) (ha:nb f (d.toList.take k)=d.toList.take k) (he:¬ f d[k]! = f d[k - 1]!):nb f (d.toList.take (k+1))=d.toList.take (k+1):=by
 have h:=Zqv f h0 (show k<d.toList.length from hk)
 rw [Zgh,Zgh,if_neg he,ha] at h
 rw [h,List.take_succ_eq_append_getElem (show k<d.toList.length from hk)]
 simp [getElem!_pos,hk]
omit [Inhabited α] in
theorem nb_one {d:Array α} (h:d.size≤1):nb f d.toList=d.toList:=by
 obtain ⟨l⟩:=d
 match l with
 | []=>rfl
 | [a]=>rfl
 | a::b::l=>simp at h
omit [Inhabited α] in
theorem nb_one1 (d:Array α):nb f (d.toList.take 1)=d.toList.take 1:=by
 obtain ⟨l⟩:=d
 cases l with
 | nil=>rfl
 | cons a l=>simp [nb,nbk]
end
theorem nb_cpt {α:Type} (f:α→List Int):∀ l:List α,(nb f l).map f=cptR (l.map f)
 | []=>rfl
 | [a]=>rfl
 | a::b::l=>by
  have ih:=nb_cpt f (b::l)
  rw [nb] at ih
  rw [nb,nbk,List.map_cons,List.map_cons,List.map_cons,cptR]
  rw [List.map_cons,List.map_cons] at ih
  by_cases e:f b=f a
  ·rw [if_pos e,if_pos e.symm,← ih,e]
  ·rw [if_neg e,if_neg (fun h=>e h.symm),← ih]
   rfl
end Go.Proofs.YtgnfoghkbpkgjaaGreat
namespace Go.Proofs.YtgnfoghkbpkgjaaGreat
open Go.RowKit Go.AM Go.Lib Go.Sort
theorem Z8w {α:Type} [Inhabited α] (enc:α→Value) (w:World) (blk off n:Nat) (d:Array α) {k:Nat} (hne:k≠blk):(putRow enc (Sort.ahead w n) blk off d).heap[k]?=w.heap[k]?:=by
 show (w.heap.modify blk (onCells (putCells enc off d)))[k]?=_
 rw [Array.getElem?_modify,if_neg (Ne.symm hne)]
theorem Zqw {w:World} {g q n:Nat} {d:Array (El w g)}:(putRow El.enc (Sort.ahead w q) g 0 d).drewN n=putRow El.enc (Sort.ahead w (q+n)) g 0 d:=by
 simp [putRow,mapBlock,Sort.ahead,World.drewN,Nat.add_assoc]
theorem Z8x {w wr:World} {g:Nat} (hwr:∀ k,k≠g→wr.heap[k]?=w.heap[k]?) (x y:El w g) (n:Nat) :
  Calls Tryz.prog 333 #[x.enc,y.enc] (wr.drewN n) fun r w'=>r=.returned (.bool (decide (x.row=y.row)))∧∃ p,w'=(wr.drewN n).drewN p:=by
 have hx:=Znd (W:=wr.drewN n) x.2.1 fun k hk=>hwr k (x.2.2.1 k hk)
 have hy:=Znd (W:=wr.drewN n) y.2.1 fun k hk=>hwr k (y.2.2.1 k hk)
 have h4:=x.2.2.2
 have h5:=y.2.2.2
 exact eqf_walk x.enc y.enc x.row y.row _ hx hy (by unfold El.row;omega) (by unfold El.row;omega)
theorem El.one {w:World} {g:Nat} (x:El w g):x.enc.oneCell'=true:=x.2.1.one
theorem put_at {w w':World} {g q kk:Nat} {dk:Array (El w g)} {z:El w g} {x:Value} (hk:kk<dk.size) (hw:w'=putRow El.enc (Sort.ahead w q) g 0 dk) (hx:El.enc z=x):w'.setCell ⟨g,kk,none⟩ x=putRow El.enc (Sort.ahead w q) g 0 (dk.setIfInBounds kk z):=by
 subst hw
 subst hx
 have:=putRow_set El.enc (Sort.ahead w q) g 0 dk kk z hk
 rwa [Nat.zero_add] at this
theorem put_end {w wr:World} {g q kk:Nat} {d dk:Array (El w g)} (f:El w g→List Int) (I:CInv f d d.size kk dk) (z:El w g) (hw:wr=putRow El.enc (Sort.ahead w q) g 0 dk):wr.setCells g kk (List.replicate (d.size - kk) z.enc)=putRow El.enc (Sort.ahead w q) g 0 (nb f d.toList++List.replicate (d.size - kk) z).toArray:=by
 subst hw
 have hs:=I.size f (Nat.le_refl _)
 have hl:=I.lt
 have:=putRow_setCells El.enc (Sort.ahead w q) g 0 (List.replicate (d.size - kk) z) dk kk (by simp;omega)
 rw [Nat.zero_add,List.map_replicate] at this
 rw [this]
 congr 1
 rw [← I.fill f z]
theorem cpt_nil (w:World):Calls Tryz.prog 332 #[.slice none 0 0,.func (.func 333) #[] #[]] w fun e w'=>e=.returned (.slice none 0 0)∧w'=w:=by
 have mixed:Tryz.prog.follows Departure.mixedOrders=true:=by kernel_rfl
 go_enter Tryz.func332,Tryz.ntmps332
 go_wp2
 go_ret
 exact ⟨rfl,rfl⟩
theorem cpt_walk {w:World} {g:Nat} (cap:Nat) (d:Array (El w g)) (hH:Holds El.enc w g 0 d) (hsz:d.size≤4096) (hcap:d.size≤cap) :
  Calls Tryz.prog 332 #[.slice (some ⟨g,0,none⟩) d.size cap,.func (.func 333) #[] #[]] w fun e w'=>e=.returned (.slice (some ⟨g,0,none⟩) (nb El.row d.toList).length cap) ∧
   ∃ q,w'=putRow El.enc (Sort.ahead w q) g 0 (nb El.row d.toList++List.replicate (d.size - (nb El.row d.toList).length) default).toArray:=by
 have mixed:Tryz.prog.follows Departure.mixedOrders=true:=by kernel_rfl
 have HS:Aside (∀ q,nb El.row d.toList=d.toList→(nb El.row d.toList).length=d.size∧putRow El.enc (Sort.ahead w q) g 0 d=putRow El.enc (Sort.ahead w q) g 0 (nb El.row d.toList++List.replicate (d.size - (nb El.row d.toList).length) default).toArray):=by
  intro q e
  rw [e]
  simp
 have HH:Aside (Holds El.enc w g 0 d):=hH
 clear hH
 by_cases h2:d.size<2
 ·go_enter Tryz.func332,Tryz.ntmps332
  go_wp2
  go_ret
  obtain ⟨e1,e2⟩:=HS.out 0 (nb_one El.row (by omega))
  refine ⟨by rw [e1];rfl,0,?_⟩
  rw [← e2]
  exact (putRow_self El.enc w g 0 d HH.out).symm
 ·go_enter Tryz.func332,Tryz.ntmps332
  go_wp2
  go_loopg [5] d.size (fun gg s5 wr=>∃ k q:Nat,1≤k∧k≤d.size∧d.size - k≤gg∧s5=.int .i64 k∧Aside (wr=putRow El.enc (Sort.ahead w q) g 0 d)∧Aside (nb El.row (d.toList.take k)=d.toList.take k))
  case atStart=>exact ⟨1,0,Nat.le_refl _,by omega,by omega,rfl,(putRow_self El.enc w g 0 d HH.out).symm,nb_one1 El.row d⟩
  case round =>
   obtain ⟨k,q,hk1,hk,hg,rfl,W,A⟩:=hrel
   by_cases hlt:k<d.size
   ·have hHk:Holds El.enc wr g 0 d:=by rw [W.out];exact holds_putRow El.enc _ g 0 d d (holds_ahead El.enc w q g 0 d HH.out) rfl
    obtain ⟨kp,rfl⟩:∃ kp,k=kp+1:=⟨k - 1,by omega⟩
    obtain ⟨c1,f1⟩:=hHk (kp+1) hlt
    obtain ⟨c0,f0⟩:=hHk kp (by omega)
    have hcall:=Z8x (w:=w) (wr:=wr) (g:=g) (fun k hk=>by rw [W.out];exact Z8w _ _ _ _ _ _ hk) d[kp+1]! d[kp]!
    simp only [Nat.zero_add] at c1 c0 f1 f0
    clear hHk
    have hwp:IntKind.i64.wrap (kp:Int)=(kp:Int):=by rw [IntKind.wrap_i64];omega
    have jz:(kp:Int)+1<(d.size:Int):=by omega
    have jz1:(kp:Int)<(d.size:Int):=by omega
    have p0:(0:Int)≤(kp:Int)+1:=by omega
    have e0:((kp:Int)+1).toNat=kp+1:=by omega
    generalize El.enc d[kp+1]! = x at c1 hcall
    generalize El.enc d[kp]! = y at c0 hcall
    by_cases hdup:El.row d[kp+1]! = El.row d[kp]!
    ·rw [decide_eq_true hdup] at hcall
     have DD:Aside (El.row d[kp+1]! = El.row d[kp]!):=hdup
     clear hdup
     go_wp2_with fail
     go_quiet (refine Calls.quiet_of (hcall _))
     go_wp2_with fail
     have W3:Aside (wr.drewN nq=putRow El.enc (Sort.ahead w (q+nq)) g 0 d):=by show _=_;rw [W.out,Zqw]
     clear hcall c0 c1 f0 f1
     generalize wr.drewN nq=wz at W3 ⊢
     go_loopg [5,7] d.size (fun gg s5 s7 wr=>∃ (kk k2 q2:Nat) (dk:Array (El w g)),s5=.int .i64 kk∧s7=.int .i64 k2∧1≤k2∧kp+1+k2≤d.size∧d.size - (kp+1+k2)≤gg∧Aside (wr=putRow El.enc (Sort.ahead w q2) g 0 dk)∧Aside (CInv El.row d (kp+1+k2) kk dk))
     case atStart=>exact ⟨kp+1,1,q+nq,d,rfl,rfl,Nat.le_refl _,by omega,by omega,W3,CInv.start El.row (by omega) hlt A.out DD.out⟩
     case round =>
      clear W W3
      obtain ⟨kk,k2,q2,dk,rfl,rfl,h1,hle,hg2,W2,I2⟩:=hrel
      have hkk:=I2.out.lt
      have hds:=I2.out.size El.row hle
      have hHk:Holds El.enc wr g 0 dk:=by rw [W2.out];exact holds_putRow El.enc _ g 0 d dk (holds_ahead El.enc w q2 g 0 d HH.out) hds
      obtain ⟨kz,rfl⟩:∃ kz,k2=kz+1:=⟨k2 - 1,by omega⟩
      by_cases hlt2:kp+1+(kz+1)<d.size
      ·obtain ⟨cm,_⟩:=hHk (kp+1+(kz+1)) (by omega)
       obtain ⟨cp,_⟩:=hHk (kp+1+kz) (by omega)
       obtain ⟨ck,fk⟩:=hHk kk (by omega)
       rw [I2.out.read El.row hle (by omega) hlt2,Nat.zero_add] at cm
       rw [I2.out.read El.row hle (by omega) (by omega),Nat.zero_add] at cp
       rw [Nat.zero_add] at ck fk
       clear hHk
       have hcall:=Z8x (w:=w) (wr:=wr) (g:=g) (fun k hk=>by rw [W2.out];exact Z8w _ _ _ _ _ _ hk) d[kp+1+(kz+1)]! d[kp+1+kz]!
       have st:∀ a m w1,_:=fun a m w1=>run_store Tryz.prog w1 a (El.enc d[kp+1+(kz+1)]!) m (El.one _)
       obtain ⟨x,hx⟩:∃ x,El.enc d[kp+1+(kz+1)]! = x:=⟨_,rfl⟩
       have cl:=OneCell.cells (enc:=El.enc) El.one d[kp+1+(kz+1)]!
       rw [hx] at cm hcall st cl
       simp only [Value.cells] at cl
       have XE:Aside (El.enc d[kp+1+(kz+1)]! = x):=hx
       clear hx
       generalize El.enc d[kp+1+kz]! = y at cp hcall
       generalize El.enc dk[kk]! = old at ck
       have jz:(kz:Int)+1<((d.size - (kp+1):Nat):Int):=by omega
       have jz1:(kz:Int)<((d.size - (kp+1):Nat):Int):=by omega
       have hwz:IntKind.i64.wrap (kz:Int)=(kz:Int):=by rw [IntKind.wrap_i64];omega
       have q0:(0:Int)≤(kz:Int)+1:=by omega
       have r0:((kz:Int)+1).toNat=kz+1:=by omega
       have kkz:(kk:Int)<(d.size:Int):=by omega
       by_cases hdup2:El.row d[kp+1+(kz+1)]! = El.row d[kp+1+kz]!
       ·rw [decide_eq_true hdup2] at hcall
        have D2:Aside (El.row d[kp+1+(kz+1)]! = El.row d[kp+1+kz]!):=hdup2
        clear hdup2
        go_wp2_with fail
        go_quiet (refine Calls.quiet_of (hcall _))
        go_wp2
        go_roundg (d.size - (kp+1+(kz+1+1)))
        case measure=>omega
        case rel=>exact ⟨kk,kz+1+1,q2+nq,dk,rfl,by go_num,by omega,by omega,Nat.le_refl _,(show Aside _ from by show _=_;rw [W2.out,Zqw]),I2.out.skip El.row hlt2 D2.out⟩
       ·rw [decide_eq_false hdup2] at hcall
        have D2:Aside (¬ El.row d[kp+1+(kz+1)]! = El.row d[kp+1+kz]!):=hdup2
        clear hdup2
        go_wp2_with fail
        go_quiet (refine Calls.quiet_of (hcall _))
        go_wp2_with fail
        have W4:Aside (wr.drewN nq=putRow El.enc (Sort.ahead w (q2+nq)) g 0 dk):=by show _=_;rw [W2.out,Zqw]
        clear hcall cm cp ck fk
        generalize wr.drewN nq=wq at W4 ⊢
        go_roundg (d.size - (kp+1+(kz+1+1)))
        case measure=>omega
        case rel=>exact ⟨kk+1,kz+1+1,q2+nq,dk.setIfInBounds kk d[kp+1+(kz+1)]!,by go_num,by go_num,by omega,by omega,Nat.le_refl _,(show Aside _ from put_at (by omega) W4.out XE.out),I2.out.keep El.row hlt2 D2.out⟩
      ·have hend:kp+1+(kz+1)=d.size:=by omega
       have jz:¬ (kz:Int)+1<((d.size - (kp+1):Nat):Int):=by omega
       have kkz:(kk:Int)≤(d.size:Int):=by omega
       have hcl:∀ ty,(Builtin.clear_ #[34] ty #[.slice (some ⟨g,kk,none⟩) (d.size - kk) (cap - kk)]).run Tryz.prog wr=.ok (.tuple #[]) (wr.setCells g kk (List.replicate (d.size - kk) (.slice none 0 0))) :=
        fun ty=>Lib.run_clear_slice wr _ _ ty _ Tryz.underlying34 Tryz.zeroValue30 rfl rfl g kk _ _ (by omega) (fun j hj=>by have:=(hHk (kk+j) (by omega)).1;rw [Nat.zero_add] at this;rw [this];rfl) (fun j hj=>by have:=(hHk (kk+j) (by omega)).2;rw [Nat.zero_add] at this;exact this)
       clear hHk
       go_wp2
       go_ret
       have hI:=I2.out
       rw [hend] at hI
       have hlen:=hI.len
       rw [show d.toList.take d.size=d.toList from List.take_of_length_le (by simp)] at hlen
       exact ⟨by rw [hlen];rfl,q2,by rw [hlen];exact put_end El.row hI default W2.out⟩
    ·rw [decide_eq_false hdup] at hcall
     have DD:Aside (¬ El.row d[kp+1]! = El.row d[kp]!):=hdup
     clear hdup
     go_wp2_with fail
     go_quiet (refine Calls.quiet_of (hcall _))
     go_wp2
     go_roundg (d.size - (kp+1+1))
     case measure=>omega
     case rel=>exact ⟨kp+1+1,q+nq,by omega,by omega,Nat.le_refl _,by go_num,(show Aside _ from by show _=_;rw [W.out,Zqw]),nb_next El.row (by omega) hlt A.out DD.out⟩
   ·have hk2:k=d.size:=by omega
    have hltz:¬ (k:Int)<(d.size:Int):=by omega
    go_wp2
    go_ret
    obtain ⟨e1,e2⟩:=HS.out q (by have:=A.out;rw [hk2,show d.toList.take d.size=d.toList from List.take_of_length_le (by simp)] at this;exact this)
    exact ⟨by rw [e1];rfl,q,by rw [← e2];exact W.out⟩
end Go.Proofs.YtgnfoghkbpkgjaaGreat
namespace Go.Proofs.YtgnfoghkbpkgjaaGreat
open Go.RowKit Go.AM Go.Lib Go.Sort
theorem subN_rel {N:Par} {base:Nat} {ρ:Map} {w w':World} {el sz:Nat} {fr:Bool} (R:Rel N base ρ [.arr el sz fr []] w) {r:Root} (hr:ρ 0=some r) (hdom:∀ b,1≤b→ρ b=none) (hgr:w.grownBy w' none) :
  Rel N base (updM ρ 1 ⟨.slice none 0 0,[],[]⟩) [.dead,.arr el sz fr []] w' ∧
   Keeps ρ w (Free N ρ [.arr el sz fr []]) (updM ρ 1 ⟨.slice none 0 0,[],[]⟩) w' (Free N (updM ρ 1 ⟨.slice none 0 0,[],[]⟩) [.dead,.arr el sz fr []]) ∧
   ∀ g,g<w.heap.size→¬ N.a g→w'.heap[g]?=w.heap[g]?:=by
 have hb:gt [Blk.arr el sz fr []] 0=.arr el sz fr []:=by simp [gt]
 have hd:gt [Blk.arr el sz fr []] 0≠.dead:=by rw [hb];intro hc;cases hc
 obtain ⟨r1,h1,h2⟩:=R.blk 0 hd
 rw [hr] at h1
 cases h1
 rw [hb] at h2
 obtain ⟨hex,e2,xs,hel,ho,hsz,hlen,htr,hfree,hfr,how⟩:=h2
 have hup:upd [Blk.arr el sz fr []] (kill [0]++[(1,.arr el sz fr [])])=[.dead,.arr el sz fr []]:=by simp [upd,kill,stB]
 have hp:=put_rel R (n:=1) (ks:=[0]) (x:=.arr el sz fr []) (r:=⟨.slice none 0 0,[],[]⟩) (row:=none) (w':=w')
  (by intro r0 h0;rw [hdom 1 (Nat.le_refl _)] at h0;cases h0) hgr
  (by intro g' hg';cases hg') (by intro g' hg';cases hg')
  (fun hk=>⟨rfl,e2,[],hel,⟨by simp,.inl ⟨rfl,rfl⟩⟩,hsz,(by intro x hx;cases hx),.nil,(by intro x hx;cases hx),fun _=>⟨.nil,by intro x hx;cases hx⟩,fun _=>.nil⟩)
  (by intro _ x hx;cases hx)
 rw [hup] at hp
 exact hp
theorem heap_put {α:Type} [Inhabited α] (enc:α→Value) (w:World) (blk off n:Nat) (d:Array α) {k:Nat} (hne:k≠blk):(putRow enc (Sort.ahead w n) blk off d).heap[k]?=w.heap[k]?:=by
 show (w.heap.modify blk (onCells (putCells enc off d)))[k]?=_
 rw [Array.getElem?_modify,if_neg (Ne.symm hne)]
theorem Zbmy {α:Type} [Inhabited α] (enc:α→Value) (w:World) (blk off n:Nat) (d:Array α) {c:Array Value} {e:TypeId} {fz:Nat×Nat} (hg:w.heap[blk]?=some (.cells c e fz)):(putRow enc (Sort.ahead w n) blk off d).heap[blk]?=some (.cells (putCells enc off d c) e fz):=by
 show (w.heap.modify blk (onCells (putCells enc off d)))[blk]?=_
 rw [Array.getElem?_modify,if_pos rfl,hg]
 rfl
theorem Zbmz {fr:Bool} {rows:List (List Int)} (hlen:rows.length≤4096) (hr4:∀ r∈rows,r.length≤4) :
  Sound Tryz.prog 332 [.own 0,.fn 333 []] [.arr 30 1 fr (rows.map isc)] (.own 1) [.dead,.arr 30 1 fr ((cptR rows).map isc)]:=by
 refine ⟨by decide +kernel,?_⟩
 intro N base w ρ vs R hdom hv hz
 obtain ⟨l⟩:=vs
 simp only at hv
 cases hv with | cons q0 hv =>
 cases hv with | cons q1 hv =>
 cases hv
 cases q0 with | own hr h1 =>
 rename_i r
 cases q1 with | fn q1 =>
 rename_i c
 obtain ⟨c⟩:=c
 simp only at q1
 cases q1
 have hb:gt [Blk.arr 30 1 fr (rows.map isc)] 0=.arr 30 1 fr (rows.map isc):=by simp [gt]
 have hd0:gt [Blk.arr 30 1 fr (rows.map isc)] 0≠.dead:=by rw [hb];intro hc;cases hc
 obtain ⟨r2,e1,e2⟩:=R.blk 0 hd0
 rw [hr] at e1
 cases e1
 rw [hb] at e2
 obtain ⟨hex,e',xs,hel,ho,hsz,hlen1,htr,hfree,hfr,how⟩:=e2
 obtain ⟨hxl,ho⟩:=ho
 have hdom1:∀ b,1≤b→ρ b=none:=by intro b hb;exact hdom b (by simpa using hb)
 rcases ho with ⟨hrv,hn⟩ | ⟨g,cap,cur,hrv,hbg,hg,hcap,hcm,hcur,htake⟩
 ·have hn:rows=[]:=by simpa using hn
  subst hn
  rw [hrv]
  refine (cpt_nil w).mono ?_
  rintro e w' ⟨rfl,rfl⟩
  obtain ⟨p1,p2,p3⟩:=subN_rel R hr hdom1 (w':=w') ⟨rfl,rfl,rfl,Nat.le_refl _,fun _ _ _=>rfl⟩
  refine ⟨_,_,rfl,Below.refl _ _,p1,.own (b:=1) (r:=⟨.slice none 0 0,[],[]⟩) (by simp [updM]) rfl,fun b hb=>?_,by simp,p3,fun k hk hzz=>p2.free k hk (hz k hzz),fun b r0 hb h0=>p2.root b r0 h0⟩
  simp only [updM]
  rw [if_neg (by simp at hb;omega)]
  exact hdom1 b (by simp at hb;omega)
 obtain ⟨zs,hzx,hch⟩:=Ch.of htr
 obtain ⟨l,p1,p2,p3,p4⟩:=hch.zip
 have hblk:blkOf r.v=some g:=by rw [hrv];rfl
 have hfg:∀ x∈r.fp,x≠g:=fun x hx e=>by
  subst e
  exact (hfree x hx).2 0 r hr hd0 (.inl hblk)
 have hgs:g<w.heap.size:=(Array.getElem?_eq_some_iff.1 hg).1
 obtain ⟨L,hL⟩:=El.list (w:=w) (g:=g) l (by
  intro p hp
  have hm:p.1∈rows.map isc:=by rw [← p1];exact List.mem_map.2 ⟨p,hp,rfl⟩
  obtain ⟨r0,hr0,e0⟩:=List.mem_map.1 hm
  have ht:=p4 p hp
  rw [← e0] at ht
  obtain ⟨q,hq⟩:=el_of (g:=g) ht (fun x hx=>hfg x (by rw [← p3];exact List.mem_flatten.2 ⟨p.2.2,List.mem_map.2 ⟨p,hp,rfl⟩,hx⟩)) (hr4 r0 hr0)
  exact ⟨q,by rw [hq,e0]⟩)
 subst hL
 have hrows:L.map El.row=rows:=by
  have:(L.map El.row).map isc=rows.map isc:=by rw [← p1];simp [El.t3]
  exact (List.map_inj_right (fun a b h=>Zxu h)).1 this
 have hLl:L.length=rows.length:=by rw [← hrows,List.length_map]
 have henc:L.map El.enc=cur.toList.take ((rows.map isc).length*1):=by
  rw [htake,← hzx,← p2,Zqu]
 have hcell:Holds El.enc w g 0 L.toArray:=by
  intro j hj
  have hj':j<L.length:=by simpa using hj
  have h2:cur[j]?=some (L[j].enc):=by
   have h3:(cur.toList.take ((rows.map isc).length*1))[j]?=some (L[j].enc):=by rw [← henc,List.getElem?_map,List.getElem?_eq_getElem hj'];rfl
   rw [List.getElem?_take,if_pos (by simp;omega)] at h3
   simpa using h3
  refine ⟨?_,?_⟩
  ·unfold World.cell?
   rw [hg]
   simp [h2,hj']
  ·simp [World.frozen?,hg]
 have hcall:=cpt_walk (w:=w) (g:=g) cap L.toArray hcell (by simp;omega) (by simp at hcap ⊢;omega)
 rw [hrv,show (rows.map isc).length=L.toArray.size by simp [hLl]]
 refine hcall.mono ?_
 rintro e w' ⟨rfl,q,rfl⟩
 have hsub:=nb_sub El.row L
 have hnl:(nb El.row L).length≤L.length:=hsub.length_le
 have hgr:w.grownBy (putRow El.enc (Sort.ahead w q) g 0 (nb El.row L++List.replicate (L.length - (nb El.row L).length) default).toArray) (some g) :=
  ⟨rfl,rfl,rfl,by show w.heap.size≤(w.heap.modify g _).size;simp,fun k hk hne=>heap_put _ _ _ _ _ _ (by intro e;exact hne (by rw [e]))⟩
 obtain ⟨P1,P2,P3⟩:=sub_rel R hr hdom1 hrv hg p1 (by rw [p2,hzx,htake]) p3 p4 (hsub.map El.t3) (zr:=List.replicate (L.length - (nb El.row L).length) (El.enc (default:El w g))) (by simp [hLl]) ⟨_,Zbmy _ _ _ _ _ _ hg,by
  rw [Z8t _ _ _ (by simp at hcap ⊢;omega),Zqu]
  simp only [List.map_append,List.map_replicate,List.size_toArray,List.length_append,List.length_replicate,List.length_map]
  rw [show (nb El.row L).length+(L.length - (nb El.row L).length)=rows.length*1 by omega]⟩ hgr
 rw [Z8u,nb_cpt,hrows,List.length_map] at P1 P2
 have hln:(nb El.row L.toArray.toList).length=(nb El.row L).length:=rfl
 refine ⟨_,_,rfl,⟨hgr.os,hgr.tape,hgr.output,hgr.size,fun k hk=>hgr.block k (Nat.lt_of_lt_of_le hk R.hb) (by intro e;cases e;omega)⟩,P1,.own (b:=1) (r:=⟨.slice (some ⟨g,0,none⟩) (nb El.row L).length cap,(((nb El.row L).map El.t3).map (·.2.2)).flatten,[]⟩) (by unfold updM;rw [if_pos rfl]) rfl,fun b hb=>?_,by simp,P3,fun k hk hzz=>P2.free k hk (hz k hzz),fun b r0 hb h0=>P2.root b r0 h0⟩
 simp only [updM]
 rw [if_neg (by simp at hb;omega)]
 exact hdom1 b (by simp at hb;omega)
end Go.Proofs.YtgnfoghkbpkgjaaGreat
namespace Go.Proofs.YtgnfoghkbpkgjaaGreat
open Go.RowKit Go.Lib
theorem mk1 (w:World):(Instr.makeSlice 30 (.int .i64 1) (.int .i64 1)).run Tryz.prog w=.ok (.slice (some ⟨w.heap.size,0,none⟩) 1 1) (w.alloc (.cells #[.int .i64 0] 3)):=by kernel_rfl
theorem u30:Tryz.prog.underlying 30=some (.slice 3):=by kernel_rfl
theorem i3:(Tryz.prog.info? 3).map (·.size)=some 1:=by kernel_rfl
theorem Z8y (w:World) (c c':Array Value) (t:TypeId):(w.alloc (.cells c t)).setRow w.heap.size c'=w.alloc (.cells c' t):=by
 unfold World.setRow World.alloc
 congr 1
 apply Array.ext_getElem?
 intro i
 rw [Array.getElem?_modify,Array.getElem?_push,Array.getElem?_push]
 by_cases e:i=w.heap.size
 ·rw [if_pos e.symm,if_pos e,if_pos e];rfl
 ·rw [if_neg (Ne.symm e),if_neg e,if_neg e]
theorem k0:IntKind.u64.wrap (IntKind.u64.wrap (IntKind.u64.wrap (IntKind.u64.wrap (bits BinOp.and IntKind.u64 1 4294967295*bits BinOp.and IntKind.u64 1 4294967295) / 4294967296) / 4294967296)+IntKind.u64.wrap (bits BinOp.and IntKind.u64 (IntKind.u64.wrap (IntKind.u64.wrap (bits BinOp.and IntKind.u64 1 4294967295*bits BinOp.and IntKind.u64 1 4294967295) / 4294967296)) 4294967295) / 4294967296)=0:=by decide
theorem Zqx (w:World) (g off cap n:Nat) (x:Value) (hx:x.oneCell'=true) (hc:w.cell? ⟨g,off,none⟩=some x) (z:Array Value) (hz:z.size=n+1) (ty:TypeId) :
  (Builtin.copy_ #[30,30] ty #[.slice (some ⟨w.heap.size,0,none⟩) (n+1) (n+1),.slice (some ⟨g,off,none⟩) 1 cap]).run Tryz.prog (w.alloc (.cells z 3))=.ok (goInt 1) (w.alloc (.cells (x::z.toList.drop 1).toArray 3)):=by
 have hg:g<w.heap.size:=by
  rcases Nat.lt_or_ge g w.heap.size with h' | h'
  ·exact h'
  ·simp [World.cell?,Array.getElem?_eq_none h'] at hc
 have:=run_copy_row Tryz.prog (w.alloc (.cells z 3)) 30 30 ty 3 w.heap.size 0 (n+1) (n+1) ⟨g,off,none⟩ 1 cap z 3 [x] u30 i3 (by show (w.heap.push _)[w.heap.size]?=_;rw [Array.getElem?_push,if_pos rfl]) (by show 1=Nat.min 1 (n+1);simp only [Nat.min_def];rw [if_pos (by omega)]) (by
  intro j v hj
  match j with
  | 0 =>
   simp at hj
   subst hj
   rw [← hc]
   have he:(w.alloc (.cells z 3)).heap[g]?=w.heap[g]?:=by show (w.heap.push _)[g]?=_;rw [Array.getElem?_push,if_neg (Nat.ne_of_lt hg)]
   show (w.alloc (.cells z 3)).cell? ⟨g,off+0,none⟩=_
   unfold World.cell?
   rw [he];rfl
  | j+1=>simp at hj) (by simp;omega) (by simpa using hx)
 rw [Z8y] at this
 simpa using this
theorem Zbm0 (g off cap:Nat) (w:World) (hc:w.cell? ⟨g,off,none⟩=some (.int .i64 (-1))) :
  Calls Tryz.prog 369 #[.slice (some ⟨g,off,none⟩) 1 cap,.int .i64 1] w fun e w'=>e=.returned (.slice (some ⟨w.heap.size,0,none⟩) 1 1)∧∃ q,w'=((w.alloc (.cells #[.int .i64 (-1)] 3)).drewN q):=by
 have mixed:Tryz.prog.follows Departure.mixedOrders=true:=by kernel_rfl
 have hm:=mk1 w
 have hk:=k0
 have hcp:=Zqx w g off cap 0 _ rfl hc #[.int .i64 0] rfl
 simp at hcp
 go_enter Tryz.func369,Tryz.ntmps369
 go_wp2
 refine wp_loop_rounds 1 ?_
 rw [rounds_succ]
 go_wp2
 go_ret
 exact ⟨rfl,0,rfl⟩
theorem Zne (w:World) (k m c1 c2 q:Nat) (z cs:Array Value) (h1:∀ v∈cs.toList,v.oneCell'=true) (hj:cs.size=Nat.min k m) (hs:∀ (i:Nat) (v:Value),cs.toList[i]?=some v→z[i]?=some v) (hfit:k+cs.size≤z.size) (ty:TypeId) :
  (Builtin.copy_ #[30,30] ty #[.slice (some ⟨w.heap.size,k,none⟩) m c1,.slice (some ⟨w.heap.size,0,none⟩) k c2]).run Tryz.prog ((w.alloc (.cells z 3)).drewN q)=.ok (goInt cs.size) ((w.alloc (.cells (z.toList.take k++cs.toList++z.toList.drop (k+cs.size)).toArray 3)).drewN q):=by
 have hg:((w.alloc (.cells z 3)).drewN q).heap[w.heap.size]?=some (.cells z 3 (0,0)):=by show (w.heap.push _)[w.heap.size]?=_;rw [Array.getElem?_push,if_pos rfl]
 have:=run_copy_row Tryz.prog ((w.alloc (.cells z 3)).drewN q) 30 30 ty 3 w.heap.size k m c1 ⟨w.heap.size,0,none⟩ k c2 z 3 cs.toList u30 i3 hg (by rw [Array.length_toList];exact hj) (by
  intro j v hj
  have h:=hs j v hj
  have ha:(⟨w.heap.size,0,none⟩:Addr).add j=⟨w.heap.size,j,none⟩:=by
   unfold Addr.add
   by_cases e:j=0
   ·rw [if_pos e,e]
   ·rw [if_neg e,Nat.zero_add]
  rw [ha]
  unfold World.cell?
  rw [hg]
  exact h) (by rw [Array.length_toList];exact hfit) h1
 rw [show ((w.alloc (.cells z 3)).drewN q).setRow w.heap.size (z.toList.take k++cs.toList++z.toList.drop (k+cs.toList.length)).toArray=((w.alloc (.cells z 3)).setRow w.heap.size (z.toList.take k++cs.toList++z.toList.drop (k+cs.toList.length)).toArray).drewN q from rfl,Z8y,Array.length_toList] at this
 exact this
theorem mk2 (w:World):(Instr.makeSlice 30 (.int .i64 2) (.int .i64 2)).run Tryz.prog w=.ok (.slice (some ⟨w.heap.size,0,none⟩) 2 2) (w.alloc (.cells #[.int .i64 0,.int .i64 0] 3)):=by kernel_rfl
theorem Zbm1 (g off cap:Nat) (w:World) (hc:w.cell? ⟨g,off,none⟩=some (.int .i64 (-1))) :
  Calls Tryz.prog 369 #[.slice (some ⟨g,off,none⟩) 1 cap,.int .i64 2] w fun e w'=>e=.returned (.slice (some ⟨w.heap.size,0,none⟩) 2 2)∧∃ q,w'=((w.alloc (.cells #[.int .i64 (-1),.int .i64 (-1)] 3)).drewN q):=by
 have mixed:Tryz.prog.follows Departure.mixedOrders=true:=by kernel_rfl
 have hm:=mk2 w
 have hk:=k0
 have hcp:=Zqx w g off cap 1 _ rfl hc #[.int .i64 0,.int .i64 0] rfl
 have hc1:=fun c1 c2=>Zne w 1 1 c1 c2 1 #[.int .i64 (-1),.int .i64 0] #[.int .i64 (-1)] (by simp [Value.oneCell']) rfl (by intro i v h;match i with | 0=>simpa using h | i+1=>simp at h) (by decide)
 simp at hcp hc1
 have hd:∀ W:World,W.drewN 1=W.drew:=fun _=>rfl
 simp only [hd] at hc1
 clear hd
 go_enter Tryz.func369,Tryz.ntmps369
 go_wp2
 refine wp_loop_rounds 2 ?_
 rw [rounds_succ]
 go_wp2_with fail
 go_region_o
 go_wp2
 rw [rounds_succ]
 go_wp2
 go_ret
 exact ⟨rfl,1,rfl⟩
theorem mk3 (w:World):(Instr.makeSlice 30 (.int .i64 3) (.int .i64 3)).run Tryz.prog w=.ok (.slice (some ⟨w.heap.size,0,none⟩) 3 3) (w.alloc (.cells #[.int .i64 0,.int .i64 0,.int .i64 0] 3)):=by kernel_rfl
theorem Zbm2 (g off cap:Nat) (w:World) (hc:w.cell? ⟨g,off,none⟩=some (.int .i64 (-1))) :
  Calls Tryz.prog 369 #[.slice (some ⟨g,off,none⟩) 1 cap,.int .i64 3] w fun e w'=>e=.returned (.slice (some ⟨w.heap.size,0,none⟩) 3 3)∧∃ q,w'=((w.alloc (.cells #[.int .i64 (-1),.int .i64 (-1),.int .i64 (-1)] 3)).drewN q):=by
 have mixed:Tryz.prog.follows Departure.mixedOrders=true:=by kernel_rfl
 have hm:=mk3 w
 have hk:=k0
 have hcp:=Zqx w g off cap 2 _ rfl hc #[.int .i64 0,.int .i64 0,.int .i64 0] rfl
 have hc1:=fun c1 c2=>Zne w 1 2 c1 c2 1 #[.int .i64 (-1),.int .i64 0,.int .i64 0] #[.int .i64 (-1)] (by simp [Value.oneCell']) rfl (by intro i v h;match i with | 0=>simpa using h | i+1=>simp at h) (by decide)
 have hc2:=fun c1 c2=>Zne w 2 1 c1 c2 2 #[.int .i64 (-1),.int .i64 (-1),.int .i64 0] #[.int .i64 (-1)] (by simp [Value.oneCell']) rfl (by intro i v h;match i with | 0=>simpa using h | i+1=>simp at h) (by decide)
 simp at hcp hc1 hc2
 have hd:∀ W:World,W.drewN 1=W.drew:=fun _=>rfl
 have hd2:∀ W:World,W.drewN 2=W.drew.drew:=fun _=>rfl
 simp only [hd] at hc1
 simp only [hd2] at hc2
 clear hd hd2
 go_enter Tryz.func369,Tryz.ntmps369
 go_wp2
 refine wp_loop_rounds 3 ?_
 rw [rounds_succ]
 go_wp2_with fail
 go_region_o
 go_wp2
 rw [rounds_succ]
 go_wp2_with fail
 go_region_o
 go_wp2
 rw [rounds_succ]
 go_wp2
 go_ret
 exact ⟨rfl,2,rfl⟩
theorem mk4 (w:World):(Instr.makeSlice 30 (.int .i64 4) (.int .i64 4)).run Tryz.prog w=.ok (.slice (some ⟨w.heap.size,0,none⟩) 4 4) (w.alloc (.cells #[.int .i64 0,.int .i64 0,.int .i64 0,.int .i64 0] 3)):=by kernel_rfl
theorem Zbm3 (g off cap:Nat) (w:World) (hc:w.cell? ⟨g,off,none⟩=some (.int .i64 (-1))) :
  Calls Tryz.prog 369 #[.slice (some ⟨g,off,none⟩) 1 cap,.int .i64 4] w fun e w'=>e=.returned (.slice (some ⟨w.heap.size,0,none⟩) 4 4)∧∃ q,w'=((w.alloc (.cells #[.int .i64 (-1),.int .i64 (-1),.int .i64 (-1),.int .i64 (-1)] 3)).drewN q):=by
 have mixed:Tryz.prog.follows Departure.mixedOrders=true:=by kernel_rfl
 have hm:=mk4 w
 have hk:=k0
 have hcp:=Zqx w g off cap 3 _ rfl hc #[.int .i64 0,.int .i64 0,.int .i64 0,.int .i64 0] rfl
 have hc1:=fun c1 c2=>Zne w 1 3 c1 c2 1 #[.int .i64 (-1),.int .i64 0,.int .i64 0,.int .i64 0] #[.int .i64 (-1)] (by simp [Value.oneCell']) rfl (by intro i v h;match i with | 0=>simpa using h | i+1=>simp at h) (by decide)
 have hc2:=fun c1 c2=>Zne w 2 2 c1 c2 2 #[.int .i64 (-1),.int .i64 (-1),.int .i64 0,.int .i64 0] #[.int .i64 (-1),.int .i64 (-1)] (by simp [Value.oneCell']) rfl (by intro i v h;match i with | 0=>simpa using h | 1=>simpa using h | i+2=>simp at h) (by decide)
 simp at hcp hc1 hc2
 have hd:∀ W:World,W.drewN 1=W.drew:=fun _=>rfl
 have hd2:∀ W:World,W.drewN 2=W.drew.drew:=fun _=>rfl
 simp only [hd] at hc1
 simp only [hd2] at hc2
 clear hd hd2
 go_enter Tryz.func369,Tryz.ntmps369
 go_wp2
 refine wp_loop_rounds 3 ?_
 rw [rounds_succ]
 go_wp2_with fail
 go_region_o
 go_wp2
 rw [rounds_succ]
 go_wp2_with fail
 go_region_o
 go_wp2
 rw [rounds_succ]
 go_wp2
 go_ret
 exact ⟨rfl,2,rfl⟩
end Go.Proofs.YtgnfoghkbpkgjaaGreat
namespace Go.Proofs.YtgnfoghkbpkgjaaGreat
open Go.RowKit Go.AM Go.Lib
theorem Zqy (n:Nat) (h1:1≤n) (h4:n≤4) (hw:∀ (g off cap:Nat) (w:World),w.cell? ⟨g,off,none⟩=some (.int .i64 (-1))→Calls Tryz.prog 369 #[.slice (some ⟨g,off,none⟩) 1 cap,.int .i64 (n:Int)] w fun e w'=>e=.returned (.slice (some ⟨w.heap.size,0,none⟩) n n)∧∃ q,w'=((w.alloc (.cells (List.replicate n (Value.int .i64 (-1))).toArray 3)).drewN q)) :
  Sound Tryz.prog 369 [L 1 ([(-1)].map ic),I n] [] (.own 0) [.arr 3 1 true ((List.replicate n (-1:Int)).map ic)]:=by
 refine ⟨by decide +kernel,?_⟩
 intro N base w ρ vs R hdom hv hz
 obtain ⟨l⟩:=vs
 simp only at hv
 cases hv with | cons q0 hv =>
 cases hv with | cons q1 hv =>
 cases hv
 cases q0 with | t q0 _ =>
 cases q1 with | t q1 _ =>
 cases q1
 obtain ⟨a,c,rfl,hc⟩:=Znd (W:=w) (r:=[-1]) q0 (fun _ _=>rfl)
 obtain ⟨g,off,rfl,hcell⟩:=hc 0 (by simp)
 refine (hw g off c w hcell).mono ?_
 rintro e w' ⟨rfl,q,rfl⟩
 have hgr:w.grownBy ((w.alloc (.cells (List.replicate n (Value.int .i64 (-1))).toArray 3)).drewN q) none:=⟨rfl,rfl,rfl,by show w.heap.size≤(w.heap.push _).size;rw [Array.size_push];omega,fun k hk _=>by show (w.heap.push _)[k]?=_;rw [Array.getElem?_push,if_neg (by omega)]⟩
 have hup:upd [] (kill []++[(0,Blk.arr 3 1 true ((List.replicate n (-1:Int)).map ic))])=[Blk.arr 3 1 true ((List.replicate n (-1:Int)).map ic)]:=by simp [upd,kill,stB]
 have htrs:∀ (W:World) (k:Nat),TRs W ((List.replicate k (-1:Int)).map ic).flatten (List.replicate k (Value.int .i64 (-1))) []:=by
  intro W k
  induction k with
  | zero=>exact .nil
  | succ k ih=>exact .cons (fp:=[]) (.int _ _) ih
 have hp:=put_rel R (n:=0) (ks:=[]) (x:=.arr 3 1 true ((List.replicate n (-1:Int)).map ic)) (r:=⟨.slice (some ⟨w.heap.size,0,none⟩) n n,[],[]⟩) (row:=none) (w':=(w.alloc (.cells (List.replicate n (Value.int .i64 (-1))).toArray 3)).drewN q)
  (by intro r0 h0;rw [hdom 0 (Nat.le_refl _)] at h0;cases h0) hgr (by intro g' hg';cases hg') (by intro g' hg';cases hg';exact .inl (Nat.le_refl _))
  (fun hk=>⟨rfl,3,List.replicate n (Value.int .i64 (-1)),.inr rfl,⟨by simp,.inr ⟨w.heap.size,n,(List.replicate n (Value.int .i64 (-1))).toArray,by simp,R.hb,by show (w.heap.push _)[w.heap.size]?=_;rw [Array.getElem?_push,if_pos rfl],by simp,by unfold maxLen;omega,by simp,by simp⟩⟩,by decide,by simp [ic],htrs _ n,by simp,fun _=>⟨List.nodup_nil,by simp⟩,fun _=>OWs.easy (by simp [ic]) (by simp [ic,AM.easy])⟩)
  (by intro _ x hx;cases hx)
 rw [hup] at hp
 obtain ⟨p1,p2,p3⟩:=hp
 refine ⟨_,_,rfl,⟨hgr.os,hgr.tape,hgr.output,hgr.size,fun k hk=>hgr.block k (Nat.lt_of_lt_of_le hk R.hb) (by simp)⟩,p1,.own (b:=0) (r:=⟨.slice (some ⟨w.heap.size,0,none⟩) n n,[],[]⟩) (by simp [updM]) rfl,fun b hb=>?_,by simp,p3,fun k hk hzz=>p2.free k hk (hz k hzz),fun b r0 hb=>by simp at hb⟩
 simp only [updM]
 rw [if_neg (by simp at hb;omega)]
 exact hdom b (by simp)
theorem Zbm4 (n:Int) (h1:1≤n) (h4:n≤4):Sound Tryz.prog 369 [L 1 ([(-1)].map ic),I n] [] (.own 0) [.arr 3 1 true ((List.replicate n.toNat (-1:Int)).map ic)]:=by
 have:n=1∨n=2∨n=3∨n=4:=by omega
 rcases this with rfl | rfl | rfl | rfl
 ·exact Zqy 1 (by omega) (by omega) fun g off cap w h=>Zbm0 g off cap w h
 ·exact Zqy 2 (by omega) (by omega) fun g off cap w h=>Zbm1 g off cap w h
 ·exact Zqy 3 (by omega) (by omega) fun g off cap w h=>Zbm2 g off cap w h
 ·exact Zqy 4 (by omega) (by omega) fun g off cap w h=>Zbm3 g off cap w h
end Go.Proofs.YtgnfoghkbpkgjaaGreat
namespace Go.Proofs.YtgnfoghkbpkgjaaGreat
open Go.RowKit Go.AM Go.Lib Go.Sort Go.Shelf
def Zbm5:Go.Shelf.Ren:=⟨fun | 6=>330 | 15=>386 | 14=>393 | 28=>417 | 29=>418 | 20=>419 | 21=>421 | 22=>422 | 23=>423 | 24=>424 | 25=>425 | 26=>426 | 27=>427 | 46=>440 | 47=>434 | 48=>435 | 49=>441 | 50=>442 | 57=>445 | n=>n,fun | 22=>34 | 24=>30 | 25=>230 | 3=>3 | 39=>382 | 0=>0 | 53=>407 | 55=>409 | 4=>4 | 46=>401 | 45=>400 | 50=>157 | 5=>5 | 9=>9 | 66=>421 | 70=>389 | 76=>428 | 77=>429 | n=>n,fun | n=>n⟩
theorem sortR:Go.Proofs.SlLaysF.n6 Tryz.prog Zbm5:={ mixed:=by kernel_rfl,f6:=⟨Tryz.f330.name,by decide,Tryz.func330.trans (congrArg some (by kernel_rfl))⟩,f14:=⟨Tryz.f393.name,by decide,Tryz.func393.trans (congrArg some (by kernel_rfl))⟩,f15:=Tryz.func386.trans (congrArg some (by kernel_rfl)),f20:=⟨Tryz.f419.name,by decide,Tryz.func419.trans (congrArg some (by kernel_rfl))⟩,f21:=⟨Tryz.f421.name,by decide,Tryz.func421.trans (congrArg some (by kernel_rfl))⟩,f22:=⟨Tryz.f422.name,by decide,Tryz.func422.trans (congrArg some (by kernel_rfl))⟩,f23:=⟨Tryz.f423.name,by decide,Tryz.func423.trans (congrArg some (by kernel_rfl))⟩,f24:=⟨Tryz.f424.name,by decide,Tryz.func424.trans (congrArg some (by kernel_rfl))⟩,f25:=⟨Tryz.f425.name,by decide,Tryz.func425.trans (congrArg some (by kernel_rfl))⟩,f26:=⟨Tryz.f426.name,by decide,Tryz.func426.trans (congrArg some (by kernel_rfl))⟩,f27:=⟨Tryz.f427.name,by decide,Tryz.func427.trans (congrArg some (by kernel_rfl))⟩,f28:=Tryz.func417.trans (congrArg some (by kernel_rfl)),f29:=Tryz.func418.trans (congrArg some (by kernel_rfl)),f46:=⟨Tryz.f440.name,by decide,Tryz.func440.trans (congrArg some (by kernel_rfl))⟩,f47:=Tryz.func434.trans (congrArg some (by kernel_rfl)),f48:=Tryz.func435.trans (congrArg some (by kernel_rfl)),f49:=⟨Tryz.f441.name,by decide,Tryz.func441.trans (congrArg some (by kernel_rfl))⟩,f50:=⟨Tryz.f442.name,by decide,Tryz.func442.trans (congrArg some (by kernel_rfl))⟩,f57:=⟨Tryz.f445.name,by decide,Tryz.func445.trans (congrArg some (by kernel_rfl))⟩,t0:=Tryz.underlying0,a0:=Tryz.isAgg0,z0:=Tryz.sizeOf0,v0:=Tryz.zeroValue0,t3:=Tryz.underlying3,a3:=Tryz.isAgg3,z3:=Tryz.sizeOf3,v3:=Tryz.zeroValue3,t4:=Tryz.underlying4,a4:=Tryz.isAgg4,z4:=Tryz.sizeOf4,v4:=Tryz.zeroValue4,t5:=Tryz.underlying5,a5:=Tryz.isAgg5,z5:=Tryz.sizeOf5,v5:=Tryz.zeroValue5,t9:=Tryz.underlying9,a9:=Tryz.isAgg9,z9:=Tryz.sizeOf9,v9:=Tryz.zeroValue9,t22:=Tryz.underlying34,a22:=Tryz.isAgg34,z22:=Tryz.sizeOf34,v22:=Tryz.zeroValue34,a24:=Tryz.isAgg30,z24:=Tryz.sizeOf30,t25:=Tryz.underlying230,a25:=Tryz.isAgg230,z25:=Tryz.sizeOf230,v25:=Tryz.zeroValue230,t39:=Tryz.underlying382,a39:=Tryz.isAgg382,z39:=Tryz.sizeOf382,v39:=Tryz.zeroValue382,t45:=Tryz.underlying400,a45:=Tryz.isAgg400,z45:=Tryz.sizeOf400,v45:=Tryz.zeroValue400,t46:=Tryz.underlying401,a46:=Tryz.isAgg401,z46:=Tryz.sizeOf401,v46:=Tryz.zeroValue401,t50:=Tryz.underlying157,a50:=Tryz.isAgg157,z50:=Tryz.sizeOf157,v50:=Tryz.zeroValue157,t53:=Tryz.underlying407,a53:=Tryz.isAgg407,z53:=Tryz.sizeOf407,v53:=Tryz.zeroValue407,t55:=Tryz.underlying409,a55:=Tryz.isAgg409,z55:=Tryz.sizeOf409,v55:=Tryz.zeroValue409,t66:=Tryz.underlying421,a66:=Tryz.isAgg421,z66:=Tryz.sizeOf421,v66:=Tryz.zeroValue421,t70:=Tryz.underlying389,a70:=Tryz.isAgg389,z70:=Tryz.sizeOf389,v70:=Tryz.zeroValue389,t76:=Tryz.underlying428,a76:=Tryz.isAgg428,z76:=Tryz.sizeOf428,v76:=Tryz.zeroValue428,t77:=Tryz.underlying429,a77:=Tryz.isAgg429,z77:=Tryz.sizeOf429,v77:=Tryz.zeroValue429 }
theorem kitSort:Z8r:=by
 intro α _ enc h1 cf hO blk off cap d w hcmp hH hblk hsz
 have eg:∀ args w,(callFunc 331 args).run Tryz.prog w=.ok (.enter 331 args) w:=enters_of Tryz.func331 (by kernel_rfl) rfl
 exact Any.slices_SortFunc sortR enc h1 cf hO 331 #[] blk off cap d w eg hcmp hH hblk hsz
theorem kitSort0:Z8s:=fun p cap w=>AnyF.slices_SortFunc_none { sortR with } p cap _ w
theorem Zbm6 {a b:List (List Int)} (h:a.map isc=b.map isc):a=b:=(List.map_inj_right (fun _ _ h=>Zxu h)).1 h
theorem Z8z {rows:List (List Int)} (h1:rows.length≤4096) (h2:∀ r∈rows,r.length≤4) (k:List (List Int)→AV×List Blk):extS (rows.map isc) k=some (k rows):=by
 have h:∃ r,Zyq (rows.map isc) r:=⟨rows,rfl,h1,h2⟩
 unfold extS
 rw [dif_pos h,Zbm6 h.choose_spec.1.symm]
theorem Zbm7 (f:Nat) (xs:List AV) (h0:List Blk) (r:AV) (hr:List Blk) (h:ext f xs h0=some (r,hr)):Sound Tryz.prog f xs h0 r hr:=by
 unfold ext at h
 split at h
 ·split at h
  ·subst f
   unfold extS at h
   split at h
   ·rename_i hc
    obtain ⟨h1,h2,h3⟩:=hc.choose_spec
    generalize hc.choose=rows at h h1 h2 h3
    subst h1
    cases h
    exact Zbmx kitSort kitSort0 h2 h3
   ·cases h
  ·cases h
 ·split at h
  ·subst f
   unfold extS at h
   split at h
   ·rename_i hc
    obtain ⟨h1,h2,h3⟩:=hc.choose_spec
    generalize hc.choose=rows at h h1 h2 h3
    subst h1
    cases h
    exact Zbmz h2 h3
   ·cases h
  ·cases h
 ·split at h
  ·rename_i hc
   obtain ⟨rfl,h1,h2⟩:=hc
   cases h
   exact Zbm4 _ h1 h2
  ·cases h
 ·cases h
theorem sound {f:Nat} {xs:List AV} {h0:List Blk} {r:AV} {hr:List Blk} (h:C f xs h0=some (r,hr)):Sound Tryz.prog f xs h0 r hr:=callC_sound tbl_ok Zbm7 h
theorem t330:tbl 330=none:=by kernel_rfl
theorem t332:tbl 332=none:=by kernel_rfl
theorem t369:tbl 369=none:=by kernel_rfl
theorem c_sort {fr:Bool} {rows:List (List Int)} (h1:rows.length≤4096) (h2:∀ r∈rows,r.length≤4):C 330 [.own 0,.fn 331 []] [.arr 30 1 fr (rows.map isc)]=some (.tup [],[.arr 30 1 fr ((srtR rows).map isc)]) :=
 callC_ext t330 (by simp only [ext,if_pos];exact Z8z h1 h2 _)
theorem c_cpt {fr:Bool} {rows:List (List Int)} (h1:rows.length≤4096) (h2:∀ r∈rows,r.length≤4):C 332 [.own 0,.fn 333 []] [.arr 30 1 fr (rows.map isc)]=some (.own 1,[.dead,.arr 30 1 fr ((cptR rows).map isc)]) :=
 callC_ext t332 (by simp only [ext,if_pos];exact Z8z h1 h2 _)
theorem c_rep {n:Int} (h1:1≤n) (h4:n≤4):C 369 [L 1 ([(-1)].map ic),I n] []=some (.own 0,[.arr 3 1 true ((List.replicate n.toNat (-1:Int)).map ic)]) :=
 callC_ext t369 (by show (if (369:Nat)=369∧1≤n∧n≤4 then _ else _)=_;rw [if_pos ⟨rfl,h1,h4⟩])
theorem hSort:HSort:=by
 intro xs h1 h2
 have p:=Z8o xs
 have l1:(srtR xs).length=xs.length:=p.length_eq
 have l2:=Z8q (srtR xs)
 have h3:∀ r∈srtR xs,r.length≤4:=fun r hr=>h2 r (p.mem_iff.1 hr)
 refine ⟨cptR (srtR xs),⟨?_,?_⟩,Zxs _ (Z8p xs),fun y=>(Zxr _ y).trans p.mem_iff,by omega⟩
 ·exact Zbgt _ _ ⟨_,Z6j xs h2 (by omega),_,c_sort h1 h2,_,c_cpt (by omega) h3,rfl⟩
 ·intro e
  subst e
  exact Zbgs _ ⟨[],Zbgr _ (Zbgq _ _ _ _ (by rw [if_neg (by omega)])),_,c_sort (rows:=[]) (by simp) (by simp),_,c_cpt (rows:=srtR []) (by simp [srtR]) (by simp [srtR]),rfl⟩
theorem hRep:HRep:=fun n h1 h4=>c_rep h1 h4
open Classical in
noncomputable def oraP (m:Zd) (d:Zi) (q:Zc):Option (List Zb):=if qFor d q=true∧Zbb q.Ze q.Atoms (Zu q.Ze q.Atoms)=true∧Zch m then some (opt m q (Zds (locT d q))).Plan.Steps else none
theorem opt_len {m:Zd} {q:Zc} {sz:List Int} (bb:Base m q sz) (hc:Zbb q.Ze q.Atoms (Zu q.Ze q.Atoms)=true):(opt m q sz).Plan.Steps.length≤1000 :=
 Zqq bb (Nat.le_refl _) _ (List.mem_filter.1 (Zqm (Zxm bb hc).ne)).1
theorem oraP_len {m:Zd} (hm:LeM m) {d:Zi} (hd:LeD d) {q:Zc} (hq:LeQ q) {s:List Zb} (h:oraP m d q=some s):s.length≤1000:=by
 unfold oraP at h
 split at h
 ·rename_i h1
  cases h
  have hf':=h1.1
  unfold qFor at hf'
  simp only [Bool.and_eq_true,List.all_eq_true] at hf'
  obtain ⟨l1,l2⟩:=Zxp hSort hRep hd hq h1.1
  exact opt_len (Zxn hm h1.2.2 hq hf'.1 l1 l2) h1.2.1
 ·cases h
def opR:Option (List Zb)→AV×List Blk
 | none=>(.tup [.agg [.t .nil],Bo false],[])
 | some s=>(.tup [.agg [.own 0],Bo true],[.arr 194 3 true (s.map Zb.c)])
open Classical in
theorem Zbm8 {m:Zd} (hm:LeM m) {d:Zi} (hd:LeD d) {q:Zc} (hq:LeQ q):Zp0 m d q=some (opR (oraP m d q)):=by
 have hO:Zk3 m d q=some (Bo (qFor d q && (Zbb q.Ze q.Atoms (Zu q.Ze q.Atoms) && decide (Zch m))),[]):=by
  refine Zbgn _ _ _ _ ⟨_,Z6o d hd q hq,?_⟩
  rcases tf (qFor d q) with e | e
  ·rw [e,if_neg (by simp)];rfl
  rw [e,if_pos rfl]
  refine ⟨_,Zhr q hq,_,Z6x q hq _,?_⟩
  rcases tf (Zbb q.Ze q.Atoms (Zu q.Ze q.Atoms)) with e2 | e2
  ·rw [e2,if_neg (by simp)];rfl
  rw [e2,if_pos rfl]
  exact ⟨_,Z6h m hm,rfl⟩
 refine Zbi6 _ _ _ _ ⟨_,hO,?_⟩
 unfold oraP
 by_cases h:qFor d q=true∧Zbb q.Ze q.Atoms (Zu q.Ze q.Atoms)=true∧Zch m
 ·rw [if_pos (by simp [h.1,h.2.1,h.2.2]),if_pos h]
  have hf':=h.1
  unfold qFor at hf'
  simp only [Bool.and_eq_true,List.all_eq_true] at hf'
  obtain ⟨h1,h2,h3⟩:=Znc hf'.1
  obtain ⟨l1,l2⟩:=Zxp hSort hRep hd hq h.1
  have hb:=Zbk2 (locT d q) (by omega)
  rw [l1,if_pos rfl] at hb
  exact ⟨_,Zbmn hSort hRep hd hq h.1 h2,.inl ⟨_,hb,.inr ⟨_,Zbi5 _ _ _ _ (.inr ⟨_,_,_,_,Zbmh (Zxn hm h.2.2 hq hf'.1 l1 l2) h.2.2 h.2.1,rfl⟩),rfl⟩⟩⟩
 ·rw [if_neg (by simp only [Bool.and_eq_true,decide_eq_true_eq];exact fun g=>h ⟨g.1,g.2.1,g.2.2⟩),if_neg h]
  rfl
theorem Zbm9 {m:Zd} {q:Zc} {sz:List Int} (bb:Base m q sz) (hm:LeM m) (ha:Zch m) (hc:Zbb q.Ze q.Atoms (Zu q.Ze q.Atoms)=true) (hl:sz.length≤1000):Zhq sz m q=some (.tup [.agg [.own 1],Bo true],[.arr 3 1 true (sz.map ic),.arr 194 3 true ((opt m q sz).Plan.Steps.map Zb.c)]):=by
 have hl:=Znb bb (Nat.le_refl (Zp q.Atoms).length)
 obtain ⟨fr,ht⟩:=Zbmc bb
 have hsv:=Zbkv q bb.hq sz (by omega)
 have hT:=Z53 sz m q _ ⟨_,Z6g m hm,by
  rw [if_pos (by simp [ha])]
  exact ⟨_,hsv,by rw [bb.hsv,if_pos rfl];exact ⟨_,Zbmb q bb.hq bb.hv,_,_,ht,rfl⟩⟩⟩
 have hB:=Z55 sz m q _ (.inl ⟨_,_,_,hT,_,Ze9 q bb.hq,.inr ⟨_,_,_,_,Zbmg _ _ (by omega) (Zxm bb hc).ne (Zqq bb (Nat.le_refl _)),rfl⟩⟩)
 exact Z57 sz m q _ (.inr ⟨_,_,_,_,_,hB,rfl⟩)
theorem Zbna {m:Zd} {q:Zc} {sz:List Int} (hq:LeQ q) (hm:LeM m) (ha:¬ Zch m):Zhq sz m q=some (.tup [.agg [.t .nil],Bo false],[.arr 3 1 true (sz.map ic)]):=by
 have hT:=Z53 sz m q _ ⟨_,Z6g m hm,by
  rw [if_neg (by simp [ha])]⟩
 have hE:∀ M,Zf3 ([]:List Za) M=some (.tup [.agg [I 0,I 0,I 0,.t .nil],Bo false],[]):=by
  intro M
  refine Z54 _ _ _ ⟨_,Z5y _ _ _ (Zwi _ _ _ _ _ (by rw [if_neg (by simp)])),?_⟩
  rw [if_pos (by decide)]
 have hB:=Z55 sz m q _ (.inl ⟨_,_,_,hT,_,Ze9 q hq,.inl ⟨_,_,_,hE _,rfl⟩⟩)
 exact Z57 sz m q _ (.inl ⟨_,_,_,_,hB,rfl⟩)
theorem Zbnb {m:Zd} (hm:LeM m) {d:Zi} (hd:LeD d) {q:Zc} (hq:LeQ q):Zp1 m d q=some (opR (oraP m d q)):=by
 unfold oraP
 rcases tf (qFor d q) with e | e
 ·rw [if_neg (by simp [e])]
  have hT:Zl1 d q=some (.own 0,[.arr 3 1 true (([]:List Int).map ic)]):=by
   refine Z5d _ _ _ (Zwf _ _ _ _ _ ⟨_,Ze9 q hq,?_⟩)
   have:=fullM_nn q.Ze q.Atoms
   rw [if_pos (by omega)]
   refine ⟨_,Zwq d hd q hq,?_⟩
   rw [e,if_neg (by simp)]
  refine Z58 _ _ _ _ ⟨_,Z5f _ _ _ ⟨_,hT,Z8g [] (by simp) 0 (Nat.zero_le _)⟩,?_⟩
  rw [if_pos (by simp)]
  rfl
 ·have hf':=e
  unfold qFor at hf'
  simp only [Bool.and_eq_true,List.all_eq_true] at hf'
  obtain ⟨h1,h2,h3⟩:=Znc hf'.1
  obtain ⟨l1,l2⟩:=Zxp hSort hRep hd hq e
  have hl:(locT d q).length=szN q:=by unfold locT;rw [List.length_map,Zkf]
  have hs:=Zbk4 (locT d q) (by omega)
  rw [l1,if_pos rfl] at hs
  refine Z58 _ _ _ _ ⟨_,Zbmo hd hq e h2,?_⟩
  rw [if_neg (by omega)]
  refine ⟨_,Ze9 q hq,_,Zwt q hq _,?_⟩
  rcases tf (Zbb q.Ze q.Atoms (Zu q.Ze q.Atoms)) with e2 | e2
  ·rw [e2,if_neg (by simp),if_neg (by simp)]
   rfl
  ·rw [e2,if_pos rfl]
   by_cases ha:Zch m
   ·rw [if_pos ⟨e,rfl,ha⟩]
    exact ⟨_,hs,.inr ⟨_,_,Zbm9 (Zxn hm ha hq hf'.1 l1 l2) hm ha e2 (by simp [Zds];omega),rfl⟩⟩
   ·rw [if_neg (fun g=>ha g.2.2)]
    exact ⟨_,hs,.inl ⟨_,Zbna hq hm ha,rfl⟩⟩
def Zkg:MFun:=⟨3,142,[.tmp 6],.r [.bx 3 0,.bx 4 1,.bx 5 2,.o 6 (.mov (.q false))] [3,4,5] (.r [.mk' 7 1048576] [3,4,5,7] (.r [.ln 20 30 3,.m 21 7,.cl 22 11 [20,21],.m 7 22] [3,4,5,7] (.wc [.m 23 7,.bk 24 .lss 23 0] [3,4,5,7,24] 24 (.r [.o 6 (.mov (.q true))] [6] .ret) (.r [.ln 25 1 4,.m 26 7,.cl 27 28 [25,26],.m 7 27] [3,4,5,7] (.wc [.m 28 7,.bk 29 .lss 28 0] [3,4,5,7,29] 29 (.r [.o 6 (.mov (.q true))] [6] .ret) (.r [.ln 30 2 5,.m 31 7,.cl 32 12 [30,31],.m 7 32] [3,4,5,7] (.wc [.m 33 7,.bk 34 .lss 33 0] [3,4,5,34] 34 (.r [.o 6 (.mov (.q true))] [6] .ret) (.seq (.drw [.ln 36 30 3,.xl 37 15 [36],.ln 38 1 4,.xl 39 30 [38],.ln 40 2 5,.xl 41 16 [40],.cl 42 33 [37,39,41],.m 35 42,.o 43 (.ext (.s 35) 0),.o 44 (.ext (.s 35) 1),.o 8 (.alloc [.t .nil]),.st 1 8 43,.m 9 44] [[],[0],[],[2,1],[],[4,3],[1,3,5,5],[6],[7],[7],[],[10,8,6,0,1,2,3,4,5,6,7,8,10],[9,11,0,1,2,3,4,5,6,7,8,9,10,11]] [3,4,5,8,9]) (.r [.ln 45 30 3,.xl 46 15 [45],.o 10 (.alloc [.t .z,.t .z,.t .z,.t .z,.t .z,.t .nil,.t .z,.t .z,.t .z,.t .z,.t .z,.t .nil,.t .z,.t .z,.t .z,.t .z,.t .z,.t .nil,.t .z,.t .z,.t .z,.t .z,.t .z,.t .nil,.t .z,.t .z,.t .z,.t .z,.t .z,.t .nil]),.st 30 10 46] [3,4,5,8,9,10] (.r [.ln 47 1 4,.xl 48 30 [47],.o 11 (.alloc [.t .nil]),.st 1 11 48] [3,4,5,8,9,10,11] (.r [.ln 49 2 5,.xl 50 16 [49],.o 12 (.alloc [.t .z,.t .nil]),.st 2 12 50] [3,4,5,8,9,10,11,12] (.r [.ln 52 30 10,.ln 53 1 11,.ln 54 2 12,.xl 55 34 [52,53,54],.m 51 55,.o 56 (.ext (.s 51) 0),.o 57 (.ext (.s 51) 1),.o 13 (.alloc [.t .nil]),.st 1 13 56,.m 14 57] [3,4,5,8,9,10,11,12,13,14] (.wc [.ln 58 1 13,.ln 59 1 8,.cl 60 35 [58,59],.o 61 (.un .not (.s 60)),.m 62 61,.h 63 62 (.mov (.s 14)),.h 64 62 (.mov (.s 9)),.h 65 62 (.beq true (.s 63) (.s 64)),.o 66 (.pick (.s 62) (.q true) (.s 65))] [3,4,5,8,9,10,11,12,13,14,66] 66 (.r [.o 6 (.mov (.q false))] [6] .ret) (.seq (.seq (.drw [.ln 67 30 10,.ln 68 30 3,.xl 69 15 [68],.cl 70 20 [67,69],.o 71 (.un .not (.s 70))] [[],[],[1],[0,2,2],[3]] [3,4,5,8,9,10,11,12,13,14,71]) (.cond (.s 71) (.r [.o 6 (.mov (.q false))] [6] .ret) .skip)) (.seq (.seq (.drw [.ln 72 1 11,.ln 73 1 4,.xl 74 30 [73],.cl 75 32 [72,74],.o 76 (.un .not (.s 75))] [[],[],[1],[0,2,2],[3]] [3,4,5,8,9,10,11,12,13,14,76]) (.cond (.s 76) (.r [.o 6 (.mov (.q false))] [6] .ret) .skip)) (.seq (.seq (.drw [.ln 77 2 12,.ln 78 2 5,.xl 79 16 [78],.cl 80 21 [77,79],.o 81 (.un .not (.s 80))] [[],[],[1],[0,2,2],[3]] [3,4,5,8,9,10,11,12,13,14,81]) (.cond (.s 81) (.r [.o 6 (.mov (.q false))] [6] .ret) .skip)) (.r [.mk' 15 1] [3,4,5,8,9,10,11,12,13,14,15] (.r [.ln 82 30 10,.m 83 15,.o 84 (.icall 23 [.s 82,.s 83]),.m 15 84] [3,4,5,8,9,11,12,13,14,15] (.r [.ln 85 1 11,.m 86 15,.o 87 (.icall 36 [.s 85,.s 86]),.m 15 87] [3,4,5,8,9,12,13,14,15] (.r [.ln 88 2 12,.m 89 15,.o 90 (.icall 24 [.s 88,.s 89]),.m 15 90] [3,4,5,8,9,13,14,15] (.wc [.m 91 15,.bk 92 .lss 91 0,.m 93 92,.h 94 93 (.ln 1 13),.h 95 93 (.ln 1 8),.h 96 93 (.cl 35 [94,95]),.h 97 93 (.un .not (.s 96)),.o 98 (.pick (.s 93) (.q true) (.s 97)),.m 99 98,.h 100 99 (.mov (.s 14)),.h 101 99 (.mov (.s 9)),.h 102 99 (.beq true (.s 100) (.s 101)),.o 103 (.pick (.s 99) (.q true) (.s 102))] [3,4,5,8,9,13,103] 103 (.r [.o 6 (.mov (.q false))] [6] .ret) (.r [.mk' 16 1] [3,4,5,8,9,13,16] (.r [.ln 104 1 13,.m 105 16,.o 106 (.icall 37 [.s 104,.s 105]),.m 16 106] [3,4,5,8,9,13,16] (.r [.mk' 17 1] [3,4,5,8,9,13,16,17] (.r [.ln 107 1 13,.m 108 17,.cl 109 38 [107,108],.m 17 109] [3,4,5,8,9,13,16,17] (.wc [.m 110 17,.bk 111 .lss 110 0] [3,4,5,8,9,13,16,17,111] 111 (.r [.o 6 (.mov (.q false))] [6] .ret) (.wc [.m 112 17,.m 113 16,.b 114 .neq 112 113] [3,4,5,8,9,13,16,114] 114 (.r [.o 6 (.mov (.q false))] [6] .ret) (.seq (.drw [.ln 116 30 3,.xl 117 15 [116],.ln 118 1 4,.xl 119 30 [118],.ln 120 2 5,.xl 121 16 [120],.xl 122 34 [117,119,121],.m 115 122,.o 123 (.ext (.s 115) 0),.o 124 (.ext (.s 115) 1),.o 18 (.alloc [.t .nil]),.st 1 18 123,.m 19 124] [[],[0],[],[2,1],[],[4,3],[1,3,5,5],[6],[7],[7],[],[10,8,6,0,1,2,3,4,5,6,7,8,10],[9,11,0,1,2,3,4,5,6,7,8,9,10,11]] [8,9,13,16,18,19]) (.wc [.ln 125 1 18,.ln 126 1 8,.cl 127 35 [125,126],.o 128 (.un .not (.s 127)),.m 129 128,.h 130 129 (.mov (.s 19)),.h 131 129 (.mov (.s 9)),.h 132 129 (.beq true (.s 130) (.s 131)),.o 133 (.pick (.s 129) (.q true) (.s 132))] [13,16,133] 133 (.r [.o 6 (.mov (.q false))] [6] .ret) (.r [.mk' 17 1] [13,16,17] (.r [.ln 134 1 13,.m 135 17,.cl 136 38 [134,135],.m 17 136] [16,17] (.wc [.m 137 17,.bk 138 .lss 137 0] [16,17,138] 138 (.r [.o 6 (.mov (.q false))] [6] .ret) (.wc [.m 139 17,.m 140 16,.b 141 .neq 139 140] [141] 141 (.r [.o 6 (.mov (.q false))] [6] .ret) (.r [.o 6 (.mov (.q true))] [6] .ret))))))))))))))))))))))))))))))))))⟩
theorem Zbnc:tbl 5=some Zkg:=Zh Tryz.func5 (by kernel_rfl) (by kernel_rfl)
def Z80:MFun:=⟨2,36,[.tmp 4],.r [.bx 2 0,.mk' 4 0] [1,2] (.r [.fa 5 0 2,.ln 6 6 5,.m 7 1,.cl 8 74 [6,7],.m 1 8] [1,2] (.wc [.m 9 1,.bk 10 .lss 9 0] [1,2,10] 10 (.r [.mk' 4 (-1)] [4] .ret) (.r [.fa 11 6 2,.ln 12 6 11,.m 13 1,.cl 14 74 [12,13],.m 1 14] [1,2] (.wc [.m 15 1,.bk 16 .lss 15 0] [1,2,16] 16 (.r [.mk' 4 (-1)] [4] .ret) (.r [.fa 17 12 2,.ln 18 6 17,.m 19 1,.cl 20 74 [18,19],.m 1 20] [1,2] (.wc [.m 21 1,.bk 22 .lss 21 0] [1,2,22] 22 (.r [.mk' 4 (-1)] [4] .ret) (.r [.fa 23 18 2,.ln 24 6 23,.m 25 1,.cl 26 74 [24,25],.m 1 26] [1,2] (.wc [.m 27 1,.bk 28 .lss 27 0] [1,2,28] 28 (.r [.mk' 4 (-1)] [4] .ret) (.r [.fa 29 24 2,.ln 30 6 29,.m 31 1,.cl 32 74 [30,31],.m 1 32] [1] (.wc [.m 33 1,.bk 34 .lss 33 0] [1,34] 34 (.r [.mk' 4 (-1)] [4] .ret) (.r [.m 35 1,.m 4 35] [4] .ret)))))))))))⟩
theorem Zbnd:tbl 11=some Z80:=Zh Tryz.func11 (by kernel_rfl) (by kernel_rfl)
def Z81:MFun:=⟨2,12,[.tmp 4],.r [.bx 2 0,.mk' 4 0] [1,2] (.r [.fa 5 1 2,.l 6 5,.m 7 1,.cl 8 75 [6,7],.m 1 8] [1] (.wc [.m 9 1,.bk 10 .lss 9 0] [1,10] 10 (.r [.mk' 4 (-1)] [4] .ret) (.r [.m 11 1,.m 4 11] [4] .ret)))⟩
theorem Zbne:tbl 12=some Z81:=Zh Tryz.func12 (by kernel_rfl) (by kernel_rfl)
def Z82:MFun:=⟨1,25,[.cell 2 (some 30)],.r [.bx 1 0,.o 2 (.alloc [.t .z,.t .z,.t .z,.t .z,.t .z,.t .nil,.t .z,.t .z,.t .z,.t .z,.t .z,.t .nil,.t .z,.t .z,.t .z,.t .z,.t .z,.t .nil,.t .z,.t .z,.t .z,.t .z,.t .z,.t .nil,.t .z,.t .z,.t .z,.t .z,.t .z,.t .nil])] [1,2] (.r [.o 3 (.alloc [.t .z,.t .z,.t .z,.t .z,.t .z,.t .nil,.t .z,.t .z,.t .z,.t .z,.t .z,.t .nil,.t .z,.t .z,.t .z,.t .z,.t .z,.t .nil,.t .z,.t .z,.t .z,.t .z,.t .z,.t .nil,.t .z,.t .z,.t .z,.t .z,.t .z,.t .nil])] [1,2,3] (.r [.fa 4 0 1,.ln 5 6 4,.cl 6 89 [5],.fa 7 0 3,.st 6 7 6] [1,2,3] (.r [.fa 8 6 1,.ln 9 6 8,.cl 10 89 [9],.fa 11 6 3,.st 6 11 10] [1,2,3] (.r [.fa 12 12 1,.ln 13 6 12,.cl 14 89 [13],.fa 15 12 3,.st 6 15 14] [1,2,3] (.r [.fa 16 18 1,.ln 17 6 16,.cl 18 89 [17],.fa 19 18 3,.st 6 19 18] [1,2,3] (.r [.fa 20 24 1,.ln 21 6 20,.cl 22 89 [21],.fa 23 24 3,.st 6 23 22] [2,3] (.r [.ln 24 30 3,.st 30 2 24] [2] .ret)))))))⟩
theorem Zbnf:tbl 15=some Z82:=Zh Tryz.func15 (by kernel_rfl) (by kernel_rfl)
def Z83:MFun:=⟨1,12,[.cell 2 (some 2)],.r [.bx 1 0,.o 2 (.alloc [.t .z,.t .nil])] [1,2] (.r [.o 3 (.alloc [.t .z,.t .nil])] [1,2,3] (.r [.fa 4 0 1,.l 5 4,.fa 6 0 3,.st 1 6 5] [1,2,3] (.r [.fa 7 1 1,.l 8 7,.cl 9 90 [8],.fa 10 1 3,.st 1 10 9] [2,3] (.r [.ln 11 2 3,.st 2 2 11] [2] .ret))))⟩
theorem Zbng:tbl 16=some Z83:=Zh Tryz.func16 (by kernel_rfl) (by kernel_rfl)
def Zqz:MCode :=.we [.m 11 5,.m 12 0,.ll 13 12,.b 14 .lss 11 13] [0,1,5,14] 14 0 (.seq (.block 1 (.seq (.drw [.m 17 0,.m 18 5,.ia 19 1 17 18,.l 20 19,.m 21 1,.m 22 5,.ia 23 1 21 22,.l 24 23,.b 25 .neq 20 24] [[],[],[0,1],[2],[],[],[4,5],[6],[3,7]] [0,1,5,25]) (.cond (.s 25) (.r [.o 4 (.mov (.q false))] [4] .ret) .skip))) (.reg [.m 15 5,.bk 16 .add 15 1,.m 5 16] [0,1,5]))
def Zxw:MFun:=⟨2,26,[.tmp 4],.r [.o 4 (.mov (.q false))] [0,1] (.wc [.m 6 0,.ll 7 6,.m 8 1,.ll 9 8,.b 10 .neq 7 9] [0,1,10] 10 (.r [.o 4 (.mov (.q false))] [4] .ret) (.seq (.r [.mk' 5 0] [0,1,5] (.block 0 (.loop [0,1,5] Zqz))) (.r [.o 4 (.mov (.q true))] [4] .ret)))⟩
theorem Zbnh:tbl 19=some Zxw:=Zh Tryz.func19 (by kernel_rfl) (by kernel_rfl)
def Z84:MFun:=⟨2,35,[.tmp 4],.r [.bx 2 0,.bx 3 1,.o 4 (.mov (.q false))] [2,3] (.wc [.fa 5 0 2,.ln 6 6 5,.fa 7 0 3,.ln 8 6 7,.cl 9 99 [6,8],.o 10 (.un .not (.s 9))] [2,3,10] 10 (.r [.o 4 (.mov (.q false))] [4] .ret) (.wc [.fa 11 6 2,.ln 12 6 11,.fa 13 6 3,.ln 14 6 13,.cl 15 99 [12,14],.o 16 (.un .not (.s 15))] [2,3,16] 16 (.r [.o 4 (.mov (.q false))] [4] .ret) (.wc [.fa 17 12 2,.ln 18 6 17,.fa 19 12 3,.ln 20 6 19,.cl 21 99 [18,20],.o 22 (.un .not (.s 21))] [2,3,22] 22 (.r [.o 4 (.mov (.q false))] [4] .ret) (.wc [.fa 23 18 2,.ln 24 6 23,.fa 25 18 3,.ln 26 6 25,.cl 27 99 [24,26],.o 28 (.un .not (.s 27))] [2,3,28] 28 (.r [.o 4 (.mov (.q false))] [4] .ret) (.wc [.fa 29 24 2,.ln 30 6 29,.fa 31 24 3,.ln 32 6 31,.cl 33 99 [30,32],.o 34 (.un .not (.s 33))] [34] 34 (.r [.o 4 (.mov (.q false))] [4] .ret) (.r [.o 4 (.mov (.q true))] [4] .ret))))))⟩
theorem Zbni:tbl 20=some Z84:=Zh Tryz.func20 (by kernel_rfl) (by kernel_rfl)
def Z85:MFun:=⟨2,16,[.tmp 4],.r [.bx 2 0,.bx 3 1,.o 4 (.mov (.q false))] [2,3] (.wc [.fa 5 0 2,.l 6 5,.fa 7 0 3,.l 8 7,.b 9 .neq 6 8] [2,3,9] 9 (.r [.o 4 (.mov (.q false))] [4] .ret) (.wc [.fa 10 1 2,.l 11 10,.fa 12 1 3,.l 13 12,.cl 14 100 [11,13],.o 15 (.un .not (.s 14))] [15] 15 (.r [.o 4 (.mov (.q false))] [4] .ret) (.r [.o 4 (.mov (.q true))] [4] .ret)))⟩
theorem Zbnj:tbl 21=some Z85:=Zh Tryz.func21 (by kernel_rfl) (by kernel_rfl)
def Z86:MFun:=⟨2,26,[.tmp 4],.r [.bx 2 0,.mk' 4 0] [1,2] (.r [.fa 5 0 2,.ln 6 6 5,.m 7 1,.o 8 (.icall 103 [.s 6,.s 7]),.m 1 8] [1,2] (.r [.fa 9 6 2,.ln 10 6 9,.m 11 1,.o 12 (.icall 103 [.s 10,.s 11]),.m 1 12] [1,2] (.r [.fa 13 12 2,.ln 14 6 13,.m 15 1,.o 16 (.icall 103 [.s 14,.s 15]),.m 1 16] [1,2] (.r [.fa 17 18 2,.ln 18 6 17,.m 19 1,.o 20 (.icall 103 [.s 18,.s 19]),.m 1 20] [1,2] (.r [.fa 21 24 2,.ln 22 6 21,.m 23 1,.o 24 (.icall 103 [.s 22,.s 23]),.m 1 24] [1] (.r [.m 25 1,.m 4 25] [4] .ret))))))⟩
theorem Zbnk:tbl 23=some Z86:=Zh Tryz.func23 (by kernel_rfl) (by kernel_rfl)
def Z87:MFun:=⟨2,10,[.tmp 4],.r [.bx 2 0,.mk' 4 0] [1,2] (.r [.fa 5 1 2,.o 6 (.loadU false (.s 5)),.m 7 1,.o 8 (.scall 104 [.s 6,.s 7] (.s 5)),.m 1 8] [1] (.r [.m 9 1,.m 4 9] [4] .ret))⟩
theorem Zbnl:tbl 24=some Z87:=Zh Tryz.func24 (by kernel_rfl) (by kernel_rfl)
def Znf:MCode :=.we [.m 6 5,.m 7 0,.ll 8 7,.b 9 .lss 6 8] [0,1,5,9] 9 0 (.seq (.block 1 (.r [.m 12 0,.m 13 5,.m 14 1,.ia 15 1 12 13,.st 1 15 14] [0,1,5] (.reg [.m 16 1,.bk 17 .add 16 1,.m 1 17] [0,1,5]))) (.reg [.m 10 5,.bk 11 .add 10 1,.m 5 11] [0,1,5]))
def Zxx:MFun:=⟨2,19,[.tmp 4],.r [.mk' 4 0] [0,1] (.seq (.r [.mk' 5 0] [0,1,5] (.block 0 (.loop [0,1,5] Znf))) (.r [.m 18 1,.m 4 18] [4] .ret))⟩
theorem Z88:tbl 26=some Zxx:=Zh Tryz.func26 (by kernel_rfl) (by kernel_rfl)
def Z89:MFun:=⟨2,12,[.tmp 4],.r [.bx 2 0,.mk' 4 0] [1,2] (.r [.fa 5 0 2,.l 6 5,.m 7 1,.cl 8 107 [6,7],.m 1 8] [1] (.wc [.m 9 1,.bk 10 .lss 9 0] [1,10] 10 (.r [.mk' 4 (-1)] [4] .ret) (.r [.m 11 1,.m 4 11] [4] .ret)))⟩
theorem Zbnm:tbl 28=some Z89:=Zh Tryz.func28 (by kernel_rfl) (by kernel_rfl)
def Z9a:MFun:=⟨1,9,[.cell 2 (some 1)],.r [.bx 1 0,.o 2 (.alloc [.t .nil])] [1,2] (.r [.o 3 (.alloc [.t .nil])] [1,2,3] (.r [.fa 4 0 1,.l 5 4,.cl 6 111 [5],.fa 7 0 3,.st 1 7 6] [2,3] (.r [.ln 8 1 3,.st 1 2 8] [2] .ret)))⟩
theorem Zbnn:tbl 30=some Z9a:=Zh Tryz.func30 (by kernel_rfl) (by kernel_rfl)
def Z9b:MFun:=⟨2,11,[.tmp 4],.r [.bx 2 0,.bx 3 1,.o 4 (.mov (.q false))] [2,3] (.wc [.fa 5 0 2,.l 6 5,.fa 7 0 3,.l 8 7,.cl 9 114 [6,8],.o 10 (.un .not (.s 9))] [10] 10 (.r [.o 4 (.mov (.q false))] [4] .ret) (.r [.o 4 (.mov (.q true))] [4] .ret))⟩
theorem Zbno:tbl 32=some Z9b:=Zh Tryz.func32 (by kernel_rfl) (by kernel_rfl)
def Zxy:MFun:=⟨2,11,[.tmp 4],.r [.bx 2 0,.bx 3 1,.o 4 (.mov (.q false))] [2,3] (.wc [.fa 5 0 2,.l 6 5,.fa 7 0 3,.l 8 7,.cl 9 118 [6,8],.o 10 (.un .not (.s 9))] [10] 10 (.r [.o 4 (.mov (.q false))] [4] .ret) (.r [.o 4 (.mov (.q true))] [4] .ret))⟩
theorem Z9c:tbl 35=some Zxy:=Zh Tryz.func35 (by kernel_rfl) (by kernel_rfl)
def Z9d:MFun:=⟨2,10,[.tmp 4],.r [.bx 2 0,.mk' 4 0] [1,2] (.r [.fa 5 0 2,.o 6 (.loadU false (.s 5)),.m 7 1,.o 8 (.scall 119 [.s 6,.s 7] (.s 5)),.m 1 8] [1] (.r [.m 9 1,.m 4 9] [4] .ret))⟩
theorem Zbnp:tbl 36=some Z9d:=Zh Tryz.func36 (by kernel_rfl) (by kernel_rfl)
def Zxz:MFun:=⟨2,10,[.tmp 4],.r [.bx 2 0,.mk' 4 0] [1,2] (.r [.fa 5 0 2,.o 6 (.loadU false (.s 5)),.m 7 1,.o 8 (.scall 120 [.s 6,.s 7] (.s 5)),.m 1 8] [1] (.r [.m 9 1,.m 4 9] [4] .ret))⟩
theorem Z9e:tbl 37=some Zxz:=Zh Tryz.func37 (by kernel_rfl) (by kernel_rfl)
def Zx0:MFun:=⟨2,12,[.tmp 4],.r [.bx 2 0,.mk' 4 0] [1,2] (.r [.fa 5 0 2,.l 6 5,.m 7 1,.cl 8 121 [6,7],.m 1 8] [1] (.wc [.m 9 1,.bk 10 .lss 9 0] [1,10] 10 (.r [.mk' 4 (-1)] [4] .ret) (.r [.m 11 1,.m 4 11] [4] .ret)))⟩
theorem Z9f:tbl 38=some Zx0:=Zh Tryz.func38 (by kernel_rfl) (by kernel_rfl)
def Z9g:MFun:=⟨2,12,[.tmp 4],.r [.bx 2 0,.mk' 4 0] [1,2] (.r [.fa 5 5 2,.l 6 5,.m 7 1,.cl 8 192 [6,7],.m 1 8] [1] (.wc [.m 9 1,.bk 10 .lss 9 0] [1,10] 10 (.r [.mk' 4 (-1)] [4] .ret) (.r [.m 11 1,.m 4 11] [4] .ret)))⟩
theorem Zbnq:tbl 74=some Z9g:=Zh Tryz.func74 (by kernel_rfl) (by kernel_rfl)
def Zhy:MCode :=.we [.m 12 5,.m 13 0,.ll 14 13,.b 15 .lss 12 14] [0,1,5,15] 15 0 (.seq (.block 1 (.r [.m 18 0,.m 19 5,.ia 20 2 18 19,.ln 21 2 20,.m 22 1,.cl 23 193 [21,22],.m 1 23] [0,1,5] (.r [.m 24 1,.bk 25 .lss 24 0] [0,1,5,25] (.cond (.s 25) (.r [.mk' 4 (-1)] [4] .ret) .skip)))) (.reg [.m 16 5,.bk 17 .add 16 1,.m 5 17] [0,1,5]))
def Z9h:MFun:=⟨2,27,[.tmp 4],.r [.mk' 4 0] [0,1] (.r [.m 6 1,.m 7 0,.ll 8 7,.b 9 .sub 6 8,.m 1 9] [0,1] (.wc [.m 10 1,.bk 11 .lss 10 0] [0,1,11] 11 (.r [.mk' 4 (-1)] [4] .ret) (.seq (.r [.mk' 5 0] [0,1,5] (.block 0 (.loop [0,1,5] Zhy))) (.r [.m 26 1,.m 4 26] [4] .ret))))⟩
theorem Zbnr:tbl 75=some Z9h:=Zh Tryz.func75 (by kernel_rfl) (by kernel_rfl)
def Z9i:MFun:=⟨2,12,[.tmp 4],.r [.mk' 4 0] [0,1] (.r [.m 5 1,.m 6 0,.ll 7 6,.b 8 .sub 5 7,.m 1 8] [1] (.wc [.m 9 1,.bk 10 .lss 9 0] [1,10] 10 (.r [.mk' 4 (-1)] [4] .ret) (.r [.m 11 1,.m 4 11] [4] .ret)))⟩
theorem Zbns:tbl 76=some Z9i:=Zh Tryz.func76 (by kernel_rfl) (by kernel_rfl)
def Zhz:MCode :=.we [.m 12 5,.m 13 0,.ll 14 13,.b 15 .lss 12 14] [0,1,5,15] 15 0 (.seq (.block 1 (.r [.m 18 0,.m 19 5,.ia 20 1 18 19,.l 21 20,.m 22 1,.cl 23 76 [21,22],.m 1 23] [0,1,5] (.r [.m 24 1,.bk 25 .lss 24 0] [0,1,5,25] (.cond (.s 25) (.r [.mk' 4 (-1)] [4] .ret) .skip)))) (.reg [.m 16 5,.bk 17 .add 16 1,.m 5 17] [0,1,5]))
def Z9j:MFun:=⟨2,27,[.tmp 4],.r [.mk' 4 0] [0,1] (.r [.m 6 1,.m 7 0,.ll 8 7,.b 9 .sub 6 8,.m 1 9] [0,1] (.wc [.m 10 1,.bk 11 .lss 10 0] [0,1,11] 11 (.r [.mk' 4 (-1)] [4] .ret) (.seq (.r [.mk' 5 0] [0,1,5] (.block 0 (.loop [0,1,5] Zhz))) (.r [.m 26 1,.m 4 26] [4] .ret))))⟩
theorem Zbnt:tbl 78=some Z9j:=Zh Tryz.func78 (by kernel_rfl) (by kernel_rfl)
def Z9k:MFun:=⟨1,24,[.cell 2 (some 6)],.r [.bx 1 0,.o 2 (.alloc [.t .z,.t .z,.t .z,.t .z,.t .z,.t .nil])] [1,2] (.r [.o 3 (.alloc [.t .z,.t .z,.t .z,.t .z,.t .z,.t .nil])] [1,2,3] (.r [.fa 4 0 1,.l 5 4,.fa 6 0 3,.st 1 6 5] [1,2,3] (.r [.fa 7 1 1,.l 8 7,.fa 9 1 3,.st 1 9 8] [1,2,3] (.r [.fa 10 2 1,.l 11 10,.fa 12 2 3,.st 1 12 11] [1,2,3] (.r [.fa 13 3 1,.l 14 13,.fa 15 3 3,.st 1 15 14] [1,2,3] (.r [.fa 16 4 1,.l 17 16,.fa 18 4 3,.st 1 18 17] [1,2,3] (.r [.fa 19 5 1,.l 20 19,.cl 21 209 [20],.fa 22 5 3,.st 1 22 21] [2,3] (.r [.ln 23 6 3,.st 6 2 23] [2] .ret))))))))⟩
theorem Zbnu:tbl 89=some Z9k:=Zh Tryz.func89 (by kernel_rfl) (by kernel_rfl)
def Zq0:MCode :=.we [.m 8 4,.m 9 0,.ll 10 9,.b 11 .lss 8 10] [0,3,4,11] 11 0 (.seq (.block 1 (.reg [.m 14 3,.m 15 4,.m 16 0,.m 17 4,.ia 18 2 16 17,.ln 19 2 18,.cl 20 210 [19],.ia 21 2 14 15,.st 2 21 20] [0,3,4])) (.reg [.m 12 4,.bk 13 .add 12 1,.m 4 13] [0,3,4]))
def Z9l:MFun:=⟨1,23,[.tmp 2],.r [.o 2 (.mov (.c (.t .nil)))] [0] (.r [.m 5 0,.ll 6 5,.o 7 (.mkslice 264 2 40 [.str ⟨#[]⟩,.lst 1 []] (.s 6) (.s 6)),.m 3 7] [0,3] (.seq (.r [.mk' 4 0] [0,3,4] (.block 0 (.loop [0,3,4] Zq0))) (.r [.m 22 3,.m 2 22] [2] .ret)))⟩
theorem Zbnv:tbl 90=some Z9l:=Zh Tryz.func90 (by kernel_rfl) (by kernel_rfl)
def Zq1:MCode :=.we [.m 8 4,.m 9 0,.ll 10 9,.b 11 .lss 8 10] [0,3,4,11] 11 0 (.seq (.block 1 (.reg [.m 14 3,.m 15 4,.m 16 0,.m 17 4,.ia 18 1 16 17,.l 19 18,.ia 20 1 14 15,.st 1 20 19] [0,3,4])) (.reg [.m 12 4,.bk 13 .add 12 1,.m 4 13] [0,3,4]))
def Z9m:MFun:=⟨1,22,[.tmp 2],.r [.o 2 (.mov (.c (.t .nil)))] [0] (.r [.m 5 0,.ll 6 5,.o 7 (.mkslice 3 1 8 [.z] (.s 6) (.s 6)),.m 3 7] [0,3] (.seq (.r [.mk' 4 0] [0,3,4] (.block 0 (.loop [0,3,4] Zq1))) (.r [.m 21 3,.m 2 21] [2] .ret)))⟩
theorem Zbnw:tbl 91=some Z9m:=Zh Tryz.func91 (by kernel_rfl) (by kernel_rfl)
def Zq2:MCode :=.we [.m 8 4,.m 9 0,.ll 10 9,.b 11 .lss 8 10] [0,3,4,11] 11 0 (.seq (.block 1 (.reg [.m 14 3,.m 15 4,.m 16 0,.m 17 4,.ia 18 1 16 17,.l 19 18,.cl 20 91 [19],.ia 21 1 14 15,.st 1 21 20] [0,3,4])) (.reg [.m 12 4,.bk 13 .add 12 1,.m 4 13] [0,3,4]))
def Z9n:MFun:=⟨1,23,[.tmp 2],.r [.o 2 (.mov (.c (.t .nil)))] [0] (.r [.m 5 0,.ll 6 5,.o 7 (.mkslice 30 1 24 [.lst 1 []] (.s 6) (.s 6)),.m 3 7] [0,3] (.seq (.r [.mk' 4 0] [0,3,4] (.block 0 (.loop [0,3,4] Zq2))) (.r [.m 22 3,.m 2 22] [2] .ret)))⟩
theorem Zbnx:tbl 93=some Z9n:=Zh Tryz.func93 (by kernel_rfl) (by kernel_rfl)
def Z9o:MFun:=⟨2,36,[.tmp 4],.r [.bx 2 0,.bx 3 1,.o 4 (.mov (.q false))] [2,3] (.wc [.fa 5 0 2,.l 6 5,.fa 7 0 3,.l 8 7,.b 9 .neq 6 8] [2,3,9] 9 (.r [.o 4 (.mov (.q false))] [4] .ret) (.wc [.fa 10 1 2,.l 11 10,.fa 12 1 3,.l 13 12,.b 14 .neq 11 13] [2,3,14] 14 (.r [.o 4 (.mov (.q false))] [4] .ret) (.wc [.fa 15 2 2,.l 16 15,.fa 17 2 3,.l 18 17,.b 19 .neq 16 18] [2,3,19] 19 (.r [.o 4 (.mov (.q false))] [4] .ret) (.wc [.fa 20 3 2,.l 21 20,.fa 22 3 3,.l 23 22,.b 24 .neq 21 23] [2,3,24] 24 (.r [.o 4 (.mov (.q false))] [4] .ret) (.wc [.fa 25 4 2,.l 26 25,.fa 27 4 3,.l 28 27,.b 29 .neq 26 28] [2,3,29] 29 (.r [.o 4 (.mov (.q false))] [4] .ret) (.wc [.fa 30 5 2,.l 31 30,.fa 32 5 3,.l 33 32,.cl 34 219 [31,33],.o 35 (.un .not (.s 34))] [35] 35 (.r [.o 4 (.mov (.q false))] [4] .ret) (.r [.o 4 (.mov (.q true))] [4] .ret)))))))⟩
theorem Zbny:tbl 99=some Z9o:=Zh Tryz.func99 (by kernel_rfl) (by kernel_rfl)
def Zq3:MCode :=.we [.m 11 5,.m 12 0,.ll 13 12,.b 14 .lss 11 13] [0,1,5,14] 14 0 (.seq (.block 1 (.seq (.drw [.m 17 0,.m 18 5,.ia 19 2 17 18,.ln 20 2 19,.m 21 1,.m 22 5,.ia 23 2 21 22,.ln 24 2 23,.cl 25 220 [20,24],.o 26 (.un .not (.s 25))] [[],[],[0,1],[2],[],[],[4,5],[6],[3,7],[8]] [0,1,5,26]) (.cond (.s 26) (.r [.o 4 (.mov (.q false))] [4] .ret) .skip))) (.reg [.m 15 5,.bk 16 .add 15 1,.m 5 16] [0,1,5]))
def Zx1:MFun:=⟨2,27,[.tmp 4],.r [.o 4 (.mov (.q false))] [0,1] (.wc [.m 6 0,.ll 7 6,.m 8 1,.ll 9 8,.b 10 .neq 7 9] [0,1,10] 10 (.r [.o 4 (.mov (.q false))] [4] .ret) (.seq (.r [.mk' 5 0] [0,1,5] (.block 0 (.loop [0,1,5] Zq3))) (.r [.o 4 (.mov (.q true))] [4] .ret)))⟩
theorem Zbnz:tbl 100=some Zx1:=Zh Tryz.func100 (by kernel_rfl) (by kernel_rfl)
def Zq4:MCode :=.we [.m 11 5,.m 12 0,.ll 13 12,.b 14 .lss 11 13] [0,1,5,14] 14 0 (.seq (.block 1 (.seq (.drw [.m 17 0,.m 18 5,.ia 19 1 17 18,.l 20 19,.m 21 1,.m 22 5,.ia 23 1 21 22,.l 24 23,.cl 25 19 [20,24],.o 26 (.un .not (.s 25))] [[],[],[0,1],[2],[],[],[4,5],[6],[3,7],[8]] [0,1,5,26]) (.cond (.s 26) (.r [.o 4 (.mov (.q false))] [4] .ret) .skip))) (.reg [.m 15 5,.bk 16 .add 15 1,.m 5 16] [0,1,5]))
def Zx2:MFun:=⟨2,27,[.tmp 4],.r [.o 4 (.mov (.q false))] [0,1] (.wc [.m 6 0,.ll 7 6,.m 8 1,.ll 9 8,.b 10 .neq 7 9] [0,1,10] 10 (.r [.o 4 (.mov (.q false))] [4] .ret) (.seq (.r [.mk' 5 0] [0,1,5] (.block 0 (.loop [0,1,5] Zq4))) (.r [.o 4 (.mov (.q true))] [4] .ret)))⟩
theorem Zbn0:tbl 102=some Zx2:=Zh Tryz.func102 (by kernel_rfl) (by kernel_rfl)
def Z9p:MFun:=⟨2,10,[.tmp 4],.r [.bx 2 0,.mk' 4 0] [1,2] (.r [.fa 5 5 2,.o 6 (.loadU false (.s 5)),.m 7 1,.o 8 (.scall 221 [.s 6,.s 7] (.s 5)),.m 1 8] [1] (.r [.m 9 1,.m 4 9] [4] .ret))⟩
theorem Zbn1:tbl 103=some Z9p:=Zh Tryz.func103 (by kernel_rfl) (by kernel_rfl)
def Zq5:MCode :=.we [.m 6 5,.m 7 0,.ll 8 7,.b 9 .lss 6 8] [0,1,5,9] 9 0 (.seq (.block 1 (.r [.m 12 0,.m 13 5,.m 14 1,.cl 15 222 [14],.ia 16 2 12 13,.fa 17 0 16,.st 1 17 15] [0,1,5] (.r [.m 18 1,.bk 19 .add 18 1,.m 1 19] [0,1,5] (.reg [.m 20 0,.m 21 5,.ia 22 2 20 21,.fa 23 1 22,.o 24 (.loadU false (.s 23)),.m 25 1,.o 26 (.scall 26 [.s 24,.s 25] (.s 23)),.m 1 26] [0,1,5])))) (.reg [.m 10 5,.bk 11 .add 10 1,.m 5 11] [0,1,5]))
def Z9q:MFun:=⟨2,28,[.tmp 4],.r [.mk' 4 0] [0,1] (.seq (.r [.mk' 5 0] [0,1,5] (.block 0 (.loop [0,1,5] Zq5))) (.r [.m 27 1,.m 4 27] [4] .ret))⟩
theorem Zbn2:tbl 104=some Z9q:=Zh Tryz.func104 (by kernel_rfl) (by kernel_rfl)
def Zng:MCode :=.we [.m 6 5,.m 7 0,.ll 8 7,.b 9 .lss 6 8] [0,1,5,9] 9 0 (.seq (.block 1 (.reg [.m 12 0,.m 13 5,.ia 14 1 12 13,.o 15 (.loadU false (.s 14)),.m 16 1,.o 17 (.scall 26 [.s 15,.s 16] (.s 14)),.m 1 17] [0,1,5])) (.reg [.m 10 5,.bk 11 .add 10 1,.m 5 11] [0,1,5]))
def Zx3:MFun:=⟨2,19,[.tmp 4],.r [.mk' 4 0] [0,1] (.seq (.r [.mk' 5 0] [0,1,5] (.block 0 (.loop [0,1,5] Zng))) (.r [.m 18 1,.m 4 18] [4] .ret))⟩
theorem Z9r:tbl 106=some Zx3:=Zh Tryz.func106 (by kernel_rfl) (by kernel_rfl)
def Zh0:MCode :=.we [.m 12 5,.m 13 0,.ll 14 13,.b 15 .lss 12 14] [0,1,5,15] 15 0 (.seq (.block 1 (.r [.m 18 0,.m 19 5,.ia 20 3 18 19,.ln 21 3 20,.m 22 1,.cl 23 223 [21,22],.m 1 23] [0,1,5] (.r [.m 24 1,.bk 25 .lss 24 0] [0,1,5,25] (.cond (.s 25) (.r [.mk' 4 (-1)] [4] .ret) .skip)))) (.reg [.m 16 5,.bk 17 .add 16 1,.m 5 17] [0,1,5]))
def Z9s:MFun:=⟨2,27,[.tmp 4],.r [.mk' 4 0] [0,1] (.r [.m 6 1,.m 7 0,.ll 8 7,.b 9 .sub 6 8,.m 1 9] [0,1] (.wc [.m 10 1,.bk 11 .lss 10 0] [0,1,11] 11 (.r [.mk' 4 (-1)] [4] .ret) (.seq (.r [.mk' 5 0] [0,1,5] (.block 0 (.loop [0,1,5] Zh0))) (.r [.m 26 1,.m 4 26] [4] .ret))))⟩
theorem Zbn3:tbl 107=some Z9s:=Zh Tryz.func107 (by kernel_rfl) (by kernel_rfl)
def Zq6:MCode :=.we [.m 8 4,.m 9 0,.ll 10 9,.b 11 .lss 8 10] [0,3,4,11] 11 0 (.seq (.block 1 (.reg [.m 14 3,.m 15 4,.m 16 0,.m 17 4,.ia 18 3 16 17,.ln 19 3 18,.cl 20 228 [19],.ia 21 3 14 15,.st 3 21 20] [0,3,4])) (.reg [.m 12 4,.bk 13 .add 12 1,.m 4 13] [0,3,4]))
def Z9t:MFun:=⟨1,23,[.tmp 2],.r [.o 2 (.mov (.c (.t .nil)))] [0] (.r [.m 5 0,.ll 6 5,.o 7 (.mkslice 277 3 48 [.str ⟨#[]⟩,.z,.lst 1 []] (.s 6) (.s 6)),.m 3 7] [0,3] (.seq (.r [.mk' 4 0] [0,3,4] (.block 0 (.loop [0,3,4] Zq6))) (.r [.m 22 3,.m 2 22] [2] .ret)))⟩
theorem Zbn4:tbl 111=some Z9t:=Zh Tryz.func111 (by kernel_rfl) (by kernel_rfl)
def Zq7:MCode :=.we [.m 11 5,.m 12 0,.ll 13 12,.b 14 .lss 11 13] [0,1,5,14] 14 0 (.seq (.block 1 (.seq (.drw [.m 17 0,.m 18 5,.ia 19 3 17 18,.ln 20 3 19,.m 21 1,.m 22 5,.ia 23 3 21 22,.ln 24 3 23,.cl 25 233 [20,24],.o 26 (.un .not (.s 25))] [[],[],[0,1],[2],[],[],[4,5],[6],[3,7],[8]] [0,1,5,26]) (.cond (.s 26) (.r [.o 4 (.mov (.q false))] [4] .ret) .skip))) (.reg [.m 15 5,.bk 16 .add 15 1,.m 5 16] [0,1,5]))
def Zx4:MFun:=⟨2,27,[.tmp 4],.r [.o 4 (.mov (.q false))] [0,1] (.wc [.m 6 0,.ll 7 6,.m 8 1,.ll 9 8,.b 10 .neq 7 9] [0,1,10] 10 (.r [.o 4 (.mov (.q false))] [4] .ret) (.seq (.r [.mk' 5 0] [0,1,5] (.block 0 (.loop [0,1,5] Zq7))) (.r [.o 4 (.mov (.q true))] [4] .ret)))⟩
theorem Zbn5:tbl 114=some Zx4:=Zh Tryz.func114 (by kernel_rfl) (by kernel_rfl)
def Znh:MCode :=.we [.m 11 5,.m 12 0,.ll 13 12,.b 14 .lss 11 13] [0,1,5,14] 14 0 (.seq (.block 1 (.seq (.drw [.m 17 0,.m 18 5,.ia 19 3 17 18,.ln 20 3 19,.m 21 1,.m 22 5,.ia 23 3 21 22,.ln 24 3 23,.cl 25 238 [20,24],.o 26 (.un .not (.s 25))] [[],[],[0,1],[2],[],[],[4,5],[6],[3,7],[8]] [0,1,5,26]) (.cond (.s 26) (.r [.o 4 (.mov (.q false))] [4] .ret) .skip))) (.reg [.m 15 5,.bk 16 .add 15 1,.m 5 16] [0,1,5]))
def Zq8:MFun:=⟨2,27,[.tmp 4],.r [.o 4 (.mov (.q false))] [0,1] (.wc [.m 6 0,.ll 7 6,.m 8 1,.ll 9 8,.b 10 .neq 7 9] [0,1,10] 10 (.r [.o 4 (.mov (.q false))] [4] .ret) (.seq (.r [.mk' 5 0] [0,1,5] (.block 0 (.loop [0,1,5] Znh))) (.r [.o 4 (.mov (.q true))] [4] .ret)))⟩
theorem Z9u:tbl 118=some Zq8:=Zh Tryz.func118 (by kernel_rfl) (by kernel_rfl)
def Zq9:MCode :=.we [.m 6 5,.m 7 0,.ll 8 7,.b 9 .lss 6 8] [0,1,5,9] 9 0 (.seq (.block 1 (.r [.m 12 0,.m 13 5,.m 14 1,.cl 15 222 [14],.ia 16 3 12 13,.fa 17 0 16,.st 1 17 15] [0,1,5] (.r [.m 18 1,.bk 19 .add 18 1,.m 1 19] [0,1,5] (.r [.m 20 0,.m 21 5,.m 22 1,.ia 23 3 20 21,.fa 24 1 23,.st 1 24 22] [0,1,5] (.r [.m 25 1,.bk 26 .add 25 1,.m 1 26] [0,1,5] (.reg [.m 27 0,.m 28 5,.ia 29 3 27 28,.fa 30 2 29,.o 31 (.loadU false (.s 30)),.m 32 1,.o 33 (.scall 106 [.s 31,.s 32] (.s 30)),.m 1 33] [0,1,5])))))) (.reg [.m 10 5,.bk 11 .add 10 1,.m 5 11] [0,1,5]))
def Z9v:MFun:=⟨2,35,[.tmp 4],.r [.mk' 4 0] [0,1] (.seq (.r [.mk' 5 0] [0,1,5] (.block 0 (.loop [0,1,5] Zq9))) (.r [.m 34 1,.m 4 34] [4] .ret))⟩
theorem Zbn6:tbl 119=some Z9v:=Zh Tryz.func119 (by kernel_rfl) (by kernel_rfl)
def Zni:MCode :=.we [.m 6 5,.m 7 0,.ll 8 7,.b 9 .lss 6 8] [0,1,5,9] 9 0 (.seq (.block 1 (.r [.m 12 0,.m 13 5,.m 14 1,.ia 15 3 12 13,.fa 16 0 15,.st 1 16 14] [0,1,5] (.r [.m 17 1,.bk 18 .add 17 1,.m 1 18] [0,1,5] (.r [.m 19 0,.m 20 5,.m 21 1,.ia 22 3 19 20,.fa 23 1 22,.st 1 23 21] [0,1,5] (.r [.m 24 1,.bk 25 .add 24 1,.m 1 25] [0,1,5] (.r [.m 26 0,.m 27 5,.m 28 1,.ia 29 3 26 27,.fa 30 2 29,.st 1 30 28] [0,1,5] (.reg [.m 31 1,.bk 32 .add 31 1,.m 1 32] [0,1,5]))))))) (.reg [.m 10 5,.bk 11 .add 10 1,.m 5 11] [0,1,5]))
def Zx5:MFun:=⟨2,34,[.tmp 4],.r [.mk' 4 0] [0,1] (.seq (.r [.mk' 5 0] [0,1,5] (.block 0 (.loop [0,1,5] Zni))) (.r [.m 33 1,.m 4 33] [4] .ret))⟩
theorem Z9w:tbl 120=some Zx5:=Zh Tryz.func120 (by kernel_rfl) (by kernel_rfl)
def Znj:MCode :=.we [.m 6 5,.m 7 0,.ll 8 7,.b 9 .lss 6 8] [0,1,5,9] 9 0 (.seq (.block 1 (.wc [.m 12 0,.m 13 5,.ia 14 3 12 13,.fa 15 0 14,.l 16 15,.m 17 1,.b 18 .neq 16 17] [0,1,5,18] 18 (.r [.mk' 4 (-1)] [4] .ret) (.r [.m 19 1,.bk 20 .add 19 1,.m 1 20] [0,1,5] (.wc [.m 21 0,.m 22 5,.ia 23 3 21 22,.fa 24 1 23,.l 25 24,.m 26 1,.b 27 .neq 25 26] [0,1,5,27] 27 (.r [.mk' 4 (-1)] [4] .ret) (.r [.m 28 1,.bk 29 .add 28 1,.m 1 29] [0,1,5] (.wc [.m 30 0,.m 31 5,.ia 32 3 30 31,.fa 33 2 32,.l 34 33,.m 35 1,.b 36 .neq 34 35] [0,1,5,36] 36 (.r [.mk' 4 (-1)] [4] .ret) (.reg [.m 37 1,.bk 38 .add 37 1,.m 1 38] [0,1,5]))))))) (.reg [.m 10 5,.bk 11 .add 10 1,.m 5 11] [0,1,5]))
def Zx6:MFun:=⟨2,40,[.tmp 4],.r [.mk' 4 0] [0,1] (.seq (.r [.mk' 5 0] [0,1,5] (.block 0 (.loop [0,1,5] Znj))) (.r [.m 39 1,.m 4 39] [4] .ret))⟩
theorem Z9x:tbl 121=some Zx6:=Zh Tryz.func121 (by kernel_rfl) (by kernel_rfl)
def Z9y:MFun:=⟨2,12,[.tmp 4],.r [.mk' 4 0] [0,1] (.r [.m 5 1,.m 6 0,.ll 7 6,.b 8 .sub 5 7,.m 1 8] [1] (.wc [.m 9 1,.bk 10 .lss 9 0] [1,10] 10 (.r [.mk' 4 (-1)] [4] .ret) (.r [.m 11 1,.m 4 11] [4] .ret)))⟩
theorem Zbn7:tbl 192=some Z9y:=Zh Tryz.func192 (by kernel_rfl) (by kernel_rfl)
def Z9z:MFun:=⟨2,19,[.tmp 4],.r [.bx 2 0,.mk' 4 0] [1,2] (.r [.m 5 1,.fa 6 0 2,.l 7 6,.o 8 (.len true (.s 7)),.b 9 .sub 5 8,.m 1 9] [1,2] (.wc [.m 10 1,.bk 11 .lss 10 0] [1,2,11] 11 (.r [.mk' 4 (-1)] [4] .ret) (.r [.fa 12 1 2,.l 13 12,.m 14 1,.cl 15 76 [13,14],.m 1 15] [1] (.wc [.m 16 1,.bk 17 .lss 16 0] [1,17] 17 (.r [.mk' 4 (-1)] [4] .ret) (.r [.m 18 1,.m 4 18] [4] .ret)))))⟩
theorem Zbn8:tbl 193=some Z9z:=Zh Tryz.func193 (by kernel_rfl) (by kernel_rfl)
def Zra:MCode :=.we [.m 8 4,.m 9 0,.ll 10 9,.b 11 .lss 8 10] [0,3,4,11] 11 0 (.seq (.block 1 (.reg [.m 14 3,.m 15 4,.m 16 0,.m 17 4,.ia 18 2 16 17,.ln 19 2 18,.cl 20 294 [19],.ia 21 2 14 15,.st 2 21 20] [0,3,4])) (.reg [.m 12 4,.bk 13 .add 12 1,.m 4 13] [0,3,4]))
def Z90:MFun:=⟨1,23,[.tmp 2],.r [.o 2 (.mov (.c (.t .nil)))] [0] (.r [.m 5 0,.ll 6 5,.o 7 (.mkslice 307 2 16 [.z,.z] (.s 6) (.s 6)),.m 3 7] [0,3] (.seq (.r [.mk' 4 0] [0,3,4] (.block 0 (.loop [0,3,4] Zra))) (.r [.m 22 3,.m 2 22] [2] .ret)))⟩
theorem Zbn9:tbl 209=some Z90:=Zh Tryz.func209 (by kernel_rfl) (by kernel_rfl)
def Z91:MFun:=⟨1,12,[.cell 2 (some 2)],.r [.bx 1 0,.o 2 (.alloc [.t (.str ⟨#[]⟩),.t .nil])] [1,2] (.r [.o 3 (.alloc [.t (.str ⟨#[]⟩),.t .nil])] [1,2,3] (.r [.fa 4 0 1,.l 5 4,.fa 6 0 3,.st 1 6 5] [1,2,3] (.r [.fa 7 1 1,.l 8 7,.cl 9 91 [8],.fa 10 1 3,.st 1 10 9] [2,3] (.r [.ln 11 2 3,.st 2 2 11] [2] .ret))))⟩
theorem Zboa:tbl 210=some Z91:=Zh Tryz.func210 (by kernel_rfl) (by kernel_rfl)
def Zrb:MCode :=.we [.m 11 5,.m 12 0,.ll 13 12,.b 14 .lss 11 13] [0,1,5,14] 14 0 (.seq (.block 1 (.seq (.drw [.m 17 0,.m 18 5,.ia 19 2 17 18,.ln 20 2 19,.m 21 1,.m 22 5,.ia 23 2 21 22,.ln 24 2 23,.cl 25 299 [20,24],.o 26 (.un .not (.s 25))] [[],[],[0,1],[2],[],[],[4,5],[6],[3,7],[8]] [0,1,5,26]) (.cond (.s 26) (.r [.o 4 (.mov (.q false))] [4] .ret) .skip))) (.reg [.m 15 5,.bk 16 .add 15 1,.m 5 16] [0,1,5]))
def Zx7:MFun:=⟨2,27,[.tmp 4],.r [.o 4 (.mov (.q false))] [0,1] (.wc [.m 6 0,.ll 7 6,.m 8 1,.ll 9 8,.b 10 .neq 7 9] [0,1,10] 10 (.r [.o 4 (.mov (.q false))] [4] .ret) (.seq (.r [.mk' 5 0] [0,1,5] (.block 0 (.loop [0,1,5] Zrb))) (.r [.o 4 (.mov (.q true))] [4] .ret)))⟩
theorem Zbob:tbl 219=some Zx7:=Zh Tryz.func219 (by kernel_rfl) (by kernel_rfl)
def Z92:MFun:=⟨2,16,[.tmp 4],.r [.bx 2 0,.bx 3 1,.o 4 (.mov (.q false))] [2,3] (.wc [.fa 5 0 2,.l 6 5,.fa 7 0 3,.l 8 7,.b 9 .neq 6 8] [2,3,9] 9 (.r [.o 4 (.mov (.q false))] [4] .ret) (.wc [.fa 10 1 2,.l 11 10,.fa 12 1 3,.l 13 12,.cl 14 19 [11,13],.o 15 (.un .not (.s 14))] [15] 15 (.r [.o 4 (.mov (.q false))] [4] .ret) (.r [.o 4 (.mov (.q true))] [4] .ret)))⟩
theorem Zboc:tbl 220=some Z92:=Zh Tryz.func220 (by kernel_rfl) (by kernel_rfl)
def Zrc:MCode :=.we [.m 6 5,.m 7 0,.ll 8 7,.b 9 .lss 6 8] [0,1,5,9] 9 0 (.seq (.block 1 (.r [.m 12 0,.m 13 5,.m 14 1,.ia 15 2 12 13,.fa 16 0 15,.st 1 16 14] [0,1,5] (.r [.m 17 1,.bk 18 .add 17 1,.m 1 18] [0,1,5] (.r [.m 19 0,.m 20 5,.m 21 1,.ia 22 2 19 20,.fa 23 1 22,.st 1 23 21] [0,1,5] (.reg [.m 24 1,.bk 25 .add 24 1,.m 1 25] [0,1,5]))))) (.reg [.m 10 5,.bk 11 .add 10 1,.m 5 11] [0,1,5]))
def Z93:MFun:=⟨2,27,[.tmp 4],.r [.mk' 4 0] [0,1] (.seq (.r [.mk' 5 0] [0,1,5] (.block 0 (.loop [0,1,5] Zrc))) (.r [.m 26 1,.m 4 26] [4] .ret))⟩
theorem Zbod:tbl 221=some Z93:=Zh Tryz.func221 (by kernel_rfl) (by kernel_rfl)
def Znk:MCode :=.we [.m 6 0,.bk 7 .gtr 6 0] [0,3,7] 7 0 (.block 1 (.r [.m 8 0,.bk 9 .rem 8 10,.o 10 (.bin .add (.k 48) (.s 9)),.o 11 (.conv .u8 (.s 10)),.o 12 (.bslice 5 1 1 [.int .u8 0] [(0,.s 11)]),.o 13 (.tostr (.s 12)),.m 14 3,.b 15 .add 13 14,.m 3 15] [0,3] (.reg [.m 16 0,.bk 17 .quo 16 10,.m 0 17] [0,3])))
def Zx8:MFun:=⟨1,20,[.tmp 2],.r [.o 2 (.mov (.c (.t (.str ⟨#[]⟩))))] [0] (.wc [.m 4 0,.bk 5 .leq 4 0] [0,5] 5 (.r [.o 2 (.mov (.c (.t (.str ⟨#[109,48]⟩))))] [2] .ret) (.r [.o 3 (.mov (.c (.t (.str ⟨#[]⟩))))] [0,3] (.seq (.block 0 (.loop [0,3] Znk)) (.r [.m 18 3,.o 19 (.bin .add (.c (.t (.str ⟨#[109]⟩))) (.s 18)),.m 2 19] [2] .ret))))⟩
theorem Z94:tbl 222=some Zx8:=Zh Tryz.func222 (by kernel_rfl) (by kernel_rfl)
def Z95:MFun:=⟨2,19,[.tmp 4],.r [.bx 2 0,.mk' 4 0] [1,2] (.r [.m 5 1,.fa 6 0 2,.l 7 6,.o 8 (.len true (.s 7)),.b 9 .sub 5 8,.m 1 9] [1,2] (.wc [.m 10 1,.bk 11 .lss 10 0] [1,2,11] 11 (.r [.mk' 4 (-1)] [4] .ret) (.r [.fa 12 2 2,.l 13 12,.m 14 1,.cl 15 78 [13,14],.m 1 15] [1] (.wc [.m 16 1,.bk 17 .lss 16 0] [1,17] 17 (.r [.mk' 4 (-1)] [4] .ret) (.r [.m 18 1,.m 4 18] [4] .ret)))))⟩
theorem Zboe:tbl 223=some Z95:=Zh Tryz.func223 (by kernel_rfl) (by kernel_rfl)
def Z96:MFun:=⟨1,15,[.cell 2 (some 3)],.r [.bx 1 0,.o 2 (.alloc [.t (.str ⟨#[]⟩),.t .z,.t .nil])] [1,2] (.r [.o 3 (.alloc [.t (.str ⟨#[]⟩),.t .z,.t .nil])] [1,2,3] (.r [.fa 4 0 1,.l 5 4,.fa 6 0 3,.st 1 6 5] [1,2,3] (.r [.fa 7 1 1,.l 8 7,.fa 9 1 3,.st 1 9 8] [1,2,3] (.r [.fa 10 2 1,.l 11 10,.cl 12 93 [11],.fa 13 2 3,.st 1 13 12] [2,3] (.r [.ln 14 3 3,.st 3 2 14] [2] .ret)))))⟩
theorem Zbof:tbl 228=some Z96:=Zh Tryz.func228 (by kernel_rfl) (by kernel_rfl)
def Z97:MFun:=⟨2,21,[.tmp 4],.r [.bx 2 0,.bx 3 1,.o 4 (.mov (.q false))] [2,3] (.wc [.fa 5 0 2,.l 6 5,.fa 7 0 3,.l 8 7,.b 9 .neq 6 8] [2,3,9] 9 (.r [.o 4 (.mov (.q false))] [4] .ret) (.wc [.fa 10 1 2,.l 11 10,.fa 12 1 3,.l 13 12,.b 14 .neq 11 13] [2,3,14] 14 (.r [.o 4 (.mov (.q false))] [4] .ret) (.wc [.fa 15 2 2,.l 16 15,.fa 17 2 3,.l 18 17,.cl 19 102 [16,18],.o 20 (.un .not (.s 19))] [20] 20 (.r [.o 4 (.mov (.q false))] [4] .ret) (.r [.o 4 (.mov (.q true))] [4] .ret))))⟩
theorem Zbog:tbl 233=some Z97:=Zh Tryz.func233 (by kernel_rfl) (by kernel_rfl)
def Z98:MFun:=⟨2,20,[.tmp 4],.r [.bx 2 0,.bx 3 1,.o 4 (.mov (.q false))] [2,3] (.wc [.fa 5 0 2,.l 6 5,.fa 7 0 3,.l 8 7,.b 9 .neq 6 8] [2,3,9] 9 (.r [.o 4 (.mov (.q false))] [4] .ret) (.wc [.fa 10 1 2,.l 11 10,.fa 12 1 3,.l 13 12,.b 14 .neq 11 13] [2,3,14] 14 (.r [.o 4 (.mov (.q false))] [4] .ret) (.wc [.fa 15 2 2,.l 16 15,.fa 17 2 3,.l 18 17,.b 19 .neq 16 18] [19] 19 (.r [.o 4 (.mov (.q false))] [4] .ret) (.r [.o 4 (.mov (.q true))] [4] .ret))))⟩
theorem Zboh:tbl 238=some Z98:=Zh Tryz.func238 (by kernel_rfl) (by kernel_rfl)
def Z99:MFun:=⟨1,11,[.cell 2 (some 2)],.r [.bx 1 0,.o 2 (.alloc [.t .z,.t .z])] [1,2] (.r [.o 3 (.alloc [.t .z,.t .z])] [1,2,3] (.r [.fa 4 0 1,.l 5 4,.fa 6 0 3,.st 1 6 5] [1,2,3] (.r [.fa 7 1 1,.l 8 7,.fa 9 1 3,.st 1 9 8] [2,3] (.r [.ln 10 2 3,.st 2 2 10] [2] .ret))))⟩
theorem Zboi:tbl 294=some Z99:=Zh Tryz.func294 (by kernel_rfl) (by kernel_rfl)
def Zbaa:MFun:=⟨2,15,[.tmp 4],.r [.bx 2 0,.bx 3 1,.o 4 (.mov (.q false))] [2,3] (.wc [.fa 5 0 2,.l 6 5,.fa 7 0 3,.l 8 7,.b 9 .neq 6 8] [2,3,9] 9 (.r [.o 4 (.mov (.q false))] [4] .ret) (.wc [.fa 10 1 2,.l 11 10,.fa 12 1 3,.l 13 12,.b 14 .neq 11 13] [14] 14 (.r [.o 4 (.mov (.q false))] [4] .ret) (.r [.o 4 (.mov (.q true))] [4] .ret)))⟩
theorem Zboj:tbl 299=some Zbaa:=Zh Tryz.func299 (by kernel_rfl) (by kernel_rfl)
end Go.Proofs.YtgnfoghkbpkgjaaGreat
