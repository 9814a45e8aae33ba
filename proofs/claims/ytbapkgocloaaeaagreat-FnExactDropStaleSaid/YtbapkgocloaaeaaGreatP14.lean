/-
  Parts of the proofs for this seat: DF DF2 DFN.
-/
import Derived.Lib.SlBy
import Derived.Test.YtbapkgocloaaeaaGreatP13
set_option linter.unusedSimpArgs false
set_option linter.unusedVariables false
set_option maxRecDepth 100000
set_option maxHeartbeats 4000000
namespace Go.Proofs.YtbapkgocloaaeaaGreat
open Go.RowKit Go.Lib
theorem Z6c {w:World} {o:Obj} {p:Addr} {v:Value} (h:w.cell? p=some v):(w.alloc o).cell? p=some v:=by
 have hl:p.block<w.heap.size:=by
  rcases Nat.lt_or_ge p.block w.heap.size with h' | h'
  ·exact h'
  ·simp [World.cell?,Array.getElem?_eq_none h'] at h
 rw [← h]
 unfold World.cell?
 simp only [World.alloc,Array.getElem?_push,if_neg (Nat.ne_of_lt hl)]
set_option maxHeartbeats 4000000 in
set_option maxRecDepth 1000000 in
theorem clo_walk (v0 v1 v2 v3 v4 v5 v7:Value) (x ver:Int) (vb:Nat) (w:World) (hv:w.cell? ⟨vb,0,none⟩=some (.int .i64 ver)) :
  Calls Tryz.prog 173 #[.agg #[v0,v1,v2,v3,v4,v5,.int .i64 x,v7],.pointer (some ⟨vb,0,none⟩)] w fun e w'=>e=.returned (.bool (x != ver))∧Below w.heap.size w w':=by
 have mixed:Tryz.prog.follows Departure.mixedOrders=true:=by kernel_rfl
 have hv2:=Z6c (o:=Obj.cells #[v0,v1,v2,v3,v4,v5,Value.int IntKind.i64 x,v7] 114) hv
 have hB:=(Below.refl w.heap.size w).alloc (Nat.le_refl _) (Obj.cells #[v0,v1,v2,v3,v4,v5,Value.int IntKind.i64 x,v7] 114)
 go_enter Tryz.func173,Tryz.ntmps173
 go_wp2
 go_ret
 exact ⟨rfl,hB⟩
def old (ver:Int):List Value→Bool
 | [_,_,_,_,_,_,.int .i64 x,_]=>x != ver
 | _=>false
def Znm (ys:List Value):Prop:=∃ v0 v1 v2 v3 v4 v5 x v7,ys=[v0,v1,v2,v3,v4,v5,.int .i64 x,v7]
theorem clo_at {ys:List Value} (hy:Znm ys) (ver:Int) (vb:Nat) (w:World) (hv:w.cell? ⟨vb,0,none⟩=some (.int .i64 ver)) :
  Calls Tryz.prog 173 #[.agg ys.toArray,.pointer (some ⟨vb,0,none⟩)] w fun e w'=>e=.returned (.bool (old ver ys))∧Below w.heap.size w w':=by
 obtain ⟨v0,v1,v2,v3,v4,v5,x,v7,rfl⟩:=hy
 exact clo_walk v0 v1 v2 v3 v4 v5 v7 x ver vb w hv
set_option maxHeartbeats 4000000 in
set_option maxRecDepth 1000000 in
theorem idx_walk (b vb n c:Nat) (ver:Int) (zs:List (List Value)) (w:World) (hz:n≤zs.length) (hbig:n≤9223372036854775807) (hb:b<w.heap.size) (hvb:vb<w.heap.size) (hv:w.cell? ⟨vb,0,none⟩=some (.int .i64 ver))
  (hE:∀ j,j<n→Znm zs[j]!)
  (hc:∀ j,j<n→∀ i v,(zs[j]!)[i]?=some v→w.cell? ⟨b,j*8+i,none⟩=some v) :
  Calls Tryz.prog 158 #[.slice (some ⟨b,0,none⟩) n c,.func (.func 173) #[] #[.pointer (some ⟨vb,0,none⟩)]] w fun e w'=>e=.returned (.int .i64 (Lib.idxBy (fun _ y=>old ver y) (zs.take n) default))∧Below w.heap.size w w':=by
 have mixed:Tryz.prog.follows Departure.mixedOrders=true:=by kernel_rfl
 have hrow:∀ (W:World),Below w.heap.size w W→∀ j,j<n→∀ i v,(zs[j]!)[i]?=some v→W.cell? ⟨b,j*8+i,none⟩=some v:=fun W hW j hj i v hi=>by
   rw [hW.cell (p:=⟨b,j*8+i,none⟩) hb]
   exact hc j hj i v hi
 have hp:∀ (W:World),Below w.heap.size w W→∀ j,j<n→Calls Tryz.prog 173 #[.agg (zs[j]!).toArray,.pointer (some ⟨vb,0,none⟩)] W fun e w'=>e=.returned (.bool (old ver zs[j]!))∧Below w.heap.size w w':=fun W hW j hj =>
  (clo_at (hE j hj) ver vb W (by rw [hW.cell (p:=⟨vb,0,none⟩) hvb];exact hv)).mono fun _ _ ⟨e,h⟩=>⟨e,hW.trans (h.mono hW.size)⟩
 clear hc
 go_enter Tryz.func158,Tryz.ntmps158
 go_wp2
 go_loopg [5,8] n (fun gg _ s8 wr=>∃ kk:Nat,kk≤n∧n - kk≤gg∧s8=.int .i64 kk∧Aside (Below w.heap.size w wr)∧Aside (∀ j,j<kk→old ver zs[j]! = false))
 case atStart=>exact ⟨0,Nat.zero_le _,by omega,rfl,Below.refl _ w,fun j hj=>absurd hj (Nat.not_lt_zero _)⟩
 case round =>
  obtain ⟨kk,hkk,hg,rfl,BW,A⟩:=hrel
  by_cases hlt:kk<n
  ·have hltz:(kk:Int)<(n:Int):=by omega
   have l2:=hrow wr BW.out kk (by omega)
   have hcall:=hp wr BW.out kk (by omega)
   have he:=hE kk (by omega)
   clear hrow hp hE
   generalize hy:zs[kk]! = y at l2 hcall he
   obtain ⟨v0,v1,v2,v3,v4,v5,x,v7,rfl⟩:=he
   have B:Aside (zs[kk]! = _):=hy
   clear hy
   have c0:=l2 0 _ rfl
   have c1:=l2 1 _ rfl
   have c2:=l2 2 _ rfl
   have c3:=l2 3 _ rfl
   have c4:=l2 4 _ rfl
   have c5:=l2 5 _ rfl
   have c6:=l2 6 _ rfl
   have c7:=l2 7 _ rfl
   simp only [Nat.add_zero] at c0
   clear l2
   cases hq:old ver [v0,v1,v2,v3,v4,v5,.int .i64 x,v7] with
   | true =>
    rw [hq] at hcall
    go_wp2_with (refine hcall.mono ?_;rintro e w' ⟨rfl,hb'⟩)
    go_ret
    refine ⟨?_,hb'⟩
    rw [Lib.idxBy_hit (fun _ y=>old ver y) zs n kk default hlt hz (by show old ver zs[kk]! = true;rw [B.out];exact hq) A.out]
    rfl
   | false =>
    rw [hq] at hcall
    go_wp2_with (refine hcall.mono ?_;rintro e w' ⟨rfl,hb'⟩)
    go_roundg (n - (kk+1))
    case measure=>omega
    case rel =>
     refine ⟨kk+1,by omega,by omega,by go_num,hb',(show Aside _ from fun j hj=>?_)⟩
     by_cases e:j=kk
     ·subst e
      rw [B.out];exact hq
     ·exact A.out j (by omega)
  ·have hltz:¬ (kk:Int)<(n:Int):=by omega
   have:kk=n:=by omega
   subst this
   go_wp2
   go_ret
   refine ⟨?_,BW.out⟩
   rw [Lib.idxBy_miss (fun _ y=>old ver y) zs kk default A.out]
   rfl
end Go.Proofs.YtbapkgocloaaeaaGreat
namespace Go.Proofs.YtbapkgocloaaeaaGreat
open Go.RowKit Go.Lib
theorem idx_spec (eq:List Value→Bool) (l:List (List Value)):(Lib.idxBy (fun _ y=>eq y) l default=-1∧∀ j,j<l.length→eq l[j]! = false)∨∃ k,k<l.length∧Lib.idxBy (fun _ y=>eq y) l default=(k:Int)∧eq l[k]! = true∧∀ j,j<k→eq l[j]! = false:=by
 by_cases h:∃ k,k<l.length∧eq l[k]! = true
 ·obtain ⟨k,hk,ht⟩:=h
  induction k using Nat.strongRecOn with
  | _ k ih =>
   by_cases h2:∃ j,j<k∧eq l[j]! = true
   ·obtain ⟨j,hj,hj2⟩:=h2
    exact ih j hj (by omega) hj2
   ·have hne:∀ j,j<k→eq l[j]! = false:=fun j hj=>by
     cases hq:eq l[j]! with
     | true=>exact absurd ⟨j,hj,hq⟩ h2
     | false=>rfl
    refine .inr ⟨k,hk,?_,ht,hne⟩
    have:=Lib.idxBy_hit (fun _ y=>eq y) l l.length k default hk (Nat.le_refl _) ht hne
    rwa [List.take_length] at this
 ·have hne:∀ j,j<l.length→eq l[j]! = false:=fun j hj=>by
   cases hq:eq l[j]! with
   | true=>exact absurd ⟨j,hj,hq⟩ h
   | false=>rfl
  refine .inl ⟨?_,hne⟩
  have:=Lib.idxBy_miss (fun _ y=>eq y) l l.length default hne
  rwa [List.take_length] at this
def kept (ver:Int) (zs:List (List Value)):List (List Value):=zs.filter fun z=>!old ver z
theorem Zvy {ver:Int} {zs:List (List Value)} {j:Nat} (hj:j<zs.length):kept ver (zs.take (j+1))=kept ver (zs.take j)++if old ver zs[j]! then [] else [zs[j]!]:=by
 unfold kept
 rw [List.take_succ_eq_append_getElem hj,List.filter_append,getElem!_pos zs j hj]
 congr 1
 cases h:old ver zs[j] <;> simp [List.filter,h]
theorem Z6d {ver:Int} {zs:List (List Value)} {k:Nat} (hk:k≤zs.length) (h:∀ j,j<k→old ver zs[j]! = false):kept ver (zs.take k)=zs.take k:=by
 unfold kept
 rw [List.filter_eq_self]
 intro z hz
 obtain ⟨j,hj⟩:=List.mem_iff_getElem?.1 hz
 have hj1:=(List.getElem?_eq_some_iff.1 hj).1
 rw [List.length_take] at hj1
 rw [List.getElem?_take_of_lt (by omega)] at hj
 have:=h j (by omega)
 rw [List.getElem!_eq_getElem?_getD,hj] at this
 simpa using this
theorem flat8 {zs:List (List Value)} (h:∀ z∈zs,z.length=8):zs.flatten.length=zs.length*8:=by
 induction zs with
 | nil=>rfl
 | cons z zs ih =>
  rw [List.flatten_cons,List.length_append,h z (by simp),ih fun x hx=>h x (by simp [hx]),List.length_cons]
  omega
theorem flat_at {zs:List (List Value)} (h:∀ z∈zs,z.length=8) {j i:Nat} {v:Value} (hj:j<zs.length) (hv:(zs[j]!)[i]?=some v):zs.flatten[j*8+i]?=some v:=by
 induction zs generalizing j with
 | nil=>exact absurd hj (Nat.not_lt_zero _)
 | cons z zs ih =>
  rw [List.flatten_cons]
  cases j with
  | zero =>
   have hv:z[i]?=some v:=by simpa using hv
   rw [Nat.zero_mul,Nat.zero_add,List.getElem?_append_left (List.getElem?_eq_some_iff.1 hv).1,hv]
  | succ j =>
   have hz:=h z (by simp)
   rw [List.getElem?_append_right (by omega),hz,show (j+1)*8+i - 8=j*8+i by omega]
   exact ih (fun x hx=>h x (by simp [hx])) (by simpa using hj) (by simpa using hv)
structure FInv (ver:Int) (zs:List (List Value)) (b te:Nat) (cur:Array Value) (w wr:World) (i j:Nat):Prop where
 len:(kept ver (zs.take j)).length=i
 lt:i<j
 grown:w.grownBy wr (some b)
 row:∃ c,wr.heap[b]?=some (.cells c te (0,0))∧c.toList=(kept ver (zs.take j)).flatten++cur.toList.drop (i*8)
theorem Z6e {w wr w1:World} {b:Nat} (h:w.grownBy wr (some b)) (k:Below wr.heap.size wr w1):w.grownBy w1 (some b):=by
 obtain ⟨a1,a2,a3,a4,a5⟩:=h
 exact ⟨k.os.trans a1,k.tape.trans a2,k.output.trans a3,Nat.le_trans a4 k.size,fun x hx hn=>(k.block x (by omega)).trans (a5 x hx hn)⟩
theorem kept8 {ver:Int} {zs:List (List Value)} (h:∀ z∈zs,z.length=8) (j:Nat):(kept ver (zs.take j)).flatten.length=(kept ver (zs.take j)).length*8 :=
 flat8 fun z hz=>h z (List.mem_of_mem_take (List.mem_filter.1 hz).1)
theorem FInv.size {ver:Int} {zs:List (List Value)} {b te:Nat} {cur:Array Value} {w wr:World} {i j:Nat} (I:FInv ver zs b te cur w wr i j) (h8:∀ z∈zs,z.length=8) (hi:i*8≤cur.size):∃ c,wr.heap[b]?=some (.cells c te (0,0))∧c.toList=(kept ver (zs.take j)).flatten++cur.toList.drop (i*8)∧c.size=cur.size∧(kept ver (zs.take j)).flatten.length=i*8:=by
 obtain ⟨c,h1,h2⟩:=I.row
 have h3:=kept8 (ver:=ver) h8 j
 rw [I.len] at h3
 refine ⟨c,h1,h2,?_,h3⟩
 rw [← Array.length_toList,h2,List.length_append,h3,List.length_drop,Array.length_toList]
 omega
theorem FInv.read {ver:Int} {zs:List (List Value)} {b te:Nat} {cur:Array Value} {w wr:World} {i j:Nat} (I:FInv ver zs b te cur w wr i j) (h8:∀ z∈zs,z.length=8) (hi:i*8≤cur.size) (hc:∀ t v,(zs[j]!)[t]?=some v→cur[j*8+t]?=some v) :
  ∀ t v,(zs[j]!)[t]?=some v→wr.cell? ⟨b,j*8+t,none⟩=some v:=by
 intro t v hv
 obtain ⟨c,h1,h2,h3,h4⟩:=I.size h8 hi
 have:=I.lt
 rw [Zi9 h1,← Array.getElem?_toList,h2,List.getElem?_append_right (by omega),List.getElem?_drop,h4,show i*8+(j*8+t - i*8)=j*8+t by omega,Array.getElem?_toList]
 exact hc t v hv
theorem FInv.skip {ver:Int} {zs:List (List Value)} {b te:Nat} {cur:Array Value} {w wr w1:World} {i j:Nat} (I:FInv ver zs b te cur w wr i j) (hj:j<zs.length) (ho:old ver zs[j]! = true) (hw:w1.heap.size ≥ wr.heap.size) (hb:b<wr.heap.size) (B:Below wr.heap.size wr w1):FInv ver zs b te cur w w1 i (j+1):=by
 have hs:=Zvy (ver:=ver) hj
 rw [ho,if_pos rfl,List.append_nil] at hs
 obtain ⟨c,h1,h2⟩:=I.row
 exact ⟨by rw [hs];exact I.len,Nat.lt_succ_of_lt I.lt,Z6e I.grown B,⟨c,by rw [B.block b hb];exact h1,by rw [hs];exact h2⟩⟩
theorem FInv.keep {ver:Int} {zs:List (List Value)} {b te:Nat} {cur:Array Value} {w wr w1:World} {i j:Nat} (I:FInv ver zs b te cur w wr i j) (h8:∀ z∈zs,z.length=8) (hcs:zs.length*8≤cur.size) (h1v:∀ z∈zs,∀ v∈z,v.oneCell'=true) (hj:j<zs.length) (ho:old ver zs[j]! = false) (hb:b<wr.heap.size) (B:Below wr.heap.size wr w1):FInv ver zs b te cur w (w1.setCells b (i*8) zs[j]!) (i+1) (j+1):=by
 have hs:=Zvy (ver:=ver) hj
 rw [ho,if_neg (by decide)] at hs
 have hlt:=I.lt
 obtain ⟨c,h1,h2,h3,h4⟩:=I.size h8 (by omega)
 have hg:w1.heap[b]?=some (.cells c te (0,0)):=by rw [B.block b hb];exact h1
 have hm:zs[j]!∈zs:=by rw [getElem!_pos zs j hj];exact List.getElem_mem _
 have hz:=h8 _ hm
 rw [Z6a hg (by rw [hz,h3];omega) (h1v _ hm),hz]
 have G:=Z6e I.grown B
 obtain ⟨a1,a2,a3,a4,a5⟩:=G
 refine ⟨by rw [hs,List.length_append,I.len];rfl,by omega,⟨a1,a2,a3,by rw [setRow_size];exact a4,fun k hk hn=>(setRow_other w1 b k _ (fun e=>hn (by rw [e]))).trans (a5 k hk hn)⟩,⟨_,setRow_heap w1 b c _ te (0,0) hg,?_⟩⟩
 show c.toList.take (i*8)++zs[j]!++c.toList.drop (i*8+8)=_
 rw [hs,List.flatten_append,h2,List.take_left' h4,List.drop_append,h4,List.drop_eq_nil_of_le (by omega),List.nil_append,List.drop_drop,show i*8+(i*8+8 - i*8)=(i+1)*8 by omega]
 simp
theorem Zbkz {zs:List (List Value)} (h:∀ z∈zs,z.length=8) (k:Nat) (hk:k≤zs.length):(zs.take k).flatten=zs.flatten.take (k*8):=by
 have h1:(zs.take k).flatten.length=k*8:=by
  rw [flat8 fun z hz=>h z (List.mem_of_mem_take hz),List.length_take,Nat.min_eq_left hk]
 have h2:zs.flatten=(zs.take k).flatten++(zs.drop k).flatten:=by rw [← List.flatten_append,List.take_append_drop]
 rw [h2,List.take_left' h1]
theorem Zvz (w:World) (o:Obj):(w.alloc o).heap.size=w.heap.size+1:=by
 show (w.heap.push o).size=_
 rw [Array.size_push]
theorem alloc_at (w:World) (o:Obj):(w.alloc o).heap[w.heap.size]?=some o:=by
 show (w.heap.push o)[w.heap.size]?=_
 rw [Array.getElem?_push_size]
theorem clo_call {v0 v1 v2 v3 v4 v5 v7:Value} {x ver:Int} {vb b i te:Nat} {wr:World} {c:Array Value} (hb:b<wr.heap.size) (hc:wr.heap[b]?=some (.cells c te (0,0))) (hi:i*8+8≤c.size) (hv:wr.cell? ⟨vb,0,none⟩=some (.int .i64 ver)) :
  Calls Tryz.prog 173 #[.agg #[v0,v1,v2,v3,v4,v5,.int .i64 x,v7],.pointer (some ⟨vb,0,none⟩)] (wr.alloc (Obj.cells #[v0,v1,v2,v3,v4,v5,.int .i64 x,v7] 114)) fun e w1=>e=.returned (.bool (old ver [v0,v1,v2,v3,v4,v5,.int .i64 x,v7]))∧Hid (Below wr.heap.size wr w1) ∧
      (w1.cell? ⟨wr.heap.size,0,none⟩=some v0∧w1.cell? ⟨wr.heap.size,1,none⟩=some v1∧w1.cell? ⟨wr.heap.size,2,none⟩=some v2∧w1.cell? ⟨wr.heap.size,3,none⟩=some v3∧w1.cell? ⟨wr.heap.size,4,none⟩=some v4∧w1.cell? ⟨wr.heap.size,5,none⟩=some v5∧w1.cell? ⟨wr.heap.size,6,none⟩=some (.int .i64 x)∧w1.cell? ⟨wr.heap.size,7,none⟩=some v7)∧∃ o0 o1 o2 o3 o4 o5 o6 o7,w1.cell? ⟨b,i*8,none⟩=some o0∧w1.frozen? ⟨b,i*8,none⟩=false∧w1.cell? ⟨b,i*8+1,none⟩=some o1∧w1.frozen? ⟨b,i*8+1,none⟩=false∧w1.cell? ⟨b,i*8+2,none⟩=some o2∧w1.frozen? ⟨b,i*8+2,none⟩=false∧w1.cell? ⟨b,i*8+3,none⟩=some o3∧w1.frozen? ⟨b,i*8+3,none⟩=false∧w1.cell? ⟨b,i*8+4,none⟩=some o4∧w1.frozen? ⟨b,i*8+4,none⟩=false∧w1.cell? ⟨b,i*8+5,none⟩=some o5∧w1.frozen? ⟨b,i*8+5,none⟩=false∧w1.cell? ⟨b,i*8+6,none⟩=some o6∧w1.frozen? ⟨b,i*8+6,none⟩=false∧w1.cell? ⟨b,i*8+7,none⟩=some o7∧w1.frozen? ⟨b,i*8+7,none⟩=false:=by
 have hcall:=clo_at (ys:=[v0,v1,v2,v3,v4,v5,.int .i64 x,v7]) ⟨_,_,_,_,_,_,_,_,rfl⟩ ver vb (wr.alloc (Obj.cells #[v0,v1,v2,v3,v4,v5,.int .i64 x,v7] 114)) (Z6c hv)
 refine hcall.mono fun e w1 ⟨he,B⟩=>⟨he,((Below.refl _ _).alloc (Nat.le_refl _) _).trans (B.mono (by rw [Zvz];omega)),?_,?_⟩
 ·have hb2:w1.heap[wr.heap.size]?=some (Obj.cells #[v0,v1,v2,v3,v4,v5,.int .i64 x,v7] 114 (0,0)):=by
   rw [B.block _ (by rw [Zvz];omega)]
   exact alloc_at _ _
  refine ⟨?_,?_,?_,?_,?_,?_,?_,?_⟩ <;> rw [Zi9 hb2] <;> rfl
 ·have hb2:w1.heap[b]?=some (Obj.cells c te (0,0)):=by
   rw [B.block _ (by rw [Zvz];omega),Below.heap_alloc _ _ _ hb]
   exact hc
  have hbd:∀ t,t<8→i*8+t<c.size:=fun t ht=>by omega
  refine ⟨c[i*8+0]'(hbd 0 (by decide)),c[i*8+1]'(hbd 1 (by decide)),c[i*8+2]'(hbd 2 (by decide)),c[i*8+3]'(hbd 3 (by decide)),c[i*8+4]'(hbd 4 (by decide)),c[i*8+5]'(hbd 5 (by decide)),c[i*8+6]'(hbd 6 (by decide)),c[i*8+7]'(hbd 7 (by decide)),?_⟩
  refine ⟨?_,?_,?_,?_,?_,?_,?_,?_,?_,?_,?_,?_,?_,?_,?_,?_⟩ <;> first
   | exact Zvx hb2
   | rw [Zi9 hb2];exact Array.getElem?_eq_getElem _
set_option maxHeartbeats 4000000 in
set_option maxRecDepth 1000000 in
theorem Zbk0 (b vb n cap te:Nat) (ver:Int) (zs:List (List Value)) (cur:Array Value) (w:World) (hh:w.heap[b]?=some (.cells cur te (0,0))) (hzn:zs.length=n) (hcur:cur.toList.take (n*8)=zs.flatten) (hsz:cur.size=cap*8) (hn:n≤cap) (hm:cap≤9223372036854775807)
  (hE:∀ z∈zs,Znm z) (h1:∀ z∈zs,∀ v∈z,v.oneCell'=true) (hvb:vb<w.heap.size) (hne:vb≠b) (hv:w.cell? ⟨vb,0,none⟩=some (.int .i64 ver)) :
  Calls Tryz.prog 172 #[.slice (some ⟨b,0,none⟩) n cap,.func (.func 173) #[] #[.pointer (some ⟨vb,0,none⟩)]] w fun e w'=>e=.returned (.slice (some ⟨b,0,none⟩) (kept ver zs).length cap) ∧
   (∃ c2,w'.heap[b]?=some (.cells c2 te (0,0))∧c2.toList=(kept ver zs).flatten++(Builtin.zeroCells zEnt.cells (n - (kept ver zs).length)).toList++cur.toList.drop (n*8))∧w.grownBy w' (some b):=by
 have mixed:Tryz.prog.follows Departure.mixedOrders=true:=by kernel_rfl
 have h8:∀ z∈zs,z.length=8:=fun z hz=>by obtain ⟨_,_,_,_,_,_,_,_,h⟩:=hE z hz;rw [h];rfl
 have hb:b<w.heap.size:=(Array.getElem?_eq_some_iff.1 hh).1
 have hfl:=flat8 h8
 have hEj:∀ j,j<n→Znm zs[j]!:=fun j hj=>by rw [getElem!_pos zs j (by omega)];exact hE _ (List.getElem_mem _)
 have hcj:∀ j,j<n→∀ i v,(zs[j]!)[i]?=some v→j*8+i<n*8∧cur[j*8+i]?=some v:=fun j hj i v hi=>by
  have ha:=flat_at h8 (by omega) hi
  have hl:=(List.getElem?_eq_some_iff.1 ha).1
  rw [hfl,hzn] at hl
  rw [← hcur,List.getElem?_take_of_lt hl,Array.getElem?_toList] at ha
  exact ⟨hl,ha⟩
 have hIF:=idx_walk b vb n cap ver zs w (by omega) (by omega) hb hvb hv hEj (fun j hj i v hi=>by rw [Zi9 hh];exact (hcj j hj i v hi).2)
 rw [← hzn,List.take_length,hzn] at hIF
 rcases idx_spec (old ver) zs with ⟨e1,hall⟩ | ⟨k0,hk0,e1,ht,hall⟩
 ·rw [e1] at hIF
  have hk:kept ver zs=zs:=by
   have:=Z6d (ver:=ver) (Nat.le_refl zs.length) hall
   rwa [List.take_length] at this
  rw [hk,hzn,Nat.sub_self]
  have HH:Aside (w.heap[b]?=some (.cells cur te (0,0))):=hh
  clear hh hcj hEj hE h1
  go_enter Tryz.func172,Tryz.ntmps172
  go_wp2_with (refine hIF.mono ?_;rintro e w' ⟨rfl,hb'⟩)
  go_ret
  refine ⟨rfl,⟨cur,by rw [hb'.block b hb];exact HH.out,?_⟩,⟨hb'.os,hb'.tape,hb'.output,hb'.size,fun k hk _=>hb'.block k hk⟩⟩
  rw [← hcur]
  simp [Builtin.zeroCells]
 ·rw [e1] at hIF
  have hne1:((k0:Int) == -1)=false:=beq_eq_false_iff_ne.2 (by omega)
  have st1:kept ver (zs.take k0)=zs.take k0:=Z6d (Nat.le_of_lt hk0) hall
  have st2:=Zvy (ver:=ver) hk0
  rw [ht,if_pos rfl,List.append_nil,st1] at st2
  rw [hzn] at hk0
  have HH:Aside (w.heap[b]?=some (.cells cur te (0,0))):=hh
  clear hall ht e1 st1
  obtain ⟨Z,hZ⟩:∃ Z:Nat→List Value,∀ m,Z m=(Builtin.zeroCells zEnt.cells m).toList:=⟨_,fun _=>rfl⟩
  rw [← hZ]
  have ZD:Hid (∀ m,Z m=(Builtin.zeroCells zEnt.cells m).toList):=hZ
  clear hZ
  have HC:Aside _:=hcj
  have HE:Aside _:=hEj
  have H8:Aside _:=h8
  have HV:Aside _:=hv
  have H1:Aside _:=h1
  have HF:Aside _:=hfl
  clear hh hcj hEj hE h1 h8 hv hfl
  go_enter Tryz.func172,Tryz.ntmps172
  go_wp2_with (refine hIF.mono ?_;rintro e w' ⟨rfl,hb'⟩)
  go_loopg [5,6,7] n (fun gg s5 s6 _ wr=>∃ (i j:Nat),s5=.int .i64 i∧s6=.int .i64 j∧j≤n∧n - j≤gg∧Aside (FInv ver zs b te cur w wr i j))
  case atStart =>
   refine ⟨k0,k0+1,rfl,by go_num,by omega,by omega,(show Aside _ from ⟨?_,Nat.lt_succ_self _,⟨hb'.os,hb'.tape,hb'.output,hb'.size,fun k hk _=>hb'.block k hk⟩,⟨cur,by rw [hb'.block b hb];exact HH.out,?_⟩⟩)⟩
   ·rw [st2,List.length_take,Nat.min_eq_left (by omega)]
   ·rw [st2,Zbkz H8.out k0 (by omega),← hcur,List.take_take,Nat.min_eq_left (by omega),List.take_append_drop]
  case round =>
   obtain ⟨i,j,rfl,rfl,hjn,hgg,I2⟩:=hrel
   have hij:=I2.out.lt
   have hbr:Hid (b<wr.heap.size):=by obtain ⟨_,_,_,a4,_⟩:=I2.out.grown;exact Nat.lt_of_lt_of_le hb a4
   by_cases hlt:j<n
   ·have hltz:(j:Int)<(n:Int):=by omega
    have l2:=I2.out.read H8.out (by omega) (fun t v hv=>(HC.out j hlt t v hv).2)
    have he:=HE.out j hlt
    have K2:Hid (∀ w1,old ver zs[j]! = false→Below wr.heap.size wr w1→FInv ver zs b te cur w (w1.setCells b (i*8) zs[j]!) (i+1) (j+1)):=fun w1 ho B=>I2.out.keep H8.out (by omega) H1.out (by omega) ho hbr.out B
    have S2:Hid (∀ w1,old ver zs[j]! = true→Below wr.heap.size wr w1→FInv ver zs b te cur w w1 i (j+1)):=fun w1 ho B=>I2.out.skip (by omega) ho B.size hbr.out B
    have Rw:Hid (∃ c,wr.heap[b]?=some (.cells c te (0,0))∧c.size=cap*8):=by
     obtain ⟨c,h1,_,h3,_⟩:=I2.out.size H8.out (by omega)
     exact ⟨c,h1,by rw [h3,hsz]⟩
    have hvr:Hid (vb<wr.heap.size∧wr.cell? ⟨vb,0,none⟩=some (.int .i64 ver)):=by
     obtain ⟨_,_,_,a4,a5⟩:=I2.out.grown
     refine ⟨by omega,?_⟩
     rw [← HV.out]
     exact World.cell?_of_block (w:=w) (a5 vb hvb (by intro e;cases e;exact hne rfl))
    have O1:Hid (∀ v∈zs[j]!,v.oneCell'=true):=H1.out _ (by rw [getElem!_pos zs j (by omega)];exact List.getElem_mem _)
    generalize zs[j]! = y at l2 he K2 S2 O1
    obtain ⟨v0,v1,v2,v3,v4,v5,x,v7,rfl⟩:=he
    have c0:=l2 0 _ rfl
    have c1:=l2 1 _ rfl
    have c2:=l2 2 _ rfl
    have c3:=l2 3 _ rfl
    have c4:=l2 4 _ rfl
    have c5:=l2 5 _ rfl
    have c6:=l2 6 _ rfl
    have c7:=l2 7 _ rfl
    simp only [Nat.add_zero] at c0
    clear l2 I2
    obtain ⟨c,hc,hcz⟩:=Rw.out
    have hcall2:=clo_call (v0:=v0) (v1:=v1) (v2:=v2) (v3:=v3) (v4:=v4) (v5:=v5) (v7:=v7) (x:=x) (i:=i) hbr.out hc (by omega) hvr.out.2
    clear hc hcz Rw c
    have st:∀ v∈[v0,v1,v2,v3,v4,v5,.int .i64 x,v7],v.oneCell'=true:=O1.out
    have s0:=fun a m w=>run_store Tryz.prog w a v0 m (st _ (by simp))
    have s1:=fun a m w=>run_store Tryz.prog w a v1 m (st _ (by simp))
    have s2:=fun a m w=>run_store Tryz.prog w a v2 m (st _ (by simp))
    have s3:=fun a m w=>run_store Tryz.prog w a v3 m (st _ (by simp))
    have s4:=fun a m w=>run_store Tryz.prog w a v4 m (st _ (by simp))
    have s5:=fun a m w=>run_store Tryz.prog w a v5 m (st _ (by simp))
    have s7:=fun a m w=>run_store Tryz.prog w a v7 m (st _ (by simp))
    clear st
    clear hIF
    cases hq:old ver [v0,v1,v2,v3,v4,v5,.int .i64 x,v7] with
    | true =>
     rw [hq] at hcall2
     go_wp2_with (refine hcall2.mono ?_;rintro e w1 ⟨rfl,HB,⟨d0,d1,d2,d3,d4,d5,d6,d7⟩,o0,o1,o2,o3,o4,o5,o6,o7,r0,f0,r1,f1,r2,f2,r3,f3,r4,f4,r5,f5,r6,f6,r7,f7⟩)
     go_roundg (n - (j+1))
     case measure=>omega
     case rel=>exact ⟨i,j+1,rfl,by go_num,by omega,Nat.le_refl _,S2.out w1 hq HB.out⟩
    | false =>
     rw [hq] at hcall2
     go_wp2_with (refine hcall2.mono ?_;rintro e w1 ⟨rfl,HB,⟨d0,d1,d2,d3,d4,d5,d6,d7⟩,o0,o1,o2,o3,o4,o5,o6,o7,r0,f0,r1,f1,r2,f2,r3,f3,r4,f4,r5,f5,r6,f6,r7,f7⟩)
     go_roundg (n - (j+1))
     case measure=>omega
     case rel=>exact ⟨i+1,j+1,by go_num,by go_num,by omega,Nat.le_refl _,K2.out w1 hq HB.out⟩
   ·obtain rfl:j=n:=by omega
    have hltz:¬ (j:Int)<(j:Int):=by omega
    obtain ⟨zz,hzz⟩:∃ zz,zz=(Builtin.zeroCells zEnt.cells (j - i)).toList:=⟨_,rfl⟩
    have hzl:zz.length=(j - i)*8:=by rw [hzz];exact Z6b _
    have hle:i*8+zz.length≤cur.size:=by omega
    have E2:Hid (∃ c,wr.heap[b]?=some (.cells c te (0,0))∧c.toList=(kept ver (zs.take j)).flatten++cur.toList.drop (i*8)∧c.size=cur.size∧(kept ver (zs.take j)).flatten.length=i*8):=I2.out.size H8.out (by omega)
    have hcl:∀ ty,(Builtin.clear_ #[95] ty #[.slice (some ⟨b,i*8,none⟩) (j - i) (cap - i)]).run Tryz.prog wr=.ok (.tuple #[]) (wr.setCells b (i*8) zz):=by
     intro ty
     obtain ⟨c,g1,_,g3,_⟩:=E2.out
     rw [hzz]
     refine Zbky wr 95 114 ty zEnt Tryz.underlying95 Tryz.zeroValue114 (by decide) b _ _ _ (by omega) (fun t ht=>?_) (fun t ht=>Zvx g1)
     rw [show zEnt.cells.size=8 from rfl] at ht
     rw [Zi9 g1,Array.getElem?_eq_getElem (by omega)]
     rfl
    have hcap:¬ cap=i:=by omega
    have hkl:=I2.out.len
    rw [← hzn,List.take_length] at hkl
    have KL:Hid ((kept ver zs).length=i):=hkl
    have GR:Hid (w.grownBy wr (some b)):=I2.out.grown
    have ZO:Hid (∀ v∈zz,v.oneCell'=true):=by rw [hzz];exact zero_one _
    have ZZ:Hid (zz=(Builtin.zeroCells zEnt.cells (j - i)).toList):=hzz
    clear hIF hkl hzz I2
    go_wp2
    go_ret
    rw [KL.out]
    obtain ⟨c,g1,g2,g3,g4⟩:=E2.out
    obtain ⟨a1,a2,a3,a4,a5⟩:=GR.out
    rw [Z6a g1 (by omega) ZO.out]
    refine ⟨rfl,⟨_,setRow_heap wr b c _ te (0,0) g1,?_⟩,⟨a1,a2,a3,by rw [setRow_size];exact a4,fun k hk hn=>(setRow_other wr b k _ (fun e=>hn (by rw [e]))).trans (a5 k hk hn)⟩⟩
    show c.toList.take (i*8)++zz++c.toList.drop (i*8+zz.length)=_
    rw [← hzn,List.take_length] at g2 g4
    rw [g2,List.take_left' g4,List.drop_append,g4,List.drop_eq_nil_of_le (by omega),List.nil_append,List.drop_drop,ZD.out,← ZZ.out,show i*8+(i*8+zz.length - i*8)=j*8 by omega]
    simp only [List.append_assoc,hzn]
end Go.Proofs.YtbapkgocloaaeaaGreat
namespace Go.Proofs.YtbapkgocloaaeaaGreat
open Go.RowKit Go.Lib
set_option maxHeartbeats 4000000 in
set_option maxRecDepth 1000000 in
theorem idx_nil (p:Value) (w:World) :
  Calls Tryz.prog 158 #[.slice none 0 0,.func (.func 173) #[] #[p]] w fun e w'=>e=.returned (.int .i64 (-1))∧w'=w:=by
 have mixed:Tryz.prog.follows Departure.mixedOrders=true:=by kernel_rfl
 go_enter Tryz.func158,Tryz.ntmps158
 go_wp2
 go_loopg [5,8] 0 (fun gg _ s8 wr=>s8=.int .i64 0∧wr=w)
 case atStart=>exact ⟨rfl,rfl⟩
 case round =>
  obtain ⟨rfl,rfl⟩:=hrel
  go_wp2
  go_ret
  exact ⟨rfl,rfl⟩
set_option maxHeartbeats 4000000 in
set_option maxRecDepth 1000000 in
theorem Z6f (p:Value) (w:World) :
  Calls Tryz.prog 172 #[.slice none 0 0,.func (.func 173) #[] #[p]] w fun e w'=>e=.returned (.slice none 0 0)∧w'=w:=by
 have mixed:Tryz.prog.follows Departure.mixedOrders=true:=by kernel_rfl
 have hIF:=idx_nil p w
 go_enter Tryz.func172,Tryz.ntmps172
 go_wp2_with (refine hIF.mono ?_;rintro e w' ⟨rfl,rfl⟩)
 go_ret
 exact ⟨rfl,rfl⟩
end Go.Proofs.YtbapkgocloaaeaaGreat
