/-
  Parts of the proofs for this seat: DW.
-/
import Derived.Deep.LoopGhost
import Derived.Deep.RegionLaw
import Derived.Lib.SliceRun
import Derived.Lib.Walk
import Derived.Shelf.RegionOpenPlain
import Derived.Test.YtbapkgocloaaeaaGreatChecked
import Derived.WalkKit
set_option linter.unusedSimpArgs false
set_option linter.unusedVariables false
set_option maxRecDepth 100000
set_option maxHeartbeats 4000000
namespace Go.Proofs.YtbapkgocloaaeaaGreat
open Go.RowKit
def zEnt:Value:=.agg #[.int .i64 0,.slice none 0 0,.slice none 0 0,.slice none 0 0,.slice none 0 0,.int .i64 0,.int .i64 0,.int .i64 0]
theorem infoE:(Tryz.prog.info? 114).map (fun i=>(i.zero,i.size,i.bytes))=some (some zEnt,8,128):=by kernel_rfl
theorem Zp9 {w:World} {b t:Nat} {cur:Array Value} {te:TypeId} (hh:w.heap[b]?=some (.cells cur te (0,0))):w.cell? ⟨b,t,none⟩=cur[t]?:=by
 simp [World.cell?,hh]
theorem Zwa {w:World} {b t:Nat} {cur:Array Value} {te:TypeId} (hh:w.heap[b]?=some (.cells cur te (0,0))):w.frozen? ⟨b,t,none⟩=false:=by
 simp [World.frozen?,hh]
theorem Zwb {w:World} {g o:Nat} {te:TypeId} {cur:Array Value} (hg:w.heap[g]?=some (.cells cur te (0,0))) {vs:List Value} (hle:o+vs.length≤cur.size) (h1:∀ v∈vs,v.oneCell'=true) :
  w.setCells g o vs=w.setRow g (cur.toList.take o++vs++cur.toList.drop (o+vs.length)).toArray:=by
 have a:=run_storeCells_at (P:=Tryz.prog) g o te vs 0 cur w hg (by simpa using hle) h1
 have b:=run_storeCells_cells (P:=Tryz.prog) g o vs 0 w (by
  intro j hj
  rw [Zp9 hg,Array.getElem?_eq_getElem (by omega)]
  rfl) (fun j hj=>Zwa hg) h1
 rw [b] at a
 simpa using a
theorem zero_one (n:Nat):∀ v∈(Builtin.zeroCells zEnt.cells n).toList,v.oneCell'=true:=by
 intro v hv
 simp only [Builtin.zeroCells,Array.toList_map,List.mem_map] at hv
 obtain ⟨k,hk,rfl⟩:=hv
 have hlt:k % zEnt.cells.size<zEnt.cells.size:=Nat.mod_lt _ (by decide)
 rw [getElem!_pos zEnt.cells _ hlt]
 have:∀ t:Fin 8,(zEnt.cells[t.1]'(by exact t.2)).oneCell'=true:=by decide
 exact this ⟨_,hlt⟩
theorem zero_len (n:Nat):(Builtin.zeroCells zEnt.cells n).toList.length=n*8:=by
 simp [Builtin.zeroCells];rfl
theorem Zblv {P:Program} (w:World) (t e ty:TypeId) (z:Value) (ht:P.underlying t=some (.slice e)) (hv:∀ w,(zeroValue e).run P w=.ok z w) (h1:∀ v∈z.cells.toList,v.oneCell'=true) (b o n c:Nat) (hn:0<n)
  (hc:∀ j,j<n*z.cells.size→(w.cell? ⟨b,o+j,none⟩).isSome=true) (hf:∀ j,j<n*z.cells.size→w.frozen? ⟨b,o+j,none⟩=false) :
  (Builtin.clear_ #[t] ty #[.slice (some ⟨b,o,none⟩) n c]).run P w=.ok (.tuple #[]) (w.setCells b o (Builtin.zeroCells z.cells n).toList):=by
 have hl:(Builtin.zeroCells z.cells n).toList.length=n*z.cells.size:=by simp [Builtin.zeroCells]
 have hst:=run_storeCells_cells (P:=P) b o (Builtin.zeroCells z.cells n).toList 0 w (by intro j hj;rw [hl] at hj;simpa using hc j hj) (by intro j hj;rw [hl] at hj;simpa using hf j hj) (by
  intro v hv'
  simp only [Builtin.zeroCells,Array.toList_map,List.mem_map] at hv'
  obtain ⟨k,hk,rfl⟩:=hv'
  have hk2:k<n*z.cells.size:=by simpa using hk
  have hz:0<z.cells.size:=by
   rcases Nat.eq_zero_or_pos z.cells.size with h | h
   ·rw [h] at hk2;omega
   ·exact h
  have hlt:k % z.cells.size<z.cells.size:=Nat.mod_lt _ hz
  rw [getElem!_pos z.cells _ hlt]
  exact h1 _ (by simp))
 simp only [Nat.add_zero] at hst
 obtain ⟨m,rfl⟩:∃ m,n=m+1:=⟨n - 1,by omega⟩
 simp [Builtin.clear_,run_underlying ht,hv,hst]
set_option maxHeartbeats 4000000 in
set_option maxRecDepth 1000000 in
theorem del_walk (b n cap i j:Nat) (cur:Array Value) (te:TypeId) (w:World) (hh:w.heap[b]?=some (.cells cur te (0,0))) (hsz:cur.size=cap*8) (h1:∀ t v,t<n*8→cur[t]?=some v→v.oneCell'=true) (hij:i<j) (hj:j≤n) (hn:n≤cap) (hm:cap≤9223372036854775807) :
  Calls Tryz.prog 165 #[.slice (some ⟨b,0,none⟩) n cap,.int .i64 i,.int .i64 j] w fun e w'=>e=.returned (.slice (some ⟨b,0,none⟩) (i+(n - j)) cap) ∧
   w'=(w.drew.setCells b (0+i*8) ((cur.toList.take (n*8)).drop (j*8))).setCells b ((i+(n - j))*8) (Builtin.zeroCells zEnt.cells (n - (i+(n - j)))).toList:=by
 obtain ⟨i0,hi0,hz0,hz1,hz2⟩:=info_parts infoE
 obtain ⟨news,hnews⟩:∃ news,news=(cur.toList.take (n*8)).drop (j*8):=⟨_,rfl⟩
 have hlen:news.length=(n - j)*8:=by rw [hnews,List.length_drop,List.length_take,Array.length_toList,hsz];omega
 have hget:∀ t u,news[t]?=some u→cur[j*8+t]?=some u∧j*8+t<n*8:=by
  intro t u hu
  have ht:=(List.getElem?_eq_some_iff.1 hu).1
  rw [hlen] at ht
  rw [hnews,List.getElem?_drop,List.getElem?_take_of_lt (by omega),Array.getElem?_toList] at hu
  exact ⟨hu,by omega⟩
 obtain ⟨zs,hzs⟩:∃ zs,zs=(Builtin.zeroCells zEnt.cells (n - (i+(n - j)))).toList:=⟨_,rfl⟩
 rw [← hnews,← hzs]
 obtain ⟨A,hA,hsrc⟩:∃ A:Addr,(if cap=j then some (⟨b,0,none⟩:Addr) else some ⟨b,j*8,none⟩)=some A∧Hid (∀ t u,news[t]?=some u→w.drew.cell? (A.add t)=some u):=by
  by_cases h:cap=j
  ·refine ⟨⟨b,0,none⟩,by simp [h],fun t u hu=>?_⟩
   have h0:news.length=0:=by rw [hlen];omega
   rw [List.length_eq_zero_iff.1 h0] at hu
   simp at hu
  ·refine ⟨⟨b,j*8,none⟩,by simp [h],fun t u hu=>?_⟩
   rw [Addr.add_lit]
   show w.cell? _=_
   rw [Zp9 hh]
   exact (hget t u hu).1
 have s1:Hid (news.length=(n - j)*8):=hlen
 have s2:Hid (∀ u∈news,u.oneCell'=true):=by
  intro u hu
  obtain ⟨t,ht⟩:=List.mem_iff_getElem?.1 hu
  obtain ⟨g1,g2⟩:=hget t u ht
  exact h1 _ _ g2 g1
 have s3:Hid (∀ t,t<news.length→(w.drew.cell? ⟨b,0+i*8+t,none⟩).isSome=true∧w.drew.frozen? ⟨b,0+i*8+t,none⟩=false):=by
  intro t ht
  rw [hlen] at ht
  refine ⟨?_,Zwa (w:=w.drew) hh⟩
  show (w.cell? _).isSome=true
  rw [Zp9 hh,Array.getElem?_eq_getElem (by omega)]
  rfl
 obtain ⟨W1,hW1⟩:∃ W1,W1=w.drew.setCells b (0+i*8) news:=⟨_,rfl⟩
 have hW:Hid (W1=w.drew.setCells b (0+i*8) news):=hW1
 have hcl:∀ ty,(Builtin.clear_ #[95] ty #[.slice (some ⟨b,(i+(n - j))*8,none⟩) (n - (i+(n - j))) (cap - (i+(n - j)))]).run Tryz.prog W1=.ok (.tuple #[]) (W1.setCells b ((i+(n - j))*8) zs):=by
  intro ty
  have hno:∀ v∈news,v.oneCell'=true:=s2.out
  have s4:=Zwb (w:=w.drew) (o:=0+i*8) hh (vs:=news) (by rw [hlen,hsz];omega) hno
  have g1:=setRow_heap w.drew b cur (cur.toList.take (0+i*8)++news++cur.toList.drop (0+i*8+news.length)).toArray te (0,0) hh
  rw [← s4,← hW1] at g1
  have hcl:cur.toList.length=cap*8:=by simpa using hsz
  have gs:(cur.toList.take (0+i*8)++news++cur.toList.drop (0+i*8+news.length)).toArray.size=cap*8:=by
   simp only [List.size_toArray,List.length_append,List.length_take,List.length_drop,hcl,hlen];omega
  have hz8:zEnt.cells.size=8:=rfl
  rw [hzs]
  refine Zblv W1 95 114 ty zEnt Tryz.underlying95 Tryz.zeroValue114 (by decide) b _ _ _ (by omega) (fun t ht=>?_) (fun t ht=>Zwa g1)
  rw [hz8] at ht
  rw [Zp9 g1,Array.getElem?_eq_getElem (by rw [gs];omega)]
  rfl
 have mixed:Tryz.prog.follows Departure.mixedOrders=true:=by kernel_rfl
 have hic:i≤cap:=by omega
 have hjc:j≤cap:=by omega
 clear hh hget hnews hlen h1 hW1 hzs
 go_enter Tryz.func165,Tryz.ntmps165
 go_wp2_with fail
 go_region_law_o (refine step_append_room rfl (.tmp 22) (.tmp 25) 95 rfl 114 i0 8 Tryz.underlying95 hi0 hz1 b 0 i cap (by simp [Act.eval,Act.put]) A (n - j) (cap - j) news (by simp [Act.eval,Act.put]) s1.out hsrc.out s2.out (by omega) s3.out ?_;rw [← hW.out])
 go_wp2
 go_ret
 exact ⟨rfl,by rw [hW.out]⟩
end Go.Proofs.YtbapkgocloaaeaaGreat
