/-
  THE ABSTRACT MACHINE: each operation is sound, second part: loads and stores.
-/
import Derived.Test.YtiniphmomjnocaaAMOps1
namespace Go.AM
open Go.RowKit (Below)

section
variable {P : Program} {N : Par} {base : Nat} {ρ : Map} {h : List Blk} {w : World} {F : Nat → Prop} {e : Env} {a : Act}

theorem addr_add (g o j : Nat) : (⟨g, o, none⟩ : Addr).add j = ⟨g, o + j, none⟩ := by unfold Addr.add; split <;> simp_all

theorem cell_seg {g o n : Nat} {c : Array Value} {t : TypeId} {fz : Nat × Nat} (hg : w.heap[g]? = some (.cells c t fz)) {j : Nat} {v : Value} (hj : ((c.toList.drop o).take n)[j]? = some v) :
    w.cell? ((⟨g, o, none⟩ : Addr).add j) = some v := by
  rw [addr_add, cell_of_row w g (o + j) c t fz hg]
  rw [List.getElem?_take] at hj
  split at hj
  · simpa using hj
  · cases hj

theorem run_isAgg {t : TypeId} {n : Option Nat} (hn : loadN P t = some n) (w : World) : (isAgg t).run P w = .ok n.isSome w := by
  unfold loadN at hn
  split at hn
  · rename_i fs hu
    cases hi : P.info? t <;> simp [hi] at hn
    subst hn
    simp [isAgg, run_underlying hu]
  · rename_i m el hu
    cases hi : P.info? t <;> simp [hi] at hn
    subst hn
    simp [isAgg, run_underlying hu]
  · rename_i d h1 h2 hu
    simp at hn
    subst hn
    simp only [isAgg, Sem.run_bind, run_underlying hu, Result.andThen_ok]
    cases d <;> first | rfl | (rename_i x; exact absurd rfl (h1 x)) | (rename_i x y; exact absurd rfl (h2 x y)) | simp_all
  · cases hn

theorem loadN_size {t : TypeId} {k : Nat} (hn : loadN P t = some (some k)) : ∃ i, P.info? t = some i ∧ i.size = k := by
  unfold loadN at hn
  split at hn
  · cases hi : P.info? t <;> simp [hi] at hn; exact ⟨_, rfl, hn⟩
  · cases hi : P.info? t <;> simp [hi] at hn; exact ⟨_, rfl, hn⟩
  · simp at hn
  · cases hn

theorem run_loadVar_one {t : TypeId} (hn : loadN P t = some none) {g o : Nat} {c : Array Value} {te : TypeId} {fz : Nat × Nat} (hg : w.heap[g]? = some (.cells c te fz)) {v : Value} (hv : c.toList[o]? = some v) :
    (loadVar t ⟨g, o, none⟩).run P w = .ok v w := by
  have hc : w.cell? ⟨g, o, none⟩ = some v := by rw [cell_of_row w g o c te fz hg]; simpa using hv
  simp [loadVar, run_isAgg hn, hc]

theorem run_loadVar_agg {t : TypeId} {k : Nat} (hn : loadN P t = some (some k)) {g o : Nat} {c : Array Value} {te : TypeId} {fz : Nat × Nat} (hg : w.heap[g]? = some (.cells c te fz)) {vs : List Value}
    (hv : (c.toList.drop o).take k = vs) (hl : vs.length = k) : (loadVar t ⟨g, o, none⟩).run P w = .ok (.agg vs.toArray) w := by
  obtain ⟨i, hi, hs⟩ := loadN_size hn
  have := run_loadCells_list (P := P) w ⟨g, o, none⟩ vs (fun j v hj => cell_seg (n := k) hg (by rw [hv]; exact hj))
  rw [hl] at this
  simp [loadVar, run_isAgg hn, sizeOf, typeInfo, hi, hs, this]

/-- a load out of a box -/
theorem loadA_sound {t : TypeId} {n : Option Nat} (hn : loadN P t = some n) {g o : Nat} {c : Array Value} {te : TypeId} {fz : Nat × Nat} (hg : w.heap[g]? = some (.cells c te fz)) {cs : List AV}
    (hc : RVs ρ w F cs c.toList) (h1 : ∀ v ∈ c.toList, v.oneCell' = true) {v : AV} (hv : loadA cs o n = some v) : ∃ val, (loadVar t ⟨g, o, none⟩).run P w = .ok val w ∧ RV ρ w F v val := by
  cases n with
  | none =>
    obtain ⟨val, h2, h3⟩ := hc.at hv
    exact ⟨val, run_loadVar_one hn hg h2, h3⟩
  | some k =>
    simp only [loadA] at hv
    split at hv
    · rename_i hle
      simp at hv
      subst hv
      have hl := hc.length
      refine ⟨_, run_loadVar_agg hn hg rfl (by simp; simp at hl; omega), .agg (by simpa using (hc.drop o).take k) ?_⟩
      intro v hv
      exact h1 v (List.mem_of_mem_drop (List.mem_of_mem_take hv))
    · cases hv

/-- a load of data -/
theorem loadT_sound {t : TypeId} {n : Option Nat} (hn : loadN P t = some n) {g o off : Nat} {c : Array Value} {te : TypeId} {fz : Nat × Nat} (hg : w.heap[g]? = some (.cells c te fz)) {cs : List T} {fp : List Nat}
    (hc : TRs w cs ((c.toList.drop o).take cs.length) fp) (hf : ∀ g ∈ fp, F g) {v : AV} (hv : loadT cs off n = some v) : ∃ val, (loadVar t ⟨g, o + off, none⟩).run P w = .ok val w ∧ RV ρ w F v val := by
  cases n with
  | none =>
    simp only [loadT] at hv
    cases hx : cs[off]? with
    | none => simp [hx] at hv
    | some x =>
      simp [hx] at hv
      subst hv
      obtain ⟨val, fq, h2, h3, h4⟩ := hc.at hx
      refine ⟨val, run_loadVar_one hn hg ?_, .t h3 fun g hg => hf g (h4 g hg)⟩
      rw [List.getElem?_take] at h2
      split at h2
      · simpa using h2
      · cases h2
  | some k =>
    simp only [loadT] at hv
    split at hv
    · rename_i hle
      simp at hv
      subst hv
      have hl := hc.length
      simp at hl
      have hR := RVs.of_TRs (ρ := ρ) hc hf
      have e1 : (c.toList.drop (o + off)).take k = ((((c.toList.drop o).take cs.length).drop off).take k) := by
        rw [List.drop_take, List.take_take, List.drop_drop]
        congr 1
        omega
      refine ⟨_, run_loadVar_agg hn hg e1 (by simp; omega), .agg ?_ ?_⟩
      · simpa [List.map_drop, List.map_take] using (hR.drop off).take k
      · intro v hv
        exact hc.one v (List.mem_of_mem_drop (List.mem_of_mem_take hv))
    · cases hv

/-- one element out of many -/
theorem TRs.elem {es : List (List T)} {xs : List Value} {fp : List Nat} {sz : Nat} (hc : TRs w es.flatten xs fp) (hl : ∀ x ∈ es, x.length = sz) {i : Nat} {cs : List T} (hi : es[i]? = some cs) :
    ∃ fq, TRs w cs ((xs.drop (i * sz)).take cs.length) fq ∧ ∀ g ∈ fq, g ∈ fp := by
  induction es generalizing xs fp i with
  | nil => simp at hi
  | cons x es ih =>
    rw [List.flatten_cons] at hc
    obtain ⟨fa, fb, rfl, h1, h2⟩ := hc.split
    cases i with
    | zero =>
      simp at hi
      subst hi
      exact ⟨fa, by simpa using h1, fun g hg => by simp [hg]⟩
    | succ i =>
      obtain ⟨fq, h3, h4⟩ := ih h2 (fun y hy => hl y (by simp [hy])) (by simpa using hi)
      refine ⟨fq, ?_, fun g hg => by simp [h4 g hg]⟩
      rw [hl x (by simp), List.drop_drop] at h3
      rw [Nat.add_mul, Nat.one_mul, Nat.add_comm]
      exact h3

theorem flatten_len {es : List (List T)} {sz : Nat} (hl : ∀ x ∈ es, x.length = sz) : es.flatten.length = es.length * sz := by
  induction es with
  | nil => simp
  | cons x es ih =>
    rw [List.flatten_cons, List.length_append, ih fun y hy => hl y (by simp [hy]), hl x (by simp), List.length_cons, Nat.add_mul, Nat.one_mul, Nat.add_comm]

/-- a part replaced -/
theorem TRs.splice {A B C ts : List T} {xs ys : List Value} {fp fq : List Nat} (hc : TRs w (A ++ B ++ C) xs fp) (ht : TRs w ts ys fq) :
    ∃ fa fb fc, fp = fa ++ fb ++ fc ∧ TRs w (A ++ ts ++ C) (xs.take A.length ++ ys ++ xs.drop (A.length + B.length)) (fa ++ fq ++ fc) := by
  obtain ⟨fab, fc, rfl, h1, h2⟩ := hc.split
  obtain ⟨fa, fb, rfl, h3, h4⟩ := h1.split
  refine ⟨fa, fb, fc, rfl, ?_⟩
  have e1 : (xs.take (A ++ B).length).take A.length = xs.take A.length := by rw [List.take_take]; congr 1; simp
  rw [e1] at h3
  rw [List.length_append] at h2
  exact (h3.append ht).append h2

theorem set_flatten {es : List (List T)} {i : Nat} {cs ts : List T} {off : Nat} (hi : es[i]? = some cs) (hle : off + ts.length ≤ cs.length) :
    es.flatten = ((es.take i).flatten ++ cs.take off) ++ (cs.drop off).take ts.length ++ (cs.drop (off + ts.length) ++ (es.drop (i + 1)).flatten) ∧
    (es.set i (setT cs off ts)).flatten = ((es.take i).flatten ++ cs.take off) ++ ts ++ (cs.drop (off + ts.length) ++ (es.drop (i + 1)).flatten) := by
  have hlt : i < es.length := by
    rcases Nat.lt_or_ge i es.length with h' | h'
    · exact h'
    · simp [List.getElem?_eq_none h'] at hi
  have hsplit : es = es.take i ++ cs :: es.drop (i + 1) := by
    have := List.getElem?_eq_some_iff.1 hi
    obtain ⟨_, rfl⟩ := this
    simp
  constructor
  · conv => lhs; rw [hsplit]
    rw [List.flatten_append, List.flatten_cons]
    have : cs = cs.take off ++ ((cs.drop off).take ts.length ++ cs.drop (off + ts.length)) := by
      rw [← List.drop_drop, List.take_append_drop, List.take_append_drop]
    conv => lhs; rw [this]
    simp [List.append_assoc]
  · have : es.set i (setT cs off ts) = es.take i ++ setT cs off ts :: es.drop (i + 1) := by
      rw [List.set_eq_take_append_cons_drop]
      simp [hlt]
    rw [this, List.flatten_append, List.flatten_cons]
    simp [setT, List.append_assoc]

theorem run_storeVar {t : TypeId} {i : TypeInfo} (hi : P.info? t = some i) {g o : Nat} {c : Array Value} {te : TypeId} (hg : w.heap[g]? = some (.cells c te (0, 0))) {val : Value} (hs : val.cells.size = i.size)
    (hle : o + i.size ≤ c.size) (h1 : ∀ v ∈ val.cells.toList, v.oneCell' = true) :
    (storeVar t ⟨g, o, none⟩ val).run P w = .ok () (w.setRow g (c.toList.take o ++ val.cells.toList ++ c.toList.drop (o + i.size)).toArray) := by
  have := run_storeCells_at P g o te val.cells.toList 0 c w hg (by simp [hs]; omega) h1
  simp only [Nat.add_zero, Array.length_toList, hs] at this
  simp [storeVar, sizeOf, typeInfo, hi, hs, this]

theorem grownBy_setRow (w : World) (g : Nat) (cs : Array Value) : w.grownBy (w.setRow g cs) (some g) :=
  ⟨rfl, rfl, rfl, by simp, fun k _ hk => setRow_other w g k cs fun e => hk (by rw [e])⟩

theorem Below.setRow {w : World} {base g : Nat} (hg : base ≤ g) (cs : Array Value) : Below base w (w.setRow g cs) :=
  ⟨rfl, rfl, rfl, by simp, fun k hk => setRow_other w g k cs (by omega)⟩

/-- a store into a box -/
theorem ok_storeBox (R : Rel N base ρ h w) {b off : Nat} {cs : List AV} (hb : gt h b = .box cs) {x v : AV} {vs : List AV} {px val : Value} (hx : x = .ptr b off) (hpx : RV ρ w (Free N ρ h) x px)
    (hc : cellsOf v = some vs) (hv : RV ρ w (Free N ρ h) v val) {t : TypeId} {i : TypeInfo} (hi : P.info? t = some i) (hl : vs.length = i.size) (hle : off + i.size ≤ cs.length) :
    OpOK P N base ρ h w (do Instr.storeAt t px val; pure .skip) .top [(b, .box (setCells cs off vs))] := by
  subst hx
  cases hpx with
  | @ptr _ _ g r hr hrv =>
    have hd : gt h b ≠ .dead := by rw [hb]; intro hc; cases hc
    obtain ⟨r', h1, h2⟩ := R.blk b hd
    rw [hr] at h1
    cases h1
    rw [hb] at h2
    obtain ⟨g', c, te, hv', hbase, hh, hcs, hone⟩ := h2
    rw [hrv] at hv'
    cases hv'
    obtain ⟨hvs, hone'⟩ := cellsOf_rel hc hv
    have hcl := hcs.length
    have hvl := hvs.length
    simp only [Array.length_toList] at hcl hvl
    have hrun := run_storeVar (P := P) hi hh (o := off) (val := val) (by omega) (by omega) hone'
    have hnew : RVs ρ w (Free N ρ h) (setCells cs off vs) (c.toList.take off ++ val.cells.toList ++ c.toList.drop (off + i.size)) := by
      rw [setCells, hl]
      exact ((hcs.take off).append hvs).append (hcs.drop _)
    have hp := put_rel R (n := b) (ks := []) (x := .box (setCells cs off vs)) (r := r) (row := some g) (w' := w.setRow g (c.toList.take off ++ val.cells.toList ++ c.toList.drop (off + i.size)).toArray)
      (by intro r0 h0; rw [hr] at h0; cases h0; rfl) (grownBy_setRow w g _)
      (by intro g' hg'; cases hg'; exact ⟨b, .inr rfl, r, hr, hd, by rw [hrv]; rfl⟩)
      (by intro g' hg'; exact .inr ⟨b, .inr rfl, r, hr, hd, hg'⟩)
      (fun hk => ⟨g, _, te, hrv, hbase, setRow_heap w g c _ te _ hh, hnew.keep hk, by
        intro x hx
        change x ∈ c.toList.take off ++ val.cells.toList ++ c.toList.drop (off + i.size) at hx
        rcases List.mem_append.1 hx with hx | hx
        · rcases List.mem_append.1 hx with hx | hx
          · exact hone x (List.mem_of_mem_take hx)
          · exact hone' x hx
        · exact hone x (List.mem_of_mem_drop hx)⟩)
      (by intro hf; cases hf)
    refine ⟨undef, _, updM ρ b r, .inr ⟨by simp [Instr.storeAt, Instr.sureAddr, hrun], rfl⟩, .top _, hp.1, hp.2.1, ?_, Below.setRow hbase _, hp.2.2⟩
    intro b' hb'
    simp at hb'
    simp [updM, hb']

end
end Go.AM
