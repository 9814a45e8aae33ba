/-
  THE ABSTRACT MACHINE: each operation is sound, fifth part: literals, addresses, arithmetic.
-/
import Derived.Test.YtiniphmomjnocaaAMOps4
namespace Go.AM
open Go.RowKit (Below)

section
variable {P : Program} {N : Par} {base : Nat} {ρ : Map} {h : List Blk} {w w' : World} {F : Nat → Prop} {e : Env} {a : Act}

theorem foldSet (off : Nat) : ∀ (l : List Value) (k : Nat) (arr : Array Value), off + k + l.length ≤ arr.size →
    ((l.zipIdx k).foldl (fun cs (p : Value × Nat) => cs.setIfInBounds (off + p.2) p.1) arr).toList = arr.toList.take (off + k) ++ l ++ arr.toList.drop (off + k + l.length)
  | [], k, arr, _ => by simp
  | v :: l, k, arr, hle => by
    simp only [List.zipIdx_cons, List.foldl_cons]
    rw [foldSet off l (k + 1) (arr.setIfInBounds (off + k) v) (by simp at hle ⊢; omega)]
    have := list_seg_step arr.toList (off + k) v l (by simp at hle ⊢; omega)
    rw [Array.toList_setIfInBounds, show off + (k + 1) = off + k + 1 by omega, this]
    simp

theorem fill_one {place : Nat → Option (Nat × Nat)} {cells : Array Value} {i off size : Nat} {v : Value} {rest : List (Nat × Value)} (hp : place i = some (off, size)) (hs : v.cells.size = size) (hle : off + size ≤ cells.size) :
    ∃ cells', Instr.fill place cells ((i, v) :: rest) = Instr.fill place cells' rest ∧ cells'.toList = cells.toList.take off ++ v.cells.toList ++ cells.toList.drop (off + size) := by
  refine ⟨v.cells.zipIdx.foldl (fun cs (c, j) => cs.setIfInBounds (off + j) c) cells, ?_, ?_⟩
  · conv => lhs; unfold Instr.fill
    simp only [hp]
    rw [if_neg (by simp; omega)]
  · rw [← Array.foldl_toList, Array.toList_zipIdx]
    have := foldSet off v.cells.toList 0 cells (by simp; omega)
    simpa [hs] using this

/-- a struct literal -/
theorem fill_parts (hE : RelEnv ρ w F e a.tmps) {places : List (Nat × Nat)} : ∀ (ps : List (Nat × Operand)) (qs : List (Nat × Nat × Opd)) (cs : List AV) (cells : Array Value),
    mapO (fun p : Nat × Operand => match places[p.1]?, opd p.2 with | some q, some x => some (q.1, q.2, x) | _, _ => none) ps = some qs → RVs ρ w F cs cells.toList → (∀ v ∈ cells.toList, v.oneCell' = true) →
    ∀ cs', parts e cs qs = some cs' → ∃ cells', Instr.fill (places.toArray[·]?) cells (ps.map fun p => (p.1, a.eval p.2)) = some cells' ∧ RVs ρ w F cs' cells'.toList ∧ ∀ v ∈ cells'.toList, v.oneCell' = true
  | [], qs, cs, cells, hm, hc, h1, cs', hp => by
    cases hm
    simp [parts] at hp
    subst hp
    exact ⟨cells, by simp [Instr.fill], hc, h1⟩
  | (k, x) :: ps, qs, cs, cells, hm, hc, h1, cs', hp => by
    obtain ⟨q, qs', hq, hqs, rfl⟩ := mapO_cons hm
    split at hq
    · rename_i pl x' hpl hx
      cases hq
      simp only [parts] at hp
      split at hp
      · rename_i vs hvs
        split at hp
        · rename_i hcond
          obtain ⟨h2, h3⟩ := cellsOf_rel hvs (opd_rel hE hx)
          have hl1 := h2.length
          have hl2 := hc.length
          simp only [Array.length_toList] at hl1 hl2
          obtain ⟨cells1, hf, hcl⟩ := fill_one (place := (places.toArray[·]?)) (cells := cells) (i := k) (off := pl.1) (size := pl.2) (v := a.eval x) (rest := ps.map fun p => (p.1, a.eval p.2)) (by simpa using hpl) (by omega) (by omega)
          have hR : RVs ρ w F (setCells cs pl.1 vs) cells1.toList := by
            rw [hcl, setCells, hcond.1]
            exact ((hc.take _).append h2).append (hc.drop _)
          have ho : ∀ v ∈ cells1.toList, v.oneCell' = true := by
            rw [hcl]
            intro v hv
            rcases List.mem_append.1 hv with hv | hv
            · rcases List.mem_append.1 hv with hv | hv
              · exact h1 v (List.mem_of_mem_take hv)
              · exact h3 v hv
            · exact h1 v (List.mem_of_mem_drop hv)
          obtain ⟨cells', h4, h5, h6⟩ := fill_parts hE ps qs' _ cells1 hqs hR ho cs' hp
          exact ⟨cells', by simp only [List.map_cons]; rw [hf]; exact h4, h5, h6⟩
        · cases hp
      · cases hp
    · cases hq

theorem ok_build (R : Rel N base ρ h w) (hE : RelEnv ρ w (Free N ρ h) e a.tmps) {t : TypeId} {ps : Array (Nat × Operand)} {fs : Array Field} {zs : List AV} {places : List (Nat × Nat)} {qs : List (Nat × Nat × Opd)} {cs : List AV}
    (hu : P.underlying t = some (.struct fs)) (hz : zeroC P t = some zs) (hp : fs.toList.mapM (fun f => (P.info? f.type).map fun i => (f.offset, i.size)) = some places)
    (hm : mapO (fun p : Nat × Operand => match places[p.1]?, opd p.2 with | some q, some x => some (q.1, q.2, x) | _, _ => none) ps.toList = some qs) (hc : parts e zs qs = some cs) :
    OpOK P N base ρ h w (do pure (.value (← Instr.build t (ps.map fun (i, x) => (i, a.eval x))))) (.agg cs) [] := by
  unfold zeroC at hz
  cases hi : P.info? t with
  | none => simp [hi] at hz
  | some i =>
    cases hzz : i.zero with
    | none => simp [hi, hzz] at hz
    | some z =>
      simp [hi, hzz] at hz
      obtain ⟨h1, h2⟩ := mapO_valC (ρ := ρ) (w := w) (F := Free N ρ h) hz
      obtain ⟨cells', h3, h4, h5⟩ := fill_parts hE ps.toList qs zs z.cells hm h1 h2 cs hc
      have hb : P.built t (ps.map fun (i, x) => (i, a.eval x)).toList = some cells' := by
        unfold Program.built
        simp only [hi, hu, hzz, hp]
        rw [Array.toList_map]
        exact h3
      exact .same R (by simp [run_build w t _ cells' hb]) (.agg h4 h5)

/-- the zero cells of a row -/
theorem zero_row {z : Array Value} {zs : List T} (hz : mapO valT z.toList = some zs) (n : Nat) : TRs w (List.replicate n zs).flatten (madeCells z (n * z.size)).toList [] := by
  have hT := mapO_valT (w := w) hz
  have hl := hT.length
  simp only [Array.length_toList] at hl
  have e : (madeCells z (n * z.size)).toList = (List.replicate n z.toList).flatten := by
    induction n with
    | zero => simp [madeCells, Array.range_zero']
    | succ n ih =>
      rw [List.replicate_succ', List.flatten_append, ← ih]
      apply List.ext_getElem
      · simp [madeCells, Nat.add_mul]
      · intro k h1 h2
        simp only [madeCells, Array.toList_map, Array.toList_range, List.getElem_map, List.getElem_range, List.flatten_cons, List.flatten_nil, List.append_nil, List.getElem_append, List.length_map, List.length_range]
        simp only [madeCells, Array.toList_map, Array.toList_range, List.length_map, List.length_range, Nat.add_mul, Nat.one_mul] at h1
        split
        · rfl
        · rename_i hk
          have hk' : k - n * z.size < z.size := by omega
          have hmod : k % z.size = k - n * z.size := by
            have : k = (k - n * z.size) + z.size * n := by rw [Nat.mul_comm z.size n]; omega
            conv => lhs; rw [this]
            rw [Nat.add_mul_mod_self_left, Nat.mod_eq_of_lt hk']
          rw [hmod]
          simp [hk']
  rw [e]
  clear e
  induction n with
  | zero => exact .nil
  | succ n ih =>
    rw [List.replicate_succ, List.replicate_succ, List.flatten_cons, List.flatten_cons]
    exact hT.append ih

theorem mapO_len {α β : Type} {f : α → Option β} {xs : List α} {ys : List β} (hm : mapO f xs = some ys) : ys.length = xs.length := by
  induction xs generalizing ys with
  | nil => cases hm; rfl
  | cons x xs ih => obtain ⟨y, zs, _, h2, rfl⟩ := mapO_cons hm; simp [ih h2]

/-- the elements of a slice literal -/
theorem fill_elems (R : Rel N base ρ h w) (hE : RelEnv ρ w (Free N ρ h) e a.tmps) {sz : Nat} : ∀ (ps : List (Nat × Operand)) (qs : List (Nat × Opd)) (es : List (List T)) (cells : Array Value) (fp : List Nat) (kz : List Nat) (fz : Bool),
    mapO (fun p : Nat × Operand => (opd p.2).map fun x => (p.1, x)) ps = some qs → TRs w es.flatten cells.toList fp → (∀ x ∈ es, x.length = sz) → Took N base ρ h kz fp fz →
    ∀ es' f ks, elems h e sz es qs = some (es', f, ks) → ∃ cells' fp', Instr.fill (fun i => some (i * sz, sz)) cells (ps.map fun p => (p.1, a.eval p.2)) = some cells' ∧ TRs w es'.flatten cells'.toList fp' ∧
      (∀ x ∈ es', x.length = sz) ∧ es'.length = es.length ∧ Took N base ρ h (kz ++ ks) fp' (fz && f)
  | [], qs, es, cells, fp, kz, fz, hm, hc, hl, hT, es', f, ks, hel => by
    cases hm
    simp [elems] at hel
    obtain ⟨rfl, rfl, rfl⟩ := hel
    exact ⟨cells, fp, by simp [Instr.fill], hc, hl, rfl, by simpa using hT⟩
  | (i, x) :: ps, qs, es, cells, fp, kz, fz, hm, hc, hl, hT, es', f, ks, hel => by
    obtain ⟨q, qs', hq, hqs, rfl⟩ := mapO_cons hm
    obtain ⟨x', hx, rfl⟩ := Option.map_eq_some_iff.1 hq
    simp only [elems] at hel
    split at hel
    · rename_i vs hvs
      split at hel
      · rename_i ts f1 k1 hts
        split at hel
        · rename_i hcond
          split at hel
          · rename_i es1 f2 k2 hrec
            simp at hel
            obtain ⟨rfl, rfl, rfl⟩ := hel
            obtain ⟨h2, h3⟩ := cellsOf_rel hvs (opd_rel hE hx)
            obtain ⟨fq, h4, h5⟩ := toTs_rel R hts h2
            have htl := toTs_len hts
            have hl1 := h2.length
            have hl2 := hc.length
            simp only [Array.length_toList] at hl1 hl2
            rw [flatten_len hl] at hl2
            have hmul : i * sz + sz ≤ es.length * sz := by
              have := Nat.mul_le_mul_right sz (show i + 1 ≤ es.length from hcond.1)
              rwa [Nat.add_mul, Nat.one_mul] at this
            obtain ⟨cells1, hf, hcl⟩ := fill_one (place := fun i => some (i * sz, sz)) (cells := cells) (i := i) (off := i * sz) (size := sz) (v := a.eval x) (rest := ps.map fun p => (p.1, a.eval p.2)) rfl (by omega) (by omega)
            have hcs : es[i]? = some es[i] := by simp [hcond.1]
            have hcsl : es[i].length = sz := hl _ (List.getElem_mem _)
            have hfl := set_flatten (ts := ts) (off := 0) hcs (by omega)
            rw [hfl.1] at hc
            obtain ⟨fa, fb, fc, hfp, hnew⟩ := hc.splice h4
            rw [← hfl.2] at hnew
            have hsT : setT es[i] 0 ts = ts := by simp [setT]; omega
            rw [hsT] at hnew
            have hAl : ((es.take i).flatten ++ es[i].take 0).length = i * sz := by
              rw [List.length_append, flatten_len fun y hy => hl y (List.mem_of_mem_take hy)]
              simp
              rw [Nat.min_eq_left (by omega)]
            have hBl : ((es[i].drop 0).take ts.length).length = sz := by simp; omega
            rw [hAl, hBl, ← hcl] at hnew
            have hset : ∀ y ∈ es.set i ts, y.length = sz := by
              intro y hy
              rcases List.mem_or_eq_of_mem_set hy with hy | hy
              · exact hl y hy
              · subst hy; omega
            have hT' : Took N base ρ h (kz ++ k1) (fa ++ fq ++ fc) (fz && f1) := by
              have hA := hT.append R h5
              have hmem : ∀ y, y ∈ fa ++ fq ++ fc → y ∈ fp ++ fq := by
                intro y hy
                simp only [List.mem_append] at hy ⊢
                rcases hy with (hy | hy) | hy
                · exact .inl (by rw [hfp]; simp [hy])
                · exact .inr hy
                · exact .inl (by rw [hfp]; simp [hy])
              refine ⟨fun y hy => hA.free y (hmem y hy), fun hff y hy => hA.fresh hff y (hmem y hy), fun hff hn => ?_⟩
              have hN := hA.nodup hff hn
              rw [hfp, List.nodup_append, List.nodup_append, List.nodup_append] at hN
              rw [List.nodup_append, List.nodup_append]
              refine ⟨⟨hN.1.1.1, hN.2.1, fun y hy z hz => hN.2.2 y (by simp [hy]) z hz⟩, hN.1.2.1, fun y hy z hz hyz => ?_⟩
              subst hyz
              rcases List.mem_append.1 hy with hy | hy
              · exact hN.1.2.2 y (by simp [hy]) y hz rfl
              · exact hN.2.2 y (by simp [hz]) y hy rfl
            obtain ⟨cells', fp', h6, h7, h8, h9, h10⟩ := fill_elems R hE ps qs' _ cells1 _ _ _ hqs hnew hset hT' es1 f2 k2 hrec
            refine ⟨cells', fp', by simp only [List.map_cons]; rw [hf]; exact h6, h7, h8, by simpa using h9, ?_⟩
            rw [List.append_assoc, Bool.and_assoc] at h10
            exact h10
          · cases hel
        · cases hel
      · cases hel
    · cases hel

theorem ok_bslice (R : Rel N base ρ h w) (hE : RelEnv ρ w (Free N ρ h) e a.tmps) {nx : Nat} (hn : ρ nx = none) {t el : TypeId} {n : Nat} {ps : Array (Nat × Operand)} {i : TypeInfo} {zs : List T} {qs : List (Nat × Opd)}
    (hu : P.underlying t = some (.slice el)) (hi : P.info? el = some i) (hsmall : n * i.size ≤ 16777216) (hsz : 0 < i.size) (hz : zeroT P el = some zs) (hzl : zs.length = i.size)
    (hm : mapO (fun p : Nat × Operand => (opd p.2).map fun x => (p.1, x)) ps.toList = some qs) {es : List (List T)} {fr : Bool} {ks : List Nat} (hel : elems h e i.size (List.replicate n zs) qs = some (es, fr, ks)) (hnd : nodupB ks = true) :
    OpOK P N base ρ h w (do pure (.value (← Instr.buildSlice t n (ps.map fun (i, x) => (i, a.eval x))))) (.own nx) (kill ks ++ [(nx, .arr el i.size fr es)]) := by
  unfold zeroT at hz
  cases hzz : i.zero with
  | none => simp [hi, hzz] at hz
  | some z =>
    simp [hi, hzz] at hz
    have hzs := mapO_len hz
    simp only [Array.length_toList] at hzs
    have h0 := zero_row (w := w) hz n
    rw [show z.cells.size = i.size by omega] at h0
    obtain ⟨cells', fp', h1, h2, h3, h4, h5⟩ := fill_elems R hE ps.toList qs (List.replicate n zs) (madeCells z.cells (n * i.size)) [] [] true hm h0
      (by intro x hx; rw [List.eq_of_mem_replicate hx]; exact hzl) (Took.nil true) es fr ks hel
    simp only [List.nil_append, Bool.true_and, List.length_replicate] at h4 h5
    have hl2 := h2.length
    rw [flatten_len h3] at hl2
    simp only [Array.length_toList] at hl2
    have hfill : Instr.fill (fun i_1 => some (i_1 * i.size, i.size)) (madeCells z.cells (n * i.size)) (ps.map fun (i, x) => (i, a.eval x)).toList = some cells' := by
      rw [Array.toList_map]; exact h1
    have hrun : (Instr.buildSlice t n (ps.map fun (i, x) => (i, a.eval x))).run P w = .ok (.slice (some ⟨w.heap.size, 0, none⟩) n n) (w.alloc (.cells cells' el)) := by
      by_cases hn0 : n = 0
      · subst hn0
        have hcells : madeCells z.cells (0 * i.size) = #[] := by simp [madeCells, Array.range_zero']
        rw [hcells] at h1
        simp [Instr.buildSlice, run_underlying hu, sizeOf, typeInfo, hi, h1, newRow, Array.range_zero']
      · have : ¬ n * i.size = 0 := by
          intro hc
          rcases Nat.mul_eq_zero.1 hc with h' | h' <;> omega
        exact run_buildSlice w t el n _ cells' i z hu hi hzz (by omega) this hfill
    have hown : (w.alloc (.cells cells' el)).ownsRow base el i.size (.slice (some ⟨w.heap.size, 0, none⟩) n n) (0 + es.length) ([] ++ cells'.toList) := by
      rw [h4] at hl2 ⊢
      refine ⟨by simp; omega, .inr ⟨w.heap.size, n, cells', by simp, R.hb, heap_alloc_new w _, by omega, ?_, by omega, ?_⟩⟩
      · have := Nat.le_mul_of_pos_right n hsz
        simp only [maxLen]
        omega
      · rw [List.take_of_length_le]
        · rfl
        · simp; omega
    have := ok_arr (P := P) R hn (s := (do pure (.value (← Instr.buildSlice t n (ps.map fun (i, x) => (i, a.eval x)))))) (vv := .slice (some ⟨w.heap.size, 0, none⟩) n n) (by simp [hrun]) (World.grownBy_alloc w _ none) hsz (es1 := []) (es2 := es) (xs1 := []) (xs2 := cells'.toList)
      (fp1 := []) (fp2 := fp') (fr1 := true) (f := fr) (kd := []) (ks := ks) hown (by simp) h3 .nil h2 h5 (nodupB_iff.1 hnd) (by simp) (by simp) (by simp) (by simp) (by intro g hg; cases hg)
      (by intro g hg; simp [blkOf] at hg; exact .inl (by omega)) (by intro g k _ _ hx; obtain ⟨b, hb, _⟩ := hx; cases hb)
    simpa using this

theorem ok_mkslice (R : Rel N base ρ h w) {nx : Nat} (hn : ρ nx = none) {t el : TypeId} {i : TypeInfo} {zs : List T} (hu : P.underlying t = some (.slice el)) (hi : P.info? el = some i) (hz : zeroT P el = some zs) (hzl : zs.length = i.size) (hsz : 0 < i.size)
    {kl kc : IntKind} {l c : Int} (h0 : 0 ≤ l) (hlc : l ≤ c) (hb : c.toNat * i.bytes ≤ room) (hc : c ≤ 140737488355328) :
    OpOK P N base ρ h w (do pure (.value (← Instr.makeSlice t (.int kl l) (.int kc c)))) (.own nx) [(nx, .arr el i.size (zs.all scalar) (List.replicate l.toNat zs))] := by
  unfold zeroT at hz
  cases hzz : i.zero with
  | none => simp [hi, hzz] at hz
  | some z =>
    simp [hi, hzz] at hz
    have hzs := mapO_len hz
    simp only [Array.length_toList] at hzs
    have hbb : (i.bytes : Int) * c ≤ 281474976710656 := by
      have e : c = (c.toNat : Int) := by omega
      rw [e, Int.mul_comm, ← Int.natCast_mul]
      simp only [room] at hb
      omega
    have hrun := run_make (P := P) w t el i z hu hi hzz kl kc l c h0 hlc hbb (by omega)
    have hT := zero_row (w := w) hz l.toNat
    rw [show z.cells.size = i.size by omega] at hT
    have hle : l.toNat * i.size ≤ c.toNat * i.size := Nat.mul_le_mul_right _ (by omega)
    have htake : (madeCells z.cells (c.toNat * i.size)).toList.take (l.toNat * i.size) = (madeCells z.cells (l.toNat * i.size)).toList := by
      apply List.ext_getElem
      · rw [List.length_take, Array.length_toList, Array.length_toList, size_madeCells, size_madeCells]
        exact Nat.min_eq_left hle
      · intro k h1 h2
        simp [madeCells]
    have hown : (w.alloc (.cells (madeCells z.cells (c.toNat * i.size)) el)).ownsRow base el i.size (.slice (some ⟨w.heap.size, 0, none⟩) l.toNat c.toNat) (0 + (List.replicate l.toNat zs).length) ([] ++ (madeCells z.cells (l.toNat * i.size)).toList) := by
      refine ⟨by simp [madeCells], .inr ⟨w.heap.size, c.toNat, _, by simp, R.hb, heap_alloc_new w _, by simp; omega, by simp only [maxLen]; omega, by simp [madeCells], by simpa using htake⟩⟩
    have := ok_arr (P := P) R hn (s := (do pure (.value (← Instr.makeSlice t (.int kl l) (.int kc c))))) (by simp [hrun]) (World.grownBy_alloc w _ none) hsz (es1 := []) (es2 := List.replicate l.toNat zs) (xs1 := []) (xs2 := _)
      (fp1 := []) (fp2 := []) (fr1 := true) (f := zs.all scalar) (kd := []) (ks := []) hown (by simp) (by intro x hx; rw [List.eq_of_mem_replicate hx]; exact hzl) .nil hT (Took.nil _) List.nodup_nil (by simp) (by simp) (by simp) (by simp) (by intro g hg; cases hg)
      (by intro g hg; simp [blkOf] at hg; exact .inl (by omega)) (by intro g k hk; cases hk)
    simpa [kill] using this

theorem ok_append (R : Rel N base ρ h w) {nx : Nat} (hn : ρ nx = none) {t ty el : TypeId} {i : TypeInfo} {z : Value} (hu : P.underlying t = some (.slice el)) (hi : P.info? el = some i) (hz : i.zero = some z) (hzs : z.cells.size = i.size) (hsz : 0 < i.size)
    {mv : Bool} {x y : AV} {xv yv : Value} (hx : RV ρ w (Free N ρ h) x xv) (hy : RV ρ w (Free N ρ h) y yv) {ys : List (List T)} {f : Bool} {ks : List Nat} (hs : srcOf h i.size mv y = some (ys, f, ks)) :
    (x = .t .nil → ys.length * i.bytes ≤ room → ys.length ≤ room → OpOK P N base ρ h w (do pure (.value (← Builtin.append_ #[t, t] ty #[xv, yv]))) (.own nx) (kill ks ++ [(nx, .arr el i.size f ys)])) ∧
    (∀ b fr es, x = .own b → gt h b = .arr el i.size fr es → nodupB (b :: ks) = true → (es.length + ys.length) * i.bytes ≤ room → es.length + ys.length ≤ room →
      OpOK P N base ρ h w (do pure (.value (← Builtin.append_ #[t, t] ty #[xv, yv]))) (.own nx) (kill (b :: ks) ++ [(nx, .arr el i.size (fr && f) (es ++ ys))])) := by
  obtain ⟨b2, c2, news, fp, rfl, hl, hsrc, ht, hlen, hT, hnd, hks⟩ := src_rel R hsz hs hy
  constructor
  · intro hxn hb1 hb2
    subst hxn
    cases hx.nil_inv
    obtain ⟨v', w', row, h1, h2, h3, h4, h5⟩ := append_run (P := P) (ty := ty) hu hi hz hzs (World.ownsRow_nil w base el i.size) hl hsrc ht.one (c2 := c2) (by simp only [room] at hb2; omega) (by simp only [room] at hb1; simpa using hb1) R.hb
    have := ok_arr (P := P) R hn (s := (do pure (.value (← Builtin.append_ #[t, t] ty #[.slice none 0 0, .slice b2 ys.length c2])))) (vv := v') (by simp [h1]) h3 hsz (es1 := []) (es2 := ys) (xs1 := []) (xs2 := news)
      (fp1 := []) (fp2 := fp) (fr1 := true) (f := f) (kd := []) (ks := ks) (by simpa using h2) (by simp) hlen .nil ht hT hnd (by simp) (by simp) (by simp) (by simp)
      (by intro g hg; have := h4 g hg; simp [blkOf] at this) (by intro g hg; exact (h5 g hg).imp id fun h' => by simp [blkOf] at h') (by intro g k _ _ hx; obtain ⟨b, hb, _⟩ := hx; cases hb)
    simpa using this
  · intro b fr es hxb hgb hnb hb1 hb2
    subst hxb
    rw [nodupB_iff, List.nodup_cons] at hnb
    have hd : gt h b ≠ .dead := by rw [hgb]; intro hc; cases hc
    obtain ⟨r, hr, hB⟩ := R.blk b hd
    rw [hgb] at hB
    obtain ⟨xs, ho, _, hl1, ht1, hf1, hfr1⟩ := hB
    cases hx with
    | @own _ r2 hr2 hone =>
      rw [hr] at hr2
      cases hr2
      obtain ⟨v', w', row, h1, h2, h3, h4, h5⟩ := append_run (P := P) (ty := ty) hu hi hz hzs ho hl hsrc ht.one (c2 := c2) (by simp only [room] at hb2; omega) (by simp only [room] at hb1; exact hb1) R.hb
      have hfb : fr = true → isFresh (gt h b) = true := fun hft => by rw [hgb]; exact hft
      have := ok_arr (P := P) R hn (s := (do pure (.value (← Builtin.append_ #[t, t] ty #[r.v, .slice b2 ys.length c2])))) (vv := v') (by simp [h1]) h3 hsz (es1 := es) (es2 := ys) (xs1 := xs) (xs2 := news)
        (fp1 := r.fp) (fp2 := fp) (fr1 := fr) (f := f) (kd := [b]) (ks := ks) h2 hl1 hlen ht1 ht hT hnd hf1 hfr1
        (by intro hft g hg d rd hdk hrd hfd hgd; exact hdk (by rw [← R.apart b d r rd g hr hrd (hfb hft) hfd hg hgd]; simp))
        (by intro hft g hg k hk rk hrk hfk hgk; exact hnb.1 (by rw [R.apart b k r rk g hr hrk (hfb hft) hfk hg hgk]; exact hk))
        (by intro g hg; exact ⟨b, by simp, r, hr, hd, h4 g hg⟩) (by intro g hg; exact (h5 g hg).imp id fun h' => ⟨b, by simp, r, hr, hd, h'⟩)
        (by
          intro g k hk ho' hx
          obtain ⟨b', hb', ho2⟩ := hx
          simp at hb'
          subst hb'
          obtain ⟨r1, q1, q2, q3⟩ := ho'
          obtain ⟨r2, q4, q5, q6⟩ := ho2
          exact hnb.1 (by rw [R.inj b' k r2 r1 g q4 q1 q5 q2 q6 q3]; exact hk))
      simpa using this

end
end Go.AM
