/-
  Contracts: the reference's queries, masks, boxes, volumes.
-/
import Derived.Test.YtiniphmomjnocaaV1
namespace Go.Proofs.Ytiniphmomjnocaa
open Go.AM
set_option linter.unusedSimpArgs false
set_option linter.unusedVariables false

/-- what the reference sees of the variables met -/
def seenOk (n : Int) (p : Nat → Bool) : Bool := decide (bits4 p = w (shlI 1 n - 1))
theorem l_spec_IVQ1 (q : Query) (n : Nat) (hn1 : 1 ≤ n) (hn : n ≤ 4) (hq : q.VariableCount = n) (hl : Le q.Atoms) (hv : ∀ a ∈ q.Atoms, Le a.Vars) : ∀ k, k ≤ q.Atoms.length → ∀ p,
    L_spec_IsValidQuery_1 q (bits4 p) k = some (Bo ((q.Atoms.drop k).all (okAtom n) && seenOk n (addA p (q.Atoms.drop k))), []) := by
  refine down _ ?_ ?_
  · intro p
    refine SL_spec_IsValidQuery_1 _ _ _ _ ?_
    have e : addA p [] = p := by funext u; simp [addA]
    have h0 : ¬ (n : Int) < 0 := by omega
    simp [e, hq, h0, seenOk]
  · intro k hk ih p
    refine SL_spec_IsValidQuery_1 _ _ _ _ ?_
    have h4 := inc64 (i := k) (by omega)
    rw [drop_all _ hk]
    rcases tf (nmOk q.Atoms[k].Name) with e1 | e1
    · simp [hk, e1, okAtom]
    rcases tf (inR q.Atoms[k].Vars.length 1 3) with e2 | e2
    · simp [hk, e1, e2, okAtom]
    have b := l_spec_IVQ0 q n hn1 hn hq q.Atoms[k] k (hv _ (List.getElem_mem hk)) (Bo (okAtom n q.Atoms[k] && (q.Atoms.drop (k + 1)).all (okAtom n) && seenOk n (addA p (q.Atoms.drop k))), []) 0 (Nat.zero_le _) p ?_
    · simp at b
      simp [hk, e1, e2, b]
    · simp only [List.take_zero, List.drop_zero, okAtom, e1, e2, Bool.true_and]
      rcases tf (varsOk n [] q.Atoms[k].Vars) with e3 | e3
      · simp [e3]
      · have ih := ih (addV p q.Atoms[k].Vars)
        simp only [e3, if_true, Bool.true_and, addA_drop p hk]
        simp at ih
        rw [show w ((k : Int) + 1) = (k : Int) + 1 from h4, ih]
@[simp] theorem x_spec_IsValidQuery (q : Query) (h : LeQ q) : X_spec_IsValidQuery q = some (Bo (validQ q.VariableCount q.Atoms), []) := by
  refine S_spec_IsValidQuery _ _ ?_
  unfold validQ
  rcases tf (inR q.VariableCount 1 4) with e1 | e1
  · simp [e1]
  rcases tf (inR q.Atoms.length 1 4) with e2 | e2
  · simp [e1, e2]
  have e0 := e1
  simp [inR] at e0
  obtain ⟨k, hk⟩ : ∃ k : Nat, q.VariableCount = k := ⟨q.VariableCount.toNat, by omega⟩
  have b := l_spec_IVQ1 q k (by omega) (by omega) hk h.1 h.2 0 (Nat.zero_le _) (fun _ => false)
  have ez : bits4 (fun _ => false) = 0 := rfl
  rw [ez] at b
  simp only [List.drop_zero, Int.ofNat_zero] at b
  have e3 : (q.Atoms.all (okAtom k) && seenOk k (addA (fun _ => false) q.Atoms)) = (q.Atoms.all (okAtom k) && (List.range k).all (addA (fun _ => false) q.Atoms)) := by
    rcases tf (q.Atoms.all (okAtom k)) with e3 | e3
    · simp [e3]
    · have hk' : k = 1 ∨ k = 2 ∨ k = 3 ∨ k = 4 := by omega
      have hz := all_in e3
      have hz' : ∀ u : Nat, k ≤ u → addA (fun _ => false) q.Atoms u = false := fun u hu => by simp only [addA, Bool.false_or]; exact hz u (by omega)
      rw [e3, Bool.true_and, Bool.true_and, Bool.eq_iff_iff, seenOk, decide_eq_true_eq, bits4]
      rcases hk' with rfl | rfl | rfl | rfl
      · simp [shlI, wrap64, full_bits, hz' 1 (by omega), hz' 2 (by omega), hz' 3 (by omega), List.range_succ]
      · simp [shlI, wrap64, full_bits, hz' 2 (by omega), hz' 3 (by omega), List.range_succ]
      · simp [shlI, wrap64, full_bits, hz' 3 (by omega), List.range_succ, and_assoc]
      · simp [shlI, wrap64, full_bits, List.range_succ, and_assoc]
  rw [e3] at b
  rw [hk] at e1
  simp only [x_l1In, Option.some.injEq, Prod.mk.injEq, AV.t.injEq, T.bool.injEq, and_true, exists_eq_left', e1, e2, if_true, b, hk, Int.toNat_natCast]
  simp

@[simp] theorem x_impl_FullMask (q : Query) (h : LeQ q) : X_impl_FullMask q = some (I (fullM q.VariableCount q.Atoms), []) := by
  refine S_impl_FullMask _ _ ?_
  have q1 := x_impl_IsValidQuery q h
  unfold fullM
  rcases tf (validQ q.VariableCount q.Atoms) with e | e
  · simp [q1, e]
  · have := (shl_len e).2.2.1
    have h0 : ¬ ((q.Atoms.length : Int) < 0) := by omega
    simp [q1, e, this, h0]
@[simp] theorem x_spec_FullMask (q : Query) (h : LeQ q) : X_spec_FullMask q = some (I (fullM q.VariableCount q.Atoms), []) := by
  refine S_spec_FullMask _ _ ?_
  have q1 := x_spec_IsValidQuery q h
  unfold fullM
  rcases tf (validQ q.VariableCount q.Atoms) with e | e
  · simp [q1, e]
  · have := (shl_len e).2.2.1
    have h0 : ¬ ((q.Atoms.length : Int) < 0) := by omega
    simp [q1, e, this, h0]

/-! ### boxes -/

theorem l_spec_IsLocation (xs : List Int) (hx : Le xs) : ∀ i, i ≤ xs.length → L_spec_IsLocation_0 xs i = some (Bo (allLoc (xs.drop i) && decide ((xs.length : Int) ≤ 16)), []) := by
  refine down _ ?_ ?_
  · refine SL_spec_IsLocation_0 _ _ _ ?_
    simp [allLoc]
  · intro i hi ih
    refine SL_spec_IsLocation_0 _ _ _ ?_
    have h4 := inc64 (i := i) (by omega)
    rw [allLoc_drop hi]
    simp at ih
    rcases tf (inR xs[i] 0 7) with h | h <;> simp [hi, h4, h, ih]
@[simp] theorem x_spec_IsLocation (xs : List Int) (hx : Le xs) : X_spec_IsLocation xs = some (Bo (isLoc xs), []) := by
  refine S_spec_IsLocation _ _ ?_
  have := l_spec_IsLocation xs hx 0 (Nat.zero_le _)
  simpa [isLoc] using this
theorem l_impl_IsLocation (xs : List Int) (hx : Le xs) : ∀ i, i ≤ xs.length → L_impl_IsLocation_0 xs xs xs.length i = some (Bo (allLoc (xs.drop i) && decide ((xs.length : Int) ≤ 16)), []) := by
  refine down _ ?_ ?_
  · refine SL_impl_IsLocation_0 _ _ _ _ _ ?_
    simp [allLoc]
  · intro i hi ih
    refine SL_impl_IsLocation_0 _ _ _ _ _ ?_
    have h4 := inc64 (i := i) (by omega)
    rw [allLoc_drop hi]
    simp at ih
    rcases tf (inR xs[i] 0 7) with h | h <;> simp [hi, h4, h, ih]
@[simp] theorem x_impl_IsLocation (xs : List Int) (hx : Le xs) : X_impl_IsLocation xs = some (Bo (isLoc xs), []) := by
  refine S_impl_IsLocation _ _ ?_
  have := l_impl_IsLocation xs hx 0 (Nat.zero_le _)
  simpa [isLoc] using this

theorem l_spec_Dominates (xs ys : List Int) (hx : Le xs) (hl : ys.length = xs.length) : ∀ i, i ≤ xs.length → L_spec_DominatesLocation_0 xs ys i = some (Bo (domAll (xs.drop i) (ys.drop i)), []) := by
  refine down _ ?_ ?_
  · refine SL_spec_DominatesLocation_0 _ _ _ _ ?_
    simp [domAll]
  · intro i hi ih
    refine SL_spec_DominatesLocation_0 _ _ _ _ ?_
    have hi2 : i < ys.length := by omega
    have h4 := inc64 (i := i) (by omega)
    rw [dom_drop hi hi2]
    simp at ih
    by_cases h : xs[i] < ys[i]
    · simp [hi, hi2, h4, h, show ¬ ys[i] ≤ xs[i] by omega]
    · simp [hi, hi2, h4, h, show ys[i] ≤ xs[i] by omega, ih]
@[simp] theorem x_spec_Dominates (xs ys : List Int) (hx : Le xs) : X_spec_DominatesLocation xs ys = some (Bo (dom xs ys), []) := by
  refine S_spec_DominatesLocation _ _ _ ?_
  by_cases hl : ys.length = xs.length
  · have := l_spec_Dominates xs ys hx hl 0 (Nat.zero_le _)
    simp at this
    simp [hl, this, dom]
  · have h2 : ¬ ((xs.length : Int) = ys.length) := by omega
    have h1 : ¬ (xs.length = ys.length) := by omega
    simp [h1, h2, dom]
theorem l_impl_Dominates (xs ys : List Int) (hx : Le xs) (hl : ys.length = xs.length) : ∀ i, i ≤ xs.length → L_impl_DominatesLocation_0 xs ys xs.length i = some (Bo (domAll (xs.drop i) (ys.drop i)), []) := by
  refine down _ ?_ ?_
  · refine SL_impl_DominatesLocation_0 _ _ _ _ _ ?_
    simp [domAll]
  · intro i hi ih
    refine SL_impl_DominatesLocation_0 _ _ _ _ _ ?_
    have hi2 : i < ys.length := by omega
    have h4 := inc64 (i := i) (by omega)
    rw [dom_drop hi hi2]
    simp at ih
    by_cases h : xs[i] < ys[i]
    · simp [hi, hi2, h4, h, show ¬ ys[i] ≤ xs[i] by omega]
    · simp [hi, hi2, h4, h, show ys[i] ≤ xs[i] by omega, ih]
@[simp] theorem x_impl_Dominates (xs ys : List Int) (hx : Le xs) : X_impl_DominatesLocation xs ys = some (Bo (dom xs ys), []) := by
  refine S_impl_DominatesLocation _ _ _ ?_
  by_cases hl : ys.length = xs.length
  · have := l_impl_Dominates xs ys hx hl 0 (Nat.zero_le _)
    simp at this
    simp [hl, this, dom]
  · have h2 : ¬ ((xs.length : Int) = ys.length) := by omega
    have h1 : ¬ (xs.length = ys.length) := by omega
    simp [h1, h2, dom]

def LeX (b : Box) : Prop := Le b.Low ∧ Le b.High
@[simp] theorem x_impl_IsValidBox (b : Box) (h : LeX b) : X_impl_IsValidBox b = some (Bo (validBox b.Low b.High), []) := by
  refine S_impl_IsValidBox _ _ ?_
  have q1 := x_impl_IsLocation b.Low h.1
  have q2 := x_impl_IsLocation b.High h.2
  have q3 := x_impl_Dominates b.High b.Low h.2
  unfold validBox
  rcases tf (isLoc b.Low) with e1 | e1 <;> rcases tf (isLoc b.High) with e2 | e2 <;> by_cases e3 : 0 < b.Low.length <;> simp [q1, q2, q3, e1, e2, e3]
@[simp] theorem x_spec_IsValidBox (b : Box) (h : LeX b) : X_spec_IsValidBox b = some (Bo (validBox b.Low b.High), []) := by
  refine S_spec_IsValidBox _ _ ?_
  have q1 := x_spec_IsLocation b.Low h.1
  have q2 := x_spec_IsLocation b.High h.2
  have q3 := x_spec_Dominates b.High b.Low h.2
  unfold validBox
  rcases tf (isLoc b.Low) with e1 | e1 <;> rcases tf (isLoc b.High) with e2 | e2 <;> by_cases e3 : 0 < b.Low.length <;> simp [q1, q2, q3, e1, e2, e3]

theorem l_volume (b : Box) (hv : validBox b.Low b.High = true) : ∀ i, i ≤ b.Low.length → ∀ n : Int, 1 ≤ n → n ≤ 8 ^ i →
    L_impl_volume_0 b n b.Low.length i = some (I (n * vol (b.Low.drop i) (b.High.drop i)), []) := by
  obtain ⟨b1, b2, b3, b4⟩ := box_get hv
  refine down _ ?_ ?_
  · intro n _ _
    refine SL_impl_volume_0 _ _ _ _ _ ?_
    rw [List.drop_length, ← b1, List.drop_length, vol_nil]
    simp
  · intro i hi0 ih n hn1 hn2
    refine SL_impl_volume_0 _ _ _ _ _ ?_
    have h5 := inc64 (i := i) (by omega)
    have hi2 : i < b.High.length := by omega
    obtain ⟨g1, g2, g3⟩ := b4 i hi0 hi2
    have p1 := pow8 (i := i + 1) (by omega)
    have p2 : (8 : Int) ^ (i + 1) = 8 ^ i * 8 := Int.pow_succ 8 i
    have hd : (b.High[i] - b.Low[i] + 1) ≤ 8 := by omega
    have hd1 : 1 ≤ (b.High[i] - b.Low[i] + 1) := by omega
    have m1 : n * (b.High[i] - b.Low[i] + 1) ≤ 8 ^ i * 8 := Int.mul_le_mul hn2 hd (by omega) (by omega)
    have m2 : 1 ≤ n * (b.High[i] - b.Low[i] + 1) := by
      have := Int.mul_le_mul hn1 hd1 (by omega) (by omega)
      omega
    have w1 : IntKind.wrap .i64 (b.High[i] - b.Low[i]) = b.High[i] - b.Low[i] := wrap64 (by omega) (by omega)
    have w2 : IntKind.wrap .i64 (b.High[i] - b.Low[i] + 1) = b.High[i] - b.Low[i] + 1 := wrap64 (by omega) (by omega)
    have w3 : IntKind.wrap .i64 (n * (b.High[i] - b.Low[i] + 1)) = n * (b.High[i] - b.Low[i] + 1) := wrap64 (by omega) (by omega)
    have ih := ih (n * (b.High[i] - b.Low[i] + 1)) m2 (by omega)
    rw [vol_drop hi0 hi2, ← Int.mul_assoc]
    simp at ih
    simp [hi0, hi2, h5, w1, w2, w3, ih]
@[simp] theorem x_impl_BoxVolume (b : Box) (h : LeX b) : X_impl_BoxVolume b = some (I (boxVol b.Low b.High), []) := by
  refine S_impl_BoxVolume _ _ ?_
  have q1 := x_impl_IsValidBox b h
  unfold boxVol
  rcases tf (validBox b.Low b.High) with e | e
  · simp [q1, e]
  · have q2 := l_volume b e 0 (Nat.zero_le _) 1 (by omega) (by decide)
    have q3 : X_impl_volume b = some (I (vol b.Low b.High), []) := S_impl_volume _ _ (by simpa using q2)
    simp [q1, q3, e, capV]
theorem l_spec_BoxVolume (b : Box) (hv : validBox b.Low b.High = true) : ∀ i, i ≤ b.Low.length → ∀ n : Int, 1 ≤ n →
    L_spec_BoxVolume_0 b (capV n) i = some (I (capV (n * vol (b.Low.drop i) (b.High.drop i))), []) := by
  obtain ⟨b1, b2, b3, b4⟩ := box_get hv
  refine down _ ?_ ?_
  · intro n _
    refine SL_spec_BoxVolume_0 _ _ _ _ ?_
    rw [List.drop_length, ← b1, List.drop_length, vol_nil]
    simp [b1]
  · intro i hi0 ih n hn1
    refine SL_spec_BoxVolume_0 _ _ _ _ ?_
    have h5 := inc64 (i := i) (by omega)
    have hi2 : i < b.High.length := by omega
    obtain ⟨g1, g2, g3⟩ := b4 i hi0 hi2
    have hd : (b.High[i] - b.Low[i] + 1) ≤ 8 := by omega
    have hd1 : 1 ≤ (b.High[i] - b.Low[i] + 1) := by omega
    obtain ⟨c1, c2⟩ := cap_le hn1
    have m1 : capV n * (b.High[i] - b.Low[i] + 1) ≤ 401 * 8 := Int.mul_le_mul c2 hd (by omega) (by omega)
    have m2 : 1 * 1 ≤ capV n * (b.High[i] - b.Low[i] + 1) := Int.mul_le_mul c1 hd1 (by omega) (by omega)
    have m3 : 1 * 1 ≤ n * (b.High[i] - b.Low[i] + 1) := Int.mul_le_mul hn1 hd1 (by omega) (by omega)
    have w1 : IntKind.wrap .i64 (b.High[i] - b.Low[i]) = b.High[i] - b.Low[i] := wrap64 (by omega) (by omega)
    have w2 : IntKind.wrap .i64 (b.High[i] - b.Low[i] + 1) = b.High[i] - b.Low[i] + 1 := wrap64 (by omega) (by omega)
    have w3 : IntKind.wrap .i64 (capV n * (b.High[i] - b.Low[i] + 1)) = capV n * (b.High[i] - b.Low[i] + 1) := wrap64 (by omega) (by omega)
    have ih := ih (n * (b.High[i] - b.Low[i] + 1)) (by omega)
    rw [← cap_mul hn1 hd1] at ih
    rw [vol_drop hi0 hi2, ← Int.mul_assoc]
    simp at ih
    simp [hi0, hi2, h5, w1, w2, w3, cap_flip, ih]
@[simp] theorem x_spec_BoxVolume (b : Box) (h : LeX b) : X_spec_BoxVolume b = some (I (boxVol b.Low b.High), []) := by
  refine S_spec_BoxVolume _ _ ?_
  have q1 := x_spec_IsValidBox b h
  unfold boxVol
  rcases tf (validBox b.Low b.High) with e | e
  · simp [q1, e]
  · have q2 := l_spec_BoxVolume b e 0 (Nat.zero_le _) 1 (by omega)
    have e1 : capV 1 = 1 := by decide
    rw [e1] at q2
    simp at q2
    simp [q1, e, q2]
end Go.Proofs.Ytiniphmomjnocaa
