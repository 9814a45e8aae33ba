/-
  Contracts: ranges, library searches, names, queries.
-/
import Derived.Test.YtiniphmomjnocaaPW
import Derived.Test.YtiniphmomjnocaaG
namespace Go.Proofs.Ytiniphmomjnocaa
open Go.AM
set_option linter.unusedSimpArgs false
set_option linter.unusedVariables false

@[simp] theorem x_within (a b c : Int) : X_impl_within a b c = some (Bo (inR a b c), []) := by
  refine S_impl_within _ _ _ _ ?_
  by_cases h : b ≤ a <;> simp [inR, h]
@[simp] theorem x_l1In (a b c : Int) : X_spec_l1In a b c = some (Bo (inR a b c), []) := by
  refine S_spec_l1In _ _ _ _ ?_
  by_cases h : b ≤ a <;> simp [inR, h]

theorem lIndexI (xs : List Int) (v : Int) (hx : Le xs) : ∀ i, i ≤ xs.length →
    L_slices_Index___int_int__0 xs v xs.length i = some (I (find1 (fun x => decide (v = x)) (xs.drop i) i), []) := by
  refine down _ ?_ ?_
  · refine SL_slices_Index___int_int__0 _ _ _ _ _ ?_
    simp [find1]
  · intro i hi ih
    refine SL_slices_Index___int_int__0 _ _ _ _ _ ?_
    have h4 := inc64 (i := i) (by omega)
    rw [find1_drop _ hi]
    simp at ih
    by_cases e : v = xs[i] <;> simp [hi, h4, e, ih]
@[simp] theorem xIndexI (xs : List Int) (v : Int) (hx : Le xs) : X_slices_Index___int_int_ xs v = some (I (find1 (fun x => decide (v = x)) xs 0), []) := by
  refine S_slices_Index___int_int_ _ _ _ ?_
  have := lIndexI xs v hx 0 (Nat.zero_le _)
  simpa using this
@[simp] theorem xContainsI (xs : List Int) (v : Int) (hx : Le xs) : X_slices_Contains___int_int_ xs v = some (Bo (has xs v), []) := by
  refine S_slices_Contains___int_int_ _ _ _ ?_
  unfold has
  rcases tf (xs.any (fun x => decide (v = x))) with e | e
  · simp [hx, find1_none _ _ _ e, e]
  · have := find1_some _ _ 0 e
    simp [hx, this, e]

theorem lIndexB (xs : List Bool) (v : Bool) (hx : Le xs) : ∀ i, i ≤ xs.length →
    L_slices_Index___bool_bool__0 xs v xs.length i = some (I (find1 (fun x => v == x) (xs.drop i) i), []) := by
  refine down _ ?_ ?_
  · refine SL_slices_Index___bool_bool__0 _ _ _ _ _ ?_
    simp [find1]
  · intro i hi ih
    refine SL_slices_Index___bool_bool__0 _ _ _ _ _ ?_
    have h4 := inc64 (i := i) (by omega)
    rw [find1_drop _ hi]
    simp at ih
    by_cases e : v = xs[i] <;> simp [hi, h4, e, ih]
@[simp] theorem xContainsB (xs : List Bool) (v : Bool) (hx : Le xs) : X_slices_Contains___bool_bool_ xs v = some (Bo (xs.any (fun x => v == x)), []) := by
  refine S_slices_Contains___bool_bool_ _ _ _ ?_
  have q : X_slices_Index___bool_bool_ xs v = some (I (find1 (fun x => v == x) xs 0), []) := by
    refine S_slices_Index___bool_bool_ _ _ _ ?_
    have := lIndexB xs v hx 0 (Nat.zero_le _)
    simpa using this
  rcases tf (xs.any (fun x => v == x)) with e | e
  · rw [find1_none _ _ _ e] at q
    rw [e]; simp [q]
  · have := find1_some _ _ 0 e
    rw [e]; simp [q, this]

theorem l_l7Has (xs : List Int) (v : Int) (hx : Le xs) : ∀ i, i ≤ xs.length → L_spec_l7Has_0 xs v i = some (Bo (has (xs.drop i) v), []) := by
  unfold has
  refine down _ ?_ ?_
  · refine SL_spec_l7Has_0 _ _ _ _ ?_
    simp
  · intro i hi ih
    refine SL_spec_l7Has_0 _ _ _ _ ?_
    have h4 := inc64 (i := i) (by omega)
    rw [drop_any _ hi]
    simp at ih
    by_cases e : v = xs[i]
    · simp [hi, h4, ← e]
    · have e' : ¬ xs[i] = v := fun hc => e hc.symm
      simp [hi, h4, e, e', ih]
@[simp] theorem x_l7Has (xs : List Int) (v : Int) (hx : Le xs) : X_spec_l7Has xs v = some (Bo (has xs v), []) := by
  refine S_spec_l7Has _ _ _ ?_
  have := l_l7Has xs v hx 0 (Nat.zero_le _)
  simpa using this

theorem nm_aux (s : ByteArray) (P : Prop) : (if (s.size : Int) = 1 then (∃ (b1 : UInt8), s[0]? = some b1 ∧ (if 97 ≤ (b1.toNat : Int) then (some (Bo (decide ((b1.toNat : Int) ≤ 122)), []) = some (Bo (nmOk s), ([] : List Blk))) else (some (Bo false, []) = some (Bo (nmOk s), ([] : List Blk))))) else (some (Bo false, []) = some (Bo (nmOk s), ([] : List Blk)))) := by
  by_cases h : s.size = 1
  · obtain ⟨b, hb⟩ := get0 h
    rw [if_pos (by omega)]
    refine ⟨b, hb, ?_⟩
    have e : nmOk s = (decide (97 ≤ (b.toNat : Int)) && decide ((b.toNat : Int) ≤ 122)) := by
      unfold nmOk; rw [hb]; simp only [h, decide_true, Bool.true_and]
    by_cases h1 : (97 : Int) ≤ (b.toNat : Int)
    · rw [if_pos h1, e, decide_eq_true h1, Bool.true_and]
    · rw [if_neg h1, e, decide_eq_false h1, Bool.false_and]
  · have h' : ¬ (s.size : Int) = 1 := by omega
    have : nmOk s = false := by unfold nmOk; split <;> simp [h]
    simp [h', this]
@[simp] theorem x_nameOk (s : ByteArray) : X_impl_nameOk s = some (Bo (nmOk s), []) := S_impl_nameOk _ _ (nm_aux s True)
@[simp] theorem x_l4Name (s : ByteArray) : X_spec_l4Name s = some (Bo (nmOk s), []) := S_spec_l4Name _ _ (nm_aux s True)

/-! ### queries: the program's -/

/-- short enough for any index -/
def LeQ (q : Query) : Prop := Le q.Atoms ∧ ∀ a ∈ q.Atoms, Le a.Vars

def blB (p : Nat → Bool) (n : Nat) : List Bool := (List.range n).map p
theorem blB_set (p : Nat → Bool) (n : Nat) {v : Int} (h : inR v 0 ((n : Int) - 1) = true) : (blB p n).set v.toNat true = blB (addV p [v]) n := by
  simp [inR] at h
  apply List.ext_getElem
  · simp [blB]
  · intro i h1 h2
    simp only [blB, List.length_set, List.length_map, List.length_range] at h1
    rw [List.getElem_set]
    simp only [blB, List.getElem_map, List.getElem_range]
    by_cases e : v.toNat = i
    · have : (i : Int) = v := by omega
      simp [e, addV, has, this]
    · have : ¬ (i : Int) = v := by omega
      simp [e, addV, has, this]

theorem l_impl_IVQ0 (q : Query) (n : Nat) (hn : n ≤ 4) (hq : q.VariableCount = n) (a : Atom) (qa : List Atom) (l j : Int) (hv : Le a.Vars) (r : AV × List Blk) : ∀ k, k ≤ a.Vars.length → ∀ p,
    (if varsOk n (a.Vars.take k) (a.Vars.drop k) = true then L_impl_IsValidQuery_1 q (blB (addV p (a.Vars.drop k)) n) qa l (w (j + 1)) = some r else some (Bo false, []) = some r) →
    L_impl_IsValidQuery_0 q (blB p n) a qa l j a.Vars a.Vars.length k = some r := by
  refine down _ ?_ ?_
  · intro p h
    refine SL_impl_IsValidQuery_0 _ _ _ _ _ _ _ _ _ _ ?_
    simpa [varsOk, addV_nil] using h
  · intro k hk ih p h
    have h4 := inc64 (i := k) (by omega)
    have hw : w (q.VariableCount - 1) = (n : Int) - 1 := by rw [hq]; exact wrap64 (by omega) (by omega)
    have hl := xContainsI (a.Vars.take k) a.Vars[k] (by simp; omega)
    refine SL_impl_IsValidQuery_0 _ _ _ _ _ _ _ _ _ _ ?_
    rw [varsOk_drop _ hk] at h
    rcases tf (inR a.Vars[k] 0 ((n : Int) - 1)) with e1 | e1
    · simp [e1] at h
      simp [hk, h4, hw, e1, ← h]
    · rcases tf (has (a.Vars.take k) a.Vars[k]) with e2 | e2
      · rw [addV_drop p hk] at h
        simp only [e1, e2, Bool.true_and, Bool.not_false] at h
        have ih := ih _ h
        have e0 := e1
        simp [inR] at e0
        have e5 : (a.Vars[k]).toNat < (blB p n).length := by simp [blB]; omega
        have e6 := blB_set p n e1
        have e7 : k ≤ a.Vars.length := by omega
        simp at ih
        simp [hk, h4, hw, e1, e2, hl, e0, e5, e6, e7, ih]
      · simp [e1, e2] at h
        have e7 : k ≤ a.Vars.length := by omega
        simp [hk, h4, hw, e1, e2, hl, e7, ← h]

theorem l_impl_IVQ1 (q : Query) (n : Nat) (hn : n ≤ 4) (hq : q.VariableCount = n) (qa : List Atom) (hl : Le qa) (hv : ∀ a ∈ qa, Le a.Vars) : ∀ k, k ≤ qa.length → ∀ p,
    L_impl_IsValidQuery_1 q (blB p n) qa qa.length k = some (Bo ((qa.drop k).all (okAtom n) && (List.range n).all (addA p (qa.drop k))), []) := by
  refine down _ ?_ ?_
  · intro p
    refine SL_impl_IsValidQuery_1 _ _ _ _ _ _ ?_
    have e : addA p [] = p := by funext u; simp [addA]
    have q1 := xContainsB (blB p n) false (by simp [blB]; omega)
    have q2 : (blB p n).any (fun x => false == x) = !(List.range n).all p := bl_any p n
    rw [q2] at q1
    simp [q1, e]
  · intro k hk ih p
    refine SL_impl_IsValidQuery_1 _ _ _ _ _ _ ?_
    have h4 := inc64 (i := k) (by omega)
    rw [drop_all _ hk]
    rcases tf (nmOk qa[k].Name) with e1 | e1
    · simp [hk, e1, okAtom]
    rcases tf (inR qa[k].Vars.length 1 3) with e2 | e2
    · simp [hk, e1, e2, okAtom]
    have b := l_impl_IVQ0 q n hn hq qa[k] qa qa.length k (hv _ (List.getElem_mem hk)) (Bo (okAtom n qa[k] && (qa.drop (k + 1)).all (okAtom n) && (List.range n).all (addA p (qa.drop k))), []) 0 (Nat.zero_le _) p ?_
    · simp at b
      simp [hk, e1, e2, b]
    · simp only [List.take_zero, List.drop_zero, okAtom, e1, e2, Bool.true_and]
      rcases tf (varsOk n [] qa[k].Vars) with e3 | e3
      · simp [e3]
      · have ih := ih (addV p qa[k].Vars)
        simp only [e3, if_true, Bool.true_and, addA_drop p hk]
        simp at ih
        rw [show w ((k : Int) + 1) = (k : Int) + 1 from h4, ih]
@[simp] theorem x_impl_IsValidQuery (q : Query) (h : LeQ q) : X_impl_IsValidQuery q = some (Bo (validQ q.VariableCount q.Atoms), []) := by
  refine S_impl_IsValidQuery _ _ ?_
  unfold validQ
  rcases tf (inR q.VariableCount 1 4) with e1 | e1
  · simp [e1]
  rcases tf (inR q.Atoms.length 1 4) with e2 | e2
  · simp [e1, e2]
  have e0 := e1
  simp [inR] at e0
  have hn : q.VariableCount = (q.VariableCount.toNat : Int) := by omega
  have b := l_impl_IVQ1 q q.VariableCount.toNat (by omega) hn q.Atoms h.1 h.2 0 (Nat.zero_le _) (fun _ => false)
  have r1 : q.VariableCount.toNat ≤ room := room2 (by omega)
  have r2 : q.VariableCount ≤ room := by have : (q.VariableCount.toNat : Int) ≤ room := by exact_mod_cast r1
                                         omega
  have r3 : q.VariableCount ≤ 140737488355328 := by omega
  have ez : blB (fun _ => false) q.VariableCount.toNat = List.replicate q.VariableCount.toNat false := by
    apply List.ext_getElem <;> simp [blB]
  rw [ez, ← hn] at b
  simp at b
  simp [e1, e2, e0, r1, r2, r3, b]
  omega

/-! ### queries: the reference's -/

theorem l_spec_IVQ0 (q : Query) (n : Nat) (hn1 : 1 ≤ n) (hn : n ≤ 4) (hq : q.VariableCount = n) (a : Atom) (j : Int) (hv : Le a.Vars) (r : AV × List Blk) : ∀ k, k ≤ a.Vars.length → ∀ p,
    (if varsOk n (a.Vars.take k) (a.Vars.drop k) = true then L_spec_IsValidQuery_1 q (bits4 (addV p (a.Vars.drop k))) (w (j + 1)) = some r else some (Bo false, []) = some r) →
    L_spec_IsValidQuery_0 q a (bits4 p) j k = some r := by
  refine down _ ?_ ?_
  · intro p h
    refine SL_spec_IsValidQuery_0 _ _ _ _ _ _ ?_
    simpa [varsOk, addV_nil] using h
  · intro k hk ih p h
    have h4 := inc64 (i := k) (by omega)
    have hw : w (q.VariableCount - 1) = (n : Int) - 1 := by rw [hq]; exact wrap64 (by omega) (by omega)
    have hl := x_l7Has (a.Vars.take k) a.Vars[k] (by simp; omega)
    have e7 : k ≤ a.Vars.length := by omega
    refine SL_spec_IsValidQuery_0 _ _ _ _ _ _ ?_
    rw [varsOk_drop _ hk] at h
    rcases tf (inR a.Vars[k] 0 ((n : Int) - 1)) with e1 | e1
    · simp [e1] at h
      simp [hk, h4, hw, e1, ← h]
    · rcases tf (has (a.Vars.take k) a.Vars[k]) with e2 | e2
      · rw [addV_drop p hk] at h
        simp only [e1, e2, Bool.true_and, Bool.not_false] at h
        have ih := ih _ h
        have e0 := e1
        simp [inR] at e0
        have e6 := or_bit p (v := a.Vars[k]) (by simp [inR]; omega)
        have e8 : ¬ a.Vars[k] < 0 := by omega
        simp at ih
        simp [hk, h4, hw, e1, e2, hl, e0, e6, e7, e8, ih]
      · simp [e1, e2] at h
        simp [hk, h4, hw, e1, e2, hl, e7, ← h]
end Go.Proofs.Ytiniphmomjnocaa
