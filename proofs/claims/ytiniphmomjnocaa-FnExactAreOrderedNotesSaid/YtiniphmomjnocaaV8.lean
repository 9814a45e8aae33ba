/-
  AreOrderedNotes: contracts and the law.
-/
import Derived.Test.YtiniphmomjnocaaV7
namespace Go.Proofs.Ytiniphmomjnocaa
open Go.AM
set_option linter.unusedSimpArgs false
set_option linter.unusedVariables false
set_option maxHeartbeats 1000000

theorem diff_none : ∀ c : List Int, diffIdx 0 c = false
  | [] => by simp [diffIdx]
  | v :: c => by
    have : inR v 0 (-1) = false := by simp [inR]; omega
    simp [diffIdx, varsOk, this]

@[simp] theorem x_spec_IsValidBouquet (q : Query) (b : Bouquet) (hq : LeQ q) (hl : LeB b) : X_spec_IsValidBouquet q b = some (Bo (validB q.VariableCount q.Atoms b), []) := by
  refine S_spec_IsValidBouquet _ _ _ ?_
  have q2 := x_spec_FullMask q hq
  have q3 := x_spec_BoxVolume b.Box ⟨hl.1, hl.2.1⟩
  have q4 := fullM_inc q.VariableCount q.Atoms
  unfold validB headB
  rcases tf (inR b.Version 1 999) with e2 | e2
  · simp [e2]
  rcases tf (inR b.Ratio 2 8) with e3 | e3
  · simp [e2, e3]
  rcases tf (inR b.Slack 0 100) with e4 | e4
  · simp [e2, e3, e4]
  by_cases e6 : (b.Box.Low.length : Int) = fullM q.VariableCount q.Atoms + 1
  rotate_left
  · simp [q2, q4, e2, e3, e4, e6]
  rcases tf (inR (boxVol b.Box.Low b.Box.High) 1 400) with e5 | e5
  · simp [q2, q3, q4, e2, e3, e4, e5, e6]
  simp only [q2, q3, e2, e3, e4, e5, x_l1In, Option.some.injEq, Prod.mk.injEq, AV.t.injEq, T.bool.injEq, T.int.injEq, true_and, and_true, exists_eq_left', if_true]
  rw [show w (fullM q.VariableCount q.Atoms + 1) = fullM q.VariableCount q.Atoms + 1 from q4, if_pos e6, decide_eq_true e6]
  by_cases e7 : b.Budgets.length = 0
  · rw [if_pos (by omega)]
    simp [e7]
  rw [if_neg (by omega)]
  by_cases e8 : b.Contours.length = b.Budgets.length
  rotate_left
  · rw [if_neg (by omega), decide_eq_false e8]
    simp
  rw [if_pos (by omega), decide_eq_true e8]
  have r2 := l_spec_B2 b e3 hl e8 0 (Nat.zero_le _) (fun p h => by simp [prevAt] at h)
  have r0 := l_spec_B0 q b hq hl _ r2 0 (Nat.zero_le _)
  simp only [List.drop_zero, prevAt] at r0
  have r0 : L_spec_IsValidBouquet_0 q b 0 = _ := r0
  rw [r0]
  have e9 : decide (0 < b.Budgets.length) = true := decide_eq_true (by omega)
  rw [e9]
  rcases tf (validQ q.VariableCount q.Atoms) with e1 | e1
  · have e5' : fullM q.VariableCount q.Atoms = 0 := by unfold fullM; rw [e1]; rfl
    rw [e1, e5']
    simp only [ne_eq, not_true_eq_false, decide_false, Bool.and_false, Bool.false_and]
    cases hp : b.Plans with
    | cons p ps => simp
    | nil =>
      cases hcs : b.Contours with
      | nil => rw [hcs] at e8; simp at e8; omega
      | cons c cs => simp [diff_none]
  · have e5' := fullM_pos e1
    have e5'' : fullM q.VariableCount q.Atoms ≠ 0 := by omega
    rw [e1, decide_eq_true e5'']
    simp [Bool.and_assoc]

/-! ### notes -/

def lastOf (xs : List RunNote) : Nat → Option RunNote
  | 0 => none
  | k + 1 => xs[k]?
/-- where a plan stands in a contour -/
def posIn (b : Bouquet) (x : RunNote) (p : Int) : Int := match b.Contours[x.Contour.toNat]? with
  | some c => find1 (fun y => decide (p = y)) c 0
  | none => -1
/-- a note by itself -/
def noteOk (b : Bouquet) (n i : Nat) (x : RunNote) : Bool :=
  inR x.Contour 0 ((b.Contours.length : Int) - 1) &&
  (match b.Budgets[x.Contour.toNat]? with | some e => decide (x.Budget = slackB e b.Slack) | none => false) &&
  decide (x.Done = decide ((i : Int) = (n : Int) - 1)) && decide (0 ≤ posIn b x x.Plan)
/-- a note behind another -/
def noteAfter (b : Bouquet) (x : RunNote) : Option RunNote → Bool
  | none => true
  | some y => decide (y.Contour < x.Contour) || (decide (y.Contour = x.Contour) && decide (posIn b x y.Plan < posIn b x x.Plan))

theorem x_orderedNote (b : Bouquet) (hl : LeB b) (hc : b.Contours.length = b.Budgets.length) (xs : List RunNote) (hx : Le xs) (i : Nat) (hi : i < xs.length) :
    X_impl_orderedNote b xs i = some (Bo (noteOk b xs.length i xs[i] && noteAfter b xs[i] (lastOf xs i)), []) := by
  obtain ⟨l1, l2, l3, l4, l5, l6⟩ := hl
  refine S_impl_orderedNote _ _ _ _ ?_
  have w1 : w ((b.Contours.length : Int) - 1) = (b.Contours.length : Int) - 1 := wrap64 (by omega) (by omega)
  have w2 : w ((xs.length : Int) - 1) = (xs.length : Int) - 1 := wrap64 (by omega) (by omega)
  have hg : xs[((i : Nat) : Int).toNat]? = some xs[i] := by rw [Int.toNat_natCast]; exact List.getElem?_eq_getElem hi
  refine ⟨by omega, xs[i], hg, _, x_within _ _ _, ?_⟩
  rw [w1]
  unfold noteOk
  generalize xs[i] = x
  rcases tf (inR x.Contour 0 ((b.Contours.length : Int) - 1)) with e1 | e1
  · rw [e1]; simp
  rw [e1, if_pos rfl]
  have e0 := e1
  simp [inR] at e0
  have g1 : x.Contour.toNat < b.Budgets.length := by omega
  have g2 : x.Contour.toNat < b.Contours.length := by omega
  refine ⟨by omega, _, List.getElem?_eq_getElem g1, _, x_impl_Slack _ _, ?_⟩
  rw [List.getElem?_eq_getElem g1]
  simp only
  by_cases e2 : x.Budget = slackB b.Budgets[x.Contour.toNat] b.Slack
  rotate_left
  · rw [if_neg e2, decide_eq_false e2]; simp
  rw [if_pos e2, decide_eq_true e2, w2]
  by_cases e3 : x.Done = decide ((i : Int) = (xs.length : Int) - 1)
  rotate_left
  · rw [if_neg e3, decide_eq_false e3]; simp
  rw [if_pos e3, decide_eq_true e3]
  have c6 := l6 _ (List.getElem_mem g2)
  have p1 : ∀ p, posIn b x p = find1 (fun y => decide (p = y)) b.Contours[x.Contour.toNat] 0 := by intro p; unfold posIn; rw [List.getElem?_eq_getElem g2]
  refine ⟨_, List.getElem?_eq_getElem g2, _, xIndexI _ _ c6, ?_⟩
  rw [← p1]
  by_cases e4 : posIn b x x.Plan < 0
  · rw [if_pos e4, decide_eq_false (by omega)]; simp
  rw [if_neg e4, decide_eq_true (by omega)]
  cases i with
  | zero => rw [if_pos (by omega)]; simp [lastOf, noteAfter]
  | succ j =>
    have hj : j < xs.length := by omega
    have w3 : w (((j + 1 : Nat) : Int) - 1) = j := by rw [show ((j + 1 : Nat) : Int) - 1 = j by omega]; exact wrap64 (by omega) (by omega)
    rw [if_neg (by omega), w3]
    refine ⟨by omega, xs[j], by rw [Int.toNat_natCast]; exact List.getElem?_eq_getElem hj, ?_⟩
    have e5 : lastOf xs (j + 1) = some xs[j] := List.getElem?_eq_getElem hj
    rw [e5]
    simp only [noteAfter]
    by_cases e6 : xs[j].Contour < x.Contour
    · rw [if_pos e6, decide_eq_true e6]; simp
    rw [if_neg e6, decide_eq_false e6]
    by_cases e7 : xs[j].Contour = x.Contour
    · rw [if_pos e7, decide_eq_true e7]
      refine ⟨_, xIndexI _ _ c6, ?_⟩
      rw [← p1]
      simp
    · rw [if_neg e7, decide_eq_false e7]; simp

/-- notes in order, from note i on -/
def notesOk (b : Bouquet) (xs : List RunNote) : Nat → Nat → Bool
  | _, 0 => true
  | i, k + 1 => (match xs[i]? with | some x => noteOk b xs.length i x && noteAfter b x (lastOf xs i) | none => false) && notesOk b xs (i + 1) k
theorem l_impl_notes (b : Bouquet) (hl : LeB b) (hc : b.Contours.length = b.Budgets.length) (xs : List RunNote) (hx : Le xs) : ∀ i, i ≤ xs.length →
    L_impl_AreOrderedNotes_0 b xs xs.length i = some (Bo (notesOk b xs i (xs.length - i)), []) := by
  refine down _ ?_ ?_
  · refine SL_impl_AreOrderedNotes_0 _ _ _ _ _ ?_
    rw [if_neg (by omega), Nat.sub_self]
    simp [notesOk]
  · intro i hi ih
    refine SL_impl_AreOrderedNotes_0 _ _ _ _ _ ?_
    have h4 := inc64 (i := i) (by omega)
    rw [if_pos (by omega)]
    refine ⟨_, x_orderedNote b hl hc xs hx i hi, ?_⟩
    rw [show xs.length - i = (xs.length - (i + 1)) + 1 by omega, notesOk, List.getElem?_eq_getElem hi]
    simp only
    rcases tf (noteOk b xs.length i xs[i] && noteAfter b xs[i] (lastOf xs i)) with e | e
    · rw [e]; simp
    · rw [e, if_pos rfl, show w ((i : Int) + 1) = (i : Int) + 1 from h4]
      simp at ih
      rw [ih]; simp
theorem x_impl_AreOrderedNotes (q : Query) (b : Bouquet) (xs : List RunNote) (hq : LeQ q) (hl : LeB b) (hx : Le xs) :
    X_impl_AreOrderedNotes q b xs = some (Bo (validB q.VariableCount q.Atoms b && (decide (xs ≠ []) && notesOk b xs 0 xs.length)), []) := by
  refine S_impl_AreOrderedNotes _ _ _ _ ?_
  refine ⟨_, x_impl_IsValidBouquet q b hq hl, ?_⟩
  rcases tf (validB q.VariableCount q.Atoms b) with e | e
  · rw [e]; simp
  rw [e, if_pos rfl]
  have hc : b.Contours.length = b.Budgets.length := by
    simp only [validB, Bool.and_eq_true, decide_eq_true_eq] at e
    exact e.2.2
  by_cases e2 : xs = []
  · subst e2; simp
  · have e3 : ¬ (xs.length : Int) = 0 := fun hc => e2 (List.length_eq_zero_iff.1 (by omega))
    rw [if_neg e3]
    have := l_impl_notes b hl hc xs hx 0 (Nat.zero_le _)
    simp at this
    rw [this]
    simp [e2]

def lastSt (b : Bouquet) (last x : Int) : Option RunNote → Prop
  | none => last = 0 ∧ x = -1
  | some y => last = y.Contour ∧ x = posIn b y y.Plan ∧ 0 ≤ y.Contour
theorem l_spec_notes (b : Bouquet) (hl : LeB b) (hc : b.Contours.length = b.Budgets.length) (xs : List RunNote) (hx : Le xs) : ∀ i, i ≤ xs.length → ∀ last x, lastSt b last x (lastOf xs i) →
    L_spec_AreOrderedNotes_0 b xs last x i = some (Bo (notesOk b xs i (xs.length - i) && decide (0 < xs.length)), []) := by
  obtain ⟨l1, l2, l3, l4, l5, l6⟩ := hl
  have w1 : w ((b.Budgets.length : Int) - 1) = (b.Contours.length : Int) - 1 := by rw [hc]; exact wrap64 (by omega) (by omega)
  have w2 : w ((xs.length : Int) - 1) = (xs.length : Int) - 1 := wrap64 (by omega) (by omega)
  refine down _ ?_ ?_
  · intro last x _
    refine SL_spec_AreOrderedNotes_0 _ _ _ _ _ _ ?_
    rw [if_neg (by omega), Nat.sub_self]
    simp [notesOk]
  · intro i hi ih last pos hst
    refine SL_spec_AreOrderedNotes_0 _ _ _ _ _ _ ?_
    have h4 := inc64 (i := i) (by omega)
    have hg : xs[((i : Nat) : Int).toNat]? = some xs[i] := by rw [Int.toNat_natCast]; exact List.getElem?_eq_getElem hi
    have hpos : decide (0 < xs.length) = true := decide_eq_true (by omega)
    rw [if_pos (by omega)]
    refine ⟨by omega, xs[i], hg, _, x_l1In _ _ _, ?_⟩
    rw [show xs.length - i = (xs.length - (i + 1)) + 1 by omega, notesOk, List.getElem?_eq_getElem hi, w1, hpos, Bool.and_true]
    simp only
    have ih := ih xs[i].Contour (posIn b xs[i] xs[i].Plan)
    have el : lastOf xs (i + 1) = some xs[i] := List.getElem?_eq_getElem hi
    rw [el, hpos, Bool.and_true] at ih
    simp only [lastSt, true_and, Int.natCast_add, Int.cast_ofNat_Int] at ih
    generalize hL : lastOf xs i = lst at hst ⊢
    generalize xs[i] = x at ih ⊢
    generalize notesOk b xs (i + 1) (xs.length - (i + 1)) = rest at ih ⊢
    have hlast : 0 ≤ last := by cases lst <;> simp only [lastSt] at hst <;> omega
    rcases tf (inR x.Contour last ((b.Contours.length : Int) - 1)) with e1 | e1
    · rw [e1, if_neg (by simp)]
      simp [inR] at e1
      have : (noteOk b xs.length i x && noteAfter b x lst) = false := by
        rcases tf (inR x.Contour 0 ((b.Contours.length : Int) - 1)) with e2 | e2
        · simp [noteOk, e2]
        · simp [inR] at e2
          cases lst with
          | none => simp only [lastSt] at hst; omega
          | some y =>
            simp only [lastSt] at hst
            have a1 : ¬ y.Contour < x.Contour := by omega
            have a2 : ¬ y.Contour = x.Contour := by omega
            simp [noteAfter, a1, a2]
      rw [this]; simp
    rw [e1, if_pos rfl]
    have e0 := e1
    simp [inR] at e0
    have e1' : inR x.Contour 0 ((b.Contours.length : Int) - 1) = true := by simp [inR]; omega
    have g1 : x.Contour.toNat < b.Budgets.length := by omega
    have g2 : x.Contour.toNat < b.Contours.length := by omega
    refine ⟨by omega, _, List.getElem?_eq_getElem g1, _, x_spec_Slack _ _, ?_⟩
    unfold noteOk
    rw [e1', List.getElem?_eq_getElem g1]
    simp only
    by_cases e2 : x.Budget = slackB b.Budgets[x.Contour.toNat] b.Slack
    rotate_left
    · rw [if_neg e2, decide_eq_false e2]; simp
    rw [if_pos e2, decide_eq_true e2, w2]
    by_cases e3 : x.Done = decide ((i : Int) = (xs.length : Int) - 1)
    rotate_left
    · rw [if_neg e3, decide_eq_false e3]; simp
    rw [if_pos e3, decide_eq_true e3]
    have c6 := l6 _ (List.getElem_mem g2)
    have p1 : ∀ p, posIn b x p = find1 (fun y => decide (p = y)) b.Contours[x.Contour.toNat] 0 := by intro p; unfold posIn; rw [List.getElem?_eq_getElem g2]
    refine ⟨_, List.getElem?_eq_getElem g2, _, x_l27Find _ _ c6, ?_⟩
    rw [← p1]
    by_cases e4 : posIn b x x.Plan < 0
    · rw [if_pos e4, decide_eq_false (by omega)]; simp
    rw [if_neg e4, decide_eq_true (by omega), show w ((i : Int) + 1) = (i : Int) + 1 from h4]
    have ih := ih (by omega)
    rw [ih]
    cases lst with
    | none =>
      simp only [lastSt] at hst
      simp only [noteAfter]
      by_cases e5 : x.Contour = last
      · rw [if_pos e5, if_neg (by omega)]; simp
      · rw [if_neg e5]; simp
    | some y =>
      simp only [lastSt] at hst
      simp only [noteAfter]
      by_cases e5 : x.Contour = last
      · rw [if_pos e5]
        have a1 : ¬ y.Contour < x.Contour := by omega
        have a2 : y.Contour = x.Contour := by omega
        have a3 : posIn b y y.Plan = posIn b x y.Plan := by unfold posIn; rw [a2]
        rw [decide_eq_false a1, decide_eq_true a2, ← a3, ← hst.2.1]
        by_cases e6 : posIn b x x.Plan ≤ pos
        · rw [if_pos e6, decide_eq_false (by omega)]; simp
        · rw [if_neg e6, decide_eq_true (by omega)]; simp
      · rw [if_neg e5, decide_eq_true (by omega : y.Contour < x.Contour)]; simp
theorem x_spec_AreOrderedNotes (q : Query) (b : Bouquet) (xs : List RunNote) (hq : LeQ q) (hl : LeB b) (hx : Le xs) :
    X_spec_AreOrderedNotes q b xs = some (Bo (validB q.VariableCount q.Atoms b && (decide (xs ≠ []) && notesOk b xs 0 xs.length)), []) := by
  refine S_spec_AreOrderedNotes _ _ _ _ ?_
  refine ⟨_, x_spec_IsValidBouquet q b hq hl, ?_⟩
  rcases tf (validB q.VariableCount q.Atoms b) with e | e
  · rw [e]; simp
  rw [e, if_pos rfl]
  have hc : b.Contours.length = b.Budgets.length := by
    simp only [validB, Bool.and_eq_true, decide_eq_true_eq] at e
    exact e.2.2
  have := l_spec_notes b hl hc xs hx 0 (Nat.zero_le _) 0 (-1) ⟨rfl, rfl⟩
  simp at this
  rw [this]
  have : decide (0 < xs.length) = decide (xs ≠ []) := by cases xs <;> simp
  rw [this, Bool.and_comm]
  simp
end Go.Proofs.Ytiniphmomjnocaa
