/-
  SpillTarget: the walks and the law.
-/
import Derived.Test.YtiniphmomjnocaaW28
namespace Go.Proofs.Ytiniphmomjnocaa
open Go.AM
set_option linter.unusedSimpArgs false
set_option linter.unusedVariables false

/-! ### masks are small -/

theorem or16 : ∀ a b : Fin 16, orI (a.1 : Int) (b.1 : Int) = ((a.1 ||| b.1 : Nat) : Int) := by decide
theorem or_lt {k : Nat} (hk : k ≤ 4) {a b : Int} (ha : 0 ≤ a ∧ a < 2 ^ k) (hb : 0 ≤ b ∧ b < 2 ^ k) : 0 ≤ orI a b ∧ orI a b < 2 ^ k := by
  have h16 : (2 : Int) ^ k ≤ 16 := by
    have : k = 0 ∨ k = 1 ∨ k = 2 ∨ k = 3 ∨ k = 4 := by omega
    rcases this with rfl | rfl | rfl | rfl | rfl <;> decide
  have e1 : a = (a.toNat : Int) := by omega
  have e2 : b = (b.toNat : Int) := by omega
  have l1 : a.toNat < 16 := by omega
  have l2 : b.toNat < 16 := by omega
  have e := or16 ⟨a.toNat, l1⟩ ⟨b.toNat, l2⟩
  simp only at e
  rw [e1, e2, e]
  have c : ((2 ^ k : Nat) : Int) = 2 ^ k := by simp
  have m1 : a.toNat < 2 ^ k := by omega
  have m2 : b.toNat < 2 ^ k := by omega
  have := Nat.or_lt_two_pow m1 m2
  omega
theorem shl_lt {k : Nat} (hk : k ≤ 4) {v : Int} (h0 : 0 ≤ v) (h1 : v < k) : 0 ≤ shlI 1 v ∧ shlI 1 v < 2 ^ k := by
  have h2 : v = 0 ∨ v = 1 ∨ v = 2 ∨ v = 3 := by omega
  have h3 : k = 0 ∨ k = 1 ∨ k = 2 ∨ k = 3 ∨ k = 4 := by omega
  rcases h2 with rfl | rfl | rfl | rfl <;> rcases h3 with rfl | rfl | rfl | rfl | rfl <;> first | omega | decide

def MaskOk (k : Nat) (y : SI) : Prop := 0 ≤ y.Mask ∧ y.Mask < 2 ^ k
theorem step_mask {qa : List Atom} (hk : qa.length ≤ 4) {x : PlanStep} {info : List SI} {st : List Int} {y : SI} (hs : StOk info st) (hm : ∀ y ∈ info, MaskOk qa.length y) (h : stepI qa x info st = some y) : MaskOk qa.length y := by
  unfold stepI at h
  split at h
  · split at h
    · rename_i hc
      cases h
      have := hc.1
      simp [inR] at this
      exact shl_lt hk this.1 (by omega)
    · cases h
  · split at h
    · cases h
    · split at h
      · split at h
        · rename_i s y' ht
          split at h
          · cases h
            obtain ⟨_, _, t3, t4⟩ := topAt_some hs (Nat.le_refl 1) ht
            exact hm y' (List.mem_of_getElem? t4)
          · cases h
        · cases h
      · split at h
        · rename_i s y' t z ht hu
          split at h
          · obtain ⟨_, _, _, t4⟩ := topAt_some hs (by omega : 1 ≤ 2) ht
            obtain ⟨_, _, _, u4⟩ := topAt_some hs (by omega : 1 ≤ 1) hu
            obtain ⟨o, ho, rfl⟩ := Option.map_eq_some_iff.1 h
            exact or_lt hk (hm y' (List.mem_of_getElem? t4)) (hm z (List.mem_of_getElem? u4))
          · cases h
        · cases h

/-- what is new in an info, step by step -/
theorem planGo_spec {qa : List Atom} (hk : qa.length ≤ 4) : ∀ {xs : List PlanStep} {i : Nat} {info : List SI} {st : List Int} {info' : List SI} {st' : List Int}, planGo qa xs i info st = some (info', st') →
    StOk info st → info.length = i → (∀ y ∈ info, MaskOk qa.length y) → (∀ y ∈ info', MaskOk qa.length y) ∧ ∃ tail, info' = info ++ tail ∧ tail.length = xs.length ∧ ∀ (j : Nat) (y : SI) (x : PlanStep), tail[j]? = some y → xs[j]? = some x → (0 ≤ y.Right ↔ 3 ≤ x.Kind)
  | [], i, info, st, info', st', h, hs, hi, hm => by
    simp [planGo] at h
    obtain ⟨rfl, rfl⟩ := h
    exact ⟨hm, [], by simp, rfl, by intro j y x hj; simp at hj⟩
  | x :: xs, i, info, st, info', st', h, hs, hi, hm => by
    rw [planGo] at h
    split at h
    · cases h
    · rename_i y hy
      have hn := st_next hs y (st.length - pops y)
      rw [hi] at hn
      have hm2 : ∀ z ∈ info ++ [y], MaskOk qa.length z := by
        intro z hz
        rcases List.mem_append.1 hz with hz | hz
        · exact hm z hz
        · simp at hz; subst hz; exact step_mask hk hs hm hy
      obtain ⟨g1, tail, g2, g3, g4⟩ := planGo_spec hk h hn (by simp [hi]) hm2
      refine ⟨g1, y :: tail, by simp [g2], by simp [g3], ?_⟩
      intro j y' x' hj hx
      cases j with
      | zero => simp at hj hx; subst hj; subst hx; exact (step_facts hs hy).2.2
      | succ j => exact g4 j y' x' (by simpa using hj) (by simpa using hx)

theorem planInfo_spec {n : Int} {qa : List Atom} {steps : List PlanStep} {info : List SI} (h : planInfo n qa steps = some info) :
    (∀ y ∈ info, MaskOk qa.length y) ∧ ∀ (j : Nat) (y : SI) (x : PlanStep), info[j]? = some y → steps[j]? = some x → (0 ≤ y.Right ↔ 3 ≤ x.Kind) := by
  have hq := (planInfo_len h).1
  unfold planInfo at h
  split at h
  · split at h
    · rename_i info' st hg
      split at h
      · cases h
        obtain ⟨g1, tail, g2, g3, g4⟩ := planGo_spec (valid_len hq).2 hg (fun s hs => by cases hs) rfl (fun y hy => by cases hy)
        simp at g2
        subst g2
        exact ⟨g1, g4⟩
      · cases h
    · cases h
  · cases h

/-! ### the target -/

def opn (lo hi : List Int) (m : Int) : Bool := match lo[m.toNat]?, hi[m.toNat]? with
  | some a, some b => decide (a < b)
  | _, _ => false
def tgt (lo hi : List Int) : List SI → Int
  | [] => 0
  | y :: ys => if (decide (0 ≤ y.Right) && opn lo hi y.Mask) = true then y.Mask else tgt lo hi ys
def anyT (lo hi : List Int) (ys : List SI) : Bool := ys.any fun y => decide (0 ≤ y.Right) && opn lo hi y.Mask
theorem tgt_none {lo hi : List Int} : ∀ {ys : List SI}, anyT lo hi ys = false → tgt lo hi ys = 0
  | [], _ => rfl
  | y :: ys, h => by
    simp only [anyT, List.any_cons, Bool.or_eq_false_iff] at h
    rw [tgt, h.1]
    exact tgt_none h.2

theorem dom_len {a b : List Int} (h : dom a b = true) : a.length = b.length := by
  simp only [dom, Bool.and_eq_true, decide_eq_true_eq] at h
  exact h.1

theorem l_spec_SpillTarget (lo hi : List Int) (info : List SI) (hl : info.length ≤ 14) (h1 : lo.length = hi.length) (hm : ∀ y ∈ info, 0 ≤ y.Mask ∧ y.Mask.toNat < lo.length) (fr : List Fr) : ∀ i, i ≤ info.length →
    EvL C fr [5, 7, 9] B_spec_SpillTarget_0 ⟨[(5, .ptr 0 0), (7, .own 1), (9, I i)], [[]], [.box [.t (tI lo), .t (tI hi)], .arr t_impl_StepInfo 4 true (info.map SI.c)]⟩ =
    if anyT lo hi (info.drop i) = true then EvX C fr .r ⟨[(6, I (tgt lo hi (info.drop i)))], [[]], [.box [.t (tI lo), .t (tI hi)], .arr t_impl_StepInfo 4 true (info.map SI.c)]⟩
    else EvX C fr (.x 0) ⟨[(5, .ptr 0 0), (7, .own 1), (9, I info.length), (35, Bo false)], [[]], [.box [.t (tI lo), .t (tI hi)], .arr t_impl_StepInfo 4 true (info.map SI.c)]⟩ := by
  refine down _ ?_ ?_
  · rw [EvL_eq B_spec_SpillTarget_0.eq_1]
    simp [anyT]
  · intro i hi' ih
    have h5 := inc64 (i := i) (by omega)
    obtain ⟨m1, m2⟩ := hm _ (List.getElem_mem hi')
    have m3 : info[i].Mask.toNat < hi.length := by omega
    have e0 : opn lo hi info[i].Mask = decide (lo[info[i].Mask.toNat] < hi[info[i].Mask.toNat]) := by
      simp [opn, List.getElem?_eq_getElem m2, List.getElem?_eq_getElem m3]
    have d : anyT lo hi (info.drop i) = ((decide (0 ≤ info[i].Right) && opn lo hi info[i].Mask) || anyT lo hi (info.drop (i + 1))) := by
      unfold anyT; exact drop_any _ hi'
    have d2 : tgt lo hi (info.drop i) = if (decide (0 ≤ info[i].Right) && opn lo hi info[i].Mask) = true then info[i].Mask else tgt lo hi (info.drop (i + 1)) := by
      rw [List.drop_eq_getElem_cons hi', tgt]
    rw [d, d2, EvL_eq B_spec_SpillTarget_0.eq_1, e0]
    simp only [Int.natCast_add, Int.cast_ofNat_Int] at ih
    by_cases c1 : 0 ≤ info[i].Right
    · by_cases c2 : lo[info[i].Mask.toNat] < hi[info[i].Mask.toNat]
      · simp +decide [hi', h5, c1, c2, m1, m2, m3]
      · simp only [c1, c2, decide_true, decide_false, Bool.and_false, Bool.false_or, Bool.false_eq_true, if_false, ← ih]
        simp +decide [hi', h5, c1, c2, m1, m2, m3]
    · simp only [c1, decide_false, Bool.false_and, Bool.false_or, Bool.false_eq_true, if_false, ← ih]
      simp +decide [hi', h5, c1]

def spillT (n : Int) (qa : List Atom) (steps : List PlanStep) (lo hi : List Int) : Int := match planInfo n qa steps with
  | some info => if boxOkQ n qa lo hi = true then tgt lo hi info else 0
  | none => 0

theorem box_mask {n : Int} {qa : List Atom} {steps : List PlanStep} {info : List SI} {lo hi : List Int} (h : planInfo n qa steps = some info) (hb : boxOkQ n qa lo hi = true) : lo.length = hi.length ∧ ∀ y ∈ info, 0 ≤ y.Mask ∧ y.Mask.toNat < lo.length := by
  have hq := (planInfo_len h).1
  simp only [boxOkQ, Bool.and_eq_true, decide_eq_true_eq, validBox] at hb
  refine ⟨(dom_len hb.1.2).symm, fun y hy => ?_⟩
  obtain ⟨h1, h2⟩ := (planInfo_spec h).1 y hy
  have h3 := hb.2
  unfold fullM at h3
  rw [if_pos hq, (shl_len hq).2.1] at h3
  exact ⟨h1, by omega⟩

theorem c_spec_SpillTarget (n : Int) (qa : List Atom) (steps : List PlanStep) (lo hi : List Int) (hq : Le qa) (hv : ∀ a ∈ qa, Le a.Vars) (h1 : Le lo) (h2 : Le hi) :
    C f_spec_SpillTarget [.agg [I n, L 2 (qa.map Atom.c)], .agg [L 3 (steps.map PlanStep.c)], .agg [.t (tI lo), .t (tI hi)]] [] = some (I (spillT n qa steps lo hi), []) := by
  refine run t_spec_SpillTarget rfl ?_
  have q1 := c_spec_PlanInfo n qa steps hq hv
  have q2 := c_spec_IsValidBox lo hi h1 h2
  have q4 := c_spec_FullMask n qa hq hv
  have q5 := fullM_inc n qa
  unfold spillT
  cases he : planInfo n qa steps with
  | none =>
    rw [he] at q1
    simp only at q1 ⊢
    simp +decide [M_spec_SpillTarget, q1]
  | some info =>
    rw [he] at q1
    simp only at q1 ⊢
    rcases tf (boxOkQ n qa lo hi) with e | e
    · simp only [e, Bool.false_eq_true, if_false]
      unfold boxOkQ at e
      rcases tf (validBox lo hi) with e2 | e2
      · simp +decide [M_spec_SpillTarget, q1, q2, e2]
      · have e3 : ¬ (lo.length : Int) = fullM n qa + 1 := by simpa [e2] using e
        simp +decide [M_spec_SpillTarget, q1, q2, q4, q5, e2, e3]
    · obtain ⟨m1, m2⟩ := box_mask he e
      have hl := planInfo_len he
      have b := fun fr => l_spec_SpillTarget lo hi info (by omega) m1 m2 fr 0 (Nat.zero_le _)
      simp only [List.drop_zero] at b
      simp only [e, if_true]
      simp only [boxOkQ, Bool.and_eq_true, decide_eq_true_eq] at e
      rcases tf (anyT lo hi info) with e4 | e4
      · rw [e4] at b
        simp only [Bool.false_eq_true, if_false] at b
        rw [tgt_none e4]
        simp at b
        simp +decide [M_spec_SpillTarget, q1, q2, q4, q5, e.1, e.2, b]
      · rw [e4] at b
        simp only [if_true] at b
        simp at b
        simp +decide [M_spec_SpillTarget, q1, q2, q4, q5, e.1, e.2, b]

/-! ### the program's -/

def jst : List PlanStep → Nat → List Int
  | [], _ => []
  | x :: xs, i => if 3 ≤ x.Kind then (i : Int) :: jst xs (i + 1) else jst xs (i + 1)
theorem jst_drop {xs : List PlanStep} {i : Nat} (h : i < xs.length) : jst (xs.drop i) i = if 3 ≤ xs[i].Kind then (i : Int) :: jst (xs.drop (i + 1)) (i + 1) else jst (xs.drop (i + 1)) (i + 1) := by
  rw [List.drop_eq_getElem_cons h, jst]
theorem jst_len : ∀ (xs : List PlanStep) (i : Nat), (jst xs i).length ≤ xs.length
  | [], _ => Nat.le_refl _
  | x :: xs, i => by
    have := jst_len xs (i + 1)
    unfold jst
    split <;> simp <;> omega

theorem l_joinSteps (steps : List PlanStep) (hl : steps.length ≤ 1000000) (fr : List Fr) : ∀ i, i ≤ steps.length → ∀ acc : List Int, acc.length ≤ i →
    EvL C fr [3, 8, 9, 10] B_impl_joinSteps_0 ⟨[(3, .own 0), (8, L 3 (steps.map PlanStep.c)), (9, I steps.length), (10, I i)], [[]], [.arr t_int 1 true (acc.map ic)]⟩ =
    EvX C fr (.x 0) ⟨[(3, .own 0), (8, L 3 (steps.map PlanStep.c)), (9, I steps.length), (10, I steps.length), (11, Bo false)], [[]], [.arr t_int 1 true ((acc ++ jst (steps.drop i) i).map ic)]⟩ := by
  refine down _ ?_ ?_
  · intro acc _
    rw [List.drop_length, jst, EvL_eq B_impl_joinSteps_0.eq_1]
    simp
  · intro i hi ih acc ha
    have h5 := inc64 (i := i) (by omega)
    have r1 : (acc.length + 1) * 8 ≤ room := room1 (by omega) (by omega)
    have r2 : acc.length + 1 ≤ room := room2 (by omega)
    rw [jst_drop hi, EvL_eq B_impl_joinSteps_0.eq_1]
    by_cases c : 3 ≤ steps[i].Kind
    · have ih := ih (acc ++ [(i : Int)]) (by simp; omega)
      simp at ih
      simp [hi, h5, c, r1, r2, ih]
    · have ih := ih acc (by omega)
      simp at ih
      simp [hi, h5, c, ih]
theorem c_joinSteps (steps : List PlanStep) (hl : steps.length ≤ 1000000) : C f_impl_joinSteps [.agg [L 3 (steps.map PlanStep.c)]] [] = some (.own 0, [.arr t_int 1 true ((jst steps 0).map ic)]) := by
  refine run t_impl_joinSteps rfl ?_
  have b := fun fr => l_joinSteps steps hl fr 0 (Nat.zero_le _) [] (Nat.le_refl _)
  simp at b
  simp [M_impl_joinSteps, b]

def tj (lo hi : List Int) (info : List SI) : List Int → Option Int
  | [] => none
  | i :: is => match info[i.toNat]? with
    | some y => if opn lo hi y.Mask = true then some y.Mask else tj lo hi info is
    | none => none
theorem tj_eq {lo hi : List Int} {info : List SI} {steps : List PlanStep} (hl : info.length = steps.length) (hr : ∀ (j : Nat) (y : SI) (x : PlanStep), info[j]? = some y → steps[j]? = some x → (0 ≤ y.Right ↔ 3 ≤ x.Kind)) : ∀ i, i ≤ steps.length →
    tj lo hi info (jst (steps.drop i) i) = if anyT lo hi (info.drop i) = true then some (tgt lo hi (info.drop i)) else none := by
  refine down _ ?_ ?_
  · rw [List.drop_length, ← hl, List.drop_length]; rfl
  · intro i hi0 ih
    have hi' : i < info.length := by omega
    have hb := hr i info[i] steps[i] (List.getElem?_eq_getElem hi') (List.getElem?_eq_getElem hi0)
    have d : anyT lo hi (info.drop i) = ((decide (0 ≤ info[i].Right) && opn lo hi info[i].Mask) || anyT lo hi (info.drop (i + 1))) := by
      unfold anyT; exact drop_any _ hi'
    have d2 : tgt lo hi (info.drop i) = if (decide (0 ≤ info[i].Right) && opn lo hi info[i].Mask) = true then info[i].Mask else tgt lo hi (info.drop (i + 1)) := by
      rw [List.drop_eq_getElem_cons hi', tgt]
    rw [jst_drop hi0, d, d2]
    by_cases c : 3 ≤ steps[i].Kind
    · have c' := hb.2 c
      have e : ((i : Int)).toNat = i := by omega
      simp only [c, if_true, tj, e, List.getElem?_eq_getElem hi', c', decide_true, Bool.true_and]
      rcases tf (opn lo hi info[i].Mask) with e2 | e2
      · simp only [e2, Bool.false_eq_true, if_false, Bool.false_or]; exact ih
      · simp [e2]
    · have c' : ¬ 0 ≤ info[i].Right := fun hc => c (hb.1 hc)
      simp only [c, if_false, c', decide_false, Bool.false_and, Bool.false_or, Bool.false_eq_true]
      exact ih

theorem l_impl_SpillTarget (lo hi : List Int) (info : List SI) (js : List Int) (hj : ∀ i ∈ js, 0 ≤ i ∧ i.toNat < info.length) (hjl : Le js) (h1 : lo.length = hi.length) (hm : ∀ y ∈ info, 0 ≤ y.Mask ∧ y.Mask.toNat < lo.length) (fr : List Fr) : ∀ k, k ≤ js.length →
    EvL C fr [5, 7, 27, 28, 29] B_impl_SpillTarget_0 ⟨[(5, .ptr 0 0), (7, .own 1), (27, .own 2), (28, I js.length), (29, I k)], [[]], [.box [.t (tI lo), .t (tI hi)], .arr t_impl_StepInfo 4 true (info.map SI.c), .arr t_int 1 true (js.map ic)]⟩ =
    match tj lo hi info (js.drop k) with
    | some m => EvX C fr .r ⟨[(6, I m)], [[]], [.box [.t (tI lo), .t (tI hi)], .arr t_impl_StepInfo 4 true (info.map SI.c), .arr t_int 1 true (js.map ic)]⟩
    | none => EvX C fr (.x 0) ⟨[(5, .ptr 0 0), (7, .own 1), (27, .own 2), (28, I js.length), (29, I js.length), (30, Bo false)], [[]], [.box [.t (tI lo), .t (tI hi)], .arr t_impl_StepInfo 4 true (info.map SI.c), .arr t_int 1 true (js.map ic)]⟩ := by
  refine down _ ?_ ?_
  · rw [List.drop_length, EvL_eq B_impl_SpillTarget_0.eq_1]
    simp [tj]
  · intro k hk ih
    have h5 := inc64 (i := k) (by omega)
    obtain ⟨j1, j2⟩ := hj _ (List.getElem_mem hk)
    obtain ⟨m1, m2⟩ := hm _ (List.getElem_mem j2)
    have m3 : info[(js[k]).toNat].Mask.toNat < hi.length := by omega
    have e0 : opn lo hi info[(js[k]).toNat].Mask = decide (lo[info[(js[k]).toNat].Mask.toNat] < hi[info[(js[k]).toNat].Mask.toNat]) := by
      simp [opn, List.getElem?_eq_getElem m2, List.getElem?_eq_getElem m3]
    rw [List.drop_eq_getElem_cons hk, tj, List.getElem?_eq_getElem j2]
    simp only [e0]
    simp only [Int.natCast_add, Int.cast_ofNat_Int] at ih
    by_cases c2 : lo[info[(js[k]).toNat].Mask.toNat] < hi[info[(js[k]).toNat].Mask.toNat]
    · rw [EvL_eq B_impl_SpillTarget_0.eq_1]
      simp +decide [hk, h5, j1, j2, c2, m1, m2, m3]
    · simp only [c2, decide_false, Bool.false_eq_true, if_false, ← ih]
      rw [EvL_eq B_impl_SpillTarget_0.eq_1]
      simp +decide [hk, h5, j1, j2, c2, m1, m2, m3]

theorem jst_mem : ∀ {xs : List PlanStep} {i : Nat} {j : Int}, j ∈ jst xs i → (i : Int) ≤ j ∧ j < i + xs.length
  | [], _, _, h => by cases h
  | x :: xs, i, j, h => by
    unfold jst at h
    split at h
    · cases h with
      | head => simp; omega
      | tail _ h => have := jst_mem h; simp; omega
    · have := jst_mem h; simp; omega

theorem c_impl_SpillTarget (n : Int) (qa : List Atom) (steps : List PlanStep) (lo hi : List Int) (hq : Le qa) (hv : ∀ a ∈ qa, Le a.Vars) (h1 : Le lo) (h2 : Le hi) :
    C f_impl_SpillTarget [.agg [I n, L 2 (qa.map Atom.c)], .agg [L 3 (steps.map PlanStep.c)], .agg [.t (tI lo), .t (tI hi)]] [] = some (I (spillT n qa steps lo hi), []) := by
  refine run t_impl_SpillTarget rfl ?_
  have q1 := c_impl_PlanInfo n qa steps hq hv
  have q2 := c_impl_boxOk n qa lo hi hq hv h1 h2
  unfold spillT
  cases he : planInfo n qa steps with
  | none =>
    rw [he] at q1
    simp only at q1 ⊢
    simp +decide [M_impl_SpillTarget, q1]
  | some info =>
    rw [he] at q1
    simp only at q1 ⊢
    rcases tf (boxOkQ n qa lo hi) with e | e
    · simp +decide [M_impl_SpillTarget, q1, q2, e]
    · obtain ⟨m1, m2⟩ := box_mask he e
      obtain ⟨l1, l2, l3, l4⟩ := planInfo_len he
      have q3 := c_joinSteps steps (by omega)
      have q4 := jst_len steps 0
      have b := fun fr => l_impl_SpillTarget lo hi info (jst steps 0) (fun i hi => by have := jst_mem hi; omega) (by omega) m1 m2 fr 0 (Nat.zero_le _)
      have te := tj_eq (lo := lo) (hi := hi) l2 (planInfo_spec he).2 0 (Nat.zero_le _)
      simp only [List.drop_zero] at b te
      rw [te] at b
      simp only [e, if_true]
      rcases tf (anyT lo hi info) with e4 | e4
      · rw [e4] at b
        simp only [Bool.false_eq_true, if_false] at b
        rw [tgt_none e4]
        simp at b
        simp +decide [M_impl_SpillTarget, q1, q2, q3, e, b]
      · rw [e4] at b
        simp only [if_true] at b
        simp at b
        simp +decide [M_impl_SpillTarget, q1, q2, q3, e, b]

theorem lawSpillTarget (a : Query) (p : Plan) (b : Box) (ha : a.okay) (hp : p.okay) (hb : b.okay) : C f_laws_FnExactSpillTarget [.agg (a.c.map .t), .agg (p.c.map .t), .agg (b.c.map .t)] [] = some (Bo true, []) := by
  refine run t_laws_FnExactSpillTarget rfl ?_
  have e1 := c_szQuery a.VariableCount a.Atoms 1048576 ha.2
  have e2 := fun l => c_szPlan p.Steps l
  have e3 := fun l => c_szBox b.Low b.High l
  by_cases h1 : Query.sz a 1048576 < 0
  · simp [M_laws_FnExactSpillTarget, e1, h1]
  obtain ⟨g1, g2⟩ := Query.sz_ok a 1048576 ha (by omega) (by omega) (by omega)
  by_cases h2 : Plan.sz p (Query.sz a 1048576) < 0
  · simp [M_laws_FnExactSpillTarget, e1, h1, e2, h2]
  obtain ⟨k1, k2⟩ := Plan.sz_ok p _ hp (by omega) (by omega) (by omega : 0 ≤ Plan.sz p (Query.sz a 1048576))
  by_cases h3 : Box.sz b (Plan.sz p (Query.sz a 1048576)) < 0
  · simp [M_laws_FnExactSpillTarget, e1, h1, e2, h2, e3, h3]
  obtain ⟨j1, j2⟩ := Box.sz_ok b _ hb (by omega) (by omega) (by omega : 0 ≤ Box.sz b (Plan.sz p (Query.sz a 1048576)))
  have n1 : Le a.Atoms := by have := g2.1; omega
  have n2 : ∀ x ∈ a.Atoms, Le x.Vars := fun x hx => by have := (g2.2 x hx).2; omega
  have n3 : Le b.Low := by have := j2.1; omega
  have n4 : Le b.High := by have := j2.2; omega
  have t1 := c_toQuery a.VariableCount a.Atoms g2
  have t2 := c_toPlan p.Steps k2
  have t3 := c_toBox b.Low b.High j2.1 j2.2
  have q1 := fun x0 x1 => c_eqQuery a.VariableCount a.Atoms x0 x1 g2
  have q2 := fun x0 => c_eqPlan p.Steps x0 k2
  have q3 := fun x0 x1 => c_eqBox b.Low b.High x0 x1 j2.1 j2.2
  have s1 := c_spec_SpillTarget a.VariableCount a.Atoms p.Steps b.Low b.High n1 n2 n3 n4
  have s2 := c_impl_SpillTarget a.VariableCount a.Atoms p.Steps b.Low b.High n1 n2 n3 n4
  simp +decide [M_laws_FnExactSpillTarget, e1, h1, e2, h2, e3, h3, t1, t2, t3, s1, s2, q1, q2, q3]
end Go.Proofs.Ytiniphmomjnocaa
