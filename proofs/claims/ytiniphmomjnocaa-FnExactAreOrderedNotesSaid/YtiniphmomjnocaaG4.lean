/-
  Code, blocks and their theorems, as printed by program.
-/
import Derived.Test.YtiniphmomjnocaaD1
namespace Go.Proofs.Ytiniphmomjnocaa
open Go.AM
set_option linter.unusedSimpArgs false
set_option linter.unusedVariables false
set_option maxRecDepth 100000
set_option maxHeartbeats 4000000

theorem t_spec_IsValidBouquet : tbl 77 = some M_spec_IsValidBouquet := tblOf_eq Try.func77 (by kernel_rfl) (by kernel_rfl)
theorem SL_spec_IsValidBouquet_0 (q : Query) (b : Bouquet) (i : Int) (r : AV × List Blk) (h : (if i < (b.Plans.length : Int) then (0 ≤ i ∧ (∃ (e1 : Plan), b.Plans[i.toNat]? = some e1 ∧ (∃ (v2_0 : Int), X_spec_PlanMask q e1 = some (I v2_0, []) ∧ (∃ (v3_0 : Int), X_spec_FullMask q = some (I v3_0, []) ∧ (if v2_0 = v3_0 then (if v3_0 = 0 then (some (Bo false, []) = some r) else (L_spec_IsValidBouquet_0 q b (w (i + 1)) = some r)) else (some (Bo false, []) = some r)))))) else (L_spec_IsValidBouquet_2 b 0 = some r))) : L_spec_IsValidBouquet_0 q b i = some r := by
  unfold L_spec_IsValidBouquet_0
  rw [EvL_eq B_spec_IsValidBouquet_0.eq_1]
  by_cases q1 : i < (b.Plans.length : Int)
  · rw [if_pos q1] at h
    have zq1 := eq_true q1; try simp only [Int.natCast_pos, Int.ofNat_lt, Int.ofNat_le, Int.natCast_inj, Int.natCast_nonneg, Int.toNat_natCast, Int.natCast_eq_zero, List.length_eq_zero_iff] at zq1
    obtain ⟨q2, h⟩ := h
    obtain ⟨e1, q3, h⟩ := h
    have gq3 := ltOfGet q3
    have kq3 := getOf q3
    obtain ⟨v2_0, q4, h⟩ := h
    unfold X_spec_PlanMask at q4
    try simp at q4
    obtain ⟨v3_0, q5, h⟩ := h
    unfold X_spec_FullMask at q5
    try simp at q5
    by_cases q6 : v2_0 = v3_0
    · rw [if_pos q6] at h
      replace q6 := eq_true q6
      by_cases q7 : v3_0 = 0
      · rw [if_pos q7] at h
        replace q7 := eq_true q7
        refine Eq.trans ?_ h
        clear h
        simp +decide [*]
      · rw [if_neg q7] at h
        replace q7 := eq_false q7
        refine Eq.trans ?_ h
        clear h
        simp +decide [*, L_spec_IsValidBouquet_0]
    · rw [if_neg q6] at h
      replace q6 := eq_false q6
      refine Eq.trans ?_ h
      clear h
      simp +decide [*]
  · rw [if_neg q1] at h
    have zq1 := eq_false q1; try simp only [Int.natCast_pos, Int.ofNat_lt, Int.ofNat_le, Int.natCast_inj, Int.natCast_nonneg, Int.toNat_natCast, Int.natCast_eq_zero, List.length_eq_zero_iff] at zq1
    refine Eq.trans ?_ h
    clear h
    simp +decide [*, L_spec_IsValidBouquet_2, R_spec_IsValidBouquet_2]
theorem SL_spec_IsValidBouquet_2 (b : Bouquet) (k : Int) (r : AV × List Blk) (h : (if k < (b.Budgets.length : Int) then (0 ≤ k ∧ (∃ (e1 : Int), b.Budgets[k.toNat]? = some e1 ∧ (∃ (v2_0 : Bool), X_spec_l1In e1 1 500000000000 = some (Bo v2_0, []) ∧ (if v2_0 = true then (if 0 < k then (0 ≤ (w (k - 1)) ∧ (∃ (e3 : Int), b.Budgets[(w (k - 1)).toNat]? = some e3 ∧ (if e1 = (w (e3 * b.Ratio)) then (∃ (e4 : List Int), b.Contours[k.toNat]? = some e4 ∧ (if (e4.length : Int) = 0 then (some (Bo false, []) = some r) else (L_spec_IsValidBouquet_1 b k 0 = some r))) else (some (Bo false, []) = some r)))) else (∃ (e5 : List Int), b.Contours[k.toNat]? = some e5 ∧ (if (e5.length : Int) = 0 then (some (Bo false, []) = some r) else (L_spec_IsValidBouquet_1 b k 0 = some r)))) else (some (Bo false, []) = some r))))) else (some (Bo true, []) = some r))) : L_spec_IsValidBouquet_2 b k = some r := by
  unfold L_spec_IsValidBouquet_2
  rw [EvL_eq B_spec_IsValidBouquet_2.eq_1]
  by_cases q1 : k < (b.Budgets.length : Int)
  · rw [if_pos q1] at h
    have zq1 := eq_true q1; try simp only [Int.natCast_pos, Int.ofNat_lt, Int.ofNat_le, Int.natCast_inj, Int.natCast_nonneg, Int.toNat_natCast, Int.natCast_eq_zero, List.length_eq_zero_iff] at zq1
    obtain ⟨q2, h⟩ := h
    obtain ⟨e1, q3, h⟩ := h
    have gq3 := ltOfGet q3
    have kq3 := getOf q3
    obtain ⟨v2_0, q4, h⟩ := h
    unfold X_spec_l1In at q4
    try simp at q4
    by_cases q5 : v2_0 = true
    · rw [if_pos q5] at h
      by_cases q6 : 0 < k
      · rw [if_pos q6] at h
        obtain ⟨q7, h⟩ := h
        obtain ⟨e3, q8, h⟩ := h
        have gq8 := ltOfGet q8
        have kq8 := getOf q8
        by_cases q9 : e1 = (w (e3 * b.Ratio))
        · rw [if_pos q9] at h
          replace q9 := eq_true q9
          obtain ⟨e4, q10, h⟩ := h
          have gq10 := ltOfGet q10
          have kq10 := getOf q10
          by_cases q11 : (e4.length : Int) = 0
          · rw [if_pos q11] at h
            have zq11 := eq_true q11; try simp only [Int.natCast_pos, Int.ofNat_lt, Int.ofNat_le, Int.natCast_inj, Int.natCast_nonneg, Int.toNat_natCast, Int.natCast_eq_zero, List.length_eq_zero_iff] at zq11
            replace q11 := eq_true q11
            refine Eq.trans ?_ h
            clear h
            simp +decide [*]
          · rw [if_neg q11] at h
            have zq11 := eq_false q11; try simp only [Int.natCast_pos, Int.ofNat_lt, Int.ofNat_le, Int.natCast_inj, Int.natCast_nonneg, Int.toNat_natCast, Int.natCast_eq_zero, List.length_eq_zero_iff] at zq11
            replace q11 := eq_false q11
            refine Eq.trans ?_ h
            clear h
            simp +decide [*, L_spec_IsValidBouquet_1]
        · rw [if_neg q9] at h
          replace q9 := eq_false q9
          refine Eq.trans ?_ h
          clear h
          simp +decide [*]
      · rw [if_neg q6] at h
        obtain ⟨e5, q12, h⟩ := h
        have gq12 := ltOfGet q12
        have kq12 := getOf q12
        by_cases q13 : (e5.length : Int) = 0
        · rw [if_pos q13] at h
          have zq13 := eq_true q13; try simp only [Int.natCast_pos, Int.ofNat_lt, Int.ofNat_le, Int.natCast_inj, Int.natCast_nonneg, Int.toNat_natCast, Int.natCast_eq_zero, List.length_eq_zero_iff] at zq13
          replace q13 := eq_true q13
          refine Eq.trans ?_ h
          clear h
          simp +decide [*]
        · rw [if_neg q13] at h
          have zq13 := eq_false q13; try simp only [Int.natCast_pos, Int.ofNat_lt, Int.ofNat_le, Int.natCast_inj, Int.natCast_nonneg, Int.toNat_natCast, Int.natCast_eq_zero, List.length_eq_zero_iff] at zq13
          replace q13 := eq_false q13
          refine Eq.trans ?_ h
          clear h
          simp +decide [*, L_spec_IsValidBouquet_1]
    · rw [if_neg q5] at h
      refine Eq.trans ?_ h
      clear h
      simp +decide [*]
  · rw [if_neg q1] at h
    have zq1 := eq_false q1; try simp only [Int.natCast_pos, Int.ofNat_lt, Int.ofNat_le, Int.natCast_inj, Int.natCast_nonneg, Int.toNat_natCast, Int.natCast_eq_zero, List.length_eq_zero_iff] at zq1
    refine Eq.trans ?_ h
    clear h
    simp +decide [*, R_spec_IsValidBouquet_1]
theorem SL_spec_IsValidBouquet_1 (b : Bouquet) (k : Int) (i : Int) (r : AV × List Blk) (h : (0 ≤ k ∧ (∃ (e1 : List Int), b.Contours[k.toNat]? = some e1 ∧ (if i < (e1.length : Int) then (0 ≤ i ∧ (∃ (e2 : Int), e1[i.toNat]? = some e2 ∧ (∃ (v3_0 : Bool), X_spec_l1In e2 0 (w ((b.Plans.length : Int) - 1)) = some (Bo v3_0, []) ∧ (if v3_0 = true then (i.toNat ≤ e1.length ∧ (∃ (v4_0 : Bool), X_spec_l7Has (e1.take i.toNat) e2 = some (Bo v4_0, []) ∧ (if v4_0 = true then (some (Bo false, []) = some r) else (L_spec_IsValidBouquet_1 b k (w (i + 1)) = some r)))) else (some (Bo false, []) = some r))))) else (L_spec_IsValidBouquet_2 b (w (k + 1)) = some r))))) : L_spec_IsValidBouquet_1 b k i = some r := by
  unfold L_spec_IsValidBouquet_1
  rw [EvL_eq B_spec_IsValidBouquet_1.eq_1]
  obtain ⟨q1, h⟩ := h
  obtain ⟨e1, q2, h⟩ := h
  have gq2 := ltOfGet q2
  have kq2 := getOf q2
  by_cases q3 : i < (e1.length : Int)
  · rw [if_pos q3] at h
    have zq3 := eq_true q3; try simp only [Int.natCast_pos, Int.ofNat_lt, Int.ofNat_le, Int.natCast_inj, Int.natCast_nonneg, Int.toNat_natCast, Int.natCast_eq_zero, List.length_eq_zero_iff] at zq3
    obtain ⟨q4, h⟩ := h
    obtain ⟨e2, q5, h⟩ := h
    have gq5 := ltOfGet q5
    have kq5 := getOf q5
    obtain ⟨v3_0, q6, h⟩ := h
    unfold X_spec_l1In at q6
    try simp at q6
    by_cases q7 : v3_0 = true
    · rw [if_pos q7] at h
      obtain ⟨q8, h⟩ := h
      have zq8 := q8; try simp at zq8
      obtain ⟨v4_0, q9, h⟩ := h
      unfold X_spec_l7Has at q9
      try simp at q9
      by_cases q10 : v4_0 = true
      · rw [if_pos q10] at h
        refine Eq.trans ?_ h
        clear h
        simp +decide [*]
      · rw [if_neg q10] at h
        refine Eq.trans ?_ h
        clear h
        simp +decide [*, L_spec_IsValidBouquet_1]
    · rw [if_neg q7] at h
      refine Eq.trans ?_ h
      clear h
      simp +decide [*]
  · rw [if_neg q3] at h
    have zq3 := eq_false q3; try simp only [Int.natCast_pos, Int.ofNat_lt, Int.ofNat_le, Int.natCast_inj, Int.natCast_nonneg, Int.toNat_natCast, Int.natCast_eq_zero, List.length_eq_zero_iff] at zq3
    refine Eq.trans ?_ h
    clear h
    simp +decide [*, L_spec_IsValidBouquet_2, R_spec_IsValidBouquet_0]
theorem S_spec_IsValidBouquet (a : Query) (a1 : Bouquet) (r : AV × List Blk) (h : (∃ (v1_0 : Bool), X_spec_l1In a1.Version 1 999 = some (Bo v1_0, []) ∧ (if v1_0 = true then (∃ (v2_0 : Bool), X_spec_l1In a1.Ratio 2 8 = some (Bo v2_0, []) ∧ (if v2_0 = true then (∃ (v3_0 : Bool), X_spec_l1In a1.Slack 0 100 = some (Bo v3_0, []) ∧ (if v3_0 = true then (∃ (v4_0 : Int), X_spec_FullMask a = some (I v4_0, []) ∧ (if (a1.Box.Low.length : Int) = (w (v4_0 + 1)) then (∃ (v5_0 : Int), X_spec_BoxVolume a1.Box = some (I v5_0, []) ∧ (∃ (v6_0 : Bool), X_spec_l1In v5_0 1 400 = some (Bo v6_0, []) ∧ (if v6_0 = true then (if (a1.Budgets.length : Int) = 0 then (some (Bo false, []) = some r) else (if (a1.Budgets.length : Int) = (a1.Contours.length : Int) then (L_spec_IsValidBouquet_0 a a1 0 = some r) else (some (Bo false, []) = some r))) else (some (Bo false, []) = some r)))) else (some (Bo false, []) = some r))) else (some (Bo false, []) = some r))) else (some (Bo false, []) = some r))) else (some (Bo false, []) = some r)))) : X_spec_IsValidBouquet a a1 = some r := by
  unfold X_spec_IsValidBouquet
  refine run t_spec_IsValidBouquet rfl ?_
  obtain ⟨v1_0, q1, h⟩ := h
  unfold X_spec_l1In at q1
  try simp at q1
  by_cases q2 : v1_0 = true
  · rw [if_pos q2] at h
    obtain ⟨v2_0, q3, h⟩ := h
    unfold X_spec_l1In at q3
    try simp at q3
    by_cases q4 : v2_0 = true
    · rw [if_pos q4] at h
      obtain ⟨v3_0, q5, h⟩ := h
      unfold X_spec_l1In at q5
      try simp at q5
      by_cases q6 : v3_0 = true
      · rw [if_pos q6] at h
        obtain ⟨v4_0, q7, h⟩ := h
        unfold X_spec_FullMask at q7
        try simp at q7
        by_cases q8 : (a1.Box.Low.length : Int) = (w (v4_0 + 1))
        · rw [if_pos q8] at h
          have zq8 := eq_true q8; try simp only [Int.natCast_pos, Int.ofNat_lt, Int.ofNat_le, Int.natCast_inj, Int.natCast_nonneg, Int.toNat_natCast, Int.natCast_eq_zero, List.length_eq_zero_iff] at zq8
          replace q8 := eq_true q8
          obtain ⟨v5_0, q9, h⟩ := h
          unfold X_spec_BoxVolume at q9
          try simp at q9
          obtain ⟨v6_0, q10, h⟩ := h
          unfold X_spec_l1In at q10
          try simp at q10
          by_cases q11 : v6_0 = true
          · rw [if_pos q11] at h
            by_cases q12 : (a1.Budgets.length : Int) = 0
            · rw [if_pos q12] at h
              have zq12 := eq_true q12; try simp only [Int.natCast_pos, Int.ofNat_lt, Int.ofNat_le, Int.natCast_inj, Int.natCast_nonneg, Int.toNat_natCast, Int.natCast_eq_zero, List.length_eq_zero_iff] at zq12
              replace q12 := eq_true q12
              refine Eq.trans ?_ h
              clear h
              simp +decide [*, M_spec_IsValidBouquet]
            · rw [if_neg q12] at h
              have zq12 := eq_false q12; try simp only [Int.natCast_pos, Int.ofNat_lt, Int.ofNat_le, Int.natCast_inj, Int.natCast_nonneg, Int.toNat_natCast, Int.natCast_eq_zero, List.length_eq_zero_iff] at zq12
              replace q12 := eq_false q12
              by_cases q13 : (a1.Budgets.length : Int) = (a1.Contours.length : Int)
              · rw [if_pos q13] at h
                have zq13 := eq_true q13; try simp only [Int.natCast_pos, Int.ofNat_lt, Int.ofNat_le, Int.natCast_inj, Int.natCast_nonneg, Int.toNat_natCast, Int.natCast_eq_zero, List.length_eq_zero_iff] at zq13
                replace q13 := eq_true q13
                refine Eq.trans ?_ h
                clear h
                simp +decide [*, M_spec_IsValidBouquet, L_spec_IsValidBouquet_0]
              · rw [if_neg q13] at h
                have zq13 := eq_false q13; try simp only [Int.natCast_pos, Int.ofNat_lt, Int.ofNat_le, Int.natCast_inj, Int.natCast_nonneg, Int.toNat_natCast, Int.natCast_eq_zero, List.length_eq_zero_iff] at zq13
                replace q13 := eq_false q13
                refine Eq.trans ?_ h
                clear h
                simp +decide [*, M_spec_IsValidBouquet]
          · rw [if_neg q11] at h
            refine Eq.trans ?_ h
            clear h
            simp +decide [*, M_spec_IsValidBouquet]
        · rw [if_neg q8] at h
          have zq8 := eq_false q8; try simp only [Int.natCast_pos, Int.ofNat_lt, Int.ofNat_le, Int.natCast_inj, Int.natCast_nonneg, Int.toNat_natCast, Int.natCast_eq_zero, List.length_eq_zero_iff] at zq8
          replace q8 := eq_false q8
          refine Eq.trans ?_ h
          clear h
          simp +decide [*, M_spec_IsValidBouquet]
      · rw [if_neg q6] at h
        refine Eq.trans ?_ h
        clear h
        simp +decide [*, M_spec_IsValidBouquet]
    · rw [if_neg q4] at h
      refine Eq.trans ?_ h
      clear h
      simp +decide [*, M_spec_IsValidBouquet]
  · rw [if_neg q2] at h
    refine Eq.trans ?_ h
    clear h
    simp +decide [*, M_spec_IsValidBouquet]

theorem t_spec_SlackBudget : tbl 78 = some M_spec_SlackBudget := tblOf_eq Try.func78 (by kernel_rfl) (by kernel_rfl)
theorem S_spec_SlackBudget (a : Int) (a1 : Int) (r : AV × List Blk) (h : (∃ (v1_0 : Bool), X_spec_l1In a 0 1000000000000 = some (Bo v1_0, []) ∧ (if v1_0 = true then (∃ (v2_0 : Bool), X_spec_l1In a1 0 100 = some (Bo v2_0, []) ∧ (if v2_0 = true then (some (I (w (Int.tdiv (w (a * (w (100 + a1)))) 100)), []) = some r) else (some (I (-1), []) = some r))) else (some (I (-1), []) = some r)))) : X_spec_SlackBudget a a1 = some r := by
  unfold X_spec_SlackBudget
  refine run t_spec_SlackBudget rfl ?_
  obtain ⟨v1_0, q1, h⟩ := h
  unfold X_spec_l1In at q1
  try simp at q1
  by_cases q2 : v1_0 = true
  · rw [if_pos q2] at h
    obtain ⟨v2_0, q3, h⟩ := h
    unfold X_spec_l1In at q3
    try simp at q3
    by_cases q4 : v2_0 = true
    · rw [if_pos q4] at h
      refine Eq.trans ?_ h
      clear h
      simp +decide [*, M_spec_SlackBudget]
    · rw [if_neg q4] at h
      refine Eq.trans ?_ h
      clear h
      simp +decide [*, M_spec_SlackBudget]
  · rw [if_neg q2] at h
    refine Eq.trans ?_ h
    clear h
    simp +decide [*, M_spec_SlackBudget]

theorem t_spec_l27Find : tbl 79 = some M_spec_l27Find := tblOf_eq Try.func79 (by kernel_rfl) (by kernel_rfl)
theorem SL_spec_l27Find_0 (l : List Int) (v : Int) (i : Int) (r : AV × List Blk) (h : (if i < (l.length : Int) then (0 ≤ i ∧ (∃ (e1 : Int), l[i.toNat]? = some e1 ∧ (if e1 = v then (some (I i, []) = some r) else (L_spec_l27Find_0 l v (w (i + 1)) = some r)))) else (some (I (-1), []) = some r))) : L_spec_l27Find_0 l v i = some r := by
  unfold L_spec_l27Find_0
  rw [EvL_eq B_spec_l27Find_0.eq_1]
  by_cases q1 : i < (l.length : Int)
  · rw [if_pos q1] at h
    have zq1 := eq_true q1; try simp only [Int.natCast_pos, Int.ofNat_lt, Int.ofNat_le, Int.natCast_inj, Int.natCast_nonneg, Int.toNat_natCast, Int.natCast_eq_zero, List.length_eq_zero_iff] at zq1
    obtain ⟨q2, h⟩ := h
    obtain ⟨e1, q3, h⟩ := h
    have gq3 := ltOfGet q3
    have kq3 := getOf q3
    by_cases q4 : e1 = v
    · rw [if_pos q4] at h
      replace q4 := eq_true q4
      refine Eq.trans ?_ h
      clear h
      simp +decide [*]
    · rw [if_neg q4] at h
      replace q4 := eq_false q4
      refine Eq.trans ?_ h
      clear h
      simp +decide [*, L_spec_l27Find_0]
  · rw [if_neg q1] at h
    have zq1 := eq_false q1; try simp only [Int.natCast_pos, Int.ofNat_lt, Int.ofNat_le, Int.natCast_inj, Int.natCast_nonneg, Int.toNat_natCast, Int.natCast_eq_zero, List.length_eq_zero_iff] at zq1
    refine Eq.trans ?_ h
    clear h
    simp +decide [*, R_spec_l27Find_0]
theorem S_spec_l27Find (a : List Int) (a1 : Int) (r : AV × List Blk) (h : (L_spec_l27Find_0 a a1 0 = some r)) : X_spec_l27Find a a1 = some r := by
  unfold X_spec_l27Find
  refine run t_spec_l27Find rfl ?_
  refine Eq.trans ?_ h
  clear h
  simp +decide [*, M_spec_l27Find, L_spec_l27Find_0]

theorem t_spec_AreOrderedNotes : tbl 31 = some M_spec_AreOrderedNotes := tblOf_eq Try.func31 (by kernel_rfl) (by kernel_rfl)
theorem SL_spec_AreOrderedNotes_0 (b : Bouquet) (l : List RunNote) (last : Int) (x : Int) (i : Int) (r : AV × List Blk) (h : (if i < (l.length : Int) then (0 ≤ i ∧ (∃ (e1 : RunNote), l[i.toNat]? = some e1 ∧ (∃ (v2_0 : Bool), X_spec_l1In e1.Contour last (w ((b.Budgets.length : Int) - 1)) = some (Bo v2_0, []) ∧ (if v2_0 = true then (0 ≤ e1.Contour ∧ (∃ (e3 : Int), b.Budgets[e1.Contour.toNat]? = some e3 ∧ (∃ (v4_0 : Int), X_spec_SlackBudget e3 b.Slack = some (I v4_0, []) ∧ (if e1.Budget = v4_0 then (if e1.Done = (decide (i = (w ((l.length : Int) - 1)))) then (∃ (e5 : List Int), b.Contours[e1.Contour.toNat]? = some e5 ∧ (∃ (v6_0 : Int), X_spec_l27Find e5 e1.Plan = some (I v6_0, []) ∧ (if v6_0 < 0 then (some (Bo false, []) = some r) else (if e1.Contour = last then (if v6_0 ≤ x then (some (Bo false, []) = some r) else (L_spec_AreOrderedNotes_0 b l e1.Contour v6_0 (w (i + 1)) = some r)) else (L_spec_AreOrderedNotes_0 b l e1.Contour v6_0 (w (i + 1)) = some r))))) else (some (Bo false, []) = some r)) else (some (Bo false, []) = some r))))) else (some (Bo false, []) = some r))))) else (some (Bo (decide (0 < (l.length : Int))), []) = some r))) : L_spec_AreOrderedNotes_0 b l last x i = some r := by
  unfold L_spec_AreOrderedNotes_0
  rw [EvL_eq B_spec_AreOrderedNotes_0.eq_1]
  by_cases q1 : i < (l.length : Int)
  · rw [if_pos q1] at h
    have zq1 := eq_true q1; try simp only [Int.natCast_pos, Int.ofNat_lt, Int.ofNat_le, Int.natCast_inj, Int.natCast_nonneg, Int.toNat_natCast, Int.natCast_eq_zero, List.length_eq_zero_iff] at zq1
    obtain ⟨q2, h⟩ := h
    obtain ⟨e1, q3, h⟩ := h
    have gq3 := ltOfGet q3
    have kq3 := getOf q3
    obtain ⟨v2_0, q4, h⟩ := h
    unfold X_spec_l1In at q4
    try simp at q4
    by_cases q5 : v2_0 = true
    · rw [if_pos q5] at h
      obtain ⟨q6, h⟩ := h
      obtain ⟨e3, q7, h⟩ := h
      have gq7 := ltOfGet q7
      have kq7 := getOf q7
      obtain ⟨v4_0, q8, h⟩ := h
      unfold X_spec_SlackBudget at q8
      try simp at q8
      by_cases q9 : e1.Budget = v4_0
      · rw [if_pos q9] at h
        replace q9 := eq_true q9
        by_cases q10 : e1.Done = (decide (i = (w ((l.length : Int) - 1))))
        · rw [if_pos q10] at h
          have zq10 := eq_true q10; try simp only [Int.natCast_pos, Int.ofNat_lt, Int.ofNat_le, Int.natCast_inj, Int.natCast_nonneg, Int.toNat_natCast, Int.natCast_eq_zero, List.length_eq_zero_iff] at zq10
          replace q10 := eq_true q10
          obtain ⟨e5, q11, h⟩ := h
          have gq11 := ltOfGet q11
          have kq11 := getOf q11
          obtain ⟨v6_0, q12, h⟩ := h
          unfold X_spec_l27Find at q12
          try simp at q12
          by_cases q13 : v6_0 < 0
          · rw [if_pos q13] at h
            refine Eq.trans ?_ h
            clear h
            simp +decide [*]
          · rw [if_neg q13] at h
            by_cases q14 : e1.Contour = last
            · rw [if_pos q14] at h
              replace q14 := eq_true q14
              by_cases q15 : v6_0 ≤ x
              · rw [if_pos q15] at h
                refine Eq.trans ?_ h
                clear h
                simp +decide [*]
              · rw [if_neg q15] at h
                refine Eq.trans ?_ h
                clear h
                simp +decide [*, L_spec_AreOrderedNotes_0]
            · rw [if_neg q14] at h
              replace q14 := eq_false q14
              refine Eq.trans ?_ h
              clear h
              simp +decide [*, L_spec_AreOrderedNotes_0]
        · rw [if_neg q10] at h
          have zq10 := eq_false q10; try simp only [Int.natCast_pos, Int.ofNat_lt, Int.ofNat_le, Int.natCast_inj, Int.natCast_nonneg, Int.toNat_natCast, Int.natCast_eq_zero, List.length_eq_zero_iff] at zq10
          replace q10 := eq_false q10
          refine Eq.trans ?_ h
          clear h
          simp +decide [*]
      · rw [if_neg q9] at h
        replace q9 := eq_false q9
        refine Eq.trans ?_ h
        clear h
        simp +decide [*]
    · rw [if_neg q5] at h
      refine Eq.trans ?_ h
      clear h
      simp +decide [*]
  · rw [if_neg q1] at h
    have zq1 := eq_false q1; try simp only [Int.natCast_pos, Int.ofNat_lt, Int.ofNat_le, Int.natCast_inj, Int.natCast_nonneg, Int.toNat_natCast, Int.natCast_eq_zero, List.length_eq_zero_iff] at zq1
    refine Eq.trans ?_ h
    clear h
    simp +decide [*, R_spec_AreOrderedNotes_0]
theorem S_spec_AreOrderedNotes (a : Query) (a1 : Bouquet) (a2 : List RunNote) (r : AV × List Blk) (h : (∃ (v1_0 : Bool), X_spec_IsValidBouquet a a1 = some (Bo v1_0, []) ∧ (if v1_0 = true then (L_spec_AreOrderedNotes_0 a1 a2 0 (-1) 0 = some r) else (some (Bo false, []) = some r)))) : X_spec_AreOrderedNotes a a1 a2 = some r := by
  unfold X_spec_AreOrderedNotes
  refine run t_spec_AreOrderedNotes rfl ?_
  obtain ⟨v1_0, q1, h⟩ := h
  unfold X_spec_IsValidBouquet at q1
  try simp at q1
  by_cases q2 : v1_0 = true
  · rw [if_pos q2] at h
    refine Eq.trans ?_ h
    clear h
    simp +decide [*, M_spec_AreOrderedNotes, L_spec_AreOrderedNotes_0]
  · rw [if_neg q2] at h
    refine Eq.trans ?_ h
    clear h
    simp +decide [*, M_spec_AreOrderedNotes]

theorem t_impl_joinSteps : tbl 60 = some M_impl_joinSteps := tblOf_eq Try.func60 (by kernel_rfl) (by kernel_rfl)
theorem SL_impl_joinSteps_0 (out : List Int) (x : List PlanStep) (x1 : Int) (x2 : Int) (r : AV × List Blk) (h : (if x2 < x1 then (0 ≤ x2 ∧ (∃ (e1 : PlanStep), x[x2.toNat]? = some e1 ∧ (if 3 ≤ e1.Kind then (out.length + 1 ≤ 68719476736 ∧ (L_impl_joinSteps_0 (out ++ [x2]) x x1 (w (x2 + 1)) = some r)) else (L_impl_joinSteps_0 out x x1 (w (x2 + 1)) = some r)))) else (some (.own 0, [.arr 3 1 true (out.map ic)]) = some r))) : L_impl_joinSteps_0 out x x1 x2 = some r := by
  unfold L_impl_joinSteps_0
  rw [EvL_eq B_impl_joinSteps_0.eq_1]
  by_cases q1 : x2 < x1
  · rw [if_pos q1] at h
    obtain ⟨q2, h⟩ := h
    obtain ⟨e1, q3, h⟩ := h
    have gq3 := ltOfGet q3
    have kq3 := getOf q3
    by_cases q4 : 3 ≤ e1.Kind
    · rw [if_pos q4] at h
      obtain ⟨q5, h⟩ := h
      have rq5 := roomA (b := 8) q5 (by omega)
      have sq5 := roomB q5
      try simp [*] at rq5
      try simp [*] at sq5
      refine Eq.trans ?_ h
      clear h
      simp +decide [*, L_impl_joinSteps_0, R_impl_joinSteps_0]
    · rw [if_neg q4] at h
      refine Eq.trans ?_ h
      clear h
      simp +decide [*, L_impl_joinSteps_0, R_impl_joinSteps_0]
  · rw [if_neg q1] at h
    refine Eq.trans ?_ h
    clear h
    simp +decide [*, R_impl_joinSteps_1]
theorem S_impl_joinSteps (a : Plan) (r : AV × List Blk) (h : (L_impl_joinSteps_0 ([] : List Int) a.Steps (a.Steps.length : Int) 0 = some r)) : X_impl_joinSteps a = some r := by
  unfold X_impl_joinSteps
  refine run t_impl_joinSteps rfl ?_
  refine Eq.trans ?_ h
  clear h
  simp +decide [*, M_impl_joinSteps, L_impl_joinSteps_0]

theorem t_impl_begins : tbl 117 = some M_impl_begins := tblOf_eq Try.func117 (by kernel_rfl) (by kernel_rfl)
theorem SL_impl_begins_0 (info : List StepInfo) (step : Int) (r : AV × List Blk) (h : (0 ≤ step ∧ (∃ (e1 : StepInfo), info[step.toNat]? = some e1 ∧ (if 0 ≤ e1.Left then (L_impl_begins_0 info e1.Left = some r) else (some (I step, []) = some r))))) : L_impl_begins_0 info step = some r := by
  unfold L_impl_begins_0
  rw [EvL_eq B_impl_begins_0.eq_1]
  obtain ⟨q1, h⟩ := h
  obtain ⟨e1, q2, h⟩ := h
  have gq2 := ltOfGet q2
  have kq2 := getOf q2
  by_cases q3 : 0 ≤ e1.Left
  · rw [if_pos q3] at h
    refine Eq.trans ?_ h
    clear h
    simp +decide [*, L_impl_begins_0]
  · rw [if_neg q3] at h
    refine Eq.trans ?_ h
    clear h
    simp +decide [*, R_impl_begins_0]
theorem S_impl_begins (a : List StepInfo) (a1 : Int) (r : AV × List Blk) (h : (L_impl_begins_0 a a1 = some r)) : X_impl_begins a a1 = some r := by
  unfold X_impl_begins
  refine run t_impl_begins rfl ?_
  refine Eq.trans ?_ h
  clear h
  simp +decide [*, M_impl_begins, L_impl_begins_0]

theorem t_impl_copyPlan : tbl 116 = some M_impl_copyPlan := tblOf_eq Try.func116 (by kernel_rfl) (by kernel_rfl)
theorem S_impl_copyPlan (a : Plan) (r : AV × List Blk) (h : (a.Steps.length ≤ 68719476736 ∧ (some (.agg [.own 0], [.arr 166 3 true (a.Steps.map PlanStep.c)]) = some r))) : X_impl_copyPlan a = some r := by
  unfold X_impl_copyPlan
  refine run t_impl_copyPlan rfl ?_
  obtain ⟨q1, h⟩ := h
  have rq1 := roomA (b := 24) q1 (by omega)
  have sq1 := roomB q1
  try simp [*] at rq1
  try simp [*] at sq1
  refine Eq.trans ?_ h
  clear h
  simp +decide [*, M_impl_copyPlan]

theorem t_impl_SubplanAt : tbl 65 = some M_impl_SubplanAt := tblOf_eq Try.func65 (by kernel_rfl) (by kernel_rfl)
theorem S_impl_SubplanAt (a : Query) (a1 : Plan) (a2 : Int) (r : AV × List Blk) (h : ((X_impl_PlanInfo a a1 = some (.tup [.t .nil, Bo false], []) ∧ (some (.tup [.agg [.t .nil], Bo false], []) = some r)) ∨ (∃ (v2_0 : List StepInfo), X_impl_PlanInfo a a1 = some (.tup [.own 0, Bo true], [.arr 111 4 true (v2_0.map StepInfo.c)]) ∧ (∃ (v3_0 : Bool), X_impl_within a2 0 (w ((v2_0.length : Int) - 1)) = some (Bo v3_0, []) ∧ (if v3_0 = true then (∃ (v4_0 : Int), X_impl_begins v2_0 a2 = some (I v4_0, []) ∧ (0 ≤ v4_0 ∧ (0 ≤ (w (a2 + 1)) ∧ (v4_0.toNat ≤ (w (a2 + 1)).toNat ∧ ((w (a2 + 1)).toNat ≤ a1.Steps.length ∧ (∃ (v5_0 : List PlanStep), X_impl_copyPlan (⟨((a1.Steps.take ((w (a2 + 1)).toNat)).drop v4_0.toNat)⟩ : Plan) = some (.agg [.own 0], [.arr 166 3 true (v5_0.map PlanStep.c)]) ∧ (some (.tup [.agg [.own 0], Bo true], [.arr 166 3 true (v5_0.map PlanStep.c)]) = some r))))))) else (some (.tup [.agg [.t .nil], Bo false], []) = some r)))))) : X_impl_SubplanAt a a1 a2 = some r := by
  unfold X_impl_SubplanAt
  refine run t_impl_SubplanAt rfl ?_
  rcases h with h | h
  ·
    obtain ⟨q1, h⟩ := h
    unfold X_impl_PlanInfo at q1
    try simp at q1
    refine Eq.trans ?_ h
    clear h
    simp +decide [*, M_impl_SubplanAt]
  ·
    obtain ⟨v2_0, q2, h⟩ := h
    unfold X_impl_PlanInfo at q2
    try simp at q2
    obtain ⟨v3_0, q3, h⟩ := h
    unfold X_impl_within at q3
    try simp at q3
    by_cases q4 : v3_0 = true
    · rw [if_pos q4] at h
      obtain ⟨v4_0, q5, h⟩ := h
      unfold X_impl_begins at q5
      try simp at q5
      obtain ⟨q6, h⟩ := h
      obtain ⟨q7, h⟩ := h
      obtain ⟨q8, h⟩ := h
      have zq8 := q8; try simp at zq8
      obtain ⟨q9, h⟩ := h
      have zq9 := q9; try simp at zq9
      obtain ⟨v5_0, q10, h⟩ := h
      unfold X_impl_copyPlan at q10
      try simp at q10
      refine Eq.trans ?_ h
      clear h
      simp +decide [*, M_impl_SubplanAt]
    · rw [if_neg q4] at h
      refine Eq.trans ?_ h
      clear h
      simp +decide [*, M_impl_SubplanAt]

theorem t_impl_SpillPlan : tbl 20 = some M_impl_SpillPlan := tblOf_eq Try.func20 (by kernel_rfl) (by kernel_rfl)
theorem SL_impl_SpillPlan_0 (q : Query) (p : Plan) (info : List StepInfo) (x : List Int) (mask : Int) (x1 : Int) (x2 : Int) (r : AV × List Blk) (h : (if x2 < x1 then (0 ≤ x2 ∧ (∃ (e1 : Int), x[x2.toNat]? = some e1 ∧ (0 ≤ e1 ∧ (∃ (e2 : StepInfo), info[e1.toNat]? = some e2 ∧ (if e2.Mask = mask then ((X_impl_SubplanAt q p e1 = some (.tup [.agg [.t .nil], Bo false], []) ∧ (some (.tup [.agg [.t .nil], Bo false], []) = some r)) ∨ (∃ (v4_0 : List PlanStep), X_impl_SubplanAt q p e1 = some (.tup [.agg [.own 0], Bo true], [.arr 166 3 true (v4_0.map PlanStep.c)]) ∧ (some (.tup [.agg [.own 0], Bo true], [.arr 166 3 true (v4_0.map PlanStep.c)]) = some r))) else (L_impl_SpillPlan_0 q p info x mask x1 (w (x2 + 1)) = some r)))))) else (some (.tup [.agg [.t .nil], Bo false], []) = some r))) : L_impl_SpillPlan_0 q p info x mask x1 x2 = some r := by
  unfold L_impl_SpillPlan_0
  rw [EvL_eq B_impl_SpillPlan_0.eq_1]
  by_cases q1 : x2 < x1
  · rw [if_pos q1] at h
    obtain ⟨q2, h⟩ := h
    obtain ⟨e1, q3, h⟩ := h
    have gq3 := ltOfGet q3
    have kq3 := getOf q3
    obtain ⟨q4, h⟩ := h
    obtain ⟨e2, q5, h⟩ := h
    have gq5 := ltOfGet q5
    have kq5 := getOf q5
    by_cases q6 : e2.Mask = mask
    · rw [if_pos q6] at h
      replace q6 := eq_true q6
      rcases h with h | h
      ·
        obtain ⟨q7, h⟩ := h
        unfold X_impl_SubplanAt at q7
        try simp at q7
        refine Eq.trans ?_ h
        clear h
        simp +decide [*]
      ·
        obtain ⟨v4_0, q8, h⟩ := h
        unfold X_impl_SubplanAt at q8
        try simp at q8
        refine Eq.trans ?_ h
        clear h
        simp +decide [*]
    · rw [if_neg q6] at h
      replace q6 := eq_false q6
      refine Eq.trans ?_ h
      clear h
      simp +decide [*, L_impl_SpillPlan_0]
  · rw [if_neg q1] at h
    refine Eq.trans ?_ h
    clear h
    simp +decide [*, R_impl_SpillPlan_0]
theorem S_impl_SpillPlan (a : Query) (a1 : Plan) (a2 : Int) (r : AV × List Blk) (h : ((X_impl_PlanInfo a a1 = some (.tup [.t .nil, Bo false], []) ∧ (some (.tup [.agg [.t .nil], Bo false], []) = some r)) ∨ (∃ (v2_0 : List StepInfo), X_impl_PlanInfo a a1 = some (.tup [.own 0, Bo true], [.arr 111 4 true (v2_0.map StepInfo.c)]) ∧ (∃ (v3_0 : List Int), X_impl_joinSteps a1 = some (.own 0, [.arr 3 1 true (v3_0.map ic)]) ∧ (L_impl_SpillPlan_0 a a1 v2_0 v3_0 a2 (v3_0.length : Int) 0 = some r))))) : X_impl_SpillPlan a a1 a2 = some r := by
  unfold X_impl_SpillPlan
  refine run t_impl_SpillPlan rfl ?_
  rcases h with h | h
  ·
    obtain ⟨q1, h⟩ := h
    unfold X_impl_PlanInfo at q1
    try simp at q1
    refine Eq.trans ?_ h
    clear h
    simp +decide [*, M_impl_SpillPlan]
  ·
    obtain ⟨v2_0, q2, h⟩ := h
    unfold X_impl_PlanInfo at q2
    try simp at q2
    obtain ⟨v3_0, q3, h⟩ := h
    unfold X_impl_joinSteps at q3
    try simp at q3
    refine Eq.trans ?_ h
    clear h
    simp +decide [*, M_impl_SpillPlan, L_impl_SpillPlan_0]

theorem t_spec_l23First : tbl 115 = some M_spec_l23First := tblOf_eq Try.func115 (by kernel_rfl) (by kernel_rfl)
theorem SL_spec_l23First_0 (info : List StepInfo) (i : Int) (r : AV × List Blk) (h : (0 ≤ i ∧ (∃ (e1 : StepInfo), info[i.toNat]? = some e1 ∧ (if 0 ≤ e1.Left then (L_spec_l23First_0 info e1.Left = some r) else (some (I i, []) = some r))))) : L_spec_l23First_0 info i = some r := by
  unfold L_spec_l23First_0
  rw [EvL_eq B_spec_l23First_0.eq_1]
  obtain ⟨q1, h⟩ := h
  obtain ⟨e1, q2, h⟩ := h
  have gq2 := ltOfGet q2
  have kq2 := getOf q2
  by_cases q3 : 0 ≤ e1.Left
  · rw [if_pos q3] at h
    refine Eq.trans ?_ h
    clear h
    simp +decide [*, L_spec_l23First_0]
  · rw [if_neg q3] at h
    refine Eq.trans ?_ h
    clear h
    simp +decide [*, R_spec_l23First_0]
theorem S_spec_l23First (a : List StepInfo) (a1 : Int) (r : AV × List Blk) (h : (L_spec_l23First_0 a a1 = some r)) : X_spec_l23First a a1 = some r := by
  unfold X_spec_l23First
  refine run t_spec_l23First rfl ?_
  refine Eq.trans ?_ h
  clear h
  simp +decide [*, M_spec_l23First, L_spec_l23First_0]

theorem t_spec_SubplanAt : tbl 64 = some M_spec_SubplanAt := tblOf_eq Try.func64 (by kernel_rfl) (by kernel_rfl)
theorem S_spec_SubplanAt (a : Query) (a1 : Plan) (a2 : Int) (r : AV × List Blk) (h : (∃ (v1_0 : List StepInfo) (v1_1 : Bool), X_spec_PlanInfo a a1 = some (.tup [.own 0, Bo v1_1], [.arr 111 4 true (v1_0.map StepInfo.c)]) ∧ (if v1_1 = true then (∃ (v2_0 : Bool), X_spec_l1In a2 0 (w ((v1_0.length : Int) - 1)) = some (Bo v2_0, []) ∧ (if v2_0 = true then (∃ (v3_0 : Int), X_spec_l23First v1_0 a2 = some (I v3_0, []) ∧ (0 ≤ v3_0 ∧ (0 ≤ (w (a2 + 1)) ∧ (v3_0.toNat ≤ (w (a2 + 1)).toNat ∧ ((w (a2 + 1)).toNat ≤ a1.Steps.length ∧ (((a1.Steps.take ((w (a2 + 1)).toNat)).drop v3_0.toNat).length ≤ 68719476736 ∧ (some (.tup [.agg [.own 0], Bo true], [.arr 166 3 true (((a1.Steps.take ((w (a2 + 1)).toNat)).drop v3_0.toNat).map PlanStep.c)]) = some r))))))) else (some (.tup [.agg [.t .nil], Bo false], []) = some r))) else (some (.tup [.agg [.t .nil], Bo false], []) = some r)))) : X_spec_SubplanAt a a1 a2 = some r := by
  unfold X_spec_SubplanAt
  refine run t_spec_SubplanAt rfl ?_
  obtain ⟨v1_0, v1_1, q1, h⟩ := h
  unfold X_spec_PlanInfo at q1
  try simp at q1
  by_cases q2 : v1_1 = true
  · rw [if_pos q2] at h
    obtain ⟨v2_0, q3, h⟩ := h
    unfold X_spec_l1In at q3
    try simp at q3
    by_cases q4 : v2_0 = true
    · rw [if_pos q4] at h
      obtain ⟨v3_0, q5, h⟩ := h
      unfold X_spec_l23First at q5
      try simp at q5
      obtain ⟨q6, h⟩ := h
      obtain ⟨q7, h⟩ := h
      obtain ⟨q8, h⟩ := h
      have zq8 := q8; try simp at zq8
      obtain ⟨q9, h⟩ := h
      have zq9 := q9; try simp at zq9
      obtain ⟨q10, h⟩ := h
      have rq10 := roomA (b := 24) q10 (by omega)
      have sq10 := roomB q10
      try simp [*] at rq10
      try simp [*] at sq10
      refine Eq.trans ?_ h
      clear h
      simp +decide [*, M_spec_SubplanAt]
    · rw [if_neg q4] at h
      refine Eq.trans ?_ h
      clear h
      simp +decide [*, M_spec_SubplanAt]
  · rw [if_neg q2] at h
    refine Eq.trans ?_ h
    clear h
    simp +decide [*, M_spec_SubplanAt]

theorem t_spec_SpillPlan : tbl 19 = some M_spec_SpillPlan := tblOf_eq Try.func19 (by kernel_rfl) (by kernel_rfl)
theorem SL_spec_SpillPlan_0 (q : Query) (p : Plan) (info : List StepInfo) (mask : Int) (is : Bool) (i : Int) (r : AV × List Blk) (h : (if i < (info.length : Int) then (if is = true then (0 ≤ i ∧ (∃ (e1 : StepInfo), info[i.toNat]? = some e1 ∧ (if 0 ≤ e1.Right then (if e1.Mask = mask then ((∃ (v2_0 : List PlanStep), X_spec_SubplanAt q p i = some (.tup [.agg [.own 0], Bo true], [.arr 166 3 true (v2_0.map PlanStep.c)]) ∧ (some (.tup [.agg [.own 0], Bo true], [.arr 166 3 true (v2_0.map PlanStep.c)]) = some r)) ∨ (X_spec_SubplanAt q p i = some (.tup [.agg [.t .nil], Bo false], []) ∧ (some (.tup [.agg [.t .nil], Bo false], []) = some r))) else (L_spec_SpillPlan_0 q p info mask true (w (i + 1)) = some r)) else (L_spec_SpillPlan_0 q p info mask true (w (i + 1)) = some r)))) else (some (.tup [.agg [.t .nil], Bo false], []) = some r)) else (some (.tup [.agg [.t .nil], Bo false], []) = some r))) : L_spec_SpillPlan_0 q p info mask is i = some r := by
  unfold L_spec_SpillPlan_0
  rw [EvL_eq B_spec_SpillPlan_0.eq_1]
  by_cases q1 : i < (info.length : Int)
  · rw [if_pos q1] at h
    have zq1 := eq_true q1; try simp only [Int.natCast_pos, Int.ofNat_lt, Int.ofNat_le, Int.natCast_inj, Int.natCast_nonneg, Int.toNat_natCast, Int.natCast_eq_zero, List.length_eq_zero_iff] at zq1
    by_cases q2 : is = true
    · rw [if_pos q2] at h
      obtain ⟨q3, h⟩ := h
      obtain ⟨e1, q4, h⟩ := h
      have gq4 := ltOfGet q4
      have kq4 := getOf q4
      by_cases q5 : 0 ≤ e1.Right
      · rw [if_pos q5] at h
        by_cases q6 : e1.Mask = mask
        · rw [if_pos q6] at h
          replace q6 := eq_true q6
          rcases h with h | h
          ·
            obtain ⟨v2_0, q7, h⟩ := h
            unfold X_spec_SubplanAt at q7
            try simp at q7
            refine Eq.trans ?_ h
            clear h
            simp +decide [*]
          ·
            obtain ⟨q8, h⟩ := h
            unfold X_spec_SubplanAt at q8
            try simp at q8
            refine Eq.trans ?_ h
            clear h
            simp +decide [*]
        · rw [if_neg q6] at h
          replace q6 := eq_false q6
          refine Eq.trans ?_ h
          clear h
          simp +decide [*, L_spec_SpillPlan_0]
      · rw [if_neg q5] at h
        refine Eq.trans ?_ h
        clear h
        simp +decide [*, L_spec_SpillPlan_0]
    · rw [if_neg q2] at h
      refine Eq.trans ?_ h
      clear h
      simp +decide [*, R_spec_SpillPlan_0]
  · rw [if_neg q1] at h
    have zq1 := eq_false q1; try simp only [Int.natCast_pos, Int.ofNat_lt, Int.ofNat_le, Int.natCast_inj, Int.natCast_nonneg, Int.toNat_natCast, Int.natCast_eq_zero, List.length_eq_zero_iff] at zq1
    refine Eq.trans ?_ h
    clear h
    simp +decide [*, R_spec_SpillPlan_0]
theorem S_spec_SpillPlan (a : Query) (a1 : Plan) (a2 : Int) (r : AV × List Blk) (h : (∃ (v1_0 : List StepInfo) (v1_1 : Bool), X_spec_PlanInfo a a1 = some (.tup [.own 0, Bo v1_1], [.arr 111 4 true (v1_0.map StepInfo.c)]) ∧ (L_spec_SpillPlan_0 a a1 v1_0 a2 v1_1 0 = some r))) : X_spec_SpillPlan a a1 a2 = some r := by
  unfold X_spec_SpillPlan
  refine run t_spec_SpillPlan rfl ?_
  obtain ⟨v1_0, v1_1, q1, h⟩ := h
  unfold X_spec_PlanInfo at q1
  try simp at q1
  refine Eq.trans ?_ h
  clear h
  simp +decide [*, M_spec_SpillPlan, L_spec_SpillPlan_0]

end Go.Proofs.Ytiniphmomjnocaa
