/-
  Code, blocks and their theorems, as printed by program.
-/
import Derived.Test.YtiniphmomjnocaaD1
namespace Go.Proofs.Ytiniphmomjnocaa
open Go.AM
set_option linter.unusedSimpArgs false
set_option linter.unusedVariables false
set_option maxRecDepth 100000
set_option maxHeartbeats 4000000

theorem t_impl_PlanInfo : tbl 58 = some M_impl_PlanInfo := tblOf_eq Try.func58 (by kernel_rfl) (by kernel_rfl)
theorem SL_impl_PlanInfo_0 (q : Query) (info : List StepInfo) (stack : List Int) (x : List PlanStep) (x1 : Int) (x2 : Int) (r : AV × List Blk) (h : (if x2 < x1 then (0 ≤ x2 ∧ (∃ (e1 : PlanStep), x[x2.toNat]? = some e1 ∧ (∃ (v2_0 : StepInfo) (v2_1 : Bool), X_impl_stepInfo q e1 info stack = some (.tup [.agg (v2_0.c.map .t), Bo v2_1], []) ∧ (if v2_1 = true then (info.length + 1 ≤ 68719476736 ∧ (if 0 ≤ v2_0.Right then (0 ≤ (w ((stack.length : Int) - 2)) ∧ ((w ((stack.length : Int) - 2)).toNat ≤ stack.length ∧ ((w ((stack.length : Int) - 2)).toNat + 1 ≤ 68719476736 ∧ (L_impl_PlanInfo_0 q (info ++ [v2_0]) ((stack.take ((w ((stack.length : Int) - 2)).toNat)) ++ [x2]) x x1 (w (x2 + 1)) = some r)))) else (if 0 ≤ v2_0.Left then (0 ≤ (w ((stack.length : Int) - 1)) ∧ ((w ((stack.length : Int) - 1)).toNat ≤ stack.length ∧ ((w ((stack.length : Int) - 1)).toNat + 1 ≤ 68719476736 ∧ (L_impl_PlanInfo_0 q (info ++ [v2_0]) ((stack.take ((w ((stack.length : Int) - 1)).toNat)) ++ [x2]) x x1 (w (x2 + 1)) = some r)))) else (stack.length + 1 ≤ 68719476736 ∧ (L_impl_PlanInfo_0 q (info ++ [v2_0]) (stack ++ [x2]) x x1 (w (x2 + 1)) = some r))))) else (some (.tup [.t .nil, Bo false], []) = some r))))) else (if (stack.length : Int) = 1 then (some (.tup [.own 0, Bo true], [.arr 111 4 true (info.map StepInfo.c)]) = some r) else (some (.tup [.t .nil, Bo false], []) = some r)))) : L_impl_PlanInfo_0 q info stack x x1 x2 = some r := by
  unfold L_impl_PlanInfo_0
  rw [EvL_eq B_impl_PlanInfo_0.eq_1]
  by_cases q1 : x2 < x1
  · rw [if_pos q1] at h
    obtain ⟨q2, h⟩ := h
    obtain ⟨e1, q3, h⟩ := h
    have gq3 := ltOfGet q3
    have kq3 := getOf q3
    obtain ⟨v2_0, v2_1, q4, h⟩ := h
    unfold X_impl_stepInfo at q4
    try simp at q4
    by_cases q5 : v2_1 = true
    · rw [if_pos q5] at h
      obtain ⟨q6, h⟩ := h
      have rq6 := roomA (b := 32) q6 (by omega)
      have sq6 := roomB q6
      try simp [*] at rq6
      try simp [*] at sq6
      by_cases q7 : 0 ≤ v2_0.Right
      · rw [if_pos q7] at h
        obtain ⟨q8, h⟩ := h
        have zq8 := q8; try simp at zq8
        obtain ⟨q9, h⟩ := h
        have zq9 := q9; try simp at zq9
        have mq9 := Nat.min_eq_left q9
        obtain ⟨q10, h⟩ := h
        have rq10 := roomA (b := 8) q10 (by omega)
        have sq10 := roomB q10
        try simp [*] at rq10
        try simp [*] at sq10
        refine Eq.trans ?_ h
        clear h
        simp +decide [*, L_impl_PlanInfo_0, R_impl_PlanInfo_0]
      · rw [if_neg q7] at h
        by_cases q11 : 0 ≤ v2_0.Left
        · rw [if_pos q11] at h
          obtain ⟨q12, h⟩ := h
          have zq12 := q12; try simp at zq12
          obtain ⟨q13, h⟩ := h
          have zq13 := q13; try simp at zq13
          have mq13 := Nat.min_eq_left q13
          obtain ⟨q14, h⟩ := h
          have rq14 := roomA (b := 8) q14 (by omega)
          have sq14 := roomB q14
          try simp [*] at rq14
          try simp [*] at sq14
          refine Eq.trans ?_ h
          clear h
          simp +decide [*, L_impl_PlanInfo_0, R_impl_PlanInfo_0]
        · rw [if_neg q11] at h
          obtain ⟨q15, h⟩ := h
          have rq15 := roomA (b := 8) q15 (by omega)
          have sq15 := roomB q15
          try simp [*] at rq15
          try simp [*] at sq15
          refine Eq.trans ?_ h
          clear h
          simp +decide [*, L_impl_PlanInfo_0, R_impl_PlanInfo_0]
    · rw [if_neg q5] at h
      refine Eq.trans ?_ h
      clear h
      simp +decide [*]
  · rw [if_neg q1] at h
    by_cases q16 : (stack.length : Int) = 1
    · rw [if_pos q16] at h
      have zq16 := eq_true q16; try simp only [Int.natCast_pos, Int.ofNat_lt, Int.ofNat_le, Int.natCast_inj, Int.natCast_nonneg, Int.toNat_natCast, Int.natCast_eq_zero, List.length_eq_zero_iff] at zq16
      replace q16 := eq_true q16
      refine Eq.trans ?_ h
      clear h
      simp +decide [*, R_impl_PlanInfo_1]
    · rw [if_neg q16] at h
      have zq16 := eq_false q16; try simp only [Int.natCast_pos, Int.ofNat_lt, Int.ofNat_le, Int.natCast_inj, Int.natCast_nonneg, Int.toNat_natCast, Int.natCast_eq_zero, List.length_eq_zero_iff] at zq16
      replace q16 := eq_false q16
      refine Eq.trans ?_ h
      clear h
      simp +decide [*, R_impl_PlanInfo_1]
theorem S_impl_PlanInfo (a : Query) (a1 : Plan) (r : AV × List Blk) (h : (∃ (v1_0 : Bool), X_impl_IsValidQuery a = some (Bo v1_0, []) ∧ (if v1_0 = true then (∃ (v2_0 : Bool), X_impl_within (a1.Steps.length : Int) 1 14 = some (Bo v2_0, []) ∧ (if v2_0 = true then (L_impl_PlanInfo_0 a ([] : List StepInfo) ([] : List Int) a1.Steps (a1.Steps.length : Int) 0 = some r) else (some (.tup [.t .nil, Bo false], []) = some r))) else (some (.tup [.t .nil, Bo false], []) = some r)))) : X_impl_PlanInfo a a1 = some r := by
  unfold X_impl_PlanInfo
  refine run t_impl_PlanInfo rfl ?_
  obtain ⟨v1_0, q1, h⟩ := h
  unfold X_impl_IsValidQuery at q1
  try simp at q1
  by_cases q2 : v1_0 = true
  · rw [if_pos q2] at h
    obtain ⟨v2_0, q3, h⟩ := h
    unfold X_impl_within at q3
    try simp at q3
    by_cases q4 : v2_0 = true
    · rw [if_pos q4] at h
      refine Eq.trans ?_ h
      clear h
      simp +decide [*, M_impl_PlanInfo, L_impl_PlanInfo_0]
    · rw [if_neg q4] at h
      refine Eq.trans ?_ h
      clear h
      simp +decide [*, M_impl_PlanInfo]
  · rw [if_neg q2] at h
    refine Eq.trans ?_ h
    clear h
    simp +decide [*, M_impl_PlanInfo]

theorem t_impl_PlanMask : tbl 72 = some M_impl_PlanMask := tblOf_eq Try.func72 (by kernel_rfl) (by kernel_rfl)
theorem S_impl_PlanMask (a : Query) (a1 : Plan) (r : AV × List Blk) (h : ((X_impl_PlanInfo a a1 = some (.tup [.t .nil, Bo false], []) ∧ (some (I 0, []) = some r)) ∨ (∃ (v2_0 : List StepInfo), X_impl_PlanInfo a a1 = some (.tup [.own 0, Bo true], [.arr 111 4 true (v2_0.map StepInfo.c)]) ∧ (0 ≤ (w ((v2_0.length : Int) - 1)) ∧ (∃ (e3 : StepInfo), v2_0[(w ((v2_0.length : Int) - 1)).toNat]? = some e3 ∧ (some (I e3.Mask, []) = some r)))))) : X_impl_PlanMask a a1 = some r := by
  unfold X_impl_PlanMask
  refine run t_impl_PlanMask rfl ?_
  rcases h with h | h
  ·
    obtain ⟨q1, h⟩ := h
    unfold X_impl_PlanInfo at q1
    try simp at q1
    refine Eq.trans ?_ h
    clear h
    simp +decide [*, M_impl_PlanMask]
  ·
    obtain ⟨v2_0, q2, h⟩ := h
    unfold X_impl_PlanInfo at q2
    try simp at q2
    obtain ⟨q3, h⟩ := h
    have zq3 := q3; try simp at zq3
    obtain ⟨e3, q4, h⟩ := h
    have gq4 := ltOfGet q4
    have kq4 := getOf q4
    refine Eq.trans ?_ h
    clear h
    simp +decide [*, M_impl_PlanMask]

theorem t_impl_differentIndices : tbl 126 = some M_impl_differentIndices := tblOf_eq Try.func126 (by kernel_rfl) (by kernel_rfl)
theorem SL_impl_differentIndices_0 (l : List Int) (n : Int) (x : List Int) (x1 : Int) (x2 : Int) (r : AV × List Blk) (h : (if x2 < x1 then (0 ≤ x2 ∧ (∃ (e1 : Int), x[x2.toNat]? = some e1 ∧ (∃ (v2_0 : Bool), X_impl_within e1 0 (w (n - 1)) = some (Bo v2_0, []) ∧ (if v2_0 = true then (x2.toNat ≤ l.length ∧ (∃ (v3_0 : Bool), X_slices_Contains___int_int_ (l.take x2.toNat) e1 = some (Bo v3_0, []) ∧ (if v3_0 = true then (some (Bo false, []) = some r) else (L_impl_differentIndices_0 l n x x1 (w (x2 + 1)) = some r)))) else (some (Bo false, []) = some r))))) else (some (Bo (decide (0 < (l.length : Int))), []) = some r))) : L_impl_differentIndices_0 l n x x1 x2 = some r := by
  unfold L_impl_differentIndices_0
  rw [EvL_eq B_impl_differentIndices_0.eq_1]
  by_cases q1 : x2 < x1
  · rw [if_pos q1] at h
    obtain ⟨q2, h⟩ := h
    obtain ⟨e1, q3, h⟩ := h
    have gq3 := ltOfGet q3
    have kq3 := getOf q3
    obtain ⟨v2_0, q4, h⟩ := h
    unfold X_impl_within at q4
    try simp at q4
    by_cases q5 : v2_0 = true
    · rw [if_pos q5] at h
      obtain ⟨q6, h⟩ := h
      have zq6 := q6; try simp at zq6
      obtain ⟨v3_0, q7, h⟩ := h
      unfold X_slices_Contains___int_int_ at q7
      try simp at q7
      by_cases q8 : v3_0 = true
      · rw [if_pos q8] at h
        refine Eq.trans ?_ h
        clear h
        simp +decide [*]
      · rw [if_neg q8] at h
        refine Eq.trans ?_ h
        clear h
        simp +decide [*, L_impl_differentIndices_0]
    · rw [if_neg q5] at h
      refine Eq.trans ?_ h
      clear h
      simp +decide [*]
  · rw [if_neg q1] at h
    refine Eq.trans ?_ h
    clear h
    simp +decide [*, R_impl_differentIndices_0]
theorem S_impl_differentIndices (a : List Int) (a1 : Int) (r : AV × List Blk) (h : (L_impl_differentIndices_0 a a1 a (a.length : Int) 0 = some r)) : X_impl_differentIndices a a1 = some r := by
  unfold X_impl_differentIndices
  refine run t_impl_differentIndices rfl ?_
  refine Eq.trans ?_ h
  clear h
  simp +decide [*, M_impl_differentIndices, L_impl_differentIndices_0]

theorem t_impl_IsValidBouquet : tbl 83 = some M_impl_IsValidBouquet := tblOf_eq Try.func83 (by kernel_rfl) (by kernel_rfl)
theorem SL_impl_IsValidBouquet_0 (q : Query) (b : Bouquet) (x : List Plan) (x1 : Int) (x2 : Int) (r : AV × List Blk) (h : (if x2 < x1 then (0 ≤ x2 ∧ (∃ (e1 : Plan), x[x2.toNat]? = some e1 ∧ (∃ (v2_0 : Int), X_impl_PlanMask q e1 = some (I v2_0, []) ∧ (∃ (v3_0 : Int), X_impl_FullMask q = some (I v3_0, []) ∧ (if v2_0 = v3_0 then (L_impl_IsValidBouquet_0 q b x x1 (w (x2 + 1)) = some r) else (some (Bo false, []) = some r)))))) else (L_impl_IsValidBouquet_1 b b.Budgets (b.Budgets.length : Int) 0 = some r))) : L_impl_IsValidBouquet_0 q b x x1 x2 = some r := by
  unfold L_impl_IsValidBouquet_0
  rw [EvL_eq B_impl_IsValidBouquet_0.eq_1]
  by_cases q1 : x2 < x1
  · rw [if_pos q1] at h
    obtain ⟨q2, h⟩ := h
    obtain ⟨e1, q3, h⟩ := h
    have gq3 := ltOfGet q3
    have kq3 := getOf q3
    obtain ⟨v2_0, q4, h⟩ := h
    unfold X_impl_PlanMask at q4
    try simp at q4
    obtain ⟨v3_0, q5, h⟩ := h
    unfold X_impl_FullMask at q5
    try simp at q5
    by_cases q6 : v2_0 = v3_0
    · rw [if_pos q6] at h
      replace q6 := eq_true q6
      refine Eq.trans ?_ h
      clear h
      simp +decide [*, L_impl_IsValidBouquet_0]
    · rw [if_neg q6] at h
      replace q6 := eq_false q6
      refine Eq.trans ?_ h
      clear h
      simp +decide [*]
  · rw [if_neg q1] at h
    refine Eq.trans ?_ h
    clear h
    simp +decide [*, L_impl_IsValidBouquet_1, R_impl_IsValidBouquet_2]
theorem SL_impl_IsValidBouquet_1 (b : Bouquet) (x : List Int) (x1 : Int) (x2 : Int) (r : AV × List Blk) (h : (if x2 < x1 then (0 ≤ x2 ∧ (∃ (e1 : Int), x[x2.toNat]? = some e1 ∧ (∃ (v2_0 : Bool), X_impl_within e1 1 500000000000 = some (Bo v2_0, []) ∧ (if v2_0 = true then (if 0 < x2 then (0 ≤ (w (x2 - 1)) ∧ (∃ (e3 : Int), b.Budgets[(w (x2 - 1)).toNat]? = some e3 ∧ (if e1 = (w (b.Ratio * e3)) then (L_impl_IsValidBouquet_1 b x x1 (w (x2 + 1)) = some r) else (some (Bo false, []) = some r)))) else (L_impl_IsValidBouquet_1 b x x1 (w (x2 + 1)) = some r)) else (some (Bo false, []) = some r))))) else (L_impl_IsValidBouquet_2 b b.Contours (b.Contours.length : Int) 0 = some r))) : L_impl_IsValidBouquet_1 b x x1 x2 = some r := by
  unfold L_impl_IsValidBouquet_1
  rw [EvL_eq B_impl_IsValidBouquet_1.eq_1]
  by_cases q1 : x2 < x1
  · rw [if_pos q1] at h
    obtain ⟨q2, h⟩ := h
    obtain ⟨e1, q3, h⟩ := h
    have gq3 := ltOfGet q3
    have kq3 := getOf q3
    obtain ⟨v2_0, q4, h⟩ := h
    unfold X_impl_within at q4
    try simp at q4
    by_cases q5 : v2_0 = true
    · rw [if_pos q5] at h
      by_cases q6 : 0 < x2
      · rw [if_pos q6] at h
        obtain ⟨q7, h⟩ := h
        obtain ⟨e3, q8, h⟩ := h
        have gq8 := ltOfGet q8
        have kq8 := getOf q8
        by_cases q9 : e1 = (w (b.Ratio * e3))
        · rw [if_pos q9] at h
          replace q9 := eq_true q9
          refine Eq.trans ?_ h
          clear h
          simp +decide [*, L_impl_IsValidBouquet_1]
        · rw [if_neg q9] at h
          replace q9 := eq_false q9
          refine Eq.trans ?_ h
          clear h
          simp +decide [*]
      · rw [if_neg q6] at h
        refine Eq.trans ?_ h
        clear h
        simp +decide [*, L_impl_IsValidBouquet_1]
    · rw [if_neg q5] at h
      refine Eq.trans ?_ h
      clear h
      simp +decide [*]
  · rw [if_neg q1] at h
    refine Eq.trans ?_ h
    clear h
    simp +decide [*, L_impl_IsValidBouquet_2, R_impl_IsValidBouquet_1]
theorem SL_impl_IsValidBouquet_2 (b : Bouquet) (x : List (List Int)) (x1 : Int) (x2 : Int) (r : AV × List Blk) (h : (if x2 < x1 then (0 ≤ x2 ∧ (∃ (e1 : List Int), x[x2.toNat]? = some e1 ∧ (∃ (v2_0 : Bool), X_impl_differentIndices e1 (b.Plans.length : Int) = some (Bo v2_0, []) ∧ (if v2_0 = true then (L_impl_IsValidBouquet_2 b x x1 (w (x2 + 1)) = some r) else (some (Bo false, []) = some r))))) else (if 0 < (b.Budgets.length : Int) then (some (Bo (decide ((b.Contours.length : Int) = (b.Budgets.length : Int))), []) = some r) else (some (Bo false, []) = some r)))) : L_impl_IsValidBouquet_2 b x x1 x2 = some r := by
  unfold L_impl_IsValidBouquet_2
  rw [EvL_eq B_impl_IsValidBouquet_2.eq_1]
  by_cases q1 : x2 < x1
  · rw [if_pos q1] at h
    obtain ⟨q2, h⟩ := h
    obtain ⟨e1, q3, h⟩ := h
    have gq3 := ltOfGet q3
    have kq3 := getOf q3
    obtain ⟨v2_0, q4, h⟩ := h
    unfold X_impl_differentIndices at q4
    try simp at q4
    by_cases q5 : v2_0 = true
    · rw [if_pos q5] at h
      refine Eq.trans ?_ h
      clear h
      simp +decide [*, L_impl_IsValidBouquet_2]
    · rw [if_neg q5] at h
      refine Eq.trans ?_ h
      clear h
      simp +decide [*]
  · rw [if_neg q1] at h
    by_cases q6 : 0 < (b.Budgets.length : Int)
    · rw [if_pos q6] at h
      have zq6 := eq_true q6; try simp only [Int.natCast_pos, Int.ofNat_lt, Int.ofNat_le, Int.natCast_inj, Int.natCast_nonneg, Int.toNat_natCast, Int.natCast_eq_zero, List.length_eq_zero_iff] at zq6
      refine Eq.trans ?_ h
      clear h
      simp +decide [*, R_impl_IsValidBouquet_0]
    · rw [if_neg q6] at h
      have zq6 := eq_false q6; try simp only [Int.natCast_pos, Int.ofNat_lt, Int.ofNat_le, Int.natCast_inj, Int.natCast_nonneg, Int.toNat_natCast, Int.natCast_eq_zero, List.length_eq_zero_iff] at zq6
      refine Eq.trans ?_ h
      clear h
      simp +decide [*, R_impl_IsValidBouquet_0]
theorem S_impl_IsValidBouquet (a : Query) (a1 : Bouquet) (r : AV × List Blk) (h : (∃ (v1_0 : Bool), X_impl_IsValidQuery a = some (Bo v1_0, []) ∧ (if v1_0 = true then (∃ (v2_0 : Bool), X_impl_within a1.Version 1 999 = some (Bo v2_0, []) ∧ (if v2_0 = true then (∃ (v3_0 : Bool), X_impl_within a1.Ratio 2 8 = some (Bo v3_0, []) ∧ (if v3_0 = true then (∃ (v4_0 : Bool), X_impl_within a1.Slack 0 100 = some (Bo v4_0, []) ∧ (if v4_0 = true then (∃ (v5_0 : Int), X_impl_BoxVolume a1.Box = some (I v5_0, []) ∧ (∃ (v6_0 : Bool), X_impl_within v5_0 1 400 = some (Bo v6_0, []) ∧ (if v6_0 = true then (∃ (v7_0 : Int), X_impl_FullMask a = some (I v7_0, []) ∧ (if (a1.Box.Low.length : Int) = (w (v7_0 + 1)) then (L_impl_IsValidBouquet_0 a a1 a1.Plans (a1.Plans.length : Int) 0 = some r) else (some (Bo false, []) = some r))) else (some (Bo false, []) = some r)))) else (some (Bo false, []) = some r))) else (some (Bo false, []) = some r))) else (some (Bo false, []) = some r))) else (some (Bo false, []) = some r)))) : X_impl_IsValidBouquet a a1 = some r := by
  unfold X_impl_IsValidBouquet
  refine run t_impl_IsValidBouquet rfl ?_
  obtain ⟨v1_0, q1, h⟩ := h
  unfold X_impl_IsValidQuery at q1
  try simp at q1
  by_cases q2 : v1_0 = true
  · rw [if_pos q2] at h
    obtain ⟨v2_0, q3, h⟩ := h
    unfold X_impl_within at q3
    try simp at q3
    by_cases q4 : v2_0 = true
    · rw [if_pos q4] at h
      obtain ⟨v3_0, q5, h⟩ := h
      unfold X_impl_within at q5
      try simp at q5
      by_cases q6 : v3_0 = true
      · rw [if_pos q6] at h
        obtain ⟨v4_0, q7, h⟩ := h
        unfold X_impl_within at q7
        try simp at q7
        by_cases q8 : v4_0 = true
        · rw [if_pos q8] at h
          obtain ⟨v5_0, q9, h⟩ := h
          unfold X_impl_BoxVolume at q9
          try simp at q9
          obtain ⟨v6_0, q10, h⟩ := h
          unfold X_impl_within at q10
          try simp at q10
          by_cases q11 : v6_0 = true
          · rw [if_pos q11] at h
            obtain ⟨v7_0, q12, h⟩ := h
            unfold X_impl_FullMask at q12
            try simp at q12
            by_cases q13 : (a1.Box.Low.length : Int) = (w (v7_0 + 1))
            · rw [if_pos q13] at h
              have zq13 := eq_true q13; try simp only [Int.natCast_pos, Int.ofNat_lt, Int.ofNat_le, Int.natCast_inj, Int.natCast_nonneg, Int.toNat_natCast, Int.natCast_eq_zero, List.length_eq_zero_iff] at zq13
              replace q13 := eq_true q13
              refine Eq.trans ?_ h
              clear h
              simp +decide [*, M_impl_IsValidBouquet, L_impl_IsValidBouquet_0]
            · rw [if_neg q13] at h
              have zq13 := eq_false q13; try simp only [Int.natCast_pos, Int.ofNat_lt, Int.ofNat_le, Int.natCast_inj, Int.natCast_nonneg, Int.toNat_natCast, Int.natCast_eq_zero, List.length_eq_zero_iff] at zq13
              replace q13 := eq_false q13
              refine Eq.trans ?_ h
              clear h
              simp +decide [*, M_impl_IsValidBouquet]
          · rw [if_neg q11] at h
            refine Eq.trans ?_ h
            clear h
            simp +decide [*, M_impl_IsValidBouquet]
        · rw [if_neg q8] at h
          refine Eq.trans ?_ h
          clear h
          simp +decide [*, M_impl_IsValidBouquet]
      · rw [if_neg q6] at h
        refine Eq.trans ?_ h
        clear h
        simp +decide [*, M_impl_IsValidBouquet]
    · rw [if_neg q4] at h
      refine Eq.trans ?_ h
      clear h
      simp +decide [*, M_impl_IsValidBouquet]
  · rw [if_neg q2] at h
    refine Eq.trans ?_ h
    clear h
    simp +decide [*, M_impl_IsValidBouquet]

theorem t_impl_SlackBudget : tbl 127 = some M_impl_SlackBudget := tblOf_eq Try.func127 (by kernel_rfl) (by kernel_rfl)
theorem S_impl_SlackBudget (a : Int) (a1 : Int) (r : AV × List Blk) (h : (∃ (v1_0 : Bool), X_impl_within a 0 1000000000000 = some (Bo v1_0, []) ∧ (if v1_0 = true then (∃ (v2_0 : Bool), X_impl_within a1 0 100 = some (Bo v2_0, []) ∧ (if v2_0 = true then (some (I (w (Int.tdiv (w (a * (w (100 + a1)))) 100)), []) = some r) else (some (I (-1), []) = some r))) else (some (I (-1), []) = some r)))) : X_impl_SlackBudget a a1 = some r := by
  unfold X_impl_SlackBudget
  refine run t_impl_SlackBudget rfl ?_
  obtain ⟨v1_0, q1, h⟩ := h
  unfold X_impl_within at q1
  try simp at q1
  by_cases q2 : v1_0 = true
  · rw [if_pos q2] at h
    obtain ⟨v2_0, q3, h⟩ := h
    unfold X_impl_within at q3
    try simp at q3
    by_cases q4 : v2_0 = true
    · rw [if_pos q4] at h
      refine Eq.trans ?_ h
      clear h
      simp +decide [*, M_impl_SlackBudget]
    · rw [if_neg q4] at h
      refine Eq.trans ?_ h
      clear h
      simp +decide [*, M_impl_SlackBudget]
  · rw [if_neg q2] at h
    refine Eq.trans ?_ h
    clear h
    simp +decide [*, M_impl_SlackBudget]

theorem t_impl_orderedNote : tbl 84 = some M_impl_orderedNote := tblOf_eq Try.func84 (by kernel_rfl) (by kernel_rfl)
theorem S_impl_orderedNote (a : Bouquet) (a1 : List RunNote) (a2 : Int) (r : AV × List Blk) (h : (0 ≤ a2 ∧ (∃ (e1 : RunNote), a1[a2.toNat]? = some e1 ∧ (∃ (v2_0 : Bool), X_impl_within e1.Contour 0 (w ((a.Contours.length : Int) - 1)) = some (Bo v2_0, []) ∧ (if v2_0 = true then (0 ≤ e1.Contour ∧ (∃ (e3 : Int), a.Budgets[e1.Contour.toNat]? = some e3 ∧ (∃ (v4_0 : Int), X_impl_SlackBudget e3 a.Slack = some (I v4_0, []) ∧ (if e1.Budget = v4_0 then (if e1.Done = (decide (a2 = (w ((a1.length : Int) - 1)))) then (∃ (e5 : List Int), a.Contours[e1.Contour.toNat]? = some e5 ∧ (∃ (v6_0 : Int), X_slices_Index___int_int_ e5 e1.Plan = some (I v6_0, []) ∧ (if v6_0 < 0 then (some (Bo false, []) = some r) else (if a2 = 0 then (some (Bo true, []) = some r) else (0 ≤ (w (a2 - 1)) ∧ (∃ (e7 : RunNote), a1[(w (a2 - 1)).toNat]? = some e7 ∧ (if e7.Contour < e1.Contour then (some (Bo true, []) = some r) else (if e7.Contour = e1.Contour then (∃ (v8_0 : Int), X_slices_Index___int_int_ e5 e7.Plan = some (I v8_0, []) ∧ (some (Bo (decide (v8_0 < v6_0)), []) = some r)) else (some (Bo false, []) = some r))))))))) else (some (Bo false, []) = some r)) else (some (Bo false, []) = some r))))) else (some (Bo false, []) = some r)))))) : X_impl_orderedNote a a1 a2 = some r := by
  unfold X_impl_orderedNote
  refine run t_impl_orderedNote rfl ?_
  obtain ⟨q1, h⟩ := h
  obtain ⟨e1, q2, h⟩ := h
  have gq2 := ltOfGet q2
  have kq2 := getOf q2
  obtain ⟨v2_0, q3, h⟩ := h
  unfold X_impl_within at q3
  try simp at q3
  by_cases q4 : v2_0 = true
  · rw [if_pos q4] at h
    obtain ⟨q5, h⟩ := h
    obtain ⟨e3, q6, h⟩ := h
    have gq6 := ltOfGet q6
    have kq6 := getOf q6
    obtain ⟨v4_0, q7, h⟩ := h
    unfold X_impl_SlackBudget at q7
    try simp at q7
    by_cases q8 : e1.Budget = v4_0
    · rw [if_pos q8] at h
      replace q8 := eq_true q8
      by_cases q9 : e1.Done = (decide (a2 = (w ((a1.length : Int) - 1))))
      · rw [if_pos q9] at h
        have zq9 := eq_true q9; try simp only [Int.natCast_pos, Int.ofNat_lt, Int.ofNat_le, Int.natCast_inj, Int.natCast_nonneg, Int.toNat_natCast, Int.natCast_eq_zero, List.length_eq_zero_iff] at zq9
        replace q9 := eq_true q9
        obtain ⟨e5, q10, h⟩ := h
        have gq10 := ltOfGet q10
        have kq10 := getOf q10
        obtain ⟨v6_0, q11, h⟩ := h
        unfold X_slices_Index___int_int_ at q11
        try simp at q11
        by_cases q12 : v6_0 < 0
        · rw [if_pos q12] at h
          refine Eq.trans ?_ h
          clear h
          simp +decide [*, M_impl_orderedNote]
        · rw [if_neg q12] at h
          by_cases q13 : a2 = 0
          · rw [if_pos q13] at h
            replace q13 := eq_true q13
            refine Eq.trans ?_ h
            clear h
            simp +decide [*, M_impl_orderedNote]
          · rw [if_neg q13] at h
            replace q13 := eq_false q13
            obtain ⟨q14, h⟩ := h
            obtain ⟨e7, q15, h⟩ := h
            have gq15 := ltOfGet q15
            have kq15 := getOf q15
            by_cases q16 : e7.Contour < e1.Contour
            · rw [if_pos q16] at h
              refine Eq.trans ?_ h
              clear h
              simp +decide [*, M_impl_orderedNote]
            · rw [if_neg q16] at h
              by_cases q17 : e7.Contour = e1.Contour
              · rw [if_pos q17] at h
                replace q17 := eq_true q17
                obtain ⟨v8_0, q18, h⟩ := h
                unfold X_slices_Index___int_int_ at q18
                try simp at q18
                refine Eq.trans ?_ h
                clear h
                simp +decide [*, M_impl_orderedNote]
              · rw [if_neg q17] at h
                replace q17 := eq_false q17
                refine Eq.trans ?_ h
                clear h
                simp +decide [*, M_impl_orderedNote]
      · rw [if_neg q9] at h
        have zq9 := eq_false q9; try simp only [Int.natCast_pos, Int.ofNat_lt, Int.ofNat_le, Int.natCast_inj, Int.natCast_nonneg, Int.toNat_natCast, Int.natCast_eq_zero, List.length_eq_zero_iff] at zq9
        replace q9 := eq_false q9
        refine Eq.trans ?_ h
        clear h
        simp +decide [*, M_impl_orderedNote]
    · rw [if_neg q8] at h
      replace q8 := eq_false q8
      refine Eq.trans ?_ h
      clear h
      simp +decide [*, M_impl_orderedNote]
  · rw [if_neg q4] at h
    refine Eq.trans ?_ h
    clear h
    simp +decide [*, M_impl_orderedNote]

theorem t_impl_AreOrderedNotes : tbl 34 = some M_impl_AreOrderedNotes := tblOf_eq Try.func34 (by kernel_rfl) (by kernel_rfl)
theorem SL_impl_AreOrderedNotes_0 (b : Bouquet) (notes : List RunNote) (x : Int) (x1 : Int) (r : AV × List Blk) (h : (if x1 < x then (∃ (v1_0 : Bool), X_impl_orderedNote b notes x1 = some (Bo v1_0, []) ∧ (if v1_0 = true then (L_impl_AreOrderedNotes_0 b notes x (w (x1 + 1)) = some r) else (some (Bo false, []) = some r))) else (some (Bo true, []) = some r))) : L_impl_AreOrderedNotes_0 b notes x x1 = some r := by
  unfold L_impl_AreOrderedNotes_0
  rw [EvL_eq B_impl_AreOrderedNotes_0.eq_1]
  by_cases q1 : x1 < x
  · rw [if_pos q1] at h
    obtain ⟨v1_0, q2, h⟩ := h
    unfold X_impl_orderedNote at q2
    try simp at q2
    by_cases q3 : v1_0 = true
    · rw [if_pos q3] at h
      refine Eq.trans ?_ h
      clear h
      simp +decide [*, L_impl_AreOrderedNotes_0]
    · rw [if_neg q3] at h
      refine Eq.trans ?_ h
      clear h
      simp +decide [*]
  · rw [if_neg q1] at h
    refine Eq.trans ?_ h
    clear h
    simp +decide [*, R_impl_AreOrderedNotes_0]
theorem S_impl_AreOrderedNotes (a : Query) (a1 : Bouquet) (a2 : List RunNote) (r : AV × List Blk) (h : (∃ (v1_0 : Bool), X_impl_IsValidBouquet a a1 = some (Bo v1_0, []) ∧ (if v1_0 = true then (if (a2.length : Int) = 0 then (some (Bo false, []) = some r) else (L_impl_AreOrderedNotes_0 a1 a2 (a2.length : Int) 0 = some r)) else (some (Bo false, []) = some r)))) : X_impl_AreOrderedNotes a a1 a2 = some r := by
  unfold X_impl_AreOrderedNotes
  refine run t_impl_AreOrderedNotes rfl ?_
  obtain ⟨v1_0, q1, h⟩ := h
  unfold X_impl_IsValidBouquet at q1
  try simp at q1
  by_cases q2 : v1_0 = true
  · rw [if_pos q2] at h
    by_cases q3 : (a2.length : Int) = 0
    · rw [if_pos q3] at h
      have zq3 := eq_true q3; try simp only [Int.natCast_pos, Int.ofNat_lt, Int.ofNat_le, Int.natCast_inj, Int.natCast_nonneg, Int.toNat_natCast, Int.natCast_eq_zero, List.length_eq_zero_iff] at zq3
      replace q3 := eq_true q3
      refine Eq.trans ?_ h
      clear h
      simp +decide [*, M_impl_AreOrderedNotes]
    · rw [if_neg q3] at h
      have zq3 := eq_false q3; try simp only [Int.natCast_pos, Int.ofNat_lt, Int.ofNat_le, Int.natCast_inj, Int.natCast_nonneg, Int.toNat_natCast, Int.natCast_eq_zero, List.length_eq_zero_iff] at zq3
      replace q3 := eq_false q3
      refine Eq.trans ?_ h
      clear h
      simp +decide [*, M_impl_AreOrderedNotes, L_impl_AreOrderedNotes_0]
  · rw [if_neg q2] at h
    refine Eq.trans ?_ h
    clear h
    simp +decide [*, M_impl_AreOrderedNotes]

theorem t_spec_l1In : tbl 70 = some M_spec_l1In := tblOf_eq Try.func70 (by kernel_rfl) (by kernel_rfl)
theorem S_spec_l1In (a : Int) (a1 : Int) (a2 : Int) (r : AV × List Blk) (h : (if a1 ≤ a then (some (Bo (decide (a ≤ a2)), []) = some r) else (some (Bo false, []) = some r))) : X_spec_l1In a a1 a2 = some r := by
  unfold X_spec_l1In
  refine run t_spec_l1In rfl ?_
  by_cases q1 : a1 ≤ a
  · rw [if_pos q1] at h
    refine Eq.trans ?_ h
    clear h
    simp +decide [*, M_spec_l1In]
  · rw [if_neg q1] at h
    refine Eq.trans ?_ h
    clear h
    simp +decide [*, M_spec_l1In]

theorem t_spec_l4Name : tbl 145 = some M_spec_l4Name := tblOf_eq Try.func145 (by kernel_rfl) (by kernel_rfl)
theorem S_spec_l4Name (a : ByteArray) (r : AV × List Blk) (h : (if (a.size : Int) = 1 then (∃ (b1 : UInt8), a[0]? = some b1 ∧ (if 97 ≤ (b1.toNat : Int) then (some (Bo (decide ((b1.toNat : Int) ≤ 122)), []) = some r) else (some (Bo false, []) = some r))) else (some (Bo false, []) = some r))) : X_spec_l4Name a = some r := by
  unfold X_spec_l4Name
  refine run t_spec_l4Name rfl ?_
  by_cases q1 : (a.size : Int) = 1
  · rw [if_pos q1] at h
    have zq1 := eq_true q1; try simp only [Int.natCast_pos, Int.ofNat_lt, Int.ofNat_le, Int.natCast_inj, Int.natCast_nonneg, Int.toNat_natCast, Int.natCast_eq_zero, List.length_eq_zero_iff] at zq1
    replace q1 := eq_true q1
    obtain ⟨b1, q2, h⟩ := h
    by_cases q3 : 97 ≤ (b1.toNat : Int)
    · rw [if_pos q3] at h
      have zq3 := eq_true q3; try simp only [Int.natCast_pos, Int.ofNat_lt, Int.ofNat_le, Int.natCast_inj, Int.natCast_nonneg, Int.toNat_natCast, Int.natCast_eq_zero, List.length_eq_zero_iff] at zq3
      refine Eq.trans ?_ h
      clear h
      simp +decide [*, M_spec_l4Name]
    · rw [if_neg q3] at h
      have zq3 := eq_false q3; try simp only [Int.natCast_pos, Int.ofNat_lt, Int.ofNat_le, Int.natCast_inj, Int.natCast_nonneg, Int.toNat_natCast, Int.natCast_eq_zero, List.length_eq_zero_iff] at zq3
      refine Eq.trans ?_ h
      clear h
      simp +decide [*, M_spec_l4Name]
  · rw [if_neg q1] at h
    have zq1 := eq_false q1; try simp only [Int.natCast_pos, Int.ofNat_lt, Int.ofNat_le, Int.natCast_inj, Int.natCast_nonneg, Int.toNat_natCast, Int.natCast_eq_zero, List.length_eq_zero_iff] at zq1
    replace q1 := eq_false q1
    refine Eq.trans ?_ h
    clear h
    simp +decide [*, M_spec_l4Name]

theorem t_spec_l7Has : tbl 124 = some M_spec_l7Has := tblOf_eq Try.func124 (by kernel_rfl) (by kernel_rfl)
theorem SL_spec_l7Has_0 (l : List Int) (x : Int) (i : Int) (r : AV × List Blk) (h : (if i < (l.length : Int) then (0 ≤ i ∧ (∃ (e1 : Int), l[i.toNat]? = some e1 ∧ (if e1 = x then (some (Bo true, []) = some r) else (L_spec_l7Has_0 l x (w (i + 1)) = some r)))) else (some (Bo false, []) = some r))) : L_spec_l7Has_0 l x i = some r := by
  unfold L_spec_l7Has_0
  rw [EvL_eq B_spec_l7Has_0.eq_1]
  by_cases q1 : i < (l.length : Int)
  · rw [if_pos q1] at h
    have zq1 := eq_true q1; try simp only [Int.natCast_pos, Int.ofNat_lt, Int.ofNat_le, Int.natCast_inj, Int.natCast_nonneg, Int.toNat_natCast, Int.natCast_eq_zero, List.length_eq_zero_iff] at zq1
    obtain ⟨q2, h⟩ := h
    obtain ⟨e1, q3, h⟩ := h
    have gq3 := ltOfGet q3
    have kq3 := getOf q3
    by_cases q4 : e1 = x
    · rw [if_pos q4] at h
      replace q4 := eq_true q4
      refine Eq.trans ?_ h
      clear h
      simp +decide [*]
    · rw [if_neg q4] at h
      replace q4 := eq_false q4
      refine Eq.trans ?_ h
      clear h
      simp +decide [*, L_spec_l7Has_0]
  · rw [if_neg q1] at h
    have zq1 := eq_false q1; try simp only [Int.natCast_pos, Int.ofNat_lt, Int.ofNat_le, Int.natCast_inj, Int.natCast_nonneg, Int.toNat_natCast, Int.natCast_eq_zero, List.length_eq_zero_iff] at zq1
    refine Eq.trans ?_ h
    clear h
    simp +decide [*, R_spec_l7Has_0]
theorem S_spec_l7Has (a : List Int) (a1 : Int) (r : AV × List Blk) (h : (L_spec_l7Has_0 a a1 0 = some r)) : X_spec_l7Has a a1 = some r := by
  unfold X_spec_l7Has
  refine run t_spec_l7Has rfl ?_
  refine Eq.trans ?_ h
  clear h
  simp +decide [*, M_spec_l7Has, L_spec_l7Has_0]

theorem t_spec_IsValidQuery : tbl 105 = some M_spec_IsValidQuery := tblOf_eq Try.func105 (by kernel_rfl) (by kernel_rfl)
theorem SL_spec_IsValidQuery_1 (q : Query) (seen : Int) (i : Int) (r : AV × List Blk) (h : (if i < (q.Atoms.length : Int) then (0 ≤ i ∧ (∃ (e1 : Atom), q.Atoms[i.toNat]? = some e1 ∧ (∃ (v2_0 : Bool), X_spec_l4Name e1.Name = some (Bo v2_0, []) ∧ (if v2_0 = true then (∃ (v3_0 : Bool), X_spec_l1In (e1.Vars.length : Int) 1 3 = some (Bo v3_0, []) ∧ (if v3_0 = true then (L_spec_IsValidQuery_0 q e1 seen i 0 = some r) else (some (Bo false, []) = some r))) else (some (Bo false, []) = some r))))) else (¬ q.VariableCount < 0 ∧ (some (Bo (decide (seen = (w ((shlI 1 q.VariableCount) - 1)))), []) = some r)))) : L_spec_IsValidQuery_1 q seen i = some r := by
  unfold L_spec_IsValidQuery_1
  rw [EvL_eq B_spec_IsValidQuery_1.eq_1]
  by_cases q1 : i < (q.Atoms.length : Int)
  · rw [if_pos q1] at h
    have zq1 := eq_true q1; try simp only [Int.natCast_pos, Int.ofNat_lt, Int.ofNat_le, Int.natCast_inj, Int.natCast_nonneg, Int.toNat_natCast, Int.natCast_eq_zero, List.length_eq_zero_iff] at zq1
    obtain ⟨q2, h⟩ := h
    obtain ⟨e1, q3, h⟩ := h
    have gq3 := ltOfGet q3
    have kq3 := getOf q3
    obtain ⟨v2_0, q4, h⟩ := h
    unfold X_spec_l4Name at q4
    try simp at q4
    by_cases q5 : v2_0 = true
    · rw [if_pos q5] at h
      obtain ⟨v3_0, q6, h⟩ := h
      unfold X_spec_l1In at q6
      try simp at q6
      by_cases q7 : v3_0 = true
      · rw [if_pos q7] at h
        refine Eq.trans ?_ h
        clear h
        simp +decide [*, L_spec_IsValidQuery_0]
      · rw [if_neg q7] at h
        refine Eq.trans ?_ h
        clear h
        simp +decide [*]
    · rw [if_neg q5] at h
      refine Eq.trans ?_ h
      clear h
      simp +decide [*]
  · rw [if_neg q1] at h
    have zq1 := eq_false q1; try simp only [Int.natCast_pos, Int.ofNat_lt, Int.ofNat_le, Int.natCast_inj, Int.natCast_nonneg, Int.toNat_natCast, Int.natCast_eq_zero, List.length_eq_zero_iff] at zq1
    obtain ⟨q8, h⟩ := h
    refine Eq.trans ?_ h
    clear h
    simp +decide [*, R_spec_IsValidQuery_1]
theorem SL_spec_IsValidQuery_0 (q : Query) (a : Atom) (seen : Int) (i : Int) (k : Int) (r : AV × List Blk) (h : (if k < (a.Vars.length : Int) then (0 ≤ k ∧ (∃ (e1 : Int), a.Vars[k.toNat]? = some e1 ∧ (∃ (v2_0 : Bool), X_spec_l1In e1 0 (w (q.VariableCount - 1)) = some (Bo v2_0, []) ∧ (if v2_0 = true then (k.toNat ≤ a.Vars.length ∧ (∃ (v3_0 : Bool), X_spec_l7Has (a.Vars.take k.toNat) e1 = some (Bo v3_0, []) ∧ (if v3_0 = true then (some (Bo false, []) = some r) else (¬ e1 < 0 ∧ (L_spec_IsValidQuery_0 q a (orI seen (shlI 1 e1)) i (w (k + 1)) = some r))))) else (some (Bo false, []) = some r))))) else (L_spec_IsValidQuery_1 q seen (w (i + 1)) = some r))) : L_spec_IsValidQuery_0 q a seen i k = some r := by
  unfold L_spec_IsValidQuery_0
  rw [EvL_eq B_spec_IsValidQuery_0.eq_1]
  by_cases q1 : k < (a.Vars.length : Int)
  · rw [if_pos q1] at h
    have zq1 := eq_true q1; try simp only [Int.natCast_pos, Int.ofNat_lt, Int.ofNat_le, Int.natCast_inj, Int.natCast_nonneg, Int.toNat_natCast, Int.natCast_eq_zero, List.length_eq_zero_iff] at zq1
    obtain ⟨q2, h⟩ := h
    obtain ⟨e1, q3, h⟩ := h
    have gq3 := ltOfGet q3
    have kq3 := getOf q3
    obtain ⟨v2_0, q4, h⟩ := h
    unfold X_spec_l1In at q4
    try simp at q4
    by_cases q5 : v2_0 = true
    · rw [if_pos q5] at h
      obtain ⟨q6, h⟩ := h
      have zq6 := q6; try simp at zq6
      obtain ⟨v3_0, q7, h⟩ := h
      unfold X_spec_l7Has at q7
      try simp at q7
      by_cases q8 : v3_0 = true
      · rw [if_pos q8] at h
        refine Eq.trans ?_ h
        clear h
        simp +decide [*]
      · rw [if_neg q8] at h
        obtain ⟨q9, h⟩ := h
        refine Eq.trans ?_ h
        clear h
        simp +decide [*, L_spec_IsValidQuery_0]
    · rw [if_neg q5] at h
      refine Eq.trans ?_ h
      clear h
      simp +decide [*]
  · rw [if_neg q1] at h
    have zq1 := eq_false q1; try simp only [Int.natCast_pos, Int.ofNat_lt, Int.ofNat_le, Int.natCast_inj, Int.natCast_nonneg, Int.toNat_natCast, Int.natCast_eq_zero, List.length_eq_zero_iff] at zq1
    refine Eq.trans ?_ h
    clear h
    simp +decide [*, L_spec_IsValidQuery_1, R_spec_IsValidQuery_0]
theorem S_spec_IsValidQuery (a : Query) (r : AV × List Blk) (h : (∃ (v1_0 : Bool), X_spec_l1In a.VariableCount 1 4 = some (Bo v1_0, []) ∧ (if v1_0 = true then (∃ (v2_0 : Bool), X_spec_l1In (a.Atoms.length : Int) 1 4 = some (Bo v2_0, []) ∧ (if v2_0 = true then (L_spec_IsValidQuery_1 a 0 0 = some r) else (some (Bo false, []) = some r))) else (some (Bo false, []) = some r)))) : X_spec_IsValidQuery a = some r := by
  unfold X_spec_IsValidQuery
  refine run t_spec_IsValidQuery rfl ?_
  obtain ⟨v1_0, q1, h⟩ := h
  unfold X_spec_l1In at q1
  try simp at q1
  by_cases q2 : v1_0 = true
  · rw [if_pos q2] at h
    obtain ⟨v2_0, q3, h⟩ := h
    unfold X_spec_l1In at q3
    try simp at q3
    by_cases q4 : v2_0 = true
    · rw [if_pos q4] at h
      refine Eq.trans ?_ h
      clear h
      simp +decide [*, M_spec_IsValidQuery, L_spec_IsValidQuery_1]
    · rw [if_neg q4] at h
      refine Eq.trans ?_ h
      clear h
      simp +decide [*, M_spec_IsValidQuery]
  · rw [if_neg q2] at h
    refine Eq.trans ?_ h
    clear h
    simp +decide [*, M_spec_IsValidQuery]

theorem t_spec_FullMask : tbl 54 = some M_spec_FullMask := tblOf_eq Try.func54 (by kernel_rfl) (by kernel_rfl)
theorem S_spec_FullMask (a : Query) (r : AV × List Blk) (h : (∃ (v1_0 : Bool), X_spec_IsValidQuery a = some (Bo v1_0, []) ∧ (if v1_0 = true then (¬ (a.Atoms.length : Int) < 0 ∧ (some (I (w ((shlI 1 (a.Atoms.length : Int)) - 1)), []) = some r)) else (some (I 0, []) = some r)))) : X_spec_FullMask a = some r := by
  unfold X_spec_FullMask
  refine run t_spec_FullMask rfl ?_
  obtain ⟨v1_0, q1, h⟩ := h
  unfold X_spec_IsValidQuery at q1
  try simp at q1
  by_cases q2 : v1_0 = true
  · rw [if_pos q2] at h
    obtain ⟨q3, h⟩ := h
    have zq3 := q3; try simp at zq3
    refine Eq.trans ?_ h
    clear h
    simp +decide [*, M_spec_FullMask]
  · rw [if_neg q2] at h
    refine Eq.trans ?_ h
    clear h
    simp +decide [*, M_spec_FullMask]

theorem t_spec_IsLocation : tbl 107 = some M_spec_IsLocation := tblOf_eq Try.func107 (by kernel_rfl) (by kernel_rfl)
theorem SL_spec_IsLocation_0 (l : List Int) (i : Int) (r : AV × List Blk) (h : (if i < (l.length : Int) then (0 ≤ i ∧ (∃ (e1 : Int), l[i.toNat]? = some e1 ∧ (∃ (v2_0 : Bool), X_spec_l1In e1 0 7 = some (Bo v2_0, []) ∧ (if v2_0 = true then (L_spec_IsLocation_0 l (w (i + 1)) = some r) else (some (Bo false, []) = some r))))) else (some (Bo (decide ((l.length : Int) ≤ 16)), []) = some r))) : L_spec_IsLocation_0 l i = some r := by
  unfold L_spec_IsLocation_0
  rw [EvL_eq B_spec_IsLocation_0.eq_1]
  by_cases q1 : i < (l.length : Int)
  · rw [if_pos q1] at h
    have zq1 := eq_true q1; try simp only [Int.natCast_pos, Int.ofNat_lt, Int.ofNat_le, Int.natCast_inj, Int.natCast_nonneg, Int.toNat_natCast, Int.natCast_eq_zero, List.length_eq_zero_iff] at zq1
    obtain ⟨q2, h⟩ := h
    obtain ⟨e1, q3, h⟩ := h
    have gq3 := ltOfGet q3
    have kq3 := getOf q3
    obtain ⟨v2_0, q4, h⟩ := h
    unfold X_spec_l1In at q4
    try simp at q4
    by_cases q5 : v2_0 = true
    · rw [if_pos q5] at h
      refine Eq.trans ?_ h
      clear h
      simp +decide [*, L_spec_IsLocation_0]
    · rw [if_neg q5] at h
      refine Eq.trans ?_ h
      clear h
      simp +decide [*]
  · rw [if_neg q1] at h
    have zq1 := eq_false q1; try simp only [Int.natCast_pos, Int.ofNat_lt, Int.ofNat_le, Int.natCast_inj, Int.natCast_nonneg, Int.toNat_natCast, Int.natCast_eq_zero, List.length_eq_zero_iff] at zq1
    refine Eq.trans ?_ h
    clear h
    simp +decide [*, R_spec_IsLocation_0]
theorem S_spec_IsLocation (a : List Int) (r : AV × List Blk) (h : (L_spec_IsLocation_0 a 0 = some r)) : X_spec_IsLocation a = some r := by
  unfold X_spec_IsLocation
  refine run t_spec_IsLocation rfl ?_
  refine Eq.trans ?_ h
  clear h
  simp +decide [*, M_spec_IsLocation, L_spec_IsLocation_0]

end Go.Proofs.Ytiniphmomjnocaa
