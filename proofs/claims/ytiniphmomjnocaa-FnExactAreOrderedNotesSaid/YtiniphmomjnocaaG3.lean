/-
  Code, blocks and their theorems, as printed by program.
-/
import Derived.Test.YtiniphmomjnocaaD1
namespace Go.Proofs.Ytiniphmomjnocaa
open Go.AM
set_option linter.unusedSimpArgs false
set_option linter.unusedVariables false
set_option maxRecDepth 100000
set_option maxHeartbeats 4000000

theorem t_spec_DominatesLocation : tbl 108 = some M_spec_DominatesLocation := tblOf_eq Try.func108 (by kernel_rfl) (by kernel_rfl)
theorem SL_spec_DominatesLocation_0 (a : List Int) (b : List Int) (i : Int) (r : AV × List Blk) (h : (if i < (a.length : Int) then (0 ≤ i ∧ (∃ (e1 : Int), a[i.toNat]? = some e1 ∧ (∃ (e2 : Int), b[i.toNat]? = some e2 ∧ (if e1 < e2 then (some (Bo false, []) = some r) else (L_spec_DominatesLocation_0 a b (w (i + 1)) = some r))))) else (some (Bo true, []) = some r))) : L_spec_DominatesLocation_0 a b i = some r := by
  unfold L_spec_DominatesLocation_0
  rw [EvL_eq B_spec_DominatesLocation_0.eq_1]
  by_cases q1 : i < (a.length : Int)
  · rw [if_pos q1] at h
    have zq1 := eq_true q1; try simp only [Int.natCast_pos, Int.ofNat_lt, Int.ofNat_le, Int.natCast_inj, Int.natCast_nonneg, Int.toNat_natCast, Int.natCast_eq_zero, List.length_eq_zero_iff] at zq1
    obtain ⟨q2, h⟩ := h
    obtain ⟨e1, q3, h⟩ := h
    have gq3 := ltOfGet q3
    have kq3 := getOf q3
    obtain ⟨e2, q4, h⟩ := h
    have gq4 := ltOfGet q4
    have kq4 := getOf q4
    by_cases q5 : e1 < e2
    · rw [if_pos q5] at h
      refine Eq.trans ?_ h
      clear h
      simp +decide [*]
    · rw [if_neg q5] at h
      refine Eq.trans ?_ h
      clear h
      simp +decide [*, L_spec_DominatesLocation_0]
  · rw [if_neg q1] at h
    have zq1 := eq_false q1; try simp only [Int.natCast_pos, Int.ofNat_lt, Int.ofNat_le, Int.natCast_inj, Int.natCast_nonneg, Int.toNat_natCast, Int.natCast_eq_zero, List.length_eq_zero_iff] at zq1
    refine Eq.trans ?_ h
    clear h
    simp +decide [*, R_spec_DominatesLocation_0]
theorem S_spec_DominatesLocation (a : List Int) (a1 : List Int) (r : AV × List Blk) (h : (if (a.length : Int) = (a1.length : Int) then (L_spec_DominatesLocation_0 a a1 0 = some r) else (some (Bo false, []) = some r))) : X_spec_DominatesLocation a a1 = some r := by
  unfold X_spec_DominatesLocation
  refine run t_spec_DominatesLocation rfl ?_
  by_cases q1 : (a.length : Int) = (a1.length : Int)
  · rw [if_pos q1] at h
    have zq1 := eq_true q1; try simp only [Int.natCast_pos, Int.ofNat_lt, Int.ofNat_le, Int.natCast_inj, Int.natCast_nonneg, Int.toNat_natCast, Int.natCast_eq_zero, List.length_eq_zero_iff] at zq1
    replace q1 := eq_true q1
    refine Eq.trans ?_ h
    clear h
    simp +decide [*, M_spec_DominatesLocation, L_spec_DominatesLocation_0]
  · rw [if_neg q1] at h
    have zq1 := eq_false q1; try simp only [Int.natCast_pos, Int.ofNat_lt, Int.ofNat_le, Int.natCast_inj, Int.natCast_nonneg, Int.toNat_natCast, Int.natCast_eq_zero, List.length_eq_zero_iff] at zq1
    replace q1 := eq_false q1
    refine Eq.trans ?_ h
    clear h
    simp +decide [*, M_spec_DominatesLocation]

theorem t_spec_IsValidBox : tbl 53 = some M_spec_IsValidBox := tblOf_eq Try.func53 (by kernel_rfl) (by kernel_rfl)
theorem S_spec_IsValidBox (a : Box) (r : AV × List Blk) (h : (if 0 < (a.Low.length : Int) then (∃ (v1_0 : Bool), X_spec_IsLocation a.Low = some (Bo v1_0, []) ∧ (if v1_0 = true then (∃ (v2_0 : Bool), X_spec_IsLocation a.High = some (Bo v2_0, []) ∧ (if v2_0 = true then (∃ (v3_0 : Bool), X_spec_DominatesLocation a.High a.Low = some (Bo v3_0, []) ∧ (some (Bo v3_0, []) = some r)) else (some (Bo false, []) = some r))) else (some (Bo false, []) = some r))) else (some (Bo false, []) = some r))) : X_spec_IsValidBox a = some r := by
  unfold X_spec_IsValidBox
  refine run t_spec_IsValidBox rfl ?_
  by_cases q1 : 0 < (a.Low.length : Int)
  · rw [if_pos q1] at h
    have zq1 := eq_true q1; try simp only [Int.natCast_pos, Int.ofNat_lt, Int.ofNat_le, Int.natCast_inj, Int.natCast_nonneg, Int.toNat_natCast, Int.natCast_eq_zero, List.length_eq_zero_iff] at zq1
    obtain ⟨v1_0, q2, h⟩ := h
    unfold X_spec_IsLocation at q2
    try simp at q2
    by_cases q3 : v1_0 = true
    · rw [if_pos q3] at h
      obtain ⟨v2_0, q4, h⟩ := h
      unfold X_spec_IsLocation at q4
      try simp at q4
      by_cases q5 : v2_0 = true
      · rw [if_pos q5] at h
        obtain ⟨v3_0, q6, h⟩ := h
        unfold X_spec_DominatesLocation at q6
        try simp at q6
        refine Eq.trans ?_ h
        clear h
        simp +decide [*, M_spec_IsValidBox]
      · rw [if_neg q5] at h
        refine Eq.trans ?_ h
        clear h
        simp +decide [*, M_spec_IsValidBox]
    · rw [if_neg q3] at h
      refine Eq.trans ?_ h
      clear h
      simp +decide [*, M_spec_IsValidBox]
  · rw [if_neg q1] at h
    have zq1 := eq_false q1; try simp only [Int.natCast_pos, Int.ofNat_lt, Int.ofNat_le, Int.natCast_inj, Int.natCast_nonneg, Int.toNat_natCast, Int.natCast_eq_zero, List.length_eq_zero_iff] at zq1
    refine Eq.trans ?_ h
    clear h
    simp +decide [*, M_spec_IsValidBox]

theorem t_spec_BoxVolume : tbl 123 = some M_spec_BoxVolume := tblOf_eq Try.func123 (by kernel_rfl) (by kernel_rfl)
theorem SL_spec_BoxVolume_0 (b : Box) (n : Int) (i : Int) (r : AV × List Blk) (h : (if i < (b.Low.length : Int) then (0 ≤ i ∧ (∃ (e1 : Int), b.High[i.toNat]? = some e1 ∧ (∃ (e2 : Int), b.Low[i.toNat]? = some e2 ∧ (L_spec_BoxVolume_0 b (if (w (n * (w ((w (e1 - e2)) + 1)))) < 401 then (w (n * (w ((w (e1 - e2)) + 1)))) else 401) (w (i + 1)) = some r)))) else (some (I n, []) = some r))) : L_spec_BoxVolume_0 b n i = some r := by
  unfold L_spec_BoxVolume_0
  rw [EvL_eq B_spec_BoxVolume_0.eq_1]
  by_cases q1 : i < (b.Low.length : Int)
  · rw [if_pos q1] at h
    have zq1 := eq_true q1; try simp only [Int.natCast_pos, Int.ofNat_lt, Int.ofNat_le, Int.natCast_inj, Int.natCast_nonneg, Int.toNat_natCast, Int.natCast_eq_zero, List.length_eq_zero_iff] at zq1
    obtain ⟨q2, h⟩ := h
    obtain ⟨e1, q3, h⟩ := h
    have gq3 := ltOfGet q3
    have kq3 := getOf q3
    obtain ⟨e2, q4, h⟩ := h
    have gq4 := ltOfGet q4
    have kq4 := getOf q4
    refine Eq.trans ?_ h
    clear h
    simp +decide [*, L_spec_BoxVolume_0]
  · rw [if_neg q1] at h
    have zq1 := eq_false q1; try simp only [Int.natCast_pos, Int.ofNat_lt, Int.ofNat_le, Int.natCast_inj, Int.natCast_nonneg, Int.toNat_natCast, Int.natCast_eq_zero, List.length_eq_zero_iff] at zq1
    refine Eq.trans ?_ h
    clear h
    simp +decide [*, R_spec_BoxVolume_0]
theorem S_spec_BoxVolume (a : Box) (r : AV × List Blk) (h : (∃ (v1_0 : Bool), X_spec_IsValidBox a = some (Bo v1_0, []) ∧ (if v1_0 = true then (L_spec_BoxVolume_0 a 1 0 = some r) else (some (I 0, []) = some r)))) : X_spec_BoxVolume a = some r := by
  unfold X_spec_BoxVolume
  refine run t_spec_BoxVolume rfl ?_
  obtain ⟨v1_0, q1, h⟩ := h
  unfold X_spec_IsValidBox at q1
  try simp at q1
  by_cases q2 : v1_0 = true
  · rw [if_pos q2] at h
    refine Eq.trans ?_ h
    clear h
    simp +decide [*, M_spec_BoxVolume, L_spec_BoxVolume_0]
  · rw [if_neg q2] at h
    refine Eq.trans ?_ h
    clear h
    simp +decide [*, M_spec_BoxVolume]

theorem t_spec_l7Bits : tbl 147 = some M_spec_l7Bits := tblOf_eq Try.func147 (by kernel_rfl) (by kernel_rfl)
theorem SL_spec_l7Bits_1 (q : Query) (mask : Int) (x : Int) (i : Int) (r : AV × List Blk) (h : (if i < (q.Atoms.length : Int) then (L_spec_l7Bits_0 q mask x i 0 = some r) else (some (I x, []) = some r))) : L_spec_l7Bits_1 q mask x i = some r := by
  unfold L_spec_l7Bits_1
  rw [EvL_eq B_spec_l7Bits_1.eq_1]
  by_cases q1 : i < (q.Atoms.length : Int)
  · rw [if_pos q1] at h
    have zq1 := eq_true q1; try simp only [Int.natCast_pos, Int.ofNat_lt, Int.ofNat_le, Int.natCast_inj, Int.natCast_nonneg, Int.toNat_natCast, Int.natCast_eq_zero, List.length_eq_zero_iff] at zq1
    refine Eq.trans ?_ h
    clear h
    simp +decide [*, L_spec_l7Bits_0]
  · rw [if_neg q1] at h
    have zq1 := eq_false q1; try simp only [Int.natCast_pos, Int.ofNat_lt, Int.ofNat_le, Int.natCast_inj, Int.natCast_nonneg, Int.toNat_natCast, Int.natCast_eq_zero, List.length_eq_zero_iff] at zq1
    refine Eq.trans ?_ h
    clear h
    simp +decide [*, R_spec_l7Bits_1]
theorem SL_spec_l7Bits_0 (q : Query) (mask : Int) (x : Int) (i : Int) (k : Int) (r : AV × List Blk) (h : (0 ≤ i ∧ (∃ (e1 : Atom), q.Atoms[i.toNat]? = some e1 ∧ (if k < (e1.Vars.length : Int) then (¬ i < 0 ∧ (if (andI (shrI mask i) 1) = 1 then (0 ≤ k ∧ (∃ (e2 : Int), e1.Vars[k.toNat]? = some e2 ∧ (¬ e2 < 0 ∧ (L_spec_l7Bits_0 q mask (orI x (shlI 1 e2)) i (w (k + 1)) = some r)))) else (L_spec_l7Bits_1 q mask x (w (i + 1)) = some r))) else (L_spec_l7Bits_1 q mask x (w (i + 1)) = some r))))) : L_spec_l7Bits_0 q mask x i k = some r := by
  unfold L_spec_l7Bits_0
  rw [EvL_eq B_spec_l7Bits_0.eq_1]
  obtain ⟨q1, h⟩ := h
  obtain ⟨e1, q2, h⟩ := h
  have gq2 := ltOfGet q2
  have kq2 := getOf q2
  by_cases q3 : k < (e1.Vars.length : Int)
  · rw [if_pos q3] at h
    have zq3 := eq_true q3; try simp only [Int.natCast_pos, Int.ofNat_lt, Int.ofNat_le, Int.natCast_inj, Int.natCast_nonneg, Int.toNat_natCast, Int.natCast_eq_zero, List.length_eq_zero_iff] at zq3
    obtain ⟨q4, h⟩ := h
    by_cases q5 : (andI (shrI mask i) 1) = 1
    · rw [if_pos q5] at h
      replace q5 := eq_true q5
      obtain ⟨q6, h⟩ := h
      obtain ⟨e2, q7, h⟩ := h
      have gq7 := ltOfGet q7
      have kq7 := getOf q7
      obtain ⟨q8, h⟩ := h
      refine Eq.trans ?_ h
      clear h
      simp +decide [*, L_spec_l7Bits_0]
    · rw [if_neg q5] at h
      replace q5 := eq_false q5
      refine Eq.trans ?_ h
      clear h
      simp +decide [*, L_spec_l7Bits_1, R_spec_l7Bits_0]
  · rw [if_neg q3] at h
    have zq3 := eq_false q3; try simp only [Int.natCast_pos, Int.ofNat_lt, Int.ofNat_le, Int.natCast_inj, Int.natCast_nonneg, Int.toNat_natCast, Int.natCast_eq_zero, List.length_eq_zero_iff] at zq3
    refine Eq.trans ?_ h
    clear h
    simp +decide [*, L_spec_l7Bits_1, R_spec_l7Bits_0]
theorem S_spec_l7Bits (a : Query) (a1 : Int) (r : AV × List Blk) (h : (L_spec_l7Bits_1 a a1 0 0 = some r)) : X_spec_l7Bits a a1 = some r := by
  unfold X_spec_l7Bits
  refine run t_spec_l7Bits rfl ?_
  refine Eq.trans ?_ h
  clear h
  simp +decide [*, M_spec_l7Bits, L_spec_l7Bits_1]

theorem t_spec_l23In : tbl 146 = some M_spec_l23In := tblOf_eq Try.func146 (by kernel_rfl) (by kernel_rfl)
theorem S_spec_l23In (a : Int) (a1 : Int) (r : AV × List Blk) (h : (∃ (v1_0 : Bool), X_spec_l1In a1 0 3 = some (Bo v1_0, []) ∧ (if v1_0 = true then (¬ a1 < 0 ∧ (some (Bo (decide ((andI (shrI a a1) 1) = 1)), []) = some r)) else (some (Bo false, []) = some r)))) : X_spec_l23In a a1 = some r := by
  unfold X_spec_l23In
  refine run t_spec_l23In rfl ?_
  obtain ⟨v1_0, q1, h⟩ := h
  unfold X_spec_l1In at q1
  try simp at q1
  by_cases q2 : v1_0 = true
  · rw [if_pos q2] at h
    obtain ⟨q3, h⟩ := h
    refine Eq.trans ?_ h
    clear h
    simp +decide [*, M_spec_l23In]
  · rw [if_neg q2] at h
    refine Eq.trans ?_ h
    clear h
    simp +decide [*, M_spec_l23In]

theorem t_spec_l23Step : tbl 106 = some M_spec_l23Step := tblOf_eq Try.func106 (by kernel_rfl) (by kernel_rfl)
theorem SJ_spec_l23Step_2 (q : Query) (x : PlanStep) (x1 : StepInfo) (info : List StepInfo) (stack : List Int) (n : Int) (x2 : Int) (x3 : Bool) (r : AV × List Blk) (h : (if x3 = true then (if x.Atom = 0 then (if n < 2 then (some (.tup [.agg [I 0, I 0, I 0, I 0], I (-1)], []) = some r) else (0 ≤ (w (n - 2)) ∧ (∃ (e1 : Int), stack[(w (n - 2)).toNat]? = some e1 ∧ (0 ≤ e1 ∧ (∃ (e2 : StepInfo), info[e1.toNat]? = some e2 ∧ (0 ≤ (w (n - 1)) ∧ (∃ (e3 : Int), stack[(w (n - 1)).toNat]? = some e3 ∧ (0 ≤ e3 ∧ (∃ (e4 : StepInfo), info[e3.toNat]? = some e4 ∧ (∃ (v5_0 : Int), X_spec_l7Bits q e2.Mask = some (I v5_0, []) ∧ (∃ (v6_0 : Int), X_spec_l7Bits q e4.Mask = some (I v6_0, []) ∧ (if (andI e2.Mask e4.Mask) = 0 then (if (andI v5_0 v6_0) = 0 then (some (.tup [.agg [I 0, I 0, I 0, I 0], I (-1)], []) = some r) else (if x.Kind = 4 then (J_spec_l23Step_1a q x x1 e2 e4 (⟨(orI e2.Mask e4.Mask), (-1), e1, e3⟩ : StepInfo) (andI v5_0 v6_0) false = some r) else (if x.Order = 0 then (if x.Kind = 5 then (J_spec_l23Step_1 q x x1 e2 e4 (⟨(orI e2.Mask e4.Mask), e2.Order, e1, e3⟩ : StepInfo) (andI v5_0 v6_0) = some r) else (J_spec_l23Step_1a q x x1 e2 e4 (⟨(orI e2.Mask e4.Mask), (-1), e1, e3⟩ : StepInfo) (andI v5_0 v6_0) false = some r)) else (some (.tup [.agg [I 0, I 0, I 0, I 0], I (-1)], []) = some r)))) else (some (.tup [.agg [I 0, I 0, I 0, I 0], I (-1)], []) = some r))))))))))))) else (some (.tup [.agg [I 0, I 0, I 0, I 0], I (-1)], []) = some r)) else (some (.tup [.agg [I 0, I 0, I 0, I 0], I (-1)], []) = some r))) : J_spec_l23Step_2 q x x1 info stack n x2 x3 = some r := by
  unfold J_spec_l23Step_2
  rw [Ev_eq R_spec_l23Step_2.eq_1]
  by_cases q1 : x3 = true
  · rw [if_pos q1] at h
    by_cases q2 : x.Atom = 0
    · rw [if_pos q2] at h
      replace q2 := eq_true q2
      by_cases q3 : n < 2
      · rw [if_pos q3] at h
        refine Eq.trans ?_ h
        clear h
        simp +decide [*]
      · rw [if_neg q3] at h
        obtain ⟨q4, h⟩ := h
        obtain ⟨e1, q5, h⟩ := h
        have gq5 := ltOfGet q5
        have kq5 := getOf q5
        obtain ⟨q6, h⟩ := h
        obtain ⟨e2, q7, h⟩ := h
        have gq7 := ltOfGet q7
        have kq7 := getOf q7
        obtain ⟨q8, h⟩ := h
        obtain ⟨e3, q9, h⟩ := h
        have gq9 := ltOfGet q9
        have kq9 := getOf q9
        obtain ⟨q10, h⟩ := h
        obtain ⟨e4, q11, h⟩ := h
        have gq11 := ltOfGet q11
        have kq11 := getOf q11
        obtain ⟨v5_0, q12, h⟩ := h
        unfold X_spec_l7Bits at q12
        try simp at q12
        obtain ⟨v6_0, q13, h⟩ := h
        unfold X_spec_l7Bits at q13
        try simp at q13
        by_cases q14 : (andI e2.Mask e4.Mask) = 0
        · rw [if_pos q14] at h
          replace q14 := eq_true q14
          by_cases q15 : (andI v5_0 v6_0) = 0
          · rw [if_pos q15] at h
            replace q15 := eq_true q15
            refine Eq.trans ?_ h
            clear h
            simp +decide [*]
          · rw [if_neg q15] at h
            replace q15 := eq_false q15
            by_cases q16 : x.Kind = 4
            · rw [if_pos q16] at h
              replace q16 := eq_true q16
              have q17 : (x.Kind = 5) = False := eq_false (by intro hh; simp_all)
              refine Eq.trans ?_ h
              clear h
              simp +decide [*, J_spec_l23Step_1a]
            · rw [if_neg q16] at h
              replace q16 := eq_false q16
              by_cases q18 : x.Order = 0
              · rw [if_pos q18] at h
                replace q18 := eq_true q18
                by_cases q19 : x.Kind = 5
                · rw [if_pos q19] at h
                  replace q19 := eq_true q19
                  refine Eq.trans ?_ h
                  clear h
                  simp +decide [*, J_spec_l23Step_1]
                · rw [if_neg q19] at h
                  replace q19 := eq_false q19
                  refine Eq.trans ?_ h
                  clear h
                  simp +decide [*, J_spec_l23Step_1a]
              · rw [if_neg q18] at h
                replace q18 := eq_false q18
                refine Eq.trans ?_ h
                clear h
                simp +decide [*]
        · rw [if_neg q14] at h
          replace q14 := eq_false q14
          refine Eq.trans ?_ h
          clear h
          simp +decide [*]
    · rw [if_neg q2] at h
      replace q2 := eq_false q2
      refine Eq.trans ?_ h
      clear h
      simp +decide [*]
  · rw [if_neg q1] at h
    refine Eq.trans ?_ h
    clear h
    simp +decide [*]
theorem SJ_spec_l23Step_1 (x : Query) (x1 : PlanStep) (x2 : StepInfo) (a : StepInfo) (b : StepInfo) (y : StepInfo) (v : Int) (r : AV × List Blk) (h : (if x1.Kind = 4 then (∃ (v1_0 : Bool), X_spec_l23In v x1.Order = some (Bo v1_0, []) ∧ (if v1_0 = true then (if a.Order = x1.Order then (if b.Order = x1.Order then (some (.tup [.agg [I y.Mask, I x1.Order, I y.Left, I y.Right], I 2], []) = some r) else (some (.tup [.agg [I 0, I 0, I 0, I 0], I (-1)], []) = some r)) else (some (.tup [.agg [I 0, I 0, I 0, I 0], I (-1)], []) = some r)) else (some (.tup [.agg [I 0, I 0, I 0, I 0], I (-1)], []) = some r))) else (some (.tup [.agg (y.c.map .t), I 2], []) = some r))) : J_spec_l23Step_1 x x1 x2 a b y v = some r := by
  unfold J_spec_l23Step_1
  rw [Ev_eq R_spec_l23Step_1.eq_1]
  by_cases q1 : x1.Kind = 4
  · rw [if_pos q1] at h
    replace q1 := eq_true q1
    obtain ⟨v1_0, q2, h⟩ := h
    unfold X_spec_l23In at q2
    try simp at q2
    by_cases q3 : v1_0 = true
    · rw [if_pos q3] at h
      by_cases q4 : a.Order = x1.Order
      · rw [if_pos q4] at h
        replace q4 := eq_true q4
        by_cases q5 : b.Order = x1.Order
        · rw [if_pos q5] at h
          replace q5 := eq_true q5
          refine Eq.trans ?_ h
          clear h
          simp +decide [*, R_spec_l23Step_0]
        · rw [if_neg q5] at h
          replace q5 := eq_false q5
          refine Eq.trans ?_ h
          clear h
          simp +decide [*]
      · rw [if_neg q4] at h
        replace q4 := eq_false q4
        refine Eq.trans ?_ h
        clear h
        simp +decide [*]
    · rw [if_neg q3] at h
      refine Eq.trans ?_ h
      clear h
      simp +decide [*]
  · rw [if_neg q1] at h
    replace q1 := eq_false q1
    refine Eq.trans ?_ h
    clear h
    simp +decide [*, R_spec_l23Step_0]
theorem SJ_spec_l23Step_1a (x : Query) (x1 : PlanStep) (x2 : StepInfo) (a : StepInfo) (b : StepInfo) (y : StepInfo) (v : Int) (x3 : Bool) (r : AV × List Blk) (h : (if x1.Kind = 4 then (∃ (v1_0 : Bool), X_spec_l23In v x1.Order = some (Bo v1_0, []) ∧ (if v1_0 = true then (if a.Order = x1.Order then (if b.Order = x1.Order then (some (.tup [.agg [I y.Mask, I x1.Order, I y.Left, I y.Right], I 2], []) = some r) else (some (.tup [.agg [I 0, I 0, I 0, I 0], I (-1)], []) = some r)) else (some (.tup [.agg [I 0, I 0, I 0, I 0], I (-1)], []) = some r)) else (some (.tup [.agg [I 0, I 0, I 0, I 0], I (-1)], []) = some r))) else (some (.tup [.agg (y.c.map .t), I 2], []) = some r))) : J_spec_l23Step_1a x x1 x2 a b y v x3 = some r := by
  unfold J_spec_l23Step_1a
  rw [Ev_eq R_spec_l23Step_1.eq_1]
  by_cases q1 : x1.Kind = 4
  · rw [if_pos q1] at h
    replace q1 := eq_true q1
    obtain ⟨v1_0, q2, h⟩ := h
    unfold X_spec_l23In at q2
    try simp at q2
    by_cases q3 : v1_0 = true
    · rw [if_pos q3] at h
      by_cases q4 : a.Order = x1.Order
      · rw [if_pos q4] at h
        replace q4 := eq_true q4
        by_cases q5 : b.Order = x1.Order
        · rw [if_pos q5] at h
          replace q5 := eq_true q5
          refine Eq.trans ?_ h
          clear h
          simp +decide [*, R_spec_l23Step_0]
        · rw [if_neg q5] at h
          replace q5 := eq_false q5
          refine Eq.trans ?_ h
          clear h
          simp +decide [*]
      · rw [if_neg q4] at h
        replace q4 := eq_false q4
        refine Eq.trans ?_ h
        clear h
        simp +decide [*]
    · rw [if_neg q3] at h
      refine Eq.trans ?_ h
      clear h
      simp +decide [*]
  · rw [if_neg q1] at h
    replace q1 := eq_false q1
    refine Eq.trans ?_ h
    clear h
    simp +decide [*, R_spec_l23Step_0]
theorem S_spec_l23Step (a : Query) (a1 : PlanStep) (a2 : List StepInfo) (a3 : List Int) (r : AV × List Blk) (h : (if a1.Kind = 1 then (∃ (v1_0 : Bool), X_spec_l1In a1.Atom 0 (w ((a.Atoms.length : Int) - 1)) = some (Bo v1_0, []) ∧ (if v1_0 = true then (if a1.Order = 0 then (¬ a1.Atom < 0 ∧ (0 ≤ a1.Atom ∧ (∃ (e2 : Atom), a.Atoms[a1.Atom.toNat]? = some e2 ∧ (∃ (e3 : Int), e2.Vars[0]? = some e3 ∧ (some (.tup [.agg [I (shlI 1 a1.Atom), I e3, I (-1), I (-1)], I 0], []) = some r))))) else (some (.tup [.agg [I 0, I 0, I 0, I 0], I (-1)], []) = some r)) else (some (.tup [.agg [I 0, I 0, I 0, I 0], I (-1)], []) = some r))) else (if a1.Kind = 2 then (if a1.Atom = 0 then (if (a3.length : Int) < 1 then (some (.tup [.agg [I 0, I 0, I 0, I 0], I (-1)], []) = some r) else (0 ≤ (w ((a3.length : Int) - 1)) ∧ (∃ (e4 : Int), a3[(w ((a3.length : Int) - 1)).toNat]? = some e4 ∧ (0 ≤ e4 ∧ (∃ (e5 : StepInfo), a2[e4.toNat]? = some e5 ∧ (if e5.Order = a1.Order then (some (.tup [.agg [I 0, I 0, I 0, I 0], I (-1)], []) = some r) else (∃ (v6_0 : Int), X_spec_l7Bits a e5.Mask = some (I v6_0, []) ∧ (∃ (v7_0 : Bool), X_spec_l23In v6_0 a1.Order = some (Bo v7_0, []) ∧ (if v7_0 = true then (some (.tup [.agg [I e5.Mask, I a1.Order, I e4, I (-1)], I 1], []) = some r) else (some (.tup [.agg [I 0, I 0, I 0, I 0], I (-1)], []) = some r)))))))))) else (some (.tup [.agg [I 0, I 0, I 0, I 0], I (-1)], []) = some r)) else (if a1.Kind = 3 then (J_spec_l23Step_2 a a1 (⟨0, 0, 0, 0⟩ : StepInfo) a2 a3 (a3.length : Int) a1.Kind true = some r) else (if a1.Kind = 4 then (J_spec_l23Step_2 a a1 (⟨0, 0, 0, 0⟩ : StepInfo) a2 a3 (a3.length : Int) a1.Kind true = some r) else (if a1.Kind = 5 then (if a1.Atom = 0 then (if (a3.length : Int) < 2 then (some (.tup [.agg [I 0, I 0, I 0, I 0], I (-1)], []) = some r) else (0 ≤ (w ((a3.length : Int) - 2)) ∧ (∃ (e8 : Int), a3[(w ((a3.length : Int) - 2)).toNat]? = some e8 ∧ (0 ≤ e8 ∧ (∃ (e9 : StepInfo), a2[e8.toNat]? = some e9 ∧ (0 ≤ (w ((a3.length : Int) - 1)) ∧ (∃ (e10 : Int), a3[(w ((a3.length : Int) - 1)).toNat]? = some e10 ∧ (0 ≤ e10 ∧ (∃ (e11 : StepInfo), a2[e10.toNat]? = some e11 ∧ (∃ (v12_0 : Int), X_spec_l7Bits a e9.Mask = some (I v12_0, []) ∧ (∃ (v13_0 : Int), X_spec_l7Bits a e11.Mask = some (I v13_0, []) ∧ (if (andI e9.Mask e11.Mask) = 0 then (if (andI v12_0 v13_0) = 0 then (some (.tup [.agg [I 0, I 0, I 0, I 0], I (-1)], []) = some r) else (if a1.Order = 0 then (J_spec_l23Step_1 a a1 (⟨0, 0, 0, 0⟩ : StepInfo) e9 e11 (⟨(orI e9.Mask e11.Mask), e9.Order, e8, e10⟩ : StepInfo) (andI v12_0 v13_0) = some r) else (some (.tup [.agg [I 0, I 0, I 0, I 0], I (-1)], []) = some r))) else (some (.tup [.agg [I 0, I 0, I 0, I 0], I (-1)], []) = some r))))))))))))) else (some (.tup [.agg [I 0, I 0, I 0, I 0], I (-1)], []) = some r)) else (some (.tup [.agg [I 0, I 0, I 0, I 0], I (-1)], []) = some r))))))) : X_spec_l23Step a a1 a2 a3 = some r := by
  unfold X_spec_l23Step
  refine run t_spec_l23Step rfl ?_
  by_cases q1 : a1.Kind = 1
  · rw [if_pos q1] at h
    replace q1 := eq_true q1
    obtain ⟨v1_0, q2, h⟩ := h
    unfold X_spec_l1In at q2
    try simp at q2
    by_cases q3 : v1_0 = true
    · rw [if_pos q3] at h
      by_cases q4 : a1.Order = 0
      · rw [if_pos q4] at h
        replace q4 := eq_true q4
        obtain ⟨q5, h⟩ := h
        obtain ⟨q6, h⟩ := h
        obtain ⟨e2, q7, h⟩ := h
        have gq7 := ltOfGet q7
        have kq7 := getOf q7
        obtain ⟨e3, q8, h⟩ := h
        have gq8 := ltOfGet q8
        have kq8 := getOf q8
        refine Eq.trans ?_ h
        clear h
        simp +decide [*, M_spec_l23Step]
      · rw [if_neg q4] at h
        replace q4 := eq_false q4
        refine Eq.trans ?_ h
        clear h
        simp +decide [*, M_spec_l23Step]
    · rw [if_neg q3] at h
      refine Eq.trans ?_ h
      clear h
      simp +decide [*, M_spec_l23Step]
  · rw [if_neg q1] at h
    replace q1 := eq_false q1
    by_cases q9 : a1.Kind = 2
    · rw [if_pos q9] at h
      replace q9 := eq_true q9
      by_cases q10 : a1.Atom = 0
      · rw [if_pos q10] at h
        replace q10 := eq_true q10
        by_cases q11 : (a3.length : Int) < 1
        · rw [if_pos q11] at h
          have zq11 := eq_true q11; try simp only [Int.natCast_pos, Int.ofNat_lt, Int.ofNat_le, Int.natCast_inj, Int.natCast_nonneg, Int.toNat_natCast, Int.natCast_eq_zero, List.length_eq_zero_iff] at zq11
          refine Eq.trans ?_ h
          clear h
          simp +decide [*, M_spec_l23Step]
        · rw [if_neg q11] at h
          have zq11 := eq_false q11; try simp only [Int.natCast_pos, Int.ofNat_lt, Int.ofNat_le, Int.natCast_inj, Int.natCast_nonneg, Int.toNat_natCast, Int.natCast_eq_zero, List.length_eq_zero_iff] at zq11
          obtain ⟨q12, h⟩ := h
          have zq12 := q12; try simp at zq12
          obtain ⟨e4, q13, h⟩ := h
          have gq13 := ltOfGet q13
          have kq13 := getOf q13
          obtain ⟨q14, h⟩ := h
          obtain ⟨e5, q15, h⟩ := h
          have gq15 := ltOfGet q15
          have kq15 := getOf q15
          by_cases q16 : e5.Order = a1.Order
          · rw [if_pos q16] at h
            replace q16 := eq_true q16
            refine Eq.trans ?_ h
            clear h
            simp +decide [*, M_spec_l23Step]
          · rw [if_neg q16] at h
            replace q16 := eq_false q16
            obtain ⟨v6_0, q17, h⟩ := h
            unfold X_spec_l7Bits at q17
            try simp at q17
            obtain ⟨v7_0, q18, h⟩ := h
            unfold X_spec_l23In at q18
            try simp at q18
            by_cases q19 : v7_0 = true
            · rw [if_pos q19] at h
              refine Eq.trans ?_ h
              clear h
              simp +decide [*, M_spec_l23Step]
            · rw [if_neg q19] at h
              refine Eq.trans ?_ h
              clear h
              simp +decide [*, M_spec_l23Step]
      · rw [if_neg q10] at h
        replace q10 := eq_false q10
        refine Eq.trans ?_ h
        clear h
        simp +decide [*, M_spec_l23Step]
    · rw [if_neg q9] at h
      replace q9 := eq_false q9
      by_cases q20 : a1.Kind = 3
      · rw [if_pos q20] at h
        replace q20 := eq_true q20
        refine Eq.trans ?_ h
        clear h
        simp +decide [*, M_spec_l23Step, J_spec_l23Step_2]
      · rw [if_neg q20] at h
        replace q20 := eq_false q20
        by_cases q21 : a1.Kind = 4
        · rw [if_pos q21] at h
          replace q21 := eq_true q21
          refine Eq.trans ?_ h
          clear h
          simp +decide [*, M_spec_l23Step, J_spec_l23Step_2]
        · rw [if_neg q21] at h
          replace q21 := eq_false q21
          by_cases q22 : a1.Kind = 5
          · rw [if_pos q22] at h
            replace q22 := eq_true q22
            by_cases q23 : a1.Atom = 0
            · rw [if_pos q23] at h
              replace q23 := eq_true q23
              by_cases q24 : (a3.length : Int) < 2
              · rw [if_pos q24] at h
                have zq24 := eq_true q24; try simp only [Int.natCast_pos, Int.ofNat_lt, Int.ofNat_le, Int.natCast_inj, Int.natCast_nonneg, Int.toNat_natCast, Int.natCast_eq_zero, List.length_eq_zero_iff] at zq24
                refine Eq.trans ?_ h
                clear h
                simp +decide [*, M_spec_l23Step, R_spec_l23Step_2]
              · rw [if_neg q24] at h
                have zq24 := eq_false q24; try simp only [Int.natCast_pos, Int.ofNat_lt, Int.ofNat_le, Int.natCast_inj, Int.natCast_nonneg, Int.toNat_natCast, Int.natCast_eq_zero, List.length_eq_zero_iff] at zq24
                obtain ⟨q25, h⟩ := h
                have zq25 := q25; try simp at zq25
                obtain ⟨e8, q26, h⟩ := h
                have gq26 := ltOfGet q26
                have kq26 := getOf q26
                obtain ⟨q27, h⟩ := h
                obtain ⟨e9, q28, h⟩ := h
                have gq28 := ltOfGet q28
                have kq28 := getOf q28
                obtain ⟨q29, h⟩ := h
                have zq29 := q29; try simp at zq29
                obtain ⟨e10, q30, h⟩ := h
                have gq30 := ltOfGet q30
                have kq30 := getOf q30
                obtain ⟨q31, h⟩ := h
                obtain ⟨e11, q32, h⟩ := h
                have gq32 := ltOfGet q32
                have kq32 := getOf q32
                obtain ⟨v12_0, q33, h⟩ := h
                unfold X_spec_l7Bits at q33
                try simp at q33
                obtain ⟨v13_0, q34, h⟩ := h
                unfold X_spec_l7Bits at q34
                try simp at q34
                by_cases q35 : (andI e9.Mask e11.Mask) = 0
                · rw [if_pos q35] at h
                  replace q35 := eq_true q35
                  by_cases q36 : (andI v12_0 v13_0) = 0
                  · rw [if_pos q36] at h
                    replace q36 := eq_true q36
                    refine Eq.trans ?_ h
                    clear h
                    simp +decide [*, M_spec_l23Step, R_spec_l23Step_2]
                  · rw [if_neg q36] at h
                    replace q36 := eq_false q36
                    by_cases q37 : a1.Order = 0
                    · rw [if_pos q37] at h
                      replace q37 := eq_true q37
                      refine Eq.trans ?_ h
                      clear h
                      simp +decide [*, M_spec_l23Step, J_spec_l23Step_1, R_spec_l23Step_2]
                    · rw [if_neg q37] at h
                      replace q37 := eq_false q37
                      refine Eq.trans ?_ h
                      clear h
                      simp +decide [*, M_spec_l23Step, R_spec_l23Step_2]
                · rw [if_neg q35] at h
                  replace q35 := eq_false q35
                  refine Eq.trans ?_ h
                  clear h
                  simp +decide [*, M_spec_l23Step, R_spec_l23Step_2]
            · rw [if_neg q23] at h
              replace q23 := eq_false q23
              refine Eq.trans ?_ h
              clear h
              simp +decide [*, M_spec_l23Step, R_spec_l23Step_2]
          · rw [if_neg q22] at h
            replace q22 := eq_false q22
            refine Eq.trans ?_ h
            clear h
            simp +decide [*, M_spec_l23Step, R_spec_l23Step_2]

theorem t_spec_PlanInfo : tbl 52 = some M_spec_PlanInfo := tblOf_eq Try.func52 (by kernel_rfl) (by kernel_rfl)
theorem SL_spec_PlanInfo_0 (q : Query) (p : Plan) (info : List StepInfo) (stack : List Int) (i : Int) (r : AV × List Blk) (h : (if i < (p.Steps.length : Int) then (0 ≤ i ∧ (∃ (e1 : PlanStep), p.Steps[i.toNat]? = some e1 ∧ (∃ (v2_0 : StepInfo) (v2_1 : Int), X_spec_l23Step q e1 info stack = some (.tup [.agg (v2_0.c.map .t), I v2_1], []) ∧ (if v2_1 < 0 then (some (.tup [.own 0, Bo false], [.arr 111 4 true (([] : List StepInfo).map StepInfo.c)]) = some r) else (info.length + 1 ≤ 68719476736 ∧ (0 ≤ (w ((stack.length : Int) - v2_1)) ∧ ((w ((stack.length : Int) - v2_1)).toNat ≤ stack.length ∧ ((w ((stack.length : Int) - v2_1)).toNat ≤ 68719476736 ∧ ((w ((stack.length : Int) - v2_1)).toNat + 1 ≤ 68719476736 ∧ (L_spec_PlanInfo_0 q p (info ++ [v2_0]) ((stack.take ((w ((stack.length : Int) - v2_1)).toNat)) ++ [i]) (w (i + 1)) = some r)))))))))) else (if (stack.length : Int) = 1 then (some (.tup [.own 0, Bo true], [.arr 111 4 true (info.map StepInfo.c)]) = some r) else (some (.tup [.own 0, Bo false], [.arr 111 4 true (([] : List StepInfo).map StepInfo.c)]) = some r)))) : L_spec_PlanInfo_0 q p info stack i = some r := by
  unfold L_spec_PlanInfo_0
  rw [EvL_eq B_spec_PlanInfo_0.eq_1]
  by_cases q1 : i < (p.Steps.length : Int)
  · rw [if_pos q1] at h
    have zq1 := eq_true q1; try simp only [Int.natCast_pos, Int.ofNat_lt, Int.ofNat_le, Int.natCast_inj, Int.natCast_nonneg, Int.toNat_natCast, Int.natCast_eq_zero, List.length_eq_zero_iff] at zq1
    obtain ⟨q2, h⟩ := h
    obtain ⟨e1, q3, h⟩ := h
    have gq3 := ltOfGet q3
    have kq3 := getOf q3
    obtain ⟨v2_0, v2_1, q4, h⟩ := h
    unfold X_spec_l23Step at q4
    try simp at q4
    by_cases q5 : v2_1 < 0
    · rw [if_pos q5] at h
      refine Eq.trans ?_ h
      clear h
      simp +decide [*]
    · rw [if_neg q5] at h
      obtain ⟨q6, h⟩ := h
      have rq6 := roomA (b := 32) q6 (by omega)
      have sq6 := roomB q6
      try simp [*] at rq6
      try simp [*] at sq6
      obtain ⟨q7, h⟩ := h
      have zq7 := q7; try simp at zq7
      obtain ⟨q8, h⟩ := h
      have zq8 := q8; try simp at zq8
      have mq8 := Nat.min_eq_left q8
      obtain ⟨q9, h⟩ := h
      have rq9 := roomA (b := 8) q9 (by omega)
      have sq9 := roomB q9
      try simp [*] at rq9
      try simp [*] at sq9
      obtain ⟨q10, h⟩ := h
      have rq10 := roomA (b := 8) q10 (by omega)
      have sq10 := roomB q10
      try simp [*] at rq10
      try simp [*] at sq10
      refine Eq.trans ?_ h
      clear h
      simp +decide [*, L_spec_PlanInfo_0]
  · rw [if_neg q1] at h
    have zq1 := eq_false q1; try simp only [Int.natCast_pos, Int.ofNat_lt, Int.ofNat_le, Int.natCast_inj, Int.natCast_nonneg, Int.toNat_natCast, Int.natCast_eq_zero, List.length_eq_zero_iff] at zq1
    by_cases q11 : (stack.length : Int) = 1
    · rw [if_pos q11] at h
      have zq11 := eq_true q11; try simp only [Int.natCast_pos, Int.ofNat_lt, Int.ofNat_le, Int.natCast_inj, Int.natCast_nonneg, Int.toNat_natCast, Int.natCast_eq_zero, List.length_eq_zero_iff] at zq11
      replace q11 := eq_true q11
      refine Eq.trans ?_ h
      clear h
      simp +decide [*, R_spec_PlanInfo_0]
    · rw [if_neg q11] at h
      have zq11 := eq_false q11; try simp only [Int.natCast_pos, Int.ofNat_lt, Int.ofNat_le, Int.natCast_inj, Int.natCast_nonneg, Int.toNat_natCast, Int.natCast_eq_zero, List.length_eq_zero_iff] at zq11
      replace q11 := eq_false q11
      refine Eq.trans ?_ h
      clear h
      simp +decide [*, R_spec_PlanInfo_0]
theorem S_spec_PlanInfo (a : Query) (a1 : Plan) (r : AV × List Blk) (h : (∃ (v1_0 : Bool), X_spec_IsValidQuery a = some (Bo v1_0, []) ∧ (if v1_0 = true then (∃ (v2_0 : Bool), X_spec_l1In (a1.Steps.length : Int) 1 14 = some (Bo v2_0, []) ∧ (if v2_0 = true then (L_spec_PlanInfo_0 a a1 ([] : List StepInfo) ([] : List Int) 0 = some r) else (some (.tup [.own 0, Bo false], [.arr 111 4 true (([] : List StepInfo).map StepInfo.c)]) = some r))) else (some (.tup [.own 0, Bo false], [.arr 111 4 true (([] : List StepInfo).map StepInfo.c)]) = some r)))) : X_spec_PlanInfo a a1 = some r := by
  unfold X_spec_PlanInfo
  refine run t_spec_PlanInfo rfl ?_
  obtain ⟨v1_0, q1, h⟩ := h
  unfold X_spec_IsValidQuery at q1
  try simp at q1
  by_cases q2 : v1_0 = true
  · rw [if_pos q2] at h
    obtain ⟨v2_0, q3, h⟩ := h
    unfold X_spec_l1In at q3
    try simp at q3
    by_cases q4 : v2_0 = true
    · rw [if_pos q4] at h
      refine Eq.trans ?_ h
      clear h
      simp +decide [*, M_spec_PlanInfo, L_spec_PlanInfo_0]
    · rw [if_neg q4] at h
      refine Eq.trans ?_ h
      clear h
      simp +decide [*, M_spec_PlanInfo]
  · rw [if_neg q2] at h
    refine Eq.trans ?_ h
    clear h
    simp +decide [*, M_spec_PlanInfo]

theorem t_spec_PlanMask : tbl 69 = some M_spec_PlanMask := tblOf_eq Try.func69 (by kernel_rfl) (by kernel_rfl)
theorem S_spec_PlanMask (a : Query) (a1 : Plan) (r : AV × List Blk) (h : (∃ (v1_0 : List StepInfo) (v1_1 : Bool), X_spec_PlanInfo a a1 = some (.tup [.own 0, Bo v1_1], [.arr 111 4 true (v1_0.map StepInfo.c)]) ∧ (if v1_1 = true then (0 ≤ (w ((v1_0.length : Int) - 1)) ∧ (∃ (e2 : StepInfo), v1_0[(w ((v1_0.length : Int) - 1)).toNat]? = some e2 ∧ (some (I e2.Mask, []) = some r))) else (some (I 0, []) = some r)))) : X_spec_PlanMask a a1 = some r := by
  unfold X_spec_PlanMask
  refine run t_spec_PlanMask rfl ?_
  obtain ⟨v1_0, v1_1, q1, h⟩ := h
  unfold X_spec_PlanInfo at q1
  try simp at q1
  by_cases q2 : v1_1 = true
  · rw [if_pos q2] at h
    obtain ⟨q3, h⟩ := h
    have zq3 := q3; try simp at zq3
    obtain ⟨e2, q4, h⟩ := h
    have gq4 := ltOfGet q4
    have kq4 := getOf q4
    refine Eq.trans ?_ h
    clear h
    simp +decide [*, M_spec_PlanMask]
  · rw [if_neg q2] at h
    refine Eq.trans ?_ h
    clear h
    simp +decide [*, M_spec_PlanMask]

end Go.Proofs.Ytiniphmomjnocaa
