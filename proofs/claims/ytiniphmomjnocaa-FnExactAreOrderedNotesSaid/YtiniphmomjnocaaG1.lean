/-
  Code, blocks and their theorems, as printed by program.
-/
import Derived.Test.YtiniphmomjnocaaD1
namespace Go.Proofs.Ytiniphmomjnocaa
open Go.AM
set_option linter.unusedSimpArgs false
set_option linter.unusedVariables false
set_option maxRecDepth 100000
set_option maxHeartbeats 4000000

theorem t_impl_within : tbl 74 = some M_impl_within := tblOf_eq Try.func74 (by kernel_rfl) (by kernel_rfl)
theorem S_impl_within (a : Int) (a1 : Int) (a2 : Int) (r : AV × List Blk) (h : (if a1 ≤ a then (some (Bo (decide (a ≤ a2)), []) = some r) else (some (Bo false, []) = some r))) : X_impl_within a a1 a2 = some r := by
  unfold X_impl_within
  refine run t_impl_within rfl ?_
  by_cases q1 : a1 ≤ a
  · rw [if_pos q1] at h
    refine Eq.trans ?_ h
    clear h
    simp +decide [*, M_impl_within]
  · rw [if_neg q1] at h
    refine Eq.trans ?_ h
    clear h
    simp +decide [*, M_impl_within]

theorem t_impl_nameOk : tbl 120 = some M_impl_nameOk := tblOf_eq Try.func120 (by kernel_rfl) (by kernel_rfl)
theorem S_impl_nameOk (a : ByteArray) (r : AV × List Blk) (h : (if (a.size : Int) = 1 then (∃ (b1 : UInt8), a[0]? = some b1 ∧ (if 97 ≤ (b1.toNat : Int) then (some (Bo (decide ((b1.toNat : Int) ≤ 122)), []) = some r) else (some (Bo false, []) = some r))) else (some (Bo false, []) = some r))) : X_impl_nameOk a = some r := by
  unfold X_impl_nameOk
  refine run t_impl_nameOk rfl ?_
  by_cases q1 : (a.size : Int) = 1
  · rw [if_pos q1] at h
    have zq1 := eq_true q1; try simp only [Int.natCast_pos, Int.ofNat_lt, Int.ofNat_le, Int.natCast_inj, Int.natCast_nonneg, Int.toNat_natCast, Int.natCast_eq_zero, List.length_eq_zero_iff] at zq1
    replace q1 := eq_true q1
    obtain ⟨b1, q2, h⟩ := h
    by_cases q3 : 97 ≤ (b1.toNat : Int)
    · rw [if_pos q3] at h
      have zq3 := eq_true q3; try simp only [Int.natCast_pos, Int.ofNat_lt, Int.ofNat_le, Int.natCast_inj, Int.natCast_nonneg, Int.toNat_natCast, Int.natCast_eq_zero, List.length_eq_zero_iff] at zq3
      refine Eq.trans ?_ h
      clear h
      simp +decide [*, M_impl_nameOk]
    · rw [if_neg q3] at h
      have zq3 := eq_false q3; try simp only [Int.natCast_pos, Int.ofNat_lt, Int.ofNat_le, Int.natCast_inj, Int.natCast_nonneg, Int.toNat_natCast, Int.natCast_eq_zero, List.length_eq_zero_iff] at zq3
      refine Eq.trans ?_ h
      clear h
      simp +decide [*, M_impl_nameOk]
  · rw [if_neg q1] at h
    have zq1 := eq_false q1; try simp only [Int.natCast_pos, Int.ofNat_lt, Int.ofNat_le, Int.natCast_inj, Int.natCast_nonneg, Int.toNat_natCast, Int.natCast_eq_zero, List.length_eq_zero_iff] at zq1
    replace q1 := eq_false q1
    refine Eq.trans ?_ h
    clear h
    simp +decide [*, M_impl_nameOk]

theorem t_slices_Index___int_int_ : tbl 128 = some M_slices_Index___int_int_ := tblOf_eq Try.func128 (by kernel_rfl) (by kernel_rfl)
theorem SL_slices_Index___int_int__0 (s : List Int) (v : Int) (x : Int) (x1 : Int) (r : AV × List Blk) (h : (if x1 < x then (0 ≤ x1 ∧ (∃ (e1 : Int), s[x1.toNat]? = some e1 ∧ (if v = e1 then (some (I x1, []) = some r) else (L_slices_Index___int_int__0 s v x (w (x1 + 1)) = some r)))) else (some (I (-1), []) = some r))) : L_slices_Index___int_int__0 s v x x1 = some r := by
  unfold L_slices_Index___int_int__0
  rw [EvL_eq B_slices_Index___int_int__0.eq_1]
  by_cases q1 : x1 < x
  · rw [if_pos q1] at h
    obtain ⟨q2, h⟩ := h
    obtain ⟨e1, q3, h⟩ := h
    have gq3 := ltOfGet q3
    have kq3 := getOf q3
    by_cases q4 : v = e1
    · rw [if_pos q4] at h
      replace q4 := eq_true q4
      refine Eq.trans ?_ h
      clear h
      simp +decide [*]
    · rw [if_neg q4] at h
      replace q4 := eq_false q4
      refine Eq.trans ?_ h
      clear h
      simp +decide [*, L_slices_Index___int_int__0]
  · rw [if_neg q1] at h
    refine Eq.trans ?_ h
    clear h
    simp +decide [*, R_slices_Index___int_int__0]
theorem S_slices_Index___int_int_ (a : List Int) (a1 : Int) (r : AV × List Blk) (h : (L_slices_Index___int_int__0 a a1 (a.length : Int) 0 = some r)) : X_slices_Index___int_int_ a a1 = some r := by
  unfold X_slices_Index___int_int_
  refine run t_slices_Index___int_int_ rfl ?_
  refine Eq.trans ?_ h
  clear h
  simp +decide [*, M_slices_Index___int_int_, L_slices_Index___int_int__0]

theorem t_slices_Contains___int_int_ : tbl 121 = some M_slices_Contains___int_int_ := tblOf_eq Try.func121 (by kernel_rfl) (by kernel_rfl)
theorem S_slices_Contains___int_int_ (a : List Int) (a1 : Int) (r : AV × List Blk) (h : (∃ (v1_0 : Int), X_slices_Index___int_int_ a a1 = some (I v1_0, []) ∧ (some (Bo (decide (0 ≤ v1_0)), []) = some r))) : X_slices_Contains___int_int_ a a1 = some r := by
  unfold X_slices_Contains___int_int_
  refine run t_slices_Contains___int_int_ rfl ?_
  obtain ⟨v1_0, q1, h⟩ := h
  unfold X_slices_Index___int_int_ at q1
  try simp at q1
  refine Eq.trans ?_ h
  clear h
  simp +decide [*, M_slices_Contains___int_int_]

theorem t_slices_Index___bool_bool_ : tbl 152 = some M_slices_Index___bool_bool_ := tblOf_eq Try.func152 (by kernel_rfl) (by kernel_rfl)
theorem SL_slices_Index___bool_bool__0 (s : List Bool) (v : Bool) (x : Int) (x1 : Int) (r : AV × List Blk) (h : (if x1 < x then (0 ≤ x1 ∧ (∃ (e1 : Bool), s[x1.toNat]? = some e1 ∧ (if v = e1 then (some (I x1, []) = some r) else (L_slices_Index___bool_bool__0 s v x (w (x1 + 1)) = some r)))) else (some (I (-1), []) = some r))) : L_slices_Index___bool_bool__0 s v x x1 = some r := by
  unfold L_slices_Index___bool_bool__0
  rw [EvL_eq B_slices_Index___bool_bool__0.eq_1]
  by_cases q1 : x1 < x
  · rw [if_pos q1] at h
    obtain ⟨q2, h⟩ := h
    obtain ⟨e1, q3, h⟩ := h
    have gq3 := ltOfGet q3
    have kq3 := getOf q3
    by_cases q4 : v = e1
    · rw [if_pos q4] at h
      replace q4 := eq_true q4
      refine Eq.trans ?_ h
      clear h
      simp +decide [*]
    · rw [if_neg q4] at h
      replace q4 := eq_false q4
      refine Eq.trans ?_ h
      clear h
      simp +decide [*, L_slices_Index___bool_bool__0]
  · rw [if_neg q1] at h
    refine Eq.trans ?_ h
    clear h
    simp +decide [*, R_slices_Index___bool_bool__0]
theorem S_slices_Index___bool_bool_ (a : List Bool) (a1 : Bool) (r : AV × List Blk) (h : (L_slices_Index___bool_bool__0 a a1 (a.length : Int) 0 = some r)) : X_slices_Index___bool_bool_ a a1 = some r := by
  unfold X_slices_Index___bool_bool_
  refine run t_slices_Index___bool_bool_ rfl ?_
  refine Eq.trans ?_ h
  clear h
  simp +decide [*, M_slices_Index___bool_bool_, L_slices_Index___bool_bool__0]

theorem t_slices_Contains___bool_bool_ : tbl 122 = some M_slices_Contains___bool_bool_ := tblOf_eq Try.func122 (by kernel_rfl) (by kernel_rfl)
theorem S_slices_Contains___bool_bool_ (a : List Bool) (a1 : Bool) (r : AV × List Blk) (h : (∃ (v1_0 : Int), X_slices_Index___bool_bool_ a a1 = some (I v1_0, []) ∧ (some (Bo (decide (0 ≤ v1_0)), []) = some r))) : X_slices_Contains___bool_bool_ a a1 = some r := by
  unfold X_slices_Contains___bool_bool_
  refine run t_slices_Contains___bool_bool_ rfl ?_
  obtain ⟨v1_0, q1, h⟩ := h
  unfold X_slices_Index___bool_bool_ at q1
  try simp at q1
  refine Eq.trans ?_ h
  clear h
  simp +decide [*, M_slices_Contains___bool_bool_]

theorem t_impl_IsValidQuery : tbl 71 = some M_impl_IsValidQuery := tblOf_eq Try.func71 (by kernel_rfl) (by kernel_rfl)
theorem SL_impl_IsValidQuery_1 (q : Query) (seen : List Bool) (x : List Atom) (x1 : Int) (x2 : Int) (r : AV × List Blk) (h : (if x2 < x1 then (0 ≤ x2 ∧ (∃ (e1 : Atom), x[x2.toNat]? = some e1 ∧ (∃ (v2_0 : Bool), X_impl_nameOk e1.Name = some (Bo v2_0, []) ∧ (if v2_0 = true then (∃ (v3_0 : Bool), X_impl_within (e1.Vars.length : Int) 1 3 = some (Bo v3_0, []) ∧ (if v3_0 = true then (L_impl_IsValidQuery_0 q seen e1 x x1 x2 e1.Vars (e1.Vars.length : Int) 0 = some r) else (some (Bo false, []) = some r))) else (some (Bo false, []) = some r))))) else (∃ (v4_0 : Bool), X_slices_Contains___bool_bool_ seen false = some (Bo v4_0, []) ∧ (some (Bo (!v4_0), []) = some r)))) : L_impl_IsValidQuery_1 q seen x x1 x2 = some r := by
  unfold L_impl_IsValidQuery_1
  rw [EvL_eq B_impl_IsValidQuery_1.eq_1]
  by_cases q1 : x2 < x1
  · rw [if_pos q1] at h
    obtain ⟨q2, h⟩ := h
    obtain ⟨e1, q3, h⟩ := h
    have gq3 := ltOfGet q3
    have kq3 := getOf q3
    obtain ⟨v2_0, q4, h⟩ := h
    unfold X_impl_nameOk at q4
    try simp at q4
    by_cases q5 : v2_0 = true
    · rw [if_pos q5] at h
      obtain ⟨v3_0, q6, h⟩ := h
      unfold X_impl_within at q6
      try simp at q6
      by_cases q7 : v3_0 = true
      · rw [if_pos q7] at h
        refine Eq.trans ?_ h
        clear h
        simp +decide [*, L_impl_IsValidQuery_0]
      · rw [if_neg q7] at h
        refine Eq.trans ?_ h
        clear h
        simp +decide [*]
    · rw [if_neg q5] at h
      refine Eq.trans ?_ h
      clear h
      simp +decide [*]
  · rw [if_neg q1] at h
    obtain ⟨v4_0, q8, h⟩ := h
    unfold X_slices_Contains___bool_bool_ at q8
    try simp at q8
    refine Eq.trans ?_ h
    clear h
    simp +decide [*, R_impl_IsValidQuery_1]
theorem SL_impl_IsValidQuery_0 (q : Query) (seen : List Bool) (a : Atom) (x : List Atom) (x1 : Int) (x2 : Int) (x3 : List Int) (x4 : Int) (x5 : Int) (r : AV × List Blk) (h : (if x5 < x4 then (0 ≤ x5 ∧ (∃ (e1 : Int), x3[x5.toNat]? = some e1 ∧ (∃ (v2_0 : Bool), X_impl_within e1 0 (w (q.VariableCount - 1)) = some (Bo v2_0, []) ∧ (if v2_0 = true then (x5.toNat ≤ a.Vars.length ∧ (∃ (v3_0 : Bool), X_slices_Contains___int_int_ (a.Vars.take x5.toNat) e1 = some (Bo v3_0, []) ∧ (if v3_0 = true then (some (Bo false, []) = some r) else (0 ≤ e1 ∧ (∃ (e4 : Bool), seen[e1.toNat]? = some e4 ∧ (L_impl_IsValidQuery_0 q (seen.set e1.toNat true) a x x1 x2 x3 x4 (w (x5 + 1)) = some r)))))) else (some (Bo false, []) = some r))))) else (L_impl_IsValidQuery_1 q seen x x1 (w (x2 + 1)) = some r))) : L_impl_IsValidQuery_0 q seen a x x1 x2 x3 x4 x5 = some r := by
  unfold L_impl_IsValidQuery_0
  rw [EvL_eq B_impl_IsValidQuery_0.eq_1]
  by_cases q1 : x5 < x4
  · rw [if_pos q1] at h
    obtain ⟨q2, h⟩ := h
    obtain ⟨e1, q3, h⟩ := h
    have gq3 := ltOfGet q3
    have kq3 := getOf q3
    obtain ⟨v2_0, q4, h⟩ := h
    unfold X_impl_within at q4
    try simp at q4
    by_cases q5 : v2_0 = true
    · rw [if_pos q5] at h
      obtain ⟨q6, h⟩ := h
      have zq6 := q6; try simp at zq6
      obtain ⟨v3_0, q7, h⟩ := h
      unfold X_slices_Contains___int_int_ at q7
      try simp at q7
      by_cases q8 : v3_0 = true
      · rw [if_pos q8] at h
        refine Eq.trans ?_ h
        clear h
        simp +decide [*]
      · rw [if_neg q8] at h
        obtain ⟨q9, h⟩ := h
        obtain ⟨e4, q10, h⟩ := h
        have gq10 := ltOfGet q10
        have kq10 := getOf q10
        refine Eq.trans ?_ h
        clear h
        simp +decide [*, L_impl_IsValidQuery_0]
    · rw [if_neg q5] at h
      refine Eq.trans ?_ h
      clear h
      simp +decide [*]
  · rw [if_neg q1] at h
    refine Eq.trans ?_ h
    clear h
    simp +decide [*, L_impl_IsValidQuery_1, R_impl_IsValidQuery_0]
theorem S_impl_IsValidQuery (a : Query) (r : AV × List Blk) (h : (∃ (v1_0 : Bool), X_impl_within a.VariableCount 1 4 = some (Bo v1_0, []) ∧ (if v1_0 = true then (∃ (v2_0 : Bool), X_impl_within (a.Atoms.length : Int) 1 4 = some (Bo v2_0, []) ∧ (if v2_0 = true then (0 ≤ a.VariableCount ∧ (a.VariableCount.toNat * 1 ≤ room ∧ (a.VariableCount ≤ 140737488355328 ∧ (L_impl_IsValidQuery_1 a (List.replicate (a.VariableCount).toNat false) a.Atoms (a.Atoms.length : Int) 0 = some r)))) else (some (Bo false, []) = some r))) else (some (Bo false, []) = some r)))) : X_impl_IsValidQuery a = some r := by
  unfold X_impl_IsValidQuery
  refine run t_impl_IsValidQuery rfl ?_
  obtain ⟨v1_0, q1, h⟩ := h
  unfold X_impl_within at q1
  try simp at q1
  by_cases q2 : v1_0 = true
  · rw [if_pos q2] at h
    obtain ⟨v2_0, q3, h⟩ := h
    unfold X_impl_within at q3
    try simp at q3
    by_cases q4 : v2_0 = true
    · rw [if_pos q4] at h
      obtain ⟨q5, h⟩ := h
      obtain ⟨q6, h⟩ := h
      have zq6 := q6; try simp at zq6
      obtain ⟨q7, h⟩ := h
      refine Eq.trans ?_ h
      clear h
      simp +decide [*, M_impl_IsValidQuery, L_impl_IsValidQuery_1]
    · rw [if_neg q4] at h
      refine Eq.trans ?_ h
      clear h
      simp +decide [*, M_impl_IsValidQuery]
  · rw [if_neg q2] at h
    refine Eq.trans ?_ h
    clear h
    simp +decide [*, M_impl_IsValidQuery]

theorem t_impl_IsLocation : tbl 150 = some M_impl_IsLocation := tblOf_eq Try.func150 (by kernel_rfl) (by kernel_rfl)
theorem SL_impl_IsLocation_0 (location : List Int) (x : List Int) (x1 : Int) (x2 : Int) (r : AV × List Blk) (h : (if x2 < x1 then (0 ≤ x2 ∧ (∃ (e1 : Int), x[x2.toNat]? = some e1 ∧ (∃ (v2_0 : Bool), X_impl_within e1 0 7 = some (Bo v2_0, []) ∧ (if v2_0 = true then (L_impl_IsLocation_0 location x x1 (w (x2 + 1)) = some r) else (some (Bo false, []) = some r))))) else (some (Bo (decide ((location.length : Int) ≤ 16)), []) = some r))) : L_impl_IsLocation_0 location x x1 x2 = some r := by
  unfold L_impl_IsLocation_0
  rw [EvL_eq B_impl_IsLocation_0.eq_1]
  by_cases q1 : x2 < x1
  · rw [if_pos q1] at h
    obtain ⟨q2, h⟩ := h
    obtain ⟨e1, q3, h⟩ := h
    have gq3 := ltOfGet q3
    have kq3 := getOf q3
    obtain ⟨v2_0, q4, h⟩ := h
    unfold X_impl_within at q4
    try simp at q4
    by_cases q5 : v2_0 = true
    · rw [if_pos q5] at h
      refine Eq.trans ?_ h
      clear h
      simp +decide [*, L_impl_IsLocation_0]
    · rw [if_neg q5] at h
      refine Eq.trans ?_ h
      clear h
      simp +decide [*]
  · rw [if_neg q1] at h
    refine Eq.trans ?_ h
    clear h
    simp +decide [*, R_impl_IsLocation_0]
theorem S_impl_IsLocation (a : List Int) (r : AV × List Blk) (h : (L_impl_IsLocation_0 a a (a.length : Int) 0 = some r)) : X_impl_IsLocation a = some r := by
  unfold X_impl_IsLocation
  refine run t_impl_IsLocation rfl ?_
  refine Eq.trans ?_ h
  clear h
  simp +decide [*, M_impl_IsLocation, L_impl_IsLocation_0]

theorem t_impl_DominatesLocation : tbl 151 = some M_impl_DominatesLocation := tblOf_eq Try.func151 (by kernel_rfl) (by kernel_rfl)
theorem SL_impl_DominatesLocation_0 (a : List Int) (b : List Int) (x : Int) (x1 : Int) (r : AV × List Blk) (h : (if x1 < x then (0 ≤ x1 ∧ (∃ (e1 : Int), a[x1.toNat]? = some e1 ∧ (∃ (e2 : Int), b[x1.toNat]? = some e2 ∧ (if e1 < e2 then (some (Bo false, []) = some r) else (L_impl_DominatesLocation_0 a b x (w (x1 + 1)) = some r))))) else (some (Bo true, []) = some r))) : L_impl_DominatesLocation_0 a b x x1 = some r := by
  unfold L_impl_DominatesLocation_0
  rw [EvL_eq B_impl_DominatesLocation_0.eq_1]
  by_cases q1 : x1 < x
  · rw [if_pos q1] at h
    obtain ⟨q2, h⟩ := h
    obtain ⟨e1, q3, h⟩ := h
    have gq3 := ltOfGet q3
    have kq3 := getOf q3
    obtain ⟨e2, q4, h⟩ := h
    have gq4 := ltOfGet q4
    have kq4 := getOf q4
    by_cases q5 : e1 < e2
    · rw [if_pos q5] at h
      refine Eq.trans ?_ h
      clear h
      simp +decide [*]
    · rw [if_neg q5] at h
      refine Eq.trans ?_ h
      clear h
      simp +decide [*, L_impl_DominatesLocation_0]
  · rw [if_neg q1] at h
    refine Eq.trans ?_ h
    clear h
    simp +decide [*, R_impl_DominatesLocation_0]
theorem S_impl_DominatesLocation (a : List Int) (a1 : List Int) (r : AV × List Blk) (h : (if (a.length : Int) = (a1.length : Int) then (L_impl_DominatesLocation_0 a a1 (a.length : Int) 0 = some r) else (some (Bo false, []) = some r))) : X_impl_DominatesLocation a a1 = some r := by
  unfold X_impl_DominatesLocation
  refine run t_impl_DominatesLocation rfl ?_
  by_cases q1 : (a.length : Int) = (a1.length : Int)
  · rw [if_pos q1] at h
    have zq1 := eq_true q1; try simp only [Int.natCast_pos, Int.ofNat_lt, Int.ofNat_le, Int.natCast_inj, Int.natCast_nonneg, Int.toNat_natCast, Int.natCast_eq_zero, List.length_eq_zero_iff] at zq1
    replace q1 := eq_true q1
    refine Eq.trans ?_ h
    clear h
    simp +decide [*, M_impl_DominatesLocation, L_impl_DominatesLocation_0]
  · rw [if_neg q1] at h
    have zq1 := eq_false q1; try simp only [Int.natCast_pos, Int.ofNat_lt, Int.ofNat_le, Int.natCast_inj, Int.natCast_nonneg, Int.toNat_natCast, Int.natCast_eq_zero, List.length_eq_zero_iff] at zq1
    replace q1 := eq_false q1
    refine Eq.trans ?_ h
    clear h
    simp +decide [*, M_impl_DominatesLocation]

theorem t_impl_IsValidBox : tbl 112 = some M_impl_IsValidBox := tblOf_eq Try.func112 (by kernel_rfl) (by kernel_rfl)
theorem S_impl_IsValidBox (a : Box) (r : AV × List Blk) (h : (∃ (v1_0 : Bool), X_impl_IsLocation a.Low = some (Bo v1_0, []) ∧ (if v1_0 = true then (∃ (v2_0 : Bool), X_impl_IsLocation a.High = some (Bo v2_0, []) ∧ (if v2_0 = true then (if 0 < (a.Low.length : Int) then (∃ (v3_0 : Bool), X_impl_DominatesLocation a.High a.Low = some (Bo v3_0, []) ∧ (some (Bo v3_0, []) = some r)) else (some (Bo false, []) = some r)) else (some (Bo false, []) = some r))) else (some (Bo false, []) = some r)))) : X_impl_IsValidBox a = some r := by
  unfold X_impl_IsValidBox
  refine run t_impl_IsValidBox rfl ?_
  obtain ⟨v1_0, q1, h⟩ := h
  unfold X_impl_IsLocation at q1
  try simp at q1
  by_cases q2 : v1_0 = true
  · rw [if_pos q2] at h
    obtain ⟨v2_0, q3, h⟩ := h
    unfold X_impl_IsLocation at q3
    try simp at q3
    by_cases q4 : v2_0 = true
    · rw [if_pos q4] at h
      by_cases q5 : 0 < (a.Low.length : Int)
      · rw [if_pos q5] at h
        have zq5 := eq_true q5; try simp only [Int.natCast_pos, Int.ofNat_lt, Int.ofNat_le, Int.natCast_inj, Int.natCast_nonneg, Int.toNat_natCast, Int.natCast_eq_zero, List.length_eq_zero_iff] at zq5
        obtain ⟨v3_0, q6, h⟩ := h
        unfold X_impl_DominatesLocation at q6
        try simp at q6
        refine Eq.trans ?_ h
        clear h
        simp +decide [*, M_impl_IsValidBox]
      · rw [if_neg q5] at h
        have zq5 := eq_false q5; try simp only [Int.natCast_pos, Int.ofNat_lt, Int.ofNat_le, Int.natCast_inj, Int.natCast_nonneg, Int.toNat_natCast, Int.natCast_eq_zero, List.length_eq_zero_iff] at zq5
        refine Eq.trans ?_ h
        clear h
        simp +decide [*, M_impl_IsValidBox]
    · rw [if_neg q4] at h
      refine Eq.trans ?_ h
      clear h
      simp +decide [*, M_impl_IsValidBox]
  · rw [if_neg q2] at h
    refine Eq.trans ?_ h
    clear h
    simp +decide [*, M_impl_IsValidBox]

theorem t_impl_volume : tbl 153 = some M_impl_volume := tblOf_eq Try.func153 (by kernel_rfl) (by kernel_rfl)
theorem SL_impl_volume_0 (b : Box) (n : Int) (x : Int) (x1 : Int) (r : AV × List Blk) (h : (if x1 < x then (0 ≤ x1 ∧ (∃ (e1 : Int), b.High[x1.toNat]? = some e1 ∧ (∃ (e2 : Int), b.Low[x1.toNat]? = some e2 ∧ (L_impl_volume_0 b (w (n * (w ((w (e1 - e2)) + 1)))) x (w (x1 + 1)) = some r)))) else (some (I n, []) = some r))) : L_impl_volume_0 b n x x1 = some r := by
  unfold L_impl_volume_0
  rw [EvL_eq B_impl_volume_0.eq_1]
  by_cases q1 : x1 < x
  · rw [if_pos q1] at h
    obtain ⟨q2, h⟩ := h
    obtain ⟨e1, q3, h⟩ := h
    have gq3 := ltOfGet q3
    have kq3 := getOf q3
    obtain ⟨e2, q4, h⟩ := h
    have gq4 := ltOfGet q4
    have kq4 := getOf q4
    refine Eq.trans ?_ h
    clear h
    simp +decide [*, L_impl_volume_0]
  · rw [if_neg q1] at h
    refine Eq.trans ?_ h
    clear h
    simp +decide [*, R_impl_volume_0]
theorem S_impl_volume (a : Box) (r : AV × List Blk) (h : (L_impl_volume_0 a 1 (a.Low.length : Int) 0 = some r)) : X_impl_volume a = some r := by
  unfold X_impl_volume
  refine run t_impl_volume rfl ?_
  refine Eq.trans ?_ h
  clear h
  simp +decide [*, M_impl_volume, L_impl_volume_0]

theorem t_impl_BoxVolume : tbl 125 = some M_impl_BoxVolume := tblOf_eq Try.func125 (by kernel_rfl) (by kernel_rfl)
theorem S_impl_BoxVolume (a : Box) (r : AV × List Blk) (h : (∃ (v1_0 : Bool), X_impl_IsValidBox a = some (Bo v1_0, []) ∧ (if v1_0 = true then (∃ (v2_0 : Int), X_impl_volume a = some (I v2_0, []) ∧ (some (I (if 401 < v2_0 then 401 else v2_0), []) = some r)) else (some (I 0, []) = some r)))) : X_impl_BoxVolume a = some r := by
  unfold X_impl_BoxVolume
  refine run t_impl_BoxVolume rfl ?_
  obtain ⟨v1_0, q1, h⟩ := h
  unfold X_impl_IsValidBox at q1
  try simp at q1
  by_cases q2 : v1_0 = true
  · rw [if_pos q2] at h
    obtain ⟨v2_0, q3, h⟩ := h
    unfold X_impl_volume at q3
    try simp at q3
    refine Eq.trans ?_ h
    clear h
    simp +decide [*, M_impl_BoxVolume]
  · rw [if_neg q2] at h
    refine Eq.trans ?_ h
    clear h
    simp +decide [*, M_impl_BoxVolume]

theorem t_impl_FullMask : tbl 73 = some M_impl_FullMask := tblOf_eq Try.func73 (by kernel_rfl) (by kernel_rfl)
theorem S_impl_FullMask (a : Query) (r : AV × List Blk) (h : (∃ (v1_0 : Bool), X_impl_IsValidQuery a = some (Bo v1_0, []) ∧ (if v1_0 = true then (¬ (a.Atoms.length : Int) < 0 ∧ (some (I (w ((shlI 1 (a.Atoms.length : Int)) - 1)), []) = some r)) else (some (I 0, []) = some r)))) : X_impl_FullMask a = some r := by
  unfold X_impl_FullMask
  refine run t_impl_FullMask rfl ?_
  obtain ⟨v1_0, q1, h⟩ := h
  unfold X_impl_IsValidQuery at q1
  try simp at q1
  by_cases q2 : v1_0 = true
  · rw [if_pos q2] at h
    obtain ⟨q3, h⟩ := h
    have zq3 := q3; try simp at zq3
    refine Eq.trans ?_ h
    clear h
    simp +decide [*, M_impl_FullMask]
  · rw [if_neg q2] at h
    refine Eq.trans ?_ h
    clear h
    simp +decide [*, M_impl_FullMask]

theorem t_impl_variables : tbl 148 = some M_impl_variables := tblOf_eq Try.func148 (by kernel_rfl) (by kernel_rfl)
theorem SL_impl_variables_1 (q : Query) (out : List Int) (mask : Int) (v : Int) (r : AV × List Blk) (h : (if v < q.VariableCount then (L_impl_variables_0 q out mask v q.Atoms (q.Atoms.length : Int) 0 = some r) else (some (.own 0, [.arr 3 1 true (out.map ic)]) = some r))) : L_impl_variables_1 q out mask v = some r := by
  unfold L_impl_variables_1
  rw [EvL_eq B_impl_variables_1.eq_1]
  by_cases q1 : v < q.VariableCount
  · rw [if_pos q1] at h
    refine Eq.trans ?_ h
    clear h
    simp +decide [*, L_impl_variables_0]
  · rw [if_neg q1] at h
    refine Eq.trans ?_ h
    clear h
    simp +decide [*, R_impl_variables_1]
theorem SL_impl_variables_0 (q : Query) (out : List Int) (mask : Int) (v : Int) (x : List Atom) (x1 : Int) (x2 : Int) (r : AV × List Blk) (h : (if x2 < x1 then (0 ≤ x2 ∧ (∃ (e1 : Atom), x[x2.toNat]? = some e1 ∧ (¬ x2 < 0 ∧ (if (andI (shrI mask x2) 1) = 1 then (∃ (v2_0 : Bool), X_slices_Contains___int_int_ e1.Vars v = some (Bo v2_0, []) ∧ (if v2_0 = true then (out.length + 1 ≤ 68719476736 ∧ (L_impl_variables_1 q (out ++ [v]) mask (w (v + 1)) = some r)) else (L_impl_variables_0 q out mask v x x1 (w (x2 + 1)) = some r))) else (L_impl_variables_0 q out mask v x x1 (w (x2 + 1)) = some r))))) else (L_impl_variables_1 q out mask (w (v + 1)) = some r))) : L_impl_variables_0 q out mask v x x1 x2 = some r := by
  unfold L_impl_variables_0
  rw [EvL_eq B_impl_variables_0.eq_1]
  by_cases q1 : x2 < x1
  · rw [if_pos q1] at h
    obtain ⟨q2, h⟩ := h
    obtain ⟨e1, q3, h⟩ := h
    have gq3 := ltOfGet q3
    have kq3 := getOf q3
    obtain ⟨q4, h⟩ := h
    by_cases q5 : (andI (shrI mask x2) 1) = 1
    · rw [if_pos q5] at h
      replace q5 := eq_true q5
      obtain ⟨v2_0, q6, h⟩ := h
      unfold X_slices_Contains___int_int_ at q6
      try simp at q6
      by_cases q7 : v2_0 = true
      · rw [if_pos q7] at h
        obtain ⟨q8, h⟩ := h
        have rq8 := roomA (b := 8) q8 (by omega)
        have sq8 := roomB q8
        try simp [*] at rq8
        try simp [*] at sq8
        refine Eq.trans ?_ h
        clear h
        simp +decide [*, L_impl_variables_1, R_impl_variables_0]
      · rw [if_neg q7] at h
        refine Eq.trans ?_ h
        clear h
        simp +decide [*, L_impl_variables_0]
    · rw [if_neg q5] at h
      replace q5 := eq_false q5
      refine Eq.trans ?_ h
      clear h
      simp +decide [*, L_impl_variables_0]
  · rw [if_neg q1] at h
    refine Eq.trans ?_ h
    clear h
    simp +decide [*, L_impl_variables_1, R_impl_variables_0]
theorem S_impl_variables (a : Query) (a1 : Int) (r : AV × List Blk) (h : (L_impl_variables_1 a ([] : List Int) a1 0 = some r)) : X_impl_variables a a1 = some r := by
  unfold X_impl_variables
  refine run t_impl_variables rfl ?_
  refine Eq.trans ?_ h
  clear h
  simp +decide [*, M_impl_variables, L_impl_variables_1]

theorem t_impl_both : tbl 149 = some M_impl_both := tblOf_eq Try.func149 (by kernel_rfl) (by kernel_rfl)
theorem SL_impl_both_0 (out : List Int) (b : List Int) (x : List Int) (x1 : Int) (x2 : Int) (r : AV × List Blk) (h : (if x2 < x1 then (0 ≤ x2 ∧ (∃ (e1 : Int), x[x2.toNat]? = some e1 ∧ (∃ (v2_0 : Bool), X_slices_Contains___int_int_ b e1 = some (Bo v2_0, []) ∧ (if v2_0 = true then (out.length + 1 ≤ 68719476736 ∧ (L_impl_both_0 (out ++ [e1]) b x x1 (w (x2 + 1)) = some r)) else (L_impl_both_0 out b x x1 (w (x2 + 1)) = some r))))) else (some (.own 0, [.arr 3 1 true (out.map ic)]) = some r))) : L_impl_both_0 out b x x1 x2 = some r := by
  unfold L_impl_both_0
  rw [EvL_eq B_impl_both_0.eq_1]
  by_cases q1 : x2 < x1
  · rw [if_pos q1] at h
    obtain ⟨q2, h⟩ := h
    obtain ⟨e1, q3, h⟩ := h
    have gq3 := ltOfGet q3
    have kq3 := getOf q3
    obtain ⟨v2_0, q4, h⟩ := h
    unfold X_slices_Contains___int_int_ at q4
    try simp at q4
    by_cases q5 : v2_0 = true
    · rw [if_pos q5] at h
      obtain ⟨q6, h⟩ := h
      have rq6 := roomA (b := 8) q6 (by omega)
      have sq6 := roomB q6
      try simp [*] at rq6
      try simp [*] at sq6
      refine Eq.trans ?_ h
      clear h
      simp +decide [*, L_impl_both_0, R_impl_both_0]
    · rw [if_neg q5] at h
      refine Eq.trans ?_ h
      clear h
      simp +decide [*, L_impl_both_0, R_impl_both_0]
  · rw [if_neg q1] at h
    refine Eq.trans ?_ h
    clear h
    simp +decide [*, R_impl_both_1]
theorem S_impl_both (a : List Int) (a1 : List Int) (r : AV × List Blk) (h : (L_impl_both_0 ([] : List Int) a1 a (a.length : Int) 0 = some r)) : X_impl_both a a1 = some r := by
  unfold X_impl_both
  refine run t_impl_both rfl ?_
  refine Eq.trans ?_ h
  clear h
  simp +decide [*, M_impl_both, L_impl_both_0]

theorem t_impl_stepInfo : tbl 111 = some M_impl_stepInfo := tblOf_eq Try.func111 (by kernel_rfl) (by kernel_rfl)
theorem S_impl_stepInfo (a : Query) (a1 : PlanStep) (a2 : List StepInfo) (a3 : List Int) (r : AV × List Blk) (h : (if a1.Kind = 1 then (∃ (v1_0 : Bool), X_impl_within a1.Atom 0 (w ((a.Atoms.length : Int) - 1)) = some (Bo v1_0, []) ∧ (if v1_0 = true then (if a1.Order = 0 then (¬ a1.Atom < 0 ∧ (0 ≤ a1.Atom ∧ (∃ (e2 : Atom), a.Atoms[a1.Atom.toNat]? = some e2 ∧ (∃ (e3 : Int), e2.Vars[0]? = some e3 ∧ (some (.tup [.agg [I (shlI 1 a1.Atom), I e3, I (-1), I (-1)], Bo true], []) = some r))))) else (some (.tup [.agg [I 0, I (-1), I (-1), I (-1)], Bo false], []) = some r)) else (some (.tup [.agg [I 0, I (-1), I (-1), I (-1)], Bo false], []) = some r))) else (if a1.Atom = 0 then (if a1.Kind = 2 then (if (a3.length : Int) < 1 then (some (.tup [.agg [I 0, I (-1), I (-1), I (-1)], Bo false], []) = some r) else (0 ≤ (w ((a3.length : Int) - 1)) ∧ (∃ (e4 : Int), a3[(w ((a3.length : Int) - 1)).toNat]? = some e4 ∧ (0 ≤ e4 ∧ (∃ (e5 : StepInfo), a2[e4.toNat]? = some e5 ∧ (∃ (v6_0 : List Int), X_impl_variables a e5.Mask = some (.own 0, [.arr 3 1 true (v6_0.map ic)]) ∧ (∃ (v7_0 : Bool), X_slices_Contains___int_int_ v6_0 a1.Order = some (Bo v7_0, []) ∧ (if v7_0 = true then (if e5.Order = a1.Order then (some (.tup [.agg [I 0, I (-1), I (-1), I (-1)], Bo false], []) = some r) else (some (.tup [.agg [I e5.Mask, I a1.Order, I e4, I (-1)], Bo true], []) = some r)) else (some (.tup [.agg [I 0, I (-1), I (-1), I (-1)], Bo false], []) = some r))))))))) else (if (a3.length : Int) < 2 then (some (.tup [.agg [I 0, I (-1), I (-1), I (-1)], Bo false], []) = some r) else (0 ≤ (w ((a3.length : Int) - 2)) ∧ (∃ (e8 : Int), a3[(w ((a3.length : Int) - 2)).toNat]? = some e8 ∧ (0 ≤ (w ((a3.length : Int) - 1)) ∧ (∃ (e9 : Int), a3[(w ((a3.length : Int) - 1)).toNat]? = some e9 ∧ (0 ≤ e8 ∧ (∃ (e10 : StepInfo), a2[e8.toNat]? = some e10 ∧ (0 ≤ e9 ∧ (∃ (e11 : StepInfo), a2[e9.toNat]? = some e11 ∧ (∃ (v12_0 : List Int), X_impl_variables a e10.Mask = some (.own 0, [.arr 3 1 true (v12_0.map ic)]) ∧ (∃ (v13_0 : List Int), X_impl_variables a e11.Mask = some (.own 0, [.arr 3 1 true (v13_0.map ic)]) ∧ (∃ (v14_0 : List Int), X_impl_both v12_0 v13_0 = some (.own 0, [.arr 3 1 true (v14_0.map ic)]) ∧ (if (andI e10.Mask e11.Mask) = 0 then (if (v14_0.length : Int) = 0 then (some (.tup [.agg [I (orI e10.Mask e11.Mask), I (-1), I e8, I e9], Bo false], []) = some r) else (if a1.Kind = 3 then (some (.tup [.agg [I (orI e10.Mask e11.Mask), I (-1), I e8, I e9], Bo (decide (a1.Order = 0))], []) = some r) else (if a1.Kind = 5 then (some (.tup [.agg [I (orI e10.Mask e11.Mask), I e10.Order, I e8, I e9], Bo (decide (a1.Order = 0))], []) = some r) else (if a1.Kind = 4 then (∃ (v15_0 : Bool), X_slices_Contains___int_int_ v14_0 a1.Order = some (Bo v15_0, []) ∧ (if v15_0 = true then (if e10.Order = a1.Order then (some (.tup [.agg [I (orI e10.Mask e11.Mask), I a1.Order, I e8, I e9], Bo (decide (e11.Order = a1.Order))], []) = some r) else (some (.tup [.agg [I (orI e10.Mask e11.Mask), I a1.Order, I e8, I e9], Bo false], []) = some r)) else (some (.tup [.agg [I (orI e10.Mask e11.Mask), I a1.Order, I e8, I e9], Bo false], []) = some r))) else (some (.tup [.agg [I (orI e10.Mask e11.Mask), I (-1), I e8, I e9], Bo false], []) = some r))))) else (some (.tup [.agg [I (orI e10.Mask e11.Mask), I (-1), I e8, I e9], Bo false], []) = some r))))))))))))))) else (some (.tup [.agg [I 0, I (-1), I (-1), I (-1)], Bo false], []) = some r)))) : X_impl_stepInfo a a1 a2 a3 = some r := by
  unfold X_impl_stepInfo
  refine run t_impl_stepInfo rfl ?_
  by_cases q1 : a1.Kind = 1
  · rw [if_pos q1] at h
    replace q1 := eq_true q1
    obtain ⟨v1_0, q2, h⟩ := h
    unfold X_impl_within at q2
    try simp at q2
    by_cases q3 : v1_0 = true
    · rw [if_pos q3] at h
      by_cases q4 : a1.Order = 0
      · rw [if_pos q4] at h
        replace q4 := eq_true q4
        obtain ⟨q5, h⟩ := h
        obtain ⟨q6, h⟩ := h
        obtain ⟨e2, q7, h⟩ := h
        have gq7 := ltOfGet q7
        have kq7 := getOf q7
        obtain ⟨e3, q8, h⟩ := h
        have gq8 := ltOfGet q8
        have kq8 := getOf q8
        refine Eq.trans ?_ h
        clear h
        simp +decide [*, M_impl_stepInfo]
      · rw [if_neg q4] at h
        replace q4 := eq_false q4
        refine Eq.trans ?_ h
        clear h
        simp +decide [*, M_impl_stepInfo]
    · rw [if_neg q3] at h
      refine Eq.trans ?_ h
      clear h
      simp +decide [*, M_impl_stepInfo]
  · rw [if_neg q1] at h
    replace q1 := eq_false q1
    by_cases q9 : a1.Atom = 0
    · rw [if_pos q9] at h
      replace q9 := eq_true q9
      by_cases q10 : a1.Kind = 2
      · rw [if_pos q10] at h
        replace q10 := eq_true q10
        by_cases q11 : (a3.length : Int) < 1
        · rw [if_pos q11] at h
          have zq11 := eq_true q11; try simp only [Int.natCast_pos, Int.ofNat_lt, Int.ofNat_le, Int.natCast_inj, Int.natCast_nonneg, Int.toNat_natCast, Int.natCast_eq_zero, List.length_eq_zero_iff] at zq11
          refine Eq.trans ?_ h
          clear h
          simp +decide [*, M_impl_stepInfo]
        · rw [if_neg q11] at h
          have zq11 := eq_false q11; try simp only [Int.natCast_pos, Int.ofNat_lt, Int.ofNat_le, Int.natCast_inj, Int.natCast_nonneg, Int.toNat_natCast, Int.natCast_eq_zero, List.length_eq_zero_iff] at zq11
          obtain ⟨q12, h⟩ := h
          have zq12 := q12; try simp at zq12
          obtain ⟨e4, q13, h⟩ := h
          have gq13 := ltOfGet q13
          have kq13 := getOf q13
          obtain ⟨q14, h⟩ := h
          obtain ⟨e5, q15, h⟩ := h
          have gq15 := ltOfGet q15
          have kq15 := getOf q15
          obtain ⟨v6_0, q16, h⟩ := h
          unfold X_impl_variables at q16
          try simp at q16
          obtain ⟨v7_0, q17, h⟩ := h
          unfold X_slices_Contains___int_int_ at q17
          try simp at q17
          by_cases q18 : v7_0 = true
          · rw [if_pos q18] at h
            by_cases q19 : e5.Order = a1.Order
            · rw [if_pos q19] at h
              replace q19 := eq_true q19
              refine Eq.trans ?_ h
              clear h
              simp +decide [*, M_impl_stepInfo]
            · rw [if_neg q19] at h
              replace q19 := eq_false q19
              refine Eq.trans ?_ h
              clear h
              simp +decide [*, M_impl_stepInfo]
          · rw [if_neg q18] at h
            refine Eq.trans ?_ h
            clear h
            simp +decide [*, M_impl_stepInfo]
      · rw [if_neg q10] at h
        replace q10 := eq_false q10
        by_cases q20 : (a3.length : Int) < 2
        · rw [if_pos q20] at h
          have zq20 := eq_true q20; try simp only [Int.natCast_pos, Int.ofNat_lt, Int.ofNat_le, Int.natCast_inj, Int.natCast_nonneg, Int.toNat_natCast, Int.natCast_eq_zero, List.length_eq_zero_iff] at zq20
          refine Eq.trans ?_ h
          clear h
          simp +decide [*, M_impl_stepInfo]
        · rw [if_neg q20] at h
          have zq20 := eq_false q20; try simp only [Int.natCast_pos, Int.ofNat_lt, Int.ofNat_le, Int.natCast_inj, Int.natCast_nonneg, Int.toNat_natCast, Int.natCast_eq_zero, List.length_eq_zero_iff] at zq20
          obtain ⟨q21, h⟩ := h
          have zq21 := q21; try simp at zq21
          obtain ⟨e8, q22, h⟩ := h
          have gq22 := ltOfGet q22
          have kq22 := getOf q22
          obtain ⟨q23, h⟩ := h
          have zq23 := q23; try simp at zq23
          obtain ⟨e9, q24, h⟩ := h
          have gq24 := ltOfGet q24
          have kq24 := getOf q24
          obtain ⟨q25, h⟩ := h
          obtain ⟨e10, q26, h⟩ := h
          have gq26 := ltOfGet q26
          have kq26 := getOf q26
          obtain ⟨q27, h⟩ := h
          obtain ⟨e11, q28, h⟩ := h
          have gq28 := ltOfGet q28
          have kq28 := getOf q28
          obtain ⟨v12_0, q29, h⟩ := h
          unfold X_impl_variables at q29
          try simp at q29
          obtain ⟨v13_0, q30, h⟩ := h
          unfold X_impl_variables at q30
          try simp at q30
          obtain ⟨v14_0, q31, h⟩ := h
          unfold X_impl_both at q31
          try simp at q31
          by_cases q32 : (andI e10.Mask e11.Mask) = 0
          · rw [if_pos q32] at h
            replace q32 := eq_true q32
            by_cases q33 : (v14_0.length : Int) = 0
            · rw [if_pos q33] at h
              have zq33 := eq_true q33; try simp only [Int.natCast_pos, Int.ofNat_lt, Int.ofNat_le, Int.natCast_inj, Int.natCast_nonneg, Int.toNat_natCast, Int.natCast_eq_zero, List.length_eq_zero_iff] at zq33
              replace q33 := eq_true q33
              refine Eq.trans ?_ h
              clear h
              simp +decide [*, M_impl_stepInfo]
            · rw [if_neg q33] at h
              have zq33 := eq_false q33; try simp only [Int.natCast_pos, Int.ofNat_lt, Int.ofNat_le, Int.natCast_inj, Int.natCast_nonneg, Int.toNat_natCast, Int.natCast_eq_zero, List.length_eq_zero_iff] at zq33
              replace q33 := eq_false q33
              by_cases q34 : a1.Kind = 3
              · rw [if_pos q34] at h
                replace q34 := eq_true q34
                refine Eq.trans ?_ h
                clear h
                simp +decide [*, M_impl_stepInfo]
              · rw [if_neg q34] at h
                replace q34 := eq_false q34
                by_cases q35 : a1.Kind = 5
                · rw [if_pos q35] at h
                  replace q35 := eq_true q35
                  refine Eq.trans ?_ h
                  clear h
                  simp +decide [*, M_impl_stepInfo]
                · rw [if_neg q35] at h
                  replace q35 := eq_false q35
                  by_cases q36 : a1.Kind = 4
                  · rw [if_pos q36] at h
                    replace q36 := eq_true q36
                    obtain ⟨v15_0, q37, h⟩ := h
                    unfold X_slices_Contains___int_int_ at q37
                    try simp at q37
                    by_cases q38 : v15_0 = true
                    · rw [if_pos q38] at h
                      by_cases q39 : e10.Order = a1.Order
                      · rw [if_pos q39] at h
                        replace q39 := eq_true q39
                        refine Eq.trans ?_ h
                        clear h
                        simp +decide [*, M_impl_stepInfo]
                      · rw [if_neg q39] at h
                        replace q39 := eq_false q39
                        refine Eq.trans ?_ h
                        clear h
                        simp +decide [*, M_impl_stepInfo]
                    · rw [if_neg q38] at h
                      refine Eq.trans ?_ h
                      clear h
                      simp +decide [*, M_impl_stepInfo]
                  · rw [if_neg q36] at h
                    replace q36 := eq_false q36
                    refine Eq.trans ?_ h
                    clear h
                    simp +decide [*, M_impl_stepInfo]
          · rw [if_neg q32] at h
            replace q32 := eq_false q32
            refine Eq.trans ?_ h
            clear h
            simp +decide [*, M_impl_stepInfo]
    · rw [if_neg q9] at h
      replace q9 := eq_false q9
      refine Eq.trans ?_ h
      clear h
      simp +decide [*, M_impl_stepInfo]

end Go.Proofs.Ytiniphmomjnocaa
