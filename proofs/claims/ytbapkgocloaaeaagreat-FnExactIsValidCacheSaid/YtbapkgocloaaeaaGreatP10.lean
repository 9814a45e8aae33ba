/-
  Parts of the proofs for this seat: G4 G5 G6 G7 G8 G9 G10.
-/
import Derived.Test.YtbapkgocloaaeaaGreatP9
set_option linter.unusedSimpArgs false
set_option linter.unusedVariables false
set_option maxRecDepth 100000
set_option maxHeartbeats 4000000
/- part: G4 -/
namespace Go.Proofs.YtbapkgocloaaeaaGreat
open Go.AM
theorem Zx9 (m : Zd) (info : List Zf) (out : List Int) (sizes : List Int) (x : List Zc) (x1 : Int) (x2 : Int) (r : AV × List Blk) (h : (if x2 < x1 then (0 ≤ x2 ∧ (∃ (e1 : Zc), x[x2.toNat]? = some e1 ∧ (∃ (e2 : Zf), info[x2.toNat]? = some e2 ∧ (0 ≤ e2.Mask ∧ (∃ (e3 : Int), sizes[e2.Mask.toNat]? = some e3 ∧ (if 0 ≤ e2.Left then (∃ (e4 : Zf), info[e2.Left.toNat]? = some e4 ∧ (0 ≤ e4.Mask ∧ (∃ (e5 : Int), sizes[e4.Mask.toNat]? = some e5 ∧ (if 0 ≤ e2.Right then (∃ (e6 : Zf), info[e2.Right.toNat]? = some e6 ∧ (0 ≤ e6.Mask ∧ (∃ (e7 : Int), sizes[e6.Mask.toNat]? = some e7 ∧ (Zig m info out e1 sizes x2 e5 e7 x x1 x2 = some r)))) else (Zih m info out e1 sizes x2 e5 0 x x1 x2 false = some r))))) else (if 0 ≤ e2.Right then (∃ (e8 : Zf), info[e2.Right.toNat]? = some e8 ∧ (0 ≤ e8.Mask ∧ (∃ (e9 : Int), sizes[e8.Mask.toNat]? = some e9 ∧ (Zig m info out e1 sizes x2 e3 e9 x x1 x2 = some r)))) else (Zih m info out e1 sizes x2 e3 0 x x1 x2 false = some r)))))))) else (some (.own 0, [.arr 3 1 true (out.map ic)]) = some r))) : Zba m info out sizes x x1 x2 = some r := by
  unfold Zba
  rw [EvL_eq Zjw.eq_1]
  try simp only [itb] at h
  try simp only [itf, List.getElem?_eq_some_iff, kk] at h
  rcases h with ⟨q1, q2, e1, ⟨g3, q3⟩, e2, ⟨g4, q4⟩, q5, e3, ⟨g6, q6⟩, (⟨q7, e4, ⟨g8, q8⟩, q9, e5, ⟨g10, q10⟩, (⟨q11, e6, ⟨g12, q12⟩, q13, e7, ⟨g14, q14⟩, h⟩ | ⟨q11, h⟩)⟩ | ⟨q7, (⟨q15, e8, ⟨g16, q16⟩, q17, e9, ⟨g18, q18⟩, h⟩ | ⟨q15, h⟩)⟩)⟩ | ⟨q1, h⟩
  all_goals (refine Eq.trans ?_ h; clear h; simp +decide [*, kk, Zig, Zun, Zih, Zjx])
theorem Z82 (m : Zd) (info : List Zf) (out : List Int) (x : Zc) (sizes : List Int) (i : Int) (left : Int) (right : Int) (x1 : List Zc) (x2 : Int) (x3 : Int) (r : AV × List Blk) (h : (Zd1 m = some (.bsl 1 5, [.box (m.c.map .t), .box [.ptr 0 0, .ptr 0 6, .ptr 0 12, .ptr 0 18, .ptr 0 24]]) ∧ (if (w (x.Kind - 1)) = 0 then (0 ≤ i ∧ (∃ (e2 : Zf), info[i.toNat]? = some e2 ∧ (0 ≤ e2.Mask ∧ (∃ (e3 : Int), sizes[e2.Mask.toNat]? = some e3 ∧ (∃ (v4_0 : Int), Zbf m.Scan left right e3 = some (I v4_0, []) ∧ (out.length + 1 ≤ 68719476736 ∧ (Zba m info (out ++ [v4_0]) sizes x1 x2 (w (x3 + 1)) = some r))))))) else (if (w (x.Kind - 1)) = 1 then (0 ≤ i ∧ (∃ (e5 : Zf), info[i.toNat]? = some e5 ∧ (0 ≤ e5.Mask ∧ (∃ (e6 : Int), sizes[e5.Mask.toNat]? = some e6 ∧ (∃ (v7_0 : Int), Zbf m.Sort_ left right e6 = some (I v7_0, []) ∧ (out.length + 1 ≤ 68719476736 ∧ (Zba m info (out ++ [v7_0]) sizes x1 x2 (w (x3 + 1)) = some r))))))) else (if (w (x.Kind - 1)) = 2 then (0 ≤ i ∧ (∃ (e8 : Zf), info[i.toNat]? = some e8 ∧ (0 ≤ e8.Mask ∧ (∃ (e9 : Int), sizes[e8.Mask.toNat]? = some e9 ∧ (∃ (v10_0 : Int), Zbf m.Hash left right e9 = some (I v10_0, []) ∧ (out.length + 1 ≤ 68719476736 ∧ (Zba m info (out ++ [v10_0]) sizes x1 x2 (w (x3 + 1)) = some r))))))) else (if (w (x.Kind - 1)) = 3 then (0 ≤ i ∧ (∃ (e11 : Zf), info[i.toNat]? = some e11 ∧ (0 ≤ e11.Mask ∧ (∃ (e12 : Int), sizes[e11.Mask.toNat]? = some e12 ∧ (∃ (v13_0 : Int), Zbf m.Merge left right e12 = some (I v13_0, []) ∧ (out.length + 1 ≤ 68719476736 ∧ (Zba m info (out ++ [v13_0]) sizes x1 x2 (w (x3 + 1)) = some r))))))) else (if (w (x.Kind - 1)) = 4 then (0 ≤ i ∧ (∃ (e14 : Zf), info[i.toNat]? = some e14 ∧ (0 ≤ e14.Mask ∧ (∃ (e15 : Int), sizes[e14.Mask.toNat]? = some e15 ∧ (∃ (v16_0 : Int), Zbf m.Nested left right e15 = some (I v16_0, []) ∧ (out.length + 1 ≤ 68719476736 ∧ (Zba m info (out ++ [v16_0]) sizes x1 x2 (w (x3 + 1)) = some r))))))) else False))))))) : Zig m info out x sizes i left right x1 x2 x3 = some r := by
  unfold Zig
  rw [Ev_eq Zjv.eq_1]
  obtain ⟨q1, h⟩ := h
  unfold Zd1 at q1
  try simp at q1
  by_cases q2 : (w (x.Kind - 1)) = 0
  · rw [if_pos q2] at h
    obtain ⟨q3, h⟩ := h
    obtain ⟨e2, q4, h⟩ := h
    have gq4 := ltOfGet q4
    have kq4 := getOf q4
    obtain ⟨q5, h⟩ := h
    obtain ⟨e3, q6, h⟩ := h
    have gq6 := ltOfGet q6
    have kq6 := getOf q6
    obtain ⟨v4_0, q7, h⟩ := h
    unfold Zbf at q7
    try simp at q7
    obtain ⟨q8, h⟩ := h
    have rq8 := roomA (b := 8) q8 (by omega)
    have sq8 := roomB q8
    try simp [*] at rq8
    try simp [*] at sq8
    refine Eq.trans ?_ h
    clear h
    simp +decide [*, Zba]
  · rw [if_neg q2] at h
    replace q2 := eq_false q2
    by_cases q9 : (w (x.Kind - 1)) = 1
    · rw [if_pos q9] at h
      obtain ⟨q10, h⟩ := h
      obtain ⟨e5, q11, h⟩ := h
      have gq11 := ltOfGet q11
      have kq11 := getOf q11
      obtain ⟨q12, h⟩ := h
      obtain ⟨e6, q13, h⟩ := h
      have gq13 := ltOfGet q13
      have kq13 := getOf q13
      obtain ⟨v7_0, q14, h⟩ := h
      unfold Zbf at q14
      try simp at q14
      obtain ⟨q15, h⟩ := h
      have rq15 := roomA (b := 8) q15 (by omega)
      have sq15 := roomB q15
      try simp [*] at rq15
      try simp [*] at sq15
      refine Eq.trans ?_ h
      clear h
      simp +decide [*, Zba]
    · rw [if_neg q9] at h
      replace q9 := eq_false q9
      by_cases q16 : (w (x.Kind - 1)) = 2
      · rw [if_pos q16] at h
        obtain ⟨q17, h⟩ := h
        obtain ⟨e8, q18, h⟩ := h
        have gq18 := ltOfGet q18
        have kq18 := getOf q18
        obtain ⟨q19, h⟩ := h
        obtain ⟨e9, q20, h⟩ := h
        have gq20 := ltOfGet q20
        have kq20 := getOf q20
        obtain ⟨v10_0, q21, h⟩ := h
        unfold Zbf at q21
        try simp at q21
        obtain ⟨q22, h⟩ := h
        have rq22 := roomA (b := 8) q22 (by omega)
        have sq22 := roomB q22
        try simp [*] at rq22
        try simp [*] at sq22
        refine Eq.trans ?_ h
        clear h
        simp +decide [*, Zba]
      · rw [if_neg q16] at h
        replace q16 := eq_false q16
        by_cases q23 : (w (x.Kind - 1)) = 3
        · rw [if_pos q23] at h
          obtain ⟨q24, h⟩ := h
          obtain ⟨e11, q25, h⟩ := h
          have gq25 := ltOfGet q25
          have kq25 := getOf q25
          obtain ⟨q26, h⟩ := h
          obtain ⟨e12, q27, h⟩ := h
          have gq27 := ltOfGet q27
          have kq27 := getOf q27
          obtain ⟨v13_0, q28, h⟩ := h
          unfold Zbf at q28
          try simp at q28
          obtain ⟨q29, h⟩ := h
          have rq29 := roomA (b := 8) q29 (by omega)
          have sq29 := roomB q29
          try simp [*] at rq29
          try simp [*] at sq29
          refine Eq.trans ?_ h
          clear h
          simp +decide [*, Zba]
        · rw [if_neg q23] at h
          replace q23 := eq_false q23
          by_cases q30 : (w (x.Kind - 1)) = 4
          · rw [if_pos q30] at h
            obtain ⟨q31, h⟩ := h
            obtain ⟨e14, q32, h⟩ := h
            have gq32 := ltOfGet q32
            have kq32 := getOf q32
            obtain ⟨q33, h⟩ := h
            obtain ⟨e15, q34, h⟩ := h
            have gq34 := ltOfGet q34
            have kq34 := getOf q34
            obtain ⟨v16_0, q35, h⟩ := h
            unfold Zbf at q35
            try simp at q35
            obtain ⟨q36, h⟩ := h
            have rq36 := roomA (b := 8) q36 (by omega)
            have sq36 := roomB q36
            try simp [*] at rq36
            try simp [*] at sq36
            refine Eq.trans ?_ h
            clear h
            simp +decide [*, Zba]
          · rw [if_neg q30] at h
            replace q30 := eq_false q30
            cases h
theorem Z83 (m : Zd) (info : List Zf) (out : List Int) (x : Zc) (sizes : List Int) (i : Int) (left : Int) (right : Int) (x1 : List Zc) (x2 : Int) (x3 : Int) (x4 : Bool) (r : AV × List Blk) (h : (Zd1 m = some (.bsl 1 5, [.box (m.c.map .t), .box [.ptr 0 0, .ptr 0 6, .ptr 0 12, .ptr 0 18, .ptr 0 24]]) ∧ (if (w (x.Kind - 1)) = 0 then (0 ≤ i ∧ (∃ (e2 : Zf), info[i.toNat]? = some e2 ∧ (0 ≤ e2.Mask ∧ (∃ (e3 : Int), sizes[e2.Mask.toNat]? = some e3 ∧ (∃ (v4_0 : Int), Zbf m.Scan left right e3 = some (I v4_0, []) ∧ (out.length + 1 ≤ 68719476736 ∧ (Zba m info (out ++ [v4_0]) sizes x1 x2 (w (x3 + 1)) = some r))))))) else (if (w (x.Kind - 1)) = 1 then (0 ≤ i ∧ (∃ (e5 : Zf), info[i.toNat]? = some e5 ∧ (0 ≤ e5.Mask ∧ (∃ (e6 : Int), sizes[e5.Mask.toNat]? = some e6 ∧ (∃ (v7_0 : Int), Zbf m.Sort_ left right e6 = some (I v7_0, []) ∧ (out.length + 1 ≤ 68719476736 ∧ (Zba m info (out ++ [v7_0]) sizes x1 x2 (w (x3 + 1)) = some r))))))) else (if (w (x.Kind - 1)) = 2 then (0 ≤ i ∧ (∃ (e8 : Zf), info[i.toNat]? = some e8 ∧ (0 ≤ e8.Mask ∧ (∃ (e9 : Int), sizes[e8.Mask.toNat]? = some e9 ∧ (∃ (v10_0 : Int), Zbf m.Hash left right e9 = some (I v10_0, []) ∧ (out.length + 1 ≤ 68719476736 ∧ (Zba m info (out ++ [v10_0]) sizes x1 x2 (w (x3 + 1)) = some r))))))) else (if (w (x.Kind - 1)) = 3 then (0 ≤ i ∧ (∃ (e11 : Zf), info[i.toNat]? = some e11 ∧ (0 ≤ e11.Mask ∧ (∃ (e12 : Int), sizes[e11.Mask.toNat]? = some e12 ∧ (∃ (v13_0 : Int), Zbf m.Merge left right e12 = some (I v13_0, []) ∧ (out.length + 1 ≤ 68719476736 ∧ (Zba m info (out ++ [v13_0]) sizes x1 x2 (w (x3 + 1)) = some r))))))) else (if (w (x.Kind - 1)) = 4 then (0 ≤ i ∧ (∃ (e14 : Zf), info[i.toNat]? = some e14 ∧ (0 ≤ e14.Mask ∧ (∃ (e15 : Int), sizes[e14.Mask.toNat]? = some e15 ∧ (∃ (v16_0 : Int), Zbf m.Nested left right e15 = some (I v16_0, []) ∧ (out.length + 1 ≤ 68719476736 ∧ (Zba m info (out ++ [v16_0]) sizes x1 x2 (w (x3 + 1)) = some r))))))) else False))))))) : Zih m info out x sizes i left right x1 x2 x3 x4 = some r := by
  unfold Zih
  rw [Ev_eq Zjv.eq_1]
  obtain ⟨q1, h⟩ := h
  unfold Zd1 at q1
  try simp at q1
  by_cases q2 : (w (x.Kind - 1)) = 0
  · rw [if_pos q2] at h
    obtain ⟨q3, h⟩ := h
    obtain ⟨e2, q4, h⟩ := h
    have gq4 := ltOfGet q4
    have kq4 := getOf q4
    obtain ⟨q5, h⟩ := h
    obtain ⟨e3, q6, h⟩ := h
    have gq6 := ltOfGet q6
    have kq6 := getOf q6
    obtain ⟨v4_0, q7, h⟩ := h
    unfold Zbf at q7
    try simp at q7
    obtain ⟨q8, h⟩ := h
    have rq8 := roomA (b := 8) q8 (by omega)
    have sq8 := roomB q8
    try simp [*] at rq8
    try simp [*] at sq8
    refine Eq.trans ?_ h
    clear h
    simp +decide [*, Zba]
  · rw [if_neg q2] at h
    replace q2 := eq_false q2
    by_cases q9 : (w (x.Kind - 1)) = 1
    · rw [if_pos q9] at h
      obtain ⟨q10, h⟩ := h
      obtain ⟨e5, q11, h⟩ := h
      have gq11 := ltOfGet q11
      have kq11 := getOf q11
      obtain ⟨q12, h⟩ := h
      obtain ⟨e6, q13, h⟩ := h
      have gq13 := ltOfGet q13
      have kq13 := getOf q13
      obtain ⟨v7_0, q14, h⟩ := h
      unfold Zbf at q14
      try simp at q14
      obtain ⟨q15, h⟩ := h
      have rq15 := roomA (b := 8) q15 (by omega)
      have sq15 := roomB q15
      try simp [*] at rq15
      try simp [*] at sq15
      refine Eq.trans ?_ h
      clear h
      simp +decide [*, Zba]
    · rw [if_neg q9] at h
      replace q9 := eq_false q9
      by_cases q16 : (w (x.Kind - 1)) = 2
      · rw [if_pos q16] at h
        obtain ⟨q17, h⟩ := h
        obtain ⟨e8, q18, h⟩ := h
        have gq18 := ltOfGet q18
        have kq18 := getOf q18
        obtain ⟨q19, h⟩ := h
        obtain ⟨e9, q20, h⟩ := h
        have gq20 := ltOfGet q20
        have kq20 := getOf q20
        obtain ⟨v10_0, q21, h⟩ := h
        unfold Zbf at q21
        try simp at q21
        obtain ⟨q22, h⟩ := h
        have rq22 := roomA (b := 8) q22 (by omega)
        have sq22 := roomB q22
        try simp [*] at rq22
        try simp [*] at sq22
        refine Eq.trans ?_ h
        clear h
        simp +decide [*, Zba]
      · rw [if_neg q16] at h
        replace q16 := eq_false q16
        by_cases q23 : (w (x.Kind - 1)) = 3
        · rw [if_pos q23] at h
          obtain ⟨q24, h⟩ := h
          obtain ⟨e11, q25, h⟩ := h
          have gq25 := ltOfGet q25
          have kq25 := getOf q25
          obtain ⟨q26, h⟩ := h
          obtain ⟨e12, q27, h⟩ := h
          have gq27 := ltOfGet q27
          have kq27 := getOf q27
          obtain ⟨v13_0, q28, h⟩ := h
          unfold Zbf at q28
          try simp at q28
          obtain ⟨q29, h⟩ := h
          have rq29 := roomA (b := 8) q29 (by omega)
          have sq29 := roomB q29
          try simp [*] at rq29
          try simp [*] at sq29
          refine Eq.trans ?_ h
          clear h
          simp +decide [*, Zba]
        · rw [if_neg q23] at h
          replace q23 := eq_false q23
          by_cases q30 : (w (x.Kind - 1)) = 4
          · rw [if_pos q30] at h
            obtain ⟨q31, h⟩ := h
            obtain ⟨e14, q32, h⟩ := h
            have gq32 := ltOfGet q32
            have kq32 := getOf q32
            obtain ⟨q33, h⟩ := h
            obtain ⟨e15, q34, h⟩ := h
            have gq34 := ltOfGet q34
            have kq34 := getOf q34
            obtain ⟨v16_0, q35, h⟩ := h
            unfold Zbf at q35
            try simp at q35
            obtain ⟨q36, h⟩ := h
            have rq36 := roomA (b := 8) q36 (by omega)
            have sq36 := roomB q36
            try simp [*] at rq36
            try simp [*] at sq36
            refine Eq.trans ?_ h
            clear h
            simp +decide [*, Zba]
          · rw [if_neg q30] at h
            replace q30 := eq_false q30
            cases h
theorem Zrr (a : Zd) (a1 : Zb) (a2 : Plan) (a3 : List Int) (r : AV × List Blk) (h : ((Zej a1 a2 = some (.tup [.t .nil, Bo false], []) ∧ (some (.t .nil, []) = some r)) ∨ (∃ (v2_0 : List Zf), Zej a1 a2 = some (.tup [.own 0, Bo true], [.arr 138 4 true (v2_0.map Zf.c)]) ∧ (∃ (v3_0 : Bool), Zg6 a1 a3 = some (Bo v3_0, []) ∧ (if v3_0 = true then (Zba a v2_0 ([] : List Int) a3 a2.Steps (a2.Steps.length : Int) 0 = some r) else (some (.t .nil, []) = some r)))))) : Zg8 a a1 a2 a3 = some r := by
  unfold Zg8
  refine run Z5u rfl ?_
  simp only [Zej, Zg6, Plan.c_def, Zb.c_def, mpl, dfs] at h
  try simp only [itb] at h
  try simp only [itf, List.getElem?_eq_some_iff, kk] at h
  rcases h with ⟨q2, h⟩ | ⟨v2_0, q3, v3_0, q4, (⟨q5, h⟩ | ⟨q5, h⟩)⟩
  all_goals (refine Eq.trans ?_ h; clear h; simp +decide [*, kk, Zuo, Zba])
theorem Zya (n : Int) (x : List Int) (x1 : Int) (x2 : Int) (r : AV × List Blk) (h : (if x2 < x1 then (0 ≤ x2 ∧ (∃ (e1 : Int), x[x2.toNat]? = some e1 ∧ (Zg9 (w (n + e1)) x x1 (w (x2 + 1)) = some r))) else (some (I n, []) = some r))) : Zg9 n x x1 x2 = some r := by
  unfold Zg9
  rw [EvL_eq Zo4.eq_1]
  try simp only [itb] at h
  try simp only [itf, List.getElem?_eq_some_iff, kk] at h
  rcases h with ⟨q1, q2, e1, ⟨g3, q3⟩, h⟩ | ⟨q1, h⟩
  all_goals (refine Eq.trans ?_ h; clear h; simp +decide [*, kk, Zg9, Zo5])
theorem Z84 (a : List Int) (r : AV × List Blk) (h : (Zg9 0 a (a.length : Int) 0 = some r)) : Zjy a = some r := by
  unfold Zjy
  refine run Z5v rfl ?_
  refine Eq.trans ?_ h; clear h; simp +decide [*, kk, Zup, Zg9]
theorem Z85 (a : Zd) (a1 : Zb) (a2 : Plan) (a3 : List Int) (r : AV × List Blk) (h : ((Zg8 a a1 a2 a3 = some (.t .nil, []) ∧ (some (I (-1), []) = some r)) ∨ (∃ (v2_0 : List Int), Zg8 a a1 a2 a3 = some (.own 0, [.arr 3 1 true (v2_0.map ic)]) ∧ (v2_0 ≠ [] ∧ (∃ (v3_0 : Int), Zjy v2_0 = some (I v3_0, []) ∧ (some (I v3_0, []) = some r)))))) : Zew a a1 a2 a3 = some r := by
  unfold Zew
  refine run Z5w rfl ?_
  rcases h with h | h
  ·
    obtain ⟨q1, h⟩ := h
    unfold Zg8 at q1
    try simp at q1
    refine Eq.trans ?_ h
    clear h
    simp +decide [*, Zo6]
  ·
    obtain ⟨v2_0, q2, h⟩ := h
    unfold Zg8 at q2
    try simp at q2
    obtain ⟨q3, h⟩ := h
    obtain ⟨yq3, ysq3, eq3⟩ := List.exists_cons_of_ne_nil q3
    first | subst eq3 | skip
    obtain ⟨v3_0, q4, h⟩ := h
    unfold Zjy at q4
    try simp at q4
    refine Eq.trans ?_ h
    clear h
    simp +decide [*, Zo6]
theorem Z86 (a : Zd) (a1 : Zb) (a2 : Plan) (a3 : List Int) (r : AV × List Blk) (h : ((∃ (v1_0 : List Int), Zeu a3 = some (.own 0, [.arr 3 1 true (v1_0.map ic)]) ∧ (∃ (v2_0 : Int), Zew a a1 a2 v1_0 = some (I v2_0, []) ∧ (some (I v2_0, []) = some r))) ∨ (Zeu a3 = some (.t .nil, []) ∧ (∃ (v4_0 : Int), Zuq a a1 a2 = some (I v4_0, []) ∧ (some (I v4_0, []) = some r))))) : Zjz a a1 a2 a3 = some r := by
  unfold Zjz
  refine run Z5x rfl ?_
  simp only [Zeu, Zew, Zuq, Zd.c_def, Zh.c_def, Plan.c_def, Zb.c_def, mpl, dfs] at h
  rcases h with ⟨v1_0, q2, v2_0, q3, h⟩ | ⟨q4, v4_0, q5, h⟩
  all_goals (refine Eq.trans ?_ h; clear h; simp +decide [*, kk, Zur])
theorem Zyb (q : Zb) (out : List Int) (mask : Int) (r : AV × List Blk) (h : (∃ (v1_0 : Int), Zbw q = some (I v1_0, []) ∧ (if mask ≤ v1_0 then (∃ (v2_0 : Bool), Zd0 q mask = some (Bo v2_0, []) ∧ (if v2_0 = true then (out.length + 1 ≤ 68719476736 ∧ (Zfl q (out ++ [mask]) (w (mask + 1)) = some r)) else (Zfl q out (w (mask + 1)) = some r))) else (some (.own 0, [.arr 3 1 true (out.map ic)]) = some r)))) : Zfl q out mask = some r := by
  unfold Zfl
  rw [EvL_eq Zo7.eq_1]
  simp only [Zbw, Zd0, Zb.c_def, mpl, dfs] at h
  try simp only [itb] at h
  try simp only [itf, List.getElem?_eq_some_iff, kk] at h
  rcases h with ⟨v1_0, q1, (⟨q2, v2_0, q3, (⟨q4, q5, h⟩ | ⟨q4, h⟩)⟩ | ⟨q2, h⟩)⟩
  all_goals (refine Eq.trans ?_ h; clear h; simp +decide [*, kk, Zfl, Zus, Zo8])
theorem Z87 (a : Zb) (r : AV × List Blk) (h : (Zfl a ([] : List Int) 1 = some r)) : Zj0 a = some r := by
  unfold Zj0
  refine run Z5y rfl ?_
  refine Eq.trans ?_ h; clear h; simp +decide [*, kk, Zut, Zfl]
theorem Zyc (out : List Int) (mask : Int) (i : Int) (r : AV × List Blk) (h : (if i < 4 then (¬ i < 0 ∧ (if (andI (shrI mask i) 1) = 1 then (out.length + 1 ≤ 68719476736 ∧ (Zfm (out ++ [i]) mask (w (i + 1)) = some r)) else (Zfm out mask (w (i + 1)) = some r))) else (some (.own 0, [.arr 3 1 true (out.map ic)]) = some r))) : Zfm out mask i = some r := by
  unfold Zfm
  rw [EvL_eq Zo9.eq_1]
  try simp only [itb] at h
  try simp only [itf, List.getElem?_eq_some_iff, kk] at h
  rcases h with ⟨q1, q2, (⟨q3, q4, h⟩ | ⟨q3, h⟩)⟩ | ⟨q1, h⟩
  all_goals (refine Eq.trans ?_ h; clear h; simp +decide [*, kk, Zfm, Zuu, Zpa])
theorem Z88 (a : Int) (r : AV × List Blk) (h : (∃ (v1_0 : Bool), Zu a 0 15 = some (Bo v1_0, []) ∧ (if v1_0 = true then (Zfm ([] : List Int) a 0 = some r) else (some (.t .nil, []) = some r)))) : Zii a = some r := by
  unfold Zii
  refine run Z5z rfl ?_
  simp only [Zu, mpl, dfs] at h
  try simp only [itb] at h
  try simp only [itf, List.getElem?_eq_some_iff, kk] at h
  rcases h with ⟨v1_0, q1, (⟨q2, h⟩ | ⟨q2, h⟩)⟩
  all_goals (refine Eq.trans ?_ h; clear h; simp +decide [*, kk, Zuv, Zfm])
theorem Z89 (a : Int) (r : AV × List Blk) (h : (some (.agg [.own 0], [.arr 142 3 true (([(⟨1, a, 0⟩ : Zc)]).map Zc.c)]) = some r)) : Zj1 a = some r := by
  unfold Zj1
  refine run Z50 rfl ?_
  refine Eq.trans ?_ h; clear h; simp +decide [*, kk, Zuw]
end Go.Proofs.YtbapkgocloaaeaaGreat
/- part: G5 -/
namespace Go.Proofs.YtbapkgocloaaeaaGreat
open Go.AM
theorem Zcf (m : Zd) (q : Zb) (sizes : List Int) (mask : Int) (list0 : Za) (list1 : Za) (list2 : Za) (list3 : Za) (list4 : Za) (some0 : Bool) (some1 : Bool) (some2 : Bool) (some3 : Bool) (some4 : Bool) (x : List Zc) (a : Int) (r : AV × List Blk) (h : (∃ (v1_0 : Int), Zew m q (⟨x⟩ : Plan) sizes = some (I v1_0, []) ∧ (if (w (a + 1)) = 0 then (if some0 = true then (if v1_0 < list0.Cost then (some (.tup [], [.box [I m.Scan.Fixed, I m.Scan.Zj, I m.Scan.Zk, I m.Scan.Zm, I m.Scan.Zl, L 2 (m.Scan.Steps.map Zg.c), I m.Sort_.Fixed, I m.Sort_.Zj, I m.Sort_.Zk, I m.Sort_.Zm, I m.Sort_.Zl, L 2 (m.Sort_.Steps.map Zg.c), I m.Hash.Fixed, I m.Hash.Zj, I m.Hash.Zk, I m.Hash.Zm, I m.Hash.Zl, L 2 (m.Hash.Steps.map Zg.c), I m.Merge.Fixed, I m.Merge.Zj, I m.Merge.Zk, I m.Merge.Zm, I m.Merge.Zl, L 2 (m.Merge.Steps.map Zg.c), I m.Nested.Fixed, I m.Nested.Zj, I m.Nested.Zk, I m.Nested.Zm, I m.Nested.Zl, L 2 (m.Nested.Steps.map Zg.c), I q.Ze, L 2 (q.Atoms.map Atom.c), L 1 (sizes.map ic), I mask, I mask, I a, I v1_0, L 3 (x.map Zc.c), I list1.Mask, I list1.Order, I list1.Cost, L 3 (list1.Plan.Steps.map Zc.c), I list2.Mask, I list2.Order, I list2.Cost, L 3 (list2.Plan.Steps.map Zc.c), I list3.Mask, I list3.Order, I list3.Cost, L 3 (list3.Plan.Steps.map Zc.c), I list4.Mask, I list4.Order, I list4.Cost, L 3 (list4.Plan.Steps.map Zc.c), Bo true, Bo some1, Bo some2, Bo some3, Bo some4], .dead]) = some r) else (some (.tup [], [boxO m q sizes mask list0 list1 list2 list3 list4 some0 some1 some2 some3 some4, .arr 142 3 true (x.map Zc.c)]) = some r)) else (some (.tup [], [.box [I m.Scan.Fixed, I m.Scan.Zj, I m.Scan.Zk, I m.Scan.Zm, I m.Scan.Zl, L 2 (m.Scan.Steps.map Zg.c), I m.Sort_.Fixed, I m.Sort_.Zj, I m.Sort_.Zk, I m.Sort_.Zm, I m.Sort_.Zl, L 2 (m.Sort_.Steps.map Zg.c), I m.Hash.Fixed, I m.Hash.Zj, I m.Hash.Zk, I m.Hash.Zm, I m.Hash.Zl, L 2 (m.Hash.Steps.map Zg.c), I m.Merge.Fixed, I m.Merge.Zj, I m.Merge.Zk, I m.Merge.Zm, I m.Merge.Zl, L 2 (m.Merge.Steps.map Zg.c), I m.Nested.Fixed, I m.Nested.Zj, I m.Nested.Zk, I m.Nested.Zm, I m.Nested.Zl, L 2 (m.Nested.Steps.map Zg.c), I q.Ze, L 2 (q.Atoms.map Atom.c), L 1 (sizes.map ic), I mask, I mask, I a, I v1_0, L 3 (x.map Zc.c), I list1.Mask, I list1.Order, I list1.Cost, L 3 (list1.Plan.Steps.map Zc.c), I list2.Mask, I list2.Order, I list2.Cost, L 3 (list2.Plan.Steps.map Zc.c), I list3.Mask, I list3.Order, I list3.Cost, L 3 (list3.Plan.Steps.map Zc.c), I list4.Mask, I list4.Order, I list4.Cost, L 3 (list4.Plan.Steps.map Zc.c), Bo true, Bo some1, Bo some2, Bo some3, Bo some4], .dead]) = some r)) else (if (w (a + 1)) = 1 then (if some1 = true then (if v1_0 < list1.Cost then (some (.tup [], [.box [I m.Scan.Fixed, I m.Scan.Zj, I m.Scan.Zk, I m.Scan.Zm, I m.Scan.Zl, L 2 (m.Scan.Steps.map Zg.c), I m.Sort_.Fixed, I m.Sort_.Zj, I m.Sort_.Zk, I m.Sort_.Zm, I m.Sort_.Zl, L 2 (m.Sort_.Steps.map Zg.c), I m.Hash.Fixed, I m.Hash.Zj, I m.Hash.Zk, I m.Hash.Zm, I m.Hash.Zl, L 2 (m.Hash.Steps.map Zg.c), I m.Merge.Fixed, I m.Merge.Zj, I m.Merge.Zk, I m.Merge.Zm, I m.Merge.Zl, L 2 (m.Merge.Steps.map Zg.c), I m.Nested.Fixed, I m.Nested.Zj, I m.Nested.Zk, I m.Nested.Zm, I m.Nested.Zl, L 2 (m.Nested.Steps.map Zg.c), I q.Ze, L 2 (q.Atoms.map Atom.c), L 1 (sizes.map ic), I mask, I list0.Mask, I list0.Order, I list0.Cost, L 3 (list0.Plan.Steps.map Zc.c), I mask, I a, I v1_0, L 3 (x.map Zc.c), I list2.Mask, I list2.Order, I list2.Cost, L 3 (list2.Plan.Steps.map Zc.c), I list3.Mask, I list3.Order, I list3.Cost, L 3 (list3.Plan.Steps.map Zc.c), I list4.Mask, I list4.Order, I list4.Cost, L 3 (list4.Plan.Steps.map Zc.c), Bo some0, Bo true, Bo some2, Bo some3, Bo some4], .dead]) = some r) else (some (.tup [], [boxO m q sizes mask list0 list1 list2 list3 list4 some0 some1 some2 some3 some4, .arr 142 3 true (x.map Zc.c)]) = some r)) else (some (.tup [], [.box [I m.Scan.Fixed, I m.Scan.Zj, I m.Scan.Zk, I m.Scan.Zm, I m.Scan.Zl, L 2 (m.Scan.Steps.map Zg.c), I m.Sort_.Fixed, I m.Sort_.Zj, I m.Sort_.Zk, I m.Sort_.Zm, I m.Sort_.Zl, L 2 (m.Sort_.Steps.map Zg.c), I m.Hash.Fixed, I m.Hash.Zj, I m.Hash.Zk, I m.Hash.Zm, I m.Hash.Zl, L 2 (m.Hash.Steps.map Zg.c), I m.Merge.Fixed, I m.Merge.Zj, I m.Merge.Zk, I m.Merge.Zm, I m.Merge.Zl, L 2 (m.Merge.Steps.map Zg.c), I m.Nested.Fixed, I m.Nested.Zj, I m.Nested.Zk, I m.Nested.Zm, I m.Nested.Zl, L 2 (m.Nested.Steps.map Zg.c), I q.Ze, L 2 (q.Atoms.map Atom.c), L 1 (sizes.map ic), I mask, I list0.Mask, I list0.Order, I list0.Cost, L 3 (list0.Plan.Steps.map Zc.c), I mask, I a, I v1_0, L 3 (x.map Zc.c), I list2.Mask, I list2.Order, I list2.Cost, L 3 (list2.Plan.Steps.map Zc.c), I list3.Mask, I list3.Order, I list3.Cost, L 3 (list3.Plan.Steps.map Zc.c), I list4.Mask, I list4.Order, I list4.Cost, L 3 (list4.Plan.Steps.map Zc.c), Bo some0, Bo true, Bo some2, Bo some3, Bo some4], .dead]) = some r)) else (if (w (a + 1)) = 2 then (if some2 = true then (if v1_0 < list2.Cost then (some (.tup [], [.box [I m.Scan.Fixed, I m.Scan.Zj, I m.Scan.Zk, I m.Scan.Zm, I m.Scan.Zl, L 2 (m.Scan.Steps.map Zg.c), I m.Sort_.Fixed, I m.Sort_.Zj, I m.Sort_.Zk, I m.Sort_.Zm, I m.Sort_.Zl, L 2 (m.Sort_.Steps.map Zg.c), I m.Hash.Fixed, I m.Hash.Zj, I m.Hash.Zk, I m.Hash.Zm, I m.Hash.Zl, L 2 (m.Hash.Steps.map Zg.c), I m.Merge.Fixed, I m.Merge.Zj, I m.Merge.Zk, I m.Merge.Zm, I m.Merge.Zl, L 2 (m.Merge.Steps.map Zg.c), I m.Nested.Fixed, I m.Nested.Zj, I m.Nested.Zk, I m.Nested.Zm, I m.Nested.Zl, L 2 (m.Nested.Steps.map Zg.c), I q.Ze, L 2 (q.Atoms.map Atom.c), L 1 (sizes.map ic), I mask, I list0.Mask, I list0.Order, I list0.Cost, L 3 (list0.Plan.Steps.map Zc.c), I list1.Mask, I list1.Order, I list1.Cost, L 3 (list1.Plan.Steps.map Zc.c), I mask, I a, I v1_0, L 3 (x.map Zc.c), I list3.Mask, I list3.Order, I list3.Cost, L 3 (list3.Plan.Steps.map Zc.c), I list4.Mask, I list4.Order, I list4.Cost, L 3 (list4.Plan.Steps.map Zc.c), Bo some0, Bo some1, Bo true, Bo some3, Bo some4], .dead]) = some r) else (some (.tup [], [boxO m q sizes mask list0 list1 list2 list3 list4 some0 some1 some2 some3 some4, .arr 142 3 true (x.map Zc.c)]) = some r)) else (some (.tup [], [.box [I m.Scan.Fixed, I m.Scan.Zj, I m.Scan.Zk, I m.Scan.Zm, I m.Scan.Zl, L 2 (m.Scan.Steps.map Zg.c), I m.Sort_.Fixed, I m.Sort_.Zj, I m.Sort_.Zk, I m.Sort_.Zm, I m.Sort_.Zl, L 2 (m.Sort_.Steps.map Zg.c), I m.Hash.Fixed, I m.Hash.Zj, I m.Hash.Zk, I m.Hash.Zm, I m.Hash.Zl, L 2 (m.Hash.Steps.map Zg.c), I m.Merge.Fixed, I m.Merge.Zj, I m.Merge.Zk, I m.Merge.Zm, I m.Merge.Zl, L 2 (m.Merge.Steps.map Zg.c), I m.Nested.Fixed, I m.Nested.Zj, I m.Nested.Zk, I m.Nested.Zm, I m.Nested.Zl, L 2 (m.Nested.Steps.map Zg.c), I q.Ze, L 2 (q.Atoms.map Atom.c), L 1 (sizes.map ic), I mask, I list0.Mask, I list0.Order, I list0.Cost, L 3 (list0.Plan.Steps.map Zc.c), I list1.Mask, I list1.Order, I list1.Cost, L 3 (list1.Plan.Steps.map Zc.c), I mask, I a, I v1_0, L 3 (x.map Zc.c), I list3.Mask, I list3.Order, I list3.Cost, L 3 (list3.Plan.Steps.map Zc.c), I list4.Mask, I list4.Order, I list4.Cost, L 3 (list4.Plan.Steps.map Zc.c), Bo some0, Bo some1, Bo true, Bo some3, Bo some4], .dead]) = some r)) else (if (w (a + 1)) = 3 then (if some3 = true then (if v1_0 < list3.Cost then (some (.tup [], [.box [I m.Scan.Fixed, I m.Scan.Zj, I m.Scan.Zk, I m.Scan.Zm, I m.Scan.Zl, L 2 (m.Scan.Steps.map Zg.c), I m.Sort_.Fixed, I m.Sort_.Zj, I m.Sort_.Zk, I m.Sort_.Zm, I m.Sort_.Zl, L 2 (m.Sort_.Steps.map Zg.c), I m.Hash.Fixed, I m.Hash.Zj, I m.Hash.Zk, I m.Hash.Zm, I m.Hash.Zl, L 2 (m.Hash.Steps.map Zg.c), I m.Merge.Fixed, I m.Merge.Zj, I m.Merge.Zk, I m.Merge.Zm, I m.Merge.Zl, L 2 (m.Merge.Steps.map Zg.c), I m.Nested.Fixed, I m.Nested.Zj, I m.Nested.Zk, I m.Nested.Zm, I m.Nested.Zl, L 2 (m.Nested.Steps.map Zg.c), I q.Ze, L 2 (q.Atoms.map Atom.c), L 1 (sizes.map ic), I mask, I list0.Mask, I list0.Order, I list0.Cost, L 3 (list0.Plan.Steps.map Zc.c), I list1.Mask, I list1.Order, I list1.Cost, L 3 (list1.Plan.Steps.map Zc.c), I list2.Mask, I list2.Order, I list2.Cost, L 3 (list2.Plan.Steps.map Zc.c), I mask, I a, I v1_0, L 3 (x.map Zc.c), I list4.Mask, I list4.Order, I list4.Cost, L 3 (list4.Plan.Steps.map Zc.c), Bo some0, Bo some1, Bo some2, Bo true, Bo some4], .dead]) = some r) else (some (.tup [], [boxO m q sizes mask list0 list1 list2 list3 list4 some0 some1 some2 some3 some4, .arr 142 3 true (x.map Zc.c)]) = some r)) else (some (.tup [], [.box [I m.Scan.Fixed, I m.Scan.Zj, I m.Scan.Zk, I m.Scan.Zm, I m.Scan.Zl, L 2 (m.Scan.Steps.map Zg.c), I m.Sort_.Fixed, I m.Sort_.Zj, I m.Sort_.Zk, I m.Sort_.Zm, I m.Sort_.Zl, L 2 (m.Sort_.Steps.map Zg.c), I m.Hash.Fixed, I m.Hash.Zj, I m.Hash.Zk, I m.Hash.Zm, I m.Hash.Zl, L 2 (m.Hash.Steps.map Zg.c), I m.Merge.Fixed, I m.Merge.Zj, I m.Merge.Zk, I m.Merge.Zm, I m.Merge.Zl, L 2 (m.Merge.Steps.map Zg.c), I m.Nested.Fixed, I m.Nested.Zj, I m.Nested.Zk, I m.Nested.Zm, I m.Nested.Zl, L 2 (m.Nested.Steps.map Zg.c), I q.Ze, L 2 (q.Atoms.map Atom.c), L 1 (sizes.map ic), I mask, I list0.Mask, I list0.Order, I list0.Cost, L 3 (list0.Plan.Steps.map Zc.c), I list1.Mask, I list1.Order, I list1.Cost, L 3 (list1.Plan.Steps.map Zc.c), I list2.Mask, I list2.Order, I list2.Cost, L 3 (list2.Plan.Steps.map Zc.c), I mask, I a, I v1_0, L 3 (x.map Zc.c), I list4.Mask, I list4.Order, I list4.Cost, L 3 (list4.Plan.Steps.map Zc.c), Bo some0, Bo some1, Bo some2, Bo true, Bo some4], .dead]) = some r)) else (if (w (a + 1)) = 4 then (if some4 = true then (if v1_0 < list4.Cost then (some (.tup [], [.box [I m.Scan.Fixed, I m.Scan.Zj, I m.Scan.Zk, I m.Scan.Zm, I m.Scan.Zl, L 2 (m.Scan.Steps.map Zg.c), I m.Sort_.Fixed, I m.Sort_.Zj, I m.Sort_.Zk, I m.Sort_.Zm, I m.Sort_.Zl, L 2 (m.Sort_.Steps.map Zg.c), I m.Hash.Fixed, I m.Hash.Zj, I m.Hash.Zk, I m.Hash.Zm, I m.Hash.Zl, L 2 (m.Hash.Steps.map Zg.c), I m.Merge.Fixed, I m.Merge.Zj, I m.Merge.Zk, I m.Merge.Zm, I m.Merge.Zl, L 2 (m.Merge.Steps.map Zg.c), I m.Nested.Fixed, I m.Nested.Zj, I m.Nested.Zk, I m.Nested.Zm, I m.Nested.Zl, L 2 (m.Nested.Steps.map Zg.c), I q.Ze, L 2 (q.Atoms.map Atom.c), L 1 (sizes.map ic), I mask, I list0.Mask, I list0.Order, I list0.Cost, L 3 (list0.Plan.Steps.map Zc.c), I list1.Mask, I list1.Order, I list1.Cost, L 3 (list1.Plan.Steps.map Zc.c), I list2.Mask, I list2.Order, I list2.Cost, L 3 (list2.Plan.Steps.map Zc.c), I list3.Mask, I list3.Order, I list3.Cost, L 3 (list3.Plan.Steps.map Zc.c), I mask, I a, I v1_0, L 3 (x.map Zc.c), Bo some0, Bo some1, Bo some2, Bo some3, Bo true], .dead]) = some r) else (some (.tup [], [boxO m q sizes mask list0 list1 list2 list3 list4 some0 some1 some2 some3 some4, .arr 142 3 true (x.map Zc.c)]) = some r)) else (some (.tup [], [.box [I m.Scan.Fixed, I m.Scan.Zj, I m.Scan.Zk, I m.Scan.Zm, I m.Scan.Zl, L 2 (m.Scan.Steps.map Zg.c), I m.Sort_.Fixed, I m.Sort_.Zj, I m.Sort_.Zk, I m.Sort_.Zm, I m.Sort_.Zl, L 2 (m.Sort_.Steps.map Zg.c), I m.Hash.Fixed, I m.Hash.Zj, I m.Hash.Zk, I m.Hash.Zm, I m.Hash.Zl, L 2 (m.Hash.Steps.map Zg.c), I m.Merge.Fixed, I m.Merge.Zj, I m.Merge.Zk, I m.Merge.Zm, I m.Merge.Zl, L 2 (m.Merge.Steps.map Zg.c), I m.Nested.Fixed, I m.Nested.Zj, I m.Nested.Zk, I m.Nested.Zm, I m.Nested.Zl, L 2 (m.Nested.Steps.map Zg.c), I q.Ze, L 2 (q.Atoms.map Atom.c), L 1 (sizes.map ic), I mask, I list0.Mask, I list0.Order, I list0.Cost, L 3 (list0.Plan.Steps.map Zc.c), I list1.Mask, I list1.Order, I list1.Cost, L 3 (list1.Plan.Steps.map Zc.c), I list2.Mask, I list2.Order, I list2.Cost, L 3 (list2.Plan.Steps.map Zc.c), I list3.Mask, I list3.Order, I list3.Cost, L 3 (list3.Plan.Steps.map Zc.c), I mask, I a, I v1_0, L 3 (x.map Zc.c), Bo some0, Bo some1, Bo some2, Bo some3, Bo true], .dead]) = some r)) else False))))))) : Zbi m q sizes mask list0 list1 list2 list3 list4 some0 some1 some2 some3 some4 x a = some r := by
  unfold Zbi
  refine runM Z51 rfl ?_
  obtain ⟨v1_0, q1, h⟩ := h
  unfold Zew at q1
  try simp at q1
  by_cases q2 : (w (a + 1)) = 0
  · rw [if_pos q2] at h
    by_cases q3 : some0 = true
    · rw [if_pos q3] at h
      by_cases q4 : v1_0 < list0.Cost
      · rw [if_pos q4] at h
        refine Eq.trans ?_ h
        clear h
        simp +decide [*, Zb5]
      · rw [if_neg q4] at h
        refine Eq.trans ?_ h
        clear h
        simp +decide [*, Zb5]
    · rw [if_neg q3] at h
      refine Eq.trans ?_ h
      clear h
      simp +decide [*, Zb5]
  · rw [if_neg q2] at h
    replace q2 := eq_false q2
    by_cases q5 : (w (a + 1)) = 1
    · rw [if_pos q5] at h
      by_cases q6 : some1 = true
      · rw [if_pos q6] at h
        by_cases q7 : v1_0 < list1.Cost
        · rw [if_pos q7] at h
          refine Eq.trans ?_ h
          clear h
          simp +decide [*, Zb5]
        · rw [if_neg q7] at h
          refine Eq.trans ?_ h
          clear h
          simp +decide [*, Zb5]
      · rw [if_neg q6] at h
        refine Eq.trans ?_ h
        clear h
        simp +decide [*, Zb5]
    · rw [if_neg q5] at h
      replace q5 := eq_false q5
      by_cases q8 : (w (a + 1)) = 2
      · rw [if_pos q8] at h
        by_cases q9 : some2 = true
        · rw [if_pos q9] at h
          by_cases q10 : v1_0 < list2.Cost
          · rw [if_pos q10] at h
            refine Eq.trans ?_ h
            clear h
            simp +decide [*, Zb5]
          · rw [if_neg q10] at h
            refine Eq.trans ?_ h
            clear h
            simp +decide [*, Zb5]
        · rw [if_neg q9] at h
          refine Eq.trans ?_ h
          clear h
          simp +decide [*, Zb5]
      · rw [if_neg q8] at h
        replace q8 := eq_false q8
        by_cases q11 : (w (a + 1)) = 3
        · rw [if_pos q11] at h
          by_cases q12 : some3 = true
          · rw [if_pos q12] at h
            by_cases q13 : v1_0 < list3.Cost
            · rw [if_pos q13] at h
              refine Eq.trans ?_ h
              clear h
              simp +decide [*, Zb5]
            · rw [if_neg q13] at h
              refine Eq.trans ?_ h
              clear h
              simp +decide [*, Zb5]
          · rw [if_neg q12] at h
            refine Eq.trans ?_ h
            clear h
            simp +decide [*, Zb5]
        · rw [if_neg q11] at h
          replace q11 := eq_false q11
          by_cases q14 : (w (a + 1)) = 4
          · rw [if_pos q14] at h
            by_cases q15 : some4 = true
            · rw [if_pos q15] at h
              by_cases q16 : v1_0 < list4.Cost
              · rw [if_pos q16] at h
                refine Eq.trans ?_ h
                clear h
                simp +decide [*, Zb5]
              · rw [if_neg q16] at h
                refine Eq.trans ?_ h
                clear h
                simp +decide [*, Zb5]
            · rw [if_neg q15] at h
              refine Eq.trans ?_ h
              clear h
              simp +decide [*, Zb5]
          · rw [if_neg q14] at h
            replace q14 := eq_false q14
            cases h
theorem Zyd (q : Zb) (out : List Int) (mask : Int) (x : Int) (r : AV × List Blk) (h : (if x < mask then (if (andI x mask) = x then (∃ (v1_0 : Bool), Zd0 q x = some (Bo v1_0, []) ∧ (if v1_0 = true then (∃ (v2_0 : Bool), Zd0 q (andNotI mask x) = some (Bo v2_0, []) ∧ (if v2_0 = true then (out.length + 1 ≤ 68719476736 ∧ (Zdh q (out ++ [x]) mask (w (x + 1)) = some r)) else (Zdh q out mask (w (x + 1)) = some r))) else (Zdh q out mask (w (x + 1)) = some r))) else (Zdh q out mask (w (x + 1)) = some r)) else (some (.own 0, [.arr 3 1 true (out.map ic)]) = some r))) : Zdh q out mask x = some r := by
  unfold Zdh
  rw [EvL_eq Zpb.eq_1]
  simp only [Zd0, Zb.c_def, mpl, dfs] at h
  try simp only [itb] at h
  try simp only [itf, List.getElem?_eq_some_iff, kk] at h
  rcases h with ⟨q1, (⟨q2, v1_0, q3, (⟨q4, v2_0, q5, (⟨q6, q7, h⟩ | ⟨q6, h⟩)⟩ | ⟨q4, h⟩)⟩ | ⟨q2, h⟩)⟩ | ⟨q1, h⟩
  all_goals (refine Eq.trans ?_ h; clear h; simp +decide [*, kk, Zdh, Zux, Zpc])
theorem Z9a (a : Zb) (a1 : Int) (r : AV × List Blk) (h : (∃ (v1_0 : Bool), Zg2 a a1 = some (Bo v1_0, []) ∧ (if v1_0 = true then (Zdh a ([] : List Int) a1 1 = some r) else (some (.t .nil, []) = some r)))) : Zc2 a a1 = some r := by
  unfold Zc2
  refine run Z52 rfl ?_
  simp only [Zg2, Zb.c_def, mpl, dfs] at h
  try simp only [itb] at h
  try simp only [itf, List.getElem?_eq_some_iff, kk] at h
  rcases h with ⟨v1_0, q1, (⟨q2, h⟩ | ⟨q2, h⟩)⟩
  all_goals (refine Eq.trans ?_ h; clear h; simp +decide [*, kk, Zuy, Zdh])
end Go.Proofs.YtbapkgocloaaeaaGreat
/- part: G6 -/
namespace Go.Proofs.YtbapkgocloaaeaaGreat
open Go.AM
theorem Zye (Mask : Int) (Order : Int) (Cost : Int) (best : Za) (x : List Za) (x1 : Int) (x2 : Int) (r : AV × List Blk) (h : (if x2 < x1 then (0 ≤ x2 ∧ (∃ (e1 : Za), x[x2.toNat]? = some e1 ∧ (if e1.Cost < best.Cost then (Zfo Mask Order Cost e1 x x1 (w (x2 + 1)) = some r) else (Zfo Mask Order Cost best x x1 (w (x2 + 1)) = some r)))) else (some (.agg (best.c.map .t), []) = some r))) : Zfo Mask Order Cost best x x1 x2 = some r := by
  unfold Zfo
  rw [EvL_eq Zj2.eq_1]
  try simp only [itb] at h
  try simp only [itf, List.getElem?_eq_some_iff, kk] at h
  rcases h with ⟨q1, q2, e1, ⟨g3, q3⟩, (⟨q4, h⟩ | ⟨q4, h⟩)⟩ | ⟨q1, h⟩
  all_goals (refine Eq.trans ?_ h; clear h; simp +decide [*, kk, Zfo, Zpd, Zj3])
theorem Z9b (a : List Za) (r : AV × List Blk) (h : (∃ (e1 : Za), a[0]? = some e1 ∧ (Zfo 0 0 0 e1 a (a.length : Int) 0 = some r))) : Zfn a = some r := by
  unfold Zfn
  refine run Zxh rfl ?_
  try simp only [itb] at h
  try simp only [itf, List.getElem?_eq_some_iff, kk] at h
  rcases h with ⟨e1, ⟨g1, q1⟩, h⟩
  all_goals (refine Eq.trans ?_ h; clear h; simp +decide [*, kk, Zpe, Zfo])
theorem Z9c (a : Plan) (r : AV × List Blk) (h : (a.Steps.length ≤ 68719476736 ∧ (some (.agg [.own 0], [.arr 142 3 true (a.Steps.map Zc.c)]) = some r))) : Zdi a = some r := by
  unfold Zdi
  refine run Z53 rfl ?_
  rcases h with ⟨q1, h⟩
  all_goals (refine Eq.trans ?_ h; clear h; simp +decide [*, kk, Zuz])
theorem Z9d (a : Plan) (a1 : Plan) (a2 : Int) (a3 : Int) (r : AV × List Blk) (h : (∃ (v1_0 : List Zc), Zdi a = some (.agg [.own 0], [.arr 142 3 true (v1_0.map Zc.c)]) ∧ (v1_0.length + a1.Steps.length ≤ 68719476736 ∧ (v1_0.length + a1.Steps.length + 1 ≤ 68719476736 ∧ (some (.agg [.own 0], [.arr 142 3 true (((v1_0 ++ a1.Steps) ++ [(⟨a2, 0, a3⟩ : Zc)]).map Zc.c)]) = some r))))) : Zc3 a a1 a2 a3 = some r := by
  unfold Zc3
  refine run Z54 rfl ?_
  simp only [Zdi, Plan.c_def, mpl, dfs] at h
  rcases h with ⟨v1_0, q1, q2, q3, h⟩
  all_goals (refine Eq.trans ?_ h; clear h; simp +decide [*, kk, Zu0])
theorem Zdr (m : Zd) (q : Zb) (sizes : List Int) (mask : Int) (list0 : Za) (list1 : Za) (list2 : Za) (list3 : Za) (list4 : Za) (some0 : Bool) (some1 : Bool) (some2 : Bool) (some3 : Bool) (some4 : Bool) (fr : Bool) (out : List Za) (x0 : Bool) (x1 : Bool) (x2 : Bool) (x3 : Bool) (x4 : Bool) (x : Int) (r : AV × List Blk) (h : (if x < 5 then (if x = 0 then (if x0 = true then (out.length + 1 ≤ 68719476736 ∧ (Z6 m q sizes mask list0 list1 list2 list3 list4 some0 some1 some2 some3 some4 false (out ++ [list0]) true x1 x2 x3 x4 (w (x + 1)) = some r)) else (Z6 m q sizes mask list0 list1 list2 list3 list4 some0 some1 some2 some3 some4 fr out false x1 x2 x3 x4 (w (x + 1)) = some r)) else (if x = 1 then (if x1 = true then (out.length + 1 ≤ 68719476736 ∧ (Z6 m q sizes mask list0 list1 list2 list3 list4 some0 some1 some2 some3 some4 false (out ++ [list1]) x0 true x2 x3 x4 (w (x + 1)) = some r)) else (Z6 m q sizes mask list0 list1 list2 list3 list4 some0 some1 some2 some3 some4 fr out x0 false x2 x3 x4 (w (x + 1)) = some r)) else (if x = 2 then (if x2 = true then (out.length + 1 ≤ 68719476736 ∧ (Z6 m q sizes mask list0 list1 list2 list3 list4 some0 some1 some2 some3 some4 false (out ++ [list2]) x0 x1 true x3 x4 (w (x + 1)) = some r)) else (Z6 m q sizes mask list0 list1 list2 list3 list4 some0 some1 some2 some3 some4 fr out x0 x1 false x3 x4 (w (x + 1)) = some r)) else (if x = 3 then (if x3 = true then (out.length + 1 ≤ 68719476736 ∧ (Z6 m q sizes mask list0 list1 list2 list3 list4 some0 some1 some2 some3 some4 false (out ++ [list3]) x0 x1 x2 true x4 (w (x + 1)) = some r)) else (Z6 m q sizes mask list0 list1 list2 list3 list4 some0 some1 some2 some3 some4 fr out x0 x1 x2 false x4 (w (x + 1)) = some r)) else (if x = 4 then (if x4 = true then (out.length + 1 ≤ 68719476736 ∧ (Z6 m q sizes mask list0 list1 list2 list3 list4 some0 some1 some2 some3 some4 false (out ++ [list4]) x0 x1 x2 x3 true (w (x + 1)) = some r)) else (Z6 m q sizes mask list0 list1 list2 list3 list4 some0 some1 some2 some3 some4 fr out x0 x1 x2 x3 false (w (x + 1)) = some r)) else False))))) else (some (.own 1, [boxO m q sizes mask list0 list1 list2 list3 list4 some0 some1 some2 some3 some4, .arr 174 4 fr (out.map Za.c)]) = some r))) : Z6 m q sizes mask list0 list1 list2 list3 list4 some0 some1 some2 some3 some4 fr out x0 x1 x2 x3 x4 x = some r := by
  unfold Z6
  rw [EvL_eq Zpf.eq_1]
  by_cases q1 : x < 5
  · rw [if_pos q1] at h
    by_cases q2 : x = 0
    · rw [if_pos q2] at h
      subst q2
      by_cases q3 : x0 = true
      · rw [if_pos q3] at h
        obtain ⟨q4, h⟩ := h
        have rq4 := roomA (b := 48) q4 (by omega)
        have sq4 := roomB q4
        try simp [*] at rq4
        try simp [*] at sq4
        refine Eq.trans ?_ h
        clear h
        simp +decide [*, Z6, Zdj]
      · rw [if_neg q3] at h
        refine Eq.trans ?_ h
        clear h
        simp +decide [*, Z6, Zdj]
    · rw [if_neg q2] at h
      replace q2 := eq_false q2
      by_cases q5 : x = 1
      · rw [if_pos q5] at h
        subst q5
        by_cases q6 : x1 = true
        · rw [if_pos q6] at h
          obtain ⟨q7, h⟩ := h
          have rq7 := roomA (b := 48) q7 (by omega)
          have sq7 := roomB q7
          try simp [*] at rq7
          try simp [*] at sq7
          refine Eq.trans ?_ h
          clear h
          simp +decide [*, Z6, Zdj]
        · rw [if_neg q6] at h
          refine Eq.trans ?_ h
          clear h
          simp +decide [*, Z6, Zdj]
      · rw [if_neg q5] at h
        replace q5 := eq_false q5
        by_cases q8 : x = 2
        · rw [if_pos q8] at h
          subst q8
          by_cases q9 : x2 = true
          · rw [if_pos q9] at h
            obtain ⟨q10, h⟩ := h
            have rq10 := roomA (b := 48) q10 (by omega)
            have sq10 := roomB q10
            try simp [*] at rq10
            try simp [*] at sq10
            refine Eq.trans ?_ h
            clear h
            simp +decide [*, Z6, Zdj]
          · rw [if_neg q9] at h
            refine Eq.trans ?_ h
            clear h
            simp +decide [*, Z6, Zdj]
        · rw [if_neg q8] at h
          replace q8 := eq_false q8
          by_cases q11 : x = 3
          · rw [if_pos q11] at h
            subst q11
            by_cases q12 : x3 = true
            · rw [if_pos q12] at h
              obtain ⟨q13, h⟩ := h
              have rq13 := roomA (b := 48) q13 (by omega)
              have sq13 := roomB q13
              try simp [*] at rq13
              try simp [*] at sq13
              refine Eq.trans ?_ h
              clear h
              simp +decide [*, Z6, Zdj]
            · rw [if_neg q12] at h
              refine Eq.trans ?_ h
              clear h
              simp +decide [*, Z6, Zdj]
          · rw [if_neg q11] at h
            replace q11 := eq_false q11
            by_cases q14 : x = 4
            · rw [if_pos q14] at h
              subst q14
              by_cases q15 : x4 = true
              · rw [if_pos q15] at h
                obtain ⟨q16, h⟩ := h
                have rq16 := roomA (b := 48) q16 (by omega)
                have sq16 := roomB q16
                try simp [*] at rq16
                try simp [*] at sq16
                refine Eq.trans ?_ h
                clear h
                simp +decide [*, Z6, Zdj]
              · rw [if_neg q15] at h
                refine Eq.trans ?_ h
                clear h
                simp +decide [*, Z6, Zdj]
            · rw [if_neg q14] at h
              replace q14 := eq_false q14
              cases h
  · rw [if_neg q1] at h
    refine Eq.trans ?_ h
    clear h
    simp +decide [*, Zpg]
theorem Z9e (m : Zd) (q : Zb) (sizes : List Int) (mask : Int) (list0 : Za) (list1 : Za) (list2 : Za) (list3 : Za) (list4 : Za) (some0 : Bool) (some1 : Bool) (some2 : Bool) (some3 : Bool) (some4 : Bool) (r : AV × List Blk) (h : (Z6 m q sizes mask list0 list1 list2 list3 list4 some0 some1 some2 some3 some4 true ([] : List Za) some0 some1 some2 some3 some4 0 = some r)) : Zj4 m q sizes mask list0 list1 list2 list3 list4 some0 some1 some2 some3 some4 = some r := by
  unfold Zj4
  refine runM Z55 rfl ?_
  refine Eq.trans ?_ h; clear h; simp +decide [*, kk, Zu1, Z6]
theorem Z9f (a : Zb) (a1 : Int) (r : AV × List Blk) (h : (∃ (v1_0 : Bool), Zg0 a a1 = some (Bo v1_0, []) ∧ (if v1_0 = true then (∃ (v2_0 : List Int), Zde a a1 = some (.own 0, [.arr 3 1 true (v2_0.map ic)]) ∧ (some (.own 0, [.arr 3 1 true (v2_0.map ic)]) = some r)) else (some (.t .nil, []) = some r)))) : Zd3 a a1 = some r := by
  unfold Zd3
  refine run Z56 rfl ?_
  simp only [Zg0, Zde, Zb.c_def, mpl, dfs] at h
  try simp only [itb] at h
  try simp only [itf, List.getElem?_eq_some_iff, kk] at h
  rcases h with ⟨v1_0, q1, (⟨q2, v2_0, q3, h⟩ | ⟨q2, h⟩)⟩
  all_goals (refine Eq.trans ?_ h; clear h; simp +decide [*, kk, Zu2])
theorem Z9g (a : Zb) (a1 : Int) (a2 : Int) (r : AV × List Blk) (h : ((∃ (v1_0 : List Int), Zd3 a a1 = some (.own 0, [.arr 3 1 true (v1_0.map ic)]) ∧ ((∃ (v2_0 : List Int), Zd3 a a2 = some (.own 0, [.arr 3 1 true (v2_0.map ic)]) ∧ (∃ (v3_0 : List Int), Zei v1_0 v2_0 = some (.own 0, [.arr 3 1 true (v3_0.map ic)]) ∧ (some (.own 0, [.arr 3 1 true (v3_0.map ic)]) = some r))) ∨ (Zd3 a a2 = some (.t .nil, []) ∧ (∃ (v5_0 : List Int), Zu3 v1_0 = some (.own 0, [.arr 3 1 true (v5_0.map ic)]) ∧ (some (.own 0, [.arr 3 1 true (v5_0.map ic)]) = some r))))) ∨ (Zd3 a a1 = some (.t .nil, []) ∧ ((∃ (v7_0 : List Int), Zd3 a a2 = some (.own 0, [.arr 3 1 true (v7_0.map ic)]) ∧ (∃ (v8_0 : List Int), Zu4 v7_0 = some (.own 0, [.arr 3 1 true (v8_0.map ic)]) ∧ (some (.own 0, [.arr 3 1 true (v8_0.map ic)]) = some r))) ∨ (Zd3 a a2 = some (.t .nil, []) ∧ (∃ (v10_0 : List Int), Zu5 = some (.own 0, [.arr 3 1 true (v10_0.map ic)]) ∧ (some (.own 0, [.arr 3 1 true (v10_0.map ic)]) = some r))))))) : Zha a a1 a2 = some r := by
  unfold Zha
  refine run Z57 rfl ?_
  simp only [Zd3, Zei, Zu3, Zu4, Zu5, Zb.c_def, mpl, dfs] at h
  rcases h with ⟨v1_0, q2, (⟨v2_0, q4, v3_0, q5, h⟩ | ⟨q6, v5_0, q7, h⟩)⟩ | ⟨q8, (⟨v7_0, q10, v8_0, q11, h⟩ | ⟨q12, v10_0, q13, h⟩)⟩
  all_goals (refine Eq.trans ?_ h; clear h; simp +decide [*, kk, Zu6])
theorem Z9h (a : Plan) (a1 : Int) (r : AV × List Blk) (h : (∃ (v1_0 : List Zc), Zdi a = some (.agg [.own 0], [.arr 142 3 true (v1_0.map Zc.c)]) ∧ (v1_0.length + 1 ≤ 68719476736 ∧ (some (.agg [.own 0], [.arr 142 3 true ((v1_0 ++ [(⟨2, 0, a1⟩ : Zc)]).map Zc.c)]) = some r)))) : Zj5 a a1 = some r := by
  unfold Zj5
  refine run Z58 rfl ?_
  simp only [Zdi, Plan.c_def, mpl, dfs] at h
  rcases h with ⟨v1_0, q1, q2, h⟩
  all_goals (refine Eq.trans ?_ h; clear h; simp +decide [*, kk, Zu7])
theorem Zmz (m : Zd) (q : Zb) (x : List Zc) (sizes : List Int) (v : Int) (x1 : List Za) (x2 : Int) (x3 : Int) (r : AV × List Blk) (h : (if x3 < x2 then (0 ≤ x3 ∧ (∃ (e1 : Za), x1[x3.toNat]? = some e1 ∧ (if e1.Order = v then (∃ (v2_0 : Int), Zew m q (⟨x⟩ : Plan) sizes = some (I v2_0, []) ∧ (if e1.Cost ≤ v2_0 then (some (.agg (e1.Plan.c.map .t), []) = some r) else (Zfp m q x sizes v x1 x2 (w (x3 + 1)) = some r))) else (Zfp m q x sizes v x1 x2 (w (x3 + 1)) = some r)))) else (some (.agg [.own 0], [.arr 142 3 true (x.map Zc.c)]) = some r))) : Zfp m q x sizes v x1 x2 x3 = some r := by
  unfold Zfp
  rw [EvL_eq Zph.eq_1]
  simp only [Zew, Zd.c_def, Zh.c_def, Plan.c_def, Zb.c_def, mpl, dfs] at h
  try simp only [itb] at h
  try simp only [itf, List.getElem?_eq_some_iff, kk] at h
  rcases h with ⟨q1, q2, e1, ⟨g3, q3⟩, (⟨q4, v2_0, q5, (⟨q6, h⟩ | ⟨q6, h⟩)⟩ | ⟨q4, h⟩)⟩ | ⟨q1, h⟩
  all_goals (refine Eq.trans ?_ h; clear h; simp +decide [*, kk, Zfp, Zpi])
theorem Zyf (a : Zd) (a1 : Zb) (a2 : List Int) (a3 : List Za) (a4 : Int) (r : AV × List Blk) (h : (∃ (v1_0 : Za), Zfn a3 = some (.agg (v1_0.c.map .t), []) ∧ (if v1_0.Order = a4 then (some (.agg (v1_0.Plan.c.map .t), []) = some r) else (∃ (v2_0 : List Zc), Zj5 v1_0.Plan a4 = some (.agg [.own 0], [.arr 142 3 true (v2_0.map Zc.c)]) ∧ (Zfp a a1 v2_0 a2 a4 a3 (a3.length : Int) 0 = some r))))) : Zc4 a a1 a2 a3 a4 = some r := by
  unfold Zc4
  refine run Z59 rfl ?_
  simp only [Zfn, Zj5, Plan.c_def, Za.c_def, mpl, dfs] at h
  try simp only [itb] at h
  try simp only [itf, List.getElem?_eq_some_iff, kk] at h
  rcases h with ⟨v1_0, q1, (⟨q2, h⟩ | ⟨q2, v2_0, q3, h⟩)⟩
  all_goals (refine Eq.trans ?_ h; clear h; simp +decide [*, kk, Zu8, Zfp])
end Go.Proofs.YtbapkgocloaaeaaGreat
/- part: G7 -/
namespace Go.Proofs.YtbapkgocloaaeaaGreat
open Go.AM
theorem Zyg (m : Zd) (q : Zb) (fr : Bool) (table : List (List Za)) (fr1 : Bool) (out : List Za) (x : List Int) (sizes : List Int) (x1 : Int) (x2 : Int) (r : AV × List Blk) (h : (if x2 < x1 then (0 ≤ x2 ∧ (∃ (e1 : Int), x[x2.toNat]? = some e1 ∧ ((Zii e1 = some (.t .nil, []) ∧ ((Zc2 q e1 = some (.t .nil, []) ∧ (Zj6 m q fr table fr1 out m q sizes e1 (⟨0, 0, 0, (⟨[]⟩ : Plan)⟩ : Za) (⟨0, 0, 0, (⟨[]⟩ : Plan)⟩ : Za) (⟨0, 0, 0, (⟨[]⟩ : Plan)⟩ : Za) (⟨0, 0, 0, (⟨[]⟩ : Plan)⟩ : Za) (⟨0, 0, 0, (⟨[]⟩ : Plan)⟩ : Za) false false false false false x sizes e1 x1 x2 0 0 = some r)) ∨ (∃ (v4_0 : List Int), Zc2 q e1 = some (.own 0, [.arr 3 1 true (v4_0.map ic)]) ∧ (Zc5 m q fr table fr1 out m q sizes e1 (⟨0, 0, 0, (⟨[]⟩ : Plan)⟩ : Za) (⟨0, 0, 0, (⟨[]⟩ : Plan)⟩ : Za) (⟨0, 0, 0, (⟨[]⟩ : Plan)⟩ : Za) (⟨0, 0, 0, (⟨[]⟩ : Plan)⟩ : Za) (⟨0, 0, 0, (⟨[]⟩ : Plan)⟩ : Za) false false false false false x v4_0 sizes e1 x1 x2 (v4_0.length : Int) 0 = some r)))) ∨ (∃ (v5_0 : List Int), Zii e1 = some (.own 0, [.arr 3 1 true (v5_0.map ic)]) ∧ (if (v5_0.length : Int) = 1 then (∃ (e6 : Int), v5_0[0]? = some e6 ∧ (∃ (v7_0 : List Zc), Zj1 e6 = some (.agg [.own 0], [.arr 142 3 true (v7_0.map Zc.c)]) ∧ (0 ≤ e6 ∧ (∃ (e8 : Atom), q.Atoms[e6.toNat]? = some e8 ∧ (∃ (e9 : Int), e8.Vars[0]? = some e9 ∧ ((∃ (v10_0 : Zd) (v10_1 : Zb) (v10_2 : List Int) (v10_3 : Int) (v10_4 : Za) (v10_5 : Za) (v10_6 : Za) (v10_7 : Za) (v10_8 : Za) (v10_9 : Bool) (v10_10 : Bool) (v10_11 : Bool) (v10_12 : Bool) (v10_13 : Bool), Zbi m q sizes e1 (⟨0, 0, 0, (⟨[]⟩ : Plan)⟩ : Za) (⟨0, 0, 0, (⟨[]⟩ : Plan)⟩ : Za) (⟨0, 0, 0, (⟨[]⟩ : Plan)⟩ : Za) (⟨0, 0, 0, (⟨[]⟩ : Plan)⟩ : Za) (⟨0, 0, 0, (⟨[]⟩ : Plan)⟩ : Za) false false false false false v7_0 e9 = some (.tup [], [boxO v10_0 v10_1 v10_2 v10_3 v10_4 v10_5 v10_6 v10_7 v10_8 v10_9 v10_10 v10_11 v10_12 v10_13, .dead]) ∧ ((Zc2 q e1 = some (.t .nil, []) ∧ (Zj6 m q fr table fr1 out v10_0 v10_1 v10_2 v10_3 v10_4 v10_5 v10_6 v10_7 v10_8 v10_9 v10_10 v10_11 v10_12 v10_13 x sizes e1 x1 x2 0 0 = some r)) ∨ (∃ (v12_0 : List Int), Zc2 q e1 = some (.own 0, [.arr 3 1 true (v12_0.map ic)]) ∧ (Zc5 m q fr table fr1 out v10_0 v10_1 v10_2 v10_3 v10_4 v10_5 v10_6 v10_7 v10_8 v10_9 v10_10 v10_11 v10_12 v10_13 x v12_0 sizes e1 x1 x2 (v12_0.length : Int) 0 = some r)))) ∨ (∃ (v13_0 : Zd) (v13_1 : Zb) (v13_2 : List Int) (v13_3 : Int) (v13_4 : Za) (v13_5 : Za) (v13_6 : Za) (v13_7 : Za) (v13_8 : Za) (v13_9 : Bool) (v13_10 : Bool) (v13_11 : Bool) (v13_12 : Bool) (v13_13 : Bool) (v13_14 : List Zc), Zbi m q sizes e1 (⟨0, 0, 0, (⟨[]⟩ : Plan)⟩ : Za) (⟨0, 0, 0, (⟨[]⟩ : Plan)⟩ : Za) (⟨0, 0, 0, (⟨[]⟩ : Plan)⟩ : Za) (⟨0, 0, 0, (⟨[]⟩ : Plan)⟩ : Za) (⟨0, 0, 0, (⟨[]⟩ : Plan)⟩ : Za) false false false false false v7_0 e9 = some (.tup [], [boxO v13_0 v13_1 v13_2 v13_3 v13_4 v13_5 v13_6 v13_7 v13_8 v13_9 v13_10 v13_11 v13_12 v13_13, .arr 142 3 true (v13_14.map Zc.c)]) ∧ ((Zc2 q e1 = some (.t .nil, []) ∧ (Zj6 m q fr table fr1 out v13_0 v13_1 v13_2 v13_3 v13_4 v13_5 v13_6 v13_7 v13_8 v13_9 v13_10 v13_11 v13_12 v13_13 x sizes e1 x1 x2 0 0 = some r)) ∨ (∃ (v15_0 : List Int), Zc2 q e1 = some (.own 0, [.arr 3 1 true (v15_0.map ic)]) ∧ (Zc5 m q fr table fr1 out v13_0 v13_1 v13_2 v13_3 v13_4 v13_5 v13_6 v13_7 v13_8 v13_9 v13_10 v13_11 v13_12 v13_13 x v15_0 sizes e1 x1 x2 (v15_0.length : Int) 0 = some r)))))))))) else ((Zc2 q e1 = some (.t .nil, []) ∧ (Zj6 m q fr table fr1 out m q sizes e1 (⟨0, 0, 0, (⟨[]⟩ : Plan)⟩ : Za) (⟨0, 0, 0, (⟨[]⟩ : Plan)⟩ : Za) (⟨0, 0, 0, (⟨[]⟩ : Plan)⟩ : Za) (⟨0, 0, 0, (⟨[]⟩ : Plan)⟩ : Za) (⟨0, 0, 0, (⟨[]⟩ : Plan)⟩ : Za) false false false false false x sizes e1 x1 x2 0 0 = some r)) ∨ (∃ (v17_0 : List Int), Zc2 q e1 = some (.own 0, [.arr 3 1 true (v17_0.map ic)]) ∧ (Zc5 m q fr table fr1 out m q sizes e1 (⟨0, 0, 0, (⟨[]⟩ : Plan)⟩ : Za) (⟨0, 0, 0, (⟨[]⟩ : Plan)⟩ : Za) (⟨0, 0, 0, (⟨[]⟩ : Plan)⟩ : Za) (⟨0, 0, 0, (⟨[]⟩ : Plan)⟩ : Za) (⟨0, 0, 0, (⟨[]⟩ : Plan)⟩ : Za) false false false false false x v17_0 sizes e1 x1 x2 (v17_0.length : Int) 0 = some r)))))))) else (Zhd fr1 out (out.length : Int) 0 = some r))) : Zex m q fr table fr1 out x sizes x1 x2 = some r := by
  unfold Zex
  rw [EvL_eq Zhb.eq_1]
  simp only [Zii, Zc2, Zj1, Zbi, Zd.c_def, Zh.c_def, Plan.c_def, Za.c_def, Zc.c_def, Zb.c_def, mpl, dfs, Zjg] at h
  try simp only [itb] at h
  try simp only [itf, List.getElem?_eq_some_iff, kk] at h
  rcases h with ⟨q1, q2, e1, ⟨g3, q3⟩, (⟨q5, (⟨q7, h⟩ | ⟨v4_0, q8, h⟩)⟩ | ⟨v5_0, q9, (⟨q10, e6, ⟨g11, q11⟩, v7_0, q12, q13, e8, ⟨g14, q14⟩, e9, ⟨g15, q15⟩, (⟨v10_0, v10_1, v10_2, v10_3, v10_4, v10_5, v10_6, v10_7, v10_8, v10_9, v10_10, v10_11, v10_12, v10_13, q17, (⟨q19, h⟩ | ⟨v12_0, q20, h⟩)⟩ | ⟨v13_0, v13_1, v13_2, v13_3, v13_4, v13_5, v13_6, v13_7, v13_8, v13_9, v13_10, v13_11, v13_12, v13_13, v13_14, q21, (⟨q23, h⟩ | ⟨v15_0, q24, h⟩)⟩)⟩ | ⟨q10, (⟨q26, h⟩ | ⟨v17_0, q27, h⟩)⟩)⟩)⟩ | ⟨q1, h⟩
  all_goals (refine Eq.trans ?_ h; clear h; simp +decide [*, kk, Zj6, Zu9, Zc5, Zhd, Zhc])
theorem Zyh (m : Zd) (q : Zb) (fr : Bool) (table : List (List Za)) (fr1 : Bool) (out : List Za) (m_1 : Zd) (q_1 : Zb) (sizes : List Int) (mask : Int) (list0 : Za) (list1 : Za) (list2 : Za) (list3 : Za) (list4 : Za) (some0 : Bool) (some1 : Bool) (some2 : Bool) (some3 : Bool) (some4 : Bool) (x : List Int) (x1 : List Int) (sizes1 : List Int) (mask1 : Int) (x2 : Int) (x3 : Int) (x4 : Int) (x5 : Int) (r : AV × List Blk) (h : (if x5 < x4 then (0 ≤ x5 ∧ (∃ (e1 : Int), x1[x5.toNat]? = some e1 ∧ (0 ≤ e1 ∧ (∃ (e2 : List Za), table[e1.toNat]? = some e2 ∧ (0 ≤ (andNotI mask1 e1) ∧ (∃ (e3 : List Za), table[(andNotI mask1 e1).toNat]? = some e3 ∧ (∃ (v4_0 : Za), Zfn e3 = some (.agg (v4_0.c.map .t), []) ∧ (∃ (v5_0 : Za), Zfn e2 = some (.agg (v5_0.c.map .t), []) ∧ (∃ (v6_0 : List Zc), Zc3 v5_0.Plan v4_0.Plan 3 0 = some (.agg [.own 0], [.arr 142 3 true (v6_0.map Zc.c)]) ∧ ((∃ (v7_0 : Zd) (v7_1 : Zb) (v7_2 : List Int) (v7_3 : Int) (v7_4 : Za) (v7_5 : Za) (v7_6 : Za) (v7_7 : Za) (v7_8 : Za) (v7_9 : Bool) (v7_10 : Bool) (v7_11 : Bool) (v7_12 : Bool) (v7_13 : Bool), Zbi m_1 q_1 sizes mask list0 list1 list2 list3 list4 some0 some1 some2 some3 some4 v6_0 (-1) = some (.tup [], [boxO v7_0 v7_1 v7_2 v7_3 v7_4 v7_5 v7_6 v7_7 v7_8 v7_9 v7_10 v7_11 v7_12 v7_13, .dead]) ∧ (Zd4 m q fr table fr1 out v7_0 v7_1 v7_2 v7_3 v7_4 v7_5 v7_6 v7_7 v7_8 v7_9 v7_10 v7_11 v7_12 v7_13 v4_0.Plan x x1 sizes1 mask1 e1 e2 e3 x2 x3 x4 x5 e2 (e2.length : Int) 0 = some r)) ∨ (∃ (v8_0 : Zd) (v8_1 : Zb) (v8_2 : List Int) (v8_3 : Int) (v8_4 : Za) (v8_5 : Za) (v8_6 : Za) (v8_7 : Za) (v8_8 : Za) (v8_9 : Bool) (v8_10 : Bool) (v8_11 : Bool) (v8_12 : Bool) (v8_13 : Bool) (v8_14 : List Zc), Zbi m_1 q_1 sizes mask list0 list1 list2 list3 list4 some0 some1 some2 some3 some4 v6_0 (-1) = some (.tup [], [boxO v8_0 v8_1 v8_2 v8_3 v8_4 v8_5 v8_6 v8_7 v8_8 v8_9 v8_10 v8_11 v8_12 v8_13, .arr 142 3 true (v8_14.map Zc.c)]) ∧ (Zd4 m q fr table fr1 out v8_0 v8_1 v8_2 v8_3 v8_4 v8_5 v8_6 v8_7 v8_8 v8_9 v8_10 v8_11 v8_12 v8_13 v4_0.Plan x x1 sizes1 mask1 e1 e2 e3 x2 x3 x4 x5 e2 (e2.length : Int) 0 = some r)))))))))))) else (∃ (v9_0 : Bool) (v9_1 : List Za), Zj4 m_1 q_1 sizes mask list0 list1 list2 list3 list4 some0 some1 some2 some3 some4 = some (.own 1, [boxO m_1 q_1 sizes mask list0 list1 list2 list3 list4 some0 some1 some2 some3 some4, .arr 174 4 v9_0 (v9_1.map Za.c)]) ∧ (0 ≤ mask1 ∧ (∃ (e10 : List Za), table[mask1.toNat]? = some e10 ∧ (out.length + v9_1.length ≤ 68719476736 ∧ (Zex m q (fr && v9_0) (table.set mask1.toNat v9_1) (fr1 && flat (v9_1.map Za.c)) (out ++ v9_1) x sizes1 x2 (w (x3 + 1)) = some r))))))) : Zc5 m q fr table fr1 out m_1 q_1 sizes mask list0 list1 list2 list3 list4 some0 some1 some2 some3 some4 x x1 sizes1 mask1 x2 x3 x4 x5 = some r := by
  unfold Zc5
  rw [EvL_eq Zij.eq_1]
  simp only [Zfn, Zc3, Zbi, Zj4, Zd.c_def, Zh.c_def, Plan.c_def, Za.c_def, Zc.c_def, Zb.c_def, mpl, dfs, Zjg] at h
  try simp only [itb] at h
  try simp only [itf, List.getElem?_eq_some_iff, kk] at h
  rcases h with ⟨q1, q2, e1, ⟨g3, q3⟩, q4, e2, ⟨g5, q5⟩, q6, e3, ⟨g7, q7⟩, v4_0, q8, v5_0, q9, v6_0, q10, (⟨v7_0, v7_1, v7_2, v7_3, v7_4, v7_5, v7_6, v7_7, v7_8, v7_9, v7_10, v7_11, v7_12, v7_13, q12, h⟩ | ⟨v8_0, v8_1, v8_2, v8_3, v8_4, v8_5, v8_6, v8_7, v8_8, v8_9, v8_10, v8_11, v8_12, v8_13, v8_14, q13, h⟩)⟩ | ⟨q1, v9_0, v9_1, q14, q15, e10, ⟨g16, q16⟩, q17, h⟩
  all_goals (refine Eq.trans ?_ h; clear h; simp +decide [*, kk, Zd4, Zex, Zil, Zik])
theorem Zyi (fr : Bool) (out : List Za) (x : Int) (x1 : Int) (r : AV × List Blk) (h : (if x1 < x then (0 ≤ x1 ∧ (∃ (e1 : Za), out[x1.toNat]? = some e1 ∧ (∃ (v2_0 : List Zc), Zdi e1.Plan = some (.agg [.own 0], [.arr 142 3 true (v2_0.map Zc.c)]) ∧ (Zhd fr (out.set x1.toNat (⟨e1.Mask, e1.Order, e1.Cost, (⟨v2_0⟩ : Plan)⟩ : Za)) x (w (x1 + 1)) = some r)))) else (some (.own 0, [.arr 174 4 fr (out.map Za.c)]) = some r))) : Zhd fr out x x1 = some r := by
  unfold Zhd
  rw [EvL_eq Zpm.eq_1]
  simp only [Zdi, Plan.c_def, mpl, dfs, Zjg] at h
  try simp only [itb] at h
  try simp only [itf, List.getElem?_eq_some_iff, kk] at h
  rcases h with ⟨q1, q2, e1, ⟨g3, q3⟩, v2_0, q4, h⟩ | ⟨q1, h⟩
  all_goals (refine Eq.trans ?_ h; clear h; simp +decide [*, kk, Zhd, Zpn])
theorem Zyj (m : Zd) (q : Zb) (fr : Bool) (table : List (List Za)) (fr1 : Bool) (out : List Za) (m_1 : Zd) (q_1 : Zb) (sizes : List Int) (mask : Int) (list0 : Za) (list1 : Za) (list2 : Za) (list3 : Za) (list4 : Za) (some0 : Bool) (some1 : Bool) (some2 : Bool) (some3 : Bool) (some4 : Bool) (y : Plan) (x : List Int) (x1 : List Int) (sizes1 : List Int) (mask1 : Int) (x2 : Int) (left : List Za) (right : List Za) (x3 : Int) (x4 : Int) (x5 : Int) (x6 : Int) (x7 : List Za) (x8 : Int) (x9 : Int) (r : AV × List Blk) (h : (if x9 < x8 then (0 ≤ x9 ∧ (∃ (e1 : Za), x7[x9.toNat]? = some e1 ∧ (∃ (v2_0 : List Zc), Zc3 e1.Plan y 5 0 = some (.agg [.own 0], [.arr 142 3 true (v2_0.map Zc.c)]) ∧ ((∃ (v3_0 : Zd) (v3_1 : Zb) (v3_2 : List Int) (v3_3 : Int) (v3_4 : Za) (v3_5 : Za) (v3_6 : Za) (v3_7 : Za) (v3_8 : Za) (v3_9 : Bool) (v3_10 : Bool) (v3_11 : Bool) (v3_12 : Bool) (v3_13 : Bool), Zbi m_1 q_1 sizes mask list0 list1 list2 list3 list4 some0 some1 some2 some3 some4 v2_0 e1.Order = some (.tup [], [boxO v3_0 v3_1 v3_2 v3_3 v3_4 v3_5 v3_6 v3_7 v3_8 v3_9 v3_10 v3_11 v3_12 v3_13, .dead]) ∧ (Zd4 m q fr table fr1 out v3_0 v3_1 v3_2 v3_3 v3_4 v3_5 v3_6 v3_7 v3_8 v3_9 v3_10 v3_11 v3_12 v3_13 y x x1 sizes1 mask1 x2 left right x3 x4 x5 x6 x7 x8 (w (x9 + 1)) = some r)) ∨ (∃ (v4_0 : Zd) (v4_1 : Zb) (v4_2 : List Int) (v4_3 : Int) (v4_4 : Za) (v4_5 : Za) (v4_6 : Za) (v4_7 : Za) (v4_8 : Za) (v4_9 : Bool) (v4_10 : Bool) (v4_11 : Bool) (v4_12 : Bool) (v4_13 : Bool) (v4_14 : List Zc), Zbi m_1 q_1 sizes mask list0 list1 list2 list3 list4 some0 some1 some2 some3 some4 v2_0 e1.Order = some (.tup [], [boxO v4_0 v4_1 v4_2 v4_3 v4_4 v4_5 v4_6 v4_7 v4_8 v4_9 v4_10 v4_11 v4_12 v4_13, .arr 142 3 true (v4_14.map Zc.c)]) ∧ (Zd4 m q fr table fr1 out v4_0 v4_1 v4_2 v4_3 v4_4 v4_5 v4_6 v4_7 v4_8 v4_9 v4_10 v4_11 v4_12 v4_13 y x x1 sizes1 mask1 x2 left right x3 x4 x5 x6 x7 x8 (w (x9 + 1)) = some r)))))) else (∃ (v5_0 : List Int), Zha q x2 (andNotI mask1 x2) = some (.own 0, [.arr 3 1 true (v5_0.map ic)]) ∧ (Zcc m q fr table fr1 out m_1 q_1 sizes mask list0 list1 list2 list3 list4 some0 some1 some2 some3 some4 x x1 v5_0 sizes1 mask1 left right x3 x4 x5 x6 (v5_0.length : Int) 0 = some r)))) : Zd4 m q fr table fr1 out m_1 q_1 sizes mask list0 list1 list2 list3 list4 some0 some1 some2 some3 some4 y x x1 sizes1 mask1 x2 left right x3 x4 x5 x6 x7 x8 x9 = some r := by
  unfold Zd4
  rw [EvL_eq Zpj.eq_1]
  simp only [Zc3, Zbi, Zha, Zd.c_def, Zh.c_def, Plan.c_def, Za.c_def, Zc.c_def, Zb.c_def, mpl, dfs, Zjg] at h
  try simp only [itb] at h
  try simp only [itf, List.getElem?_eq_some_iff, kk] at h
  rcases h with ⟨q1, q2, e1, ⟨g3, q3⟩, v2_0, q4, (⟨v3_0, v3_1, v3_2, v3_3, v3_4, v3_5, v3_6, v3_7, v3_8, v3_9, v3_10, v3_11, v3_12, v3_13, q6, h⟩ | ⟨v4_0, v4_1, v4_2, v4_3, v4_4, v4_5, v4_6, v4_7, v4_8, v4_9, v4_10, v4_11, v4_12, v4_13, v4_14, q7, h⟩)⟩ | ⟨q1, v5_0, q8, h⟩
  all_goals (refine Eq.trans ?_ h; clear h; simp +decide [*, kk, Zd4, Zcc, Zpl])
theorem Zyk (m : Zd) (q : Zb) (fr : Bool) (table : List (List Za)) (fr1 : Bool) (out : List Za) (m_1 : Zd) (q_1 : Zb) (sizes : List Int) (mask : Int) (list0 : Za) (list1 : Za) (list2 : Za) (list3 : Za) (list4 : Za) (some0 : Bool) (some1 : Bool) (some2 : Bool) (some3 : Bool) (some4 : Bool) (x : List Int) (x1 : List Int) (x2 : List Int) (sizes1 : List Int) (mask1 : Int) (left : List Za) (right : List Za) (x3 : Int) (x4 : Int) (x5 : Int) (x6 : Int) (x7 : Int) (x8 : Int) (r : AV × List Blk) (h : (if x8 < x7 then (0 ≤ x8 ∧ (∃ (e1 : Int), x2[x8.toNat]? = some e1 ∧ ((∃ (v2_0 : Plan), Zc4 m q sizes1 left e1 = some (.agg (v2_0.c.map .t), []) ∧ ((∃ (v3_0 : Plan), Zc4 m q sizes1 right e1 = some (.agg (v3_0.c.map .t), []) ∧ (∃ (v4_0 : List Zc), Zc3 v2_0 v3_0 4 e1 = some (.agg [.own 0], [.arr 142 3 true (v4_0.map Zc.c)]) ∧ ((∃ (v5_0 : Zd) (v5_1 : Zb) (v5_2 : List Int) (v5_3 : Int) (v5_4 : Za) (v5_5 : Za) (v5_6 : Za) (v5_7 : Za) (v5_8 : Za) (v5_9 : Bool) (v5_10 : Bool) (v5_11 : Bool) (v5_12 : Bool) (v5_13 : Bool), Zbi m_1 q_1 sizes mask list0 list1 list2 list3 list4 some0 some1 some2 some3 some4 v4_0 e1 = some (.tup [], [boxO v5_0 v5_1 v5_2 v5_3 v5_4 v5_5 v5_6 v5_7 v5_8 v5_9 v5_10 v5_11 v5_12 v5_13, .dead]) ∧ (Zcc m q fr table fr1 out v5_0 v5_1 v5_2 v5_3 v5_4 v5_5 v5_6 v5_7 v5_8 v5_9 v5_10 v5_11 v5_12 v5_13 x x1 x2 sizes1 mask1 left right x3 x4 x5 x6 x7 (w (x8 + 1)) = some r)) ∨ (∃ (v6_0 : Zd) (v6_1 : Zb) (v6_2 : List Int) (v6_3 : Int) (v6_4 : Za) (v6_5 : Za) (v6_6 : Za) (v6_7 : Za) (v6_8 : Za) (v6_9 : Bool) (v6_10 : Bool) (v6_11 : Bool) (v6_12 : Bool) (v6_13 : Bool) (v6_14 : List Zc), Zbi m_1 q_1 sizes mask list0 list1 list2 list3 list4 some0 some1 some2 some3 some4 v4_0 e1 = some (.tup [], [boxO v6_0 v6_1 v6_2 v6_3 v6_4 v6_5 v6_6 v6_7 v6_8 v6_9 v6_10 v6_11 v6_12 v6_13, .arr 142 3 true (v6_14.map Zc.c)]) ∧ (Zcc m q fr table fr1 out v6_0 v6_1 v6_2 v6_3 v6_4 v6_5 v6_6 v6_7 v6_8 v6_9 v6_10 v6_11 v6_12 v6_13 x x1 x2 sizes1 mask1 left right x3 x4 x5 x6 x7 (w (x8 + 1)) = some r))))) ∨ (∃ (v7_0 : List Zc), Zc4 m q sizes1 right e1 = some (.agg [.own 0], [.arr 142 3 true (v7_0.map Zc.c)]) ∧ (∃ (v8_0 : List Zc), Zc3 v2_0 (⟨v7_0⟩ : Plan) 4 e1 = some (.agg [.own 0], [.arr 142 3 true (v8_0.map Zc.c)]) ∧ ((∃ (v9_0 : Zd) (v9_1 : Zb) (v9_2 : List Int) (v9_3 : Int) (v9_4 : Za) (v9_5 : Za) (v9_6 : Za) (v9_7 : Za) (v9_8 : Za) (v9_9 : Bool) (v9_10 : Bool) (v9_11 : Bool) (v9_12 : Bool) (v9_13 : Bool), Zbi m_1 q_1 sizes mask list0 list1 list2 list3 list4 some0 some1 some2 some3 some4 v8_0 e1 = some (.tup [], [boxO v9_0 v9_1 v9_2 v9_3 v9_4 v9_5 v9_6 v9_7 v9_8 v9_9 v9_10 v9_11 v9_12 v9_13, .dead]) ∧ (Zcc m q fr table fr1 out v9_0 v9_1 v9_2 v9_3 v9_4 v9_5 v9_6 v9_7 v9_8 v9_9 v9_10 v9_11 v9_12 v9_13 x x1 x2 sizes1 mask1 left right x3 x4 x5 x6 x7 (w (x8 + 1)) = some r)) ∨ (∃ (v10_0 : Zd) (v10_1 : Zb) (v10_2 : List Int) (v10_3 : Int) (v10_4 : Za) (v10_5 : Za) (v10_6 : Za) (v10_7 : Za) (v10_8 : Za) (v10_9 : Bool) (v10_10 : Bool) (v10_11 : Bool) (v10_12 : Bool) (v10_13 : Bool) (v10_14 : List Zc), Zbi m_1 q_1 sizes mask list0 list1 list2 list3 list4 some0 some1 some2 some3 some4 v8_0 e1 = some (.tup [], [boxO v10_0 v10_1 v10_2 v10_3 v10_4 v10_5 v10_6 v10_7 v10_8 v10_9 v10_10 v10_11 v10_12 v10_13, .arr 142 3 true (v10_14.map Zc.c)]) ∧ (Zcc m q fr table fr1 out v10_0 v10_1 v10_2 v10_3 v10_4 v10_5 v10_6 v10_7 v10_8 v10_9 v10_10 v10_11 v10_12 v10_13 x x1 x2 sizes1 mask1 left right x3 x4 x5 x6 x7 (w (x8 + 1)) = some r))))))) ∨ (∃ (v11_0 : List Zc), Zc4 m q sizes1 left e1 = some (.agg [.own 0], [.arr 142 3 true (v11_0.map Zc.c)]) ∧ ((∃ (v12_0 : Plan), Zc4 m q sizes1 right e1 = some (.agg (v12_0.c.map .t), []) ∧ (∃ (v13_0 : List Zc), Zc3 (⟨v11_0⟩ : Plan) v12_0 4 e1 = some (.agg [.own 0], [.arr 142 3 true (v13_0.map Zc.c)]) ∧ ((∃ (v14_0 : Zd) (v14_1 : Zb) (v14_2 : List Int) (v14_3 : Int) (v14_4 : Za) (v14_5 : Za) (v14_6 : Za) (v14_7 : Za) (v14_8 : Za) (v14_9 : Bool) (v14_10 : Bool) (v14_11 : Bool) (v14_12 : Bool) (v14_13 : Bool), Zbi m_1 q_1 sizes mask list0 list1 list2 list3 list4 some0 some1 some2 some3 some4 v13_0 e1 = some (.tup [], [boxO v14_0 v14_1 v14_2 v14_3 v14_4 v14_5 v14_6 v14_7 v14_8 v14_9 v14_10 v14_11 v14_12 v14_13, .dead]) ∧ (Zcc m q fr table fr1 out v14_0 v14_1 v14_2 v14_3 v14_4 v14_5 v14_6 v14_7 v14_8 v14_9 v14_10 v14_11 v14_12 v14_13 x x1 x2 sizes1 mask1 left right x3 x4 x5 x6 x7 (w (x8 + 1)) = some r)) ∨ (∃ (v15_0 : Zd) (v15_1 : Zb) (v15_2 : List Int) (v15_3 : Int) (v15_4 : Za) (v15_5 : Za) (v15_6 : Za) (v15_7 : Za) (v15_8 : Za) (v15_9 : Bool) (v15_10 : Bool) (v15_11 : Bool) (v15_12 : Bool) (v15_13 : Bool) (v15_14 : List Zc), Zbi m_1 q_1 sizes mask list0 list1 list2 list3 list4 some0 some1 some2 some3 some4 v13_0 e1 = some (.tup [], [boxO v15_0 v15_1 v15_2 v15_3 v15_4 v15_5 v15_6 v15_7 v15_8 v15_9 v15_10 v15_11 v15_12 v15_13, .arr 142 3 true (v15_14.map Zc.c)]) ∧ (Zcc m q fr table fr1 out v15_0 v15_1 v15_2 v15_3 v15_4 v15_5 v15_6 v15_7 v15_8 v15_9 v15_10 v15_11 v15_12 v15_13 x x1 x2 sizes1 mask1 left right x3 x4 x5 x6 x7 (w (x8 + 1)) = some r))))) ∨ (∃ (v16_0 : List Zc), Zc4 m q sizes1 right e1 = some (.agg [.own 0], [.arr 142 3 true (v16_0.map Zc.c)]) ∧ (∃ (v17_0 : List Zc), Zc3 (⟨v11_0⟩ : Plan) (⟨v16_0⟩ : Plan) 4 e1 = some (.agg [.own 0], [.arr 142 3 true (v17_0.map Zc.c)]) ∧ ((∃ (v18_0 : Zd) (v18_1 : Zb) (v18_2 : List Int) (v18_3 : Int) (v18_4 : Za) (v18_5 : Za) (v18_6 : Za) (v18_7 : Za) (v18_8 : Za) (v18_9 : Bool) (v18_10 : Bool) (v18_11 : Bool) (v18_12 : Bool) (v18_13 : Bool), Zbi m_1 q_1 sizes mask list0 list1 list2 list3 list4 some0 some1 some2 some3 some4 v17_0 e1 = some (.tup [], [boxO v18_0 v18_1 v18_2 v18_3 v18_4 v18_5 v18_6 v18_7 v18_8 v18_9 v18_10 v18_11 v18_12 v18_13, .dead]) ∧ (Zcc m q fr table fr1 out v18_0 v18_1 v18_2 v18_3 v18_4 v18_5 v18_6 v18_7 v18_8 v18_9 v18_10 v18_11 v18_12 v18_13 x x1 x2 sizes1 mask1 left right x3 x4 x5 x6 x7 (w (x8 + 1)) = some r)) ∨ (∃ (v19_0 : Zd) (v19_1 : Zb) (v19_2 : List Int) (v19_3 : Int) (v19_4 : Za) (v19_5 : Za) (v19_6 : Za) (v19_7 : Za) (v19_8 : Za) (v19_9 : Bool) (v19_10 : Bool) (v19_11 : Bool) (v19_12 : Bool) (v19_13 : Bool) (v19_14 : List Zc), Zbi m_1 q_1 sizes mask list0 list1 list2 list3 list4 some0 some1 some2 some3 some4 v17_0 e1 = some (.tup [], [boxO v19_0 v19_1 v19_2 v19_3 v19_4 v19_5 v19_6 v19_7 v19_8 v19_9 v19_10 v19_11 v19_12 v19_13, .arr 142 3 true (v19_14.map Zc.c)]) ∧ (Zcc m q fr table fr1 out v19_0 v19_1 v19_2 v19_3 v19_4 v19_5 v19_6 v19_7 v19_8 v19_9 v19_10 v19_11 v19_12 v19_13 x x1 x2 sizes1 mask1 left right x3 x4 x5 x6 x7 (w (x8 + 1)) = some r)))))))))) else (Zc5 m q fr table fr1 out m_1 q_1 sizes mask list0 list1 list2 list3 list4 some0 some1 some2 some3 some4 x x1 sizes1 mask1 x3 x4 x5 (w (x6 + 1)) = some r))) : Zcc m q fr table fr1 out m_1 q_1 sizes mask list0 list1 list2 list3 list4 some0 some1 some2 some3 some4 x x1 x2 sizes1 mask1 left right x3 x4 x5 x6 x7 x8 = some r := by
  unfold Zcc
  rw [EvL_eq Zpk.eq_1]
  simp only [Zc4, Zc3, Zbi, Zd.c_def, Zh.c_def, Plan.c_def, Za.c_def, Zc.c_def, Zb.c_def, mpl, dfs, Zjg] at h
  try simp only [itb] at h
  try simp only [itf, List.getElem?_eq_some_iff, kk] at h
  rcases h with ⟨q1, q2, e1, ⟨g3, q3⟩, (⟨v2_0, q5, (⟨v3_0, q7, v4_0, q8, (⟨v5_0, v5_1, v5_2, v5_3, v5_4, v5_5, v5_6, v5_7, v5_8, v5_9, v5_10, v5_11, v5_12, v5_13, q10, h⟩ | ⟨v6_0, v6_1, v6_2, v6_3, v6_4, v6_5, v6_6, v6_7, v6_8, v6_9, v6_10, v6_11, v6_12, v6_13, v6_14, q11, h⟩)⟩ | ⟨v7_0, q12, v8_0, q13, (⟨v9_0, v9_1, v9_2, v9_3, v9_4, v9_5, v9_6, v9_7, v9_8, v9_9, v9_10, v9_11, v9_12, v9_13, q15, h⟩ | ⟨v10_0, v10_1, v10_2, v10_3, v10_4, v10_5, v10_6, v10_7, v10_8, v10_9, v10_10, v10_11, v10_12, v10_13, v10_14, q16, h⟩)⟩)⟩ | ⟨v11_0, q17, (⟨v12_0, q19, v13_0, q20, (⟨v14_0, v14_1, v14_2, v14_3, v14_4, v14_5, v14_6, v14_7, v14_8, v14_9, v14_10, v14_11, v14_12, v14_13, q22, h⟩ | ⟨v15_0, v15_1, v15_2, v15_3, v15_4, v15_5, v15_6, v15_7, v15_8, v15_9, v15_10, v15_11, v15_12, v15_13, v15_14, q23, h⟩)⟩ | ⟨v16_0, q24, v17_0, q25, (⟨v18_0, v18_1, v18_2, v18_3, v18_4, v18_5, v18_6, v18_7, v18_8, v18_9, v18_10, v18_11, v18_12, v18_13, q27, h⟩ | ⟨v19_0, v19_1, v19_2, v19_3, v19_4, v19_5, v19_6, v19_7, v19_8, v19_9, v19_10, v19_11, v19_12, v19_13, v19_14, q28, h⟩)⟩)⟩)⟩ | ⟨q1, h⟩
  all_goals (refine Eq.trans ?_ h; clear h; simp +decide [*, kk, Zcc, Zc5, Zme])
theorem Z9i (a : Zd) (a1 : Zb) (a2 : List Int) (r : AV × List Blk) (h : (∃ (v1_0 : Bool), Zg5 a = some (Bo v1_0, []) ∧ (if v1_0 = true then (∃ (v2_0 : Bool), Zg6 a1 a2 = some (Bo v2_0, []) ∧ (if v2_0 = true then (∃ (v3_0 : Int), Zbw a1 = some (I v3_0, []) ∧ (0 ≤ (w (v3_0 + 1)) ∧ ((w (v3_0 + 1)) ≤ (w (v3_0 + 1)) ∧ ((w (v3_0 + 1)).toNat * 24 ≤ room ∧ ((w (v3_0 + 1)) ≤ 140737488355328 ∧ (∃ (v4_0 : List Int), Zj0 a1 = some (.own 0, [.arr 3 1 true (v4_0.map ic)]) ∧ (Zex a a1 true (List.replicate ((w (v3_0 + 1))).toNat ([])) true ([] : List Za) v4_0 a2 (v4_0.length : Int) 0 = some r))))))) else (some (.t .nil, []) = some r))) else (some (.t .nil, []) = some r)))) : Zim a a1 a2 = some r := by
  unfold Zim
  refine run Z6a rfl ?_
  obtain ⟨v1_0, q1, h⟩ := h
  unfold Zg5 at q1
  try simp at q1
  by_cases q2 : v1_0 = true
  · rw [if_pos q2] at h
    obtain ⟨v2_0, q3, h⟩ := h
    unfold Zg6 at q3
    try simp at q3
    by_cases q4 : v2_0 = true
    · rw [if_pos q4] at h
      obtain ⟨v3_0, q5, h⟩ := h
      unfold Zbw at q5
      try simp at q5
      obtain ⟨q6, h⟩ := h
      obtain ⟨q7, h⟩ := h
      obtain ⟨q8, h⟩ := h
      have zq8 := q8; try simp at zq8
      obtain ⟨q9, h⟩ := h
      obtain ⟨v4_0, q10, h⟩ := h
      unfold Zj0 at q10
      try simp at q10
      refine Eq.trans ?_ h
      clear h
      simp +decide [*, Zmf, Zex]
    · rw [if_neg q4] at h
      refine Eq.trans ?_ h
      clear h
      simp +decide [*, Zmf]
  · rw [if_neg q2] at h
    refine Eq.trans ?_ h
    clear h
    simp +decide [*, Zmf]
end Go.Proofs.YtbapkgocloaaeaaGreat
/- part: G8 -/
namespace Go.Proofs.YtbapkgocloaaeaaGreat
open Go.AM
theorem Zyl (Mask : Int) (Order : Int) (Cost : Int) (best : Za) (fr : Bool) (x : List Za) (x1 : Int) (x2 : Int) (r : AV × List Blk) (h : (if x2 < x1 then (0 ≤ x2 ∧ (∃ (e1 : Za), x[x2.toNat]? = some e1 ∧ (if e1.Cost < best.Cost then (Zfq Mask Order Cost e1 fr x x1 (w (x2 + 1)) = some r) else (Zfq Mask Order Cost best fr x x1 (w (x2 + 1)) = some r)))) else (some (.agg (best.c.map .t), [.arr 174 4 fr (x.map Za.c)]) = some r))) : Zfq Mask Order Cost best fr x x1 x2 = some r := by
  unfold Zfq
  rw [EvL_eq Zj2.eq_1]
  try simp only [itb] at h
  try simp only [itf, List.getElem?_eq_some_iff, kk] at h
  rcases h with ⟨q1, q2, e1, ⟨g3, q3⟩, (⟨q4, h⟩ | ⟨q4, h⟩)⟩ | ⟨q1, h⟩
  all_goals (refine Eq.trans ?_ h; clear h; simp +decide [*, kk, Zfq, Zpd, Zj3])
theorem Z9j (fr : Bool) (x : List Za) (r : AV × List Blk) (h : (∃ (e1 : Za), x[0]? = some e1 ∧ (Zfq 0 0 0 e1 fr x (x.length : Int) 0 = some r))) : Zj7 fr x = some r := by
  unfold Zj7
  refine runM Zxh rfl ?_
  try simp only [itb] at h
  try simp only [itf, List.getElem?_eq_some_iff, kk] at h
  rcases h with ⟨e1, ⟨g1, q1⟩, h⟩
  all_goals (refine Eq.trans ?_ h; clear h; simp +decide [*, kk, Zpe, Zfq])
theorem Zym (Mask : Int) (Order : Int) (Cost : Int) (fr : Bool) (x : List Za) (mask : Int) (x1 : List Za) (x2 : Int) (x3 : Int) (r : AV × List Blk) (h : (if x3 < x2 then (0 ≤ x3 ∧ (∃ (e1 : Za), x1[x3.toNat]? = some e1 ∧ (if e1.Mask = mask then (x.length + 1 ≤ 68719476736 ∧ (Zfr Mask Order Cost false (x ++ [e1]) mask x1 x2 (w (x3 + 1)) = some r)) else (Zfr Mask Order Cost fr x mask x1 x2 (w (x3 + 1)) = some r)))) else (if (x.length : Int) = 0 then (some (.tup [.agg [I 0, I 0, I 0, .t .nil], Bo false], []) = some r) else (∃ (v2_0 : Za), Zj7 fr x = some (.agg (v2_0.c.map .t), [.arr 174 4 fr (x.map Za.c)]) ∧ (∃ (v3_0 : List Zc), Zdi v2_0.Plan = some (.agg [.own 0], [.arr 142 3 true (v3_0.map Zc.c)]) ∧ (some (.tup [.agg [I v2_0.Mask, I v2_0.Order, I v2_0.Cost, .own 0], Bo true], [.arr 142 3 true (v3_0.map Zc.c)]) = some r)))))) : Zfr Mask Order Cost fr x mask x1 x2 x3 = some r := by
  unfold Zfr
  rw [EvL_eq Zpp.eq_1]
  simp only [Zj7, Zdi, Plan.c_def, Za.c_def, mpl, dfs] at h
  try simp only [itb] at h
  try simp only [itf, List.getElem?_eq_some_iff, kk] at h
  rcases h with ⟨q1, q2, e1, ⟨g3, q3⟩, (⟨q4, q5, h⟩ | ⟨q4, h⟩)⟩ | ⟨q1, (⟨q6, h⟩ | ⟨q6, v2_0, q7, v3_0, q8, h⟩)⟩
  all_goals (refine Eq.trans ?_ h; clear h; simp +decide [*, kk, Zfr, Zva, Zpq])
theorem Z9k (a : List Za) (a1 : Int) (r : AV × List Blk) (h : (Zfr 0 0 0 true ([] : List Za) a1 a (a.length : Int) 0 = some r)) : Zin a a1 = some r := by
  unfold Zin
  refine run Z6b rfl ?_
  refine Eq.trans ?_ h; clear h; simp +decide [*, kk, Zvb, Zfr]
theorem Z9l (a : Zd) (a1 : Zb) (a2 : List Int) (r : AV × List Blk) (h : ((Zim a a1 a2 = some (.t .nil, []) ∧ (∃ (v2_0 : Int), Zbw a1 = some (I v2_0, []) ∧ ((∃ (v3_0 : Int) (v3_1 : Int) (v3_2 : Int), Zpo v2_0 = some (.tup [.agg [I v3_0, I v3_1, I v3_2, .t .nil], Bo false], []) ∧ (some (.tup [.agg [I v3_0, I v3_1, I v3_2, .t .nil], Bo false], []) = some r)) ∨ (∃ (v4_0 : List Zc) (v4_1 : Int) (v4_2 : Int) (v4_3 : Int), Zpo v2_0 = some (.tup [.agg [I v4_1, I v4_2, I v4_3, .own 0], Bo true], [.arr 142 3 true (v4_0.map Zc.c)]) ∧ (some (.tup [.agg [I v4_1, I v4_2, I v4_3, .own 0], Bo true], [.arr 142 3 true (v4_0.map Zc.c)]) = some r))))) ∨ (∃ (v5_0 : Bool) (v5_1 : List Za), Zim a a1 a2 = some (.own 0, [.arr 174 4 v5_0 (v5_1.map Za.c)]) ∧ (∃ (v6_0 : Int), Zbw a1 = some (I v6_0, []) ∧ ((∃ (v7_0 : Int) (v7_1 : Int) (v7_2 : Int), Zin v5_1 v6_0 = some (.tup [.agg [I v7_0, I v7_1, I v7_2, .t .nil], Bo false], []) ∧ (some (.tup [.agg [I v7_0, I v7_1, I v7_2, .t .nil], Bo false], []) = some r)) ∨ (∃ (v8_0 : List Zc) (v8_1 : Int) (v8_2 : Int) (v8_3 : Int), Zin v5_1 v6_0 = some (.tup [.agg [I v8_1, I v8_2, I v8_3, .own 0], Bo true], [.arr 142 3 true (v8_0.map Zc.c)]) ∧ (some (.tup [.agg [I v8_1, I v8_2, I v8_3, .own 0], Bo true], [.arr 142 3 true (v8_0.map Zc.c)]) = some r))))))) : Zio a a1 a2 = some r := by
  unfold Zio
  refine run Z6c rfl ?_
  simp only [Zim, Zbw, Zpo, Zin, Zd.c_def, Zh.c_def, Plan.c_def, Za.c_def, Zb.c_def, mpl, dfs] at h
  rcases h with ⟨q2, v2_0, q3, (⟨v3_0, v3_1, v3_2, q5, h⟩ | ⟨v4_0, v4_1, v4_2, v4_3, q6, h⟩)⟩ | ⟨v5_0, v5_1, q7, v6_0, q8, (⟨v7_0, v7_1, v7_2, q10, h⟩ | ⟨v8_0, v8_1, v8_2, v8_3, q11, h⟩)⟩
  all_goals (refine Eq.trans ?_ h; clear h; simp +decide [*, kk, Zvc])
theorem Z9m (a : Zd) (a1 : Zb) (a2 : List Int) (r : AV × List Blk) (h : ((∃ (v1_0 : Int) (v1_1 : Int) (v1_2 : Int), Zio a a1 a2 = some (.tup [.agg [I v1_0, I v1_1, I v1_2, .t .nil], Bo false], []) ∧ (some (I (-1), []) = some r)) ∨ (∃ (v2_0 : List Zc) (v2_1 : Int) (v2_2 : Int) (v2_3 : Int), Zio a a1 a2 = some (.tup [.agg [I v2_1, I v2_2, I v2_3, .own 0], Bo true], [.arr 142 3 true (v2_0.map Zc.c)]) ∧ (some (I v2_3, []) = some r)))) : Zj8 a a1 a2 = some r := by
  unfold Zj8
  refine run Z6d rfl ?_
  simp only [Zio, Zd.c_def, Zh.c_def, Zb.c_def, mpl, dfs] at h
  rcases h with ⟨v1_0, v1_1, v1_2, q2, h⟩ | ⟨v2_0, v2_1, v2_2, v2_3, q3, h⟩
  all_goals (refine Eq.trans ?_ h; clear h; simp +decide [*, kk, Zvd])
theorem Z9n (a : Zd) (a1 : Zb) (a2 : List Int) (r : AV × List Blk) (h : ((∃ (v1_0 : List Int), Zeu a2 = some (.own 0, [.arr 3 1 true (v1_0.map ic)]) ∧ (∃ (v2_0 : Int), Zj8 a a1 v1_0 = some (I v2_0, []) ∧ (some (I v2_0, []) = some r))) ∨ (Zeu a2 = some (.t .nil, []) ∧ (∃ (v4_0 : Int), Zve a a1 = some (I v4_0, []) ∧ (some (I v4_0, []) = some r))))) : Zj9 a a1 a2 = some r := by
  unfold Zj9
  refine run Z6e rfl ?_
  simp only [Zeu, Zj8, Zve, Zd.c_def, Zh.c_def, Zb.c_def, mpl, dfs] at h
  rcases h with ⟨v1_0, q2, v2_0, q3, h⟩ | ⟨q4, v4_0, q5, h⟩
  all_goals (refine Eq.trans ?_ h; clear h; simp +decide [*, kk, Zvf])
theorem Z9o (a : Zd) (a1 : Zb) (a2 : Region) (r : AV × List Blk) (h : (∃ (v1_0 : Int), Zjz a a1 a2.Plan a2.Box.High = some (I v1_0, []) ∧ (∃ (v2_0 : Int), Zj9 a a1 a2.Box.Low = some (I v2_0, []) ∧ (some (Bo (decide ((w (100 * v1_0)) ≤ (w (a2.Percent * v2_0)))), []) = some r)))) : Zka a a1 a2 = some r := by
  unfold Zka
  refine run Z6f rfl ?_
  simp only [Zjz, Zj9, Zd.c_def, Zh.c_def, Plan.c_def, Zb.c_def, mpl, dfs] at h
  rcases h with ⟨v1_0, q1, v2_0, q2, h⟩
  all_goals (refine Eq.trans ?_ h; clear h; simp +decide [*, kk, Zvg])
theorem Z9p (a : Zd) (a1 : Zb) (a2 : Region) (r : AV × List Blk) (h : (∃ (v1_0 : Bool), Zju a a1 a2 = some (Bo v1_0, []) ∧ (if v1_0 = true then (∃ (v2_0 : Bool), Zka a a1 a2 = some (Bo v2_0, []) ∧ (some (Bo v2_0, []) = some r)) else (some (Bo false, []) = some r)))) : Zip a a1 a2 = some r := by
  unfold Zip
  refine run Z6g rfl ?_
  simp only [Zju, Zka, Box.c_def, Zd.c_def, Zh.c_def, Plan.c_def, Zb.c_def, Region.c_def, mpl, dfs] at h
  try simp only [itb] at h
  try simp only [itf, List.getElem?_eq_some_iff, kk] at h
  rcases h with ⟨v1_0, q1, (⟨q2, v2_0, q3, h⟩ | ⟨q2, h⟩)⟩
  all_goals (refine Eq.trans ?_ h; clear h; simp +decide [*, kk, Zvh])
theorem Z9q (a : Zd) (a1 : Int) (r : AV × List Blk) (h : (if a1 = 1 then (some (.agg (a.Scan.c.map .t), []) = some r) else (if a1 = 2 then (some (.agg (a.Sort_.c.map .t), []) = some r) else (if a1 = 3 then (some (.agg (a.Hash.c.map .t), []) = some r) else (if a1 = 4 then (some (.agg (a.Merge.c.map .t), []) = some r) else (some (.agg (a.Nested.c.map .t), []) = some r)))))) : Zcd a a1 = some r := by
  unfold Zcd
  refine run Z6h rfl ?_
  try simp only [itb] at h
  try simp only [itf, List.getElem?_eq_some_iff, kk] at h
  rcases h with ⟨q1, h⟩ | ⟨q1, (⟨q2, h⟩ | ⟨q2, (⟨q3, h⟩ | ⟨q3, (⟨q4, h⟩ | ⟨q4, h⟩)⟩)⟩)⟩
  all_goals (refine Eq.trans ?_ h; clear h; simp +decide [*, kk, Zvi])
theorem Z9r (a : Int) (a1 : Int) (a2 : Int) (r : AV × List Blk) (h : (if a1 ≤ a then (some (Bo (decide (a ≤ a2)), []) = some r) else (some (Bo false, []) = some r))) : Zy a a1 a2 = some r := by
  unfold Zy
  refine run Z6i rfl ?_
  try simp only [itb] at h
  try simp only [itf, List.getElem?_eq_some_iff, kk] at h
  rcases h with ⟨q1, h⟩ | ⟨q1, h⟩
  all_goals (refine Eq.trans ?_ h; clear h; simp +decide [*, kk, Zvj])
theorem Z9s (a : Int) (r : AV × List Blk) (h : (∃ (v1_0 : Bool), Zy a (-99) 99 = some (Bo v1_0, []) ∧ (some (Bo v1_0, []) = some r))) : Zdk a = some r := by
  unfold Zdk
  refine run Z6j rfl ?_
  simp only [Zy, mpl, dfs] at h
  rcases h with ⟨v1_0, q1, h⟩
  all_goals (refine Eq.trans ?_ h; clear h; simp +decide [*, kk, Zvk])
theorem Zyn (o : Zh) (i : Int) (r : AV × List Blk) (h : (if i < (o.Steps.length : Int) then (0 ≤ i ∧ (∃ (e1 : Zg), o.Steps[i.toNat]? = some e1 ∧ (∃ (v2_0 : Bool), Zy e1.From 1 8192 = some (Bo v2_0, []) ∧ (if v2_0 = true then (∃ (v3_0 : Bool), Zdk e1.Add = some (Bo v3_0, []) ∧ (if v3_0 = true then (if 0 < i then (0 ≤ (w (i - 1)) ∧ (∃ (e4 : Zg), o.Steps[(w (i - 1)).toNat]? = some e4 ∧ (if e1.From ≤ e4.From then (some (Bo false, []) = some r) else (Zey o (w (i + 1)) = some r)))) else (Zey o (w (i + 1)) = some r)) else (some (Bo false, []) = some r))) else (some (Bo false, []) = some r))))) else (some (Bo true, []) = some r))) : Zey o i = some r := by
  unfold Zey
  rw [EvL_eq Zpr.eq_1]
  simp only [Zy, Zdk, mpl, dfs] at h
  try simp only [itb] at h
  try simp only [itf, List.getElem?_eq_some_iff, kk] at h
  rcases h with ⟨q1, q2, e1, ⟨g3, q3⟩, v2_0, q4, (⟨q5, v3_0, q6, (⟨q7, (⟨q8, q9, e4, ⟨g10, q10⟩, (⟨q11, h⟩ | ⟨q11, h⟩)⟩ | ⟨q8, h⟩)⟩ | ⟨q7, h⟩)⟩ | ⟨q5, h⟩)⟩ | ⟨q1, h⟩
  all_goals (refine Eq.trans ?_ h; clear h; simp +decide [*, kk, Zey, Zps])
theorem Z9t (a : Zh) (r : AV × List Blk) (h : (∃ (v1_0 : Bool), Zdk a.Fixed = some (Bo v1_0, []) ∧ (if v1_0 = true then (∃ (v2_0 : Bool), Zdk a.Zj = some (Bo v2_0, []) ∧ (if v2_0 = true then (∃ (v3_0 : Bool), Zdk a.Zk = some (Bo v3_0, []) ∧ (if v3_0 = true then (∃ (v4_0 : Bool), Zdk a.Zm = some (Bo v4_0, []) ∧ (if v4_0 = true then (∃ (v5_0 : Bool), Zdk a.Zl = some (Bo v5_0, []) ∧ (if v5_0 = true then (if 4 < (a.Steps.length : Int) then (some (Bo false, []) = some r) else (Zey a 0 = some r)) else (some (Bo false, []) = some r))) else (some (Bo false, []) = some r))) else (some (Bo false, []) = some r))) else (some (Bo false, []) = some r))) else (some (Bo false, []) = some r)))) : Zd5 a = some r := by
  unfold Zd5
  refine run Z6k rfl ?_
  simp only [Zdk, mpl, dfs] at h
  try simp only [itb] at h
  try simp only [itf, List.getElem?_eq_some_iff, kk] at h
  rcases h with ⟨v1_0, q1, (⟨q2, v2_0, q3, (⟨q4, v3_0, q5, (⟨q6, v4_0, q7, (⟨q8, v5_0, q9, (⟨q10, (⟨q11, h⟩ | ⟨q11, h⟩)⟩ | ⟨q10, h⟩)⟩ | ⟨q8, h⟩)⟩ | ⟨q6, h⟩)⟩ | ⟨q4, h⟩)⟩ | ⟨q2, h⟩)⟩
  all_goals (refine Eq.trans ?_ h; clear h; simp +decide [*, kk, Zvl, Zey])
theorem Z9u (k : Int) (n : Int) (i : Int) (r : AV × List Blk) (h : (if i < k then (Zfs k (if 1 < (w (n * 4)) then (w (n * 4)) else 1) (w (i + 1)) = some r) else (some (I n, []) = some r))) : Zfs k n i = some r := by
  unfold Zfs
  rw [EvL_eq Zpt.eq_1]
  try simp only [itb] at h
  try simp only [itf, List.getElem?_eq_some_iff, kk] at h
  rcases h with ⟨q1, h⟩ | ⟨q1, h⟩
  all_goals (refine Eq.trans ?_ h; clear h; simp +decide [*, kk, Zfs, Zpu])
theorem Z9v (a : Int) (r : AV × List Blk) (h : (∃ (v1_0 : Bool), Zy a 0 7 = some (Bo v1_0, []) ∧ (if v1_0 = true then (Zfs a 0 0 = some r) else (some (I (-1), []) = some r)))) : Zez a = some r := by
  unfold Zez
  refine run Z6l rfl ?_
  simp only [Zy, mpl, dfs] at h
  try simp only [itb] at h
  try simp only [itf, List.getElem?_eq_some_iff, kk] at h
  rcases h with ⟨v1_0, q1, (⟨q2, h⟩ | ⟨q2, h⟩)⟩
  all_goals (refine Eq.trans ?_ h; clear h; simp +decide [*, kk, Zvm, Zfs])
theorem Zyo (o : Zh) (l : Int) (r_1 : Int) (n : Int) (i : Int) (r : AV × List Blk) (h : (if i < (o.Steps.length : Int) then (0 ≤ i ∧ (∃ (e1 : Zg), o.Steps[i.toNat]? = some e1 ∧ (if e1.From ≤ (w (l + r_1)) then (Ze0 o l r_1 (w (n + e1.Add)) (w (i + 1)) = some r) else (Ze0 o l r_1 n (w (i + 1)) = some r)))) else (some (I n, []) = some r))) : Ze0 o l r_1 n i = some r := by
  unfold Ze0
  rw [EvL_eq Zpv.eq_1]
  try simp only [itb] at h
  try simp only [itf, List.getElem?_eq_some_iff, kk] at h
  rcases h with ⟨q1, q2, e1, ⟨g3, q3⟩, (⟨q4, h⟩ | ⟨q4, h⟩)⟩ | ⟨q1, h⟩
  all_goals (refine Eq.trans ?_ h; clear h; simp +decide [*, kk, Ze0, Zvn, Zpw])
theorem Z9w (a : Zh) (a1 : Int) (a2 : Int) (a3 : Int) (r : AV × List Blk) (h : (∃ (v1_0 : Bool), Zd5 a = some (Bo v1_0, []) ∧ (if v1_0 = true then (∃ (v2_0 : Bool), Zy a1 0 4096 = some (Bo v2_0, []) ∧ (if v2_0 = true then (∃ (v3_0 : Bool), Zy a2 0 4096 = some (Bo v3_0, []) ∧ (if v3_0 = true then (∃ (v4_0 : Bool), Zy a3 0 4096 = some (Bo v4_0, []) ∧ (if v4_0 = true then (Ze0 a a1 a2 (w ((w ((w ((w (a.Fixed + (w (a.Zj * a1)))) + (w (a.Zk * a2)))) + (w (a.Zm * a3)))) + (w ((w (a.Zl * a1)) * a2)))) 0 = some r) else (some (I 0, []) = some r))) else (some (I 0, []) = some r))) else (some (I 0, []) = some r))) else (some (I 0, []) = some r)))) : Zbn a a1 a2 a3 = some r := by
  unfold Zbn
  refine run Z6m rfl ?_
  simp only [Zd5, Zy, Zh.c_def, mpl, dfs] at h
  try simp only [itb] at h
  try simp only [itf, List.getElem?_eq_some_iff, kk] at h
  rcases h with ⟨v1_0, q1, (⟨q2, v2_0, q3, (⟨q4, v3_0, q5, (⟨q6, v4_0, q7, (⟨q8, h⟩ | ⟨q8, h⟩)⟩ | ⟨q6, h⟩)⟩ | ⟨q4, h⟩)⟩ | ⟨q2, h⟩)⟩
  all_goals (refine Eq.trans ?_ h; clear h; simp +decide [*, kk, Zvo, Ze0])
theorem Z9x (a : Zh) (a1 : List Int) (r : AV × List Blk) (h : (∃ (e1 : Int), a1[0]? = some e1 ∧ (∃ (v2_0 : Int), Zez e1 = some (I v2_0, []) ∧ (∃ (e3 : Int), a1[1]? = some e3 ∧ (∃ (v4_0 : Int), Zez e3 = some (I v4_0, []) ∧ (∃ (e5 : Int), a1[2]? = some e5 ∧ (∃ (v6_0 : Int), Zez e5 = some (I v6_0, []) ∧ (∃ (v7_0 : Int), Zbn a v2_0 v4_0 v6_0 = some (I v7_0, []) ∧ (some (I v7_0, []) = some r))))))))) : Zft a a1 = some r := by
  unfold Zft
  refine run Z6n rfl ?_
  simp only [Zez, Zbn, Zh.c_def, mpl, dfs] at h
  try simp only [itb] at h
  try simp only [itf, List.getElem?_eq_some_iff, kk] at h
  rcases h with ⟨e1, ⟨g1, q1⟩, v2_0, q2, e3, ⟨g3, q3⟩, v4_0, q4, e5, ⟨g5, q5⟩, v6_0, q6, v7_0, q7, h⟩
  all_goals (refine Eq.trans ?_ h; clear h; simp +decide [*, kk, Zvp])
theorem Zyp (o : Zh) (a : Int) (r : AV × List Blk) (h : (if a ≤ 7 then (Zfv o a 0 = some r) else (some (.tup [.own 0, .own 1, Bo false], [.arr 3 1 true (([] : List Int).map ic), .arr 3 1 true (([] : List Int).map ic)]) = some r))) : Zfu o a = some r := by
  unfold Zfu
  rw [EvL_eq Ziq.eq_1]
  try simp only [itb] at h
  try simp only [itf, List.getElem?_eq_some_iff, kk] at h
  rcases h with ⟨q1, h⟩ | ⟨q1, h⟩
  all_goals (refine Eq.trans ?_ h; clear h; simp +decide [*, kk, Zfv, Zir])
theorem Zyq (o : Zh) (a : Int) (b : Int) (r : AV × List Blk) (h : (if b ≤ 7 then (Zfw o a b 0 = some r) else (Zfu o (w (a + 1)) = some r))) : Zfv o a b = some r := by
  unfold Zfv
  rw [EvL_eq Zkb.eq_1]
  try simp only [itb] at h
  try simp only [itf, List.getElem?_eq_some_iff, kk] at h
  rcases h with ⟨q1, h⟩ | ⟨q1, h⟩
  all_goals (refine Eq.trans ?_ h; clear h; simp +decide [*, kk, Zfw, Zfu, Zkc])
theorem Zyr (o : Zh) (a : Int) (b : Int) (e : Int) (r : AV × List Blk) (h : (if e ≤ 7 then (Zdl o ([a, b, e]) a b e 0 = some r) else (Zfv o a (w (b + 1)) = some r))) : Zfw o a b e = some r := by
  unfold Zfw
  rw [EvL_eq Zmg.eq_1]
  try simp only [itb] at h
  try simp only [itf, List.getElem?_eq_some_iff, kk] at h
  rcases h with ⟨q1, h⟩ | ⟨q1, h⟩
  all_goals (refine Eq.trans ?_ h; clear h; simp +decide [*, kk, Zdl, Zfv, Zmh])
theorem Zys (o : Zh) (x : List Int) (a : Int) (b : Int) (e : Int) (k : Int) (r : AV × List Blk) (h : (if k < 3 then (x.length ≤ 68719476736 ∧ (0 ≤ k ∧ (∃ (e1 : Int), x[k.toNat]? = some e1 ∧ (if (w (e1 + 1)) ≤ 7 then (∃ (v2_0 : Int), Zft o (x.set k.toNat (w (e1 + 1))) = some (I v2_0, []) ∧ (∃ (v3_0 : Int), Zft o x = some (I v3_0, []) ∧ (if v2_0 < v3_0 then (some (.tup [.own 0, .own 1, Bo true], [.arr 3 1 true (x.map ic), .arr 3 1 true ((x.set k.toNat (w (e1 + 1))).map ic)]) = some r) else (Zdl o x a b e (w (k + 1)) = some r)))) else (Zdl o x a b e (w (k + 1)) = some r))))) else (Zfw o a b (w (e + 1)) = some r))) : Zdl o x a b e k = some r := by
  unfold Zdl
  rw [EvL_eq Zpx.eq_1]
  simp only [Zft, Zh.c_def, mpl, dfs] at h
  try simp only [itb] at h
  try simp only [itf, List.getElem?_eq_some_iff, kk] at h
  rcases h with ⟨q1, q2, q3, e1, ⟨g4, q4⟩, (⟨q5, v2_0, q6, v3_0, q7, (⟨q8, h⟩ | ⟨q8, h⟩)⟩ | ⟨q5, h⟩)⟩ | ⟨q1, h⟩
  all_goals (refine Eq.trans ?_ h; clear h; simp +decide [*, kk, Zdl, Zfw, Zpy])
theorem Z9y (a : Zh) (r : AV × List Blk) (h : (∃ (v1_0 : Bool), Zd5 a = some (Bo v1_0, []) ∧ (if v1_0 = true then (Zfu a 0 = some r) else (some (.tup [.own 0, .own 1, Bo false], [.arr 3 1 true (([] : List Int).map ic), .arr 3 1 true (([] : List Int).map ic)]) = some r)))) : Zkd a = some r := by
  unfold Zkd
  refine run Z6o rfl ?_
  simp only [Zd5, Zh.c_def, mpl, dfs] at h
  try simp only [itb] at h
  try simp only [itf, List.getElem?_eq_some_iff, kk] at h
  rcases h with ⟨v1_0, q1, (⟨q2, h⟩ | ⟨q2, h⟩)⟩
  all_goals (refine Eq.trans ?_ h; clear h; simp +decide [*, kk, Zvq, Zfu])
theorem Zyt (o : Zh) (a : Int) (r : AV × List Blk) (h : (if a ≤ 7 then (Zfy o a 0 = some r) else (some (.own 0, [.arr 3 1 true (([] : List Int).map ic)]) = some r))) : Zfx o a = some r := by
  unfold Zfx
  rw [EvL_eq Zke.eq_1]
  try simp only [itb] at h
  try simp only [itf, List.getElem?_eq_some_iff, kk] at h
  rcases h with ⟨q1, h⟩ | ⟨q1, h⟩
  all_goals (refine Eq.trans ?_ h; clear h; simp +decide [*, kk, Zfy, Zkf])
theorem Zyu (o : Zh) (a : Int) (b : Int) (r : AV × List Blk) (h : (if b ≤ 7 then (Zhe o a b 0 = some r) else (Zfx o (w (a + 1)) = some r))) : Zfy o a b = some r := by
  unfold Zfy
  rw [EvL_eq Zmi.eq_1]
  try simp only [itb] at h
  try simp only [itf, List.getElem?_eq_some_iff, kk] at h
  rcases h with ⟨q1, h⟩ | ⟨q1, h⟩
  all_goals (refine Eq.trans ?_ h; clear h; simp +decide [*, kk, Zhe, Zfx, Zmj])
theorem Zrs (o : Zh) (a : Int) (b : Int) (e : Int) (r : AV × List Blk) (h : (if e ≤ 7 then (∃ (v1_0 : Int), Zft o ([a, b, e]) = some (I v1_0, []) ∧ (if v1_0 < 1 then (some (.own 0, [.arr 3 1 true (([a, b, e]).map ic)]) = some r) else (Zhe o a b (w (e + 1)) = some r))) else (Zfy o a (w (b + 1)) = some r))) : Zhe o a b e = some r := by
  unfold Zhe
  rw [EvL_eq Zpz.eq_1]
  simp only [Zft, Zh.c_def, mpl, dfs] at h
  try simp only [itb] at h
  try simp only [itf, List.getElem?_eq_some_iff, kk] at h
  rcases h with ⟨q1, v1_0, q2, (⟨q3, h⟩ | ⟨q3, h⟩)⟩ | ⟨q1, h⟩
  all_goals (refine Eq.trans ?_ h; clear h; simp +decide [*, kk, Zhe, Zfy, Zp0])
theorem Z9z (a : Zh) (r : AV × List Blk) (h : (Zfx a 0 = some r)) : Zkg a = some r := by
  unfold Zkg
  refine run Z6p rfl ?_
  refine Eq.trans ?_ h; clear h; simp +decide [*, kk, Zvr, Zfx]
theorem Zyv (m : Zd) (k : Int) (r : AV × List Blk) (h : (if k ≤ 5 then (∃ (v1_0 : Zh), Zcd m k = some (.agg (v1_0.c.map .t), []) ∧ (∃ (v2_0 : Bool), Zd5 v1_0 = some (Bo v2_0, []) ∧ (if v2_0 = true then (∃ (v3_0 : List Int) (v3_1 : List Int) (v3_2 : Bool), Zkd v1_0 = some (.tup [.own 0, .own 1, Bo v3_2], [.arr 3 1 true (v3_0.map ic), .arr 3 1 true (v3_1.map ic)]) ∧ (if v3_2 = true then (some (.tup [I k, .own 0, .own 1], [.arr 3 1 true (v3_0.map ic), .arr 3 1 true (v3_1.map ic)]) = some r) else (∃ (v4_0 : List Int), Zkg v1_0 = some (.own 0, [.arr 3 1 true (v4_0.map ic)]) ∧ (if 0 < (v4_0.length : Int) then (some (.tup [I k, .own 0, .own 1], [.arr 3 1 true (v4_0.map ic), .arr 3 1 true (([] : List Int).map ic)]) = some r) else (Zfz m (w (k + 1)) = some r))))) else (some (.tup [I k, .own 0, .own 1], [.arr 3 1 true (([] : List Int).map ic), .arr 3 1 true (([] : List Int).map ic)]) = some r)))) else (some (.tup [I 0, .own 0, .own 1], [.arr 3 1 true (([] : List Int).map ic), .arr 3 1 true (([] : List Int).map ic)]) = some r))) : Zfz m k = some r := by
  unfold Zfz
  rw [EvL_eq Zp1.eq_1]
  simp only [Zcd, Zd5, Zkd, Zkg, Zd.c_def, Zh.c_def, mpl, dfs] at h
  try simp only [itb] at h
  try simp only [itf, List.getElem?_eq_some_iff, kk] at h
  rcases h with ⟨q1, v1_0, q2, v2_0, q3, (⟨q4, v3_0, v3_1, v3_2, q5, (⟨q6, h⟩ | ⟨q6, v4_0, q7, (⟨q8, h⟩ | ⟨q8, h⟩)⟩)⟩ | ⟨q4, h⟩)⟩ | ⟨q1, h⟩
  all_goals (refine Eq.trans ?_ h; clear h; simp +decide [*, kk, Zfz, Zp2])
theorem Z90 (a : Zd) (r : AV × List Blk) (h : (Zfz a 1 = some r)) : Zmk a = some r := by
  unfold Zmk
  refine run Z6q rfl ?_
  refine Eq.trans ?_ h; clear h; simp +decide [*, kk, Zvs, Zfz]
end Go.Proofs.YtbapkgocloaaeaaGreat
/- part: G9 -/
namespace Go.Proofs.YtbapkgocloaaeaaGreat
open Go.AM
theorem Z91 (a : Zd) (r : AV × List Blk) (h : (∃ (v1_0 : List Int) (v1_1 : List Int) (v1_2 : Int), Zmk a = some (.tup [I v1_2, .own 0, .own 1], [.arr 3 1 true (v1_0.map ic), .arr 3 1 true (v1_1.map ic)]) ∧ (some (Bo (decide (v1_2 = 0)), []) = some r))) : Zkh a = some r := by
  unfold Zkh
  refine run Z6r rfl ?_
  simp only [Zmk, Zd.c_def, Zh.c_def, mpl, dfs] at h
  rcases h with ⟨v1_0, v1_1, v1_2, q1, h⟩
  all_goals (refine Eq.trans ?_ h; clear h; simp +decide [*, kk, Zvt])
theorem Z92 (a : ByteArray) (r : AV × List Blk) (h : (if (a.size : Int) = 1 then (∃ (b1 : UInt8), a[0]? = some b1 ∧ (if 97 ≤ (b1.toNat : Int) then (some (Bo (decide ((b1.toNat : Int) ≤ 122)), []) = some r) else (some (Bo false, []) = some r))) else (some (Bo false, []) = some r))) : Zki a = some r := by
  unfold Zki
  refine run Z6s rfl ?_
  try simp only [itb] at h
  try simp only [itf, List.getElem?_eq_some_iff, kk] at h
  rcases h with ⟨q1, b1, q2, (⟨q3, h⟩ | ⟨q3, h⟩)⟩ | ⟨q1, h⟩
  all_goals (refine Eq.trans ?_ h; clear h; simp +decide [*, kk, Zvu])
theorem Zyw (l : List Int) (x : Int) (i : Int) (r : AV × List Blk) (h : (if i < (l.length : Int) then (0 ≤ i ∧ (∃ (e1 : Int), l[i.toNat]? = some e1 ∧ (if e1 = x then (some (Bo true, []) = some r) else (Zhg l x (w (i + 1)) = some r)))) else (some (Bo false, []) = some r))) : Zhg l x i = some r := by
  unfold Zhg
  rw [EvL_eq Zp3.eq_1]
  try simp only [itb] at h
  try simp only [itf, List.getElem?_eq_some_iff, kk] at h
  rcases h with ⟨q1, q2, e1, ⟨g3, q3⟩, (⟨q4, h⟩ | ⟨q4, h⟩)⟩ | ⟨q1, h⟩
  all_goals (refine Eq.trans ?_ h; clear h; simp +decide [*, kk, Zhg, Zp4])
theorem Z93 (a : List Int) (a1 : Int) (r : AV × List Blk) (h : (Zhg a a1 0 = some r)) : Zhf a a1 = some r := by
  unfold Zhf
  refine run Z6t rfl ?_
  refine Eq.trans ?_ h; clear h; simp +decide [*, kk, Zvv, Zhg]
theorem Zyx (q : Zb) (seen : Int) (i : Int) (r : AV × List Blk) (h : (if i < (q.Atoms.length : Int) then (0 ≤ i ∧ (∃ (e1 : Atom), q.Atoms[i.toNat]? = some e1 ∧ (∃ (v2_0 : Bool), Zki e1.Name = some (Bo v2_0, []) ∧ (if v2_0 = true then (∃ (v3_0 : Bool), Zy (e1.Vars.length : Int) 1 3 = some (Bo v3_0, []) ∧ (if v3_0 = true then (Zhh q e1 seen i 0 = some r) else (some (Bo false, []) = some r))) else (some (Bo false, []) = some r))))) else (¬ q.Ze < 0 ∧ (some (Bo (decide (seen = (w ((shlI 1 q.Ze) - 1)))), []) = some r)))) : Zf0 q seen i = some r := by
  unfold Zf0
  rw [EvL_eq Zml.eq_1]
  simp only [Zki, Zy, mpl, dfs] at h
  try simp only [itb] at h
  try simp only [itf, List.getElem?_eq_some_iff, kk] at h
  rcases h with ⟨q1, q2, e1, ⟨g3, q3⟩, v2_0, q4, (⟨q5, v3_0, q6, (⟨q7, h⟩ | ⟨q7, h⟩)⟩ | ⟨q5, h⟩)⟩ | ⟨q1, q8, h⟩
  all_goals (refine Eq.trans ?_ h; clear h; simp +decide [*, kk, Zhh, Zmm])
theorem Zyy (q : Zb) (a : Atom) (seen : Int) (i : Int) (k : Int) (r : AV × List Blk) (h : (if k < (a.Vars.length : Int) then (0 ≤ k ∧ (∃ (e1 : Int), a.Vars[k.toNat]? = some e1 ∧ (∃ (v2_0 : Bool), Zy e1 0 (w (q.Ze - 1)) = some (Bo v2_0, []) ∧ (if v2_0 = true then (k.toNat ≤ a.Vars.length ∧ (∃ (v3_0 : Bool), Zhf (a.Vars.take k.toNat) e1 = some (Bo v3_0, []) ∧ (if v3_0 = true then (some (Bo false, []) = some r) else (¬ e1 < 0 ∧ (Zhh q a (orI seen (shlI 1 e1)) i (w (k + 1)) = some r))))) else (some (Bo false, []) = some r))))) else (Zf0 q seen (w (i + 1)) = some r))) : Zhh q a seen i k = some r := by
  unfold Zhh
  rw [EvL_eq Zp5.eq_1]
  simp only [Zy, Zhf, mpl, dfs] at h
  try simp only [itb] at h
  try simp only [itf, List.getElem?_eq_some_iff, kk] at h
  rcases h with ⟨q1, q2, e1, ⟨g3, q3⟩, v2_0, q4, (⟨q5, q6, v3_0, q7, (⟨q8, h⟩ | ⟨q8, q9, h⟩)⟩ | ⟨q5, h⟩)⟩ | ⟨q1, h⟩
  all_goals (refine Eq.trans ?_ h; clear h; simp +decide [*, kk, Zhh, Zf0, Zp6])
theorem Z94 (a : Zb) (r : AV × List Blk) (h : (∃ (v1_0 : Bool), Zy a.Ze 1 4 = some (Bo v1_0, []) ∧ (if v1_0 = true then (∃ (v2_0 : Bool), Zy (a.Atoms.length : Int) 1 4 = some (Bo v2_0, []) ∧ (if v2_0 = true then (Zf0 a 0 0 = some r) else (some (Bo false, []) = some r))) else (some (Bo false, []) = some r)))) : Zdm a = some r := by
  unfold Zdm
  refine run Z6u rfl ?_
  simp only [Zy, mpl, dfs] at h
  try simp only [itb] at h
  try simp only [itf, List.getElem?_eq_some_iff, kk] at h
  rcases h with ⟨v1_0, q1, (⟨q2, v2_0, q3, (⟨q4, h⟩ | ⟨q4, h⟩)⟩ | ⟨q2, h⟩)⟩
  all_goals (refine Eq.trans ?_ h; clear h; simp +decide [*, kk, Zvw, Zf0])
theorem Z95 (a : Zb) (r : AV × List Blk) (h : (∃ (v1_0 : Bool), Zdm a = some (Bo v1_0, []) ∧ (if v1_0 = true then (¬ (a.Atoms.length : Int) < 0 ∧ (some (I (w ((shlI 1 (a.Atoms.length : Int)) - 1)), []) = some r)) else (some (I 0, []) = some r)))) : Zcv a = some r := by
  unfold Zcv
  refine run Z6v rfl ?_
  simp only [Zdm, Zb.c_def, mpl, dfs] at h
  try simp only [itb] at h
  try simp only [itf, List.getElem?_eq_some_iff, kk] at h
  rcases h with ⟨v1_0, q1, (⟨q2, q3, h⟩ | ⟨q2, h⟩)⟩
  all_goals (refine Eq.trans ?_ h; clear h; simp +decide [*, kk, Zvx])
theorem Z96 (a : Zb) (a1 : Int) (r : AV × List Blk) (h : (∃ (v1_0 : Bool), Zdm a = some (Bo v1_0, []) ∧ (if v1_0 = true then (¬ (a.Atoms.length : Int) < 0 ∧ (∃ (v2_0 : Bool), Zy a1 0 (w ((shlI 1 (a.Atoms.length : Int)) - 1)) = some (Bo v2_0, []) ∧ (some (Bo v2_0, []) = some r))) else (some (Bo false, []) = some r)))) : Zhi a a1 = some r := by
  unfold Zhi
  refine run Z6w rfl ?_
  simp only [Zdm, Zy, Zb.c_def, mpl, dfs] at h
  try simp only [itb] at h
  try simp only [itf, List.getElem?_eq_some_iff, kk] at h
  rcases h with ⟨v1_0, q1, (⟨q2, q3, v2_0, q4, h⟩ | ⟨q2, h⟩)⟩
  all_goals (refine Eq.trans ?_ h; clear h; simp +decide [*, kk, Zvy])
theorem Zyz (q : Zb) (mask : Int) (x : Int) (i : Int) (r : AV × List Blk) (h : (if i < (q.Atoms.length : Int) then (Zf1 q mask x i 0 = some r) else (some (I x, []) = some r))) : Ze1 q mask x i = some r := by
  unfold Ze1
  rw [EvL_eq Zmn.eq_1]
  try simp only [itb] at h
  try simp only [itf, List.getElem?_eq_some_iff, kk] at h
  rcases h with ⟨q1, h⟩ | ⟨q1, h⟩
  all_goals (refine Eq.trans ?_ h; clear h; simp +decide [*, kk, Zf1, Zmo])
theorem Zrt (q : Zb) (mask : Int) (x : Int) (i : Int) (k : Int) (r : AV × List Blk) (h : (0 ≤ i ∧ (∃ (e1 : Atom), q.Atoms[i.toNat]? = some e1 ∧ (if k < (e1.Vars.length : Int) then (¬ i < 0 ∧ (if (andI (shrI mask i) 1) = 1 then (0 ≤ k ∧ (∃ (e2 : Int), e1.Vars[k.toNat]? = some e2 ∧ (¬ e2 < 0 ∧ (Zf1 q mask (orI x (shlI 1 e2)) i (w (k + 1)) = some r)))) else (Ze1 q mask x (w (i + 1)) = some r))) else (Ze1 q mask x (w (i + 1)) = some r))))) : Zf1 q mask x i k = some r := by
  unfold Zf1
  rw [EvL_eq Zp7.eq_1]
  try simp only [itb] at h
  try simp only [itf, List.getElem?_eq_some_iff, kk] at h
  rcases h with ⟨q1, e1, ⟨g2, q2⟩, (⟨q3, q4, (⟨q5, q6, e2, ⟨g7, q7⟩, q8, h⟩ | ⟨q5, h⟩)⟩ | ⟨q3, h⟩)⟩
  all_goals (refine Eq.trans ?_ h; clear h; simp +decide [*, kk, Zf1, Ze1, Zp8])
theorem Z97 (a : Zb) (a1 : Int) (r : AV × List Blk) (h : (Ze1 a a1 0 0 = some r)) : Zb1 a a1 = some r := by
  unfold Zb1
  refine run Z6x rfl ?_
  refine Eq.trans ?_ h; clear h; simp +decide [*, kk, Zvz, Ze1]
theorem Zy0 (q : Zb) (mask : Int) (out : Int) (bits : Int) (i : Int) (r : AV × List Blk) (h : (if i < (q.Atoms.length : Int) then (¬ i < 0 ∧ (if (andI (shrI mask i) 1) = 0 then (∃ (v1_0 : Int), Zb1 q (shlI 1 i) = some (I v1_0, []) ∧ (if (andI v1_0 bits) = 0 then (Ze2 q mask out bits (w (i + 1)) = some r) else (Ze2 q mask (orI out (shlI 1 i)) bits (w (i + 1)) = some r))) else (Ze2 q mask out bits (w (i + 1)) = some r))) else (some (I out, []) = some r))) : Ze2 q mask out bits i = some r := by
  unfold Ze2
  rw [EvL_eq Zp9.eq_1]
  simp only [Zb1, Zb.c_def, mpl, dfs] at h
  try simp only [itb] at h
  try simp only [itf, List.getElem?_eq_some_iff, kk] at h
  rcases h with ⟨q1, q2, (⟨q3, v1_0, q4, (⟨q5, h⟩ | ⟨q5, h⟩)⟩ | ⟨q3, h⟩)⟩ | ⟨q1, h⟩
  all_goals (refine Eq.trans ?_ h; clear h; simp +decide [*, kk, Ze2, Zv0, Zqa])
theorem Z98 (a : Zb) (a1 : Int) (r : AV × List Blk) (h : (∃ (v1_0 : Int), Zb1 a a1 = some (I v1_0, []) ∧ (Ze2 a a1 0 v1_0 0 = some r))) : Zkj a a1 = some r := by
  unfold Zkj
  refine run Z6y rfl ?_
  simp only [Zb1, Zb.c_def, mpl, dfs] at h
  rcases h with ⟨v1_0, q1, h⟩
  all_goals (refine Eq.trans ?_ h; clear h; simp +decide [*, kk, Zv1, Ze2])
theorem Zy1 (q : Zb) (mask : Int) (x : Int) (n : Int) (r : AV × List Blk) (h : (if n < (q.Atoms.length : Int) then (∃ (v1_0 : Int), Zkj q x = some (I v1_0, []) ∧ (Zhj q mask (orI x (andI v1_0 mask)) (w (n + 1)) = some r)) else (some (Bo (decide (x = mask)), []) = some r))) : Zhj q mask x n = some r := by
  unfold Zhj
  rw [EvL_eq Zqb.eq_1]
  simp only [Zkj, Zb.c_def, mpl, dfs] at h
  try simp only [itb] at h
  try simp only [itf, List.getElem?_eq_some_iff, kk] at h
  rcases h with ⟨q1, v1_0, q2, h⟩ | ⟨q1, h⟩
  all_goals (refine Eq.trans ?_ h; clear h; simp +decide [*, kk, Zhj, Zqc])
theorem Z99 (a : Zb) (a1 : Int) (r : AV × List Blk) (h : (Zhj a a1 (andI a1 (w (0 - a1))) 0 = some r)) : Zd6 a a1 = some r := by
  unfold Zd6
  refine run Z6z rfl ?_
  refine Eq.trans ?_ h; clear h; simp +decide [*, kk, Zv2, Zhj]
theorem Zbaa (a : Zb) (a1 : Int) (r : AV × List Blk) (h : (∃ (v1_0 : Bool), Zhi a a1 = some (Bo v1_0, []) ∧ (if v1_0 = true then (if 0 < a1 then (∃ (v2_0 : Bool), Zd6 a a1 = some (Bo v2_0, []) ∧ (some (Bo v2_0, []) = some r)) else (some (Bo false, []) = some r)) else (some (Bo false, []) = some r)))) : Zhk a a1 = some r := by
  unfold Zhk
  refine run Z60 rfl ?_
  simp only [Zhi, Zd6, Zb.c_def, mpl, dfs] at h
  try simp only [itb] at h
  try simp only [itf, List.getElem?_eq_some_iff, kk] at h
  rcases h with ⟨v1_0, q1, (⟨q2, (⟨q3, v2_0, q4, h⟩ | ⟨q3, h⟩)⟩ | ⟨q2, h⟩)⟩
  all_goals (refine Eq.trans ?_ h; clear h; simp +decide [*, kk, Zv3])
theorem Zy2 (l : List Int) (i : Int) (r : AV × List Blk) (h : (if i < (l.length : Int) then (0 ≤ i ∧ (∃ (e1 : Int), l[i.toNat]? = some e1 ∧ (∃ (v2_0 : Bool), Zy e1 0 7 = some (Bo v2_0, []) ∧ (if v2_0 = true then (Zhl l (w (i + 1)) = some r) else (some (Bo false, []) = some r))))) else (some (Bo (decide ((l.length : Int) ≤ 16)), []) = some r))) : Zhl l i = some r := by
  unfold Zhl
  rw [EvL_eq Zqd.eq_1]
  simp only [Zy, mpl, dfs] at h
  try simp only [itb] at h
  try simp only [itf, List.getElem?_eq_some_iff, kk] at h
  rcases h with ⟨q1, q2, e1, ⟨g3, q3⟩, v2_0, q4, (⟨q5, h⟩ | ⟨q5, h⟩)⟩ | ⟨q1, h⟩
  all_goals (refine Eq.trans ?_ h; clear h; simp +decide [*, kk, Zhl, Zqe])
theorem Zbab (a : List Int) (r : AV × List Blk) (h : (Zhl a 0 = some r)) : Zf2 a = some r := by
  unfold Zf2
  refine run Z61 rfl ?_
  refine Eq.trans ?_ h; clear h; simp +decide [*, kk, Zv4, Zhl]
theorem Zy3 (a : List Int) (b : List Int) (i : Int) (r : AV × List Blk) (h : (if i < (a.length : Int) then (0 ≤ i ∧ (∃ (e1 : Int), a[i.toNat]? = some e1 ∧ (∃ (e2 : Int), b[i.toNat]? = some e2 ∧ (if e1 < e2 then (some (Bo false, []) = some r) else (Zhm a b (w (i + 1)) = some r))))) else (some (Bo true, []) = some r))) : Zhm a b i = some r := by
  unfold Zhm
  rw [EvL_eq Zqf.eq_1]
  try simp only [itb] at h
  try simp only [itf, List.getElem?_eq_some_iff, kk] at h
  rcases h with ⟨q1, q2, e1, ⟨g3, q3⟩, e2, ⟨g4, q4⟩, (⟨q5, h⟩ | ⟨q5, h⟩)⟩ | ⟨q1, h⟩
  all_goals (refine Eq.trans ?_ h; clear h; simp +decide [*, kk, Zhm, Zqg])
theorem Zbac (a : List Int) (a1 : List Int) (r : AV × List Blk) (h : (if (a.length : Int) = (a1.length : Int) then (Zhm a a1 0 = some r) else (some (Bo false, []) = some r))) : Zkk a a1 = some r := by
  unfold Zkk
  refine run Z62 rfl ?_
  try simp only [itb] at h
  try simp only [itf, List.getElem?_eq_some_iff, kk] at h
  rcases h with ⟨q1, h⟩ | ⟨q1, h⟩
  all_goals (refine Eq.trans ?_ h; clear h; simp +decide [*, kk, Zv5, Zhm])
theorem Zbad (a : Box) (r : AV × List Blk) (h : (if 0 < (a.Low.length : Int) then (∃ (v1_0 : Bool), Zf2 a.Low = some (Bo v1_0, []) ∧ (if v1_0 = true then (∃ (v2_0 : Bool), Zf2 a.High = some (Bo v2_0, []) ∧ (if v2_0 = true then (∃ (v3_0 : Bool), Zkk a.High a.Low = some (Bo v3_0, []) ∧ (some (Bo v3_0, []) = some r)) else (some (Bo false, []) = some r))) else (some (Bo false, []) = some r))) else (some (Bo false, []) = some r))) : Zhn a = some r := by
  unfold Zhn
  refine run Z63 rfl ?_
  simp only [Zf2, Zkk, mpl, dfs] at h
  try simp only [itb] at h
  try simp only [itf, List.getElem?_eq_some_iff, kk] at h
  rcases h with ⟨q1, v1_0, q2, (⟨q3, v2_0, q4, (⟨q5, v3_0, q6, h⟩ | ⟨q5, h⟩)⟩ | ⟨q3, h⟩)⟩ | ⟨q1, h⟩
  all_goals (refine Eq.trans ?_ h; clear h; simp +decide [*, kk, Zv6])
theorem Zbae (a : Int) (a1 : Int) (r : AV × List Blk) (h : (∃ (v1_0 : Bool), Zy a1 0 3 = some (Bo v1_0, []) ∧ (if v1_0 = true then (¬ a1 < 0 ∧ (some (Bo (decide ((andI (shrI a a1) 1) = 1)), []) = some r)) else (some (Bo false, []) = some r)))) : Ze3 a a1 = some r := by
  unfold Ze3
  refine run Z64 rfl ?_
  simp only [Zy, mpl, dfs] at h
  try simp only [itb] at h
  try simp only [itf, List.getElem?_eq_some_iff, kk] at h
  rcases h with ⟨v1_0, q1, (⟨q2, q3, h⟩ | ⟨q2, h⟩)⟩
  all_goals (refine Eq.trans ?_ h; clear h; simp +decide [*, kk, Zv7])
end Go.Proofs.YtbapkgocloaaeaaGreat
/- part: G10 -/
namespace Go.Proofs.YtbapkgocloaaeaaGreat
open Go.AM
theorem Zlf (q : Zb) (x : Zc) (x1 : Zf) (info : List Zf) (stack : List Int) (n : Int) (x2 : Int) (x3 : Bool) (r : AV × List Blk) (h : (if x3 = true then (if x.Atom = 0 then (if n < 2 then (some (.tup [.agg [I 0, I 0, I 0, I 0], I (-1)], []) = some r) else (0 ≤ (w (n - 2)) ∧ (∃ (e1 : Int), stack[(w (n - 2)).toNat]? = some e1 ∧ (0 ≤ e1 ∧ (∃ (e2 : Zf), info[e1.toNat]? = some e2 ∧ (0 ≤ (w (n - 1)) ∧ (∃ (e3 : Int), stack[(w (n - 1)).toNat]? = some e3 ∧ (0 ≤ e3 ∧ (∃ (e4 : Zf), info[e3.toNat]? = some e4 ∧ (∃ (v5_0 : Int), Zb1 q e2.Mask = some (I v5_0, []) ∧ (∃ (v6_0 : Int), Zb1 q e4.Mask = some (I v6_0, []) ∧ (if (andI e2.Mask e4.Mask) = 0 then (if (andI v5_0 v6_0) = 0 then (some (.tup [.agg [I 0, I 0, I 0, I 0], I (-1)], []) = some r) else (if x.Kind = 4 then (Zf4 q x x1 e2 e4 (⟨(orI e2.Mask e4.Mask), (-1), e1, e3⟩ : Zf) (andI v5_0 v6_0) false = some r) else (if x.Order = 0 then (if x.Kind = 5 then (Zhp q x x1 e2 e4 (⟨(orI e2.Mask e4.Mask), e2.Order, e1, e3⟩ : Zf) (andI v5_0 v6_0) = some r) else (Zf4 q x x1 e2 e4 (⟨(orI e2.Mask e4.Mask), (-1), e1, e3⟩ : Zf) (andI v5_0 v6_0) false = some r)) else (some (.tup [.agg [I 0, I 0, I 0, I 0], I (-1)], []) = some r)))) else (some (.tup [.agg [I 0, I 0, I 0, I 0], I (-1)], []) = some r))))))))))))) else (some (.tup [.agg [I 0, I 0, I 0, I 0], I (-1)], []) = some r)) else (some (.tup [.agg [I 0, I 0, I 0, I 0], I (-1)], []) = some r))) : Zho q x x1 info stack n x2 x3 = some r := by
  unfold Zho
  rw [Ev_eq Zmp.eq_1]
  by_cases q1 : x3 = true
  · rw [if_pos q1] at h
    by_cases q2 : x.Atom = 0
    · rw [if_pos q2] at h
      replace q2 := eq_true q2
      by_cases q3 : n < 2
      · rw [if_pos q3] at h
        refine Eq.trans ?_ h
        clear h
        simp +decide [*]
      · rw [if_neg q3] at h
        obtain ⟨q4, h⟩ := h
        obtain ⟨e1, q5, h⟩ := h
        have gq5 := ltOfGet q5
        have kq5 := getOf q5
        obtain ⟨q6, h⟩ := h
        obtain ⟨e2, q7, h⟩ := h
        have gq7 := ltOfGet q7
        have kq7 := getOf q7
        obtain ⟨q8, h⟩ := h
        obtain ⟨e3, q9, h⟩ := h
        have gq9 := ltOfGet q9
        have kq9 := getOf q9
        obtain ⟨q10, h⟩ := h
        obtain ⟨e4, q11, h⟩ := h
        have gq11 := ltOfGet q11
        have kq11 := getOf q11
        obtain ⟨v5_0, q12, h⟩ := h
        unfold Zb1 at q12
        try simp at q12
        obtain ⟨v6_0, q13, h⟩ := h
        unfold Zb1 at q13
        try simp at q13
        by_cases q14 : (andI e2.Mask e4.Mask) = 0
        · rw [if_pos q14] at h
          replace q14 := eq_true q14
          by_cases q15 : (andI v5_0 v6_0) = 0
          · rw [if_pos q15] at h
            replace q15 := eq_true q15
            refine Eq.trans ?_ h
            clear h
            simp +decide [*]
          · rw [if_neg q15] at h
            replace q15 := eq_false q15
            by_cases q16 : x.Kind = 4
            · rw [if_pos q16] at h
              replace q16 := eq_true q16
              have q17 : (x.Kind = 5) = False := eq_false (by intro hh; simp_all)
              refine Eq.trans ?_ h
              clear h
              simp +decide [*, Zf4]
            · rw [if_neg q16] at h
              replace q16 := eq_false q16
              by_cases q18 : x.Order = 0
              · rw [if_pos q18] at h
                replace q18 := eq_true q18
                by_cases q19 : x.Kind = 5
                · rw [if_pos q19] at h
                  replace q19 := eq_true q19
                  refine Eq.trans ?_ h
                  clear h
                  simp +decide [*, Zhp]
                · rw [if_neg q19] at h
                  replace q19 := eq_false q19
                  refine Eq.trans ?_ h
                  clear h
                  simp +decide [*, Zf4]
              · rw [if_neg q18] at h
                replace q18 := eq_false q18
                refine Eq.trans ?_ h
                clear h
                simp +decide [*]
        · rw [if_neg q14] at h
          replace q14 := eq_false q14
          refine Eq.trans ?_ h
          clear h
          simp +decide [*]
    · rw [if_neg q2] at h
      replace q2 := eq_false q2
      refine Eq.trans ?_ h
      clear h
      simp +decide [*]
  · rw [if_neg q1] at h
    refine Eq.trans ?_ h
    clear h
    simp +decide [*]
theorem Zbaf (x : Zb) (x1 : Zc) (x2 : Zf) (a : Zf) (b : Zf) (y : Zf) (v : Int) (r : AV × List Blk) (h : (if x1.Kind = 4 then (∃ (v1_0 : Bool), Ze3 v x1.Order = some (Bo v1_0, []) ∧ (if v1_0 = true then (if a.Order = x1.Order then (if b.Order = x1.Order then (some (.tup [.agg [I y.Mask, I x1.Order, I y.Left, I y.Right], I 2], []) = some r) else (some (.tup [.agg [I 0, I 0, I 0, I 0], I (-1)], []) = some r)) else (some (.tup [.agg [I 0, I 0, I 0, I 0], I (-1)], []) = some r)) else (some (.tup [.agg [I 0, I 0, I 0, I 0], I (-1)], []) = some r))) else (some (.tup [.agg (y.c.map .t), I 2], []) = some r))) : Zhp x x1 x2 a b y v = some r := by
  unfold Zhp
  rw [Ev_eq Zkl.eq_1]
  simp only [Ze3, mpl, dfs] at h
  try simp only [itb] at h
  try simp only [itf, List.getElem?_eq_some_iff, kk] at h
  rcases h with ⟨q1, v1_0, q2, (⟨q3, (⟨q4, (⟨q5, h⟩ | ⟨q5, h⟩)⟩ | ⟨q4, h⟩)⟩ | ⟨q3, h⟩)⟩ | ⟨q1, h⟩
  all_goals (refine Eq.trans ?_ h; clear h; simp +decide [*, kk, Zqh])
theorem Zru (x : Zb) (x1 : Zc) (x2 : Zf) (a : Zf) (b : Zf) (y : Zf) (v : Int) (x3 : Bool) (r : AV × List Blk) (h : (if x1.Kind = 4 then (∃ (v1_0 : Bool), Ze3 v x1.Order = some (Bo v1_0, []) ∧ (if v1_0 = true then (if a.Order = x1.Order then (if b.Order = x1.Order then (some (.tup [.agg [I y.Mask, I x1.Order, I y.Left, I y.Right], I 2], []) = some r) else (some (.tup [.agg [I 0, I 0, I 0, I 0], I (-1)], []) = some r)) else (some (.tup [.agg [I 0, I 0, I 0, I 0], I (-1)], []) = some r)) else (some (.tup [.agg [I 0, I 0, I 0, I 0], I (-1)], []) = some r))) else (some (.tup [.agg (y.c.map .t), I 2], []) = some r))) : Zf4 x x1 x2 a b y v x3 = some r := by
  unfold Zf4
  rw [Ev_eq Zkl.eq_1]
  simp only [Ze3, mpl, dfs] at h
  try simp only [itb] at h
  try simp only [itf, List.getElem?_eq_some_iff, kk] at h
  rcases h with ⟨q1, v1_0, q2, (⟨q3, (⟨q4, (⟨q5, h⟩ | ⟨q5, h⟩)⟩ | ⟨q4, h⟩)⟩ | ⟨q3, h⟩)⟩ | ⟨q1, h⟩
  all_goals (refine Eq.trans ?_ h; clear h; simp +decide [*, kk, Zqh])
theorem Zd9 (a : Zb) (a1 : Zc) (a2 : List Zf) (a3 : List Int) (r : AV × List Blk) (h : (if a1.Kind = 1 then (∃ (v1_0 : Bool), Zy a1.Atom 0 (w ((a.Atoms.length : Int) - 1)) = some (Bo v1_0, []) ∧ (if v1_0 = true then (if a1.Order = 0 then (¬ a1.Atom < 0 ∧ (0 ≤ a1.Atom ∧ (∃ (e2 : Atom), a.Atoms[a1.Atom.toNat]? = some e2 ∧ (∃ (e3 : Int), e2.Vars[0]? = some e3 ∧ (some (.tup [.agg [I (shlI 1 a1.Atom), I e3, I (-1), I (-1)], I 0], []) = some r))))) else (some (.tup [.agg [I 0, I 0, I 0, I 0], I (-1)], []) = some r)) else (some (.tup [.agg [I 0, I 0, I 0, I 0], I (-1)], []) = some r))) else (if a1.Kind = 2 then (if a1.Atom = 0 then (if (a3.length : Int) < 1 then (some (.tup [.agg [I 0, I 0, I 0, I 0], I (-1)], []) = some r) else (0 ≤ (w ((a3.length : Int) - 1)) ∧ (∃ (e4 : Int), a3[(w ((a3.length : Int) - 1)).toNat]? = some e4 ∧ (0 ≤ e4 ∧ (∃ (e5 : Zf), a2[e4.toNat]? = some e5 ∧ (if e5.Order = a1.Order then (some (.tup [.agg [I 0, I 0, I 0, I 0], I (-1)], []) = some r) else (∃ (v6_0 : Int), Zb1 a e5.Mask = some (I v6_0, []) ∧ (∃ (v7_0 : Bool), Ze3 v6_0 a1.Order = some (Bo v7_0, []) ∧ (if v7_0 = true then (some (.tup [.agg [I e5.Mask, I a1.Order, I e4, I (-1)], I 1], []) = some r) else (some (.tup [.agg [I 0, I 0, I 0, I 0], I (-1)], []) = some r)))))))))) else (some (.tup [.agg [I 0, I 0, I 0, I 0], I (-1)], []) = some r)) else (if a1.Kind = 3 then (Zho a a1 (⟨0, 0, 0, 0⟩ : Zf) a2 a3 (a3.length : Int) a1.Kind true = some r) else (if a1.Kind = 4 then (Zho a a1 (⟨0, 0, 0, 0⟩ : Zf) a2 a3 (a3.length : Int) a1.Kind true = some r) else (if a1.Kind = 5 then (if a1.Atom = 0 then (if (a3.length : Int) < 2 then (some (.tup [.agg [I 0, I 0, I 0, I 0], I (-1)], []) = some r) else (0 ≤ (w ((a3.length : Int) - 2)) ∧ (∃ (e8 : Int), a3[(w ((a3.length : Int) - 2)).toNat]? = some e8 ∧ (0 ≤ e8 ∧ (∃ (e9 : Zf), a2[e8.toNat]? = some e9 ∧ (0 ≤ (w ((a3.length : Int) - 1)) ∧ (∃ (e10 : Int), a3[(w ((a3.length : Int) - 1)).toNat]? = some e10 ∧ (0 ≤ e10 ∧ (∃ (e11 : Zf), a2[e10.toNat]? = some e11 ∧ (∃ (v12_0 : Int), Zb1 a e9.Mask = some (I v12_0, []) ∧ (∃ (v13_0 : Int), Zb1 a e11.Mask = some (I v13_0, []) ∧ (if (andI e9.Mask e11.Mask) = 0 then (if (andI v12_0 v13_0) = 0 then (some (.tup [.agg [I 0, I 0, I 0, I 0], I (-1)], []) = some r) else (if a1.Order = 0 then (Zhp a a1 (⟨0, 0, 0, 0⟩ : Zf) e9 e11 (⟨(orI e9.Mask e11.Mask), e9.Order, e8, e10⟩ : Zf) (andI v12_0 v13_0) = some r) else (some (.tup [.agg [I 0, I 0, I 0, I 0], I (-1)], []) = some r))) else (some (.tup [.agg [I 0, I 0, I 0, I 0], I (-1)], []) = some r))))))))))))) else (some (.tup [.agg [I 0, I 0, I 0, I 0], I (-1)], []) = some r)) else (some (.tup [.agg [I 0, I 0, I 0, I 0], I (-1)], []) = some r))))))) : Zf3 a a1 a2 a3 = some r := by
  unfold Zf3
  refine run Z65 rfl ?_
  simp only [Zy, Zb1, Ze3, Zb.c_def, mpl, dfs] at h
  try simp only [itb] at h
  try simp only [itf, List.getElem?_eq_some_iff, kk] at h
  rcases h with ⟨q1, v1_0, q2, (⟨q3, (⟨q4, q5, q6, e2, ⟨g7, q7⟩, e3, ⟨g8, q8⟩, h⟩ | ⟨q4, h⟩)⟩ | ⟨q3, h⟩)⟩ | ⟨q1, (⟨q9, (⟨q10, (⟨q11, h⟩ | ⟨q11, q12, e4, ⟨g13, q13⟩, q14, e5, ⟨g15, q15⟩, (⟨q16, h⟩ | ⟨q16, v6_0, q17, v7_0, q18, (⟨q19, h⟩ | ⟨q19, h⟩)⟩)⟩)⟩ | ⟨q10, h⟩)⟩ | ⟨q9, (⟨q20, h⟩ | ⟨q20, (⟨q21, h⟩ | ⟨q21, (⟨q22, (⟨q23, (⟨q24, h⟩ | ⟨q24, q25, e8, ⟨g26, q26⟩, q27, e9, ⟨g28, q28⟩, q29, e10, ⟨g30, q30⟩, q31, e11, ⟨g32, q32⟩, v12_0, q33, v13_0, q34, (⟨q35, (⟨q36, h⟩ | ⟨q36, (⟨q37, h⟩ | ⟨q37, h⟩)⟩)⟩ | ⟨q35, h⟩)⟩)⟩ | ⟨q23, h⟩)⟩ | ⟨q22, h⟩)⟩)⟩)⟩)⟩
  all_goals (refine Eq.trans ?_ h; clear h; simp +decide [*, kk, Zv8, Zho, Zmp, Zhp])
theorem Zy4 (q : Zb) (p : Plan) (info : List Zf) (stack : List Int) (i : Int) (r : AV × List Blk) (h : (if i < (p.Steps.length : Int) then (0 ≤ i ∧ (∃ (e1 : Zc), p.Steps[i.toNat]? = some e1 ∧ (∃ (v2_0 : Zf) (v2_1 : Int), Zf3 q e1 info stack = some (.tup [.agg (v2_0.c.map .t), I v2_1], []) ∧ (if v2_1 < 0 then (some (.tup [.own 0, Bo false], [.arr 138 4 true (([] : List Zf).map Zf.c)]) = some r) else (info.length + 1 ≤ 68719476736 ∧ (0 ≤ (w ((stack.length : Int) - v2_1)) ∧ ((w ((stack.length : Int) - v2_1)).toNat ≤ stack.length ∧ ((w ((stack.length : Int) - v2_1)).toNat ≤ 68719476736 ∧ ((w ((stack.length : Int) - v2_1)).toNat + 1 ≤ 68719476736 ∧ (Zhr q p (info ++ [v2_0]) ((stack.take ((w ((stack.length : Int) - v2_1)).toNat)) ++ [i]) (w (i + 1)) = some r)))))))))) else (if (stack.length : Int) = 1 then (some (.tup [.own 0, Bo true], [.arr 138 4 true (info.map Zf.c)]) = some r) else (some (.tup [.own 0, Bo false], [.arr 138 4 true (([] : List Zf).map Zf.c)]) = some r)))) : Zhr q p info stack i = some r := by
  unfold Zhr
  rw [EvL_eq Zqi.eq_1]
  simp only [Zf3, Zc.c_def, Zb.c_def, Zf.c_def, mpl, dfs] at h
  try simp only [itb] at h
  try simp only [itf, List.getElem?_eq_some_iff, kk] at h
  rcases h with ⟨q1, q2, e1, ⟨g3, q3⟩, v2_0, v2_1, q4, (⟨q5, h⟩ | ⟨q5, q6, q7, q8, q9, q10, h⟩)⟩ | ⟨q1, (⟨q11, h⟩ | ⟨q11, h⟩)⟩
  all_goals (refine Eq.trans ?_ h; clear h; simp +decide [*, kk, Zhr, Zqj])
theorem Zbag (a : Zb) (a1 : Plan) (r : AV × List Blk) (h : (∃ (v1_0 : Bool), Zdm a = some (Bo v1_0, []) ∧ (if v1_0 = true then (∃ (v2_0 : Bool), Zy (a1.Steps.length : Int) 1 14 = some (Bo v2_0, []) ∧ (if v2_0 = true then (Zhr a a1 ([] : List Zf) ([] : List Int) 0 = some r) else (some (.tup [.own 0, Bo false], [.arr 138 4 true (([] : List Zf).map Zf.c)]) = some r))) else (some (.tup [.own 0, Bo false], [.arr 138 4 true (([] : List Zf).map Zf.c)]) = some r)))) : Zhq a a1 = some r := by
  unfold Zhq
  refine run Z66 rfl ?_
  simp only [Zdm, Zy, Zb.c_def, mpl, dfs] at h
  try simp only [itb] at h
  try simp only [itf, List.getElem?_eq_some_iff, kk] at h
  rcases h with ⟨v1_0, q1, (⟨q2, v2_0, q3, (⟨q4, h⟩ | ⟨q4, h⟩)⟩ | ⟨q2, h⟩)⟩
  all_goals (refine Eq.trans ?_ h; clear h; simp +decide [*, kk, Zv9, Zhr])
theorem Zbah (a : Zb) (a1 : Plan) (r : AV × List Blk) (h : (∃ (v1_0 : List Zf) (v1_1 : Bool), Zhq a a1 = some (.tup [.own 0, Bo v1_1], [.arr 138 4 true (v1_0.map Zf.c)]) ∧ (if v1_1 = true then (0 ≤ (w ((v1_0.length : Int) - 1)) ∧ (∃ (e2 : Zf), v1_0[(w ((v1_0.length : Int) - 1)).toNat]? = some e2 ∧ (some (I e2.Mask, []) = some r))) else (some (I 0, []) = some r)))) : Zkm a a1 = some r := by
  unfold Zkm
  refine run Z67 rfl ?_
  simp only [Zhq, Plan.c_def, Zb.c_def, mpl, dfs] at h
  try simp only [itb] at h
  try simp only [itf, List.getElem?_eq_some_iff, kk] at h
  rcases h with ⟨v1_0, v1_1, q1, (⟨q2, q3, e2, ⟨g4, q4⟩, h⟩ | ⟨q2, h⟩)⟩
  all_goals (refine Eq.trans ?_ h; clear h; simp +decide [*, kk, Zwa])
theorem Zbai (a : Zb) (a1 : Region) (r : AV × List Blk) (h : (∃ (v1_0 : Bool), Zhn a1.Box = some (Bo v1_0, []) ∧ (if v1_0 = true then (∃ (v2_0 : Int), Zcv a = some (I v2_0, []) ∧ (if (a1.Box.Low.length : Int) = (w (v2_0 + 1)) then (∃ (v3_0 : Int), Zkm a a1.Plan = some (I v3_0, []) ∧ (if v3_0 = v2_0 then (if 0 < v2_0 then (∃ (v4_0 : Bool), Zy a1.Percent 100 1000 = some (Bo v4_0, []) ∧ (some (Bo v4_0, []) = some r)) else (some (Bo false, []) = some r)) else (some (Bo false, []) = some r))) else (some (Bo false, []) = some r))) else (some (Bo false, []) = some r)))) : Zkn a a1 = some r := by
  unfold Zkn
  refine run Z68 rfl ?_
  simp only [Zhn, Zcv, Zkm, Zy, Box.c_def, Plan.c_def, Zb.c_def, mpl, dfs] at h
  try simp only [itb] at h
  try simp only [itf, List.getElem?_eq_some_iff, kk] at h
  rcases h with ⟨v1_0, q1, (⟨q2, v2_0, q3, (⟨q4, v3_0, q5, (⟨q6, (⟨q7, v4_0, q8, h⟩ | ⟨q7, h⟩)⟩ | ⟨q6, h⟩)⟩ | ⟨q4, h⟩)⟩ | ⟨q2, h⟩)⟩
  all_goals (refine Eq.trans ?_ h; clear h; simp +decide [*, kk, Zwb])
theorem Zy5 (q : Zb) (out : List Int) (full : Int) (m : Int) (r : AV × List Blk) (h : (if m ≤ full then (∃ (v1_0 : Bool), Zd6 q m = some (Bo v1_0, []) ∧ (if v1_0 = true then (out.length + 1 ≤ 68719476736 ∧ (Zf5 q (out ++ [m]) full (w (m + 1)) = some r)) else (Zf5 q out full (w (m + 1)) = some r))) else (some (.own 0, [.arr 3 1 true (out.map ic)]) = some r))) : Zf5 q out full m = some r := by
  unfold Zf5
  rw [EvL_eq Zqk.eq_1]
  simp only [Zd6, Zb.c_def, mpl, dfs] at h
  try simp only [itb] at h
  try simp only [itf, List.getElem?_eq_some_iff, kk] at h
  rcases h with ⟨q1, v1_0, q2, (⟨q3, q4, h⟩ | ⟨q3, h⟩)⟩ | ⟨q1, h⟩
  all_goals (refine Eq.trans ?_ h; clear h; simp +decide [*, kk, Zf5, Zwc, Zql])
theorem Zbaj (a : Zb) (r : AV × List Blk) (h : (∃ (v1_0 : Int), Zcv a = some (I v1_0, []) ∧ (Zf5 a ([] : List Int) v1_0 1 = some r))) : Zko a = some r := by
  unfold Zko
  refine run Z69 rfl ?_
  simp only [Zcv, Zb.c_def, mpl, dfs] at h
  rcases h with ⟨v1_0, q1, h⟩
  all_goals (refine Eq.trans ?_ h; clear h; simp +decide [*, kk, Zwd, Zf5])
theorem Zy6 (q : Zb) (out : List Int) (mask : Int) (m : Int) (r : AV × List Blk) (h : (if m < mask then (if (andI m mask) = m then (∃ (v1_0 : Bool), Zd6 q m = some (Bo v1_0, []) ∧ (if v1_0 = true then (∃ (v2_0 : Bool), Zd6 q (w (mask - m)) = some (Bo v2_0, []) ∧ (if v2_0 = true then (out.length + 1 ≤ 68719476736 ∧ (Zdn q (out ++ [m]) mask (w (m + 1)) = some r)) else (Zdn q out mask (w (m + 1)) = some r))) else (Zdn q out mask (w (m + 1)) = some r))) else (Zdn q out mask (w (m + 1)) = some r)) else (some (.own 0, [.arr 3 1 true (out.map ic)]) = some r))) : Zdn q out mask m = some r := by
  unfold Zdn
  rw [EvL_eq Zqm.eq_1]
  simp only [Zd6, Zb.c_def, mpl, dfs] at h
  try simp only [itb] at h
  try simp only [itf, List.getElem?_eq_some_iff, kk] at h
  rcases h with ⟨q1, (⟨q2, v1_0, q3, (⟨q4, v2_0, q5, (⟨q6, q7, h⟩ | ⟨q6, h⟩)⟩ | ⟨q4, h⟩)⟩ | ⟨q2, h⟩)⟩ | ⟨q1, h⟩
  all_goals (refine Eq.trans ?_ h; clear h; simp +decide [*, kk, Zdn, Zwe, Zqn])
theorem Zbak (a : Zb) (a1 : Int) (r : AV × List Blk) (h : (∃ (v1_0 : Bool), Zhk a a1 = some (Bo v1_0, []) ∧ (if v1_0 = true then (Zdn a ([] : List Int) a1 1 = some r) else (some (.own 0, [.arr 3 1 true (([] : List Int).map ic)]) = some r)))) : Zkp a a1 = some r := by
  unfold Zkp
  refine run Z7a rfl ?_
  simp only [Zhk, Zb.c_def, mpl, dfs] at h
  try simp only [itb] at h
  try simp only [itf, List.getElem?_eq_some_iff, kk] at h
  rcases h with ⟨v1_0, q1, (⟨q2, h⟩ | ⟨q2, h⟩)⟩
  all_goals (refine Eq.trans ?_ h; clear h; simp +decide [*, kk, Zwf, Zdn])
theorem Zy7 (out : List Int) (bits : Int) (v : Int) (r : AV × List Blk) (h : (if v < 4 then (¬ v < 0 ∧ (if (andI (shrI bits v) 1) = 1 then (out.length + 1 ≤ 68719476736 ∧ (Zf6 (out ++ [v]) bits (w (v + 1)) = some r)) else (Zf6 out bits (w (v + 1)) = some r))) else (some (.own 0, [.arr 3 1 true (out.map ic)]) = some r))) : Zf6 out bits v = some r := by
  unfold Zf6
  rw [EvL_eq Zqo.eq_1]
  try simp only [itb] at h
  try simp only [itf, List.getElem?_eq_some_iff, kk] at h
  rcases h with ⟨q1, q2, (⟨q3, q4, h⟩ | ⟨q3, h⟩)⟩ | ⟨q1, h⟩
  all_goals (refine Eq.trans ?_ h; clear h; simp +decide [*, kk, Zf6, Zwg, Zqp])
theorem Zbal (a : Int) (r : AV × List Blk) (h : (Zf6 ([] : List Int) a 0 = some r)) : Zmq a = some r := by
  unfold Zmq
  refine run Z7b rfl ?_
  refine Eq.trans ?_ h; clear h; simp +decide [*, kk, Zwh, Zf6]
theorem Zbam (a : Zb) (a1 : Int) (r : AV × List Blk) (h : (∃ (v1_0 : Bool), Zhi a a1 = some (Bo v1_0, []) ∧ (if v1_0 = true then (∃ (v2_0 : Int), Zb1 a a1 = some (I v2_0, []) ∧ (∃ (v3_0 : List Int), Zmq v2_0 = some (.own 0, [.arr 3 1 true (v3_0.map ic)]) ∧ (some (.own 0, [.arr 3 1 true (v3_0.map ic)]) = some r))) else (some (.own 0, [.arr 3 1 true (([] : List Int).map ic)]) = some r)))) : Zis a a1 = some r := by
  unfold Zis
  refine run Z7c rfl ?_
  simp only [Zhi, Zb1, Zmq, Zb.c_def, mpl, dfs] at h
  try simp only [itb] at h
  try simp only [itf, List.getElem?_eq_some_iff, kk] at h
  rcases h with ⟨v1_0, q1, (⟨q2, v2_0, q3, v3_0, q4, h⟩ | ⟨q2, h⟩)⟩
  all_goals (refine Eq.trans ?_ h; clear h; simp +decide [*, kk, Zwi])
theorem Zy8 (out : List Int) (x : List Int) (y : List Int) (i : Int) (r : AV × List Blk) (h : (if i < (x.length : Int) then (0 ≤ i ∧ (∃ (e1 : Int), x[i.toNat]? = some e1 ∧ (∃ (v2_0 : Bool), Zhf y e1 = some (Bo v2_0, []) ∧ (if v2_0 = true then (out.length + 1 ≤ 68719476736 ∧ (Zf8 (out ++ [e1]) x y (w (i + 1)) = some r)) else (Zf8 out x y (w (i + 1)) = some r))))) else (some (.own 0, [.arr 3 1 true (out.map ic)]) = some r))) : Zf8 out x y i = some r := by
  unfold Zf8
  rw [EvL_eq Zqq.eq_1]
  simp only [Zhf, mpl, dfs] at h
  try simp only [itb] at h
  try simp only [itf, List.getElem?_eq_some_iff, kk] at h
  rcases h with ⟨q1, q2, e1, ⟨g3, q3⟩, v2_0, q4, (⟨q5, q6, h⟩ | ⟨q5, h⟩)⟩ | ⟨q1, h⟩
  all_goals (refine Eq.trans ?_ h; clear h; simp +decide [*, kk, Zf8, Zwj, Zqr])
theorem Zban (a : Zb) (a1 : Int) (a2 : Int) (r : AV × List Blk) (h : (∃ (v1_0 : List Int), Zis a a1 = some (.own 0, [.arr 3 1 true (v1_0.map ic)]) ∧ (∃ (v2_0 : List Int), Zis a a2 = some (.own 0, [.arr 3 1 true (v2_0.map ic)]) ∧ (Zf8 ([] : List Int) v1_0 v2_0 0 = some r)))) : Zf7 a a1 a2 = some r := by
  unfold Zf7
  refine run Z7d rfl ?_
  simp only [Zis, Zb.c_def, mpl, dfs] at h
  rcases h with ⟨v1_0, q1, v2_0, q2, h⟩
  all_goals (refine Eq.trans ?_ h; clear h; simp +decide [*, kk, Zwk, Zf8])
end Go.Proofs.YtbapkgocloaaeaaGreat
