/-
  Parts of the proofs for this seat: G4 G5 G6 G7 G8 G9 G10.
-/
import Derived.Test.YtbapkgocloaaeaaGreatP9
set_option linter.unusedSimpArgs false
set_option linter.unusedVariables false
set_option maxRecDepth 100000
set_option maxHeartbeats 4000000
/- part: G4 -/
namespace Go.Proofs.YtbapkgocloaaeaaGreat
open Go.AM
theorem Zx3 (m : Zd) (info : List Zf) (out : List Int) (sizes : List Int) (x : List Zc) (x1 : Int) (x2 : Int) (r : AV × List Blk) (h : (if x2 < x1 then (0 ≤ x2 ∧ (∃ (e1 : Zc), x[x2.toNat]? = some e1 ∧ (∃ (e2 : Zf), info[x2.toNat]? = some e2 ∧ (0 ≤ e2.Mask ∧ (∃ (e3 : Int), sizes[e2.Mask.toNat]? = some e3 ∧ (if 0 ≤ e2.Left then (∃ (e4 : Zf), info[e2.Left.toNat]? = some e4 ∧ (0 ≤ e4.Mask ∧ (∃ (e5 : Int), sizes[e4.Mask.toNat]? = some e5 ∧ (if 0 ≤ e2.Right then (∃ (e6 : Zf), info[e2.Right.toNat]? = some e6 ∧ (0 ≤ e6.Mask ∧ (∃ (e7 : Int), sizes[e6.Mask.toNat]? = some e7 ∧ (Zik m info out e1 sizes x2 e5 e7 x x1 x2 = some r)))) else (Zil m info out e1 sizes x2 e5 0 x x1 x2 false = some r))))) else (if 0 ≤ e2.Right then (∃ (e8 : Zf), info[e2.Right.toNat]? = some e8 ∧ (0 ≤ e8.Mask ∧ (∃ (e9 : Int), sizes[e8.Mask.toNat]? = some e9 ∧ (Zik m info out e1 sizes x2 e3 e9 x x1 x2 = some r)))) else (Zil m info out e1 sizes x2 e3 0 x x1 x2 false = some r)))))))) else (some (.own 0, [.arr 3 1 true (out.map ic)]) = some r))) : Zba m info out sizes x x1 x2 = some r := by
  unfold Zba
  rw [EvL_eq Zjz.eq_1]
  try simp only [itb] at h
  try simp only [itf, List.getElem?_eq_some_iff, kk] at h
  rcases h with ⟨q1, q2, e1, ⟨g3, q3⟩, e2, ⟨g4, q4⟩, q5, e3, ⟨g6, q6⟩, (⟨q7, e4, ⟨g8, q8⟩, q9, e5, ⟨g10, q10⟩, (⟨q11, e6, ⟨g12, q12⟩, q13, e7, ⟨g14, q14⟩, h⟩ | ⟨q11, h⟩)⟩ | ⟨q7, (⟨q15, e8, ⟨g16, q16⟩, q17, e9, ⟨g18, q18⟩, h⟩ | ⟨q15, h⟩)⟩)⟩ | ⟨q1, h⟩
  all_goals (refine Eq.trans ?_ h; clear h; simp +decide [*, kk, Zik, Zuk, Zil, Zj0])
theorem Z78 (m : Zd) (info : List Zf) (out : List Int) (x : Zc) (sizes : List Int) (i : Int) (left : Int) (right : Int) (x1 : List Zc) (x2 : Int) (x3 : Int) (r : AV × List Blk) (h : (Zd5 m = some (.bsl 1 5, [.box (m.c.map .t), .box [.ptr 0 0, .ptr 0 6, .ptr 0 12, .ptr 0 18, .ptr 0 24]]) ∧ (if (w (x.Kind - 1)) = 0 then (0 ≤ i ∧ (∃ (e2 : Zf), info[i.toNat]? = some e2 ∧ (0 ≤ e2.Mask ∧ (∃ (e3 : Int), sizes[e2.Mask.toNat]? = some e3 ∧ (∃ (v4_0 : Int), Zbh m.Scan left right e3 = some (I v4_0, []) ∧ (out.length + 1 ≤ 68719476736 ∧ (Zba m info (out ++ [v4_0]) sizes x1 x2 (w (x3 + 1)) = some r))))))) else (if (w (x.Kind - 1)) = 1 then (0 ≤ i ∧ (∃ (e5 : Zf), info[i.toNat]? = some e5 ∧ (0 ≤ e5.Mask ∧ (∃ (e6 : Int), sizes[e5.Mask.toNat]? = some e6 ∧ (∃ (v7_0 : Int), Zbh m.Sort_ left right e6 = some (I v7_0, []) ∧ (out.length + 1 ≤ 68719476736 ∧ (Zba m info (out ++ [v7_0]) sizes x1 x2 (w (x3 + 1)) = some r))))))) else (if (w (x.Kind - 1)) = 2 then (0 ≤ i ∧ (∃ (e8 : Zf), info[i.toNat]? = some e8 ∧ (0 ≤ e8.Mask ∧ (∃ (e9 : Int), sizes[e8.Mask.toNat]? = some e9 ∧ (∃ (v10_0 : Int), Zbh m.Hash left right e9 = some (I v10_0, []) ∧ (out.length + 1 ≤ 68719476736 ∧ (Zba m info (out ++ [v10_0]) sizes x1 x2 (w (x3 + 1)) = some r))))))) else (if (w (x.Kind - 1)) = 3 then (0 ≤ i ∧ (∃ (e11 : Zf), info[i.toNat]? = some e11 ∧ (0 ≤ e11.Mask ∧ (∃ (e12 : Int), sizes[e11.Mask.toNat]? = some e12 ∧ (∃ (v13_0 : Int), Zbh m.Merge left right e12 = some (I v13_0, []) ∧ (out.length + 1 ≤ 68719476736 ∧ (Zba m info (out ++ [v13_0]) sizes x1 x2 (w (x3 + 1)) = some r))))))) else (if (w (x.Kind - 1)) = 4 then (0 ≤ i ∧ (∃ (e14 : Zf), info[i.toNat]? = some e14 ∧ (0 ≤ e14.Mask ∧ (∃ (e15 : Int), sizes[e14.Mask.toNat]? = some e15 ∧ (∃ (v16_0 : Int), Zbh m.Nested left right e15 = some (I v16_0, []) ∧ (out.length + 1 ≤ 68719476736 ∧ (Zba m info (out ++ [v16_0]) sizes x1 x2 (w (x3 + 1)) = some r))))))) else False))))))) : Zik m info out x sizes i left right x1 x2 x3 = some r := by
  unfold Zik
  rw [Ev_eq Zjy.eq_1]
  obtain ⟨q1, h⟩ := h
  unfold Zd5 at q1
  try simp at q1
  by_cases q2 : (w (x.Kind - 1)) = 0
  · rw [if_pos q2] at h
    obtain ⟨q3, h⟩ := h
    obtain ⟨e2, q4, h⟩ := h
    have gq4 := ltOfGet q4
    have kq4 := getOf q4
    obtain ⟨q5, h⟩ := h
    obtain ⟨e3, q6, h⟩ := h
    have gq6 := ltOfGet q6
    have kq6 := getOf q6
    obtain ⟨v4_0, q7, h⟩ := h
    unfold Zbh at q7
    try simp at q7
    obtain ⟨q8, h⟩ := h
    have rq8 := roomA (b := 8) q8 (by omega)
    have sq8 := roomB q8
    try simp [*] at rq8
    try simp [*] at sq8
    refine Eq.trans ?_ h
    clear h
    simp +decide [*, Zba]
  · rw [if_neg q2] at h
    replace q2 := eq_false q2
    by_cases q9 : (w (x.Kind - 1)) = 1
    · rw [if_pos q9] at h
      obtain ⟨q10, h⟩ := h
      obtain ⟨e5, q11, h⟩ := h
      have gq11 := ltOfGet q11
      have kq11 := getOf q11
      obtain ⟨q12, h⟩ := h
      obtain ⟨e6, q13, h⟩ := h
      have gq13 := ltOfGet q13
      have kq13 := getOf q13
      obtain ⟨v7_0, q14, h⟩ := h
      unfold Zbh at q14
      try simp at q14
      obtain ⟨q15, h⟩ := h
      have rq15 := roomA (b := 8) q15 (by omega)
      have sq15 := roomB q15
      try simp [*] at rq15
      try simp [*] at sq15
      refine Eq.trans ?_ h
      clear h
      simp +decide [*, Zba]
    · rw [if_neg q9] at h
      replace q9 := eq_false q9
      by_cases q16 : (w (x.Kind - 1)) = 2
      · rw [if_pos q16] at h
        obtain ⟨q17, h⟩ := h
        obtain ⟨e8, q18, h⟩ := h
        have gq18 := ltOfGet q18
        have kq18 := getOf q18
        obtain ⟨q19, h⟩ := h
        obtain ⟨e9, q20, h⟩ := h
        have gq20 := ltOfGet q20
        have kq20 := getOf q20
        obtain ⟨v10_0, q21, h⟩ := h
        unfold Zbh at q21
        try simp at q21
        obtain ⟨q22, h⟩ := h
        have rq22 := roomA (b := 8) q22 (by omega)
        have sq22 := roomB q22
        try simp [*] at rq22
        try simp [*] at sq22
        refine Eq.trans ?_ h
        clear h
        simp +decide [*, Zba]
      · rw [if_neg q16] at h
        replace q16 := eq_false q16
        by_cases q23 : (w (x.Kind - 1)) = 3
        · rw [if_pos q23] at h
          obtain ⟨q24, h⟩ := h
          obtain ⟨e11, q25, h⟩ := h
          have gq25 := ltOfGet q25
          have kq25 := getOf q25
          obtain ⟨q26, h⟩ := h
          obtain ⟨e12, q27, h⟩ := h
          have gq27 := ltOfGet q27
          have kq27 := getOf q27
          obtain ⟨v13_0, q28, h⟩ := h
          unfold Zbh at q28
          try simp at q28
          obtain ⟨q29, h⟩ := h
          have rq29 := roomA (b := 8) q29 (by omega)
          have sq29 := roomB q29
          try simp [*] at rq29
          try simp [*] at sq29
          refine Eq.trans ?_ h
          clear h
          simp +decide [*, Zba]
        · rw [if_neg q23] at h
          replace q23 := eq_false q23
          by_cases q30 : (w (x.Kind - 1)) = 4
          · rw [if_pos q30] at h
            obtain ⟨q31, h⟩ := h
            obtain ⟨e14, q32, h⟩ := h
            have gq32 := ltOfGet q32
            have kq32 := getOf q32
            obtain ⟨q33, h⟩ := h
            obtain ⟨e15, q34, h⟩ := h
            have gq34 := ltOfGet q34
            have kq34 := getOf q34
            obtain ⟨v16_0, q35, h⟩ := h
            unfold Zbh at q35
            try simp at q35
            obtain ⟨q36, h⟩ := h
            have rq36 := roomA (b := 8) q36 (by omega)
            have sq36 := roomB q36
            try simp [*] at rq36
            try simp [*] at sq36
            refine Eq.trans ?_ h
            clear h
            simp +decide [*, Zba]
          · rw [if_neg q30] at h
            replace q30 := eq_false q30
            cases h
theorem Z79 (m : Zd) (info : List Zf) (out : List Int) (x : Zc) (sizes : List Int) (i : Int) (left : Int) (right : Int) (x1 : List Zc) (x2 : Int) (x3 : Int) (x4 : Bool) (r : AV × List Blk) (h : (Zd5 m = some (.bsl 1 5, [.box (m.c.map .t), .box [.ptr 0 0, .ptr 0 6, .ptr 0 12, .ptr 0 18, .ptr 0 24]]) ∧ (if (w (x.Kind - 1)) = 0 then (0 ≤ i ∧ (∃ (e2 : Zf), info[i.toNat]? = some e2 ∧ (0 ≤ e2.Mask ∧ (∃ (e3 : Int), sizes[e2.Mask.toNat]? = some e3 ∧ (∃ (v4_0 : Int), Zbh m.Scan left right e3 = some (I v4_0, []) ∧ (out.length + 1 ≤ 68719476736 ∧ (Zba m info (out ++ [v4_0]) sizes x1 x2 (w (x3 + 1)) = some r))))))) else (if (w (x.Kind - 1)) = 1 then (0 ≤ i ∧ (∃ (e5 : Zf), info[i.toNat]? = some e5 ∧ (0 ≤ e5.Mask ∧ (∃ (e6 : Int), sizes[e5.Mask.toNat]? = some e6 ∧ (∃ (v7_0 : Int), Zbh m.Sort_ left right e6 = some (I v7_0, []) ∧ (out.length + 1 ≤ 68719476736 ∧ (Zba m info (out ++ [v7_0]) sizes x1 x2 (w (x3 + 1)) = some r))))))) else (if (w (x.Kind - 1)) = 2 then (0 ≤ i ∧ (∃ (e8 : Zf), info[i.toNat]? = some e8 ∧ (0 ≤ e8.Mask ∧ (∃ (e9 : Int), sizes[e8.Mask.toNat]? = some e9 ∧ (∃ (v10_0 : Int), Zbh m.Hash left right e9 = some (I v10_0, []) ∧ (out.length + 1 ≤ 68719476736 ∧ (Zba m info (out ++ [v10_0]) sizes x1 x2 (w (x3 + 1)) = some r))))))) else (if (w (x.Kind - 1)) = 3 then (0 ≤ i ∧ (∃ (e11 : Zf), info[i.toNat]? = some e11 ∧ (0 ≤ e11.Mask ∧ (∃ (e12 : Int), sizes[e11.Mask.toNat]? = some e12 ∧ (∃ (v13_0 : Int), Zbh m.Merge left right e12 = some (I v13_0, []) ∧ (out.length + 1 ≤ 68719476736 ∧ (Zba m info (out ++ [v13_0]) sizes x1 x2 (w (x3 + 1)) = some r))))))) else (if (w (x.Kind - 1)) = 4 then (0 ≤ i ∧ (∃ (e14 : Zf), info[i.toNat]? = some e14 ∧ (0 ≤ e14.Mask ∧ (∃ (e15 : Int), sizes[e14.Mask.toNat]? = some e15 ∧ (∃ (v16_0 : Int), Zbh m.Nested left right e15 = some (I v16_0, []) ∧ (out.length + 1 ≤ 68719476736 ∧ (Zba m info (out ++ [v16_0]) sizes x1 x2 (w (x3 + 1)) = some r))))))) else False))))))) : Zil m info out x sizes i left right x1 x2 x3 x4 = some r := by
  unfold Zil
  rw [Ev_eq Zjy.eq_1]
  obtain ⟨q1, h⟩ := h
  unfold Zd5 at q1
  try simp at q1
  by_cases q2 : (w (x.Kind - 1)) = 0
  · rw [if_pos q2] at h
    obtain ⟨q3, h⟩ := h
    obtain ⟨e2, q4, h⟩ := h
    have gq4 := ltOfGet q4
    have kq4 := getOf q4
    obtain ⟨q5, h⟩ := h
    obtain ⟨e3, q6, h⟩ := h
    have gq6 := ltOfGet q6
    have kq6 := getOf q6
    obtain ⟨v4_0, q7, h⟩ := h
    unfold Zbh at q7
    try simp at q7
    obtain ⟨q8, h⟩ := h
    have rq8 := roomA (b := 8) q8 (by omega)
    have sq8 := roomB q8
    try simp [*] at rq8
    try simp [*] at sq8
    refine Eq.trans ?_ h
    clear h
    simp +decide [*, Zba]
  · rw [if_neg q2] at h
    replace q2 := eq_false q2
    by_cases q9 : (w (x.Kind - 1)) = 1
    · rw [if_pos q9] at h
      obtain ⟨q10, h⟩ := h
      obtain ⟨e5, q11, h⟩ := h
      have gq11 := ltOfGet q11
      have kq11 := getOf q11
      obtain ⟨q12, h⟩ := h
      obtain ⟨e6, q13, h⟩ := h
      have gq13 := ltOfGet q13
      have kq13 := getOf q13
      obtain ⟨v7_0, q14, h⟩ := h
      unfold Zbh at q14
      try simp at q14
      obtain ⟨q15, h⟩ := h
      have rq15 := roomA (b := 8) q15 (by omega)
      have sq15 := roomB q15
      try simp [*] at rq15
      try simp [*] at sq15
      refine Eq.trans ?_ h
      clear h
      simp +decide [*, Zba]
    · rw [if_neg q9] at h
      replace q9 := eq_false q9
      by_cases q16 : (w (x.Kind - 1)) = 2
      · rw [if_pos q16] at h
        obtain ⟨q17, h⟩ := h
        obtain ⟨e8, q18, h⟩ := h
        have gq18 := ltOfGet q18
        have kq18 := getOf q18
        obtain ⟨q19, h⟩ := h
        obtain ⟨e9, q20, h⟩ := h
        have gq20 := ltOfGet q20
        have kq20 := getOf q20
        obtain ⟨v10_0, q21, h⟩ := h
        unfold Zbh at q21
        try simp at q21
        obtain ⟨q22, h⟩ := h
        have rq22 := roomA (b := 8) q22 (by omega)
        have sq22 := roomB q22
        try simp [*] at rq22
        try simp [*] at sq22
        refine Eq.trans ?_ h
        clear h
        simp +decide [*, Zba]
      · rw [if_neg q16] at h
        replace q16 := eq_false q16
        by_cases q23 : (w (x.Kind - 1)) = 3
        · rw [if_pos q23] at h
          obtain ⟨q24, h⟩ := h
          obtain ⟨e11, q25, h⟩ := h
          have gq25 := ltOfGet q25
          have kq25 := getOf q25
          obtain ⟨q26, h⟩ := h
          obtain ⟨e12, q27, h⟩ := h
          have gq27 := ltOfGet q27
          have kq27 := getOf q27
          obtain ⟨v13_0, q28, h⟩ := h
          unfold Zbh at q28
          try simp at q28
          obtain ⟨q29, h⟩ := h
          have rq29 := roomA (b := 8) q29 (by omega)
          have sq29 := roomB q29
          try simp [*] at rq29
          try simp [*] at sq29
          refine Eq.trans ?_ h
          clear h
          simp +decide [*, Zba]
        · rw [if_neg q23] at h
          replace q23 := eq_false q23
          by_cases q30 : (w (x.Kind - 1)) = 4
          · rw [if_pos q30] at h
            obtain ⟨q31, h⟩ := h
            obtain ⟨e14, q32, h⟩ := h
            have gq32 := ltOfGet q32
            have kq32 := getOf q32
            obtain ⟨q33, h⟩ := h
            obtain ⟨e15, q34, h⟩ := h
            have gq34 := ltOfGet q34
            have kq34 := getOf q34
            obtain ⟨v16_0, q35, h⟩ := h
            unfold Zbh at q35
            try simp at q35
            obtain ⟨q36, h⟩ := h
            have rq36 := roomA (b := 8) q36 (by omega)
            have sq36 := roomB q36
            try simp [*] at rq36
            try simp [*] at sq36
            refine Eq.trans ?_ h
            clear h
            simp +decide [*, Zba]
          · rw [if_neg q30] at h
            replace q30 := eq_false q30
            cases h
theorem Zrp (a : Zd) (a1 : Zb) (a2 : Plan) (a3 : List Int) (r : AV × List Blk) (h : ((Zem a1 a2 = some (.tup [.t .nil, Bo false], []) ∧ (some (.t .nil, []) = some r)) ∨ (∃ (v2_0 : List Zf), Zem a1 a2 = some (.tup [.own 0, Bo true], [.arr 138 4 true (v2_0.map Zf.c)]) ∧ (∃ (v3_0 : Bool), Zhd a1 a3 = some (Bo v3_0, []) ∧ (if v3_0 = true then (Zba a v2_0 ([] : List Int) a3 a2.Steps (a2.Steps.length : Int) 0 = some r) else (some (.t .nil, []) = some r)))))) : Zhf a a1 a2 a3 = some r := by
  unfold Zhf
  refine run Z45 rfl ?_
  simp only [Zem, Zhd, Plan.c_def, Zb.c_def, mpl, dfs] at h
  try simp only [itb] at h
  try simp only [itf, List.getElem?_eq_some_iff, kk] at h
  rcases h with ⟨q2, h⟩ | ⟨v2_0, q3, v3_0, q4, (⟨q5, h⟩ | ⟨q5, h⟩)⟩
  all_goals (refine Eq.trans ?_ h; clear h; simp +decide [*, kk, Zul, Zba])
theorem Zx4 (n : Int) (x : List Int) (x1 : Int) (x2 : Int) (r : AV × List Blk) (h : (if x2 < x1 then (0 ≤ x2 ∧ (∃ (e1 : Int), x[x2.toNat]? = some e1 ∧ (Zhg (w (n + e1)) x x1 (w (x2 + 1)) = some r))) else (some (I n, []) = some r))) : Zhg n x x1 x2 = some r := by
  unfold Zhg
  rw [EvL_eq Zo0.eq_1]
  try simp only [itb] at h
  try simp only [itf, List.getElem?_eq_some_iff, kk] at h
  rcases h with ⟨q1, q2, e1, ⟨g3, q3⟩, h⟩ | ⟨q1, h⟩
  all_goals (refine Eq.trans ?_ h; clear h; simp +decide [*, kk, Zhg, Zo1])
theorem Z8a (a : List Int) (r : AV × List Blk) (h : (Zhg 0 a (a.length : Int) 0 = some r)) : Zj1 a = some r := by
  unfold Zj1
  refine run Z46 rfl ?_
  refine Eq.trans ?_ h; clear h; simp +decide [*, kk, Zum, Zhg]
theorem Z8b (a : Zd) (a1 : Zb) (a2 : Plan) (a3 : List Int) (r : AV × List Blk) (h : ((Zhf a a1 a2 a3 = some (.t .nil, []) ∧ (some (I (-1), []) = some r)) ∨ (∃ (v2_0 : List Int), Zhf a a1 a2 a3 = some (.own 0, [.arr 3 1 true (v2_0.map ic)]) ∧ (v2_0 ≠ [] ∧ (∃ (v3_0 : Int), Zj1 v2_0 = some (I v3_0, []) ∧ (some (I v3_0, []) = some r)))))) : Zez a a1 a2 a3 = some r := by
  unfold Zez
  refine run Z47 rfl ?_
  rcases h with h | h
  ·
    obtain ⟨q1, h⟩ := h
    unfold Zhf at q1
    try simp at q1
    refine Eq.trans ?_ h
    clear h
    simp +decide [*, Zo2]
  ·
    obtain ⟨v2_0, q2, h⟩ := h
    unfold Zhf at q2
    try simp at q2
    obtain ⟨q3, h⟩ := h
    obtain ⟨yq3, ysq3, eq3⟩ := List.exists_cons_of_ne_nil q3
    first | subst eq3 | skip
    obtain ⟨v3_0, q4, h⟩ := h
    unfold Zj1 at q4
    try simp at q4
    refine Eq.trans ?_ h
    clear h
    simp +decide [*, Zo2]
theorem Z8c (a : Zd) (a1 : Zb) (a2 : Plan) (a3 : List Int) (r : AV × List Blk) (h : ((∃ (v1_0 : List Int), Zex a3 = some (.own 0, [.arr 3 1 true (v1_0.map ic)]) ∧ (∃ (v2_0 : Int), Zez a a1 a2 v1_0 = some (I v2_0, []) ∧ (some (I v2_0, []) = some r))) ∨ (Zex a3 = some (.t .nil, []) ∧ (∃ (v4_0 : Int), Zun a a1 a2 = some (I v4_0, []) ∧ (some (I v4_0, []) = some r))))) : Zj2 a a1 a2 a3 = some r := by
  unfold Zj2
  refine run Z48 rfl ?_
  simp only [Zex, Zez, Zun, Zd.c_def, Zh.c_def, Plan.c_def, Zb.c_def, mpl, dfs] at h
  rcases h with ⟨v1_0, q2, v2_0, q3, h⟩ | ⟨q4, v4_0, q5, h⟩
  all_goals (refine Eq.trans ?_ h; clear h; simp +decide [*, kk, Zuo])
theorem Zx5 (q : Zb) (out : List Int) (mask : Int) (r : AV × List Blk) (h : (∃ (v1_0 : Int), Zbz q = some (I v1_0, []) ∧ (if mask ≤ v1_0 then (∃ (v2_0 : Bool), Zd4 q mask = some (Bo v2_0, []) ∧ (if v2_0 = true then (out.length + 1 ≤ 68719476736 ∧ (Zfp q (out ++ [mask]) (w (mask + 1)) = some r)) else (Zfp q out (w (mask + 1)) = some r))) else (some (.own 0, [.arr 3 1 true (out.map ic)]) = some r)))) : Zfp q out mask = some r := by
  unfold Zfp
  rw [EvL_eq Zo3.eq_1]
  simp only [Zbz, Zd4, Zb.c_def, mpl, dfs] at h
  try simp only [itb] at h
  try simp only [itf, List.getElem?_eq_some_iff, kk] at h
  rcases h with ⟨v1_0, q1, (⟨q2, v2_0, q3, (⟨q4, q5, h⟩ | ⟨q4, h⟩)⟩ | ⟨q2, h⟩)⟩
  all_goals (refine Eq.trans ?_ h; clear h; simp +decide [*, kk, Zfp, Zup, Zo4])
theorem Z8d (a : Zb) (r : AV × List Blk) (h : (Zfp a ([] : List Int) 1 = some r)) : Zj3 a = some r := by
  unfold Zj3
  refine run Z49 rfl ?_
  refine Eq.trans ?_ h; clear h; simp +decide [*, kk, Zuq, Zfp]
theorem Zx6 (out : List Int) (mask : Int) (i : Int) (r : AV × List Blk) (h : (if i < 4 then (¬ i < 0 ∧ (if (andI (shrI mask i) 1) = 1 then (out.length + 1 ≤ 68719476736 ∧ (Zfq (out ++ [i]) mask (w (i + 1)) = some r)) else (Zfq out mask (w (i + 1)) = some r))) else (some (.own 0, [.arr 3 1 true (out.map ic)]) = some r))) : Zfq out mask i = some r := by
  unfold Zfq
  rw [EvL_eq Zo5.eq_1]
  try simp only [itb] at h
  try simp only [itf, List.getElem?_eq_some_iff, kk] at h
  rcases h with ⟨q1, q2, (⟨q3, q4, h⟩ | ⟨q3, h⟩)⟩ | ⟨q1, h⟩
  all_goals (refine Eq.trans ?_ h; clear h; simp +decide [*, kk, Zfq, Zur, Zo6])
theorem Z8e (a : Int) (r : AV × List Blk) (h : (∃ (v1_0 : Bool), Zu a 0 15 = some (Bo v1_0, []) ∧ (if v1_0 = true then (Zfq ([] : List Int) a 0 = some r) else (some (.t .nil, []) = some r)))) : Zim a = some r := by
  unfold Zim
  refine run Z5a rfl ?_
  simp only [Zu, mpl, dfs] at h
  try simp only [itb] at h
  try simp only [itf, List.getElem?_eq_some_iff, kk] at h
  rcases h with ⟨v1_0, q1, (⟨q2, h⟩ | ⟨q2, h⟩)⟩
  all_goals (refine Eq.trans ?_ h; clear h; simp +decide [*, kk, Zus, Zfq])
theorem Z8f (a : Int) (r : AV × List Blk) (h : (some (.agg [.own 0], [.arr 142 3 true (([(⟨1, a, 0⟩ : Zc)]).map Zc.c)]) = some r)) : Zj4 a = some r := by
  unfold Zj4
  refine run Z5b rfl ?_
  refine Eq.trans ?_ h; clear h; simp +decide [*, kk, Zut]
end Go.Proofs.YtbapkgocloaaeaaGreat
/- part: G5 -/
namespace Go.Proofs.YtbapkgocloaaeaaGreat
open Go.AM
theorem Zcj (m : Zd) (q : Zb) (sizes : List Int) (mask : Int) (list0 : Za) (list1 : Za) (list2 : Za) (list3 : Za) (list4 : Za) (some0 : Bool) (some1 : Bool) (some2 : Bool) (some3 : Bool) (some4 : Bool) (x : List Zc) (a : Int) (r : AV × List Blk) (h : (∃ (v1_0 : Int), Zez m q (⟨x⟩ : Plan) sizes = some (I v1_0, []) ∧ (if (w (a + 1)) = 0 then (if some0 = true then (if v1_0 < list0.Cost then (some (.tup [], [.box [I m.Scan.Fixed, I m.Scan.Zi, I m.Scan.Zj, I m.Scan.Zl, I m.Scan.Zk, L 2 (m.Scan.Steps.map Zg.c), I m.Sort_.Fixed, I m.Sort_.Zi, I m.Sort_.Zj, I m.Sort_.Zl, I m.Sort_.Zk, L 2 (m.Sort_.Steps.map Zg.c), I m.Hash.Fixed, I m.Hash.Zi, I m.Hash.Zj, I m.Hash.Zl, I m.Hash.Zk, L 2 (m.Hash.Steps.map Zg.c), I m.Merge.Fixed, I m.Merge.Zi, I m.Merge.Zj, I m.Merge.Zl, I m.Merge.Zk, L 2 (m.Merge.Steps.map Zg.c), I m.Nested.Fixed, I m.Nested.Zi, I m.Nested.Zj, I m.Nested.Zl, I m.Nested.Zk, L 2 (m.Nested.Steps.map Zg.c), I q.Ze, L 2 (q.Atoms.map Atom.c), L 1 (sizes.map ic), I mask, I mask, I a, I v1_0, L 3 (x.map Zc.c), I list1.Mask, I list1.Order, I list1.Cost, L 3 (list1.Plan.Steps.map Zc.c), I list2.Mask, I list2.Order, I list2.Cost, L 3 (list2.Plan.Steps.map Zc.c), I list3.Mask, I list3.Order, I list3.Cost, L 3 (list3.Plan.Steps.map Zc.c), I list4.Mask, I list4.Order, I list4.Cost, L 3 (list4.Plan.Steps.map Zc.c), Bo true, Bo some1, Bo some2, Bo some3, Bo some4], .dead]) = some r) else (some (.tup [], [boxO m q sizes mask list0 list1 list2 list3 list4 some0 some1 some2 some3 some4, .arr 142 3 true (x.map Zc.c)]) = some r)) else (some (.tup [], [.box [I m.Scan.Fixed, I m.Scan.Zi, I m.Scan.Zj, I m.Scan.Zl, I m.Scan.Zk, L 2 (m.Scan.Steps.map Zg.c), I m.Sort_.Fixed, I m.Sort_.Zi, I m.Sort_.Zj, I m.Sort_.Zl, I m.Sort_.Zk, L 2 (m.Sort_.Steps.map Zg.c), I m.Hash.Fixed, I m.Hash.Zi, I m.Hash.Zj, I m.Hash.Zl, I m.Hash.Zk, L 2 (m.Hash.Steps.map Zg.c), I m.Merge.Fixed, I m.Merge.Zi, I m.Merge.Zj, I m.Merge.Zl, I m.Merge.Zk, L 2 (m.Merge.Steps.map Zg.c), I m.Nested.Fixed, I m.Nested.Zi, I m.Nested.Zj, I m.Nested.Zl, I m.Nested.Zk, L 2 (m.Nested.Steps.map Zg.c), I q.Ze, L 2 (q.Atoms.map Atom.c), L 1 (sizes.map ic), I mask, I mask, I a, I v1_0, L 3 (x.map Zc.c), I list1.Mask, I list1.Order, I list1.Cost, L 3 (list1.Plan.Steps.map Zc.c), I list2.Mask, I list2.Order, I list2.Cost, L 3 (list2.Plan.Steps.map Zc.c), I list3.Mask, I list3.Order, I list3.Cost, L 3 (list3.Plan.Steps.map Zc.c), I list4.Mask, I list4.Order, I list4.Cost, L 3 (list4.Plan.Steps.map Zc.c), Bo true, Bo some1, Bo some2, Bo some3, Bo some4], .dead]) = some r)) else (if (w (a + 1)) = 1 then (if some1 = true then (if v1_0 < list1.Cost then (some (.tup [], [.box [I m.Scan.Fixed, I m.Scan.Zi, I m.Scan.Zj, I m.Scan.Zl, I m.Scan.Zk, L 2 (m.Scan.Steps.map Zg.c), I m.Sort_.Fixed, I m.Sort_.Zi, I m.Sort_.Zj, I m.Sort_.Zl, I m.Sort_.Zk, L 2 (m.Sort_.Steps.map Zg.c), I m.Hash.Fixed, I m.Hash.Zi, I m.Hash.Zj, I m.Hash.Zl, I m.Hash.Zk, L 2 (m.Hash.Steps.map Zg.c), I m.Merge.Fixed, I m.Merge.Zi, I m.Merge.Zj, I m.Merge.Zl, I m.Merge.Zk, L 2 (m.Merge.Steps.map Zg.c), I m.Nested.Fixed, I m.Nested.Zi, I m.Nested.Zj, I m.Nested.Zl, I m.Nested.Zk, L 2 (m.Nested.Steps.map Zg.c), I q.Ze, L 2 (q.Atoms.map Atom.c), L 1 (sizes.map ic), I mask, I list0.Mask, I list0.Order, I list0.Cost, L 3 (list0.Plan.Steps.map Zc.c), I mask, I a, I v1_0, L 3 (x.map Zc.c), I list2.Mask, I list2.Order, I list2.Cost, L 3 (list2.Plan.Steps.map Zc.c), I list3.Mask, I list3.Order, I list3.Cost, L 3 (list3.Plan.Steps.map Zc.c), I list4.Mask, I list4.Order, I list4.Cost, L 3 (list4.Plan.Steps.map Zc.c), Bo some0, Bo true, Bo some2, Bo some3, Bo some4], .dead]) = some r) else (some (.tup [], [boxO m q sizes mask list0 list1 list2 list3 list4 some0 some1 some2 some3 some4, .arr 142 3 true (x.map Zc.c)]) = some r)) else (some (.tup [], [.box [I m.Scan.Fixed, I m.Scan.Zi, I m.Scan.Zj, I m.Scan.Zl, I m.Scan.Zk, L 2 (m.Scan.Steps.map Zg.c), I m.Sort_.Fixed, I m.Sort_.Zi, I m.Sort_.Zj, I m.Sort_.Zl, I m.Sort_.Zk, L 2 (m.Sort_.Steps.map Zg.c), I m.Hash.Fixed, I m.Hash.Zi, I m.Hash.Zj, I m.Hash.Zl, I m.Hash.Zk, L 2 (m.Hash.Steps.map Zg.c), I m.Merge.Fixed, I m.Merge.Zi, I m.Merge.Zj, I m.Merge.Zl, I m.Merge.Zk, L 2 (m.Merge.Steps.map Zg.c), I m.Nested.Fixed, I m.Nested.Zi, I m.Nested.Zj, I m.Nested.Zl, I m.Nested.Zk, L 2 (m.Nested.Steps.map Zg.c), I q.Ze, L 2 (q.Atoms.map Atom.c), L 1 (sizes.map ic), I mask, I list0.Mask, I list0.Order, I list0.Cost, L 3 (list0.Plan.Steps.map Zc.c), I mask, I a, I v1_0, L 3 (x.map Zc.c), I list2.Mask, I list2.Order, I list2.Cost, L 3 (list2.Plan.Steps.map Zc.c), I list3.Mask, I list3.Order, I list3.Cost, L 3 (list3.Plan.Steps.map Zc.c), I list4.Mask, I list4.Order, I list4.Cost, L 3 (list4.Plan.Steps.map Zc.c), Bo some0, Bo true, Bo some2, Bo some3, Bo some4], .dead]) = some r)) else (if (w (a + 1)) = 2 then (if some2 = true then (if v1_0 < list2.Cost then (some (.tup [], [.box [I m.Scan.Fixed, I m.Scan.Zi, I m.Scan.Zj, I m.Scan.Zl, I m.Scan.Zk, L 2 (m.Scan.Steps.map Zg.c), I m.Sort_.Fixed, I m.Sort_.Zi, I m.Sort_.Zj, I m.Sort_.Zl, I m.Sort_.Zk, L 2 (m.Sort_.Steps.map Zg.c), I m.Hash.Fixed, I m.Hash.Zi, I m.Hash.Zj, I m.Hash.Zl, I m.Hash.Zk, L 2 (m.Hash.Steps.map Zg.c), I m.Merge.Fixed, I m.Merge.Zi, I m.Merge.Zj, I m.Merge.Zl, I m.Merge.Zk, L 2 (m.Merge.Steps.map Zg.c), I m.Nested.Fixed, I m.Nested.Zi, I m.Nested.Zj, I m.Nested.Zl, I m.Nested.Zk, L 2 (m.Nested.Steps.map Zg.c), I q.Ze, L 2 (q.Atoms.map Atom.c), L 1 (sizes.map ic), I mask, I list0.Mask, I list0.Order, I list0.Cost, L 3 (list0.Plan.Steps.map Zc.c), I list1.Mask, I list1.Order, I list1.Cost, L 3 (list1.Plan.Steps.map Zc.c), I mask, I a, I v1_0, L 3 (x.map Zc.c), I list3.Mask, I list3.Order, I list3.Cost, L 3 (list3.Plan.Steps.map Zc.c), I list4.Mask, I list4.Order, I list4.Cost, L 3 (list4.Plan.Steps.map Zc.c), Bo some0, Bo some1, Bo true, Bo some3, Bo some4], .dead]) = some r) else (some (.tup [], [boxO m q sizes mask list0 list1 list2 list3 list4 some0 some1 some2 some3 some4, .arr 142 3 true (x.map Zc.c)]) = some r)) else (some (.tup [], [.box [I m.Scan.Fixed, I m.Scan.Zi, I m.Scan.Zj, I m.Scan.Zl, I m.Scan.Zk, L 2 (m.Scan.Steps.map Zg.c), I m.Sort_.Fixed, I m.Sort_.Zi, I m.Sort_.Zj, I m.Sort_.Zl, I m.Sort_.Zk, L 2 (m.Sort_.Steps.map Zg.c), I m.Hash.Fixed, I m.Hash.Zi, I m.Hash.Zj, I m.Hash.Zl, I m.Hash.Zk, L 2 (m.Hash.Steps.map Zg.c), I m.Merge.Fixed, I m.Merge.Zi, I m.Merge.Zj, I m.Merge.Zl, I m.Merge.Zk, L 2 (m.Merge.Steps.map Zg.c), I m.Nested.Fixed, I m.Nested.Zi, I m.Nested.Zj, I m.Nested.Zl, I m.Nested.Zk, L 2 (m.Nested.Steps.map Zg.c), I q.Ze, L 2 (q.Atoms.map Atom.c), L 1 (sizes.map ic), I mask, I list0.Mask, I list0.Order, I list0.Cost, L 3 (list0.Plan.Steps.map Zc.c), I list1.Mask, I list1.Order, I list1.Cost, L 3 (list1.Plan.Steps.map Zc.c), I mask, I a, I v1_0, L 3 (x.map Zc.c), I list3.Mask, I list3.Order, I list3.Cost, L 3 (list3.Plan.Steps.map Zc.c), I list4.Mask, I list4.Order, I list4.Cost, L 3 (list4.Plan.Steps.map Zc.c), Bo some0, Bo some1, Bo true, Bo some3, Bo some4], .dead]) = some r)) else (if (w (a + 1)) = 3 then (if some3 = true then (if v1_0 < list3.Cost then (some (.tup [], [.box [I m.Scan.Fixed, I m.Scan.Zi, I m.Scan.Zj, I m.Scan.Zl, I m.Scan.Zk, L 2 (m.Scan.Steps.map Zg.c), I m.Sort_.Fixed, I m.Sort_.Zi, I m.Sort_.Zj, I m.Sort_.Zl, I m.Sort_.Zk, L 2 (m.Sort_.Steps.map Zg.c), I m.Hash.Fixed, I m.Hash.Zi, I m.Hash.Zj, I m.Hash.Zl, I m.Hash.Zk, L 2 (m.Hash.Steps.map Zg.c), I m.Merge.Fixed, I m.Merge.Zi, I m.Merge.Zj, I m.Merge.Zl, I m.Merge.Zk, L 2 (m.Merge.Steps.map Zg.c), I m.Nested.Fixed, I m.Nested.Zi, I m.Nested.Zj, I m.Nested.Zl, I m.Nested.Zk, L 2 (m.Nested.Steps.map Zg.c), I q.Ze, L 2 (q.Atoms.map Atom.c), L 1 (sizes.map ic), I mask, I list0.Mask, I list0.Order, I list0.Cost, L 3 (list0.Plan.Steps.map Zc.c), I list1.Mask, I list1.Order, I list1.Cost, L 3 (list1.Plan.Steps.map Zc.c), I list2.Mask, I list2.Order, I list2.Cost, L 3 (list2.Plan.Steps.map Zc.c), I mask, I a, I v1_0, L 3 (x.map Zc.c), I list4.Mask, I list4.Order, I list4.Cost, L 3 (list4.Plan.Steps.map Zc.c), Bo some0, Bo some1, Bo some2, Bo true, Bo some4], .dead]) = some r) else (some (.tup [], [boxO m q sizes mask list0 list1 list2 list3 list4 some0 some1 some2 some3 some4, .arr 142 3 true (x.map Zc.c)]) = some r)) else (some (.tup [], [.box [I m.Scan.Fixed, I m.Scan.Zi, I m.Scan.Zj, I m.Scan.Zl, I m.Scan.Zk, L 2 (m.Scan.Steps.map Zg.c), I m.Sort_.Fixed, I m.Sort_.Zi, I m.Sort_.Zj, I m.Sort_.Zl, I m.Sort_.Zk, L 2 (m.Sort_.Steps.map Zg.c), I m.Hash.Fixed, I m.Hash.Zi, I m.Hash.Zj, I m.Hash.Zl, I m.Hash.Zk, L 2 (m.Hash.Steps.map Zg.c), I m.Merge.Fixed, I m.Merge.Zi, I m.Merge.Zj, I m.Merge.Zl, I m.Merge.Zk, L 2 (m.Merge.Steps.map Zg.c), I m.Nested.Fixed, I m.Nested.Zi, I m.Nested.Zj, I m.Nested.Zl, I m.Nested.Zk, L 2 (m.Nested.Steps.map Zg.c), I q.Ze, L 2 (q.Atoms.map Atom.c), L 1 (sizes.map ic), I mask, I list0.Mask, I list0.Order, I list0.Cost, L 3 (list0.Plan.Steps.map Zc.c), I list1.Mask, I list1.Order, I list1.Cost, L 3 (list1.Plan.Steps.map Zc.c), I list2.Mask, I list2.Order, I list2.Cost, L 3 (list2.Plan.Steps.map Zc.c), I mask, I a, I v1_0, L 3 (x.map Zc.c), I list4.Mask, I list4.Order, I list4.Cost, L 3 (list4.Plan.Steps.map Zc.c), Bo some0, Bo some1, Bo some2, Bo true, Bo some4], .dead]) = some r)) else (if (w (a + 1)) = 4 then (if some4 = true then (if v1_0 < list4.Cost then (some (.tup [], [.box [I m.Scan.Fixed, I m.Scan.Zi, I m.Scan.Zj, I m.Scan.Zl, I m.Scan.Zk, L 2 (m.Scan.Steps.map Zg.c), I m.Sort_.Fixed, I m.Sort_.Zi, I m.Sort_.Zj, I m.Sort_.Zl, I m.Sort_.Zk, L 2 (m.Sort_.Steps.map Zg.c), I m.Hash.Fixed, I m.Hash.Zi, I m.Hash.Zj, I m.Hash.Zl, I m.Hash.Zk, L 2 (m.Hash.Steps.map Zg.c), I m.Merge.Fixed, I m.Merge.Zi, I m.Merge.Zj, I m.Merge.Zl, I m.Merge.Zk, L 2 (m.Merge.Steps.map Zg.c), I m.Nested.Fixed, I m.Nested.Zi, I m.Nested.Zj, I m.Nested.Zl, I m.Nested.Zk, L 2 (m.Nested.Steps.map Zg.c), I q.Ze, L 2 (q.Atoms.map Atom.c), L 1 (sizes.map ic), I mask, I list0.Mask, I list0.Order, I list0.Cost, L 3 (list0.Plan.Steps.map Zc.c), I list1.Mask, I list1.Order, I list1.Cost, L 3 (list1.Plan.Steps.map Zc.c), I list2.Mask, I list2.Order, I list2.Cost, L 3 (list2.Plan.Steps.map Zc.c), I list3.Mask, I list3.Order, I list3.Cost, L 3 (list3.Plan.Steps.map Zc.c), I mask, I a, I v1_0, L 3 (x.map Zc.c), Bo some0, Bo some1, Bo some2, Bo some3, Bo true], .dead]) = some r) else (some (.tup [], [boxO m q sizes mask list0 list1 list2 list3 list4 some0 some1 some2 some3 some4, .arr 142 3 true (x.map Zc.c)]) = some r)) else (some (.tup [], [.box [I m.Scan.Fixed, I m.Scan.Zi, I m.Scan.Zj, I m.Scan.Zl, I m.Scan.Zk, L 2 (m.Scan.Steps.map Zg.c), I m.Sort_.Fixed, I m.Sort_.Zi, I m.Sort_.Zj, I m.Sort_.Zl, I m.Sort_.Zk, L 2 (m.Sort_.Steps.map Zg.c), I m.Hash.Fixed, I m.Hash.Zi, I m.Hash.Zj, I m.Hash.Zl, I m.Hash.Zk, L 2 (m.Hash.Steps.map Zg.c), I m.Merge.Fixed, I m.Merge.Zi, I m.Merge.Zj, I m.Merge.Zl, I m.Merge.Zk, L 2 (m.Merge.Steps.map Zg.c), I m.Nested.Fixed, I m.Nested.Zi, I m.Nested.Zj, I m.Nested.Zl, I m.Nested.Zk, L 2 (m.Nested.Steps.map Zg.c), I q.Ze, L 2 (q.Atoms.map Atom.c), L 1 (sizes.map ic), I mask, I list0.Mask, I list0.Order, I list0.Cost, L 3 (list0.Plan.Steps.map Zc.c), I list1.Mask, I list1.Order, I list1.Cost, L 3 (list1.Plan.Steps.map Zc.c), I list2.Mask, I list2.Order, I list2.Cost, L 3 (list2.Plan.Steps.map Zc.c), I list3.Mask, I list3.Order, I list3.Cost, L 3 (list3.Plan.Steps.map Zc.c), I mask, I a, I v1_0, L 3 (x.map Zc.c), Bo some0, Bo some1, Bo some2, Bo some3, Bo true], .dead]) = some r)) else False))))))) : Zbk m q sizes mask list0 list1 list2 list3 list4 some0 some1 some2 some3 some4 x a = some r := by
  unfold Zbk
  refine runM Z5c rfl ?_
  obtain ⟨v1_0, q1, h⟩ := h
  unfold Zez at q1
  try simp at q1
  by_cases q2 : (w (a + 1)) = 0
  · rw [if_pos q2] at h
    by_cases q3 : some0 = true
    · rw [if_pos q3] at h
      by_cases q4 : v1_0 < list0.Cost
      · rw [if_pos q4] at h
        refine Eq.trans ?_ h
        clear h
        simp +decide [*, Zb8]
      · rw [if_neg q4] at h
        refine Eq.trans ?_ h
        clear h
        simp +decide [*, Zb8]
    · rw [if_neg q3] at h
      refine Eq.trans ?_ h
      clear h
      simp +decide [*, Zb8]
  · rw [if_neg q2] at h
    replace q2 := eq_false q2
    by_cases q5 : (w (a + 1)) = 1
    · rw [if_pos q5] at h
      by_cases q6 : some1 = true
      · rw [if_pos q6] at h
        by_cases q7 : v1_0 < list1.Cost
        · rw [if_pos q7] at h
          refine Eq.trans ?_ h
          clear h
          simp +decide [*, Zb8]
        · rw [if_neg q7] at h
          refine Eq.trans ?_ h
          clear h
          simp +decide [*, Zb8]
      · rw [if_neg q6] at h
        refine Eq.trans ?_ h
        clear h
        simp +decide [*, Zb8]
    · rw [if_neg q5] at h
      replace q5 := eq_false q5
      by_cases q8 : (w (a + 1)) = 2
      · rw [if_pos q8] at h
        by_cases q9 : some2 = true
        · rw [if_pos q9] at h
          by_cases q10 : v1_0 < list2.Cost
          · rw [if_pos q10] at h
            refine Eq.trans ?_ h
            clear h
            simp +decide [*, Zb8]
          · rw [if_neg q10] at h
            refine Eq.trans ?_ h
            clear h
            simp +decide [*, Zb8]
        · rw [if_neg q9] at h
          refine Eq.trans ?_ h
          clear h
          simp +decide [*, Zb8]
      · rw [if_neg q8] at h
        replace q8 := eq_false q8
        by_cases q11 : (w (a + 1)) = 3
        · rw [if_pos q11] at h
          by_cases q12 : some3 = true
          · rw [if_pos q12] at h
            by_cases q13 : v1_0 < list3.Cost
            · rw [if_pos q13] at h
              refine Eq.trans ?_ h
              clear h
              simp +decide [*, Zb8]
            · rw [if_neg q13] at h
              refine Eq.trans ?_ h
              clear h
              simp +decide [*, Zb8]
          · rw [if_neg q12] at h
            refine Eq.trans ?_ h
            clear h
            simp +decide [*, Zb8]
        · rw [if_neg q11] at h
          replace q11 := eq_false q11
          by_cases q14 : (w (a + 1)) = 4
          · rw [if_pos q14] at h
            by_cases q15 : some4 = true
            · rw [if_pos q15] at h
              by_cases q16 : v1_0 < list4.Cost
              · rw [if_pos q16] at h
                refine Eq.trans ?_ h
                clear h
                simp +decide [*, Zb8]
              · rw [if_neg q16] at h
                refine Eq.trans ?_ h
                clear h
                simp +decide [*, Zb8]
            · rw [if_neg q15] at h
              refine Eq.trans ?_ h
              clear h
              simp +decide [*, Zb8]
          · rw [if_neg q14] at h
            replace q14 := eq_false q14
            cases h
theorem Zx7 (q : Zb) (out : List Int) (mask : Int) (x : Int) (r : AV × List Blk) (h : (if x < mask then (if (andI x mask) = x then (∃ (v1_0 : Bool), Zd4 q x = some (Bo v1_0, []) ∧ (if v1_0 = true then (∃ (v2_0 : Bool), Zd4 q (andNotI mask x) = some (Bo v2_0, []) ∧ (if v2_0 = true then (out.length + 1 ≤ 68719476736 ∧ (Zdk q (out ++ [x]) mask (w (x + 1)) = some r)) else (Zdk q out mask (w (x + 1)) = some r))) else (Zdk q out mask (w (x + 1)) = some r))) else (Zdk q out mask (w (x + 1)) = some r)) else (some (.own 0, [.arr 3 1 true (out.map ic)]) = some r))) : Zdk q out mask x = some r := by
  unfold Zdk
  rw [EvL_eq Zo7.eq_1]
  simp only [Zd4, Zb.c_def, mpl, dfs] at h
  try simp only [itb] at h
  try simp only [itf, List.getElem?_eq_some_iff, kk] at h
  rcases h with ⟨q1, (⟨q2, v1_0, q3, (⟨q4, v2_0, q5, (⟨q6, q7, h⟩ | ⟨q6, h⟩)⟩ | ⟨q4, h⟩)⟩ | ⟨q2, h⟩)⟩ | ⟨q1, h⟩
  all_goals (refine Eq.trans ?_ h; clear h; simp +decide [*, kk, Zdk, Zuu, Zo8])
theorem Z8g (a : Zb) (a1 : Int) (r : AV × List Blk) (h : (∃ (v1_0 : Bool), Zg8 a a1 = some (Bo v1_0, []) ∧ (if v1_0 = true then (Zdk a ([] : List Int) a1 1 = some r) else (some (.t .nil, []) = some r)))) : Zc4 a a1 = some r := by
  unfold Zc4
  refine run Z5d rfl ?_
  simp only [Zg8, Zb.c_def, mpl, dfs] at h
  try simp only [itb] at h
  try simp only [itf, List.getElem?_eq_some_iff, kk] at h
  rcases h with ⟨v1_0, q1, (⟨q2, h⟩ | ⟨q2, h⟩)⟩
  all_goals (refine Eq.trans ?_ h; clear h; simp +decide [*, kk, Zuv, Zdk])
end Go.Proofs.YtbapkgocloaaeaaGreat
/- part: G6 -/
namespace Go.Proofs.YtbapkgocloaaeaaGreat
open Go.AM
theorem Zx8 (Mask : Int) (Order : Int) (Cost : Int) (best : Za) (x : List Za) (x1 : Int) (x2 : Int) (r : AV × List Blk) (h : (if x2 < x1 then (0 ≤ x2 ∧ (∃ (e1 : Za), x[x2.toNat]? = some e1 ∧ (if e1.Cost < best.Cost then (Zfs Mask Order Cost e1 x x1 (w (x2 + 1)) = some r) else (Zfs Mask Order Cost best x x1 (w (x2 + 1)) = some r)))) else (some (.agg (best.c.map .t), []) = some r))) : Zfs Mask Order Cost best x x1 x2 = some r := by
  unfold Zfs
  rw [EvL_eq Zj5.eq_1]
  try simp only [itb] at h
  try simp only [itf, List.getElem?_eq_some_iff, kk] at h
  rcases h with ⟨q1, q2, e1, ⟨g3, q3⟩, (⟨q4, h⟩ | ⟨q4, h⟩)⟩ | ⟨q1, h⟩
  all_goals (refine Eq.trans ?_ h; clear h; simp +decide [*, kk, Zfs, Zo9, Zj6])
theorem Z8h (a : List Za) (r : AV × List Blk) (h : (∃ (e1 : Za), a[0]? = some e1 ∧ (Zfs 0 0 0 e1 a (a.length : Int) 0 = some r))) : Zfr a = some r := by
  unfold Zfr
  refine run Zxa rfl ?_
  try simp only [itb] at h
  try simp only [itf, List.getElem?_eq_some_iff, kk] at h
  rcases h with ⟨e1, ⟨g1, q1⟩, h⟩
  all_goals (refine Eq.trans ?_ h; clear h; simp +decide [*, kk, Zpa, Zfs])
theorem Z8i (a : Plan) (r : AV × List Blk) (h : (a.Steps.length ≤ 68719476736 ∧ (some (.agg [.own 0], [.arr 142 3 true (a.Steps.map Zc.c)]) = some r))) : Zdl a = some r := by
  unfold Zdl
  refine run Z5e rfl ?_
  rcases h with ⟨q1, h⟩
  all_goals (refine Eq.trans ?_ h; clear h; simp +decide [*, kk, Zuw])
theorem Z8j (a : Plan) (a1 : Plan) (a2 : Int) (a3 : Int) (r : AV × List Blk) (h : (∃ (v1_0 : List Zc), Zdl a = some (.agg [.own 0], [.arr 142 3 true (v1_0.map Zc.c)]) ∧ (v1_0.length + a1.Steps.length ≤ 68719476736 ∧ (v1_0.length + a1.Steps.length + 1 ≤ 68719476736 ∧ (some (.agg [.own 0], [.arr 142 3 true (((v1_0 ++ a1.Steps) ++ [(⟨a2, 0, a3⟩ : Zc)]).map Zc.c)]) = some r))))) : Zc5 a a1 a2 a3 = some r := by
  unfold Zc5
  refine run Z5f rfl ?_
  simp only [Zdl, Plan.c_def, mpl, dfs] at h
  rcases h with ⟨v1_0, q1, q2, q3, h⟩
  all_goals (refine Eq.trans ?_ h; clear h; simp +decide [*, kk, Zux])
theorem Zdv (m : Zd) (q : Zb) (sizes : List Int) (mask : Int) (list0 : Za) (list1 : Za) (list2 : Za) (list3 : Za) (list4 : Za) (some0 : Bool) (some1 : Bool) (some2 : Bool) (some3 : Bool) (some4 : Bool) (fr : Bool) (out : List Za) (x0 : Bool) (x1 : Bool) (x2 : Bool) (x3 : Bool) (x4 : Bool) (x : Int) (r : AV × List Blk) (h : (if x < 5 then (if x = 0 then (if x0 = true then (out.length + 1 ≤ 68719476736 ∧ (Z5 m q sizes mask list0 list1 list2 list3 list4 some0 some1 some2 some3 some4 false (out ++ [list0]) true x1 x2 x3 x4 (w (x + 1)) = some r)) else (Z5 m q sizes mask list0 list1 list2 list3 list4 some0 some1 some2 some3 some4 fr out false x1 x2 x3 x4 (w (x + 1)) = some r)) else (if x = 1 then (if x1 = true then (out.length + 1 ≤ 68719476736 ∧ (Z5 m q sizes mask list0 list1 list2 list3 list4 some0 some1 some2 some3 some4 false (out ++ [list1]) x0 true x2 x3 x4 (w (x + 1)) = some r)) else (Z5 m q sizes mask list0 list1 list2 list3 list4 some0 some1 some2 some3 some4 fr out x0 false x2 x3 x4 (w (x + 1)) = some r)) else (if x = 2 then (if x2 = true then (out.length + 1 ≤ 68719476736 ∧ (Z5 m q sizes mask list0 list1 list2 list3 list4 some0 some1 some2 some3 some4 false (out ++ [list2]) x0 x1 true x3 x4 (w (x + 1)) = some r)) else (Z5 m q sizes mask list0 list1 list2 list3 list4 some0 some1 some2 some3 some4 fr out x0 x1 false x3 x4 (w (x + 1)) = some r)) else (if x = 3 then (if x3 = true then (out.length + 1 ≤ 68719476736 ∧ (Z5 m q sizes mask list0 list1 list2 list3 list4 some0 some1 some2 some3 some4 false (out ++ [list3]) x0 x1 x2 true x4 (w (x + 1)) = some r)) else (Z5 m q sizes mask list0 list1 list2 list3 list4 some0 some1 some2 some3 some4 fr out x0 x1 x2 false x4 (w (x + 1)) = some r)) else (if x = 4 then (if x4 = true then (out.length + 1 ≤ 68719476736 ∧ (Z5 m q sizes mask list0 list1 list2 list3 list4 some0 some1 some2 some3 some4 false (out ++ [list4]) x0 x1 x2 x3 true (w (x + 1)) = some r)) else (Z5 m q sizes mask list0 list1 list2 list3 list4 some0 some1 some2 some3 some4 fr out x0 x1 x2 x3 false (w (x + 1)) = some r)) else False))))) else (some (.own 1, [boxO m q sizes mask list0 list1 list2 list3 list4 some0 some1 some2 some3 some4, .arr 174 4 fr (out.map Za.c)]) = some r))) : Z5 m q sizes mask list0 list1 list2 list3 list4 some0 some1 some2 some3 some4 fr out x0 x1 x2 x3 x4 x = some r := by
  unfold Z5
  rw [EvL_eq Zpb.eq_1]
  by_cases q1 : x < 5
  · rw [if_pos q1] at h
    by_cases q2 : x = 0
    · rw [if_pos q2] at h
      subst q2
      by_cases q3 : x0 = true
      · rw [if_pos q3] at h
        obtain ⟨q4, h⟩ := h
        have rq4 := roomA (b := 48) q4 (by omega)
        have sq4 := roomB q4
        try simp [*] at rq4
        try simp [*] at sq4
        refine Eq.trans ?_ h
        clear h
        simp +decide [*, Z5, Zdm]
      · rw [if_neg q3] at h
        refine Eq.trans ?_ h
        clear h
        simp +decide [*, Z5, Zdm]
    · rw [if_neg q2] at h
      replace q2 := eq_false q2
      by_cases q5 : x = 1
      · rw [if_pos q5] at h
        subst q5
        by_cases q6 : x1 = true
        · rw [if_pos q6] at h
          obtain ⟨q7, h⟩ := h
          have rq7 := roomA (b := 48) q7 (by omega)
          have sq7 := roomB q7
          try simp [*] at rq7
          try simp [*] at sq7
          refine Eq.trans ?_ h
          clear h
          simp +decide [*, Z5, Zdm]
        · rw [if_neg q6] at h
          refine Eq.trans ?_ h
          clear h
          simp +decide [*, Z5, Zdm]
      · rw [if_neg q5] at h
        replace q5 := eq_false q5
        by_cases q8 : x = 2
        · rw [if_pos q8] at h
          subst q8
          by_cases q9 : x2 = true
          · rw [if_pos q9] at h
            obtain ⟨q10, h⟩ := h
            have rq10 := roomA (b := 48) q10 (by omega)
            have sq10 := roomB q10
            try simp [*] at rq10
            try simp [*] at sq10
            refine Eq.trans ?_ h
            clear h
            simp +decide [*, Z5, Zdm]
          · rw [if_neg q9] at h
            refine Eq.trans ?_ h
            clear h
            simp +decide [*, Z5, Zdm]
        · rw [if_neg q8] at h
          replace q8 := eq_false q8
          by_cases q11 : x = 3
          · rw [if_pos q11] at h
            subst q11
            by_cases q12 : x3 = true
            · rw [if_pos q12] at h
              obtain ⟨q13, h⟩ := h
              have rq13 := roomA (b := 48) q13 (by omega)
              have sq13 := roomB q13
              try simp [*] at rq13
              try simp [*] at sq13
              refine Eq.trans ?_ h
              clear h
              simp +decide [*, Z5, Zdm]
            · rw [if_neg q12] at h
              refine Eq.trans ?_ h
              clear h
              simp +decide [*, Z5, Zdm]
          · rw [if_neg q11] at h
            replace q11 := eq_false q11
            by_cases q14 : x = 4
            · rw [if_pos q14] at h
              subst q14
              by_cases q15 : x4 = true
              · rw [if_pos q15] at h
                obtain ⟨q16, h⟩ := h
                have rq16 := roomA (b := 48) q16 (by omega)
                have sq16 := roomB q16
                try simp [*] at rq16
                try simp [*] at sq16
                refine Eq.trans ?_ h
                clear h
                simp +decide [*, Z5, Zdm]
              · rw [if_neg q15] at h
                refine Eq.trans ?_ h
                clear h
                simp +decide [*, Z5, Zdm]
            · rw [if_neg q14] at h
              replace q14 := eq_false q14
              cases h
  · rw [if_neg q1] at h
    refine Eq.trans ?_ h
    clear h
    simp +decide [*, Zpc]
theorem Z8k (m : Zd) (q : Zb) (sizes : List Int) (mask : Int) (list0 : Za) (list1 : Za) (list2 : Za) (list3 : Za) (list4 : Za) (some0 : Bool) (some1 : Bool) (some2 : Bool) (some3 : Bool) (some4 : Bool) (r : AV × List Blk) (h : (Z5 m q sizes mask list0 list1 list2 list3 list4 some0 some1 some2 some3 some4 true ([] : List Za) some0 some1 some2 some3 some4 0 = some r)) : Zj7 m q sizes mask list0 list1 list2 list3 list4 some0 some1 some2 some3 some4 = some r := by
  unfold Zj7
  refine runM Z5g rfl ?_
  refine Eq.trans ?_ h; clear h; simp +decide [*, kk, Zuy, Z5]
theorem Z8l (a : Zb) (a1 : Int) (r : AV × List Blk) (h : (∃ (v1_0 : Bool), Zg6 a a1 = some (Bo v1_0, []) ∧ (if v1_0 = true then (∃ (v2_0 : List Int), Zdh a a1 = some (.own 0, [.arr 3 1 true (v2_0.map ic)]) ∧ (some (.own 0, [.arr 3 1 true (v2_0.map ic)]) = some r)) else (some (.t .nil, []) = some r)))) : Zd7 a a1 = some r := by
  unfold Zd7
  refine run Z5h rfl ?_
  simp only [Zg6, Zdh, Zb.c_def, mpl, dfs] at h
  try simp only [itb] at h
  try simp only [itf, List.getElem?_eq_some_iff, kk] at h
  rcases h with ⟨v1_0, q1, (⟨q2, v2_0, q3, h⟩ | ⟨q2, h⟩)⟩
  all_goals (refine Eq.trans ?_ h; clear h; simp +decide [*, kk, Zuz])
theorem Z8m (a : Zb) (a1 : Int) (a2 : Int) (r : AV × List Blk) (h : ((∃ (v1_0 : List Int), Zd7 a a1 = some (.own 0, [.arr 3 1 true (v1_0.map ic)]) ∧ ((∃ (v2_0 : List Int), Zd7 a a2 = some (.own 0, [.arr 3 1 true (v2_0.map ic)]) ∧ (∃ (v3_0 : List Int), Zel v1_0 v2_0 = some (.own 0, [.arr 3 1 true (v3_0.map ic)]) ∧ (some (.own 0, [.arr 3 1 true (v3_0.map ic)]) = some r))) ∨ (Zd7 a a2 = some (.t .nil, []) ∧ (∃ (v5_0 : List Int), Zu0 v1_0 = some (.own 0, [.arr 3 1 true (v5_0.map ic)]) ∧ (some (.own 0, [.arr 3 1 true (v5_0.map ic)]) = some r))))) ∨ (Zd7 a a1 = some (.t .nil, []) ∧ ((∃ (v7_0 : List Int), Zd7 a a2 = some (.own 0, [.arr 3 1 true (v7_0.map ic)]) ∧ (∃ (v8_0 : List Int), Zu1 v7_0 = some (.own 0, [.arr 3 1 true (v8_0.map ic)]) ∧ (some (.own 0, [.arr 3 1 true (v8_0.map ic)]) = some r))) ∨ (Zd7 a a2 = some (.t .nil, []) ∧ (∃ (v10_0 : List Int), Zu2 = some (.own 0, [.arr 3 1 true (v10_0.map ic)]) ∧ (some (.own 0, [.arr 3 1 true (v10_0.map ic)]) = some r))))))) : Zhh a a1 a2 = some r := by
  unfold Zhh
  refine run Z5i rfl ?_
  simp only [Zd7, Zel, Zu0, Zu1, Zu2, Zb.c_def, mpl, dfs] at h
  rcases h with ⟨v1_0, q2, (⟨v2_0, q4, v3_0, q5, h⟩ | ⟨q6, v5_0, q7, h⟩)⟩ | ⟨q8, (⟨v7_0, q10, v8_0, q11, h⟩ | ⟨q12, v10_0, q13, h⟩)⟩
  all_goals (refine Eq.trans ?_ h; clear h; simp +decide [*, kk, Zu3])
theorem Z8n (a : Plan) (a1 : Int) (r : AV × List Blk) (h : (∃ (v1_0 : List Zc), Zdl a = some (.agg [.own 0], [.arr 142 3 true (v1_0.map Zc.c)]) ∧ (v1_0.length + 1 ≤ 68719476736 ∧ (some (.agg [.own 0], [.arr 142 3 true ((v1_0 ++ [(⟨2, 0, a1⟩ : Zc)]).map Zc.c)]) = some r)))) : Zj8 a a1 = some r := by
  unfold Zj8
  refine run Z5j rfl ?_
  simp only [Zdl, Plan.c_def, mpl, dfs] at h
  rcases h with ⟨v1_0, q1, q2, h⟩
  all_goals (refine Eq.trans ?_ h; clear h; simp +decide [*, kk, Zu4])
theorem Zmw (m : Zd) (q : Zb) (x : List Zc) (sizes : List Int) (v : Int) (x1 : List Za) (x2 : Int) (x3 : Int) (r : AV × List Blk) (h : (if x3 < x2 then (0 ≤ x3 ∧ (∃ (e1 : Za), x1[x3.toNat]? = some e1 ∧ (if e1.Order = v then (∃ (v2_0 : Int), Zez m q (⟨x⟩ : Plan) sizes = some (I v2_0, []) ∧ (if e1.Cost ≤ v2_0 then (some (.agg (e1.Plan.c.map .t), []) = some r) else (Zft m q x sizes v x1 x2 (w (x3 + 1)) = some r))) else (Zft m q x sizes v x1 x2 (w (x3 + 1)) = some r)))) else (some (.agg [.own 0], [.arr 142 3 true (x.map Zc.c)]) = some r))) : Zft m q x sizes v x1 x2 x3 = some r := by
  unfold Zft
  rw [EvL_eq Zpd.eq_1]
  simp only [Zez, Zd.c_def, Zh.c_def, Plan.c_def, Zb.c_def, mpl, dfs] at h
  try simp only [itb] at h
  try simp only [itf, List.getElem?_eq_some_iff, kk] at h
  rcases h with ⟨q1, q2, e1, ⟨g3, q3⟩, (⟨q4, v2_0, q5, (⟨q6, h⟩ | ⟨q6, h⟩)⟩ | ⟨q4, h⟩)⟩ | ⟨q1, h⟩
  all_goals (refine Eq.trans ?_ h; clear h; simp +decide [*, kk, Zft, Zpe])
theorem Zx9 (a : Zd) (a1 : Zb) (a2 : List Int) (a3 : List Za) (a4 : Int) (r : AV × List Blk) (h : (∃ (v1_0 : Za), Zfr a3 = some (.agg (v1_0.c.map .t), []) ∧ (if v1_0.Order = a4 then (some (.agg (v1_0.Plan.c.map .t), []) = some r) else (∃ (v2_0 : List Zc), Zj8 v1_0.Plan a4 = some (.agg [.own 0], [.arr 142 3 true (v2_0.map Zc.c)]) ∧ (Zft a a1 v2_0 a2 a4 a3 (a3.length : Int) 0 = some r))))) : Zc6 a a1 a2 a3 a4 = some r := by
  unfold Zc6
  refine run Z5k rfl ?_
  simp only [Zfr, Zj8, Plan.c_def, Za.c_def, mpl, dfs] at h
  try simp only [itb] at h
  try simp only [itf, List.getElem?_eq_some_iff, kk] at h
  rcases h with ⟨v1_0, q1, (⟨q2, h⟩ | ⟨q2, v2_0, q3, h⟩)⟩
  all_goals (refine Eq.trans ?_ h; clear h; simp +decide [*, kk, Zu5, Zft])
end Go.Proofs.YtbapkgocloaaeaaGreat
/- part: G7 -/
namespace Go.Proofs.YtbapkgocloaaeaaGreat
open Go.AM
theorem Zya (m : Zd) (q : Zb) (fr : Bool) (table : List (List Za)) (fr1 : Bool) (out : List Za) (x : List Int) (sizes : List Int) (x1 : Int) (x2 : Int) (r : AV × List Blk) (h : (if x2 < x1 then (0 ≤ x2 ∧ (∃ (e1 : Int), x[x2.toNat]? = some e1 ∧ ((Zim e1 = some (.t .nil, []) ∧ ((Zc4 q e1 = some (.t .nil, []) ∧ (Zj9 m q fr table fr1 out m q sizes e1 (⟨0, 0, 0, (⟨[]⟩ : Plan)⟩ : Za) (⟨0, 0, 0, (⟨[]⟩ : Plan)⟩ : Za) (⟨0, 0, 0, (⟨[]⟩ : Plan)⟩ : Za) (⟨0, 0, 0, (⟨[]⟩ : Plan)⟩ : Za) (⟨0, 0, 0, (⟨[]⟩ : Plan)⟩ : Za) false false false false false x sizes e1 x1 x2 0 0 = some r)) ∨ (∃ (v4_0 : List Int), Zc4 q e1 = some (.own 0, [.arr 3 1 true (v4_0.map ic)]) ∧ (Zc7 m q fr table fr1 out m q sizes e1 (⟨0, 0, 0, (⟨[]⟩ : Plan)⟩ : Za) (⟨0, 0, 0, (⟨[]⟩ : Plan)⟩ : Za) (⟨0, 0, 0, (⟨[]⟩ : Plan)⟩ : Za) (⟨0, 0, 0, (⟨[]⟩ : Plan)⟩ : Za) (⟨0, 0, 0, (⟨[]⟩ : Plan)⟩ : Za) false false false false false x v4_0 sizes e1 x1 x2 (v4_0.length : Int) 0 = some r)))) ∨ (∃ (v5_0 : List Int), Zim e1 = some (.own 0, [.arr 3 1 true (v5_0.map ic)]) ∧ (if (v5_0.length : Int) = 1 then (∃ (e6 : Int), v5_0[0]? = some e6 ∧ (∃ (v7_0 : List Zc), Zj4 e6 = some (.agg [.own 0], [.arr 142 3 true (v7_0.map Zc.c)]) ∧ (0 ≤ e6 ∧ (∃ (e8 : Atom), q.Atoms[e6.toNat]? = some e8 ∧ (∃ (e9 : Int), e8.Vars[0]? = some e9 ∧ ((∃ (v10_0 : Zd) (v10_1 : Zb) (v10_2 : List Int) (v10_3 : Int) (v10_4 : Za) (v10_5 : Za) (v10_6 : Za) (v10_7 : Za) (v10_8 : Za) (v10_9 : Bool) (v10_10 : Bool) (v10_11 : Bool) (v10_12 : Bool) (v10_13 : Bool), Zbk m q sizes e1 (⟨0, 0, 0, (⟨[]⟩ : Plan)⟩ : Za) (⟨0, 0, 0, (⟨[]⟩ : Plan)⟩ : Za) (⟨0, 0, 0, (⟨[]⟩ : Plan)⟩ : Za) (⟨0, 0, 0, (⟨[]⟩ : Plan)⟩ : Za) (⟨0, 0, 0, (⟨[]⟩ : Plan)⟩ : Za) false false false false false v7_0 e9 = some (.tup [], [boxO v10_0 v10_1 v10_2 v10_3 v10_4 v10_5 v10_6 v10_7 v10_8 v10_9 v10_10 v10_11 v10_12 v10_13, .dead]) ∧ ((Zc4 q e1 = some (.t .nil, []) ∧ (Zj9 m q fr table fr1 out v10_0 v10_1 v10_2 v10_3 v10_4 v10_5 v10_6 v10_7 v10_8 v10_9 v10_10 v10_11 v10_12 v10_13 x sizes e1 x1 x2 0 0 = some r)) ∨ (∃ (v12_0 : List Int), Zc4 q e1 = some (.own 0, [.arr 3 1 true (v12_0.map ic)]) ∧ (Zc7 m q fr table fr1 out v10_0 v10_1 v10_2 v10_3 v10_4 v10_5 v10_6 v10_7 v10_8 v10_9 v10_10 v10_11 v10_12 v10_13 x v12_0 sizes e1 x1 x2 (v12_0.length : Int) 0 = some r)))) ∨ (∃ (v13_0 : Zd) (v13_1 : Zb) (v13_2 : List Int) (v13_3 : Int) (v13_4 : Za) (v13_5 : Za) (v13_6 : Za) (v13_7 : Za) (v13_8 : Za) (v13_9 : Bool) (v13_10 : Bool) (v13_11 : Bool) (v13_12 : Bool) (v13_13 : Bool) (v13_14 : List Zc), Zbk m q sizes e1 (⟨0, 0, 0, (⟨[]⟩ : Plan)⟩ : Za) (⟨0, 0, 0, (⟨[]⟩ : Plan)⟩ : Za) (⟨0, 0, 0, (⟨[]⟩ : Plan)⟩ : Za) (⟨0, 0, 0, (⟨[]⟩ : Plan)⟩ : Za) (⟨0, 0, 0, (⟨[]⟩ : Plan)⟩ : Za) false false false false false v7_0 e9 = some (.tup [], [boxO v13_0 v13_1 v13_2 v13_3 v13_4 v13_5 v13_6 v13_7 v13_8 v13_9 v13_10 v13_11 v13_12 v13_13, .arr 142 3 true (v13_14.map Zc.c)]) ∧ ((Zc4 q e1 = some (.t .nil, []) ∧ (Zj9 m q fr table fr1 out v13_0 v13_1 v13_2 v13_3 v13_4 v13_5 v13_6 v13_7 v13_8 v13_9 v13_10 v13_11 v13_12 v13_13 x sizes e1 x1 x2 0 0 = some r)) ∨ (∃ (v15_0 : List Int), Zc4 q e1 = some (.own 0, [.arr 3 1 true (v15_0.map ic)]) ∧ (Zc7 m q fr table fr1 out v13_0 v13_1 v13_2 v13_3 v13_4 v13_5 v13_6 v13_7 v13_8 v13_9 v13_10 v13_11 v13_12 v13_13 x v15_0 sizes e1 x1 x2 (v15_0.length : Int) 0 = some r)))))))))) else ((Zc4 q e1 = some (.t .nil, []) ∧ (Zj9 m q fr table fr1 out m q sizes e1 (⟨0, 0, 0, (⟨[]⟩ : Plan)⟩ : Za) (⟨0, 0, 0, (⟨[]⟩ : Plan)⟩ : Za) (⟨0, 0, 0, (⟨[]⟩ : Plan)⟩ : Za) (⟨0, 0, 0, (⟨[]⟩ : Plan)⟩ : Za) (⟨0, 0, 0, (⟨[]⟩ : Plan)⟩ : Za) false false false false false x sizes e1 x1 x2 0 0 = some r)) ∨ (∃ (v17_0 : List Int), Zc4 q e1 = some (.own 0, [.arr 3 1 true (v17_0.map ic)]) ∧ (Zc7 m q fr table fr1 out m q sizes e1 (⟨0, 0, 0, (⟨[]⟩ : Plan)⟩ : Za) (⟨0, 0, 0, (⟨[]⟩ : Plan)⟩ : Za) (⟨0, 0, 0, (⟨[]⟩ : Plan)⟩ : Za) (⟨0, 0, 0, (⟨[]⟩ : Plan)⟩ : Za) (⟨0, 0, 0, (⟨[]⟩ : Plan)⟩ : Za) false false false false false x v17_0 sizes e1 x1 x2 (v17_0.length : Int) 0 = some r)))))))) else (Zhk fr1 out (out.length : Int) 0 = some r))) : Ze0 m q fr table fr1 out x sizes x1 x2 = some r := by
  unfold Ze0
  rw [EvL_eq Zhi.eq_1]
  simp only [Zim, Zc4, Zj4, Zbk, Zd.c_def, Zh.c_def, Plan.c_def, Za.c_def, Zc.c_def, Zb.c_def, mpl, dfs, Zjl] at h
  try simp only [itb] at h
  try simp only [itf, List.getElem?_eq_some_iff, kk] at h
  rcases h with ⟨q1, q2, e1, ⟨g3, q3⟩, (⟨q5, (⟨q7, h⟩ | ⟨v4_0, q8, h⟩)⟩ | ⟨v5_0, q9, (⟨q10, e6, ⟨g11, q11⟩, v7_0, q12, q13, e8, ⟨g14, q14⟩, e9, ⟨g15, q15⟩, (⟨v10_0, v10_1, v10_2, v10_3, v10_4, v10_5, v10_6, v10_7, v10_8, v10_9, v10_10, v10_11, v10_12, v10_13, q17, (⟨q19, h⟩ | ⟨v12_0, q20, h⟩)⟩ | ⟨v13_0, v13_1, v13_2, v13_3, v13_4, v13_5, v13_6, v13_7, v13_8, v13_9, v13_10, v13_11, v13_12, v13_13, v13_14, q21, (⟨q23, h⟩ | ⟨v15_0, q24, h⟩)⟩)⟩ | ⟨q10, (⟨q26, h⟩ | ⟨v17_0, q27, h⟩)⟩)⟩)⟩ | ⟨q1, h⟩
  all_goals (refine Eq.trans ?_ h; clear h; simp +decide [*, kk, Zj9, Zu6, Zc7, Zhk, Zhj])
theorem Zyb (m : Zd) (q : Zb) (fr : Bool) (table : List (List Za)) (fr1 : Bool) (out : List Za) (m_1 : Zd) (q_1 : Zb) (sizes : List Int) (mask : Int) (list0 : Za) (list1 : Za) (list2 : Za) (list3 : Za) (list4 : Za) (some0 : Bool) (some1 : Bool) (some2 : Bool) (some3 : Bool) (some4 : Bool) (x : List Int) (x1 : List Int) (sizes1 : List Int) (mask1 : Int) (x2 : Int) (x3 : Int) (x4 : Int) (x5 : Int) (r : AV × List Blk) (h : (if x5 < x4 then (0 ≤ x5 ∧ (∃ (e1 : Int), x1[x5.toNat]? = some e1 ∧ (0 ≤ e1 ∧ (∃ (e2 : List Za), table[e1.toNat]? = some e2 ∧ (0 ≤ (andNotI mask1 e1) ∧ (∃ (e3 : List Za), table[(andNotI mask1 e1).toNat]? = some e3 ∧ (∃ (v4_0 : Za), Zfr e3 = some (.agg (v4_0.c.map .t), []) ∧ (∃ (v5_0 : Za), Zfr e2 = some (.agg (v5_0.c.map .t), []) ∧ (∃ (v6_0 : List Zc), Zc5 v5_0.Plan v4_0.Plan 3 0 = some (.agg [.own 0], [.arr 142 3 true (v6_0.map Zc.c)]) ∧ ((∃ (v7_0 : Zd) (v7_1 : Zb) (v7_2 : List Int) (v7_3 : Int) (v7_4 : Za) (v7_5 : Za) (v7_6 : Za) (v7_7 : Za) (v7_8 : Za) (v7_9 : Bool) (v7_10 : Bool) (v7_11 : Bool) (v7_12 : Bool) (v7_13 : Bool), Zbk m_1 q_1 sizes mask list0 list1 list2 list3 list4 some0 some1 some2 some3 some4 v6_0 (-1) = some (.tup [], [boxO v7_0 v7_1 v7_2 v7_3 v7_4 v7_5 v7_6 v7_7 v7_8 v7_9 v7_10 v7_11 v7_12 v7_13, .dead]) ∧ (Zd8 m q fr table fr1 out v7_0 v7_1 v7_2 v7_3 v7_4 v7_5 v7_6 v7_7 v7_8 v7_9 v7_10 v7_11 v7_12 v7_13 v4_0.Plan x x1 sizes1 mask1 e1 e2 e3 x2 x3 x4 x5 e2 (e2.length : Int) 0 = some r)) ∨ (∃ (v8_0 : Zd) (v8_1 : Zb) (v8_2 : List Int) (v8_3 : Int) (v8_4 : Za) (v8_5 : Za) (v8_6 : Za) (v8_7 : Za) (v8_8 : Za) (v8_9 : Bool) (v8_10 : Bool) (v8_11 : Bool) (v8_12 : Bool) (v8_13 : Bool) (v8_14 : List Zc), Zbk m_1 q_1 sizes mask list0 list1 list2 list3 list4 some0 some1 some2 some3 some4 v6_0 (-1) = some (.tup [], [boxO v8_0 v8_1 v8_2 v8_3 v8_4 v8_5 v8_6 v8_7 v8_8 v8_9 v8_10 v8_11 v8_12 v8_13, .arr 142 3 true (v8_14.map Zc.c)]) ∧ (Zd8 m q fr table fr1 out v8_0 v8_1 v8_2 v8_3 v8_4 v8_5 v8_6 v8_7 v8_8 v8_9 v8_10 v8_11 v8_12 v8_13 v4_0.Plan x x1 sizes1 mask1 e1 e2 e3 x2 x3 x4 x5 e2 (e2.length : Int) 0 = some r)))))))))))) else (∃ (v9_0 : Bool) (v9_1 : List Za), Zj7 m_1 q_1 sizes mask list0 list1 list2 list3 list4 some0 some1 some2 some3 some4 = some (.own 1, [boxO m_1 q_1 sizes mask list0 list1 list2 list3 list4 some0 some1 some2 some3 some4, .arr 174 4 v9_0 (v9_1.map Za.c)]) ∧ (0 ≤ mask1 ∧ (∃ (e10 : List Za), table[mask1.toNat]? = some e10 ∧ (out.length + v9_1.length ≤ 68719476736 ∧ (Ze0 m q (fr && v9_0) (table.set mask1.toNat v9_1) (fr1 && flat (v9_1.map Za.c)) (out ++ v9_1) x sizes1 x2 (w (x3 + 1)) = some r))))))) : Zc7 m q fr table fr1 out m_1 q_1 sizes mask list0 list1 list2 list3 list4 some0 some1 some2 some3 some4 x x1 sizes1 mask1 x2 x3 x4 x5 = some r := by
  unfold Zc7
  rw [EvL_eq Zin.eq_1]
  simp only [Zfr, Zc5, Zbk, Zj7, Zd.c_def, Zh.c_def, Plan.c_def, Za.c_def, Zc.c_def, Zb.c_def, mpl, dfs, Zjl] at h
  try simp only [itb] at h
  try simp only [itf, List.getElem?_eq_some_iff, kk] at h
  rcases h with ⟨q1, q2, e1, ⟨g3, q3⟩, q4, e2, ⟨g5, q5⟩, q6, e3, ⟨g7, q7⟩, v4_0, q8, v5_0, q9, v6_0, q10, (⟨v7_0, v7_1, v7_2, v7_3, v7_4, v7_5, v7_6, v7_7, v7_8, v7_9, v7_10, v7_11, v7_12, v7_13, q12, h⟩ | ⟨v8_0, v8_1, v8_2, v8_3, v8_4, v8_5, v8_6, v8_7, v8_8, v8_9, v8_10, v8_11, v8_12, v8_13, v8_14, q13, h⟩)⟩ | ⟨q1, v9_0, v9_1, q14, q15, e10, ⟨g16, q16⟩, q17, h⟩
  all_goals (refine Eq.trans ?_ h; clear h; simp +decide [*, kk, Zd8, Ze0, Zip, Zio])
theorem Zyc (fr : Bool) (out : List Za) (x : Int) (x1 : Int) (r : AV × List Blk) (h : (if x1 < x then (0 ≤ x1 ∧ (∃ (e1 : Za), out[x1.toNat]? = some e1 ∧ (∃ (v2_0 : List Zc), Zdl e1.Plan = some (.agg [.own 0], [.arr 142 3 true (v2_0.map Zc.c)]) ∧ (Zhk fr (out.set x1.toNat (⟨e1.Mask, e1.Order, e1.Cost, (⟨v2_0⟩ : Plan)⟩ : Za)) x (w (x1 + 1)) = some r)))) else (some (.own 0, [.arr 174 4 fr (out.map Za.c)]) = some r))) : Zhk fr out x x1 = some r := by
  unfold Zhk
  rw [EvL_eq Zpi.eq_1]
  simp only [Zdl, Plan.c_def, mpl, dfs, Zjl] at h
  try simp only [itb] at h
  try simp only [itf, List.getElem?_eq_some_iff, kk] at h
  rcases h with ⟨q1, q2, e1, ⟨g3, q3⟩, v2_0, q4, h⟩ | ⟨q1, h⟩
  all_goals (refine Eq.trans ?_ h; clear h; simp +decide [*, kk, Zhk, Zpj])
theorem Zyd (m : Zd) (q : Zb) (fr : Bool) (table : List (List Za)) (fr1 : Bool) (out : List Za) (m_1 : Zd) (q_1 : Zb) (sizes : List Int) (mask : Int) (list0 : Za) (list1 : Za) (list2 : Za) (list3 : Za) (list4 : Za) (some0 : Bool) (some1 : Bool) (some2 : Bool) (some3 : Bool) (some4 : Bool) (y : Plan) (x : List Int) (x1 : List Int) (sizes1 : List Int) (mask1 : Int) (x2 : Int) (left : List Za) (right : List Za) (x3 : Int) (x4 : Int) (x5 : Int) (x6 : Int) (x7 : List Za) (x8 : Int) (x9 : Int) (r : AV × List Blk) (h : (if x9 < x8 then (0 ≤ x9 ∧ (∃ (e1 : Za), x7[x9.toNat]? = some e1 ∧ (∃ (v2_0 : List Zc), Zc5 e1.Plan y 5 0 = some (.agg [.own 0], [.arr 142 3 true (v2_0.map Zc.c)]) ∧ ((∃ (v3_0 : Zd) (v3_1 : Zb) (v3_2 : List Int) (v3_3 : Int) (v3_4 : Za) (v3_5 : Za) (v3_6 : Za) (v3_7 : Za) (v3_8 : Za) (v3_9 : Bool) (v3_10 : Bool) (v3_11 : Bool) (v3_12 : Bool) (v3_13 : Bool), Zbk m_1 q_1 sizes mask list0 list1 list2 list3 list4 some0 some1 some2 some3 some4 v2_0 e1.Order = some (.tup [], [boxO v3_0 v3_1 v3_2 v3_3 v3_4 v3_5 v3_6 v3_7 v3_8 v3_9 v3_10 v3_11 v3_12 v3_13, .dead]) ∧ (Zd8 m q fr table fr1 out v3_0 v3_1 v3_2 v3_3 v3_4 v3_5 v3_6 v3_7 v3_8 v3_9 v3_10 v3_11 v3_12 v3_13 y x x1 sizes1 mask1 x2 left right x3 x4 x5 x6 x7 x8 (w (x9 + 1)) = some r)) ∨ (∃ (v4_0 : Zd) (v4_1 : Zb) (v4_2 : List Int) (v4_3 : Int) (v4_4 : Za) (v4_5 : Za) (v4_6 : Za) (v4_7 : Za) (v4_8 : Za) (v4_9 : Bool) (v4_10 : Bool) (v4_11 : Bool) (v4_12 : Bool) (v4_13 : Bool) (v4_14 : List Zc), Zbk m_1 q_1 sizes mask list0 list1 list2 list3 list4 some0 some1 some2 some3 some4 v2_0 e1.Order = some (.tup [], [boxO v4_0 v4_1 v4_2 v4_3 v4_4 v4_5 v4_6 v4_7 v4_8 v4_9 v4_10 v4_11 v4_12 v4_13, .arr 142 3 true (v4_14.map Zc.c)]) ∧ (Zd8 m q fr table fr1 out v4_0 v4_1 v4_2 v4_3 v4_4 v4_5 v4_6 v4_7 v4_8 v4_9 v4_10 v4_11 v4_12 v4_13 y x x1 sizes1 mask1 x2 left right x3 x4 x5 x6 x7 x8 (w (x9 + 1)) = some r)))))) else (∃ (v5_0 : List Int), Zhh q x2 (andNotI mask1 x2) = some (.own 0, [.arr 3 1 true (v5_0.map ic)]) ∧ (Zcg m q fr table fr1 out m_1 q_1 sizes mask list0 list1 list2 list3 list4 some0 some1 some2 some3 some4 x x1 v5_0 sizes1 mask1 left right x3 x4 x5 x6 (v5_0.length : Int) 0 = some r)))) : Zd8 m q fr table fr1 out m_1 q_1 sizes mask list0 list1 list2 list3 list4 some0 some1 some2 some3 some4 y x x1 sizes1 mask1 x2 left right x3 x4 x5 x6 x7 x8 x9 = some r := by
  unfold Zd8
  rw [EvL_eq Zpf.eq_1]
  simp only [Zc5, Zbk, Zhh, Zd.c_def, Zh.c_def, Plan.c_def, Za.c_def, Zc.c_def, Zb.c_def, mpl, dfs, Zjl] at h
  try simp only [itb] at h
  try simp only [itf, List.getElem?_eq_some_iff, kk] at h
  rcases h with ⟨q1, q2, e1, ⟨g3, q3⟩, v2_0, q4, (⟨v3_0, v3_1, v3_2, v3_3, v3_4, v3_5, v3_6, v3_7, v3_8, v3_9, v3_10, v3_11, v3_12, v3_13, q6, h⟩ | ⟨v4_0, v4_1, v4_2, v4_3, v4_4, v4_5, v4_6, v4_7, v4_8, v4_9, v4_10, v4_11, v4_12, v4_13, v4_14, q7, h⟩)⟩ | ⟨q1, v5_0, q8, h⟩
  all_goals (refine Eq.trans ?_ h; clear h; simp +decide [*, kk, Zd8, Zcg, Zph])
theorem Zye (m : Zd) (q : Zb) (fr : Bool) (table : List (List Za)) (fr1 : Bool) (out : List Za) (m_1 : Zd) (q_1 : Zb) (sizes : List Int) (mask : Int) (list0 : Za) (list1 : Za) (list2 : Za) (list3 : Za) (list4 : Za) (some0 : Bool) (some1 : Bool) (some2 : Bool) (some3 : Bool) (some4 : Bool) (x : List Int) (x1 : List Int) (x2 : List Int) (sizes1 : List Int) (mask1 : Int) (left : List Za) (right : List Za) (x3 : Int) (x4 : Int) (x5 : Int) (x6 : Int) (x7 : Int) (x8 : Int) (r : AV × List Blk) (h : (if x8 < x7 then (0 ≤ x8 ∧ (∃ (e1 : Int), x2[x8.toNat]? = some e1 ∧ ((∃ (v2_0 : Plan), Zc6 m q sizes1 left e1 = some (.agg (v2_0.c.map .t), []) ∧ ((∃ (v3_0 : Plan), Zc6 m q sizes1 right e1 = some (.agg (v3_0.c.map .t), []) ∧ (∃ (v4_0 : List Zc), Zc5 v2_0 v3_0 4 e1 = some (.agg [.own 0], [.arr 142 3 true (v4_0.map Zc.c)]) ∧ ((∃ (v5_0 : Zd) (v5_1 : Zb) (v5_2 : List Int) (v5_3 : Int) (v5_4 : Za) (v5_5 : Za) (v5_6 : Za) (v5_7 : Za) (v5_8 : Za) (v5_9 : Bool) (v5_10 : Bool) (v5_11 : Bool) (v5_12 : Bool) (v5_13 : Bool), Zbk m_1 q_1 sizes mask list0 list1 list2 list3 list4 some0 some1 some2 some3 some4 v4_0 e1 = some (.tup [], [boxO v5_0 v5_1 v5_2 v5_3 v5_4 v5_5 v5_6 v5_7 v5_8 v5_9 v5_10 v5_11 v5_12 v5_13, .dead]) ∧ (Zcg m q fr table fr1 out v5_0 v5_1 v5_2 v5_3 v5_4 v5_5 v5_6 v5_7 v5_8 v5_9 v5_10 v5_11 v5_12 v5_13 x x1 x2 sizes1 mask1 left right x3 x4 x5 x6 x7 (w (x8 + 1)) = some r)) ∨ (∃ (v6_0 : Zd) (v6_1 : Zb) (v6_2 : List Int) (v6_3 : Int) (v6_4 : Za) (v6_5 : Za) (v6_6 : Za) (v6_7 : Za) (v6_8 : Za) (v6_9 : Bool) (v6_10 : Bool) (v6_11 : Bool) (v6_12 : Bool) (v6_13 : Bool) (v6_14 : List Zc), Zbk m_1 q_1 sizes mask list0 list1 list2 list3 list4 some0 some1 some2 some3 some4 v4_0 e1 = some (.tup [], [boxO v6_0 v6_1 v6_2 v6_3 v6_4 v6_5 v6_6 v6_7 v6_8 v6_9 v6_10 v6_11 v6_12 v6_13, .arr 142 3 true (v6_14.map Zc.c)]) ∧ (Zcg m q fr table fr1 out v6_0 v6_1 v6_2 v6_3 v6_4 v6_5 v6_6 v6_7 v6_8 v6_9 v6_10 v6_11 v6_12 v6_13 x x1 x2 sizes1 mask1 left right x3 x4 x5 x6 x7 (w (x8 + 1)) = some r))))) ∨ (∃ (v7_0 : List Zc), Zc6 m q sizes1 right e1 = some (.agg [.own 0], [.arr 142 3 true (v7_0.map Zc.c)]) ∧ (∃ (v8_0 : List Zc), Zc5 v2_0 (⟨v7_0⟩ : Plan) 4 e1 = some (.agg [.own 0], [.arr 142 3 true (v8_0.map Zc.c)]) ∧ ((∃ (v9_0 : Zd) (v9_1 : Zb) (v9_2 : List Int) (v9_3 : Int) (v9_4 : Za) (v9_5 : Za) (v9_6 : Za) (v9_7 : Za) (v9_8 : Za) (v9_9 : Bool) (v9_10 : Bool) (v9_11 : Bool) (v9_12 : Bool) (v9_13 : Bool), Zbk m_1 q_1 sizes mask list0 list1 list2 list3 list4 some0 some1 some2 some3 some4 v8_0 e1 = some (.tup [], [boxO v9_0 v9_1 v9_2 v9_3 v9_4 v9_5 v9_6 v9_7 v9_8 v9_9 v9_10 v9_11 v9_12 v9_13, .dead]) ∧ (Zcg m q fr table fr1 out v9_0 v9_1 v9_2 v9_3 v9_4 v9_5 v9_6 v9_7 v9_8 v9_9 v9_10 v9_11 v9_12 v9_13 x x1 x2 sizes1 mask1 left right x3 x4 x5 x6 x7 (w (x8 + 1)) = some r)) ∨ (∃ (v10_0 : Zd) (v10_1 : Zb) (v10_2 : List Int) (v10_3 : Int) (v10_4 : Za) (v10_5 : Za) (v10_6 : Za) (v10_7 : Za) (v10_8 : Za) (v10_9 : Bool) (v10_10 : Bool) (v10_11 : Bool) (v10_12 : Bool) (v10_13 : Bool) (v10_14 : List Zc), Zbk m_1 q_1 sizes mask list0 list1 list2 list3 list4 some0 some1 some2 some3 some4 v8_0 e1 = some (.tup [], [boxO v10_0 v10_1 v10_2 v10_3 v10_4 v10_5 v10_6 v10_7 v10_8 v10_9 v10_10 v10_11 v10_12 v10_13, .arr 142 3 true (v10_14.map Zc.c)]) ∧ (Zcg m q fr table fr1 out v10_0 v10_1 v10_2 v10_3 v10_4 v10_5 v10_6 v10_7 v10_8 v10_9 v10_10 v10_11 v10_12 v10_13 x x1 x2 sizes1 mask1 left right x3 x4 x5 x6 x7 (w (x8 + 1)) = some r))))))) ∨ (∃ (v11_0 : List Zc), Zc6 m q sizes1 left e1 = some (.agg [.own 0], [.arr 142 3 true (v11_0.map Zc.c)]) ∧ ((∃ (v12_0 : Plan), Zc6 m q sizes1 right e1 = some (.agg (v12_0.c.map .t), []) ∧ (∃ (v13_0 : List Zc), Zc5 (⟨v11_0⟩ : Plan) v12_0 4 e1 = some (.agg [.own 0], [.arr 142 3 true (v13_0.map Zc.c)]) ∧ ((∃ (v14_0 : Zd) (v14_1 : Zb) (v14_2 : List Int) (v14_3 : Int) (v14_4 : Za) (v14_5 : Za) (v14_6 : Za) (v14_7 : Za) (v14_8 : Za) (v14_9 : Bool) (v14_10 : Bool) (v14_11 : Bool) (v14_12 : Bool) (v14_13 : Bool), Zbk m_1 q_1 sizes mask list0 list1 list2 list3 list4 some0 some1 some2 some3 some4 v13_0 e1 = some (.tup [], [boxO v14_0 v14_1 v14_2 v14_3 v14_4 v14_5 v14_6 v14_7 v14_8 v14_9 v14_10 v14_11 v14_12 v14_13, .dead]) ∧ (Zcg m q fr table fr1 out v14_0 v14_1 v14_2 v14_3 v14_4 v14_5 v14_6 v14_7 v14_8 v14_9 v14_10 v14_11 v14_12 v14_13 x x1 x2 sizes1 mask1 left right x3 x4 x5 x6 x7 (w (x8 + 1)) = some r)) ∨ (∃ (v15_0 : Zd) (v15_1 : Zb) (v15_2 : List Int) (v15_3 : Int) (v15_4 : Za) (v15_5 : Za) (v15_6 : Za) (v15_7 : Za) (v15_8 : Za) (v15_9 : Bool) (v15_10 : Bool) (v15_11 : Bool) (v15_12 : Bool) (v15_13 : Bool) (v15_14 : List Zc), Zbk m_1 q_1 sizes mask list0 list1 list2 list3 list4 some0 some1 some2 some3 some4 v13_0 e1 = some (.tup [], [boxO v15_0 v15_1 v15_2 v15_3 v15_4 v15_5 v15_6 v15_7 v15_8 v15_9 v15_10 v15_11 v15_12 v15_13, .arr 142 3 true (v15_14.map Zc.c)]) ∧ (Zcg m q fr table fr1 out v15_0 v15_1 v15_2 v15_3 v15_4 v15_5 v15_6 v15_7 v15_8 v15_9 v15_10 v15_11 v15_12 v15_13 x x1 x2 sizes1 mask1 left right x3 x4 x5 x6 x7 (w (x8 + 1)) = some r))))) ∨ (∃ (v16_0 : List Zc), Zc6 m q sizes1 right e1 = some (.agg [.own 0], [.arr 142 3 true (v16_0.map Zc.c)]) ∧ (∃ (v17_0 : List Zc), Zc5 (⟨v11_0⟩ : Plan) (⟨v16_0⟩ : Plan) 4 e1 = some (.agg [.own 0], [.arr 142 3 true (v17_0.map Zc.c)]) ∧ ((∃ (v18_0 : Zd) (v18_1 : Zb) (v18_2 : List Int) (v18_3 : Int) (v18_4 : Za) (v18_5 : Za) (v18_6 : Za) (v18_7 : Za) (v18_8 : Za) (v18_9 : Bool) (v18_10 : Bool) (v18_11 : Bool) (v18_12 : Bool) (v18_13 : Bool), Zbk m_1 q_1 sizes mask list0 list1 list2 list3 list4 some0 some1 some2 some3 some4 v17_0 e1 = some (.tup [], [boxO v18_0 v18_1 v18_2 v18_3 v18_4 v18_5 v18_6 v18_7 v18_8 v18_9 v18_10 v18_11 v18_12 v18_13, .dead]) ∧ (Zcg m q fr table fr1 out v18_0 v18_1 v18_2 v18_3 v18_4 v18_5 v18_6 v18_7 v18_8 v18_9 v18_10 v18_11 v18_12 v18_13 x x1 x2 sizes1 mask1 left right x3 x4 x5 x6 x7 (w (x8 + 1)) = some r)) ∨ (∃ (v19_0 : Zd) (v19_1 : Zb) (v19_2 : List Int) (v19_3 : Int) (v19_4 : Za) (v19_5 : Za) (v19_6 : Za) (v19_7 : Za) (v19_8 : Za) (v19_9 : Bool) (v19_10 : Bool) (v19_11 : Bool) (v19_12 : Bool) (v19_13 : Bool) (v19_14 : List Zc), Zbk m_1 q_1 sizes mask list0 list1 list2 list3 list4 some0 some1 some2 some3 some4 v17_0 e1 = some (.tup [], [boxO v19_0 v19_1 v19_2 v19_3 v19_4 v19_5 v19_6 v19_7 v19_8 v19_9 v19_10 v19_11 v19_12 v19_13, .arr 142 3 true (v19_14.map Zc.c)]) ∧ (Zcg m q fr table fr1 out v19_0 v19_1 v19_2 v19_3 v19_4 v19_5 v19_6 v19_7 v19_8 v19_9 v19_10 v19_11 v19_12 v19_13 x x1 x2 sizes1 mask1 left right x3 x4 x5 x6 x7 (w (x8 + 1)) = some r)))))))))) else (Zc7 m q fr table fr1 out m_1 q_1 sizes mask list0 list1 list2 list3 list4 some0 some1 some2 some3 some4 x x1 sizes1 mask1 x3 x4 x5 (w (x6 + 1)) = some r))) : Zcg m q fr table fr1 out m_1 q_1 sizes mask list0 list1 list2 list3 list4 some0 some1 some2 some3 some4 x x1 x2 sizes1 mask1 left right x3 x4 x5 x6 x7 x8 = some r := by
  unfold Zcg
  rw [EvL_eq Zpg.eq_1]
  simp only [Zc6, Zc5, Zbk, Zd.c_def, Zh.c_def, Plan.c_def, Za.c_def, Zc.c_def, Zb.c_def, mpl, dfs, Zjl] at h
  try simp only [itb] at h
  try simp only [itf, List.getElem?_eq_some_iff, kk] at h
  rcases h with ⟨q1, q2, e1, ⟨g3, q3⟩, (⟨v2_0, q5, (⟨v3_0, q7, v4_0, q8, (⟨v5_0, v5_1, v5_2, v5_3, v5_4, v5_5, v5_6, v5_7, v5_8, v5_9, v5_10, v5_11, v5_12, v5_13, q10, h⟩ | ⟨v6_0, v6_1, v6_2, v6_3, v6_4, v6_5, v6_6, v6_7, v6_8, v6_9, v6_10, v6_11, v6_12, v6_13, v6_14, q11, h⟩)⟩ | ⟨v7_0, q12, v8_0, q13, (⟨v9_0, v9_1, v9_2, v9_3, v9_4, v9_5, v9_6, v9_7, v9_8, v9_9, v9_10, v9_11, v9_12, v9_13, q15, h⟩ | ⟨v10_0, v10_1, v10_2, v10_3, v10_4, v10_5, v10_6, v10_7, v10_8, v10_9, v10_10, v10_11, v10_12, v10_13, v10_14, q16, h⟩)⟩)⟩ | ⟨v11_0, q17, (⟨v12_0, q19, v13_0, q20, (⟨v14_0, v14_1, v14_2, v14_3, v14_4, v14_5, v14_6, v14_7, v14_8, v14_9, v14_10, v14_11, v14_12, v14_13, q22, h⟩ | ⟨v15_0, v15_1, v15_2, v15_3, v15_4, v15_5, v15_6, v15_7, v15_8, v15_9, v15_10, v15_11, v15_12, v15_13, v15_14, q23, h⟩)⟩ | ⟨v16_0, q24, v17_0, q25, (⟨v18_0, v18_1, v18_2, v18_3, v18_4, v18_5, v18_6, v18_7, v18_8, v18_9, v18_10, v18_11, v18_12, v18_13, q27, h⟩ | ⟨v19_0, v19_1, v19_2, v19_3, v19_4, v19_5, v19_6, v19_7, v19_8, v19_9, v19_10, v19_11, v19_12, v19_13, v19_14, q28, h⟩)⟩)⟩)⟩ | ⟨q1, h⟩
  all_goals (refine Eq.trans ?_ h; clear h; simp +decide [*, kk, Zcg, Zc7, Zmf])
theorem Z8o (a : Zd) (a1 : Zb) (a2 : List Int) (r : AV × List Blk) (h : (∃ (v1_0 : Bool), Zhc a = some (Bo v1_0, []) ∧ (if v1_0 = true then (∃ (v2_0 : Bool), Zhd a1 a2 = some (Bo v2_0, []) ∧ (if v2_0 = true then (∃ (v3_0 : Int), Zbz a1 = some (I v3_0, []) ∧ (0 ≤ (w (v3_0 + 1)) ∧ ((w (v3_0 + 1)) ≤ (w (v3_0 + 1)) ∧ ((w (v3_0 + 1)).toNat * 24 ≤ room ∧ ((w (v3_0 + 1)) ≤ 140737488355328 ∧ (∃ (v4_0 : List Int), Zj3 a1 = some (.own 0, [.arr 3 1 true (v4_0.map ic)]) ∧ (Ze0 a a1 true (List.replicate ((w (v3_0 + 1))).toNat ([])) true ([] : List Za) v4_0 a2 (v4_0.length : Int) 0 = some r))))))) else (some (.t .nil, []) = some r))) else (some (.t .nil, []) = some r)))) : Ziq a a1 a2 = some r := by
  unfold Ziq
  refine run Z5l rfl ?_
  obtain ⟨v1_0, q1, h⟩ := h
  unfold Zhc at q1
  try simp at q1
  by_cases q2 : v1_0 = true
  · rw [if_pos q2] at h
    obtain ⟨v2_0, q3, h⟩ := h
    unfold Zhd at q3
    try simp at q3
    by_cases q4 : v2_0 = true
    · rw [if_pos q4] at h
      obtain ⟨v3_0, q5, h⟩ := h
      unfold Zbz at q5
      try simp at q5
      obtain ⟨q6, h⟩ := h
      obtain ⟨q7, h⟩ := h
      obtain ⟨q8, h⟩ := h
      have zq8 := q8; try simp at zq8
      obtain ⟨q9, h⟩ := h
      obtain ⟨v4_0, q10, h⟩ := h
      unfold Zj3 at q10
      try simp at q10
      refine Eq.trans ?_ h
      clear h
      simp +decide [*, Zmg, Ze0]
    · rw [if_neg q4] at h
      refine Eq.trans ?_ h
      clear h
      simp +decide [*, Zmg]
  · rw [if_neg q2] at h
    refine Eq.trans ?_ h
    clear h
    simp +decide [*, Zmg]
end Go.Proofs.YtbapkgocloaaeaaGreat
/- part: G8 -/
namespace Go.Proofs.YtbapkgocloaaeaaGreat
open Go.AM
theorem Zyf (Mask : Int) (Order : Int) (Cost : Int) (best : Za) (fr : Bool) (x : List Za) (x1 : Int) (x2 : Int) (r : AV × List Blk) (h : (if x2 < x1 then (0 ≤ x2 ∧ (∃ (e1 : Za), x[x2.toNat]? = some e1 ∧ (if e1.Cost < best.Cost then (Zfu Mask Order Cost e1 fr x x1 (w (x2 + 1)) = some r) else (Zfu Mask Order Cost best fr x x1 (w (x2 + 1)) = some r)))) else (some (.agg (best.c.map .t), [.arr 174 4 fr (x.map Za.c)]) = some r))) : Zfu Mask Order Cost best fr x x1 x2 = some r := by
  unfold Zfu
  rw [EvL_eq Zj5.eq_1]
  try simp only [itb] at h
  try simp only [itf, List.getElem?_eq_some_iff, kk] at h
  rcases h with ⟨q1, q2, e1, ⟨g3, q3⟩, (⟨q4, h⟩ | ⟨q4, h⟩)⟩ | ⟨q1, h⟩
  all_goals (refine Eq.trans ?_ h; clear h; simp +decide [*, kk, Zfu, Zo9, Zj6])
theorem Z8p (fr : Bool) (x : List Za) (r : AV × List Blk) (h : (∃ (e1 : Za), x[0]? = some e1 ∧ (Zfu 0 0 0 e1 fr x (x.length : Int) 0 = some r))) : Zka fr x = some r := by
  unfold Zka
  refine runM Zxa rfl ?_
  try simp only [itb] at h
  try simp only [itf, List.getElem?_eq_some_iff, kk] at h
  rcases h with ⟨e1, ⟨g1, q1⟩, h⟩
  all_goals (refine Eq.trans ?_ h; clear h; simp +decide [*, kk, Zpa, Zfu])
theorem Zyg (Mask : Int) (Order : Int) (Cost : Int) (fr : Bool) (x : List Za) (mask : Int) (x1 : List Za) (x2 : Int) (x3 : Int) (r : AV × List Blk) (h : (if x3 < x2 then (0 ≤ x3 ∧ (∃ (e1 : Za), x1[x3.toNat]? = some e1 ∧ (if e1.Mask = mask then (x.length + 1 ≤ 68719476736 ∧ (Zfv Mask Order Cost false (x ++ [e1]) mask x1 x2 (w (x3 + 1)) = some r)) else (Zfv Mask Order Cost fr x mask x1 x2 (w (x3 + 1)) = some r)))) else (if (x.length : Int) = 0 then (some (.tup [.agg [I 0, I 0, I 0, .t .nil], Bo false], []) = some r) else (∃ (v2_0 : Za), Zka fr x = some (.agg (v2_0.c.map .t), [.arr 174 4 fr (x.map Za.c)]) ∧ (∃ (v3_0 : List Zc), Zdl v2_0.Plan = some (.agg [.own 0], [.arr 142 3 true (v3_0.map Zc.c)]) ∧ (some (.tup [.agg [I v2_0.Mask, I v2_0.Order, I v2_0.Cost, .own 0], Bo true], [.arr 142 3 true (v3_0.map Zc.c)]) = some r)))))) : Zfv Mask Order Cost fr x mask x1 x2 x3 = some r := by
  unfold Zfv
  rw [EvL_eq Zpl.eq_1]
  simp only [Zka, Zdl, Plan.c_def, Za.c_def, mpl, dfs] at h
  try simp only [itb] at h
  try simp only [itf, List.getElem?_eq_some_iff, kk] at h
  rcases h with ⟨q1, q2, e1, ⟨g3, q3⟩, (⟨q4, q5, h⟩ | ⟨q4, h⟩)⟩ | ⟨q1, (⟨q6, h⟩ | ⟨q6, v2_0, q7, v3_0, q8, h⟩)⟩
  all_goals (refine Eq.trans ?_ h; clear h; simp +decide [*, kk, Zfv, Zu7, Zpm])
theorem Z8q (a : List Za) (a1 : Int) (r : AV × List Blk) (h : (Zfv 0 0 0 true ([] : List Za) a1 a (a.length : Int) 0 = some r)) : Zir a a1 = some r := by
  unfold Zir
  refine run Z5m rfl ?_
  refine Eq.trans ?_ h; clear h; simp +decide [*, kk, Zu8, Zfv]
theorem Z8r (a : Zd) (a1 : Zb) (a2 : List Int) (r : AV × List Blk) (h : ((Ziq a a1 a2 = some (.t .nil, []) ∧ (∃ (v2_0 : Int), Zbz a1 = some (I v2_0, []) ∧ ((∃ (v3_0 : Int) (v3_1 : Int) (v3_2 : Int), Zpk v2_0 = some (.tup [.agg [I v3_0, I v3_1, I v3_2, .t .nil], Bo false], []) ∧ (some (.tup [.agg [I v3_0, I v3_1, I v3_2, .t .nil], Bo false], []) = some r)) ∨ (∃ (v4_0 : List Zc) (v4_1 : Int) (v4_2 : Int) (v4_3 : Int), Zpk v2_0 = some (.tup [.agg [I v4_1, I v4_2, I v4_3, .own 0], Bo true], [.arr 142 3 true (v4_0.map Zc.c)]) ∧ (some (.tup [.agg [I v4_1, I v4_2, I v4_3, .own 0], Bo true], [.arr 142 3 true (v4_0.map Zc.c)]) = some r))))) ∨ (∃ (v5_0 : Bool) (v5_1 : List Za), Ziq a a1 a2 = some (.own 0, [.arr 174 4 v5_0 (v5_1.map Za.c)]) ∧ (∃ (v6_0 : Int), Zbz a1 = some (I v6_0, []) ∧ ((∃ (v7_0 : Int) (v7_1 : Int) (v7_2 : Int), Zir v5_1 v6_0 = some (.tup [.agg [I v7_0, I v7_1, I v7_2, .t .nil], Bo false], []) ∧ (some (.tup [.agg [I v7_0, I v7_1, I v7_2, .t .nil], Bo false], []) = some r)) ∨ (∃ (v8_0 : List Zc) (v8_1 : Int) (v8_2 : Int) (v8_3 : Int), Zir v5_1 v6_0 = some (.tup [.agg [I v8_1, I v8_2, I v8_3, .own 0], Bo true], [.arr 142 3 true (v8_0.map Zc.c)]) ∧ (some (.tup [.agg [I v8_1, I v8_2, I v8_3, .own 0], Bo true], [.arr 142 3 true (v8_0.map Zc.c)]) = some r))))))) : Zis a a1 a2 = some r := by
  unfold Zis
  refine run Z5n rfl ?_
  simp only [Ziq, Zbz, Zpk, Zir, Zd.c_def, Zh.c_def, Plan.c_def, Za.c_def, Zb.c_def, mpl, dfs] at h
  rcases h with ⟨q2, v2_0, q3, (⟨v3_0, v3_1, v3_2, q5, h⟩ | ⟨v4_0, v4_1, v4_2, v4_3, q6, h⟩)⟩ | ⟨v5_0, v5_1, q7, v6_0, q8, (⟨v7_0, v7_1, v7_2, q10, h⟩ | ⟨v8_0, v8_1, v8_2, v8_3, q11, h⟩)⟩
  all_goals (refine Eq.trans ?_ h; clear h; simp +decide [*, kk, Zu9])
theorem Z8s (a : Zd) (a1 : Zb) (a2 : List Int) (r : AV × List Blk) (h : ((∃ (v1_0 : Int) (v1_1 : Int) (v1_2 : Int), Zis a a1 a2 = some (.tup [.agg [I v1_0, I v1_1, I v1_2, .t .nil], Bo false], []) ∧ (some (I (-1), []) = some r)) ∨ (∃ (v2_0 : List Zc) (v2_1 : Int) (v2_2 : Int) (v2_3 : Int), Zis a a1 a2 = some (.tup [.agg [I v2_1, I v2_2, I v2_3, .own 0], Bo true], [.arr 142 3 true (v2_0.map Zc.c)]) ∧ (some (I v2_3, []) = some r)))) : Zkb a a1 a2 = some r := by
  unfold Zkb
  refine run Z5o rfl ?_
  simp only [Zis, Zd.c_def, Zh.c_def, Zb.c_def, mpl, dfs] at h
  rcases h with ⟨v1_0, v1_1, v1_2, q2, h⟩ | ⟨v2_0, v2_1, v2_2, v2_3, q3, h⟩
  all_goals (refine Eq.trans ?_ h; clear h; simp +decide [*, kk, Zva])
theorem Z8t (a : Zd) (a1 : Zb) (a2 : List Int) (r : AV × List Blk) (h : ((∃ (v1_0 : List Int), Zex a2 = some (.own 0, [.arr 3 1 true (v1_0.map ic)]) ∧ (∃ (v2_0 : Int), Zkb a a1 v1_0 = some (I v2_0, []) ∧ (some (I v2_0, []) = some r))) ∨ (Zex a2 = some (.t .nil, []) ∧ (∃ (v4_0 : Int), Zvb a a1 = some (I v4_0, []) ∧ (some (I v4_0, []) = some r))))) : Zkc a a1 a2 = some r := by
  unfold Zkc
  refine run Z5p rfl ?_
  simp only [Zex, Zkb, Zvb, Zd.c_def, Zh.c_def, Zb.c_def, mpl, dfs] at h
  rcases h with ⟨v1_0, q2, v2_0, q3, h⟩ | ⟨q4, v4_0, q5, h⟩
  all_goals (refine Eq.trans ?_ h; clear h; simp +decide [*, kk, Zvc])
theorem Z8u (a : Zd) (a1 : Int) (r : AV × List Blk) (h : (if a1 = 1 then (some (.agg (a.Scan.c.map .t), []) = some r) else (if a1 = 2 then (some (.agg (a.Sort_.c.map .t), []) = some r) else (if a1 = 3 then (some (.agg (a.Hash.c.map .t), []) = some r) else (if a1 = 4 then (some (.agg (a.Merge.c.map .t), []) = some r) else (some (.agg (a.Nested.c.map .t), []) = some r)))))) : Zch a a1 = some r := by
  unfold Zch
  refine run Z5q rfl ?_
  try simp only [itb] at h
  try simp only [itf, List.getElem?_eq_some_iff, kk] at h
  rcases h with ⟨q1, h⟩ | ⟨q1, (⟨q2, h⟩ | ⟨q2, (⟨q3, h⟩ | ⟨q3, (⟨q4, h⟩ | ⟨q4, h⟩)⟩)⟩)⟩
  all_goals (refine Eq.trans ?_ h; clear h; simp +decide [*, kk, Zvd])
theorem Z8v (a : Int) (a1 : Int) (a2 : Int) (r : AV × List Blk) (h : (if a1 ≤ a then (some (Bo (decide (a ≤ a2)), []) = some r) else (some (Bo false, []) = some r))) : Zx a a1 a2 = some r := by
  unfold Zx
  refine run Z5r rfl ?_
  try simp only [itb] at h
  try simp only [itf, List.getElem?_eq_some_iff, kk] at h
  rcases h with ⟨q1, h⟩ | ⟨q1, h⟩
  all_goals (refine Eq.trans ?_ h; clear h; simp +decide [*, kk, Zve])
theorem Z8w (a : Int) (r : AV × List Blk) (h : (∃ (v1_0 : Bool), Zx a (-99) 99 = some (Bo v1_0, []) ∧ (some (Bo v1_0, []) = some r))) : Zdn a = some r := by
  unfold Zdn
  refine run Z5s rfl ?_
  simp only [Zx, mpl, dfs] at h
  rcases h with ⟨v1_0, q1, h⟩
  all_goals (refine Eq.trans ?_ h; clear h; simp +decide [*, kk, Zvf])
theorem Zyh (o : Zh) (i : Int) (r : AV × List Blk) (h : (if i < (o.Steps.length : Int) then (0 ≤ i ∧ (∃ (e1 : Zg), o.Steps[i.toNat]? = some e1 ∧ (∃ (v2_0 : Bool), Zx e1.From 1 8192 = some (Bo v2_0, []) ∧ (if v2_0 = true then (∃ (v3_0 : Bool), Zdn e1.Add = some (Bo v3_0, []) ∧ (if v3_0 = true then (if 0 < i then (0 ≤ (w (i - 1)) ∧ (∃ (e4 : Zg), o.Steps[(w (i - 1)).toNat]? = some e4 ∧ (if e1.From ≤ e4.From then (some (Bo false, []) = some r) else (Ze1 o (w (i + 1)) = some r)))) else (Ze1 o (w (i + 1)) = some r)) else (some (Bo false, []) = some r))) else (some (Bo false, []) = some r))))) else (some (Bo true, []) = some r))) : Ze1 o i = some r := by
  unfold Ze1
  rw [EvL_eq Zpn.eq_1]
  simp only [Zx, Zdn, mpl, dfs] at h
  try simp only [itb] at h
  try simp only [itf, List.getElem?_eq_some_iff, kk] at h
  rcases h with ⟨q1, q2, e1, ⟨g3, q3⟩, v2_0, q4, (⟨q5, v3_0, q6, (⟨q7, (⟨q8, q9, e4, ⟨g10, q10⟩, (⟨q11, h⟩ | ⟨q11, h⟩)⟩ | ⟨q8, h⟩)⟩ | ⟨q7, h⟩)⟩ | ⟨q5, h⟩)⟩ | ⟨q1, h⟩
  all_goals (refine Eq.trans ?_ h; clear h; simp +decide [*, kk, Ze1, Zpo])
theorem Z8x (a : Zh) (r : AV × List Blk) (h : (∃ (v1_0 : Bool), Zdn a.Fixed = some (Bo v1_0, []) ∧ (if v1_0 = true then (∃ (v2_0 : Bool), Zdn a.Zi = some (Bo v2_0, []) ∧ (if v2_0 = true then (∃ (v3_0 : Bool), Zdn a.Zj = some (Bo v3_0, []) ∧ (if v3_0 = true then (∃ (v4_0 : Bool), Zdn a.Zl = some (Bo v4_0, []) ∧ (if v4_0 = true then (∃ (v5_0 : Bool), Zdn a.Zk = some (Bo v5_0, []) ∧ (if v5_0 = true then (if 4 < (a.Steps.length : Int) then (some (Bo false, []) = some r) else (Ze1 a 0 = some r)) else (some (Bo false, []) = some r))) else (some (Bo false, []) = some r))) else (some (Bo false, []) = some r))) else (some (Bo false, []) = some r))) else (some (Bo false, []) = some r)))) : Zd9 a = some r := by
  unfold Zd9
  refine run Z5t rfl ?_
  simp only [Zdn, mpl, dfs] at h
  try simp only [itb] at h
  try simp only [itf, List.getElem?_eq_some_iff, kk] at h
  rcases h with ⟨v1_0, q1, (⟨q2, v2_0, q3, (⟨q4, v3_0, q5, (⟨q6, v4_0, q7, (⟨q8, v5_0, q9, (⟨q10, (⟨q11, h⟩ | ⟨q11, h⟩)⟩ | ⟨q10, h⟩)⟩ | ⟨q8, h⟩)⟩ | ⟨q6, h⟩)⟩ | ⟨q4, h⟩)⟩ | ⟨q2, h⟩)⟩
  all_goals (refine Eq.trans ?_ h; clear h; simp +decide [*, kk, Zvg, Ze1])
theorem Z8y (k : Int) (n : Int) (i : Int) (r : AV × List Blk) (h : (if i < k then (Zfw k (if 1 < (w (n * 4)) then (w (n * 4)) else 1) (w (i + 1)) = some r) else (some (I n, []) = some r))) : Zfw k n i = some r := by
  unfold Zfw
  rw [EvL_eq Zpp.eq_1]
  try simp only [itb] at h
  try simp only [itf, List.getElem?_eq_some_iff, kk] at h
  rcases h with ⟨q1, h⟩ | ⟨q1, h⟩
  all_goals (refine Eq.trans ?_ h; clear h; simp +decide [*, kk, Zfw, Zpq])
theorem Z8z (a : Int) (r : AV × List Blk) (h : (∃ (v1_0 : Bool), Zx a 0 7 = some (Bo v1_0, []) ∧ (if v1_0 = true then (Zfw a 0 0 = some r) else (some (I (-1), []) = some r)))) : Ze2 a = some r := by
  unfold Ze2
  refine run Z5u rfl ?_
  simp only [Zx, mpl, dfs] at h
  try simp only [itb] at h
  try simp only [itf, List.getElem?_eq_some_iff, kk] at h
  rcases h with ⟨v1_0, q1, (⟨q2, h⟩ | ⟨q2, h⟩)⟩
  all_goals (refine Eq.trans ?_ h; clear h; simp +decide [*, kk, Zvh, Zfw])
theorem Zyi (o : Zh) (l : Int) (r_1 : Int) (n : Int) (i : Int) (r : AV × List Blk) (h : (if i < (o.Steps.length : Int) then (0 ≤ i ∧ (∃ (e1 : Zg), o.Steps[i.toNat]? = some e1 ∧ (if e1.From ≤ (w (l + r_1)) then (Ze3 o l r_1 (w (n + e1.Add)) (w (i + 1)) = some r) else (Ze3 o l r_1 n (w (i + 1)) = some r)))) else (some (I n, []) = some r))) : Ze3 o l r_1 n i = some r := by
  unfold Ze3
  rw [EvL_eq Zpr.eq_1]
  try simp only [itb] at h
  try simp only [itf, List.getElem?_eq_some_iff, kk] at h
  rcases h with ⟨q1, q2, e1, ⟨g3, q3⟩, (⟨q4, h⟩ | ⟨q4, h⟩)⟩ | ⟨q1, h⟩
  all_goals (refine Eq.trans ?_ h; clear h; simp +decide [*, kk, Ze3, Zvi, Zps])
theorem Z80 (a : Zh) (a1 : Int) (a2 : Int) (a3 : Int) (r : AV × List Blk) (h : (∃ (v1_0 : Bool), Zd9 a = some (Bo v1_0, []) ∧ (if v1_0 = true then (∃ (v2_0 : Bool), Zx a1 0 4096 = some (Bo v2_0, []) ∧ (if v2_0 = true then (∃ (v3_0 : Bool), Zx a2 0 4096 = some (Bo v3_0, []) ∧ (if v3_0 = true then (∃ (v4_0 : Bool), Zx a3 0 4096 = some (Bo v4_0, []) ∧ (if v4_0 = true then (Ze3 a a1 a2 (w ((w ((w ((w (a.Fixed + (w (a.Zi * a1)))) + (w (a.Zj * a2)))) + (w (a.Zl * a3)))) + (w ((w (a.Zk * a1)) * a2)))) 0 = some r) else (some (I 0, []) = some r))) else (some (I 0, []) = some r))) else (some (I 0, []) = some r))) else (some (I 0, []) = some r)))) : Zbp a a1 a2 a3 = some r := by
  unfold Zbp
  refine run Z5v rfl ?_
  simp only [Zd9, Zx, Zh.c_def, mpl, dfs] at h
  try simp only [itb] at h
  try simp only [itf, List.getElem?_eq_some_iff, kk] at h
  rcases h with ⟨v1_0, q1, (⟨q2, v2_0, q3, (⟨q4, v3_0, q5, (⟨q6, v4_0, q7, (⟨q8, h⟩ | ⟨q8, h⟩)⟩ | ⟨q6, h⟩)⟩ | ⟨q4, h⟩)⟩ | ⟨q2, h⟩)⟩
  all_goals (refine Eq.trans ?_ h; clear h; simp +decide [*, kk, Zvj, Ze3])
theorem Z81 (a : Zh) (a1 : List Int) (r : AV × List Blk) (h : (∃ (e1 : Int), a1[0]? = some e1 ∧ (∃ (v2_0 : Int), Ze2 e1 = some (I v2_0, []) ∧ (∃ (e3 : Int), a1[1]? = some e3 ∧ (∃ (v4_0 : Int), Ze2 e3 = some (I v4_0, []) ∧ (∃ (e5 : Int), a1[2]? = some e5 ∧ (∃ (v6_0 : Int), Ze2 e5 = some (I v6_0, []) ∧ (∃ (v7_0 : Int), Zbp a v2_0 v4_0 v6_0 = some (I v7_0, []) ∧ (some (I v7_0, []) = some r))))))))) : Zfx a a1 = some r := by
  unfold Zfx
  refine run Z5w rfl ?_
  simp only [Ze2, Zbp, Zh.c_def, mpl, dfs] at h
  try simp only [itb] at h
  try simp only [itf, List.getElem?_eq_some_iff, kk] at h
  rcases h with ⟨e1, ⟨g1, q1⟩, v2_0, q2, e3, ⟨g3, q3⟩, v4_0, q4, e5, ⟨g5, q5⟩, v6_0, q6, v7_0, q7, h⟩
  all_goals (refine Eq.trans ?_ h; clear h; simp +decide [*, kk, Zvk])
theorem Zyj (o : Zh) (a : Int) (r : AV × List Blk) (h : (if a ≤ 7 then (Zfz o a 0 = some r) else (some (.tup [.own 0, .own 1, Bo false], [.arr 3 1 true (([] : List Int).map ic), .arr 3 1 true (([] : List Int).map ic)]) = some r))) : Zfy o a = some r := by
  unfold Zfy
  rw [EvL_eq Zit.eq_1]
  try simp only [itb] at h
  try simp only [itf, List.getElem?_eq_some_iff, kk] at h
  rcases h with ⟨q1, h⟩ | ⟨q1, h⟩
  all_goals (refine Eq.trans ?_ h; clear h; simp +decide [*, kk, Zfz, Ziu])
theorem Zyk (o : Zh) (a : Int) (b : Int) (r : AV × List Blk) (h : (if b ≤ 7 then (Zf0 o a b 0 = some r) else (Zfy o (w (a + 1)) = some r))) : Zfz o a b = some r := by
  unfold Zfz
  rw [EvL_eq Zkd.eq_1]
  try simp only [itb] at h
  try simp only [itf, List.getElem?_eq_some_iff, kk] at h
  rcases h with ⟨q1, h⟩ | ⟨q1, h⟩
  all_goals (refine Eq.trans ?_ h; clear h; simp +decide [*, kk, Zf0, Zfy, Zke])
theorem Zyl (o : Zh) (a : Int) (b : Int) (e : Int) (r : AV × List Blk) (h : (if e ≤ 7 then (Zdo o ([a, b, e]) a b e 0 = some r) else (Zfz o a (w (b + 1)) = some r))) : Zf0 o a b e = some r := by
  unfold Zf0
  rw [EvL_eq Zmh.eq_1]
  try simp only [itb] at h
  try simp only [itf, List.getElem?_eq_some_iff, kk] at h
  rcases h with ⟨q1, h⟩ | ⟨q1, h⟩
  all_goals (refine Eq.trans ?_ h; clear h; simp +decide [*, kk, Zdo, Zfz, Zmi])
theorem Zym (o : Zh) (x : List Int) (a : Int) (b : Int) (e : Int) (k : Int) (r : AV × List Blk) (h : (if k < 3 then (x.length ≤ 68719476736 ∧ (0 ≤ k ∧ (∃ (e1 : Int), x[k.toNat]? = some e1 ∧ (if (w (e1 + 1)) ≤ 7 then (∃ (v2_0 : Int), Zfx o (x.set k.toNat (w (e1 + 1))) = some (I v2_0, []) ∧ (∃ (v3_0 : Int), Zfx o x = some (I v3_0, []) ∧ (if v2_0 < v3_0 then (some (.tup [.own 0, .own 1, Bo true], [.arr 3 1 true (x.map ic), .arr 3 1 true ((x.set k.toNat (w (e1 + 1))).map ic)]) = some r) else (Zdo o x a b e (w (k + 1)) = some r)))) else (Zdo o x a b e (w (k + 1)) = some r))))) else (Zf0 o a b (w (e + 1)) = some r))) : Zdo o x a b e k = some r := by
  unfold Zdo
  rw [EvL_eq Zpt.eq_1]
  simp only [Zfx, Zh.c_def, mpl, dfs] at h
  try simp only [itb] at h
  try simp only [itf, List.getElem?_eq_some_iff, kk] at h
  rcases h with ⟨q1, q2, q3, e1, ⟨g4, q4⟩, (⟨q5, v2_0, q6, v3_0, q7, (⟨q8, h⟩ | ⟨q8, h⟩)⟩ | ⟨q5, h⟩)⟩ | ⟨q1, h⟩
  all_goals (refine Eq.trans ?_ h; clear h; simp +decide [*, kk, Zdo, Zf0, Zpu])
theorem Z82 (a : Zh) (r : AV × List Blk) (h : (∃ (v1_0 : Bool), Zd9 a = some (Bo v1_0, []) ∧ (if v1_0 = true then (Zfy a 0 = some r) else (some (.tup [.own 0, .own 1, Bo false], [.arr 3 1 true (([] : List Int).map ic), .arr 3 1 true (([] : List Int).map ic)]) = some r)))) : Zkf a = some r := by
  unfold Zkf
  refine run Z5x rfl ?_
  simp only [Zd9, Zh.c_def, mpl, dfs] at h
  try simp only [itb] at h
  try simp only [itf, List.getElem?_eq_some_iff, kk] at h
  rcases h with ⟨v1_0, q1, (⟨q2, h⟩ | ⟨q2, h⟩)⟩
  all_goals (refine Eq.trans ?_ h; clear h; simp +decide [*, kk, Zvl, Zfy])
theorem Zyn (o : Zh) (a : Int) (r : AV × List Blk) (h : (if a ≤ 7 then (Zf2 o a 0 = some r) else (some (.own 0, [.arr 3 1 true (([] : List Int).map ic)]) = some r))) : Zf1 o a = some r := by
  unfold Zf1
  rw [EvL_eq Zkg.eq_1]
  try simp only [itb] at h
  try simp only [itf, List.getElem?_eq_some_iff, kk] at h
  rcases h with ⟨q1, h⟩ | ⟨q1, h⟩
  all_goals (refine Eq.trans ?_ h; clear h; simp +decide [*, kk, Zf2, Zkh])
theorem Zyo (o : Zh) (a : Int) (b : Int) (r : AV × List Blk) (h : (if b ≤ 7 then (Zhl o a b 0 = some r) else (Zf1 o (w (a + 1)) = some r))) : Zf2 o a b = some r := by
  unfold Zf2
  rw [EvL_eq Zmj.eq_1]
  try simp only [itb] at h
  try simp only [itf, List.getElem?_eq_some_iff, kk] at h
  rcases h with ⟨q1, h⟩ | ⟨q1, h⟩
  all_goals (refine Eq.trans ?_ h; clear h; simp +decide [*, kk, Zhl, Zf1, Zmk])
theorem Zrq (o : Zh) (a : Int) (b : Int) (e : Int) (r : AV × List Blk) (h : (if e ≤ 7 then (∃ (v1_0 : Int), Zfx o ([a, b, e]) = some (I v1_0, []) ∧ (if v1_0 < 1 then (some (.own 0, [.arr 3 1 true (([a, b, e]).map ic)]) = some r) else (Zhl o a b (w (e + 1)) = some r))) else (Zf2 o a (w (b + 1)) = some r))) : Zhl o a b e = some r := by
  unfold Zhl
  rw [EvL_eq Zpv.eq_1]
  simp only [Zfx, Zh.c_def, mpl, dfs] at h
  try simp only [itb] at h
  try simp only [itf, List.getElem?_eq_some_iff, kk] at h
  rcases h with ⟨q1, v1_0, q2, (⟨q3, h⟩ | ⟨q3, h⟩)⟩ | ⟨q1, h⟩
  all_goals (refine Eq.trans ?_ h; clear h; simp +decide [*, kk, Zhl, Zf2, Zpw])
theorem Z83 (a : Zh) (r : AV × List Blk) (h : (Zf1 a 0 = some r)) : Zki a = some r := by
  unfold Zki
  refine run Z5y rfl ?_
  refine Eq.trans ?_ h; clear h; simp +decide [*, kk, Zvm, Zf1]
theorem Zyp (m : Zd) (k : Int) (r : AV × List Blk) (h : (if k ≤ 5 then (∃ (v1_0 : Zh), Zch m k = some (.agg (v1_0.c.map .t), []) ∧ (∃ (v2_0 : Bool), Zd9 v1_0 = some (Bo v2_0, []) ∧ (if v2_0 = true then (∃ (v3_0 : List Int) (v3_1 : List Int) (v3_2 : Bool), Zkf v1_0 = some (.tup [.own 0, .own 1, Bo v3_2], [.arr 3 1 true (v3_0.map ic), .arr 3 1 true (v3_1.map ic)]) ∧ (if v3_2 = true then (some (.tup [I k, .own 0, .own 1], [.arr 3 1 true (v3_0.map ic), .arr 3 1 true (v3_1.map ic)]) = some r) else (∃ (v4_0 : List Int), Zki v1_0 = some (.own 0, [.arr 3 1 true (v4_0.map ic)]) ∧ (if 0 < (v4_0.length : Int) then (some (.tup [I k, .own 0, .own 1], [.arr 3 1 true (v4_0.map ic), .arr 3 1 true (([] : List Int).map ic)]) = some r) else (Zf3 m (w (k + 1)) = some r))))) else (some (.tup [I k, .own 0, .own 1], [.arr 3 1 true (([] : List Int).map ic), .arr 3 1 true (([] : List Int).map ic)]) = some r)))) else (some (.tup [I 0, .own 0, .own 1], [.arr 3 1 true (([] : List Int).map ic), .arr 3 1 true (([] : List Int).map ic)]) = some r))) : Zf3 m k = some r := by
  unfold Zf3
  rw [EvL_eq Zpx.eq_1]
  simp only [Zch, Zd9, Zkf, Zki, Zd.c_def, Zh.c_def, mpl, dfs] at h
  try simp only [itb] at h
  try simp only [itf, List.getElem?_eq_some_iff, kk] at h
  rcases h with ⟨q1, v1_0, q2, v2_0, q3, (⟨q4, v3_0, v3_1, v3_2, q5, (⟨q6, h⟩ | ⟨q6, v4_0, q7, (⟨q8, h⟩ | ⟨q8, h⟩)⟩)⟩ | ⟨q4, h⟩)⟩ | ⟨q1, h⟩
  all_goals (refine Eq.trans ?_ h; clear h; simp +decide [*, kk, Zf3, Zpy])
theorem Z84 (a : Zd) (r : AV × List Blk) (h : (Zf3 a 1 = some r)) : Zml a = some r := by
  unfold Zml
  refine run Z5z rfl ?_
  refine Eq.trans ?_ h; clear h; simp +decide [*, kk, Zvn, Zf3]
end Go.Proofs.YtbapkgocloaaeaaGreat
/- part: G9 -/
namespace Go.Proofs.YtbapkgocloaaeaaGreat
open Go.AM
theorem Z85 (a : Zd) (r : AV × List Blk) (h : (∃ (v1_0 : List Int) (v1_1 : List Int) (v1_2 : Int), Zml a = some (.tup [I v1_2, .own 0, .own 1], [.arr 3 1 true (v1_0.map ic), .arr 3 1 true (v1_1.map ic)]) ∧ (some (Bo (decide (v1_2 = 0)), []) = some r))) : Zkj a = some r := by
  unfold Zkj
  refine run Z50 rfl ?_
  simp only [Zml, Zd.c_def, Zh.c_def, mpl, dfs] at h
  rcases h with ⟨v1_0, v1_1, v1_2, q1, h⟩
  all_goals (refine Eq.trans ?_ h; clear h; simp +decide [*, kk, Zvo])
theorem Z86 (a : ByteArray) (r : AV × List Blk) (h : (if (a.size : Int) = 1 then (∃ (b1 : UInt8), a[0]? = some b1 ∧ (if 97 ≤ (b1.toNat : Int) then (some (Bo (decide ((b1.toNat : Int) ≤ 122)), []) = some r) else (some (Bo false, []) = some r))) else (some (Bo false, []) = some r))) : Zkk a = some r := by
  unfold Zkk
  refine run Z51 rfl ?_
  try simp only [itb] at h
  try simp only [itf, List.getElem?_eq_some_iff, kk] at h
  rcases h with ⟨q1, b1, q2, (⟨q3, h⟩ | ⟨q3, h⟩)⟩ | ⟨q1, h⟩
  all_goals (refine Eq.trans ?_ h; clear h; simp +decide [*, kk, Zvp])
theorem Zyq (l : List Int) (x : Int) (i : Int) (r : AV × List Blk) (h : (if i < (l.length : Int) then (0 ≤ i ∧ (∃ (e1 : Int), l[i.toNat]? = some e1 ∧ (if e1 = x then (some (Bo true, []) = some r) else (Zhn l x (w (i + 1)) = some r)))) else (some (Bo false, []) = some r))) : Zhn l x i = some r := by
  unfold Zhn
  rw [EvL_eq Zpz.eq_1]
  try simp only [itb] at h
  try simp only [itf, List.getElem?_eq_some_iff, kk] at h
  rcases h with ⟨q1, q2, e1, ⟨g3, q3⟩, (⟨q4, h⟩ | ⟨q4, h⟩)⟩ | ⟨q1, h⟩
  all_goals (refine Eq.trans ?_ h; clear h; simp +decide [*, kk, Zhn, Zp0])
theorem Z87 (a : List Int) (a1 : Int) (r : AV × List Blk) (h : (Zhn a a1 0 = some r)) : Zhm a a1 = some r := by
  unfold Zhm
  refine run Z52 rfl ?_
  refine Eq.trans ?_ h; clear h; simp +decide [*, kk, Zvq, Zhn]
theorem Zyr (q : Zb) (seen : Int) (i : Int) (r : AV × List Blk) (h : (if i < (q.Atoms.length : Int) then (0 ≤ i ∧ (∃ (e1 : Atom), q.Atoms[i.toNat]? = some e1 ∧ (∃ (v2_0 : Bool), Zkk e1.Name = some (Bo v2_0, []) ∧ (if v2_0 = true then (∃ (v3_0 : Bool), Zx (e1.Vars.length : Int) 1 3 = some (Bo v3_0, []) ∧ (if v3_0 = true then (Zho q e1 seen i 0 = some r) else (some (Bo false, []) = some r))) else (some (Bo false, []) = some r))))) else (¬ q.Ze < 0 ∧ (some (Bo (decide (seen = (w ((shlI 1 q.Ze) - 1)))), []) = some r)))) : Zf4 q seen i = some r := by
  unfold Zf4
  rw [EvL_eq Zmm.eq_1]
  simp only [Zkk, Zx, mpl, dfs] at h
  try simp only [itb] at h
  try simp only [itf, List.getElem?_eq_some_iff, kk] at h
  rcases h with ⟨q1, q2, e1, ⟨g3, q3⟩, v2_0, q4, (⟨q5, v3_0, q6, (⟨q7, h⟩ | ⟨q7, h⟩)⟩ | ⟨q5, h⟩)⟩ | ⟨q1, q8, h⟩
  all_goals (refine Eq.trans ?_ h; clear h; simp +decide [*, kk, Zho, Zmn])
theorem Zys (q : Zb) (a : Atom) (seen : Int) (i : Int) (k : Int) (r : AV × List Blk) (h : (if k < (a.Vars.length : Int) then (0 ≤ k ∧ (∃ (e1 : Int), a.Vars[k.toNat]? = some e1 ∧ (∃ (v2_0 : Bool), Zx e1 0 (w (q.Ze - 1)) = some (Bo v2_0, []) ∧ (if v2_0 = true then (k.toNat ≤ a.Vars.length ∧ (∃ (v3_0 : Bool), Zhm (a.Vars.take k.toNat) e1 = some (Bo v3_0, []) ∧ (if v3_0 = true then (some (Bo false, []) = some r) else (¬ e1 < 0 ∧ (Zho q a (orI seen (shlI 1 e1)) i (w (k + 1)) = some r))))) else (some (Bo false, []) = some r))))) else (Zf4 q seen (w (i + 1)) = some r))) : Zho q a seen i k = some r := by
  unfold Zho
  rw [EvL_eq Zp1.eq_1]
  simp only [Zx, Zhm, mpl, dfs] at h
  try simp only [itb] at h
  try simp only [itf, List.getElem?_eq_some_iff, kk] at h
  rcases h with ⟨q1, q2, e1, ⟨g3, q3⟩, v2_0, q4, (⟨q5, q6, v3_0, q7, (⟨q8, h⟩ | ⟨q8, q9, h⟩)⟩ | ⟨q5, h⟩)⟩ | ⟨q1, h⟩
  all_goals (refine Eq.trans ?_ h; clear h; simp +decide [*, kk, Zho, Zf4, Zp2])
theorem Z88 (a : Zb) (r : AV × List Blk) (h : (∃ (v1_0 : Bool), Zx a.Ze 1 4 = some (Bo v1_0, []) ∧ (if v1_0 = true then (∃ (v2_0 : Bool), Zx (a.Atoms.length : Int) 1 4 = some (Bo v2_0, []) ∧ (if v2_0 = true then (Zf4 a 0 0 = some r) else (some (Bo false, []) = some r))) else (some (Bo false, []) = some r)))) : Zdp a = some r := by
  unfold Zdp
  refine run Z53 rfl ?_
  simp only [Zx, mpl, dfs] at h
  try simp only [itb] at h
  try simp only [itf, List.getElem?_eq_some_iff, kk] at h
  rcases h with ⟨v1_0, q1, (⟨q2, v2_0, q3, (⟨q4, h⟩ | ⟨q4, h⟩)⟩ | ⟨q2, h⟩)⟩
  all_goals (refine Eq.trans ?_ h; clear h; simp +decide [*, kk, Zvr, Zf4])
theorem Z89 (a : Zb) (r : AV × List Blk) (h : (∃ (v1_0 : Bool), Zdp a = some (Bo v1_0, []) ∧ (if v1_0 = true then (¬ (a.Atoms.length : Int) < 0 ∧ (some (I (w ((shlI 1 (a.Atoms.length : Int)) - 1)), []) = some r)) else (some (I 0, []) = some r)))) : Zdq a = some r := by
  unfold Zdq
  refine run Z54 rfl ?_
  simp only [Zdp, Zb.c_def, mpl, dfs] at h
  try simp only [itb] at h
  try simp only [itf, List.getElem?_eq_some_iff, kk] at h
  rcases h with ⟨v1_0, q1, (⟨q2, q3, h⟩ | ⟨q2, h⟩)⟩
  all_goals (refine Eq.trans ?_ h; clear h; simp +decide [*, kk, Zvs])
theorem Z9a (a : Zb) (a1 : Int) (r : AV × List Blk) (h : (∃ (v1_0 : Bool), Zdp a = some (Bo v1_0, []) ∧ (if v1_0 = true then (¬ (a.Atoms.length : Int) < 0 ∧ (∃ (v2_0 : Bool), Zx a1 0 (w ((shlI 1 (a.Atoms.length : Int)) - 1)) = some (Bo v2_0, []) ∧ (some (Bo v2_0, []) = some r))) else (some (Bo false, []) = some r)))) : Zhp a a1 = some r := by
  unfold Zhp
  refine run Z55 rfl ?_
  simp only [Zdp, Zx, Zb.c_def, mpl, dfs] at h
  try simp only [itb] at h
  try simp only [itf, List.getElem?_eq_some_iff, kk] at h
  rcases h with ⟨v1_0, q1, (⟨q2, q3, v2_0, q4, h⟩ | ⟨q2, h⟩)⟩
  all_goals (refine Eq.trans ?_ h; clear h; simp +decide [*, kk, Zvt])
theorem Zyt (q : Zb) (mask : Int) (x : Int) (i : Int) (r : AV × List Blk) (h : (if i < (q.Atoms.length : Int) then (Zf5 q mask x i 0 = some r) else (some (I x, []) = some r))) : Ze4 q mask x i = some r := by
  unfold Ze4
  rw [EvL_eq Zmo.eq_1]
  try simp only [itb] at h
  try simp only [itf, List.getElem?_eq_some_iff, kk] at h
  rcases h with ⟨q1, h⟩ | ⟨q1, h⟩
  all_goals (refine Eq.trans ?_ h; clear h; simp +decide [*, kk, Zf5, Zmp])
theorem Zrr (q : Zb) (mask : Int) (x : Int) (i : Int) (k : Int) (r : AV × List Blk) (h : (0 ≤ i ∧ (∃ (e1 : Atom), q.Atoms[i.toNat]? = some e1 ∧ (if k < (e1.Vars.length : Int) then (¬ i < 0 ∧ (if (andI (shrI mask i) 1) = 1 then (0 ≤ k ∧ (∃ (e2 : Int), e1.Vars[k.toNat]? = some e2 ∧ (¬ e2 < 0 ∧ (Zf5 q mask (orI x (shlI 1 e2)) i (w (k + 1)) = some r)))) else (Ze4 q mask x (w (i + 1)) = some r))) else (Ze4 q mask x (w (i + 1)) = some r))))) : Zf5 q mask x i k = some r := by
  unfold Zf5
  rw [EvL_eq Zp3.eq_1]
  try simp only [itb] at h
  try simp only [itf, List.getElem?_eq_some_iff, kk] at h
  rcases h with ⟨q1, e1, ⟨g2, q2⟩, (⟨q3, q4, (⟨q5, q6, e2, ⟨g7, q7⟩, q8, h⟩ | ⟨q5, h⟩)⟩ | ⟨q3, h⟩)⟩
  all_goals (refine Eq.trans ?_ h; clear h; simp +decide [*, kk, Zf5, Ze4, Zp4])
theorem Z9b (a : Zb) (a1 : Int) (r : AV × List Blk) (h : (Ze4 a a1 0 0 = some r)) : Zb4 a a1 = some r := by
  unfold Zb4
  refine run Z56 rfl ?_
  refine Eq.trans ?_ h; clear h; simp +decide [*, kk, Zvu, Ze4]
theorem Zyu (q : Zb) (mask : Int) (out : Int) (bits : Int) (i : Int) (r : AV × List Blk) (h : (if i < (q.Atoms.length : Int) then (¬ i < 0 ∧ (if (andI (shrI mask i) 1) = 0 then (∃ (v1_0 : Int), Zb4 q (shlI 1 i) = some (I v1_0, []) ∧ (if (andI v1_0 bits) = 0 then (Ze5 q mask out bits (w (i + 1)) = some r) else (Ze5 q mask (orI out (shlI 1 i)) bits (w (i + 1)) = some r))) else (Ze5 q mask out bits (w (i + 1)) = some r))) else (some (I out, []) = some r))) : Ze5 q mask out bits i = some r := by
  unfold Ze5
  rw [EvL_eq Zp5.eq_1]
  simp only [Zb4, Zb.c_def, mpl, dfs] at h
  try simp only [itb] at h
  try simp only [itf, List.getElem?_eq_some_iff, kk] at h
  rcases h with ⟨q1, q2, (⟨q3, v1_0, q4, (⟨q5, h⟩ | ⟨q5, h⟩)⟩ | ⟨q3, h⟩)⟩ | ⟨q1, h⟩
  all_goals (refine Eq.trans ?_ h; clear h; simp +decide [*, kk, Ze5, Zvv, Zp6])
theorem Z9c (a : Zb) (a1 : Int) (r : AV × List Blk) (h : (∃ (v1_0 : Int), Zb4 a a1 = some (I v1_0, []) ∧ (Ze5 a a1 0 v1_0 0 = some r))) : Zkl a a1 = some r := by
  unfold Zkl
  refine run Z57 rfl ?_
  simp only [Zb4, Zb.c_def, mpl, dfs] at h
  rcases h with ⟨v1_0, q1, h⟩
  all_goals (refine Eq.trans ?_ h; clear h; simp +decide [*, kk, Zvw, Ze5])
theorem Zyv (q : Zb) (mask : Int) (x : Int) (n : Int) (r : AV × List Blk) (h : (if n < (q.Atoms.length : Int) then (∃ (v1_0 : Int), Zkl q x = some (I v1_0, []) ∧ (Zhq q mask (orI x (andI v1_0 mask)) (w (n + 1)) = some r)) else (some (Bo (decide (x = mask)), []) = some r))) : Zhq q mask x n = some r := by
  unfold Zhq
  rw [EvL_eq Zp7.eq_1]
  simp only [Zkl, Zb.c_def, mpl, dfs] at h
  try simp only [itb] at h
  try simp only [itf, List.getElem?_eq_some_iff, kk] at h
  rcases h with ⟨q1, v1_0, q2, h⟩ | ⟨q1, h⟩
  all_goals (refine Eq.trans ?_ h; clear h; simp +decide [*, kk, Zhq, Zp8])
theorem Z9d (a : Zb) (a1 : Int) (r : AV × List Blk) (h : (Zhq a a1 (andI a1 (w (0 - a1))) 0 = some r)) : Zea a a1 = some r := by
  unfold Zea
  refine run Z58 rfl ?_
  refine Eq.trans ?_ h; clear h; simp +decide [*, kk, Zvx, Zhq]
theorem Z9e (a : Zb) (a1 : Int) (r : AV × List Blk) (h : (∃ (v1_0 : Bool), Zhp a a1 = some (Bo v1_0, []) ∧ (if v1_0 = true then (if 0 < a1 then (∃ (v2_0 : Bool), Zea a a1 = some (Bo v2_0, []) ∧ (some (Bo v2_0, []) = some r)) else (some (Bo false, []) = some r)) else (some (Bo false, []) = some r)))) : Zhr a a1 = some r := by
  unfold Zhr
  refine run Z59 rfl ?_
  simp only [Zhp, Zea, Zb.c_def, mpl, dfs] at h
  try simp only [itb] at h
  try simp only [itf, List.getElem?_eq_some_iff, kk] at h
  rcases h with ⟨v1_0, q1, (⟨q2, (⟨q3, v2_0, q4, h⟩ | ⟨q3, h⟩)⟩ | ⟨q2, h⟩)⟩
  all_goals (refine Eq.trans ?_ h; clear h; simp +decide [*, kk, Zvy])
theorem Zyw (l : List Int) (i : Int) (r : AV × List Blk) (h : (if i < (l.length : Int) then (0 ≤ i ∧ (∃ (e1 : Int), l[i.toNat]? = some e1 ∧ (∃ (v2_0 : Bool), Zx e1 0 7 = some (Bo v2_0, []) ∧ (if v2_0 = true then (Zhs l (w (i + 1)) = some r) else (some (Bo false, []) = some r))))) else (some (Bo (decide ((l.length : Int) ≤ 16)), []) = some r))) : Zhs l i = some r := by
  unfold Zhs
  rw [EvL_eq Zp9.eq_1]
  simp only [Zx, mpl, dfs] at h
  try simp only [itb] at h
  try simp only [itf, List.getElem?_eq_some_iff, kk] at h
  rcases h with ⟨q1, q2, e1, ⟨g3, q3⟩, v2_0, q4, (⟨q5, h⟩ | ⟨q5, h⟩)⟩ | ⟨q1, h⟩
  all_goals (refine Eq.trans ?_ h; clear h; simp +decide [*, kk, Zhs, Zqa])
theorem Z9f (a : List Int) (r : AV × List Blk) (h : (Zhs a 0 = some r)) : Zf6 a = some r := by
  unfold Zf6
  refine run Z6a rfl ?_
  refine Eq.trans ?_ h; clear h; simp +decide [*, kk, Zvz, Zhs]
theorem Zyx (a : List Int) (b : List Int) (i : Int) (r : AV × List Blk) (h : (if i < (a.length : Int) then (0 ≤ i ∧ (∃ (e1 : Int), a[i.toNat]? = some e1 ∧ (∃ (e2 : Int), b[i.toNat]? = some e2 ∧ (if e1 < e2 then (some (Bo false, []) = some r) else (Zht a b (w (i + 1)) = some r))))) else (some (Bo true, []) = some r))) : Zht a b i = some r := by
  unfold Zht
  rw [EvL_eq Zqb.eq_1]
  try simp only [itb] at h
  try simp only [itf, List.getElem?_eq_some_iff, kk] at h
  rcases h with ⟨q1, q2, e1, ⟨g3, q3⟩, e2, ⟨g4, q4⟩, (⟨q5, h⟩ | ⟨q5, h⟩)⟩ | ⟨q1, h⟩
  all_goals (refine Eq.trans ?_ h; clear h; simp +decide [*, kk, Zht, Zqc])
theorem Z9g (a : List Int) (a1 : List Int) (r : AV × List Blk) (h : (if (a.length : Int) = (a1.length : Int) then (Zht a a1 0 = some r) else (some (Bo false, []) = some r))) : Zkm a a1 = some r := by
  unfold Zkm
  refine run Z6b rfl ?_
  try simp only [itb] at h
  try simp only [itf, List.getElem?_eq_some_iff, kk] at h
  rcases h with ⟨q1, h⟩ | ⟨q1, h⟩
  all_goals (refine Eq.trans ?_ h; clear h; simp +decide [*, kk, Zv0, Zht])
theorem Z9h (a : Box) (r : AV × List Blk) (h : (if 0 < (a.Low.length : Int) then (∃ (v1_0 : Bool), Zf6 a.Low = some (Bo v1_0, []) ∧ (if v1_0 = true then (∃ (v2_0 : Bool), Zf6 a.High = some (Bo v2_0, []) ∧ (if v2_0 = true then (∃ (v3_0 : Bool), Zkm a.High a.Low = some (Bo v3_0, []) ∧ (some (Bo v3_0, []) = some r)) else (some (Bo false, []) = some r))) else (some (Bo false, []) = some r))) else (some (Bo false, []) = some r))) : Ze6 a = some r := by
  unfold Ze6
  refine run Z6c rfl ?_
  simp only [Zf6, Zkm, mpl, dfs] at h
  try simp only [itb] at h
  try simp only [itf, List.getElem?_eq_some_iff, kk] at h
  rcases h with ⟨q1, v1_0, q2, (⟨q3, v2_0, q4, (⟨q5, v3_0, q6, h⟩ | ⟨q5, h⟩)⟩ | ⟨q3, h⟩)⟩ | ⟨q1, h⟩
  all_goals (refine Eq.trans ?_ h; clear h; simp +decide [*, kk, Zv1])
theorem Z9i (a : Int) (a1 : Int) (r : AV × List Blk) (h : (∃ (v1_0 : Bool), Zx a1 0 3 = some (Bo v1_0, []) ∧ (if v1_0 = true then (¬ a1 < 0 ∧ (some (Bo (decide ((andI (shrI a a1) 1) = 1)), []) = some r)) else (some (Bo false, []) = some r)))) : Ze7 a a1 = some r := by
  unfold Ze7
  refine run Z6d rfl ?_
  simp only [Zx, mpl, dfs] at h
  try simp only [itb] at h
  try simp only [itf, List.getElem?_eq_some_iff, kk] at h
  rcases h with ⟨v1_0, q1, (⟨q2, q3, h⟩ | ⟨q2, h⟩)⟩
  all_goals (refine Eq.trans ?_ h; clear h; simp +decide [*, kk, Zv2])
end Go.Proofs.YtbapkgocloaaeaaGreat
/- part: G10 -/
namespace Go.Proofs.YtbapkgocloaaeaaGreat
open Go.AM
theorem Zlg (q : Zb) (x : Zc) (x1 : Zf) (info : List Zf) (stack : List Int) (n : Int) (x2 : Int) (x3 : Bool) (r : AV × List Blk) (h : (if x3 = true then (if x.Atom = 0 then (if n < 2 then (some (.tup [.agg [I 0, I 0, I 0, I 0], I (-1)], []) = some r) else (0 ≤ (w (n - 2)) ∧ (∃ (e1 : Int), stack[(w (n - 2)).toNat]? = some e1 ∧ (0 ≤ e1 ∧ (∃ (e2 : Zf), info[e1.toNat]? = some e2 ∧ (0 ≤ (w (n - 1)) ∧ (∃ (e3 : Int), stack[(w (n - 1)).toNat]? = some e3 ∧ (0 ≤ e3 ∧ (∃ (e4 : Zf), info[e3.toNat]? = some e4 ∧ (∃ (v5_0 : Int), Zb4 q e2.Mask = some (I v5_0, []) ∧ (∃ (v6_0 : Int), Zb4 q e4.Mask = some (I v6_0, []) ∧ (if (andI e2.Mask e4.Mask) = 0 then (if (andI v5_0 v6_0) = 0 then (some (.tup [.agg [I 0, I 0, I 0, I 0], I (-1)], []) = some r) else (if x.Kind = 4 then (Zf8 q x x1 e2 e4 (⟨(orI e2.Mask e4.Mask), (-1), e1, e3⟩ : Zf) (andI v5_0 v6_0) false = some r) else (if x.Order = 0 then (if x.Kind = 5 then (Zhv q x x1 e2 e4 (⟨(orI e2.Mask e4.Mask), e2.Order, e1, e3⟩ : Zf) (andI v5_0 v6_0) = some r) else (Zf8 q x x1 e2 e4 (⟨(orI e2.Mask e4.Mask), (-1), e1, e3⟩ : Zf) (andI v5_0 v6_0) false = some r)) else (some (.tup [.agg [I 0, I 0, I 0, I 0], I (-1)], []) = some r)))) else (some (.tup [.agg [I 0, I 0, I 0, I 0], I (-1)], []) = some r))))))))))))) else (some (.tup [.agg [I 0, I 0, I 0, I 0], I (-1)], []) = some r)) else (some (.tup [.agg [I 0, I 0, I 0, I 0], I (-1)], []) = some r))) : Zhu q x x1 info stack n x2 x3 = some r := by
  unfold Zhu
  rw [Ev_eq Zmq.eq_1]
  by_cases q1 : x3 = true
  · rw [if_pos q1] at h
    by_cases q2 : x.Atom = 0
    · rw [if_pos q2] at h
      replace q2 := eq_true q2
      by_cases q3 : n < 2
      · rw [if_pos q3] at h
        refine Eq.trans ?_ h
        clear h
        simp +decide [*]
      · rw [if_neg q3] at h
        obtain ⟨q4, h⟩ := h
        obtain ⟨e1, q5, h⟩ := h
        have gq5 := ltOfGet q5
        have kq5 := getOf q5
        obtain ⟨q6, h⟩ := h
        obtain ⟨e2, q7, h⟩ := h
        have gq7 := ltOfGet q7
        have kq7 := getOf q7
        obtain ⟨q8, h⟩ := h
        obtain ⟨e3, q9, h⟩ := h
        have gq9 := ltOfGet q9
        have kq9 := getOf q9
        obtain ⟨q10, h⟩ := h
        obtain ⟨e4, q11, h⟩ := h
        have gq11 := ltOfGet q11
        have kq11 := getOf q11
        obtain ⟨v5_0, q12, h⟩ := h
        unfold Zb4 at q12
        try simp at q12
        obtain ⟨v6_0, q13, h⟩ := h
        unfold Zb4 at q13
        try simp at q13
        by_cases q14 : (andI e2.Mask e4.Mask) = 0
        · rw [if_pos q14] at h
          replace q14 := eq_true q14
          by_cases q15 : (andI v5_0 v6_0) = 0
          · rw [if_pos q15] at h
            replace q15 := eq_true q15
            refine Eq.trans ?_ h
            clear h
            simp +decide [*]
          · rw [if_neg q15] at h
            replace q15 := eq_false q15
            by_cases q16 : x.Kind = 4
            · rw [if_pos q16] at h
              replace q16 := eq_true q16
              have q17 : (x.Kind = 5) = False := eq_false (by intro hh; simp_all)
              refine Eq.trans ?_ h
              clear h
              simp +decide [*, Zf8]
            · rw [if_neg q16] at h
              replace q16 := eq_false q16
              by_cases q18 : x.Order = 0
              · rw [if_pos q18] at h
                replace q18 := eq_true q18
                by_cases q19 : x.Kind = 5
                · rw [if_pos q19] at h
                  replace q19 := eq_true q19
                  refine Eq.trans ?_ h
                  clear h
                  simp +decide [*, Zhv]
                · rw [if_neg q19] at h
                  replace q19 := eq_false q19
                  refine Eq.trans ?_ h
                  clear h
                  simp +decide [*, Zf8]
              · rw [if_neg q18] at h
                replace q18 := eq_false q18
                refine Eq.trans ?_ h
                clear h
                simp +decide [*]
        · rw [if_neg q14] at h
          replace q14 := eq_false q14
          refine Eq.trans ?_ h
          clear h
          simp +decide [*]
    · rw [if_neg q2] at h
      replace q2 := eq_false q2
      refine Eq.trans ?_ h
      clear h
      simp +decide [*]
  · rw [if_neg q1] at h
    refine Eq.trans ?_ h
    clear h
    simp +decide [*]
theorem Z9j (x : Zb) (x1 : Zc) (x2 : Zf) (a : Zf) (b : Zf) (y : Zf) (v : Int) (r : AV × List Blk) (h : (if x1.Kind = 4 then (∃ (v1_0 : Bool), Ze7 v x1.Order = some (Bo v1_0, []) ∧ (if v1_0 = true then (if a.Order = x1.Order then (if b.Order = x1.Order then (some (.tup [.agg [I y.Mask, I x1.Order, I y.Left, I y.Right], I 2], []) = some r) else (some (.tup [.agg [I 0, I 0, I 0, I 0], I (-1)], []) = some r)) else (some (.tup [.agg [I 0, I 0, I 0, I 0], I (-1)], []) = some r)) else (some (.tup [.agg [I 0, I 0, I 0, I 0], I (-1)], []) = some r))) else (some (.tup [.agg (y.c.map .t), I 2], []) = some r))) : Zhv x x1 x2 a b y v = some r := by
  unfold Zhv
  rw [Ev_eq Zkn.eq_1]
  simp only [Ze7, mpl, dfs] at h
  try simp only [itb] at h
  try simp only [itf, List.getElem?_eq_some_iff, kk] at h
  rcases h with ⟨q1, v1_0, q2, (⟨q3, (⟨q4, (⟨q5, h⟩ | ⟨q5, h⟩)⟩ | ⟨q4, h⟩)⟩ | ⟨q3, h⟩)⟩ | ⟨q1, h⟩
  all_goals (refine Eq.trans ?_ h; clear h; simp +decide [*, kk, Zqd])
theorem Zrs (x : Zb) (x1 : Zc) (x2 : Zf) (a : Zf) (b : Zf) (y : Zf) (v : Int) (x3 : Bool) (r : AV × List Blk) (h : (if x1.Kind = 4 then (∃ (v1_0 : Bool), Ze7 v x1.Order = some (Bo v1_0, []) ∧ (if v1_0 = true then (if a.Order = x1.Order then (if b.Order = x1.Order then (some (.tup [.agg [I y.Mask, I x1.Order, I y.Left, I y.Right], I 2], []) = some r) else (some (.tup [.agg [I 0, I 0, I 0, I 0], I (-1)], []) = some r)) else (some (.tup [.agg [I 0, I 0, I 0, I 0], I (-1)], []) = some r)) else (some (.tup [.agg [I 0, I 0, I 0, I 0], I (-1)], []) = some r))) else (some (.tup [.agg (y.c.map .t), I 2], []) = some r))) : Zf8 x x1 x2 a b y v x3 = some r := by
  unfold Zf8
  rw [Ev_eq Zkn.eq_1]
  simp only [Ze7, mpl, dfs] at h
  try simp only [itb] at h
  try simp only [itf, List.getElem?_eq_some_iff, kk] at h
  rcases h with ⟨q1, v1_0, q2, (⟨q3, (⟨q4, (⟨q5, h⟩ | ⟨q5, h⟩)⟩ | ⟨q4, h⟩)⟩ | ⟨q3, h⟩)⟩ | ⟨q1, h⟩
  all_goals (refine Eq.trans ?_ h; clear h; simp +decide [*, kk, Zqd])
theorem Zed (a : Zb) (a1 : Zc) (a2 : List Zf) (a3 : List Int) (r : AV × List Blk) (h : (if a1.Kind = 1 then (∃ (v1_0 : Bool), Zx a1.Atom 0 (w ((a.Atoms.length : Int) - 1)) = some (Bo v1_0, []) ∧ (if v1_0 = true then (if a1.Order = 0 then (¬ a1.Atom < 0 ∧ (0 ≤ a1.Atom ∧ (∃ (e2 : Atom), a.Atoms[a1.Atom.toNat]? = some e2 ∧ (∃ (e3 : Int), e2.Vars[0]? = some e3 ∧ (some (.tup [.agg [I (shlI 1 a1.Atom), I e3, I (-1), I (-1)], I 0], []) = some r))))) else (some (.tup [.agg [I 0, I 0, I 0, I 0], I (-1)], []) = some r)) else (some (.tup [.agg [I 0, I 0, I 0, I 0], I (-1)], []) = some r))) else (if a1.Kind = 2 then (if a1.Atom = 0 then (if (a3.length : Int) < 1 then (some (.tup [.agg [I 0, I 0, I 0, I 0], I (-1)], []) = some r) else (0 ≤ (w ((a3.length : Int) - 1)) ∧ (∃ (e4 : Int), a3[(w ((a3.length : Int) - 1)).toNat]? = some e4 ∧ (0 ≤ e4 ∧ (∃ (e5 : Zf), a2[e4.toNat]? = some e5 ∧ (if e5.Order = a1.Order then (some (.tup [.agg [I 0, I 0, I 0, I 0], I (-1)], []) = some r) else (∃ (v6_0 : Int), Zb4 a e5.Mask = some (I v6_0, []) ∧ (∃ (v7_0 : Bool), Ze7 v6_0 a1.Order = some (Bo v7_0, []) ∧ (if v7_0 = true then (some (.tup [.agg [I e5.Mask, I a1.Order, I e4, I (-1)], I 1], []) = some r) else (some (.tup [.agg [I 0, I 0, I 0, I 0], I (-1)], []) = some r)))))))))) else (some (.tup [.agg [I 0, I 0, I 0, I 0], I (-1)], []) = some r)) else (if a1.Kind = 3 then (Zhu a a1 (⟨0, 0, 0, 0⟩ : Zf) a2 a3 (a3.length : Int) a1.Kind true = some r) else (if a1.Kind = 4 then (Zhu a a1 (⟨0, 0, 0, 0⟩ : Zf) a2 a3 (a3.length : Int) a1.Kind true = some r) else (if a1.Kind = 5 then (if a1.Atom = 0 then (if (a3.length : Int) < 2 then (some (.tup [.agg [I 0, I 0, I 0, I 0], I (-1)], []) = some r) else (0 ≤ (w ((a3.length : Int) - 2)) ∧ (∃ (e8 : Int), a3[(w ((a3.length : Int) - 2)).toNat]? = some e8 ∧ (0 ≤ e8 ∧ (∃ (e9 : Zf), a2[e8.toNat]? = some e9 ∧ (0 ≤ (w ((a3.length : Int) - 1)) ∧ (∃ (e10 : Int), a3[(w ((a3.length : Int) - 1)).toNat]? = some e10 ∧ (0 ≤ e10 ∧ (∃ (e11 : Zf), a2[e10.toNat]? = some e11 ∧ (∃ (v12_0 : Int), Zb4 a e9.Mask = some (I v12_0, []) ∧ (∃ (v13_0 : Int), Zb4 a e11.Mask = some (I v13_0, []) ∧ (if (andI e9.Mask e11.Mask) = 0 then (if (andI v12_0 v13_0) = 0 then (some (.tup [.agg [I 0, I 0, I 0, I 0], I (-1)], []) = some r) else (if a1.Order = 0 then (Zhv a a1 (⟨0, 0, 0, 0⟩ : Zf) e9 e11 (⟨(orI e9.Mask e11.Mask), e9.Order, e8, e10⟩ : Zf) (andI v12_0 v13_0) = some r) else (some (.tup [.agg [I 0, I 0, I 0, I 0], I (-1)], []) = some r))) else (some (.tup [.agg [I 0, I 0, I 0, I 0], I (-1)], []) = some r))))))))))))) else (some (.tup [.agg [I 0, I 0, I 0, I 0], I (-1)], []) = some r)) else (some (.tup [.agg [I 0, I 0, I 0, I 0], I (-1)], []) = some r))))))) : Zf7 a a1 a2 a3 = some r := by
  unfold Zf7
  refine run Z6e rfl ?_
  simp only [Zx, Zb4, Ze7, Zb.c_def, mpl, dfs] at h
  try simp only [itb] at h
  try simp only [itf, List.getElem?_eq_some_iff, kk] at h
  rcases h with ⟨q1, v1_0, q2, (⟨q3, (⟨q4, q5, q6, e2, ⟨g7, q7⟩, e3, ⟨g8, q8⟩, h⟩ | ⟨q4, h⟩)⟩ | ⟨q3, h⟩)⟩ | ⟨q1, (⟨q9, (⟨q10, (⟨q11, h⟩ | ⟨q11, q12, e4, ⟨g13, q13⟩, q14, e5, ⟨g15, q15⟩, (⟨q16, h⟩ | ⟨q16, v6_0, q17, v7_0, q18, (⟨q19, h⟩ | ⟨q19, h⟩)⟩)⟩)⟩ | ⟨q10, h⟩)⟩ | ⟨q9, (⟨q20, h⟩ | ⟨q20, (⟨q21, h⟩ | ⟨q21, (⟨q22, (⟨q23, (⟨q24, h⟩ | ⟨q24, q25, e8, ⟨g26, q26⟩, q27, e9, ⟨g28, q28⟩, q29, e10, ⟨g30, q30⟩, q31, e11, ⟨g32, q32⟩, v12_0, q33, v13_0, q34, (⟨q35, (⟨q36, h⟩ | ⟨q36, (⟨q37, h⟩ | ⟨q37, h⟩)⟩)⟩ | ⟨q35, h⟩)⟩)⟩ | ⟨q23, h⟩)⟩ | ⟨q22, h⟩)⟩)⟩)⟩)⟩
  all_goals (refine Eq.trans ?_ h; clear h; simp +decide [*, kk, Zv3, Zhu, Zmq, Zhv])
theorem Zyy (q : Zb) (p : Plan) (info : List Zf) (stack : List Int) (i : Int) (r : AV × List Blk) (h : (if i < (p.Steps.length : Int) then (0 ≤ i ∧ (∃ (e1 : Zc), p.Steps[i.toNat]? = some e1 ∧ (∃ (v2_0 : Zf) (v2_1 : Int), Zf7 q e1 info stack = some (.tup [.agg (v2_0.c.map .t), I v2_1], []) ∧ (if v2_1 < 0 then (some (.tup [.own 0, Bo false], [.arr 138 4 true (([] : List Zf).map Zf.c)]) = some r) else (info.length + 1 ≤ 68719476736 ∧ (0 ≤ (w ((stack.length : Int) - v2_1)) ∧ ((w ((stack.length : Int) - v2_1)).toNat ≤ stack.length ∧ ((w ((stack.length : Int) - v2_1)).toNat ≤ 68719476736 ∧ ((w ((stack.length : Int) - v2_1)).toNat + 1 ≤ 68719476736 ∧ (Zhx q p (info ++ [v2_0]) ((stack.take ((w ((stack.length : Int) - v2_1)).toNat)) ++ [i]) (w (i + 1)) = some r)))))))))) else (if (stack.length : Int) = 1 then (some (.tup [.own 0, Bo true], [.arr 138 4 true (info.map Zf.c)]) = some r) else (some (.tup [.own 0, Bo false], [.arr 138 4 true (([] : List Zf).map Zf.c)]) = some r)))) : Zhx q p info stack i = some r := by
  unfold Zhx
  rw [EvL_eq Zqe.eq_1]
  simp only [Zf7, Zc.c_def, Zb.c_def, Zf.c_def, mpl, dfs] at h
  try simp only [itb] at h
  try simp only [itf, List.getElem?_eq_some_iff, kk] at h
  rcases h with ⟨q1, q2, e1, ⟨g3, q3⟩, v2_0, v2_1, q4, (⟨q5, h⟩ | ⟨q5, q6, q7, q8, q9, q10, h⟩)⟩ | ⟨q1, (⟨q11, h⟩ | ⟨q11, h⟩)⟩
  all_goals (refine Eq.trans ?_ h; clear h; simp +decide [*, kk, Zhx, Zqf])
theorem Z9k (a : Zb) (a1 : Plan) (r : AV × List Blk) (h : (∃ (v1_0 : Bool), Zdp a = some (Bo v1_0, []) ∧ (if v1_0 = true then (∃ (v2_0 : Bool), Zx (a1.Steps.length : Int) 1 14 = some (Bo v2_0, []) ∧ (if v2_0 = true then (Zhx a a1 ([] : List Zf) ([] : List Int) 0 = some r) else (some (.tup [.own 0, Bo false], [.arr 138 4 true (([] : List Zf).map Zf.c)]) = some r))) else (some (.tup [.own 0, Bo false], [.arr 138 4 true (([] : List Zf).map Zf.c)]) = some r)))) : Zhw a a1 = some r := by
  unfold Zhw
  refine run Z6f rfl ?_
  simp only [Zdp, Zx, Zb.c_def, mpl, dfs] at h
  try simp only [itb] at h
  try simp only [itf, List.getElem?_eq_some_iff, kk] at h
  rcases h with ⟨v1_0, q1, (⟨q2, v2_0, q3, (⟨q4, h⟩ | ⟨q4, h⟩)⟩ | ⟨q2, h⟩)⟩
  all_goals (refine Eq.trans ?_ h; clear h; simp +decide [*, kk, Zv4, Zhx])
theorem Z9l (a : Zb) (a1 : Plan) (r : AV × List Blk) (h : (∃ (v1_0 : List Zf) (v1_1 : Bool), Zhw a a1 = some (.tup [.own 0, Bo v1_1], [.arr 138 4 true (v1_0.map Zf.c)]) ∧ (if v1_1 = true then (0 ≤ (w ((v1_0.length : Int) - 1)) ∧ (∃ (e2 : Zf), v1_0[(w ((v1_0.length : Int) - 1)).toNat]? = some e2 ∧ (some (I e2.Mask, []) = some r))) else (some (I 0, []) = some r)))) : Zko a a1 = some r := by
  unfold Zko
  refine run Z6g rfl ?_
  simp only [Zhw, Plan.c_def, Zb.c_def, mpl, dfs] at h
  try simp only [itb] at h
  try simp only [itf, List.getElem?_eq_some_iff, kk] at h
  rcases h with ⟨v1_0, v1_1, q1, (⟨q2, q3, e2, ⟨g4, q4⟩, h⟩ | ⟨q2, h⟩)⟩
  all_goals (refine Eq.trans ?_ h; clear h; simp +decide [*, kk, Zv5])
theorem Z9m (a : Zb) (a1 : Region) (r : AV × List Blk) (h : (∃ (v1_0 : Bool), Ze6 a1.Box = some (Bo v1_0, []) ∧ (if v1_0 = true then (∃ (v2_0 : Int), Zdq a = some (I v2_0, []) ∧ (if (a1.Box.Low.length : Int) = (w (v2_0 + 1)) then (∃ (v3_0 : Int), Zko a a1.Plan = some (I v3_0, []) ∧ (if v3_0 = v2_0 then (if 0 < v2_0 then (∃ (v4_0 : Bool), Zx a1.Percent 100 1000 = some (Bo v4_0, []) ∧ (some (Bo v4_0, []) = some r)) else (some (Bo false, []) = some r)) else (some (Bo false, []) = some r))) else (some (Bo false, []) = some r))) else (some (Bo false, []) = some r)))) : Zkp a a1 = some r := by
  unfold Zkp
  refine run Z6h rfl ?_
  simp only [Ze6, Zdq, Zko, Zx, Box.c_def, Plan.c_def, Zb.c_def, mpl, dfs] at h
  try simp only [itb] at h
  try simp only [itf, List.getElem?_eq_some_iff, kk] at h
  rcases h with ⟨v1_0, q1, (⟨q2, v2_0, q3, (⟨q4, v3_0, q5, (⟨q6, (⟨q7, v4_0, q8, h⟩ | ⟨q7, h⟩)⟩ | ⟨q6, h⟩)⟩ | ⟨q4, h⟩)⟩ | ⟨q2, h⟩)⟩
  all_goals (refine Eq.trans ?_ h; clear h; simp +decide [*, kk, Zv6])
theorem Zyz (q : Zb) (out : List Int) (full : Int) (m : Int) (r : AV × List Blk) (h : (if m ≤ full then (∃ (v1_0 : Bool), Zea q m = some (Bo v1_0, []) ∧ (if v1_0 = true then (out.length + 1 ≤ 68719476736 ∧ (Zf9 q (out ++ [m]) full (w (m + 1)) = some r)) else (Zf9 q out full (w (m + 1)) = some r))) else (some (.own 0, [.arr 3 1 true (out.map ic)]) = some r))) : Zf9 q out full m = some r := by
  unfold Zf9
  rw [EvL_eq Zqg.eq_1]
  simp only [Zea, Zb.c_def, mpl, dfs] at h
  try simp only [itb] at h
  try simp only [itf, List.getElem?_eq_some_iff, kk] at h
  rcases h with ⟨q1, v1_0, q2, (⟨q3, q4, h⟩ | ⟨q3, h⟩)⟩ | ⟨q1, h⟩
  all_goals (refine Eq.trans ?_ h; clear h; simp +decide [*, kk, Zf9, Zv7, Zqh])
theorem Z9n (a : Zb) (r : AV × List Blk) (h : (∃ (v1_0 : Int), Zdq a = some (I v1_0, []) ∧ (Zf9 a ([] : List Int) v1_0 1 = some r))) : Zkq a = some r := by
  unfold Zkq
  refine run Z6i rfl ?_
  simp only [Zdq, Zb.c_def, mpl, dfs] at h
  rcases h with ⟨v1_0, q1, h⟩
  all_goals (refine Eq.trans ?_ h; clear h; simp +decide [*, kk, Zv8, Zf9])
theorem Zy0 (q : Zb) (out : List Int) (mask : Int) (m : Int) (r : AV × List Blk) (h : (if m < mask then (if (andI m mask) = m then (∃ (v1_0 : Bool), Zea q m = some (Bo v1_0, []) ∧ (if v1_0 = true then (∃ (v2_0 : Bool), Zea q (w (mask - m)) = some (Bo v2_0, []) ∧ (if v2_0 = true then (out.length + 1 ≤ 68719476736 ∧ (Zdr q (out ++ [m]) mask (w (m + 1)) = some r)) else (Zdr q out mask (w (m + 1)) = some r))) else (Zdr q out mask (w (m + 1)) = some r))) else (Zdr q out mask (w (m + 1)) = some r)) else (some (.own 0, [.arr 3 1 true (out.map ic)]) = some r))) : Zdr q out mask m = some r := by
  unfold Zdr
  rw [EvL_eq Zqi.eq_1]
  simp only [Zea, Zb.c_def, mpl, dfs] at h
  try simp only [itb] at h
  try simp only [itf, List.getElem?_eq_some_iff, kk] at h
  rcases h with ⟨q1, (⟨q2, v1_0, q3, (⟨q4, v2_0, q5, (⟨q6, q7, h⟩ | ⟨q6, h⟩)⟩ | ⟨q4, h⟩)⟩ | ⟨q2, h⟩)⟩ | ⟨q1, h⟩
  all_goals (refine Eq.trans ?_ h; clear h; simp +decide [*, kk, Zdr, Zv9, Zqj])
theorem Z9o (a : Zb) (a1 : Int) (r : AV × List Blk) (h : (∃ (v1_0 : Bool), Zhr a a1 = some (Bo v1_0, []) ∧ (if v1_0 = true then (Zdr a ([] : List Int) a1 1 = some r) else (some (.own 0, [.arr 3 1 true (([] : List Int).map ic)]) = some r)))) : Zkr a a1 = some r := by
  unfold Zkr
  refine run Z6j rfl ?_
  simp only [Zhr, Zb.c_def, mpl, dfs] at h
  try simp only [itb] at h
  try simp only [itf, List.getElem?_eq_some_iff, kk] at h
  rcases h with ⟨v1_0, q1, (⟨q2, h⟩ | ⟨q2, h⟩)⟩
  all_goals (refine Eq.trans ?_ h; clear h; simp +decide [*, kk, Zwa, Zdr])
theorem Zy1 (out : List Int) (bits : Int) (v : Int) (r : AV × List Blk) (h : (if v < 4 then (¬ v < 0 ∧ (if (andI (shrI bits v) 1) = 1 then (out.length + 1 ≤ 68719476736 ∧ (Zga (out ++ [v]) bits (w (v + 1)) = some r)) else (Zga out bits (w (v + 1)) = some r))) else (some (.own 0, [.arr 3 1 true (out.map ic)]) = some r))) : Zga out bits v = some r := by
  unfold Zga
  rw [EvL_eq Zqk.eq_1]
  try simp only [itb] at h
  try simp only [itf, List.getElem?_eq_some_iff, kk] at h
  rcases h with ⟨q1, q2, (⟨q3, q4, h⟩ | ⟨q3, h⟩)⟩ | ⟨q1, h⟩
  all_goals (refine Eq.trans ?_ h; clear h; simp +decide [*, kk, Zga, Zwb, Zql])
theorem Z9p (a : Int) (r : AV × List Blk) (h : (Zga ([] : List Int) a 0 = some r)) : Zmr a = some r := by
  unfold Zmr
  refine run Z6k rfl ?_
  refine Eq.trans ?_ h; clear h; simp +decide [*, kk, Zwc, Zga]
theorem Z9q (a : Zb) (a1 : Int) (r : AV × List Blk) (h : (∃ (v1_0 : Bool), Zhp a a1 = some (Bo v1_0, []) ∧ (if v1_0 = true then (∃ (v2_0 : Int), Zb4 a a1 = some (I v2_0, []) ∧ (∃ (v3_0 : List Int), Zmr v2_0 = some (.own 0, [.arr 3 1 true (v3_0.map ic)]) ∧ (some (.own 0, [.arr 3 1 true (v3_0.map ic)]) = some r))) else (some (.own 0, [.arr 3 1 true (([] : List Int).map ic)]) = some r)))) : Ziv a a1 = some r := by
  unfold Ziv
  refine run Z6l rfl ?_
  simp only [Zhp, Zb4, Zmr, Zb.c_def, mpl, dfs] at h
  try simp only [itb] at h
  try simp only [itf, List.getElem?_eq_some_iff, kk] at h
  rcases h with ⟨v1_0, q1, (⟨q2, v2_0, q3, v3_0, q4, h⟩ | ⟨q2, h⟩)⟩
  all_goals (refine Eq.trans ?_ h; clear h; simp +decide [*, kk, Zwd])
theorem Zy2 (out : List Int) (x : List Int) (y : List Int) (i : Int) (r : AV × List Blk) (h : (if i < (x.length : Int) then (0 ≤ i ∧ (∃ (e1 : Int), x[i.toNat]? = some e1 ∧ (∃ (v2_0 : Bool), Zhm y e1 = some (Bo v2_0, []) ∧ (if v2_0 = true then (out.length + 1 ≤ 68719476736 ∧ (Zgc (out ++ [e1]) x y (w (i + 1)) = some r)) else (Zgc out x y (w (i + 1)) = some r))))) else (some (.own 0, [.arr 3 1 true (out.map ic)]) = some r))) : Zgc out x y i = some r := by
  unfold Zgc
  rw [EvL_eq Zqm.eq_1]
  simp only [Zhm, mpl, dfs] at h
  try simp only [itb] at h
  try simp only [itf, List.getElem?_eq_some_iff, kk] at h
  rcases h with ⟨q1, q2, e1, ⟨g3, q3⟩, v2_0, q4, (⟨q5, q6, h⟩ | ⟨q5, h⟩)⟩ | ⟨q1, h⟩
  all_goals (refine Eq.trans ?_ h; clear h; simp +decide [*, kk, Zgc, Zwe, Zqn])
theorem Z9r (a : Zb) (a1 : Int) (a2 : Int) (r : AV × List Blk) (h : (∃ (v1_0 : List Int), Ziv a a1 = some (.own 0, [.arr 3 1 true (v1_0.map ic)]) ∧ (∃ (v2_0 : List Int), Ziv a a2 = some (.own 0, [.arr 3 1 true (v2_0.map ic)]) ∧ (Zgc ([] : List Int) v1_0 v2_0 0 = some r)))) : Zgb a a1 a2 = some r := by
  unfold Zgb
  refine run Z6m rfl ?_
  simp only [Ziv, Zb.c_def, mpl, dfs] at h
  rcases h with ⟨v1_0, q1, v2_0, q2, h⟩
  all_goals (refine Eq.trans ?_ h; clear h; simp +decide [*, kk, Zwf, Zgc])
end Go.Proofs.YtbapkgocloaaeaaGreat
