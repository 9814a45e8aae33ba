/-
  Parts of the proofs for this seat: FA L19 IK L22.
-/
import Derived.Test.YtbapkgocloaaeaaGreatP14
set_option linter.unusedSimpArgs false
set_option linter.unusedVariables false
set_option maxRecDepth 100000
set_option maxHeartbeats 4000000
/- part: FA -/
namespace Go.Proofs.YtbapkgocloaaeaaGreat
open Go.AM
theorem l_toIntS (xs : List Int) (h : SmA xs) (fr : List Fr) : ∀ i, i ≤ xs.length → EvL C fr [0, 3, 4] Znp ⟨[(0, L 1 (xs.map ic)), (3, .own 0), (4, I i)], [[]], [.arr Zt 1 true (fill ic [.int .i64 0] xs i)]⟩ =
    EvX C fr (.x 0) ⟨[(0, L 1 (xs.map ic)), (3, .own 0), (4, I xs.length), (11, Bo false)], [[]], [.arr Zt 1 true (xs.map ic)]⟩ := by
  have hl : xs.length ≤ 4294967296 := h
  refine down xs.length ?_ ?_
  · rw [EvL_eq Znp.eq_1]
    simp [fill_all]
  · intro i hi ih
    rw [EvL_eq Znp.eq_1, ← ih]
    have h1 := fill_set (f := ic) (z := [.int .i64 0]) hi
    have h3 := fill_len (f := ic) (z := [.int .i64 0]) (Nat.le_of_lt hi)
    have h4 : IntKind.wrap .i64 ((i : Int) + 1) = (i : Int) + 1 := wrap64 (by omega) (by omega)
    simp at h1
    simp [hi, h3, h4, h1]
theorem Zsy (xs : List Int) (h : SmA xs) : C Z31 [L 1 (xs.map ic)] [] = some (.own 0, [.arr Zt 1 true (xs.map ic)]) := by
  refine run Zbe6 rfl ?_
  have hl : xs.length ≤ 4294967296 := h
  have h1 : ∀ b, b ≤ 4096 → xs.length * b ≤ room := fun b hb => Nat.le_trans (Nat.mul_le_mul hl hb) (by decide)
  have h2 : (xs.length : Int) ≤ 140737488355328 := by omega
  have h3 := fun fr => l_toIntS xs h fr 0 (Nat.zero_le _)
  simp [fill_zero] at h3
  simp [Z19, h1, h2, h3]
theorem l_eqIntS (xs ys : List Int) (h : SmA xs) (hl : ys.length = xs.length) (fr : List Fr) : ∀ i, i ≤ xs.length → EvL C fr [0, 1, 5] Zno ⟨[(0, L 1 (xs.map ic)), (1, L 1 (ys.map ic)), (5, I i)], [[]], []⟩ =
    if xs.drop i = ys.drop i then EvX C fr (.x 0) ⟨[(0, L 1 (xs.map ic)), (1, L 1 (ys.map ic)), (5, I xs.length), (14, Bo false)], [[]], []⟩ else EvX C fr .r ⟨[(4, Bo false)], [[]], []⟩ := by
  have hm : xs.length ≤ 4294967296 := h
  refine down xs.length ?_ ?_
  · rw [EvL_eq Zno.eq_1]
    simp [hl, List.drop_eq_nil_of_le]
  · intro i hi ih
    have hi2 : i < ys.length := by omega
    have h4 : IntKind.wrap .i64 ((i : Int) + 1) = (i : Int) + 1 := wrap64 (by omega) (by omega)
    rw [EvL_eq Zno.eq_1]
    simp +decide [hi, hi2, h4]
    simp at ih
    simp only [drop_eq_iff hi hi2, ih]
    split <;> first | (simp_all; done) | grind
theorem Zsz (xs ys : List Int) (h : SmA xs) : C Z3p [L 1 (xs.map ic), L 1 (ys.map ic)] [] = some (Bo (decide (xs = ys)), []) := by
  refine run Zbeu rfl ?_
  by_cases hl : ys.length = xs.length
  · have h3 := fun fr => l_eqIntS xs ys h hl fr 0 (Nat.zero_le _)
    simp at h3
    simp [Zst, h3, hl]
    split <;> simp_all
  · have h1 : xs ≠ ys := fun h => hl (by rw [h])
    have h2 : ¬ ((xs.length : Int) = ys.length) := by omega
    simp [Zst, h1, h2]
@[simp] theorem Z2x (es : List (List T)) (left : Int) : C Z4f [L 1 es, I left] [] = some (I (sz1 es.length left), []) := by
  refine run Zbfk rfl ?_
  simp [Z2k, sz1]
  split <;> simp_all
theorem c_toAtom (x0 : ByteArray) (x1 : List Int) (h1 : SmA x1) : C Z4j [.agg [.t (.str x0), .t (tI x1)]] [] = some (.agg [.t (.str x0), .own 0], [.arr Zt 1 true (x1.map ic)]) := by
  refine run Zbfo rfl ?_
  simp [Z2o, Zsy _ h1]
theorem c_eqAtom (x0 : ByteArray) (x1 : List Int) (y0 : ByteArray) (y1 : List Int) (h1 : SmA x1) : C Z4m [.agg [.t (.str x0), .t (tI x1)], .agg [.t (.str y0), .t (tI y1)]] [] = some (Bo (decide (x0 = y0 ∧ x1 = y1)), []) := by
  refine run Zbfr rfl ?_
  simp [Z2q, Zsz _ _ h1]
  repeat' split
  all_goals first | (simp_all; done) | grind
theorem c_szAtom (x0 : ByteArray) (x1 : List Int) (left : Int)  : C Z4h [.agg [.t (.str x0), .t (tI x1)], I left] [] = some (I (Atom.sz ⟨x0, x1⟩ left), []) := by
  refine run Zbfm rfl ?_
  simp [Z2m, Z2x, Atom.sz, andSz, sz1]
  repeat' split
  all_goals first | (simp_all; done) | grind
theorem Zbfy (xs : List Atom) (h : SmL Atom.small xs) (fr : List Fr) : ∀ i, i ≤ xs.length → EvL C fr [0, 3, 4] Znq ⟨[(0, L 2 (xs.map Atom.c)), (3, .own 0), (4, I i)], [[]], [.arr Zjf 2 true (fill Atom.c [.str ⟨#[]⟩, .lst 1 []] xs i)]⟩ =
    EvX C fr (.x 0) ⟨[(0, L 2 (xs.map Atom.c)), (3, .own 0), (4, I xs.length), (11, Bo false)], [[]], [.arr Zjf 2 true (xs.map Atom.c)]⟩ := by
  have hl : xs.length ≤ 4294967296 := h.1
  refine down xs.length ?_ ?_
  · rw [EvL_eq Znq.eq_1]
    simp [fill_all]
  · intro i hi ih
    rw [EvL_eq Znq.eq_1, ← ih]
    have h1 := fill_set (f := Atom.c) (z := [.str ⟨#[]⟩, .lst 1 []]) hi
    have h3 := fill_len (f := Atom.c) (z := [.str ⟨#[]⟩, .lst 1 []]) (Nat.le_of_lt hi)
    have h4 : IntKind.wrap .i64 ((i : Int) + 1) = (i : Int) + 1 := wrap64 (by omega) (by omega)
    simp at h1
    simp [hi, c_toAtom _ _ (h.2 _ (List.getElem_mem hi)).2, h3, h4, h1]
theorem Zbfz (xs : List Atom) (h : SmL Atom.small xs) : C Z37 [L 2 (xs.map Atom.c)] [] = some (.own 0, [.arr Zjf 2 true (xs.map Atom.c)]) := by
  refine run Zbfc rfl ?_
  have hl : xs.length ≤ 4294967296 := h.1
  have h1 : ∀ b, b ≤ 4096 → xs.length * b ≤ room := fun b hb => Nat.le_trans (Nat.mul_le_mul hl hb) (by decide)
  have h2 : (xs.length : Int) ≤ 140737488355328 := by omega
  have h3 := fun fr => Zbfy xs h fr 0 (Nat.zero_le _)
  simp [fill_zero] at h3
  simp [Z2f, h1, h2, h3]
theorem Zbf0 (xs ys : List Atom) (h : SmL Atom.small xs) (hl : ys.length = xs.length) (fr : List Fr) : ∀ i, i ≤ xs.length → EvL C fr [0, 1, 5] Zns ⟨[(0, L 2 (xs.map Atom.c)), (1, L 2 (ys.map Atom.c)), (5, I i)], [[]], []⟩ =
    if xs.drop i = ys.drop i then EvX C fr (.x 0) ⟨[(0, L 2 (xs.map Atom.c)), (1, L 2 (ys.map Atom.c)), (5, I xs.length), (14, Bo false)], [[]], []⟩ else EvX C fr .r ⟨[(4, Bo false)], [[]], []⟩ := by
  have hm : xs.length ≤ 4294967296 := h.1
  refine down xs.length ?_ ?_
  · rw [EvL_eq Zns.eq_1]
    simp [hl, List.drop_eq_nil_of_le]
  · intro i hi ih
    have hi2 : i < ys.length := by omega
    have h4 : IntKind.wrap .i64 ((i : Int) + 1) = (i : Int) + 1 := wrap64 (by omega) (by omega)
    rw [EvL_eq Zns.eq_1]
    simp +decide [hi, hi2, c_eqAtom _ _ _ _ (h.2 _ (List.getElem_mem hi)).2, h4]
    simp at ih
    simp only [drop_eq_iff hi hi2, ih, Atom.ext_iff]
    split <;> first | (simp_all; done) | grind
theorem Zbf1 (xs ys : List Atom) (h : SmL Atom.small xs) : C Z4a [L 2 (xs.map Atom.c), L 2 (ys.map Atom.c)] [] = some (Bo (decide (xs = ys)), []) := by
  refine run Zbff rfl ?_
  by_cases hl : ys.length = xs.length
  · have h3 := fun fr => Zbf0 xs ys h hl fr 0 (Nat.zero_le _)
    simp at h3
    simp [Zsu, h3, hl]
    split <;> simp_all
  · have h1 : xs ≠ ys := fun h => hl (by rw [h])
    have h2 : ¬ ((xs.length : Int) = ys.length) := by omega
    simp [Zsu, h1, h2]
theorem Zbf2 (xs : List Atom) (h : OkL Atom.okay xs) (fr : List Fr) : ∀ i, i ≤ xs.length → ∀ left : Int,
    (EvL C fr [0, 1, 5] Zia ⟨[(0, L 2 (xs.map Atom.c)), (1, I left), (5, I i)], [[]], []⟩ = EvX C fr .r ⟨[(4, I (-1))], [[]], []⟩ ∧ szFold Atom.sz (xs.drop i) left = -1) ∨
    EvL C fr [0, 1, 5] Zia ⟨[(0, L 2 (xs.map Atom.c)), (1, I left), (5, I i)], [[]], []⟩ = EvX C fr (.x 0) ⟨[(0, L 2 (xs.map Atom.c)), (1, I (szFold Atom.sz (xs.drop i) left)), (5, I xs.length), (15, Bo false)], [[]], []⟩ := by
  have hm : maxLen ≤ 9223372036854775807 := by decide
  have hl := h.1
  refine down xs.length ?_ ?_
  · intro left
    right
    rw [EvL_eq Zia.eq_1]
    simp [List.drop_eq_nil_of_le, szFold]
  · intro i hi ih left
    have h4 : IntKind.wrap .i64 ((i : Int) + 1) = (i : Int) + 1 := wrap64 (by omega) (by omega)
    have e : EvL C fr [0, 1, 5] Zia ⟨[(0, L 2 (xs.map Atom.c)), (1, I left), (5, I i)], [[]], []⟩ = if Atom.sz xs[i] left < 0 then EvX C fr .r ⟨[(4, I (-1))], [[]], []⟩ else EvL C fr [0, 1, 5] Zia ⟨[(0, L 2 (xs.map Atom.c)), (1, I (Atom.sz xs[i] left)), (5, I ((i + 1 : Nat) : Int))], [[]], []⟩ := by
      rw [EvL_eq Zia.eq_1]
      simp [hi, c_szAtom, h4]
    rw [e, List.drop_eq_getElem_cons hi, szFold]
    split
    · exact .inl ⟨rfl, rfl⟩
    · exact ih _
theorem Zbf3 (xs : List Atom) (left : Int) (h : OkL Atom.okay xs) : C Z34 [L 2 (xs.map Atom.c), I left] [] = some (I (szL Atom.sz xs left), []) := by
  refine run Zbe9 rfl ?_
  have h3 := fun fr l => Zbf2 xs h fr 0 (Nat.zero_le _) l
  simp at h3
  simp [Z2c, szL, andSz, sz1]
  split
  · simp_all
  · rcases h3 [.blk 0, .seq _, .fin _ _] (IntKind.wrap .i64 (left - xs.length)) with ⟨h5, h6⟩ | h5
    · rw [h5]; simp [h6]
    · rw [h5]; simp
theorem Z2y (x0 : Int) (x1 : List Atom) (h1 : SmL Atom.small x1) : C Z3n [.agg [I x0, .t (.lst 2 (x1.map Atom.c))]] [] = some (.agg [I x0, .own 0], [.arr Zjf 2 true (x1.map Atom.c)]) := by
  refine run Zbes rfl ?_
  simp [Z1w, Zbfz _ h1]
theorem Z2z (x0 : Int) (x1 : List Atom) (y0 : Int) (y1 : List Atom) (h1 : SmL Atom.small x1) : C Z3r [.agg [I x0, .t (.lst 2 (x1.map Atom.c))], .agg [I y0, .t (.lst 2 (y1.map Atom.c))]] [] = some (Bo (decide (x0 = y0 ∧ x1 = y1)), []) := by
  refine run Zbew rfl ?_
  simp [Z1z, Zbf1 _ _ h1]
  repeat' split
  all_goals first | (simp_all; done) | grind
theorem Z20 (x0 : Int) (x1 : List Atom) (left : Int) (h1 : OkL Atom.okay x1) : C Z3k [.agg [I x0, .t (.lst 2 (x1.map Atom.c))], I left] [] = some (I (Zb.sz ⟨x0, x1⟩ left), []) := by
  refine run Zbep rfl ?_
  simp [Z1t, Zbf3 _ _ h1, Zb.sz, andSz, sz1]
  repeat' split
  all_goals first | (simp_all; done) | grind
theorem c_toBox (x0 : List Int) (x1 : List Int) (h0 : SmA x0) (h1 : SmA x1) : C Z30 [.agg [.t (tI x0), .t (tI x1)]] [] = some (.agg [.own 0, .own 1], [.arr Zt 1 true (x0.map ic), .arr Zt 1 true (x1.map ic)]) := by
  refine run Zbe5 rfl ?_
  simp [Z18, Zsy _ h0, Zsy _ h1]
theorem c_eqBox (x0 : List Int) (x1 : List Int) (y0 : List Int) (y1 : List Int) (h0 : SmA x0) (h1 : SmA x1) : C Z32 [.agg [.t (tI x0), .t (tI x1)], .agg [.t (tI y0), .t (tI y1)]] [] = some (Bo (decide (x0 = y0 ∧ x1 = y1)), []) := by
  refine run Zbe7 rfl ?_
  simp [Z2a, Zsz _ _ h0, Zsz _ _ h1]
  repeat' split
  all_goals first | (simp_all; done) | grind
theorem c_szBox (x0 : List Int) (x1 : List Int) (left : Int)  : C Z3z [.agg [.t (tI x0), .t (tI x1)], I left] [] = some (I (Box.sz ⟨x0, x1⟩ left), []) := by
  refine run Zbe4 rfl ?_
  simp [Z17, Z2x, Box.sz, andSz, sz1]
  repeat' split
  all_goals first | (simp_all; done) | grind
theorem Zbf4 (x0 : Int) (x1 : Int)  : C Z4r [.agg [I x0, I x1]] [] = some (.agg [I x0, I x1], []) := by
  refine run Zbfw rfl ?_
  simp [Z2v]
theorem Zbf5 (x0 : Int) (x1 : Int) (y0 : Int) (y1 : Int)  : C Z4s [.agg [I x0, I x1], .agg [I y0, I y1]] [] = some (Bo (decide (x0 = y0 ∧ x1 = y1)), []) := by
  refine run Zbfx rfl ?_
  simp [Z2w]
  repeat' split
  all_goals first | (simp_all; done) | grind
theorem Zbf6 (xs : List Zg) (h : SmA xs) (fr : List Fr) : ∀ i, i ≤ xs.length → EvL C fr [0, 3, 4] Znw ⟨[(0, L 2 (xs.map Zg.c)), (3, .own 0), (4, I i)], [[]], [.arr Zeg 2 true (fill Zg.c [.int .i64 0, .int .i64 0] xs i)]⟩ =
    EvX C fr (.x 0) ⟨[(0, L 2 (xs.map Zg.c)), (3, .own 0), (4, I xs.length), (11, Bo false)], [[]], [.arr Zeg 2 true (xs.map Zg.c)]⟩ := by
  have hl : xs.length ≤ 4294967296 := h
  refine down xs.length ?_ ?_
  · rw [EvL_eq Znw.eq_1]
    simp [fill_all]
  · intro i hi ih
    rw [EvL_eq Znw.eq_1, ← ih]
    have h1 := fill_set (f := Zg.c) (z := [.int .i64 0, .int .i64 0]) hi
    have h3 := fill_len (f := Zg.c) (z := [.int .i64 0, .int .i64 0]) (Nat.le_of_lt hi)
    have h4 : IntKind.wrap .i64 ((i : Int) + 1) = (i : Int) + 1 := wrap64 (by omega) (by omega)
    simp at h1
    simp [hi, Zbf4, h3, h4, h1]
theorem Zbf7 (xs : List Zg) (h : SmA xs) : C Z4i [L 2 (xs.map Zg.c)] [] = some (.own 0, [.arr Zeg 2 true (xs.map Zg.c)]) := by
  refine run Zbfn rfl ?_
  have hl : xs.length ≤ 4294967296 := h
  have h1 : ∀ b, b ≤ 4096 → xs.length * b ≤ room := fun b hb => Nat.le_trans (Nat.mul_le_mul hl hb) (by decide)
  have h2 : (xs.length : Int) ≤ 140737488355328 := by omega
  have h3 := fun fr => Zbf6 xs h fr 0 (Nat.zero_le _)
  simp [fill_zero] at h3
  simp [Z2n, h1, h2, h3]
theorem Zbf8 (xs ys : List Zg) (h : SmA xs) (hl : ys.length = xs.length) (fr : List Fr) : ∀ i, i ≤ xs.length → EvL C fr [0, 1, 5] Znx ⟨[(0, L 2 (xs.map Zg.c)), (1, L 2 (ys.map Zg.c)), (5, I i)], [[]], []⟩ =
    if xs.drop i = ys.drop i then EvX C fr (.x 0) ⟨[(0, L 2 (xs.map Zg.c)), (1, L 2 (ys.map Zg.c)), (5, I xs.length), (14, Bo false)], [[]], []⟩ else EvX C fr .r ⟨[(4, Bo false)], [[]], []⟩ := by
  have hm : xs.length ≤ 4294967296 := h
  refine down xs.length ?_ ?_
  · rw [EvL_eq Znx.eq_1]
    simp [hl, List.drop_eq_nil_of_le]
  · intro i hi ih
    have hi2 : i < ys.length := by omega
    have h4 : IntKind.wrap .i64 ((i : Int) + 1) = (i : Int) + 1 := wrap64 (by omega) (by omega)
    rw [EvL_eq Znx.eq_1]
    simp +decide [hi, hi2, Zbf5 _ _ _ _ , h4]
    simp at ih
    simp only [drop_eq_iff hi hi2, ih, Zg.ext_iff]
    split <;> first | (simp_all; done) | grind
theorem Zbf9 (xs ys : List Zg) (h : SmA xs) : C Z4l [L 2 (xs.map Zg.c), L 2 (ys.map Zg.c)] [] = some (Bo (decide (xs = ys)), []) := by
  refine run Zbfq rfl ?_
  by_cases hl : ys.length = xs.length
  · have h3 := fun fr => Zbf8 xs ys h hl fr 0 (Nat.zero_le _)
    simp at h3
    simp [Zsx, h3, hl]
    split <;> simp_all
  · have h1 : xs ≠ ys := fun h => hl (by rw [h])
    have h2 : ¬ ((xs.length : Int) = ys.length) := by omega
    simp [Zsx, h1, h2]
@[simp] theorem Zbga (es : List (List T)) (left : Int) : C Z4g [L 2 es, I left] [] = some (I (sz1 es.length left), []) := by
  refine run Zbfl rfl ?_
  simp [Z2l, sz1]
  split <;> simp_all
theorem Zlx (x0 : Int) (x1 : Int) (x2 : Int) (x3 : Int) (x4 : Int) (x5 : List Zg) (h5 : SmA x5) : C Z36 [.agg [I x0, I x1, I x2, I x3, I x4, .t (.lst 2 (x5.map Zg.c))]] [] = some (.agg [I x0, I x1, I x2, I x3, I x4, .own 0], [.arr Zeg 2 true (x5.map Zg.c)]) := by
  refine run Zbfb rfl ?_
  simp [Z2e, Zbf7 _ h5]
theorem Zly (x0 : Int) (x1 : Int) (x2 : Int) (x3 : Int) (x4 : Int) (x5 : List Zg) (y0 : Int) (y1 : Int) (y2 : Int) (y3 : Int) (y4 : Int) (y5 : List Zg) (h5 : SmA x5) : C Z39 [.agg [I x0, I x1, I x2, I x3, I x4, .t (.lst 2 (x5.map Zg.c))], .agg [I y0, I y1, I y2, I y3, I y4, .t (.lst 2 (y5.map Zg.c))]] [] = some (Bo (decide (x0 = y0 ∧ x1 = y1 ∧ x2 = y2 ∧ x3 = y3 ∧ x4 = y4 ∧ x5 = y5)), []) := by
  refine run Zbfe rfl ?_
  simp [Z2h, Zbf9 _ _ h5]
  repeat' split
  all_goals first | (simp_all; done) | grind
theorem Zbgb (x0 : Int) (x1 : Int) (x2 : Int) (x3 : Int) (x4 : Int) (x5 : List Zg) (left : Int)  : C Z33 [.agg [I x0, I x1, I x2, I x3, I x4, .t (.lst 2 (x5.map Zg.c))], I left] [] = some (I (Zh.sz ⟨x0, x1, x2, x3, x4, x5⟩ left), []) := by
  refine run Zbe8 rfl ?_
  simp [Z2b, Zbga, Zh.sz, andSz, sz1]
  repeat' split
  all_goals first | (simp_all; done) | grind
theorem Z21 (x0 : Int) (x1 : Int) (x2 : Int) (x3 : Int) (x4 : Int) (x5 : List Zg) (x6 : Int) (x7 : Int) (x8 : Int) (x9 : Int) (x10 : Int) (x11 : List Zg) (x12 : Int) (x13 : Int) (x14 : Int) (x15 : Int) (x16 : Int) (x17 : List Zg) (x18 : Int) (x19 : Int) (x20 : Int) (x21 : Int) (x22 : Int) (x23 : List Zg) (x24 : Int) (x25 : Int) (x26 : Int) (x27 : Int) (x28 : Int) (x29 : List Zg) (h5 : SmA x5) (h11 : SmA x11) (h17 : SmA x17) (h23 : SmA x23) (h29 : SmA x29) : C Z3m [.agg [I x0, I x1, I x2, I x3, I x4, .t (.lst 2 (x5.map Zg.c)), I x6, I x7, I x8, I x9, I x10, .t (.lst 2 (x11.map Zg.c)), I x12, I x13, I x14, I x15, I x16, .t (.lst 2 (x17.map Zg.c)), I x18, I x19, I x20, I x21, I x22, .t (.lst 2 (x23.map Zg.c)), I x24, I x25, I x26, I x27, I x28, .t (.lst 2 (x29.map Zg.c))]] [] = some (.agg [I x0, I x1, I x2, I x3, I x4, .own 0, I x6, I x7, I x8, I x9, I x10, .own 1, I x12, I x13, I x14, I x15, I x16, .own 2, I x18, I x19, I x20, I x21, I x22, .own 3, I x24, I x25, I x26, I x27, I x28, .own 4], [.arr Zeg 2 true (x5.map Zg.c), .arr Zeg 2 true (x11.map Zg.c), .arr Zeg 2 true (x17.map Zg.c), .arr Zeg 2 true (x23.map Zg.c), .arr Zeg 2 true (x29.map Zg.c)]) := by
  refine run Zber rfl ?_
  simp [Z1v, Zlx _ _ _ _ _ _ h5, Zlx _ _ _ _ _ _ h11, Zlx _ _ _ _ _ _ h17, Zlx _ _ _ _ _ _ h23, Zlx _ _ _ _ _ _ h29]
theorem Z22 (x0 : Int) (x1 : Int) (x2 : Int) (x3 : Int) (x4 : Int) (x5 : List Zg) (x6 : Int) (x7 : Int) (x8 : Int) (x9 : Int) (x10 : Int) (x11 : List Zg) (x12 : Int) (x13 : Int) (x14 : Int) (x15 : Int) (x16 : Int) (x17 : List Zg) (x18 : Int) (x19 : Int) (x20 : Int) (x21 : Int) (x22 : Int) (x23 : List Zg) (x24 : Int) (x25 : Int) (x26 : Int) (x27 : Int) (x28 : Int) (x29 : List Zg) (y0 : Int) (y1 : Int) (y2 : Int) (y3 : Int) (y4 : Int) (y5 : List Zg) (y6 : Int) (y7 : Int) (y8 : Int) (y9 : Int) (y10 : Int) (y11 : List Zg) (y12 : Int) (y13 : Int) (y14 : Int) (y15 : Int) (y16 : Int) (y17 : List Zg) (y18 : Int) (y19 : Int) (y20 : Int) (y21 : Int) (y22 : Int) (y23 : List Zg) (y24 : Int) (y25 : Int) (y26 : Int) (y27 : Int) (y28 : Int) (y29 : List Zg) (h5 : SmA x5) (h11 : SmA x11) (h17 : SmA x17) (h23 : SmA x23) (h29 : SmA x29) : C Z3q [.agg [I x0, I x1, I x2, I x3, I x4, .t (.lst 2 (x5.map Zg.c)), I x6, I x7, I x8, I x9, I x10, .t (.lst 2 (x11.map Zg.c)), I x12, I x13, I x14, I x15, I x16, .t (.lst 2 (x17.map Zg.c)), I x18, I x19, I x20, I x21, I x22, .t (.lst 2 (x23.map Zg.c)), I x24, I x25, I x26, I x27, I x28, .t (.lst 2 (x29.map Zg.c))], .agg [I y0, I y1, I y2, I y3, I y4, .t (.lst 2 (y5.map Zg.c)), I y6, I y7, I y8, I y9, I y10, .t (.lst 2 (y11.map Zg.c)), I y12, I y13, I y14, I y15, I y16, .t (.lst 2 (y17.map Zg.c)), I y18, I y19, I y20, I y21, I y22, .t (.lst 2 (y23.map Zg.c)), I y24, I y25, I y26, I y27, I y28, .t (.lst 2 (y29.map Zg.c))]] [] = some (Bo (decide (x0 = y0 ∧ x1 = y1 ∧ x2 = y2 ∧ x3 = y3 ∧ x4 = y4 ∧ x5 = y5 ∧ x6 = y6 ∧ x7 = y7 ∧ x8 = y8 ∧ x9 = y9 ∧ x10 = y10 ∧ x11 = y11 ∧ x12 = y12 ∧ x13 = y13 ∧ x14 = y14 ∧ x15 = y15 ∧ x16 = y16 ∧ x17 = y17 ∧ x18 = y18 ∧ x19 = y19 ∧ x20 = y20 ∧ x21 = y21 ∧ x22 = y22 ∧ x23 = y23 ∧ x24 = y24 ∧ x25 = y25 ∧ x26 = y26 ∧ x27 = y27 ∧ x28 = y28 ∧ x29 = y29)), []) := by
  refine run Zbev rfl ?_
  simp [Z1y, Zly _ _ _ _ _ _ _ _ _ _ _ _ h5, Zly _ _ _ _ _ _ _ _ _ _ _ _ h11, Zly _ _ _ _ _ _ _ _ _ _ _ _ h17, Zly _ _ _ _ _ _ _ _ _ _ _ _ h23, Zly _ _ _ _ _ _ _ _ _ _ _ _ h29]
  repeat' split
  all_goals first | (simp_all; done) | grind
theorem Z23 (x0 : Int) (x1 : Int) (x2 : Int) (x3 : Int) (x4 : Int) (x5 : List Zg) (x6 : Int) (x7 : Int) (x8 : Int) (x9 : Int) (x10 : Int) (x11 : List Zg) (x12 : Int) (x13 : Int) (x14 : Int) (x15 : Int) (x16 : Int) (x17 : List Zg) (x18 : Int) (x19 : Int) (x20 : Int) (x21 : Int) (x22 : Int) (x23 : List Zg) (x24 : Int) (x25 : Int) (x26 : Int) (x27 : Int) (x28 : Int) (x29 : List Zg) (left : Int)  : C Z3j [.agg [I x0, I x1, I x2, I x3, I x4, .t (.lst 2 (x5.map Zg.c)), I x6, I x7, I x8, I x9, I x10, .t (.lst 2 (x11.map Zg.c)), I x12, I x13, I x14, I x15, I x16, .t (.lst 2 (x17.map Zg.c)), I x18, I x19, I x20, I x21, I x22, .t (.lst 2 (x23.map Zg.c)), I x24, I x25, I x26, I x27, I x28, .t (.lst 2 (x29.map Zg.c))], I left] [] = some (I (Zd.sz ⟨⟨x0, x1, x2, x3, x4, x5⟩, ⟨x6, x7, x8, x9, x10, x11⟩, ⟨x12, x13, x14, x15, x16, x17⟩, ⟨x18, x19, x20, x21, x22, x23⟩, ⟨x24, x25, x26, x27, x28, x29⟩⟩ left), []) := by
  refine run Zbeo rfl ?_
  simp [Z1s, Zbgb, Zd.sz, andSz, sz1]
  repeat' split
  all_goals first | (simp_all; done) | grind
theorem Zbgc (x0 : Int) (x1 : Int) (x2 : Int)  : C Z4k [.agg [I x0, I x1, I x2]] [] = some (.agg [I x0, I x1, I x2], []) := by
  refine run Zbfp rfl ?_
  simp [Z2p]
theorem Zbgd (x0 : Int) (x1 : Int) (x2 : Int) (y0 : Int) (y1 : Int) (y2 : Int)  : C Z4n [.agg [I x0, I x1, I x2], .agg [I y0, I y1, I y2]] [] = some (Bo (decide (x0 = y0 ∧ x1 = y1 ∧ x2 = y2)), []) := by
  refine run Zbfs rfl ?_
  simp [Z2r]
  repeat' split
  all_goals first | (simp_all; done) | grind
theorem Zbge (xs : List Zc) (h : SmA xs) (fr : List Fr) : ∀ i, i ≤ xs.length → EvL C fr [0, 3, 4] Znr ⟨[(0, L 3 (xs.map Zc.c)), (3, .own 0), (4, I i)], [[]], [.arr Zif 3 true (fill Zc.c [.int .i64 0, .int .i64 0, .int .i64 0] xs i)]⟩ =
    EvX C fr (.x 0) ⟨[(0, L 3 (xs.map Zc.c)), (3, .own 0), (4, I xs.length), (11, Bo false)], [[]], [.arr Zif 3 true (xs.map Zc.c)]⟩ := by
  have hl : xs.length ≤ 4294967296 := h
  refine down xs.length ?_ ?_
  · rw [EvL_eq Znr.eq_1]
    simp [fill_all]
  · intro i hi ih
    rw [EvL_eq Znr.eq_1, ← ih]
    have h1 := fill_set (f := Zc.c) (z := [.int .i64 0, .int .i64 0, .int .i64 0]) hi
    have h3 := fill_len (f := Zc.c) (z := [.int .i64 0, .int .i64 0, .int .i64 0]) (Nat.le_of_lt hi)
    have h4 : IntKind.wrap .i64 ((i : Int) + 1) = (i : Int) + 1 := wrap64 (by omega) (by omega)
    simp at h1
    simp [hi, Zbgc, h3, h4, h1]
theorem Zbgf (xs : List Zc) (h : SmA xs) : C Z38 [L 3 (xs.map Zc.c)] [] = some (.own 0, [.arr Zif 3 true (xs.map Zc.c)]) := by
  refine run Zbfd rfl ?_
  have hl : xs.length ≤ 4294967296 := h
  have h1 : ∀ b, b ≤ 4096 → xs.length * b ≤ room := fun b hb => Nat.le_trans (Nat.mul_le_mul hl hb) (by decide)
  have h2 : (xs.length : Int) ≤ 140737488355328 := by omega
  have h3 := fun fr => Zbge xs h fr 0 (Nat.zero_le _)
  simp [fill_zero] at h3
  simp [Z2g, h1, h2, h3]
theorem Zbgg (xs ys : List Zc) (h : SmA xs) (hl : ys.length = xs.length) (fr : List Fr) : ∀ i, i ≤ xs.length → EvL C fr [0, 1, 5] Znt ⟨[(0, L 3 (xs.map Zc.c)), (1, L 3 (ys.map Zc.c)), (5, I i)], [[]], []⟩ =
    if xs.drop i = ys.drop i then EvX C fr (.x 0) ⟨[(0, L 3 (xs.map Zc.c)), (1, L 3 (ys.map Zc.c)), (5, I xs.length), (14, Bo false)], [[]], []⟩ else EvX C fr .r ⟨[(4, Bo false)], [[]], []⟩ := by
  have hm : xs.length ≤ 4294967296 := h
  refine down xs.length ?_ ?_
  · rw [EvL_eq Znt.eq_1]
    simp [hl, List.drop_eq_nil_of_le]
  · intro i hi ih
    have hi2 : i < ys.length := by omega
    have h4 : IntKind.wrap .i64 ((i : Int) + 1) = (i : Int) + 1 := wrap64 (by omega) (by omega)
    rw [EvL_eq Znt.eq_1]
    simp +decide [hi, hi2, Zbgd _ _ _ _ _ _ , h4]
    simp at ih
    simp only [drop_eq_iff hi hi2, ih, Zc.ext_iff]
    split <;> first | (simp_all; done) | grind
theorem Zbgh (xs ys : List Zc) (h : SmA xs) : C Z4b [L 3 (xs.map Zc.c), L 3 (ys.map Zc.c)] [] = some (Bo (decide (xs = ys)), []) := by
  refine run Zbfg rfl ?_
  by_cases hl : ys.length = xs.length
  · have h3 := fun fr => Zbgg xs ys h hl fr 0 (Nat.zero_le _)
    simp at h3
    simp [Zsv, h3, hl]
    split <;> simp_all
  · have h1 : xs ≠ ys := fun h => hl (by rw [h])
    have h2 : ¬ ((xs.length : Int) = ys.length) := by omega
    simp [Zsv, h1, h2]
@[simp] theorem Zbgi (es : List (List T)) (left : Int) : C Z35 [L 3 es, I left] [] = some (I (sz1 es.length left), []) := by
  refine run Zbfa rfl ?_
  simp [Z2d, sz1]
  split <;> simp_all
theorem c_toPlan (x0 : List Zc) (h0 : SmA x0) : C Z3o [.agg [.t (.lst 3 (x0.map Zc.c))]] [] = some (.agg [.own 0], [.arr Zif 3 true (x0.map Zc.c)]) := by
  refine run Zbet rfl ?_
  simp [Z1x, Zbgf _ h0]
theorem c_eqPlan (x0 : List Zc) (y0 : List Zc) (h0 : SmA x0) : C Z3s [.agg [.t (.lst 3 (x0.map Zc.c))], .agg [.t (.lst 3 (y0.map Zc.c))]] [] = some (Bo (decide (x0 = y0)), []) := by
  refine run Zbex rfl ?_
  simp [Z10, Zbgh _ _ h0]
  repeat' split
  all_goals first | (simp_all; done) | grind
theorem c_szPlan (x0 : List Zc) (left : Int)  : C Z3l [.agg [.t (.lst 3 (x0.map Zc.c))], I left] [] = some (I (Plan.sz ⟨x0⟩ left), []) := by
  refine run Zbeq rfl ?_
  simp [Z1u, Zbgi, Plan.sz, andSz, sz1]
  repeat' split
  all_goals first | (simp_all; done) | grind
theorem Z24 (x0 : List Zc) (x1 : List Int) (x2 : List Int) (x3 : Int) (h0 : SmA x0) (h1 : SmA x1) (h2 : SmA x2) : C Z3u [.agg [.t (.lst 3 (x0.map Zc.c)), .t (tI x1), .t (tI x2), I x3]] [] = some (.agg [.own 0, .own 1, .own 2, I x3], [.arr Zif 3 true (x0.map Zc.c), .arr Zt 1 true (x1.map ic), .arr Zt 1 true (x2.map ic)]) := by
  refine run Zbez rfl ?_
  simp [Z12, c_toPlan _ h0, c_toBox _ _ h1 h2]
theorem Z25 (x0 : List Zc) (x1 : List Int) (x2 : List Int) (x3 : Int) (y0 : List Zc) (y1 : List Int) (y2 : List Int) (y3 : Int) (h0 : SmA x0) (h1 : SmA x1) (h2 : SmA x2) : C Z3v [.agg [.t (.lst 3 (x0.map Zc.c)), .t (tI x1), .t (tI x2), I x3], .agg [.t (.lst 3 (y0.map Zc.c)), .t (tI y1), .t (tI y2), I y3]] [] = some (Bo (decide (x0 = y0 ∧ x1 = y1 ∧ x2 = y2 ∧ x3 = y3)), []) := by
  refine run Zbe0 rfl ?_
  simp [Z13, c_eqPlan _ _ h0, c_eqBox _ _ _ _ h1 h2]
  repeat' split
  all_goals first | (simp_all; done) | grind
theorem Z26 (x0 : List Zc) (x1 : List Int) (x2 : List Int) (x3 : Int) (left : Int)  : C Z3t [.agg [.t (.lst 3 (x0.map Zc.c)), .t (tI x1), .t (tI x2), I x3], I left] [] = some (I (Region.sz ⟨⟨x0⟩, ⟨x1, x2⟩, x3⟩ left), []) := by
  refine run Zbey rfl ?_
  simp [Z11, c_szPlan, c_szBox, Region.sz, andSz, sz1]
  repeat' split
  all_goals first | (simp_all; done) | grind
theorem Zbgj (x0 : Int) (x1 : List Atom) (x2 : List Zc) (x3 : List Int) (x4 : List Int) (x5 : Int) (x6 : Int) (x7 : Int) (h1 : SmL Atom.small x1) (h2 : SmA x2) (h3 : SmA x3) (h4 : SmA x4) : C Z4p [.agg [I x0, .t (.lst 2 (x1.map Atom.c)), .t (.lst 3 (x2.map Zc.c)), .t (tI x3), .t (tI x4), I x5, I x6, I x7]] [] = some (.agg [I x0, .own 0, .own 1, .own 2, .own 3, I x5, I x6, I x7], [.arr Zjf 2 true (x1.map Atom.c), .arr Zif 3 true (x2.map Zc.c), .arr Zt 1 true (x3.map ic), .arr Zt 1 true (x4.map ic)]) := by
  refine run Zbfu rfl ?_
  simp [Z2t, Z2y _ _ h1, Z24 _ _ _ _ h2 h3 h4]
theorem Zbgk (x0 : Int) (x1 : List Atom) (x2 : List Zc) (x3 : List Int) (x4 : List Int) (x5 : Int) (x6 : Int) (x7 : Int) (y0 : Int) (y1 : List Atom) (y2 : List Zc) (y3 : List Int) (y4 : List Int) (y5 : Int) (y6 : Int) (y7 : Int) (h1 : SmL Atom.small x1) (h2 : SmA x2) (h3 : SmA x3) (h4 : SmA x4) : C Z4q [.agg [I x0, .t (.lst 2 (x1.map Atom.c)), .t (.lst 3 (x2.map Zc.c)), .t (tI x3), .t (tI x4), I x5, I x6, I x7], .agg [I y0, .t (.lst 2 (y1.map Atom.c)), .t (.lst 3 (y2.map Zc.c)), .t (tI y3), .t (tI y4), I y5, I y6, I y7]] [] = some (Bo (decide (x0 = y0 ∧ x1 = y1 ∧ x2 = y2 ∧ x3 = y3 ∧ x4 = y4 ∧ x5 = y5 ∧ x6 = y6 ∧ x7 = y7)), []) := by
  refine run Zbfv rfl ?_
  simp [Z2u, Z2z _ _ _ _ h1, Z25 _ _ _ _ _ _ _ _ h2 h3 h4]
  repeat' split
  all_goals first | (simp_all; done) | grind
theorem Zbgl (x0 : Int) (x1 : List Atom) (x2 : List Zc) (x3 : List Int) (x4 : List Int) (x5 : Int) (x6 : Int) (x7 : Int) (left : Int) (h1 : OkL Atom.okay x1) : C Z4o [.agg [I x0, .t (.lst 2 (x1.map Atom.c)), .t (.lst 3 (x2.map Zc.c)), .t (tI x3), .t (tI x4), I x5, I x6, I x7], I left] [] = some (I (Zi.sz ⟨⟨x0, x1⟩, ⟨⟨x2⟩, ⟨x3, x4⟩, x5⟩, x6, x7⟩ left), []) := by
  refine run Zbft rfl ?_
  simp [Z2s, Z20 _ _ _ h1, Z26, Zi.sz, andSz, sz1]
  repeat' split
  all_goals first | (simp_all; done) | grind
theorem Zbgm (xs : List Zi) (h : SmL Zi.small xs) (fr : List Fr) : ∀ i, i ≤ xs.length → EvL C fr [0, 3, 4] Znu ⟨[(0, L 8 (xs.map Zi.c)), (3, .own 0), (4, I i)], [[]], [.arr Zl4 8 true (fill Zi.c [.int .i64 0, .lst 2 [], .lst 3 [], .lst 1 [], .lst 1 [], .int .i64 0, .int .i64 0, .int .i64 0] xs i)]⟩ =
    EvX C fr (.x 0) ⟨[(0, L 8 (xs.map Zi.c)), (3, .own 0), (4, I xs.length), (11, Bo false)], [[]], [.arr Zl4 8 true (xs.map Zi.c)]⟩ := by
  have hl : xs.length ≤ 4294967296 := h.1
  refine down xs.length ?_ ?_
  · rw [EvL_eq Znu.eq_1]
    simp [fill_all]
  · intro i hi ih
    rw [EvL_eq Znu.eq_1, ← ih]
    have h1 := fill_set (f := Zi.c) (z := [.int .i64 0, .lst 2 [], .lst 3 [], .lst 1 [], .lst 1 [], .int .i64 0, .int .i64 0, .int .i64 0]) hi
    have h3 := fill_len (f := Zi.c) (z := [.int .i64 0, .lst 2 [], .lst 3 [], .lst 1 [], .lst 1 [], .int .i64 0, .int .i64 0, .int .i64 0]) (Nat.le_of_lt hi)
    have h4 : IntKind.wrap .i64 ((i : Int) + 1) = (i : Int) + 1 := wrap64 (by omega) (by omega)
    simp at h1
    simp [hi, Zbgj _ _ _ _ _ _ _ _ (h.2 _ (List.getElem_mem hi)).1 (h.2 _ (List.getElem_mem hi)).2.1 (h.2 _ (List.getElem_mem hi)).2.2.1 (h.2 _ (List.getElem_mem hi)).2.2.2, h3, h4, h1]
theorem Zbgn (xs : List Zi) (h : SmL Zi.small xs) : C Z4d [L 8 (xs.map Zi.c)] [] = some (.own 0, [.arr Zl4 8 true (xs.map Zi.c)]) := by
  refine run Zbfi rfl ?_
  have hl : xs.length ≤ 4294967296 := h.1
  have h1 : ∀ b, b ≤ 4096 → xs.length * b ≤ room := fun b hb => Nat.le_trans (Nat.mul_le_mul hl hb) (by decide)
  have h2 : (xs.length : Int) ≤ 140737488355328 := by omega
  have h3 := fun fr => Zbgm xs h fr 0 (Nat.zero_le _)
  simp [fill_zero] at h3
  simp [Z2j, h1, h2, h3]
theorem Zbgo (xs ys : List Zi) (h : SmL Zi.small xs) (hl : ys.length = xs.length) (fr : List Fr) : ∀ i, i ≤ xs.length → EvL C fr [0, 1, 5] Znv ⟨[(0, L 8 (xs.map Zi.c)), (1, L 8 (ys.map Zi.c)), (5, I i)], [[]], []⟩ =
    if xs.drop i = ys.drop i then EvX C fr (.x 0) ⟨[(0, L 8 (xs.map Zi.c)), (1, L 8 (ys.map Zi.c)), (5, I xs.length), (14, Bo false)], [[]], []⟩ else EvX C fr .r ⟨[(4, Bo false)], [[]], []⟩ := by
  have hm : xs.length ≤ 4294967296 := h.1
  refine down xs.length ?_ ?_
  · rw [EvL_eq Znv.eq_1]
    simp [hl, List.drop_eq_nil_of_le]
  · intro i hi ih
    have hi2 : i < ys.length := by omega
    have h4 : IntKind.wrap .i64 ((i : Int) + 1) = (i : Int) + 1 := wrap64 (by omega) (by omega)
    rw [EvL_eq Znv.eq_1]
    simp +decide [hi, hi2, Zbgk _ _ _ _ _ _ _ _ _ _ _ _ _ _ _ _ (h.2 _ (List.getElem_mem hi)).1 (h.2 _ (List.getElem_mem hi)).2.1 (h.2 _ (List.getElem_mem hi)).2.2.1 (h.2 _ (List.getElem_mem hi)).2.2.2, h4]
    simp at ih
    simp only [drop_eq_iff hi hi2, ih, Zi.ext_iff, Zb.ext_iff, Region.ext_iff, Plan.ext_iff, Box.ext_iff]
    split <;> first | (simp_all; done) | grind
theorem Zbgp (xs ys : List Zi) (h : SmL Zi.small xs) : C Z4e [L 8 (xs.map Zi.c), L 8 (ys.map Zi.c)] [] = some (Bo (decide (xs = ys)), []) := by
  refine run Zbfj rfl ?_
  by_cases hl : ys.length = xs.length
  · have h3 := fun fr => Zbgo xs ys h hl fr 0 (Nat.zero_le _)
    simp at h3
    simp [Zsw, h3, hl]
    split <;> simp_all
  · have h1 : xs ≠ ys := fun h => hl (by rw [h])
    have h2 : ¬ ((xs.length : Int) = ys.length) := by omega
    simp [Zsw, h1, h2]
theorem Zbgq (xs : List Zi) (h : OkL Zi.okay xs) (fr : List Fr) : ∀ i, i ≤ xs.length → ∀ left : Int,
    (EvL C fr [0, 1, 5] Zib ⟨[(0, L 8 (xs.map Zi.c)), (1, I left), (5, I i)], [[]], []⟩ = EvX C fr .r ⟨[(4, I (-1))], [[]], []⟩ ∧ szFold Zi.sz (xs.drop i) left = -1) ∨
    EvL C fr [0, 1, 5] Zib ⟨[(0, L 8 (xs.map Zi.c)), (1, I left), (5, I i)], [[]], []⟩ = EvX C fr (.x 0) ⟨[(0, L 8 (xs.map Zi.c)), (1, I (szFold Zi.sz (xs.drop i) left)), (5, I xs.length), (15, Bo false)], [[]], []⟩ := by
  have hm : maxLen ≤ 9223372036854775807 := by decide
  have hl := h.1
  refine down xs.length ?_ ?_
  · intro left
    right
    rw [EvL_eq Zib.eq_1]
    simp [List.drop_eq_nil_of_le, szFold]
  · intro i hi ih left
    have h4 : IntKind.wrap .i64 ((i : Int) + 1) = (i : Int) + 1 := wrap64 (by omega) (by omega)
    have e : EvL C fr [0, 1, 5] Zib ⟨[(0, L 8 (xs.map Zi.c)), (1, I left), (5, I i)], [[]], []⟩ = if Zi.sz xs[i] left < 0 then EvX C fr .r ⟨[(4, I (-1))], [[]], []⟩ else EvL C fr [0, 1, 5] Zib ⟨[(0, L 8 (xs.map Zi.c)), (1, I (Zi.sz xs[i] left)), (5, I ((i + 1 : Nat) : Int))], [[]], []⟩ := by
      rw [EvL_eq Zib.eq_1]
      simp [hi, Zbgl _ _ _ _ _ _ _ _ _ (h.2 _ (List.getElem_mem hi)).2.1, h4]
    rw [e, List.drop_eq_getElem_cons hi, szFold]
    split
    · exact .inl ⟨rfl, rfl⟩
    · exact ih _
theorem Zbgr (xs : List Zi) (left : Int) (h : OkL Zi.okay xs) : C Z4c [L 8 (xs.map Zi.c), I left] [] = some (I (szL Zi.sz xs left), []) := by
  refine run Zbfh rfl ?_
  have h3 := fun fr l => Zbgq xs h fr 0 (Nat.zero_le _) l
  simp at h3
  simp [Z2i, szL, andSz, sz1]
  split
  · simp_all
  · rcases h3 [.blk 0, .seq _, .fin _ _] (IntKind.wrap .i64 (left - xs.length)) with ⟨h5, h6⟩ | h5
    · rw [h5]; simp [h6]
    · rw [h5]; simp
theorem Zbgs (x0 : Int) (x1 : List Zi) (h1 : SmL Zi.small x1) : C Z3x [.agg [I x0, .t (.lst 8 (x1.map Zi.c))]] [] = some (.agg [I x0, .own 0], [.arr Zl4 8 true (x1.map Zi.c)]) := by
  refine run Zbe2 rfl ?_
  simp [Z15, Zbgn _ h1]
theorem Zbgt (x0 : Int) (x1 : List Zi) (y0 : Int) (y1 : List Zi) (h1 : SmL Zi.small x1) : C Z3y [.agg [I x0, .t (.lst 8 (x1.map Zi.c))], .agg [I y0, .t (.lst 8 (y1.map Zi.c))]] [] = some (Bo (decide (x0 = y0 ∧ x1 = y1)), []) := by
  refine run Zbe3 rfl ?_
  simp [Z16, Zbgp _ _ h1]
  repeat' split
  all_goals first | (simp_all; done) | grind
theorem Zbgu (x0 : Int) (x1 : List Zi) (left : Int) (h1 : OkL Zi.okay x1) : C Z3w [.agg [I x0, .t (.lst 8 (x1.map Zi.c))], I left] [] = some (I (Zv.sz ⟨x0, x1⟩ left), []) := by
  refine run Zbe1 rfl ?_
  simp [Z14, Zbgr _ _ h1, Zv.sz, andSz, sz1]
  repeat' split
  all_goals first | (simp_all; done) | grind
end Go.Proofs.YtbapkgocloaaeaaGreat
/- part: L19 -/
namespace Go.Proofs.YtbapkgocloaaeaaGreat
open Go.AM
theorem Z28 (m : Zd) (q : Zb) (r : Region) (hm : m.okay) (hq : q.okay) (hr : r.okay) : C Z3h [.agg (m.c.map .t), .agg (q.c.map .t), .agg (r.c.map .t)] [] = some (Bo true, []) := by
  refine run Zbem rfl ?_
  have e1 := fun l => Z23 m.Scan.Fixed m.Scan.Zj m.Scan.Zk m.Scan.Zm m.Scan.Zl m.Scan.Steps m.Sort_.Fixed m.Sort_.Zj m.Sort_.Zk m.Sort_.Zm m.Sort_.Zl m.Sort_.Steps m.Hash.Fixed m.Hash.Zj m.Hash.Zk m.Hash.Zm m.Hash.Zl m.Hash.Steps m.Merge.Fixed m.Merge.Zj m.Merge.Zk m.Merge.Zm m.Merge.Zl m.Merge.Steps m.Nested.Fixed m.Nested.Zj m.Nested.Zk m.Nested.Zm m.Nested.Zl m.Nested.Steps l
  by_cases h1 : Zd.sz m (1048576) < 0
  · simp [Zlw, e1, h1]
  obtain ⟨b1, g1⟩ := Zd.Z7 m _ hm (by omega) (by omega) (by omega : 0 ≤ Zd.sz m (1048576))
  have e2 := fun l => Z20 q.Ze q.Atoms l (hq.2)
  by_cases h2 : Zb.sz q (Zd.sz m (1048576)) < 0
  · simp [Zlw, e1, h1, e2, h2]
  obtain ⟨b2, g2⟩ := Zb.Z7 q _ hq (by omega) (by omega) (by omega : 0 ≤ Zb.sz q (Zd.sz m (1048576)))
  have e3 := fun l => Z26 r.Plan.Steps r.Box.Low r.Box.High r.Percent l
  by_cases h3 : Region.sz r (Zb.sz q (Zd.sz m (1048576))) < 0
  · simp [Zlw, e1, h1, e2, h2, e3, h3]
  obtain ⟨b3, g3⟩ := Region.Z7 r _ hr (by omega) (by omega) (by omega : 0 ≤ Region.sz r (Zb.sz q (Zd.sz m (1048576))))
  have t1 := Z21 m.Scan.Fixed m.Scan.Zj m.Scan.Zk m.Scan.Zm m.Scan.Zl m.Scan.Steps m.Sort_.Fixed m.Sort_.Zj m.Sort_.Zk m.Sort_.Zm m.Sort_.Zl m.Sort_.Steps m.Hash.Fixed m.Hash.Zj m.Hash.Zk m.Hash.Zm m.Hash.Zl m.Hash.Steps m.Merge.Fixed m.Merge.Zj m.Merge.Zk m.Merge.Zm m.Merge.Zl m.Merge.Steps m.Nested.Fixed m.Nested.Zj m.Nested.Zk m.Nested.Zm m.Nested.Zl m.Nested.Steps (g1.1) (g1.2.1) (g1.2.2.1) (g1.2.2.2.1) (g1.2.2.2.2)
  have q1 := fun y0 y1 y2 y3 y4 y5 y6 y7 y8 y9 y10 y11 y12 y13 y14 y15 y16 y17 y18 y19 y20 y21 y22 y23 y24 y25 y26 y27 y28 y29 => Z22 m.Scan.Fixed m.Scan.Zj m.Scan.Zk m.Scan.Zm m.Scan.Zl m.Scan.Steps m.Sort_.Fixed m.Sort_.Zj m.Sort_.Zk m.Sort_.Zm m.Sort_.Zl m.Sort_.Steps m.Hash.Fixed m.Hash.Zj m.Hash.Zk m.Hash.Zm m.Hash.Zl m.Hash.Steps m.Merge.Fixed m.Merge.Zj m.Merge.Zk m.Merge.Zm m.Merge.Zl m.Merge.Steps m.Nested.Fixed m.Nested.Zj m.Nested.Zk m.Nested.Zm m.Nested.Zl m.Nested.Steps y0 y1 y2 y3 y4 y5 y6 y7 y8 y9 y10 y11 y12 y13 y14 y15 y16 y17 y18 y19 y20 y21 y22 y23 y24 y25 y26 y27 y28 y29 (g1.1) (g1.2.1) (g1.2.2.1) (g1.2.2.2.1) (g1.2.2.2.2)
  have t2 := Z2y q.Ze q.Atoms (g2)
  have q2 := fun y0 y1 => Z2z q.Ze q.Atoms y0 y1 (g2)
  have t3 := Z24 r.Plan.Steps r.Box.Low r.Box.High r.Percent (g3.1) (g3.2.1) (g3.2.2)
  have q3 := fun y0 y1 y2 y3 => Z25 r.Plan.Steps r.Box.Low r.Box.High r.Percent y0 y1 y2 y3 (g3.1) (g3.2.1) (g3.2.2)
  have n1 : LeM m := ⟨by have := g1.1; omega, by have := g1.2.1; omega, by have := g1.2.2.1; omega, by have := g1.2.2.2.1; omega, by have := g1.2.2.2.2; omega⟩
  have n2 : LeQ q := ⟨by have := g2.1; omega, fun x hx => by have := (g2.2 x hx).2; omega⟩
  have n3 : LeR r := ⟨by have := g3.2.1; omega, by have := g3.2.2; omega⟩
  have s0 := Z1r (m := m) (q := q) (r := r) n1 n2 n3
  unfold Ziv at s0
  have s1 := Z1q (m := m) (q := q) (r := r) n1 n2 n3
  unfold Zip at s1
  simp only [Zd.c_def, Zb.c_def, Region.c_def, List.map_cons, List.map_nil] at s0 s1
  simp +decide [Zlw, e1, h1, e2, h2, e3, h3, t1, q1, t2, q2, t3, q3, s0, s1]
end Go.Proofs.YtbapkgocloaaeaaGreat
/- part: IK -/
namespace Go.Proofs.YtbapkgocloaaeaaGreat
open Go.AM
def LeC (c : Zv) : Prop := Le c.Entries ∧ ∀ e ∈ c.Entries, LeQ e.Zb ∧ LeR e.Region
def Zed (l : List Zi) (e : Zi) : Bool := l.any fun x => decide (x.Used = e.Used)
noncomputable def entOk (m : Zd) (c : Zv) (i : Nat) (e : Zi) : Bool := inR e.Version 1 999 && (inR e.Used 1 c.Clock && (Zh9 m e.Zb e.Region && !Zed (c.Entries.take i) e))
noncomputable def okF (m : Zd) (c : Zv) : List Zi → Nat → Bool
  | [], _ => true
  | e :: l, i => entOk m c i e && okF m c l (i + 1)
noncomputable def Zny (m : Zd) (c : Zv) : Bool := inR c.Clock 0 1000000 && (decide ((c.Entries.length : Int) ≤ 4) && okF m c c.Entries 0)
def idxU (e : Zi) : List Zi → Nat → Int
  | [], _ => -1
  | x :: l, i => if x.Used = e.Used then (i : Int) else idxU e l (i + 1)
theorem Z27 (e : Zi) : ∀ (l : List Zi) (i : Nat), decide (0 ≤ idxU e l i) = Zed l e
  | [], i => by simp [idxU, Zed]
  | x :: l, i => by
    have ih := Z27 e l (i + 1)
    rw [idxU]
    unfold Zed at ih ⊢
    by_cases h : x.Used = e.Used
    · simp [h]
    · rw [if_neg h, ih]; simp [h]
theorem l_idx (l : List Zi) (e : Zi) (hl : Le l) : ∀ i, i ≤ l.length → Zh1 l e l.length i = some (I (idxU e (l.drop i) i), []) := by
  refine down _ ?_ ?_
  · refine Zzn _ _ _ _ _ ?_
    rw [if_neg (by omega)]; simp [idxU]
  · intro i hi ih
    have h4 := inc64 (i := i) (by omega)
    refine Zzn _ _ _ _ _ ?_
    rw [if_pos (by omega), List.drop_eq_getElem_cons hi, idxU]
    refine ⟨by omega, l[i], by rw [Int.toNat_natCast]; exact List.getElem?_eq_getElem hi, _, Zbbd _ _ _ rfl, ?_⟩
    rw [show w ((i : Int) + 1) = ((i + 1 : Nat) : Int) from by rw [show w ((i : Int) + 1) = (i : Int) + 1 from h4]; simp]
    by_cases h : l[i].Used = e.Used
    · rw [if_pos (by simpa using h), if_pos h]
    · rw [if_neg (by simpa using h), if_neg h]; exact ih
theorem Zbgv (l : List Zi) (e : Zi) (hl : Le l) : Zle l e = some (Bo (Zed l e), []) := by
  refine Zbbf _ _ _ ⟨_, Zbbe _ _ _ (l_idx l e hl 0 (Nat.zero_le _)), ?_⟩
  rw [List.drop_zero, Z27]
theorem Zbgw (m : Zd) (hm : LeM m) (c : Zv) (hc : LeC c) : ∀ i, i ≤ c.Entries.length → Zh2 m c c.Entries c.Entries.length i = some (Bo (okF m c (c.Entries.drop i) i), []) := by
  have hl := hc.1
  refine down _ ?_ ?_
  · refine Zzo _ _ _ _ _ _ ?_
    rw [if_neg (by omega)]; simp [okF]
  · intro i hi ih
    have h4 := inc64 (i := i) (by omega)
    obtain ⟨hq, hr⟩ := hc.2 _ (List.getElem_mem hi)
    refine Zzo _ _ _ _ _ _ ?_
    rw [if_pos (by omega), List.drop_eq_getElem_cons hi, okF, entOk]
    refine ⟨by omega, c.Entries[i], by rw [Int.toNat_natCast]; exact List.getElem?_eq_getElem hi, _, Zcg _ _ _, ?_⟩
    rcases tf (inR c.Entries[i].Version 1 999) with e | e
    · rw [e]; simp
    rw [e, if_pos rfl]
    refine ⟨_, Zcg _ _ _, ?_⟩
    rcases tf (inR c.Entries[i].Used 1 c.Clock) with e2 | e2
    · rw [e2]; simp
    rw [e2, if_pos rfl]
    refine ⟨_, Z1q hm hq hr, ?_⟩
    rcases tf (Zh9 m c.Entries[i].Zb c.Entries[i].Region) with e3 | e3
    · rw [e3]; simp
    rw [e3, if_pos rfl]
    refine ⟨by omega, _, Zbgv _ _ (by show (List.take _ _).length ≤ _; rw [List.length_take]; omega), ?_⟩
    rw [Int.toNat_natCast, show w ((i : Int) + 1) = ((i + 1 : Nat) : Int) from by rw [show w ((i : Int) + 1) = (i : Int) + 1 from h4]; simp]
    rcases tf (Zed (c.Entries.take i) c.Entries[i]) with e4 | e4
    · rw [e4, if_neg (by simp), ih]; simp
    · rw [e4]; simp
theorem Zbgx (m : Zd) (hm : LeM m) (c : Zv) (hc : LeC c) : Zmu m c = some (Bo (Zny m c), []) := by
  refine Zbbg _ _ _ ⟨_, Zcg _ _ _, ?_⟩
  unfold Zny
  rcases tf (inR c.Clock 0 1000000) with e | e
  · rw [e]; simp
  rw [e, if_pos rfl]
  by_cases h : 4 < (c.Entries.length : Int)
  · rw [if_pos h]
    have : ¬ (c.Entries.length : Int) ≤ 4 := by omega
    simp [this]
  · rw [if_neg h]
    have h2 : (c.Entries.length : Int) ≤ 4 := by omega
    have := Zbgw m hm c hc 0 (Nat.zero_le _)
    rw [List.drop_zero] at this
    simpa [h2] using this
theorem Zbgy (m : Zd) (c : Zv) (hc : LeC c) (i : Nat) (hi : i < c.Entries.length) (e : Zi) (r : Bool) (hr : Zge m c (w ((i : Int) + 1)) = some (Bo r, [])) : ∀ k, k ≤ i → Zh3 m c e i k = some (Bo (!Zed ((c.Entries.take i).drop k) e && r), []) := by
  have hl := hc.1
  refine down _ ?_ ?_
  · refine Zzq _ _ _ _ _ _ ?_
    rw [if_neg (by omega), hr, List.drop_of_length_le (by rw [List.length_take]; omega)]
    simp [Zed]
  · intro k hk ih
    have h4 := inc64 (i := k) (by omega)
    have hkl : k < (c.Entries.take i).length := by rw [List.length_take]; omega
    refine Zzq _ _ _ _ _ _ ?_
    rw [if_pos (by omega), List.drop_eq_getElem_cons hkl]
    refine ⟨by omega, c.Entries[k], by rw [Int.toNat_natCast]; exact List.getElem?_eq_getElem (by omega), ?_⟩
    rw [show w ((k : Int) + 1) = ((k + 1 : Nat) : Int) from by rw [show w ((k : Int) + 1) = (k : Int) + 1 from h4]; simp]
    rw [List.getElem_take]
    by_cases h : c.Entries[k].Used = e.Used
    · rw [if_pos h]; simp [Zed, h]
    · rw [if_neg h, ih]; simp [Zed, h]
theorem Zbgz (m : Zd) (hm : LeM m) (c : Zv) (hc : LeC c) : ∀ i, i ≤ c.Entries.length → Zge m c i = some (Bo (okF m c (c.Entries.drop i) i && (inR c.Clock 0 1000000 && decide ((c.Entries.length : Int) ≤ 4))), []) := by
  have hl := hc.1
  refine down _ ?_ ?_
  · refine Zzp _ _ _ _ ?_
    rw [if_neg (by omega)]
    refine ⟨_, Zds _ _ _, ?_⟩
    rcases tf (inR c.Clock 0 1000000) with e | e
    · rw [e]; simp
    · rw [e]; simp [okF]
  · intro i hi ih
    have h4 := inc64 (i := i) (by omega)
    have hw : w ((i : Int) + 1) = ((i + 1 : Nat) : Int) := by rw [show w ((i : Int) + 1) = (i : Int) + 1 from h4]; simp
    obtain ⟨hq, hr⟩ := hc.2 _ (List.getElem_mem hi)
    refine Zzp _ _ _ _ ?_
    rw [if_pos (by omega), List.drop_eq_getElem_cons hi, okF, entOk]
    refine ⟨by omega, c.Entries[i], by rw [Int.toNat_natCast]; exact List.getElem?_eq_getElem hi, _, Zds _ _ _, ?_⟩
    rcases tf (inR c.Entries[i].Version 1 999) with e | e
    · rw [e]; simp
    rw [e, if_pos rfl]
    refine ⟨_, Zds _ _ _, ?_⟩
    rcases tf (inR c.Entries[i].Used 1 c.Clock) with e2 | e2
    · rw [e2]; simp
    rw [e2, if_pos rfl]
    refine ⟨_, Z1r hm hq hr, ?_⟩
    rcases tf (Zh9 m c.Entries[i].Zb c.Entries[i].Region) with e3 | e3
    · rw [e3]; simp
    rw [e3, if_pos rfl]
    have := Zbgy m c hc i hi c.Entries[i] _ (by rw [hw]; exact ih) 0 (Nat.zero_le _)
    rw [List.drop_zero] at this
    refine Eq.trans this ?_
    simp [Bool.and_assoc]
theorem Zbg0 (m : Zd) (hm : LeM m) (c : Zv) (hc : LeC c) : Zmx m c = some (Bo (Zny m c), []) := by
  have := Zbgz m hm c hc 0 (Nat.zero_le _)
  rw [List.drop_zero] at this
  refine Zbbh _ _ _ (Eq.trans this ?_)
  unfold Zny
  rcases tf (inR c.Clock 0 1000000) with e | e <;> rw [e] <;> simp [Bool.and_comm]
end Go.Proofs.YtbapkgocloaaeaaGreat
/- part: L22 -/
namespace Go.Proofs.YtbapkgocloaaeaaGreat
open Go.AM
theorem Z29 (m : Zd) (c : Zv) (hm : m.okay) (hc : c.okay) : C Z3i [.agg (m.c.map .t), .agg (c.c.map .t)] [] = some (Bo true, []) := by
  refine run Zben rfl ?_
  have e1 := fun l => Z23 m.Scan.Fixed m.Scan.Zj m.Scan.Zk m.Scan.Zm m.Scan.Zl m.Scan.Steps m.Sort_.Fixed m.Sort_.Zj m.Sort_.Zk m.Sort_.Zm m.Sort_.Zl m.Sort_.Steps m.Hash.Fixed m.Hash.Zj m.Hash.Zk m.Hash.Zm m.Hash.Zl m.Hash.Steps m.Merge.Fixed m.Merge.Zj m.Merge.Zk m.Merge.Zm m.Merge.Zl m.Merge.Steps m.Nested.Fixed m.Nested.Zj m.Nested.Zk m.Nested.Zm m.Nested.Zl m.Nested.Steps l
  by_cases h1 : Zd.sz m (1048576) < 0
  · simp [Znn, e1, h1]
  obtain ⟨b1, g1⟩ := Zd.Z7 m _ hm (by omega) (by omega) (by omega : 0 ≤ Zd.sz m (1048576))
  have e2 := fun l => Zbgu c.Clock c.Entries l (hc.2)
  by_cases h2 : Zv.sz c (Zd.sz m (1048576)) < 0
  · simp [Znn, e1, h1, e2, h2]
  obtain ⟨b2, g2⟩ := Zv.Z7 c _ hc (by omega) (by omega) (by omega : 0 ≤ Zv.sz c (Zd.sz m (1048576)))
  have t1 := Z21 m.Scan.Fixed m.Scan.Zj m.Scan.Zk m.Scan.Zm m.Scan.Zl m.Scan.Steps m.Sort_.Fixed m.Sort_.Zj m.Sort_.Zk m.Sort_.Zm m.Sort_.Zl m.Sort_.Steps m.Hash.Fixed m.Hash.Zj m.Hash.Zk m.Hash.Zm m.Hash.Zl m.Hash.Steps m.Merge.Fixed m.Merge.Zj m.Merge.Zk m.Merge.Zm m.Merge.Zl m.Merge.Steps m.Nested.Fixed m.Nested.Zj m.Nested.Zk m.Nested.Zm m.Nested.Zl m.Nested.Steps (g1.1) (g1.2.1) (g1.2.2.1) (g1.2.2.2.1) (g1.2.2.2.2)
  have q1 := fun y0 y1 y2 y3 y4 y5 y6 y7 y8 y9 y10 y11 y12 y13 y14 y15 y16 y17 y18 y19 y20 y21 y22 y23 y24 y25 y26 y27 y28 y29 => Z22 m.Scan.Fixed m.Scan.Zj m.Scan.Zk m.Scan.Zm m.Scan.Zl m.Scan.Steps m.Sort_.Fixed m.Sort_.Zj m.Sort_.Zk m.Sort_.Zm m.Sort_.Zl m.Sort_.Steps m.Hash.Fixed m.Hash.Zj m.Hash.Zk m.Hash.Zm m.Hash.Zl m.Hash.Steps m.Merge.Fixed m.Merge.Zj m.Merge.Zk m.Merge.Zm m.Merge.Zl m.Merge.Steps m.Nested.Fixed m.Nested.Zj m.Nested.Zk m.Nested.Zm m.Nested.Zl m.Nested.Steps y0 y1 y2 y3 y4 y5 y6 y7 y8 y9 y10 y11 y12 y13 y14 y15 y16 y17 y18 y19 y20 y21 y22 y23 y24 y25 y26 y27 y28 y29 (g1.1) (g1.2.1) (g1.2.2.1) (g1.2.2.2.1) (g1.2.2.2.2)
  have t2 := Zbgs c.Clock c.Entries (g2)
  have q2 := fun y0 y1 => Zbgt c.Clock c.Entries y0 y1 (g2)
  have n1 : LeM m := ⟨by have := g1.1; omega, by have := g1.2.1; omega, by have := g1.2.2.1; omega, by have := g1.2.2.2.1; omega, by have := g1.2.2.2.2; omega⟩
  have n2 : LeC c := ⟨by have := g2.1; omega, fun e he => ⟨⟨by have := (g2.2 e he).1.1; omega, fun x hx => by have := ((g2.2 e he).1.2 x hx).2; omega⟩, ⟨by have := (g2.2 e he).2.2.1; omega, by have := (g2.2 e he).2.2.2; omega⟩⟩⟩
  have s0 := Zbg0 m n1 c n2
  unfold Zmx at s0
  have s1 := Zbgx m n1 c n2
  unfold Zmu at s1
  simp only [Zd.c_def, Zv.c_def, List.map_cons, List.map_nil] at s0 s1
  simp +decide [Znn, e1, h1, e2, h2, t1, q1, t2, q2, s0, s1]
end Go.Proofs.YtbapkgocloaaeaaGreat
