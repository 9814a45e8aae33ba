/-
  The contracts of the regular helper functions, as printed by program.
-/
import Derived.Test.YtiniphmomjnocaaK
namespace Go.Proofs.Ytiniphmomjnocaa
open Go.AM
set_option linter.unusedSimpArgs false
set_option linter.unusedVariables false

theorem l_toIntS (xs : List Int) (h : SmA xs) (fr : List Fr) : ∀ i, i ≤ xs.length → EvL C fr [0, 3, 4] B_laws_toIntS_0 ⟨[(0, L 1 (xs.map ic)), (3, .own 0), (4, I i)], [[]], [.arr t_int 1 true (fill ic [.int .i64 0] xs i)]⟩ =
    EvX C fr (.x 0) ⟨[(0, L 1 (xs.map ic)), (3, .own 0), (4, I xs.length), (11, Bo false)], [[]], [.arr t_int 1 true (xs.map ic)]⟩ := by
  have hl : xs.length ≤ 4294967296 := h
  refine down xs.length ?_ ?_
  · rw [EvL_eq B_laws_toIntS_0.eq_1]
    simp [fill_all]
  · intro i hi ih
    rw [EvL_eq B_laws_toIntS_0.eq_1, ← ih]
    have h1 := fill_set (f := ic) (z := [.int .i64 0]) hi
    have h3 := fill_len (f := ic) (z := [.int .i64 0]) (Nat.le_of_lt hi)
    have h4 : IntKind.wrap .i64 ((i : Int) + 1) = (i : Int) + 1 := wrap64 (by omega) (by omega)
    simp at h1
    simp [hi, h3, h4, h1]
theorem c_toIntS (xs : List Int) (h : SmA xs) : C f_laws_toIntS [L 1 (xs.map ic)] [] = some (.own 0, [.arr t_int 1 true (xs.map ic)]) := by
  refine run t_laws_toIntS rfl ?_
  have hl : xs.length ≤ 4294967296 := h
  have h1 : ∀ b, b ≤ 4096 → xs.length * b ≤ room := fun b hb => Nat.le_trans (Nat.mul_le_mul hl hb) (by decide)
  have h2 : (xs.length : Int) ≤ 140737488355328 := by omega
  have h3 := fun fr => l_toIntS xs h fr 0 (Nat.zero_le _)
  simp [fill_zero] at h3
  simp [M_laws_toIntS, h1, h2, h3]

theorem l_eqIntS (xs ys : List Int) (h : SmA xs) (hl : ys.length = xs.length) (fr : List Fr) : ∀ i, i ≤ xs.length → EvL C fr [0, 1, 5] B_laws_eqIntS_0 ⟨[(0, L 1 (xs.map ic)), (1, L 1 (ys.map ic)), (5, I i)], [[]], []⟩ =
    if xs.drop i = ys.drop i then EvX C fr (.x 0) ⟨[(0, L 1 (xs.map ic)), (1, L 1 (ys.map ic)), (5, I xs.length), (14, Bo false)], [[]], []⟩ else EvX C fr .r ⟨[(4, Bo false)], [[]], []⟩ := by
  have hm : xs.length ≤ 4294967296 := h
  refine down xs.length ?_ ?_
  · rw [EvL_eq B_laws_eqIntS_0.eq_1]
    simp [hl, List.drop_eq_nil_of_le]
  · intro i hi ih
    have hi2 : i < ys.length := by omega
    have h4 : IntKind.wrap .i64 ((i : Int) + 1) = (i : Int) + 1 := wrap64 (by omega) (by omega)
    rw [EvL_eq B_laws_eqIntS_0.eq_1]
    simp +decide [hi, hi2, h4]
    simp at ih
    simp only [drop_eq_iff hi hi2, ih]
    split <;> first | (simp_all; done) | grind
theorem c_eqIntS (xs ys : List Int) (h : SmA xs) : C f_laws_eqIntS [L 1 (xs.map ic), L 1 (ys.map ic)] [] = some (Bo (decide (xs = ys)), []) := by
  refine run t_laws_eqIntS rfl ?_
  by_cases hl : ys.length = xs.length
  · have h3 := fun fr => l_eqIntS xs ys h hl fr 0 (Nat.zero_le _)
    simp at h3
    simp [M_laws_eqIntS, h3, hl]
    split <;> simp_all
  · have h1 : xs ≠ ys := fun h => hl (by rw [h])
    have h2 : ¬ ((xs.length : Int) = ys.length) := by omega
    simp [M_laws_eqIntS, h1, h2]

@[simp] theorem c_szIntS (es : List (List T)) (left : Int) : C f_laws_szIntS [L 1 es, I left] [] = some (I (sz1 es.length left), []) := by
  refine run t_laws_szIntS rfl ?_
  simp [M_laws_szIntS, sz1]
  split <;> simp_all

theorem l_toIntSS (xs : List (List Int)) (h : SmL SmA xs) (fr : List Fr) : ∀ i, i ≤ xs.length → EvL C fr [0, 3, 4] B_laws_toIntSS_0 ⟨[(0, L 1 (xs.map isc)), (3, .own 0), (4, I i)], [[]], [.arr t_s_int 1 true (fill isc [.nil] xs i)]⟩ =
    EvX C fr (.x 0) ⟨[(0, L 1 (xs.map isc)), (3, .own 0), (4, I xs.length), (11, Bo false)], [[]], [.arr t_s_int 1 true (xs.map isc)]⟩ := by
  have hl : xs.length ≤ 4294967296 := h.1
  refine down xs.length ?_ ?_
  · rw [EvL_eq B_laws_toIntSS_0.eq_1]
    simp [fill_all]
  · intro i hi ih
    rw [EvL_eq B_laws_toIntSS_0.eq_1, ← ih]
    have h1 := fill_set (f := isc) (z := [.nil]) hi
    have h3 := fill_len (f := isc) (z := [.nil]) (Nat.le_of_lt hi)
    have h4 : IntKind.wrap .i64 ((i : Int) + 1) = (i : Int) + 1 := wrap64 (by omega) (by omega)
    simp at h1
    simp [hi, c_toIntS _ (h.2 _ (List.getElem_mem hi)), h3, h4, h1]
theorem c_toIntSS (xs : List (List Int)) (h : SmL SmA xs) : C f_laws_toIntSS [L 1 (xs.map isc)] [] = some (.own 0, [.arr t_s_int 1 true (xs.map isc)]) := by
  refine run t_laws_toIntSS rfl ?_
  have hl : xs.length ≤ 4294967296 := h.1
  have h1 : ∀ b, b ≤ 4096 → xs.length * b ≤ room := fun b hb => Nat.le_trans (Nat.mul_le_mul hl hb) (by decide)
  have h2 : (xs.length : Int) ≤ 140737488355328 := by omega
  have h3 := fun fr => l_toIntSS xs h fr 0 (Nat.zero_le _)
  simp [fill_zero] at h3
  simp [M_laws_toIntSS, h1, h2, h3]

theorem l_eqIntSS (xs ys : List (List Int)) (h : SmL SmA xs) (hl : ys.length = xs.length) (fr : List Fr) : ∀ i, i ≤ xs.length → EvL C fr [0, 1, 5] B_laws_eqIntSS_0 ⟨[(0, L 1 (xs.map isc)), (1, L 1 (ys.map isc)), (5, I i)], [[]], []⟩ =
    if xs.drop i = ys.drop i then EvX C fr (.x 0) ⟨[(0, L 1 (xs.map isc)), (1, L 1 (ys.map isc)), (5, I xs.length), (14, Bo false)], [[]], []⟩ else EvX C fr .r ⟨[(4, Bo false)], [[]], []⟩ := by
  have hm : xs.length ≤ 4294967296 := h.1
  refine down xs.length ?_ ?_
  · rw [EvL_eq B_laws_eqIntSS_0.eq_1]
    simp [hl, List.drop_eq_nil_of_le]
  · intro i hi ih
    have hi2 : i < ys.length := by omega
    have h4 : IntKind.wrap .i64 ((i : Int) + 1) = (i : Int) + 1 := wrap64 (by omega) (by omega)
    rw [EvL_eq B_laws_eqIntSS_0.eq_1]
    simp +decide [hi, hi2, c_eqIntS _ _ (h.2 _ (List.getElem_mem hi)), h4]
    simp at ih
    simp only [drop_eq_iff hi hi2, ih]
    split <;> first | (simp_all; done) | grind
theorem c_eqIntSS (xs ys : List (List Int)) (h : SmL SmA xs) : C f_laws_eqIntSS [L 1 (xs.map isc), L 1 (ys.map isc)] [] = some (Bo (decide (xs = ys)), []) := by
  refine run t_laws_eqIntSS rfl ?_
  by_cases hl : ys.length = xs.length
  · have h3 := fun fr => l_eqIntSS xs ys h hl fr 0 (Nat.zero_le _)
    simp at h3
    simp [M_laws_eqIntSS, h3, hl]
    split <;> simp_all
  · have h1 : xs ≠ ys := fun h => hl (by rw [h])
    have h2 : ¬ ((xs.length : Int) = ys.length) := by omega
    simp [M_laws_eqIntSS, h1, h2]

theorem l_szIntSS (xs : List (List Int)) (h : OkL (OkL OkI) xs) (fr : List Fr) : ∀ i, i ≤ xs.length → ∀ left : Int,
    (EvL C fr [0, 1, 5] B_laws_szIntSS_0 ⟨[(0, L 1 (xs.map isc)), (1, I left), (5, I i)], [[]], []⟩ = EvX C fr .r ⟨[(4, I (-1))], [[]], []⟩ ∧ szFold szI (xs.drop i) left = -1) ∨
    EvL C fr [0, 1, 5] B_laws_szIntSS_0 ⟨[(0, L 1 (xs.map isc)), (1, I left), (5, I i)], [[]], []⟩ = EvX C fr (.x 0) ⟨[(0, L 1 (xs.map isc)), (1, I (szFold szI (xs.drop i) left)), (5, I xs.length), (15, Bo false)], [[]], []⟩ := by
  have hm : maxLen ≤ 9223372036854775807 := by decide
  have hl := h.1
  refine down xs.length ?_ ?_
  · intro left
    right
    rw [EvL_eq B_laws_szIntSS_0.eq_1]
    simp [List.drop_eq_nil_of_le, szFold]
  · intro i hi ih left
    have h4 : IntKind.wrap .i64 ((i : Int) + 1) = (i : Int) + 1 := wrap64 (by omega) (by omega)
    have e : EvL C fr [0, 1, 5] B_laws_szIntSS_0 ⟨[(0, L 1 (xs.map isc)), (1, I left), (5, I i)], [[]], []⟩ = if szI xs[i] left < 0 then EvX C fr .r ⟨[(4, I (-1))], [[]], []⟩ else EvL C fr [0, 1, 5] B_laws_szIntSS_0 ⟨[(0, L 1 (xs.map isc)), (1, I (szI xs[i] left)), (5, I ((i + 1 : Nat) : Int))], [[]], []⟩ := by
      rw [EvL_eq B_laws_szIntSS_0.eq_1]
      simp [hi, c_szIntS, h4]
    rw [e, List.drop_eq_getElem_cons hi, szFold]
    split
    · exact .inl ⟨rfl, rfl⟩
    · exact ih _
theorem c_szIntSS (xs : List (List Int)) (left : Int) (h : OkL (OkL OkI) xs) : C f_laws_szIntSS [L 1 (xs.map isc), I left] [] = some (I (szL szI xs left), []) := by
  refine run t_laws_szIntSS rfl ?_
  have h3 := fun fr l => l_szIntSS xs h fr 0 (Nat.zero_le _) l
  simp at h3
  simp [M_laws_szIntSS, szL, andSz, sz1]
  split
  · simp_all
  · rcases h3 [.blk 0, .seq _, .fin _ _] (IntKind.wrap .i64 (left - xs.length)) with ⟨h5, h6⟩ | h5
    · rw [h5]; simp [h6]
    · rw [h5]; simp

theorem c_toAtom (x0 : ByteArray) (x1 : List Int) (h1 : SmA x1) : C f_laws_toAtom [.agg [.t (.str x0), .t (tI x1)]] [] = some (.agg [.t (.str x0), .own 0], [.arr t_int 1 true (x1.map ic)]) := by
  refine run t_laws_toAtom rfl ?_
  simp [M_laws_toAtom, c_toIntS _ h1]

theorem c_eqAtom (x0 : ByteArray) (x1 : List Int) (y0 : ByteArray) (y1 : List Int) (h1 : SmA x1) : C f_laws_eqAtom [.agg [.t (.str x0), .t (tI x1)], .agg [.t (.str y0), .t (tI y1)]] [] = some (Bo (decide (x0 = y0 ∧ x1 = y1)), []) := by
  refine run t_laws_eqAtom rfl ?_
  simp [M_laws_eqAtom, c_eqIntS _ _ h1]
  repeat' split
  all_goals first | (simp_all; done) | grind

theorem c_szAtom (x0 : ByteArray) (x1 : List Int) (left : Int)  : C f_laws_szAtom [.agg [.t (.str x0), .t (tI x1)], I left] [] = some (I (Atom.sz ⟨x0, x1⟩ left), []) := by
  refine run t_laws_szAtom rfl ?_
  simp [M_laws_szAtom, c_szIntS, Atom.sz, andSz, sz1]
  repeat' split
  all_goals first | (simp_all; done) | grind

theorem l_toAtomS (xs : List Atom) (h : SmL Atom.small xs) (fr : List Fr) : ∀ i, i ≤ xs.length → EvL C fr [0, 3, 4] B_laws_toAtomS_0 ⟨[(0, L 2 (xs.map Atom.c)), (3, .own 0), (4, I i)], [[]], [.arr t_impl_Atom 2 true (fill Atom.c [.str ⟨#[]⟩, .nil] xs i)]⟩ =
    EvX C fr (.x 0) ⟨[(0, L 2 (xs.map Atom.c)), (3, .own 0), (4, I xs.length), (11, Bo false)], [[]], [.arr t_impl_Atom 2 true (xs.map Atom.c)]⟩ := by
  have hl : xs.length ≤ 4294967296 := h.1
  refine down xs.length ?_ ?_
  · rw [EvL_eq B_laws_toAtomS_0.eq_1]
    simp [fill_all]
  · intro i hi ih
    rw [EvL_eq B_laws_toAtomS_0.eq_1, ← ih]
    have h1 := fill_set (f := Atom.c) (z := [.str ⟨#[]⟩, .nil]) hi
    have h3 := fill_len (f := Atom.c) (z := [.str ⟨#[]⟩, .nil]) (Nat.le_of_lt hi)
    have h4 : IntKind.wrap .i64 ((i : Int) + 1) = (i : Int) + 1 := wrap64 (by omega) (by omega)
    simp at h1
    simp [hi, c_toAtom _ _ (h.2 _ (List.getElem_mem hi)).2, h3, h4, h1]
theorem c_toAtomS (xs : List Atom) (h : SmL Atom.small xs) : C f_laws_toAtomS [L 2 (xs.map Atom.c)] [] = some (.own 0, [.arr t_impl_Atom 2 true (xs.map Atom.c)]) := by
  refine run t_laws_toAtomS rfl ?_
  have hl : xs.length ≤ 4294967296 := h.1
  have h1 : ∀ b, b ≤ 4096 → xs.length * b ≤ room := fun b hb => Nat.le_trans (Nat.mul_le_mul hl hb) (by decide)
  have h2 : (xs.length : Int) ≤ 140737488355328 := by omega
  have h3 := fun fr => l_toAtomS xs h fr 0 (Nat.zero_le _)
  simp [fill_zero] at h3
  simp [M_laws_toAtomS, h1, h2, h3]

theorem l_eqAtomS (xs ys : List Atom) (h : SmL Atom.small xs) (hl : ys.length = xs.length) (fr : List Fr) : ∀ i, i ≤ xs.length → EvL C fr [0, 1, 5] B_laws_eqAtomS_0 ⟨[(0, L 2 (xs.map Atom.c)), (1, L 2 (ys.map Atom.c)), (5, I i)], [[]], []⟩ =
    if xs.drop i = ys.drop i then EvX C fr (.x 0) ⟨[(0, L 2 (xs.map Atom.c)), (1, L 2 (ys.map Atom.c)), (5, I xs.length), (14, Bo false)], [[]], []⟩ else EvX C fr .r ⟨[(4, Bo false)], [[]], []⟩ := by
  have hm : xs.length ≤ 4294967296 := h.1
  refine down xs.length ?_ ?_
  · rw [EvL_eq B_laws_eqAtomS_0.eq_1]
    simp [hl, List.drop_eq_nil_of_le]
  · intro i hi ih
    have hi2 : i < ys.length := by omega
    have h4 : IntKind.wrap .i64 ((i : Int) + 1) = (i : Int) + 1 := wrap64 (by omega) (by omega)
    rw [EvL_eq B_laws_eqAtomS_0.eq_1]
    simp +decide [hi, hi2, c_eqAtom _ _ _ _ (h.2 _ (List.getElem_mem hi)).2, h4]
    simp at ih
    simp only [drop_eq_iff hi hi2, ih, Atom.ext_iff]
    split <;> first | (simp_all; done) | grind
theorem c_eqAtomS (xs ys : List Atom) (h : SmL Atom.small xs) : C f_laws_eqAtomS [L 2 (xs.map Atom.c), L 2 (ys.map Atom.c)] [] = some (Bo (decide (xs = ys)), []) := by
  refine run t_laws_eqAtomS rfl ?_
  by_cases hl : ys.length = xs.length
  · have h3 := fun fr => l_eqAtomS xs ys h hl fr 0 (Nat.zero_le _)
    simp at h3
    simp [M_laws_eqAtomS, h3, hl]
    split <;> simp_all
  · have h1 : xs ≠ ys := fun h => hl (by rw [h])
    have h2 : ¬ ((xs.length : Int) = ys.length) := by omega
    simp [M_laws_eqAtomS, h1, h2]

theorem l_szAtomS (xs : List Atom) (h : OkL Atom.okay xs) (fr : List Fr) : ∀ i, i ≤ xs.length → ∀ left : Int,
    (EvL C fr [0, 1, 5] B_laws_szAtomS_0 ⟨[(0, L 2 (xs.map Atom.c)), (1, I left), (5, I i)], [[]], []⟩ = EvX C fr .r ⟨[(4, I (-1))], [[]], []⟩ ∧ szFold Atom.sz (xs.drop i) left = -1) ∨
    EvL C fr [0, 1, 5] B_laws_szAtomS_0 ⟨[(0, L 2 (xs.map Atom.c)), (1, I left), (5, I i)], [[]], []⟩ = EvX C fr (.x 0) ⟨[(0, L 2 (xs.map Atom.c)), (1, I (szFold Atom.sz (xs.drop i) left)), (5, I xs.length), (15, Bo false)], [[]], []⟩ := by
  have hm : maxLen ≤ 9223372036854775807 := by decide
  have hl := h.1
  refine down xs.length ?_ ?_
  · intro left
    right
    rw [EvL_eq B_laws_szAtomS_0.eq_1]
    simp [List.drop_eq_nil_of_le, szFold]
  · intro i hi ih left
    have h4 : IntKind.wrap .i64 ((i : Int) + 1) = (i : Int) + 1 := wrap64 (by omega) (by omega)
    have e : EvL C fr [0, 1, 5] B_laws_szAtomS_0 ⟨[(0, L 2 (xs.map Atom.c)), (1, I left), (5, I i)], [[]], []⟩ = if Atom.sz xs[i] left < 0 then EvX C fr .r ⟨[(4, I (-1))], [[]], []⟩ else EvL C fr [0, 1, 5] B_laws_szAtomS_0 ⟨[(0, L 2 (xs.map Atom.c)), (1, I (Atom.sz xs[i] left)), (5, I ((i + 1 : Nat) : Int))], [[]], []⟩ := by
      rw [EvL_eq B_laws_szAtomS_0.eq_1]
      simp [hi, c_szAtom, h4]
    rw [e, List.drop_eq_getElem_cons hi, szFold]
    split
    · exact .inl ⟨rfl, rfl⟩
    · exact ih _
theorem c_szAtomS (xs : List Atom) (left : Int) (h : OkL Atom.okay xs) : C f_laws_szAtomS [L 2 (xs.map Atom.c), I left] [] = some (I (szL Atom.sz xs left), []) := by
  refine run t_laws_szAtomS rfl ?_
  have h3 := fun fr l => l_szAtomS xs h fr 0 (Nat.zero_le _) l
  simp at h3
  simp [M_laws_szAtomS, szL, andSz, sz1]
  split
  · simp_all
  · rcases h3 [.blk 0, .seq _, .fin _ _] (IntKind.wrap .i64 (left - xs.length)) with ⟨h5, h6⟩ | h5
    · rw [h5]; simp [h6]
    · rw [h5]; simp

theorem c_toQuery (x0 : Int) (x1 : List Atom) (h1 : SmL Atom.small x1) : C f_laws_toQuery [.agg [I x0, .t (.lst 2 (x1.map Atom.c))]] [] = some (.agg [I x0, .own 0], [.arr t_impl_Atom 2 true (x1.map Atom.c)]) := by
  refine run t_laws_toQuery rfl ?_
  simp [M_laws_toQuery, c_toAtomS _ h1]

theorem c_eqQuery (x0 : Int) (x1 : List Atom) (y0 : Int) (y1 : List Atom) (h1 : SmL Atom.small x1) : C f_laws_eqQuery [.agg [I x0, .t (.lst 2 (x1.map Atom.c))], .agg [I y0, .t (.lst 2 (y1.map Atom.c))]] [] = some (Bo (decide (x0 = y0 ∧ x1 = y1)), []) := by
  refine run t_laws_eqQuery rfl ?_
  simp [M_laws_eqQuery, c_eqAtomS _ _ h1]
  repeat' split
  all_goals first | (simp_all; done) | grind

theorem c_szQuery (x0 : Int) (x1 : List Atom) (left : Int) (h1 : OkL Atom.okay x1) : C f_laws_szQuery [.agg [I x0, .t (.lst 2 (x1.map Atom.c))], I left] [] = some (I (Query.sz ⟨x0, x1⟩ left), []) := by
  refine run t_laws_szQuery rfl ?_
  simp [M_laws_szQuery, c_szAtomS _ _ h1, Query.sz, andSz, sz1]
  repeat' split
  all_goals first | (simp_all; done) | grind

theorem c_toBox (x0 : List Int) (x1 : List Int) (h0 : SmA x0) (h1 : SmA x1) : C f_laws_toBox [.agg [.t (tI x0), .t (tI x1)]] [] = some (.agg [.own 0, .own 1], [.arr t_int 1 true (x0.map ic), .arr t_int 1 true (x1.map ic)]) := by
  refine run t_laws_toBox rfl ?_
  simp [M_laws_toBox, c_toIntS _ h0, c_toIntS _ h1]

theorem c_eqBox (x0 : List Int) (x1 : List Int) (y0 : List Int) (y1 : List Int) (h0 : SmA x0) (h1 : SmA x1) : C f_laws_eqBox [.agg [.t (tI x0), .t (tI x1)], .agg [.t (tI y0), .t (tI y1)]] [] = some (Bo (decide (x0 = y0 ∧ x1 = y1)), []) := by
  refine run t_laws_eqBox rfl ?_
  simp [M_laws_eqBox, c_eqIntS _ _ h0, c_eqIntS _ _ h1]
  repeat' split
  all_goals first | (simp_all; done) | grind

theorem c_szBox (x0 : List Int) (x1 : List Int) (left : Int)  : C f_laws_szBox [.agg [.t (tI x0), .t (tI x1)], I left] [] = some (I (Box.sz ⟨x0, x1⟩ left), []) := by
  refine run t_laws_szBox rfl ?_
  simp [M_laws_szBox, c_szIntS, Box.sz, andSz, sz1]
  repeat' split
  all_goals first | (simp_all; done) | grind

theorem c_toPlanStep (x0 : Int) (x1 : Int) (x2 : Int)  : C f_laws_toPlanStep [.agg [I x0, I x1, I x2]] [] = some (.agg [I x0, I x1, I x2], []) := by
  refine run t_laws_toPlanStep rfl ?_
  simp [M_laws_toPlanStep]

theorem c_eqPlanStep (x0 : Int) (x1 : Int) (x2 : Int) (y0 : Int) (y1 : Int) (y2 : Int)  : C f_laws_eqPlanStep [.agg [I x0, I x1, I x2], .agg [I y0, I y1, I y2]] [] = some (Bo (decide (x0 = y0 ∧ x1 = y1 ∧ x2 = y2)), []) := by
  refine run t_laws_eqPlanStep rfl ?_
  simp [M_laws_eqPlanStep]
  repeat' split
  all_goals first | (simp_all; done) | grind

theorem l_toPlanStepS (xs : List PlanStep) (h : SmA xs) (fr : List Fr) : ∀ i, i ≤ xs.length → EvL C fr [0, 3, 4] B_laws_toPlanStepS_0 ⟨[(0, L 3 (xs.map PlanStep.c)), (3, .own 0), (4, I i)], [[]], [.arr t_impl_PlanStep 3 true (fill PlanStep.c [.int .i64 0, .int .i64 0, .int .i64 0] xs i)]⟩ =
    EvX C fr (.x 0) ⟨[(0, L 3 (xs.map PlanStep.c)), (3, .own 0), (4, I xs.length), (11, Bo false)], [[]], [.arr t_impl_PlanStep 3 true (xs.map PlanStep.c)]⟩ := by
  have hl : xs.length ≤ 4294967296 := h
  refine down xs.length ?_ ?_
  · rw [EvL_eq B_laws_toPlanStepS_0.eq_1]
    simp [fill_all]
  · intro i hi ih
    rw [EvL_eq B_laws_toPlanStepS_0.eq_1, ← ih]
    have h1 := fill_set (f := PlanStep.c) (z := [.int .i64 0, .int .i64 0, .int .i64 0]) hi
    have h3 := fill_len (f := PlanStep.c) (z := [.int .i64 0, .int .i64 0, .int .i64 0]) (Nat.le_of_lt hi)
    have h4 : IntKind.wrap .i64 ((i : Int) + 1) = (i : Int) + 1 := wrap64 (by omega) (by omega)
    simp at h1
    simp [hi, c_toPlanStep, h3, h4, h1]
theorem c_toPlanStepS (xs : List PlanStep) (h : SmA xs) : C f_laws_toPlanStepS [L 3 (xs.map PlanStep.c)] [] = some (.own 0, [.arr t_impl_PlanStep 3 true (xs.map PlanStep.c)]) := by
  refine run t_laws_toPlanStepS rfl ?_
  have hl : xs.length ≤ 4294967296 := h
  have h1 : ∀ b, b ≤ 4096 → xs.length * b ≤ room := fun b hb => Nat.le_trans (Nat.mul_le_mul hl hb) (by decide)
  have h2 : (xs.length : Int) ≤ 140737488355328 := by omega
  have h3 := fun fr => l_toPlanStepS xs h fr 0 (Nat.zero_le _)
  simp [fill_zero] at h3
  simp [M_laws_toPlanStepS, h1, h2, h3]

theorem l_eqPlanStepS (xs ys : List PlanStep) (h : SmA xs) (hl : ys.length = xs.length) (fr : List Fr) : ∀ i, i ≤ xs.length → EvL C fr [0, 1, 5] B_laws_eqPlanStepS_0 ⟨[(0, L 3 (xs.map PlanStep.c)), (1, L 3 (ys.map PlanStep.c)), (5, I i)], [[]], []⟩ =
    if xs.drop i = ys.drop i then EvX C fr (.x 0) ⟨[(0, L 3 (xs.map PlanStep.c)), (1, L 3 (ys.map PlanStep.c)), (5, I xs.length), (14, Bo false)], [[]], []⟩ else EvX C fr .r ⟨[(4, Bo false)], [[]], []⟩ := by
  have hm : xs.length ≤ 4294967296 := h
  refine down xs.length ?_ ?_
  · rw [EvL_eq B_laws_eqPlanStepS_0.eq_1]
    simp [hl, List.drop_eq_nil_of_le]
  · intro i hi ih
    have hi2 : i < ys.length := by omega
    have h4 : IntKind.wrap .i64 ((i : Int) + 1) = (i : Int) + 1 := wrap64 (by omega) (by omega)
    rw [EvL_eq B_laws_eqPlanStepS_0.eq_1]
    simp +decide [hi, hi2, c_eqPlanStep _ _ _ _ _ _ , h4]
    simp at ih
    simp only [drop_eq_iff hi hi2, ih, PlanStep.ext_iff]
    split <;> first | (simp_all; done) | grind
theorem c_eqPlanStepS (xs ys : List PlanStep) (h : SmA xs) : C f_laws_eqPlanStepS [L 3 (xs.map PlanStep.c), L 3 (ys.map PlanStep.c)] [] = some (Bo (decide (xs = ys)), []) := by
  refine run t_laws_eqPlanStepS rfl ?_
  by_cases hl : ys.length = xs.length
  · have h3 := fun fr => l_eqPlanStepS xs ys h hl fr 0 (Nat.zero_le _)
    simp at h3
    simp [M_laws_eqPlanStepS, h3, hl]
    split <;> simp_all
  · have h1 : xs ≠ ys := fun h => hl (by rw [h])
    have h2 : ¬ ((xs.length : Int) = ys.length) := by omega
    simp [M_laws_eqPlanStepS, h1, h2]

@[simp] theorem c_szPlanStepS (es : List (List T)) (left : Int) : C f_laws_szPlanStepS [L 3 es, I left] [] = some (I (sz1 es.length left), []) := by
  refine run t_laws_szPlanStepS rfl ?_
  simp [M_laws_szPlanStepS, sz1]
  split <;> simp_all

theorem c_toPlan (x0 : List PlanStep) (h0 : SmA x0) : C f_laws_toPlan [.agg [.t (.lst 3 (x0.map PlanStep.c))]] [] = some (.agg [.own 0], [.arr t_impl_PlanStep 3 true (x0.map PlanStep.c)]) := by
  refine run t_laws_toPlan rfl ?_
  simp [M_laws_toPlan, c_toPlanStepS _ h0]

theorem c_eqPlan (x0 : List PlanStep) (y0 : List PlanStep) (h0 : SmA x0) : C f_laws_eqPlan [.agg [.t (.lst 3 (x0.map PlanStep.c))], .agg [.t (.lst 3 (y0.map PlanStep.c))]] [] = some (Bo (decide (x0 = y0)), []) := by
  refine run t_laws_eqPlan rfl ?_
  simp [M_laws_eqPlan, c_eqPlanStepS _ _ h0]
  repeat' split
  all_goals first | (simp_all; done) | grind

theorem c_szPlan (x0 : List PlanStep) (left : Int)  : C f_laws_szPlan [.agg [.t (.lst 3 (x0.map PlanStep.c))], I left] [] = some (I (Plan.sz ⟨x0⟩ left), []) := by
  refine run t_laws_szPlan rfl ?_
  simp [M_laws_szPlan, c_szPlanStepS, Plan.sz, andSz, sz1]
  repeat' split
  all_goals first | (simp_all; done) | grind

theorem l_toPlanS (xs : List Plan) (h : SmL Plan.small xs) (fr : List Fr) : ∀ i, i ≤ xs.length → EvL C fr [0, 3, 4] B_laws_toPlanS_0 ⟨[(0, L 1 (xs.map Plan.c)), (3, .own 0), (4, I i)], [[]], [.arr t_impl_Plan 1 true (fill Plan.c [.nil] xs i)]⟩ =
    EvX C fr (.x 0) ⟨[(0, L 1 (xs.map Plan.c)), (3, .own 0), (4, I xs.length), (11, Bo false)], [[]], [.arr t_impl_Plan 1 true (xs.map Plan.c)]⟩ := by
  have hl : xs.length ≤ 4294967296 := h.1
  refine down xs.length ?_ ?_
  · rw [EvL_eq B_laws_toPlanS_0.eq_1]
    simp [fill_all]
  · intro i hi ih
    rw [EvL_eq B_laws_toPlanS_0.eq_1, ← ih]
    have h1 := fill_set (f := Plan.c) (z := [.nil]) hi
    have h3 := fill_len (f := Plan.c) (z := [.nil]) (Nat.le_of_lt hi)
    have h4 : IntKind.wrap .i64 ((i : Int) + 1) = (i : Int) + 1 := wrap64 (by omega) (by omega)
    simp at h1
    simp [hi, c_toPlan _ (h.2 _ (List.getElem_mem hi)), h3, h4, h1]
theorem c_toPlanS (xs : List Plan) (h : SmL Plan.small xs) : C f_laws_toPlanS [L 1 (xs.map Plan.c)] [] = some (.own 0, [.arr t_impl_Plan 1 true (xs.map Plan.c)]) := by
  refine run t_laws_toPlanS rfl ?_
  have hl : xs.length ≤ 4294967296 := h.1
  have h1 : ∀ b, b ≤ 4096 → xs.length * b ≤ room := fun b hb => Nat.le_trans (Nat.mul_le_mul hl hb) (by decide)
  have h2 : (xs.length : Int) ≤ 140737488355328 := by omega
  have h3 := fun fr => l_toPlanS xs h fr 0 (Nat.zero_le _)
  simp [fill_zero] at h3
  simp [M_laws_toPlanS, h1, h2, h3]

theorem l_eqPlanS (xs ys : List Plan) (h : SmL Plan.small xs) (hl : ys.length = xs.length) (fr : List Fr) : ∀ i, i ≤ xs.length → EvL C fr [0, 1, 5] B_laws_eqPlanS_0 ⟨[(0, L 1 (xs.map Plan.c)), (1, L 1 (ys.map Plan.c)), (5, I i)], [[]], []⟩ =
    if xs.drop i = ys.drop i then EvX C fr (.x 0) ⟨[(0, L 1 (xs.map Plan.c)), (1, L 1 (ys.map Plan.c)), (5, I xs.length), (14, Bo false)], [[]], []⟩ else EvX C fr .r ⟨[(4, Bo false)], [[]], []⟩ := by
  have hm : xs.length ≤ 4294967296 := h.1
  refine down xs.length ?_ ?_
  · rw [EvL_eq B_laws_eqPlanS_0.eq_1]
    simp [hl, List.drop_eq_nil_of_le]
  · intro i hi ih
    have hi2 : i < ys.length := by omega
    have h4 : IntKind.wrap .i64 ((i : Int) + 1) = (i : Int) + 1 := wrap64 (by omega) (by omega)
    rw [EvL_eq B_laws_eqPlanS_0.eq_1]
    simp +decide [hi, hi2, c_eqPlan _ _ (h.2 _ (List.getElem_mem hi)), h4]
    simp at ih
    simp only [drop_eq_iff hi hi2, ih, Plan.ext_iff]
    split <;> first | (simp_all; done) | grind
theorem c_eqPlanS (xs ys : List Plan) (h : SmL Plan.small xs) : C f_laws_eqPlanS [L 1 (xs.map Plan.c), L 1 (ys.map Plan.c)] [] = some (Bo (decide (xs = ys)), []) := by
  refine run t_laws_eqPlanS rfl ?_
  by_cases hl : ys.length = xs.length
  · have h3 := fun fr => l_eqPlanS xs ys h hl fr 0 (Nat.zero_le _)
    simp at h3
    simp [M_laws_eqPlanS, h3, hl]
    split <;> simp_all
  · have h1 : xs ≠ ys := fun h => hl (by rw [h])
    have h2 : ¬ ((xs.length : Int) = ys.length) := by omega
    simp [M_laws_eqPlanS, h1, h2]

theorem l_szPlanS (xs : List Plan) (h : OkL Plan.okay xs) (fr : List Fr) : ∀ i, i ≤ xs.length → ∀ left : Int,
    (EvL C fr [0, 1, 5] B_laws_szPlanS_0 ⟨[(0, L 1 (xs.map Plan.c)), (1, I left), (5, I i)], [[]], []⟩ = EvX C fr .r ⟨[(4, I (-1))], [[]], []⟩ ∧ szFold Plan.sz (xs.drop i) left = -1) ∨
    EvL C fr [0, 1, 5] B_laws_szPlanS_0 ⟨[(0, L 1 (xs.map Plan.c)), (1, I left), (5, I i)], [[]], []⟩ = EvX C fr (.x 0) ⟨[(0, L 1 (xs.map Plan.c)), (1, I (szFold Plan.sz (xs.drop i) left)), (5, I xs.length), (15, Bo false)], [[]], []⟩ := by
  have hm : maxLen ≤ 9223372036854775807 := by decide
  have hl := h.1
  refine down xs.length ?_ ?_
  · intro left
    right
    rw [EvL_eq B_laws_szPlanS_0.eq_1]
    simp [List.drop_eq_nil_of_le, szFold]
  · intro i hi ih left
    have h4 : IntKind.wrap .i64 ((i : Int) + 1) = (i : Int) + 1 := wrap64 (by omega) (by omega)
    have e : EvL C fr [0, 1, 5] B_laws_szPlanS_0 ⟨[(0, L 1 (xs.map Plan.c)), (1, I left), (5, I i)], [[]], []⟩ = if Plan.sz xs[i] left < 0 then EvX C fr .r ⟨[(4, I (-1))], [[]], []⟩ else EvL C fr [0, 1, 5] B_laws_szPlanS_0 ⟨[(0, L 1 (xs.map Plan.c)), (1, I (Plan.sz xs[i] left)), (5, I ((i + 1 : Nat) : Int))], [[]], []⟩ := by
      rw [EvL_eq B_laws_szPlanS_0.eq_1]
      simp [hi, c_szPlan, h4]
    rw [e, List.drop_eq_getElem_cons hi, szFold]
    split
    · exact .inl ⟨rfl, rfl⟩
    · exact ih _
theorem c_szPlanS (xs : List Plan) (left : Int) (h : OkL Plan.okay xs) : C f_laws_szPlanS [L 1 (xs.map Plan.c), I left] [] = some (I (szL Plan.sz xs left), []) := by
  refine run t_laws_szPlanS rfl ?_
  have h3 := fun fr l => l_szPlanS xs h fr 0 (Nat.zero_le _) l
  simp at h3
  simp [M_laws_szPlanS, szL, andSz, sz1]
  split
  · simp_all
  · rcases h3 [.blk 0, .seq _, .fin _ _] (IntKind.wrap .i64 (left - xs.length)) with ⟨h5, h6⟩ | h5
    · rw [h5]; simp [h6]
    · rw [h5]; simp

theorem c_toBouquet (x0 : Int) (x1 : Int) (x2 : Int) (x3 : List Int) (x4 : List Int) (x5 : List Int) (x6 : List Plan) (x7 : List (List Int)) (h3 : SmA x3) (h4 : SmA x4) (h5 : SmA x5) (h6 : SmL Plan.small x6) (h7 : SmL SmA x7) : C f_laws_toBouquet [.agg [I x0, I x1, I x2, .t (tI x3), .t (tI x4), .t (tI x5), .t (.lst 1 (x6.map Plan.c)), .t (tII x7)]] [] = some (.agg [I x0, I x1, I x2, .own 0, .own 1, .own 2, .own 3, .own 4], [.arr t_int 1 true (x3.map ic), .arr t_int 1 true (x4.map ic), .arr t_int 1 true (x5.map ic), .arr t_impl_Plan 1 true (x6.map Plan.c), .arr t_s_int 1 true (x7.map isc)]) := by
  refine run t_laws_toBouquet rfl ?_
  simp [M_laws_toBouquet, c_toBox _ _ h3 h4, c_toIntS _ h5, c_toPlanS _ h6, c_toIntSS _ h7]

theorem c_eqBouquet (x0 : Int) (x1 : Int) (x2 : Int) (x3 : List Int) (x4 : List Int) (x5 : List Int) (x6 : List Plan) (x7 : List (List Int)) (y0 : Int) (y1 : Int) (y2 : Int) (y3 : List Int) (y4 : List Int) (y5 : List Int) (y6 : List Plan) (y7 : List (List Int)) (h3 : SmA x3) (h4 : SmA x4) (h5 : SmA x5) (h6 : SmL Plan.small x6) (h7 : SmL SmA x7) : C f_laws_eqBouquet [.agg [I x0, I x1, I x2, .t (tI x3), .t (tI x4), .t (tI x5), .t (.lst 1 (x6.map Plan.c)), .t (tII x7)], .agg [I y0, I y1, I y2, .t (tI y3), .t (tI y4), .t (tI y5), .t (.lst 1 (y6.map Plan.c)), .t (tII y7)]] [] = some (Bo (decide (x0 = y0 ∧ x1 = y1 ∧ x2 = y2 ∧ x3 = y3 ∧ x4 = y4 ∧ x5 = y5 ∧ x6 = y6 ∧ x7 = y7)), []) := by
  refine run t_laws_eqBouquet rfl ?_
  simp [M_laws_eqBouquet, c_eqBox _ _ _ _ h3 h4, c_eqIntS _ _ h5, c_eqPlanS _ _ h6, c_eqIntSS _ _ h7]
  repeat' split
  all_goals first | (simp_all; done) | grind

theorem c_szBouquet (x0 : Int) (x1 : Int) (x2 : Int) (x3 : List Int) (x4 : List Int) (x5 : List Int) (x6 : List Plan) (x7 : List (List Int)) (left : Int) (h6 : OkL Plan.okay x6) (h7 : OkL (OkL OkI) x7) : C f_laws_szBouquet [.agg [I x0, I x1, I x2, .t (tI x3), .t (tI x4), .t (tI x5), .t (.lst 1 (x6.map Plan.c)), .t (tII x7)], I left] [] = some (I (Bouquet.sz ⟨x0, x1, x2, ⟨x3, x4⟩, x5, x6, x7⟩ left), []) := by
  refine run t_laws_szBouquet rfl ?_
  simp [M_laws_szBouquet, c_szBox, c_szIntS, c_szPlanS _ _ h6, c_szIntSS _ _ h7, Bouquet.sz, andSz, sz1]
  repeat' split
  all_goals first | (simp_all; done) | grind

theorem c_toRunNote (x0 : Int) (x1 : Int) (x2 : Int) (x3 : Int) (x4 : Bool)  : C f_laws_toRunNote [.agg [I x0, I x1, I x2, I x3, Bo x4]] [] = some (.agg [I x0, I x1, I x2, I x3, Bo x4], []) := by
  refine run t_laws_toRunNote rfl ?_
  simp [M_laws_toRunNote]

theorem c_eqRunNote (x0 : Int) (x1 : Int) (x2 : Int) (x3 : Int) (x4 : Bool) (y0 : Int) (y1 : Int) (y2 : Int) (y3 : Int) (y4 : Bool)  : C f_laws_eqRunNote [.agg [I x0, I x1, I x2, I x3, Bo x4], .agg [I y0, I y1, I y2, I y3, Bo y4]] [] = some (Bo (decide (x0 = y0 ∧ x1 = y1 ∧ x2 = y2 ∧ x3 = y3 ∧ x4 = y4)), []) := by
  refine run t_laws_eqRunNote rfl ?_
  simp [M_laws_eqRunNote]
  repeat' split
  all_goals first | (simp_all; done) | grind

theorem c_toRegion (x0 : List PlanStep) (x1 : List Int) (x2 : List Int) (x3 : Int) (h0 : SmA x0) (h1 : SmA x1) (h2 : SmA x2) : C f_laws_toRegion [.agg [.t (.lst 3 (x0.map PlanStep.c)), .t (tI x1), .t (tI x2), I x3]] [] = some (.agg [.own 0, .own 1, .own 2, I x3], [.arr t_impl_PlanStep 3 true (x0.map PlanStep.c), .arr t_int 1 true (x1.map ic), .arr t_int 1 true (x2.map ic)]) := by
  refine run t_laws_toRegion rfl ?_
  simp [M_laws_toRegion, c_toPlan _ h0, c_toBox _ _ h1 h2]

theorem c_eqRegion (x0 : List PlanStep) (x1 : List Int) (x2 : List Int) (x3 : Int) (y0 : List PlanStep) (y1 : List Int) (y2 : List Int) (y3 : Int) (h0 : SmA x0) (h1 : SmA x1) (h2 : SmA x2) : C f_laws_eqRegion [.agg [.t (.lst 3 (x0.map PlanStep.c)), .t (tI x1), .t (tI x2), I x3], .agg [.t (.lst 3 (y0.map PlanStep.c)), .t (tI y1), .t (tI y2), I y3]] [] = some (Bo (decide (x0 = y0 ∧ x1 = y1 ∧ x2 = y2 ∧ x3 = y3)), []) := by
  refine run t_laws_eqRegion rfl ?_
  simp [M_laws_eqRegion, c_eqPlan _ _ h0, c_eqBox _ _ _ _ h1 h2]
  repeat' split
  all_goals first | (simp_all; done) | grind

theorem c_szRegion (x0 : List PlanStep) (x1 : List Int) (x2 : List Int) (x3 : Int) (left : Int)  : C f_laws_szRegion [.agg [.t (.lst 3 (x0.map PlanStep.c)), .t (tI x1), .t (tI x2), I x3], I left] [] = some (I (Region.sz ⟨⟨x0⟩, ⟨x1, x2⟩, x3⟩ left), []) := by
  refine run t_laws_szRegion rfl ?_
  simp [M_laws_szRegion, c_szPlan, c_szBox, Region.sz, andSz, sz1]
  repeat' split
  all_goals first | (simp_all; done) | grind

theorem l_toRunNoteS (xs : List RunNote) (h : SmA xs) (fr : List Fr) : ∀ i, i ≤ xs.length → EvL C fr [0, 3, 4] B_laws_toRunNoteS_0 ⟨[(0, L 5 (xs.map RunNote.c)), (3, .own 0), (4, I i)], [[]], [.arr t_impl_RunNote 5 true (fill RunNote.c [.int .i64 0, .int .i64 0, .int .i64 0, .int .i64 0, .bool false] xs i)]⟩ =
    EvX C fr (.x 0) ⟨[(0, L 5 (xs.map RunNote.c)), (3, .own 0), (4, I xs.length), (11, Bo false)], [[]], [.arr t_impl_RunNote 5 true (xs.map RunNote.c)]⟩ := by
  have hl : xs.length ≤ 4294967296 := h
  refine down xs.length ?_ ?_
  · rw [EvL_eq B_laws_toRunNoteS_0.eq_1]
    simp [fill_all]
  · intro i hi ih
    rw [EvL_eq B_laws_toRunNoteS_0.eq_1, ← ih]
    have h1 := fill_set (f := RunNote.c) (z := [.int .i64 0, .int .i64 0, .int .i64 0, .int .i64 0, .bool false]) hi
    have h3 := fill_len (f := RunNote.c) (z := [.int .i64 0, .int .i64 0, .int .i64 0, .int .i64 0, .bool false]) (Nat.le_of_lt hi)
    have h4 : IntKind.wrap .i64 ((i : Int) + 1) = (i : Int) + 1 := wrap64 (by omega) (by omega)
    simp at h1
    simp [hi, c_toRunNote, h3, h4, h1]
theorem c_toRunNoteS (xs : List RunNote) (h : SmA xs) : C f_laws_toRunNoteS [L 5 (xs.map RunNote.c)] [] = some (.own 0, [.arr t_impl_RunNote 5 true (xs.map RunNote.c)]) := by
  refine run t_laws_toRunNoteS rfl ?_
  have hl : xs.length ≤ 4294967296 := h
  have h1 : ∀ b, b ≤ 4096 → xs.length * b ≤ room := fun b hb => Nat.le_trans (Nat.mul_le_mul hl hb) (by decide)
  have h2 : (xs.length : Int) ≤ 140737488355328 := by omega
  have h3 := fun fr => l_toRunNoteS xs h fr 0 (Nat.zero_le _)
  simp [fill_zero] at h3
  simp [M_laws_toRunNoteS, h1, h2, h3]

theorem l_eqRunNoteS (xs ys : List RunNote) (h : SmA xs) (hl : ys.length = xs.length) (fr : List Fr) : ∀ i, i ≤ xs.length → EvL C fr [0, 1, 5] B_laws_eqRunNoteS_0 ⟨[(0, L 5 (xs.map RunNote.c)), (1, L 5 (ys.map RunNote.c)), (5, I i)], [[]], []⟩ =
    if xs.drop i = ys.drop i then EvX C fr (.x 0) ⟨[(0, L 5 (xs.map RunNote.c)), (1, L 5 (ys.map RunNote.c)), (5, I xs.length), (14, Bo false)], [[]], []⟩ else EvX C fr .r ⟨[(4, Bo false)], [[]], []⟩ := by
  have hm : xs.length ≤ 4294967296 := h
  refine down xs.length ?_ ?_
  · rw [EvL_eq B_laws_eqRunNoteS_0.eq_1]
    simp [hl, List.drop_eq_nil_of_le]
  · intro i hi ih
    have hi2 : i < ys.length := by omega
    have h4 : IntKind.wrap .i64 ((i : Int) + 1) = (i : Int) + 1 := wrap64 (by omega) (by omega)
    rw [EvL_eq B_laws_eqRunNoteS_0.eq_1]
    simp +decide [hi, hi2, c_eqRunNote _ _ _ _ _ _ _ _ _ _ , h4]
    simp at ih
    simp only [drop_eq_iff hi hi2, ih, RunNote.ext_iff]
    split <;> first | (simp_all; done) | grind
theorem c_eqRunNoteS (xs ys : List RunNote) (h : SmA xs) : C f_laws_eqRunNoteS [L 5 (xs.map RunNote.c), L 5 (ys.map RunNote.c)] [] = some (Bo (decide (xs = ys)), []) := by
  refine run t_laws_eqRunNoteS rfl ?_
  by_cases hl : ys.length = xs.length
  · have h3 := fun fr => l_eqRunNoteS xs ys h hl fr 0 (Nat.zero_le _)
    simp at h3
    simp [M_laws_eqRunNoteS, h3, hl]
    split <;> simp_all
  · have h1 : xs ≠ ys := fun h => hl (by rw [h])
    have h2 : ¬ ((xs.length : Int) = ys.length) := by omega
    simp [M_laws_eqRunNoteS, h1, h2]

@[simp] theorem c_szRunNoteS (es : List (List T)) (left : Int) : C f_laws_szRunNoteS [L 5 es, I left] [] = some (I (sz1 es.length left), []) := by
  refine run t_laws_szRunNoteS rfl ?_
  simp [M_laws_szRunNoteS, sz1]
  split <;> simp_all

end Go.Proofs.Ytiniphmomjnocaa
