/-
  KeepResult: the walks and the law.
-/
import Derived.Test.YtlnnmndebmkdhaaW1
namespace Go.Proofs.Ytlnnmndebmkdhaa
open Go.AM
set_option linter.unusedSimpArgs false
set_option linter.unusedVariables false

def keepStep (x : Kept) (p : List Kept × Bool) (k : Kept) : List Kept × Bool :=
  let q := if p.2 = false ∧ x.Mask ≤ k.Mask then (p.1 ++ [x], true) else p
  if k.Mask = x.Mask then q else (q.1 ++ [k], q.2)
def keepF (l : List Kept) (x : Kept) : List Kept :=
  let p := l.foldl (keepStep x) ([], false)
  if p.2 = false then p.1 ++ [x] else p.1

theorem keepStep_len (x : Kept) (p : List Kept × Bool) (k : Kept) : (keepStep x p k).1.length ≤ p.1.length + 2 := by
  unfold keepStep
  simp only
  split <;> split <;> simp

theorem foldl_keep_len (x : Kept) (l : List Kept) : ∀ p, (l.foldl (keepStep x) p).1.length ≤ p.1.length + 2 * l.length := by
  induction l with
  | nil => intro p; simp
  | cons k l ih =>
    intro p
    have h1 := ih (keepStep x p k)
    have h2 := keepStep_len x p k
    simp only [List.foldl_cons, List.length_cons]
    omega

theorem l_spec_KeepResult (l : List Kept) (x : Kept) (hl : Le l) (fr : List Fr) : ∀ i, i ≤ l.length → ∀ out put, out.length ≤ 2 * i →
    EvL C fr [0, 3, 5, 6, 7] B_spec_KeepResult_0 ⟨[(0, L 2 (l.map Kept.c)), (3, .ptr 0 0), (5, .own 1), (6, Bo put), (7, I i)], [[]], [.box [I x.Mask, I x.Size], .arr t_impl_Kept 2 true (out.map Kept.c)]⟩ =
    EvX C fr (.x 0) ⟨[(0, L 2 (l.map Kept.c)), (3, .ptr 0 0), (5, .own 1), (6, Bo ((l.drop i).foldl (keepStep x) (out, put)).2), (7, I l.length), (12, Bo false)], [[]], [.box [I x.Mask, I x.Size], .arr t_impl_Kept 2 true (((l.drop i).foldl (keepStep x) (out, put)).1.map Kept.c)]⟩ := by
  refine down _ ?_ ?_
  · intro out put ho
    rw [EvL_eq B_spec_KeepResult_0.eq_1]
    simp
  · intro i hi ih out put ho
    have h4 := inc64 (i := i) (by omega)
    have r1 := room1 (n := out.length + 1) (b := 16) (by omega) (by omega)
    have r2 := room2 (n := out.length + 1) (by omega)
    have r3 := room1 (n := out.length + 1 + 1) (b := 16) (by omega) (by omega)
    have r4 := room2 (n := out.length + 1 + 1) (by omega)
    have hs := keepStep_len x (out, put) l[i]
    rw [EvL_eq B_spec_KeepResult_0.eq_1, List.drop_eq_getElem_cons hi, List.foldl_cons, ← ih _ _ (by simp only at hs; omega)]
    unfold keepStep
    by_cases hp : put = false
    · by_cases hc : x.Mask ≤ l[i].Mask
      · by_cases he : l[i].Mask = x.Mask
        · simp +decide [hi, h4, hp, hc, he, r1, r2, r3, r4]
        · simp +decide [hi, h4, hp, hc, he, r1, r2, r3, r4]
      · have he : ¬ l[i].Mask = x.Mask := by omega
        simp +decide [hi, h4, hp, hc, he, r1, r2, r3, r4]
    · have hp : put = true := by simpa using hp
      by_cases he : l[i].Mask = x.Mask
      · simp +decide [hi, h4, hp, he, r1, r2, r3, r4]
      · simp +decide [hi, h4, hp, he, r1, r2, r3, r4]

theorem c_spec_KeepResult (l : List Kept) (a b : Int) (hl : Le l) : C f_spec_KeepResult [L 2 (l.map Kept.c), .agg [I a, I b]] [] = some (.own 0, [.arr t_impl_Kept 2 true ((keepF l ⟨a, b⟩).map Kept.c)]) := by
  refine run t_spec_KeepResult rfl ?_
  have h3 := fun fr => l_spec_KeepResult l ⟨a, b⟩ hl fr 0 (Nat.zero_le _) [] false (by simp)
  have hn := foldl_keep_len ⟨a, b⟩ l ([], false)
  simp at h3 hn
  have r1 := room1 (n := (l.foldl (keepStep ⟨a, b⟩) ([], false)).1.length + 1) (b := 16) (by omega) (by omega)
  have r2 := room2 (n := (l.foldl (keepStep ⟨a, b⟩) ([], false)).1.length + 1) (by omega)
  unfold keepF
  simp only
  by_cases hp : (l.foldl (keepStep ⟨a, b⟩) ([], false)).2 = false
  · simp [M_spec_KeepResult, h3, hp, r1, r2]
  · simp [M_spec_KeepResult, h3, hp]

theorem l_impl_KeepResult (l : List Kept) (x : Kept) (hl : Le l) (fr : List Fr) : ∀ i, i ≤ l.length → ∀ out put, out.length ≤ 2 * i →
    EvL C fr [3, 5, 6, 10, 11, 12] B_impl_KeepResult_0 ⟨[(3, .ptr 0 0), (5, .own 1), (6, Bo put), (10, L 2 (l.map Kept.c)), (11, I l.length), (12, I i)], [[]], [.box [I x.Mask, I x.Size], .arr t_impl_Kept 2 true (out.map Kept.c)]⟩ =
    EvX C fr (.x 0) ⟨[(3, .ptr 0 0), (5, .own 1), (6, Bo ((l.drop i).foldl (keepStep x) (out, put)).2), (10, L 2 (l.map Kept.c)), (11, I l.length), (12, I l.length), (13, Bo false)], [[]], [.box [I x.Mask, I x.Size], .arr t_impl_Kept 2 true (((l.drop i).foldl (keepStep x) (out, put)).1.map Kept.c)]⟩ := by
  refine down _ ?_ ?_
  · intro out put ho
    rw [EvL_eq B_impl_KeepResult_0.eq_1]
    simp
  · intro i hi ih out put ho
    have h4 := inc64 (i := i) (by omega)
    have r1 := room1 (n := out.length + 1) (b := 16) (by omega) (by omega)
    have r2 := room2 (n := out.length + 1) (by omega)
    have r3 := room1 (n := out.length + 1 + 1) (b := 16) (by omega) (by omega)
    have r4 := room2 (n := out.length + 1 + 1) (by omega)
    have hs := keepStep_len x (out, put) l[i]
    rw [EvL_eq B_impl_KeepResult_0.eq_1, List.drop_eq_getElem_cons hi, List.foldl_cons, ← ih _ _ (by simp only at hs; omega)]
    unfold keepStep
    by_cases hp : put = false
    · by_cases hc : x.Mask ≤ l[i].Mask
      · by_cases he : l[i].Mask = x.Mask
        · simp +decide [hi, h4, hp, hc, he, r1, r2, r3, r4]
        · simp +decide [hi, h4, hp, hc, he, r1, r2, r3, r4]
      · have he : ¬ l[i].Mask = x.Mask := by omega
        simp +decide [hi, h4, hp, hc, he, r1, r2, r3, r4]
    · have hp : put = true := by simpa using hp
      by_cases he : l[i].Mask = x.Mask
      · simp +decide [hi, h4, hp, he, r1, r2, r3, r4]
      · simp +decide [hi, h4, hp, he, r1, r2, r3, r4]

theorem c_impl_KeepResult (l : List Kept) (a b : Int) (hl : Le l) : C f_impl_KeepResult [L 2 (l.map Kept.c), .agg [I a, I b]] [] = some (.own 0, [.arr t_impl_Kept 2 true ((keepF l ⟨a, b⟩).map Kept.c)]) := by
  refine run t_impl_KeepResult rfl ?_
  have h3 := fun fr => l_impl_KeepResult l ⟨a, b⟩ hl fr 0 (Nat.zero_le _) [] false (by simp)
  have hn := foldl_keep_len ⟨a, b⟩ l ([], false)
  simp at h3 hn
  have r1 := room1 (n := (l.foldl (keepStep ⟨a, b⟩) ([], false)).1.length + 1) (b := 16) (by omega) (by omega)
  have r2 := room2 (n := (l.foldl (keepStep ⟨a, b⟩) ([], false)).1.length + 1) (by omega)
  unfold keepF
  simp only
  by_cases hp : (l.foldl (keepStep ⟨a, b⟩) ([], false)).2 = false
  · simp [M_impl_KeepResult, h3, hp, r1, r2]
  · simp [M_impl_KeepResult, h3, hp]

theorem keepF_len (l : List Kept) (x : Kept) : (keepF l x).length ≤ 2 * l.length + 1 := by
  have := foldl_keep_len x l ([], false)
  unfold keepF
  simp only at this ⊢
  split
  · simp at this ⊢; omega
  · simp at this ⊢; omega

/-! ### marks -/
def marks (k : Int) : Nat → List Kept
  | 0 => []
  | n + 1 => ⟨k, k + 1⟩ :: marks (k + 2) n

theorem l_markKeptS (fr : List Fr) : ∀ (suf pre : List Kept) (k : Int), pre.length + suf.length ≤ 1099511627776 → 0 ≤ k → k + 2 * suf.length ≤ 9007199254740992 →
    EvL C fr [0, 1, 5] B_laws_markKeptS_0 ⟨[(0, .own 0), (1, I k), (5, I pre.length)], [[(0, .own 0)]], [.arr t_impl_Kept 2 true ((pre ++ suf).map Kept.c)]⟩ =
    EvX C fr (.x 0) ⟨[(0, .own 0), (1, I (k + 2 * suf.length)), (5, I (pre.length + suf.length : Nat)), (9, Bo false)], [[(0, .own 0)]], [.arr t_impl_Kept 2 true ((pre ++ marks k suf.length).map Kept.c)]⟩ := by
  intro suf
  induction suf with
  | nil =>
    intro pre k _ _ _
    rw [EvL_eq B_laws_markKeptS_0.eq_1]
    simp [marks]
  | cons x suf ih =>
    intro pre k hl hk0 hk
    simp only [List.length_cons] at hl hk
    have h4 := inc64 (i := pre.length) (by omega)
    have w1 : IntKind.wrap .i64 (k + 1) = k + 1 := wrap64 (by omega) (by omega)
    have w2 : IntKind.wrap .i64 (k + 2) = k + 2 := wrap64 (by omega) (by omega)
    have hi : (pre.length : Int) < pre.length + (suf.length + 1) := by omega
    have ih := ih (pre ++ [⟨k, k + 1⟩]) (k + 2) (by simp; omega) (by omega) (by omega)
    have e1 : k + 1 + 1 = k + 2 := by omega
    have e2 : k + 2 + 2 * (suf.length : Int) = k + 2 * ((suf.length : Int) + 1) := by omega
    have e3 : (pre.length : Int) + 1 + suf.length = pre.length + (suf.length + 1) := by omega
    rw [EvL_eq B_laws_markKeptS_0.eq_1]
    simp [e2, e3] at ih
    simp [hi, h4, w1, w2, e1, ih, marks]

theorem c_markKeptS (xs : List Kept) (hl : xs.length ≤ 4194304) : C f_laws_markKeptS [.own 0, I 1] [.arr t_impl_Kept 2 true (xs.map Kept.c)] = some (I (1 + 2 * xs.length), [.arr t_impl_Kept 2 true ((marks 1 xs.length).map Kept.c)]) := by
  refine runM t_laws_markKeptS rfl ?_
  have h3 := fun fr => l_markKeptS fr xs [] 1 (by simp; omega) (by omega) (by omega)
  simp at h3
  simp [M_laws_markKeptS, h3]

theorem l_heldKeptS (fr : List Fr) : ∀ (n : Nat) (pre : List Kept) (k : Int), pre.length + n ≤ 1099511627776 → 0 ≤ k → k + 2 * n ≤ 9007199254740992 →
    EvL C fr [0, 1, 5] B_laws_heldKeptS_0 ⟨[(0, L 2 ((pre ++ marks k n).map Kept.c)), (1, I k), (5, I pre.length)], [[]], []⟩ =
    EvX C fr (.x 0) ⟨[(0, L 2 ((pre ++ marks k n).map Kept.c)), (1, I (k + 2 * n)), (5, I (pre.length + n : Nat)), (9, Bo false)], [[]], []⟩ := by
  intro n
  induction n with
  | zero =>
    intro pre k _ _ _
    rw [EvL_eq B_laws_heldKeptS_0.eq_1]
    simp [marks]
  | succ n ih =>
    intro pre k hl hk0 hk
    have h4 := inc64 (i := pre.length) (by omega)
    have w1 : IntKind.wrap .i64 (k + 1) = k + 1 := wrap64 (by omega) (by omega)
    have w2 : IntKind.wrap .i64 (k + 2) = k + 2 := wrap64 (by omega) (by omega)
    have hm : ∀ n (k : Int), (marks k n).length = n := by
      intro n
      induction n with
      | zero => intro k; rfl
      | succ n ih => intro k; simp [marks, ih]
    have hi : (pre.length : Int) < pre.length + (n + 1) := by omega
    have ih := ih (pre ++ [⟨k, k + 1⟩]) (k + 2) (by simp; omega) (by omega) (by omega)
    have e1 : k + 1 + 1 = k + 2 := by omega
    have e2 : k + 2 + 2 * (n : Int) = k + 2 * ((n : Int) + 1) := by omega
    have e3 : (pre.length : Int) + 1 + n = pre.length + (n + 1) := by omega
    rw [EvL_eq B_laws_heldKeptS_0.eq_1]
    simp [e2, e3] at ih
    simp [hi, h4, w1, w2, e1, ih, marks, hm]

theorem c_heldKeptS (n : Nat) (hl : n ≤ 4194304) : C f_laws_heldKeptS [L 2 ((marks 1 n).map Kept.c), I 1] [] = some (I (1 + 2 * n), []) := by
  refine run t_laws_heldKeptS rfl ?_
  have h3 := fun fr => l_heldKeptS fr n [] 1 (by simp; omega) (by omega) (by omega)
  simp at h3
  simp [M_laws_heldKeptS, h3]

theorem lawKeepResult (l : List Kept) (x : Kept) (hl : OkL Kept.okay l) (hx : x.okay) : C f_laws_FnExactKeepResult [L 2 (l.map Kept.c), .agg (x.c.map .t)] [] = some (Bo true, []) := by
  refine run t_laws_FnExactKeepResult rfl ?_
  by_cases h1 : sz1 l.length 1048576 < 0
  · simp [M_laws_FnExactKeepResult, h1]
  · obtain ⟨g1, g2⟩ := sz1_ok (left := 1048576) hl.1 (by omega) (by omega) (Int.not_lt.1 h1)
    have n1 : Le l := by omega
    have hk := keepF_len l x
    have n2 : SmA l := by omega
    have n3 : SmA (keepF l x) := by omega
    have m2 := c_markKeptS (keepF l x) (by omega)
    have d2 := c_heldKeptS (keepF l x).length (by omega)
    have hm : ¬ (1 + 2 * (l.length : Int) < 0) := by omega
    have hq : ¬ (1 + 2 * ((keepF l x).length : Int) < 0) := by omega
    simp +decide [M_laws_FnExactKeepResult, h1, c_toKept, c_toKeptS l n2, c_spec_KeepResult l x.Mask x.Size n1, c_impl_KeepResult l x.Mask x.Size n1, c_eqKeptS l _ n2, c_eqKeptS (keepF l x) _ n3, c_markKeptS l (by omega), m2, d2, hm, hq]
end Go.Proofs.Ytlnnmndebmkdhaa
