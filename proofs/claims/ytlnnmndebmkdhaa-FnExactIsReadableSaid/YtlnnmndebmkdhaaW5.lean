/-
  IsValidOperator, OperatorCost, ReadCost: the walks and the law.
-/
import Derived.Test.YtlnnmndebmkdhaaW4
namespace Go.Proofs.Ytlnnmndebmkdhaa
open Go.AM
set_option linter.unusedSimpArgs false
set_option linter.unusedVariables false

def stepsOk : Int → List CostStep → Bool
  | _, [] => true
  | p, s :: r => inR s.From 1 8192 && inR s.Add (-99) 99 && decide (p < s.From) && stepsOk s.From r
def prevFrom (l : List CostStep) : Nat → Int
  | 0 => 0
  | i + 1 => match l[i]? with | some s => s.From | none => 0
def coefOk (n : Int) : Bool := inR n (-99) 99
def validOp (o : Operator) : Bool := coefOk o.Fixed && coefOk o.PerLeft && coefOk o.PerRight && coefOk o.PerOutput && coefOk o.PerPair && decide (o.Steps.length ≤ 4) && stepsOk 0 o.Steps

@[simp] theorem c_l21Coefficient (n : Int) : C f_spec_l21Coefficient [I n] [] = some (Bo (coefOk n), []) := by
  refine run t_spec_l21Coefficient rfl ?_
  simp [M_spec_l21Coefficient, coefOk]

abbrev opA (a b c d e : Int) (l : List CostStep) : List AV := [I a, I b, I c, I d, I e, L 2 (l.map CostStep.c)]

theorem l_spec_IsValidOperator (a b c d e : Int) (l : List CostStep) (hl : Le l) (fr : List Fr) : ∀ i, i ≤ l.length →
    EvL C fr [1, 3] B_spec_IsValidOperator_0 ⟨[(1, .ptr 0 0), (3, I i)], [[]], [.box (opA a b c d e l)]⟩ =
    if stepsOk (prevFrom l i) (l.drop i) then EvX C fr (.x 0) ⟨[(1, .ptr 0 0), (3, I l.length), (42, Bo false)], [[]], [.box (opA a b c d e l)]⟩ else EvX C fr .r ⟨[(2, Bo false)], [[]], [.box (opA a b c d e l)]⟩ := by
  refine down _ ?_ ?_
  · rw [EvL_eq B_spec_IsValidOperator_0.eq_1]
    simp [stepsOk]
  · intro i hi ih
    have h4 := inc64 (i := i) (by omega)
    have e5 : prevFrom l (i + 1) = l[i].From := by simp [prevFrom, hi]
    rw [e5] at ih
    simp at ih
    rw [EvL_eq B_spec_IsValidOperator_0.eq_1, List.drop_eq_getElem_cons hi, stepsOk]
    rcases tf (inR l[i].From 1 8192) with h1 | h1
    · simp +decide [hi, h4, h1]
    rcases tf (inR l[i].Add (-99) 99) with h2 | h2
    · simp +decide [hi, h4, h1, h2, coefOk]
    by_cases h0 : i = 0
    · subst h0
      have e6 : prevFrom l 0 = 0 := rfl
      have this : (0 : Int) < l[0].From := by simp [inR] at h1; omega
      rw [e6]
      simp at h4 ih
      simp +decide [hi, h4, h1, h2, coefOk, this, ih]
    · have hj : i - 1 < l.length := by omega
      have e6 : prevFrom l i = l[i - 1].From := by
        obtain ⟨j, rfl⟩ : ∃ j, i = j + 1 := ⟨i - 1, by omega⟩
        have hj' : j < l.length := by omega
        simp [prevFrom, hj']
      have w1 : IntKind.wrap .i64 ((i : Int) - 1) = ((i - 1 : Nat) : Int) := by rw [wrap64 (by omega) (by omega)]; omega
      have w2 : 0 < i := by omega
      rw [e6]
      by_cases h3 : l[i - 1].From < l[i].From
      · have h3' : ¬ l[i].From ≤ l[i - 1].From := by omega
        simp +decide [hi, hj, h4, h1, h2, coefOk, w1, w2, h3, h3', ih]
      · have h3' : l[i].From ≤ l[i - 1].From := by omega
        simp +decide [hi, hj, h4, h1, h2, coefOk, w1, w2, h3, h3']

theorem c_spec_IsValidOperator (a b c d e : Int) (l : List CostStep) (hl : Le l) : C f_spec_IsValidOperator [.agg (opA a b c d e l)] [] = some (Bo (validOp ⟨a, b, c, d, e, l⟩), []) := by
  refine run t_spec_IsValidOperator rfl ?_
  have h3 := fun fr => l_spec_IsValidOperator a b c d e l hl fr 0 (Nat.zero_le _)
  simp [prevFrom] at h3
  unfold validOp
  simp only
  rcases tf (coefOk a) with h1 | h1
  · simp [M_spec_IsValidOperator, h1]
  rcases tf (coefOk b) with h2 | h2
  · simp [M_spec_IsValidOperator, h1, h2]
  rcases tf (coefOk c) with h4 | h4
  · simp [M_spec_IsValidOperator, h1, h2, h4]
  rcases tf (coefOk d) with h5 | h5
  · simp [M_spec_IsValidOperator, h1, h2, h4, h5]
  rcases tf (coefOk e) with h6 | h6
  · simp [M_spec_IsValidOperator, h1, h2, h4, h5, h6]
  by_cases h7 : l.length ≤ 4
  · have h7' : ¬ ((4 : Int) < l.length) := by omega
    simp [M_spec_IsValidOperator, h1, h2, h4, h5, h6, h7, h7', h3]
    split <;> simp_all
  · have h7' : (4 : Int) < l.length := by omega
    simp [M_spec_IsValidOperator, h1, h2, h4, h5, h6, h7, h7']

theorem c_impl_coefficients (a b c d e : Int) (l : List CostStep) : C f_impl_coefficients [.ptr 0 0] [.box (opA a b c d e l)] = some (.bsl 1 5, [.box (opA a b c d e l), .box [.ptr 0 0, .ptr 0 1, .ptr 0 2, .ptr 0 3, .ptr 0 4]]) := by
  refine runM t_impl_coefficients rfl ?_
  simp +decide [M_impl_coefficients]

theorem l_impl_IsValidOperator_1 (a b c d e : Int) (l : List CostStep) (hl : Le l) (fr : List Fr) : ∀ i, i ≤ l.length →
    if stepsOk (prevFrom l i) (l.drop i) then EvL C fr [1, 20, 21, 22] B_impl_IsValidOperator_1 ⟨[(1, .ptr 0 0), (20, L 2 (l.map CostStep.c)), (21, I l.length), (22, I i)], [[]], [.box (opA a b c d e l)]⟩ =
      EvX C fr (.x 2) ⟨[(1, .ptr 0 0), (20, L 2 (l.map CostStep.c)), (21, I l.length), (22, I l.length), (23, Bo false)], [[]], [.box (opA a b c d e l)]⟩
    else ∃ h, EvL C fr [1, 20, 21, 22] B_impl_IsValidOperator_1 ⟨[(1, .ptr 0 0), (20, L 2 (l.map CostStep.c)), (21, I l.length), (22, I i)], [[]], [.box (opA a b c d e l)]⟩ = EvX C fr .r ⟨[(2, Bo false)], [[]], h⟩ := by
  refine down _ ?_ ?_
  · rw [EvL_eq B_impl_IsValidOperator_1.eq_1]
    simp [stepsOk]
  · intro i hi ih
    have h4 := inc64 (i := i) (by omega)
    have e5 : prevFrom l (i + 1) = l[i].From := by simp [prevFrom, hi]
    rw [e5] at ih
    simp at ih
    rw [EvL_eq B_impl_IsValidOperator_1.eq_1, List.drop_eq_getElem_cons hi, stepsOk]
    rcases tf (inR l[i].Add (-99) 99) with h2 | h2
    · simp +decide [hi, h4, h2]
      exact ⟨_, rfl⟩
    rcases tf (inR l[i].From 1 8192) with h1 | h1
    · simp +decide [hi, h4, h1, h2]
      exact ⟨_, rfl⟩
    by_cases h0 : i = 0
    · subst h0
      have e6 : prevFrom l 0 = 0 := rfl
      have this : (0 : Int) < l[0].From := by simp [inR] at h1; omega
      rw [e6]
      simp at h4 ih
      simp +decide [hi, h4, h1, h2, this]
      exact ih
    · have hj : i - 1 < l.length := by omega
      have e6 : prevFrom l i = l[i - 1].From := by
        obtain ⟨j, rfl⟩ : ∃ j, i = j + 1 := ⟨i - 1, by omega⟩
        have hj' : j < l.length := by omega
        simp [prevFrom, hj']
      have w1 : IntKind.wrap .i64 ((i : Int) - 1) = ((i - 1 : Nat) : Int) := by rw [wrap64 (by omega) (by omega)]; omega
      have w2 : 0 < i := by omega
      rw [e6]
      by_cases h3 : l[i - 1].From < l[i].From
      · have h3' : ¬ l[i].From ≤ l[i - 1].From := by omega
        simp +decide [hi, hj, h4, h1, h2, w1, w2, h3, h3']
        exact ih
      · have h3' : l[i].From ≤ l[i - 1].From := by omega
        simp +decide [hi, hj, h4, h1, h2, w1, w2, h3, h3']
        exact ⟨_, rfl⟩

theorem c_impl_IsValidOperator (a b c d e : Int) (l : List CostStep) (hl : Le l) : C f_impl_IsValidOperator [.agg (opA a b c d e l)] [] = some (Bo (validOp ⟨a, b, c, d, e, l⟩), []) := by
  refine run t_impl_IsValidOperator rfl ?_
  have h3 := fun fr => l_impl_IsValidOperator_1 a b c d e l hl fr 0 (Nat.zero_le _)
  simp [prevFrom] at h3
  unfold validOp
  simp only
  rcases tf (coefOk a) with h1 | h1
  · simp [coefOk] at h1
    simp [M_impl_IsValidOperator, c_impl_coefficients, EvL_eq B_impl_IsValidOperator_0.eq_1, wrap64, coefOk, h1]
  rcases tf (coefOk b) with h2 | h2
  · simp [coefOk] at h1 h2
    simp [M_impl_IsValidOperator, c_impl_coefficients, EvL_eq B_impl_IsValidOperator_0.eq_1, wrap64, coefOk, h1, h2]
  rcases tf (coefOk c) with h4 | h4
  · simp [coefOk] at h1 h2 h4
    simp [M_impl_IsValidOperator, c_impl_coefficients, EvL_eq B_impl_IsValidOperator_0.eq_1, wrap64, coefOk, h1, h2, h4]
  rcases tf (coefOk d) with h5 | h5
  · simp [coefOk] at h1 h2 h4 h5
    simp [M_impl_IsValidOperator, c_impl_coefficients, EvL_eq B_impl_IsValidOperator_0.eq_1, wrap64, coefOk, h1, h2, h4, h5]
  rcases tf (coefOk e) with h6 | h6
  · simp [coefOk] at h1 h2 h4 h5 h6
    simp [M_impl_IsValidOperator, c_impl_coefficients, EvL_eq B_impl_IsValidOperator_0.eq_1, wrap64, coefOk, h1, h2, h4, h5, h6]
  simp [coefOk] at h1 h2 h4 h5 h6
  rcases tf (stepsOk 0 l) with h7 | h7
  · simp only [h7] at h3
    obtain ⟨h', h3⟩ := h3 [.blk 2, .seq _, .fin 0 [.tmp 2]]
    simp [M_impl_IsValidOperator, c_impl_coefficients, EvL_eq B_impl_IsValidOperator_0.eq_1, wrap64, coefOk, h1, h2, h4, h5, h6, h7]
    rw [h3]
    simp
  · simp only [h7, if_true] at h3
    by_cases h8 : l.length ≤ 4
    · have h8' : (l.length : Int) ≤ 4 := by omega
      simp [M_impl_IsValidOperator, c_impl_coefficients, EvL_eq B_impl_IsValidOperator_0.eq_1, wrap64, coefOk, h1, h2, h4, h5, h6, h7, h3, h8, h8']
    · have h8' : ¬ (l.length : Int) ≤ 4 := by omega
      simp [M_impl_IsValidOperator, c_impl_coefficients, EvL_eq B_impl_IsValidOperator_0.eq_1, wrap64, coefOk, h1, h2, h4, h5, h6, h7, h3, h8, h8']

/-! ### OperatorCost -/
abbrev wr (n : Int) : Int := IntKind.wrap .i64 n
def opBase (a b c d e l r o : Int) : Int := wr (wr (wr (wr (a + wr (b * l)) + wr (c * r)) + wr (d * o)) + wr (wr (e * l) * r))
def opStep (l r : Int) (n : Int) (s : CostStep) : Int := if s.From ≤ wr (l + r) then wr (n + s.Add) else n
def opCost (a b c d e : Int) (st : List CostStep) (l r o : Int) : Int := st.foldl (opStep l r) (opBase a b c d e l r o)
def operatorCost (a b c d e : Int) (st : List CostStep) (l r o : Int) : Int := if (validOp ⟨a, b, c, d, e, st⟩ && inR l 0 4096 && inR r 0 4096 && inR o 0 4096) = true then opCost a b c d e st l r o else 0

theorem l_spec_OperatorCost (a b c d e : Int) (st : List CostStep) (hl : Le st) (l r : Int) (fr : List Fr) : ∀ i, i ≤ st.length → ∀ n,
    EvL C fr [1, 2, 4, 9, 10] B_spec_OperatorCost_0 ⟨[(1, I l), (2, I r), (4, .ptr 0 0), (9, I n), (10, I i)], [[]], [.box (opA a b c d e st)]⟩ =
    EvX C fr (.x 0) ⟨[(1, I l), (2, I r), (4, .ptr 0 0), (9, I ((st.drop i).foldl (opStep l r) n)), (10, I st.length), (57, Bo false)], [[]], [.box (opA a b c d e st)]⟩ := by
  refine down _ ?_ ?_
  · intro n
    rw [EvL_eq B_spec_OperatorCost_0.eq_1]
    simp
  · intro i hi ih n
    have h4 := inc64 (i := i) (by omega)
    rw [EvL_eq B_spec_OperatorCost_0.eq_1, List.drop_eq_getElem_cons hi, List.foldl_cons, ← ih]
    unfold opStep
    by_cases hc : st[i].From ≤ IntKind.wrap .i64 (l + r) <;> simp [hi, h4, hc]
theorem l_impl_operatorCost (st : List CostStep) (hl : Le st) (l r : Int) (fr : List Fr) : ∀ i, i ≤ st.length → ∀ n,
    EvL C fr [1, 2, 9, 37, 38, 39] B_impl_operatorCost_0 ⟨[(1, I l), (2, I r), (9, I n), (37, L 2 (st.map CostStep.c)), (38, I st.length), (39, I i)], [[]], []⟩ =
    EvX C fr (.x 0) ⟨[(1, I l), (2, I r), (9, I ((st.drop i).foldl (opStep l r) n)), (37, L 2 (st.map CostStep.c)), (38, I st.length), (39, I st.length), (40, Bo false)], [[]], []⟩ := by
  refine down _ ?_ ?_
  · intro n
    rw [EvL_eq B_impl_operatorCost_0.eq_1]
    simp
  · intro i hi ih n
    have h4 := inc64 (i := i) (by omega)
    rw [EvL_eq B_impl_operatorCost_0.eq_1, List.drop_eq_getElem_cons hi, List.foldl_cons, ← ih]
    unfold opStep
    by_cases hc : st[i].From ≤ IntKind.wrap .i64 (l + r) <;> simp [hi, h4, hc]
theorem c_impl_operatorCost (a b c d e : Int) (st : List CostStep) (hl : Le st) (l r o : Int) : C f_impl_operatorCost [.agg (opA a b c d e st), I l, I r, I o] [] = some (I (opCost a b c d e st l r o), []) := by
  refine run t_impl_operatorCost rfl ?_
  have h3 := fun fr n => l_impl_operatorCost st hl l r fr 0 (Nat.zero_le _) n
  simp at h3
  simp [M_impl_operatorCost, h3, opCost, opBase]
theorem c_impl_OperatorCost (a b c d e : Int) (st : List CostStep) (hl : Le st) (l r o : Int) : C f_impl_OperatorCost [.agg (opA a b c d e st), I l, I r, I o] [] = some (I (operatorCost a b c d e st l r o), []) := by
  refine run t_impl_OperatorCost rfl ?_
  unfold operatorCost
  have v := c_impl_IsValidOperator a b c d e st hl
  have v2 := c_impl_operatorCost a b c d e st hl l r o
  rcases tf (validOp ⟨a, b, c, d, e, st⟩) with h1 | h1
  · simp [M_impl_OperatorCost, v, h1]
  rcases tf (inR l 0 4096) with h2 | h2
  · simp [M_impl_OperatorCost, v, h1, h2]
  rcases tf (inR r 0 4096) with h3 | h3
  · simp [M_impl_OperatorCost, v, h1, h2, h3]
  rcases tf (inR o 0 4096) with h4 | h4 <;> simp [M_impl_OperatorCost, v, v2, h1, h2, h3, h4]
theorem c_spec_OperatorCost (a b c d e : Int) (st : List CostStep) (hl : Le st) (l r o : Int) : C f_spec_OperatorCost [.agg (opA a b c d e st), I l, I r, I o] [] = some (I (operatorCost a b c d e st l r o), []) := by
  refine run t_spec_OperatorCost rfl ?_
  unfold operatorCost
  have v := c_spec_IsValidOperator a b c d e st hl
  have h0 := fun fr n => l_spec_OperatorCost a b c d e st hl l r fr 0 (Nat.zero_le _) n
  simp at h0
  rcases tf (validOp ⟨a, b, c, d, e, st⟩) with h1 | h1
  · simp [M_spec_OperatorCost, v, h1]
  rcases tf (inR l 0 4096) with h2 | h2
  · simp [M_spec_OperatorCost, v, h1, h2]
  rcases tf (inR r 0 4096) with h3 | h3
  · simp [M_spec_OperatorCost, v, h1, h2, h3]
  rcases tf (inR o 0 4096) with h4 | h4
  · simp [M_spec_OperatorCost, v, h1, h2, h3, h4]
  · simp [M_spec_OperatorCost, v, h1, h2, h3, h4, h0, opCost, opBase]
end Go.Proofs.Ytlnnmndebmkdhaa
