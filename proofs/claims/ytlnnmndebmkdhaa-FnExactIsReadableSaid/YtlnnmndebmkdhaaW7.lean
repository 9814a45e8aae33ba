/-
  FindDecrease, l22Cheap, triples: the walks.
-/
import Derived.Test.YtlnnmndebmkdhaaW6
namespace Go.Proofs.Ytlnnmndebmkdhaa
open Go.AM
set_option linter.unusedSimpArgs false
set_option linter.unusedVariables false

abbrev c3 (x y z : Int) : List (List T) := [[.int .i64 x], [.int .i64 y], [.int .i64 z]]
def tc (o : Operator) (x y z : Int) : Int := opCost o.Fixed o.PerLeft o.PerRight o.PerOutput o.PerPair o.Steps (classSize x) (classSize y) (classSize z)
abbrev opO (o : Operator) : List AV := opA o.Fixed o.PerLeft o.PerRight o.PerOutput o.PerPair o.Steps

theorem classSize_in (c : Int) (h0 : 0 ≤ c) (h7 : c ≤ 7) : inR (classSize c) 0 4096 = true := by
  have : inR c 0 7 = true := by simp [inR]; omega
  rcases cls8 this with rfl | rfl | rfl | rfl | rfl | rfl | rfl | rfl <;> decide

theorem c_l21At (o : Operator) (ho : Le o.Steps) (hv : validOp o = true) (x y z : Int) (hx : 0 ≤ x ∧ x ≤ 7) (hy : 0 ≤ y ∧ y ≤ 7) (hz : 0 ≤ z ∧ z ≤ 7) : C f_spec_l21At [.agg (opO o), L 1 (c3 x y z)] [] = some (I (tc o x y z), []) := by
  refine run t_spec_l21At rfl ?_
  have hv' : validOp ⟨o.Fixed, o.PerLeft, o.PerRight, o.PerOutput, o.PerPair, o.Steps⟩ = true := hv
  simp +decide [M_spec_l21At, c_spec_OperatorCost _ _ _ _ _ _ ho, operatorCost, hv', classSize_in x hx.1 hx.2, classSize_in y hy.1 hy.2, classSize_in z hz.1 hz.2, tc]
theorem c_tripleCost (o : Operator) (ho : Le o.Steps) (x y z : Int) : C f_impl_tripleCost [.agg (opO o), L 1 (c3 x y z)] [] = some (I (tc o x y z), []) := by
  refine run t_impl_tripleCost rfl ?_
  simp +decide [M_impl_tripleCost, c_impl_operatorCost _ _ _ _ _ _ ho, tc]

def decAt (o : Operator) (x y z : Int) : Prop := (x + 1 ≤ 7 ∧ tc o (x + 1) y z < tc o x y z) ∨ (y + 1 ≤ 7 ∧ tc o x (y + 1) z < tc o x y z) ∨ (z + 1 ≤ 7 ∧ tc o x y (z + 1) < tc o x y z)

/-- a search loop's good end -/
abbrev Ret3 (X : List Fr → Option (AV × List Blk)) : Prop := ∃ s, (∃ a b c a' b' c' : Int, finE 0 [.tmp 2, .tmp 3, .tmp 4] s = some (.tup [.own 0, .own 1, Bo true], [.arr t_int 1 true (c3 a b c), .arr t_int 1 true (c3 a' b' c')])) ∧ ∀ fr, X fr = EvX C fr .r s

section
variable (o : Operator) (ho : Le o.Steps) (hv : validOp o = true)
include ho hv

theorem fd0 (x y z : Int) (hx : 0 ≤ x ∧ x ≤ 7) (hy : 0 ≤ y ∧ y ≤ 7) (hz : 0 ≤ z ∧ z ≤ 7) :
    (decAt o x y z ∧ Ret3 (fun fr => EvL C fr [1, 5, 6, 7, 8, 9] B_spec_FindDecrease_0 ⟨[(1, .ptr 0 0), (5, I x), (6, I y), (7, I z), (8, .own 1), (9, I 0)], [[]], [.box (opO o), .arr t_int 1 true (c3 x y z)]⟩)) ∨
    (¬ decAt o x y z ∧ ∀ fr, EvL C fr [1, 5, 6, 7, 8, 9] B_spec_FindDecrease_0 ⟨[(1, .ptr 0 0), (5, I x), (6, I y), (7, I z), (8, .own 1), (9, I 0)], [[]], [.box (opO o), .arr t_int 1 true (c3 x y z)]⟩ =
      EvX C fr (.x 6) ⟨[(1, .ptr 0 0), (5, I x), (6, I y), (7, I z), (8, .own 1), (9, I 3), (33, Bo false)], [[]], [.box (opO o), .arr t_int 1 true (c3 x y z)]⟩) := by
  have w1 : IntKind.wrap .i64 (x + 1) = x + 1 := wrap64 (by omega) (by omega)
  have w2 : IntKind.wrap .i64 (y + 1) = y + 1 := wrap64 (by omega) (by omega)
  have w3 : IntKind.wrap .i64 (z + 1) = z + 1 := wrap64 (by omega) (by omega)
  have r1 : (24 : Nat) ≤ room := by decide
  have r2 : (3 : Nat) ≤ room := by decide
  have t0 := c_l21At o ho hv x y z hx hy hz
  have s0 : ((x + 1 ≤ 7 ∧ tc o (x + 1) y z < tc o x y z) ∧ Ret3 (fun fr => EvL C fr [1, 5, 6, 7, 8, 9] B_spec_FindDecrease_0 ⟨[(1, .ptr 0 0), (5, I x), (6, I y), (7, I z), (8, .own 1), (9, I 0)], [[]], [.box (opO o), .arr t_int 1 true (c3 x y z)]⟩)) ∨ (¬ (x + 1 ≤ 7 ∧ tc o (x + 1) y z < tc o x y z) ∧ ∀ fr, EvL C fr [1, 5, 6, 7, 8, 9] B_spec_FindDecrease_0 ⟨[(1, .ptr 0 0), (5, I x), (6, I y), (7, I z), (8, .own 1), (9, I 0)], [[]], [.box (opO o), .arr t_int 1 true (c3 x y z)]⟩ = EvL C fr [1, 5, 6, 7, 8, 9] B_spec_FindDecrease_0 ⟨[(1, .ptr 0 0), (5, I x), (6, I y), (7, I z), (8, .own 1), (9, I 1)], [[]], [.box (opO o), .arr t_int 1 true (c3 x y z)]⟩) := by
    by_cases h1 : x + 1 ≤ 7
    · have t1 := c_l21At o ho hv (x + 1) y z (by omega) hy hz
      by_cases h2 : tc o (x + 1) y z < tc o x y z
      · refine .inl ⟨⟨h1, h2⟩, ⟨[(2, .own 1), (3, .own 3), (4, Bo true)], [[]], [.box (opO o), .arr t_int 1 true (c3 x y z), .dead, .arr t_int 1 true (c3 (x + 1) y z)]⟩, ⟨_, _, _, _, _, _, by simp; exact ⟨⟨rfl, rfl, rfl⟩, rfl, rfl, rfl⟩⟩, fun fr => ?_⟩
        show EvL _ _ _ _ _ = _
        rw [EvL_eq B_spec_FindDecrease_0.eq_1]
        simp +decide [w1, r1, r2, h1, t0, t1, h2]
      · refine .inr ⟨fun h => h2 h.2, fun fr => ?_⟩
        show EvL _ _ _ _ _ = _
        rw [EvL_eq B_spec_FindDecrease_0.eq_1]
        simp +decide [w1, r1, r2, h1, t0, t1, h2, wrap64]
    · refine .inr ⟨fun h => h1 h.1, fun fr => ?_⟩
      show EvL _ _ _ _ _ = _
      rw [EvL_eq B_spec_FindDecrease_0.eq_1]
      simp +decide [w1, r1, r2, h1, wrap64]
  have s1 : ((y + 1 ≤ 7 ∧ tc o x (y + 1) z < tc o x y z) ∧ Ret3 (fun fr => EvL C fr [1, 5, 6, 7, 8, 9] B_spec_FindDecrease_0 ⟨[(1, .ptr 0 0), (5, I x), (6, I y), (7, I z), (8, .own 1), (9, I 1)], [[]], [.box (opO o), .arr t_int 1 true (c3 x y z)]⟩)) ∨ (¬ (y + 1 ≤ 7 ∧ tc o x (y + 1) z < tc o x y z) ∧ ∀ fr, EvL C fr [1, 5, 6, 7, 8, 9] B_spec_FindDecrease_0 ⟨[(1, .ptr 0 0), (5, I x), (6, I y), (7, I z), (8, .own 1), (9, I 1)], [[]], [.box (opO o), .arr t_int 1 true (c3 x y z)]⟩ = EvL C fr [1, 5, 6, 7, 8, 9] B_spec_FindDecrease_0 ⟨[(1, .ptr 0 0), (5, I x), (6, I y), (7, I z), (8, .own 1), (9, I 2)], [[]], [.box (opO o), .arr t_int 1 true (c3 x y z)]⟩) := by
    by_cases h1 : y + 1 ≤ 7
    · have t1 := c_l21At o ho hv x (y + 1) z hx (by omega) hz
      by_cases h2 : tc o x (y + 1) z < tc o x y z
      · refine .inl ⟨⟨h1, h2⟩, ⟨[(2, .own 1), (3, .own 3), (4, Bo true)], [[]], [.box (opO o), .arr t_int 1 true (c3 x y z), .dead, .arr t_int 1 true (c3 x (y + 1) z)]⟩, ⟨_, _, _, _, _, _, by simp; exact ⟨⟨rfl, rfl, rfl⟩, rfl, rfl, rfl⟩⟩, fun fr => ?_⟩
        show EvL _ _ _ _ _ = _
        rw [EvL_eq B_spec_FindDecrease_0.eq_1]
        simp +decide [w2, r1, r2, h1, t0, t1, h2]
      · refine .inr ⟨fun h => h2 h.2, fun fr => ?_⟩
        show EvL _ _ _ _ _ = _
        rw [EvL_eq B_spec_FindDecrease_0.eq_1]
        simp +decide [w2, r1, r2, h1, t0, t1, h2, wrap64]
    · refine .inr ⟨fun h => h1 h.1, fun fr => ?_⟩
      show EvL _ _ _ _ _ = _
      rw [EvL_eq B_spec_FindDecrease_0.eq_1]
      simp +decide [w2, r1, r2, h1, wrap64]
  have s2 : ((z + 1 ≤ 7 ∧ tc o x y (z + 1) < tc o x y z) ∧ Ret3 (fun fr => EvL C fr [1, 5, 6, 7, 8, 9] B_spec_FindDecrease_0 ⟨[(1, .ptr 0 0), (5, I x), (6, I y), (7, I z), (8, .own 1), (9, I 2)], [[]], [.box (opO o), .arr t_int 1 true (c3 x y z)]⟩)) ∨ (¬ (z + 1 ≤ 7 ∧ tc o x y (z + 1) < tc o x y z) ∧ ∀ fr, EvL C fr [1, 5, 6, 7, 8, 9] B_spec_FindDecrease_0 ⟨[(1, .ptr 0 0), (5, I x), (6, I y), (7, I z), (8, .own 1), (9, I 2)], [[]], [.box (opO o), .arr t_int 1 true (c3 x y z)]⟩ = EvL C fr [1, 5, 6, 7, 8, 9] B_spec_FindDecrease_0 ⟨[(1, .ptr 0 0), (5, I x), (6, I y), (7, I z), (8, .own 1), (9, I 3)], [[]], [.box (opO o), .arr t_int 1 true (c3 x y z)]⟩) := by
    by_cases h1 : z + 1 ≤ 7
    · have t1 := c_l21At o ho hv x y (z + 1) hx hy (by omega)
      by_cases h2 : tc o x y (z + 1) < tc o x y z
      · refine .inl ⟨⟨h1, h2⟩, ⟨[(2, .own 1), (3, .own 3), (4, Bo true)], [[]], [.box (opO o), .arr t_int 1 true (c3 x y z), .dead, .arr t_int 1 true (c3 x y (z + 1))]⟩, ⟨_, _, _, _, _, _, by simp; exact ⟨⟨rfl, rfl, rfl⟩, rfl, rfl, rfl⟩⟩, fun fr => ?_⟩
        show EvL _ _ _ _ _ = _
        rw [EvL_eq B_spec_FindDecrease_0.eq_1]
        simp +decide [w3, r1, r2, h1, t0, t1, h2]
      · refine .inr ⟨fun h => h2 h.2, fun fr => ?_⟩
        show EvL _ _ _ _ _ = _
        rw [EvL_eq B_spec_FindDecrease_0.eq_1]
        simp +decide [w3, r1, r2, h1, t0, t1, h2, wrap64]
    · refine .inr ⟨fun h => h1 h.1, fun fr => ?_⟩
      show EvL _ _ _ _ _ = _
      rw [EvL_eq B_spec_FindDecrease_0.eq_1]
      simp +decide [w3, r1, r2, h1, wrap64]
  have s3 : ∀ fr, EvL C fr [1, 5, 6, 7, 8, 9] B_spec_FindDecrease_0 ⟨[(1, .ptr 0 0), (5, I x), (6, I y), (7, I z), (8, .own 1), (9, I 3)], [[]], [.box (opO o), .arr t_int 1 true (c3 x y z)]⟩ = EvX C fr (.x 6) ⟨[(1, .ptr 0 0), (5, I x), (6, I y), (7, I z), (8, .own 1), (9, I 3), (33, Bo false)], [[]], [.box (opO o), .arr t_int 1 true (c3 x y z)]⟩ := by
    intro fr
    rw [EvL_eq B_spec_FindDecrease_0.eq_1]
    simp +decide
  unfold decAt
  rcases s0 with ⟨h, g⟩ | ⟨h, g⟩
  · exact .inl ⟨.inl h, g⟩
  rcases s1 with ⟨h', s, hp, g'⟩ | ⟨h', g'⟩
  · exact .inl ⟨.inr (.inl h'), s, hp, fun fr => (g fr).trans (g' fr)⟩
  rcases s2 with ⟨h2, s, hp, g2⟩ | ⟨h2, g2⟩
  · exact .inl ⟨.inr (.inr h2), s, hp, fun fr => ((g fr).trans (g' fr)).trans (g2 fr)⟩
  · exact .inr ⟨by rintro (q | q | q) <;> contradiction, fun fr => by rw [g, g', g2, s3]⟩

theorem fd1 (x y : Int) (hx : 0 ≤ x ∧ x ≤ 7) (hy : 0 ≤ y ∧ y ≤ 7) : ∀ i : Nat, i ≤ 8 →
    ((∃ z : Nat, i ≤ z ∧ z ≤ 7 ∧ decAt o x y z) ∧ Ret3 (fun fr => EvL C fr [1, 5, 6, 7] B_spec_FindDecrease_1 ⟨[(1, .ptr 0 0), (5, I x), (6, I y), (7, I i)], [[]], [.box (opO o)]⟩)) ∨
    ((¬ ∃ z : Nat, i ≤ z ∧ z ≤ 7 ∧ decAt o x y z) ∧ ∀ fr, EvL C fr [1, 5, 6, 7] B_spec_FindDecrease_1 ⟨[(1, .ptr 0 0), (5, I x), (6, I y), (7, I i)], [[]], [.box (opO o)]⟩ = EvX C fr (.x 4) ⟨[(1, .ptr 0 0), (5, I x), (6, I y), (7, I 8), (25, Bo false)], [[]], [.box (opO o)]⟩) := by
  refine down 8 ?_ ?_
  · refine .inr ⟨fun ⟨z, h1, h2, _⟩ => by omega, fun fr => ?_⟩
    rw [EvL_eq B_spec_FindDecrease_1.eq_1]
    simp +decide
  · intro i hi ih
    have h4 := inc64 (i := i) (by omega)
    have h7 : (i : Int) ≤ 7 := by omega
    rcases fd0 o ho hv x y i hx hy (by omega) with ⟨h, s, hp, g⟩ | ⟨h, g⟩
    · refine .inl ⟨⟨i, Nat.le_refl _, by omega, h⟩, s, hp, fun fr => ?_⟩
      show EvL _ _ _ _ _ = _
      rw [EvL_eq B_spec_FindDecrease_1.eq_1]
      simp +decide [h7, g]
      
    · have e2 : ∀ fr, EvL C fr [1, 5, 6, 7] B_spec_FindDecrease_1 ⟨[(1, .ptr 0 0), (5, I x), (6, I y), (7, I i)], [[]], [.box (opO o)]⟩ = EvL C fr [1, 5, 6, 7] B_spec_FindDecrease_1 ⟨[(1, .ptr 0 0), (5, I x), (6, I y), (7, I ((i + 1 : Nat) : Int))], [[]], [.box (opO o)]⟩ := by
        intro fr
        rw [EvL_eq B_spec_FindDecrease_1.eq_1]
        
        simp +decide [h7, g, h4]
      rcases ih with ⟨⟨z, q1, q2, q3⟩, s, hp, q4⟩ | ⟨q1, q2⟩
      · exact .inl ⟨⟨z, by omega, q2, q3⟩, s, hp, fun fr => (e2 fr).trans (q4 fr)⟩
      · refine .inr ⟨fun ⟨z, q3, q4, q5⟩ => ?_, fun fr => (e2 fr).trans (q2 fr)⟩
        by_cases hz : z = i
        · subst hz; exact h q5
        · exact q1 ⟨z, by omega, q4, q5⟩

theorem fd2 (x : Int) (hx : 0 ≤ x ∧ x ≤ 7) : ∀ i : Nat, i ≤ 8 →
    ((∃ z : Nat, i ≤ z ∧ z ≤ 7 ∧ (∃ e : Nat, 0 ≤ e ∧ e ≤ 7 ∧ decAt o x z e)) ∧ Ret3 (fun fr => EvL C fr [1, 5, 6] B_spec_FindDecrease_2 ⟨[(1, .ptr 0 0), (5, I x), (6, I i)], [[]], [.box (opO o)]⟩)) ∨
    ((¬ ∃ z : Nat, i ≤ z ∧ z ≤ 7 ∧ (∃ e : Nat, 0 ≤ e ∧ e ≤ 7 ∧ decAt o x z e)) ∧ ∀ fr, EvL C fr [1, 5, 6] B_spec_FindDecrease_2 ⟨[(1, .ptr 0 0), (5, I x), (6, I i)], [[]], [.box (opO o)]⟩ = EvX C fr (.x 2) ⟨[(1, .ptr 0 0), (5, I x), (6, I 8), (21, Bo false)], [[]], [.box (opO o)]⟩) := by
  refine down 8 ?_ ?_
  · refine .inr ⟨fun ⟨z, h1, h2, _⟩ => by omega, fun fr => ?_⟩
    rw [EvL_eq B_spec_FindDecrease_2.eq_1]
    simp +decide
  · intro i hi ih
    have h4 := inc64 (i := i) (by omega)
    have h7 : (i : Int) ≤ 7 := by omega
    rcases fd1 o ho hv x i hx (by omega) 0 (Nat.zero_le _) with ⟨h, s, hp, g⟩ | ⟨h, g⟩
    · refine .inl ⟨⟨i, Nat.le_refl _, by omega, h⟩, s, hp, fun fr => ?_⟩
      show EvL _ _ _ _ _ = _
      rw [EvL_eq B_spec_FindDecrease_2.eq_1]
      simp +decide [h7]
      simp at g; simp [g]
    · have e2 : ∀ fr, EvL C fr [1, 5, 6] B_spec_FindDecrease_2 ⟨[(1, .ptr 0 0), (5, I x), (6, I i)], [[]], [.box (opO o)]⟩ = EvL C fr [1, 5, 6] B_spec_FindDecrease_2 ⟨[(1, .ptr 0 0), (5, I x), (6, I ((i + 1 : Nat) : Int))], [[]], [.box (opO o)]⟩ := by
        intro fr
        rw [EvL_eq B_spec_FindDecrease_2.eq_1]
        simp at g
        simp +decide [h7, g, h4]
      rcases ih with ⟨⟨z, q1, q2, q3⟩, s, hp, q4⟩ | ⟨q1, q2⟩
      · exact .inl ⟨⟨z, by omega, q2, q3⟩, s, hp, fun fr => (e2 fr).trans (q4 fr)⟩
      · refine .inr ⟨fun ⟨z, q3, q4, q5⟩ => ?_, fun fr => (e2 fr).trans (q2 fr)⟩
        by_cases hz : z = i
        · subst hz; exact h q5
        · exact q1 ⟨z, by omega, q4, q5⟩

theorem fd3  : ∀ i : Nat, i ≤ 8 →
    ((∃ z : Nat, i ≤ z ∧ z ≤ 7 ∧ (∃ y : Nat, 0 ≤ y ∧ y ≤ 7 ∧ ∃ e : Nat, 0 ≤ e ∧ e ≤ 7 ∧ decAt o z y e)) ∧ Ret3 (fun fr => EvL C fr [1, 5] B_spec_FindDecrease_3 ⟨[(1, .ptr 0 0), (5, I i)], [[]], [.box (opO o)]⟩)) ∨
    ((¬ ∃ z : Nat, i ≤ z ∧ z ≤ 7 ∧ (∃ y : Nat, 0 ≤ y ∧ y ≤ 7 ∧ ∃ e : Nat, 0 ≤ e ∧ e ≤ 7 ∧ decAt o z y e)) ∧ ∀ fr, EvL C fr [1, 5] B_spec_FindDecrease_3 ⟨[(1, .ptr 0 0), (5, I i)], [[]], [.box (opO o)]⟩ = EvX C fr (.x 0) ⟨[(1, .ptr 0 0), (5, I 8), (17, Bo false)], [[]], [.box (opO o)]⟩) := by
  refine down 8 ?_ ?_
  · refine .inr ⟨fun ⟨z, h1, h2, _⟩ => by omega, fun fr => ?_⟩
    rw [EvL_eq B_spec_FindDecrease_3.eq_1]
    simp +decide
  · intro i hi ih
    have h4 := inc64 (i := i) (by omega)
    have h7 : (i : Int) ≤ 7 := by omega
    rcases fd2 o ho hv i (by omega) 0 (Nat.zero_le _) with ⟨h, s, hp, g⟩ | ⟨h, g⟩
    · refine .inl ⟨⟨i, Nat.le_refl _, by omega, h⟩, s, hp, fun fr => ?_⟩
      show EvL _ _ _ _ _ = _
      rw [EvL_eq B_spec_FindDecrease_3.eq_1]
      simp +decide [h7]
      simp at g; simp [g]
    · have e2 : ∀ fr, EvL C fr [1, 5] B_spec_FindDecrease_3 ⟨[(1, .ptr 0 0), (5, I i)], [[]], [.box (opO o)]⟩ = EvL C fr [1, 5] B_spec_FindDecrease_3 ⟨[(1, .ptr 0 0), (5, I ((i + 1 : Nat) : Int))], [[]], [.box (opO o)]⟩ := by
        intro fr
        rw [EvL_eq B_spec_FindDecrease_3.eq_1]
        simp at g
        simp +decide [h7, g, h4]
      rcases ih with ⟨⟨z, q1, q2, q3⟩, s, hp, q4⟩ | ⟨q1, q2⟩
      · exact .inl ⟨⟨z, by omega, q2, q3⟩, s, hp, fun fr => (e2 fr).trans (q4 fr)⟩
      · refine .inr ⟨fun ⟨z, q3, q4, q5⟩ => ?_, fun fr => (e2 fr).trans (q2 fr)⟩
        by_cases hz : z = i
        · subst hz; exact h q5
        · exact q1 ⟨z, by omega, q4, q5⟩
end

def decr (o : Operator) : Prop := ∃ x y z : Nat, x ≤ 7 ∧ y ≤ 7 ∧ z ≤ 7 ∧ decAt o x y z

theorem c_spec_FindDecrease (o : Operator) (ho : Le o.Steps) (hv : validOp o = true) :
    (decr o ∧ ∃ a b c a' b' c' : Int, C f_spec_FindDecrease [.agg (opO o)] [] = some (.tup [.own 0, .own 1, Bo true], [.arr t_int 1 true (c3 a b c), .arr t_int 1 true (c3 a' b' c')])) ∨ (¬ decr o ∧ C f_spec_FindDecrease [.agg (opO o)] [] = some (.tup [.own 0, .own 1, Bo false], [.arr t_int 1 true [], .arr t_int 1 true []])) := by
  have hv' := c_spec_IsValidOperator o.Fixed o.PerLeft o.PerRight o.PerOutput o.PerPair o.Steps ho
  have hv2 : validOp ⟨o.Fixed, o.PerLeft, o.PerRight, o.PerOutput, o.PerPair, o.Steps⟩ = true := hv
  rw [hv2] at hv'
  rcases fd3 o ho hv 0 (Nat.zero_le _) with ⟨⟨x, _, hx, y, _, hy, z, _, hz, hd⟩, s, ⟨a1, a2, a3, a4, a5, a6, hp⟩, g⟩ | ⟨h, g⟩
  · refine .inl ⟨⟨x, y, z, hx, hy, hz, hd⟩, ?_⟩
    refine ⟨a1, a2, a3, a4, a5, a6, run t_spec_FindDecrease rfl ?_⟩
    simp only [Int.cast_ofNat_Int, Int.ofNat_eq_natCast, Int.natCast_zero] at g
    have g0 : ∀ fr, EvL C fr [1, 5] B_spec_FindDecrease_3 ⟨[(1, .ptr 0 0), (5, I 0)], [[]], [.box (opO o)]⟩ = EvX C fr .r s := g
    simp [M_spec_FindDecrease, hv', g0, EvX_fin_r, -finE]
    exact hp
  · refine .inr ⟨fun ⟨x, y, z, hx, hy, hz, hd⟩ => h ⟨x, Nat.zero_le _, hx, y, Nat.zero_le _, hy, z, Nat.zero_le _, hz, hd⟩, ?_⟩
    refine run t_spec_FindDecrease rfl ?_
    simp at g
    simp [M_spec_FindDecrease, hv', g]
end Go.Proofs.Ytlnnmndebmkdhaa
