/-
  l22Cheap, triples, FindDecrease of the program: the walks.
-/
import Derived.Test.YtlnnmndebmkdhaaW7
namespace Go.Proofs.Ytlnnmndebmkdhaa
open Go.AM
set_option linter.unusedSimpArgs false
set_option linter.unusedVariables false

abbrev Ret1 (X : List Fr → Option (AV × List Blk)) : Prop := ∃ x y z : Int, ∃ s, finE 0 [.tmp 2] s = some (.own 0, [.arr t_int 1 true (c3 x y z)]) ∧ ∀ fr, X fr = EvX C fr .r s

section
variable (o : Operator) (ho : Le o.Steps) (hv : validOp o = true)
include ho hv

theorem ch0 (x y : Int) (hx : 0 ≤ x ∧ x ≤ 7) (hy : 0 ≤ y ∧ y ≤ 7) : ∀ i : Nat, i ≤ 8 →
    ((∃ z : Nat, i ≤ z ∧ z ≤ 7 ∧ tc o x y z < 1) ∧ Ret1 (fun fr => EvL C fr [1, 3, 4, 5] B_spec_l22Cheap_0 ⟨[(1, .ptr 0 0), (3, I x), (4, I y), (5, I i)], [[]], [.box (opO o)]⟩)) ∨
    ((¬ ∃ z : Nat, i ≤ z ∧ z ≤ 7 ∧ tc o x y z < 1) ∧ ∀ fr, EvL C fr [1, 3, 4, 5] B_spec_l22Cheap_0 ⟨[(1, .ptr 0 0), (3, I x), (4, I y), (5, I i)], [[]], [.box (opO o)]⟩ = EvX C fr (.x 4) ⟨[(1, .ptr 0 0), (3, I x), (4, I y), (5, I 8), (15, Bo false)], [[]], [.box (opO o)]⟩) := by
  refine down 8 ?_ ?_
  · refine .inr ⟨fun ⟨z, h1, h2, _⟩ => by omega, fun fr => ?_⟩
    rw [EvL_eq B_spec_l22Cheap_0.eq_1]
    simp +decide
  · intro i hi ih
    have h4 := inc64 (i := i) (by omega)
    have h7 : (i : Int) ≤ 7 := by omega
    have key : ((tc o x y i < 1) ∧ Ret1 (fun fr => EvL C fr [1, 3, 4, 5] B_spec_l22Cheap_0 ⟨[(1, .ptr 0 0), (3, I x), (4, I y), (5, I i)], [[]], [.box (opO o)]⟩)) ∨ (¬ (tc o x y i < 1) ∧ ∀ fr, EvL C fr [1, 3, 4, 5] B_spec_l22Cheap_0 ⟨[(1, .ptr 0 0), (3, I x), (4, I y), (5, I i)], [[]], [.box (opO o)]⟩ = EvL C fr [1, 3, 4, 5] B_spec_l22Cheap_0 ⟨[(1, .ptr 0 0), (3, I x), (4, I y), (5, I ((i + 1 : Nat) : Int))], [[]], [.box (opO o)]⟩) := by
      have t1 := c_l21At o ho hv x y i hx hy (by omega)
      by_cases h : tc o x y i < 1
      · refine .inl ⟨h, x, y, i, ⟨[(2, .own 2)], [[]], [.box (opO o), .arr t_int 1 true (c3 x y i), .arr t_int 1 true (c3 x y i)]⟩, by simp, fun fr => ?_⟩
        show EvL _ _ _ _ _ = _
        rw [EvL_eq B_spec_l22Cheap_0.eq_1]
        simp +decide [h7, t1, h]
      · refine .inr ⟨h, fun fr => ?_⟩
        rw [EvL_eq B_spec_l22Cheap_0.eq_1]
        simp +decide [h7, t1, h, h4]
    rcases key with ⟨h, g⟩ | ⟨h, e2⟩
    · exact .inl ⟨⟨i, Nat.le_refl _, by omega, h⟩, g⟩
    · rcases ih with ⟨⟨z, q1, q2, q3⟩, x1, x2, x3, s, hp, q4⟩ | ⟨q1, q2⟩
      · exact .inl ⟨⟨z, by omega, q2, q3⟩, x1, x2, x3, s, hp, fun fr => (e2 fr).trans (q4 fr)⟩
      · refine .inr ⟨fun ⟨z, q3, q4, q5⟩ => ?_, fun fr => (e2 fr).trans (q2 fr)⟩
        by_cases hz : z = i
        · subst hz; exact h q5
        · exact q1 ⟨z, by omega, q4, q5⟩

theorem ch1 (x : Int) (hx : 0 ≤ x ∧ x ≤ 7) : ∀ i : Nat, i ≤ 8 →
    ((∃ z : Nat, i ≤ z ∧ z ≤ 7 ∧ ∃ e : Nat, 0 ≤ e ∧ e ≤ 7 ∧ tc o x z e < 1) ∧ Ret1 (fun fr => EvL C fr [1, 3, 4] B_spec_l22Cheap_1 ⟨[(1, .ptr 0 0), (3, I x), (4, I i)], [[]], [.box (opO o)]⟩)) ∨
    ((¬ ∃ z : Nat, i ≤ z ∧ z ≤ 7 ∧ ∃ e : Nat, 0 ≤ e ∧ e ≤ 7 ∧ tc o x z e < 1) ∧ ∀ fr, EvL C fr [1, 3, 4] B_spec_l22Cheap_1 ⟨[(1, .ptr 0 0), (3, I x), (4, I i)], [[]], [.box (opO o)]⟩ = EvX C fr (.x 2) ⟨[(1, .ptr 0 0), (3, I x), (4, I 8), (11, Bo false)], [[]], [.box (opO o)]⟩) := by
  refine down 8 ?_ ?_
  · refine .inr ⟨fun ⟨z, h1, h2, _⟩ => by omega, fun fr => ?_⟩
    rw [EvL_eq B_spec_l22Cheap_1.eq_1]
    simp +decide
  · intro i hi ih
    have h4 := inc64 (i := i) (by omega)
    have h7 : (i : Int) ≤ 7 := by omega
    have key : ((∃ e : Nat, 0 ≤ e ∧ e ≤ 7 ∧ tc o x i e < 1) ∧ Ret1 (fun fr => EvL C fr [1, 3, 4] B_spec_l22Cheap_1 ⟨[(1, .ptr 0 0), (3, I x), (4, I i)], [[]], [.box (opO o)]⟩)) ∨ (¬ (∃ e : Nat, 0 ≤ e ∧ e ≤ 7 ∧ tc o x i e < 1) ∧ ∀ fr, EvL C fr [1, 3, 4] B_spec_l22Cheap_1 ⟨[(1, .ptr 0 0), (3, I x), (4, I i)], [[]], [.box (opO o)]⟩ = EvL C fr [1, 3, 4] B_spec_l22Cheap_1 ⟨[(1, .ptr 0 0), (3, I x), (4, I ((i + 1 : Nat) : Int))], [[]], [.box (opO o)]⟩) := by
      rcases ch0 o ho hv x i hx (by omega) 0 (Nat.zero_le _) with ⟨h, x1, x2, x3, s, hp, g⟩ | ⟨h, g⟩
      · refine .inl ⟨h, x1, x2, x3, s, hp, fun fr => ?_⟩
        show EvL _ _ _ _ _ = _
        rw [EvL_eq B_spec_l22Cheap_1.eq_1]
        simp at g
        simp +decide [h7, g]
      · refine .inr ⟨h, fun fr => ?_⟩
        rw [EvL_eq B_spec_l22Cheap_1.eq_1]
        simp at g
        simp +decide [h7, g, h4]
    rcases key with ⟨h, g⟩ | ⟨h, e2⟩
    · exact .inl ⟨⟨i, Nat.le_refl _, by omega, h⟩, g⟩
    · rcases ih with ⟨⟨z, q1, q2, q3⟩, x1, x2, x3, s, hp, q4⟩ | ⟨q1, q2⟩
      · exact .inl ⟨⟨z, by omega, q2, q3⟩, x1, x2, x3, s, hp, fun fr => (e2 fr).trans (q4 fr)⟩
      · refine .inr ⟨fun ⟨z, q3, q4, q5⟩ => ?_, fun fr => (e2 fr).trans (q2 fr)⟩
        by_cases hz : z = i
        · subst hz; exact h q5
        · exact q1 ⟨z, by omega, q4, q5⟩

theorem ch2  : ∀ i : Nat, i ≤ 8 →
    ((∃ z : Nat, i ≤ z ∧ z ≤ 7 ∧ ∃ y : Nat, 0 ≤ y ∧ y ≤ 7 ∧ ∃ e : Nat, 0 ≤ e ∧ e ≤ 7 ∧ tc o z y e < 1) ∧ Ret1 (fun fr => EvL C fr [1, 3] B_spec_l22Cheap_2 ⟨[(1, .ptr 0 0), (3, I i)], [[]], [.box (opO o)]⟩)) ∨
    ((¬ ∃ z : Nat, i ≤ z ∧ z ≤ 7 ∧ ∃ y : Nat, 0 ≤ y ∧ y ≤ 7 ∧ ∃ e : Nat, 0 ≤ e ∧ e ≤ 7 ∧ tc o z y e < 1) ∧ ∀ fr, EvL C fr [1, 3] B_spec_l22Cheap_2 ⟨[(1, .ptr 0 0), (3, I i)], [[]], [.box (opO o)]⟩ = EvX C fr (.x 0) ⟨[(1, .ptr 0 0), (3, I 8), (7, Bo false)], [[]], [.box (opO o)]⟩) := by
  refine down 8 ?_ ?_
  · refine .inr ⟨fun ⟨z, h1, h2, _⟩ => by omega, fun fr => ?_⟩
    rw [EvL_eq B_spec_l22Cheap_2.eq_1]
    simp +decide
  · intro i hi ih
    have h4 := inc64 (i := i) (by omega)
    have h7 : (i : Int) ≤ 7 := by omega
    have key : ((∃ y : Nat, 0 ≤ y ∧ y ≤ 7 ∧ ∃ e : Nat, 0 ≤ e ∧ e ≤ 7 ∧ tc o i y e < 1) ∧ Ret1 (fun fr => EvL C fr [1, 3] B_spec_l22Cheap_2 ⟨[(1, .ptr 0 0), (3, I i)], [[]], [.box (opO o)]⟩)) ∨ (¬ (∃ y : Nat, 0 ≤ y ∧ y ≤ 7 ∧ ∃ e : Nat, 0 ≤ e ∧ e ≤ 7 ∧ tc o i y e < 1) ∧ ∀ fr, EvL C fr [1, 3] B_spec_l22Cheap_2 ⟨[(1, .ptr 0 0), (3, I i)], [[]], [.box (opO o)]⟩ = EvL C fr [1, 3] B_spec_l22Cheap_2 ⟨[(1, .ptr 0 0), (3, I ((i + 1 : Nat) : Int))], [[]], [.box (opO o)]⟩) := by
      rcases ch1 o ho hv i (by omega) 0 (Nat.zero_le _) with ⟨h, x1, x2, x3, s, hp, g⟩ | ⟨h, g⟩
      · refine .inl ⟨h, x1, x2, x3, s, hp, fun fr => ?_⟩
        show EvL _ _ _ _ _ = _
        rw [EvL_eq B_spec_l22Cheap_2.eq_1]
        simp at g
        simp +decide [h7, g]
      · refine .inr ⟨h, fun fr => ?_⟩
        rw [EvL_eq B_spec_l22Cheap_2.eq_1]
        simp at g
        simp +decide [h7, g, h4]
    rcases key with ⟨h, g⟩ | ⟨h, e2⟩
    · exact .inl ⟨⟨i, Nat.le_refl _, by omega, h⟩, g⟩
    · rcases ih with ⟨⟨z, q1, q2, q3⟩, x1, x2, x3, s, hp, q4⟩ | ⟨q1, q2⟩
      · exact .inl ⟨⟨z, by omega, q2, q3⟩, x1, x2, x3, s, hp, fun fr => (e2 fr).trans (q4 fr)⟩
      · refine .inr ⟨fun ⟨z, q3, q4, q5⟩ => ?_, fun fr => (e2 fr).trans (q2 fr)⟩
        by_cases hz : z = i
        · subst hz; exact h q5
        · exact q1 ⟨z, by omega, q4, q5⟩
end

def cheap (o : Operator) : Prop := ∃ x y z : Nat, x ≤ 7 ∧ y ≤ 7 ∧ z ≤ 7 ∧ tc o x y z < 1

theorem c_spec_l22Cheap (o : Operator) (ho : Le o.Steps) (hv : validOp o = true) :
    (cheap o ∧ ∃ x y z, C f_spec_l22Cheap [.agg (opO o)] [] = some (.own 0, [.arr t_int 1 true (c3 x y z)])) ∨ (¬ cheap o ∧ C f_spec_l22Cheap [.agg (opO o)] [] = some (.own 0, [.arr t_int 1 true []])) := by
  rcases ch2 o ho hv 0 (Nat.zero_le _) with ⟨⟨x, _, hx, y, _, hy, z, _, hz, hd⟩, x1, x2, x3, s, hp, g⟩ | ⟨h, g⟩
  · refine .inl ⟨⟨x, y, z, hx, hy, hz, hd⟩, x1, x2, x3, run t_spec_l22Cheap rfl ?_⟩
    have g0 : ∀ fr, EvL C fr [1, 3] B_spec_l22Cheap_2 ⟨[(1, .ptr 0 0), (3, I 0)], [[]], [.box (opO o)]⟩ = EvX C fr .r s := g
    simp [M_spec_l22Cheap, g0, EvX_fin_r, -finE]
    exact hp
  · refine .inr ⟨fun ⟨x, y, z, hx, hy, hz, hd⟩ => h ⟨x, Nat.zero_le _, hx, y, Nat.zero_le _, hy, z, Nat.zero_le _, hz, hd⟩, ?_⟩
    refine run t_spec_l22Cheap rfl ?_
    simp at g
    simp [M_spec_l22Cheap, g]

/-! ### the program's triples -/
abbrev Tr3 := Int × Int × Int
def trc (p : Tr3) : List T := [.lst 1 (c3 p.1 p.2.1 p.2.2)]
@[simp] theorem trc_def (p : Tr3) : trc p = [.lst 1 (c3 p.1 p.2.1 p.2.2)] := rfl
def trZ (x y : Int) : Nat → Int → List Tr3
  | 0, _ => []
  | n + 1, z => (x, y, z) :: trZ x y n (z + 1)
def trY (x : Int) : Nat → Int → List Tr3
  | 0, _ => []
  | n + 1, y => trZ x y 8 0 ++ trY x n (y + 1)
def trX : Nat → Int → List Tr3
  | 0, _ => []
  | n + 1, x => trY x 8 0 ++ trX n (x + 1)
def allT : List Tr3 := trX 8 0

theorem trZ_len (x y : Int) : ∀ n z, (trZ x y n z).length = n
  | 0, _ => rfl
  | n + 1, z => by simp [trZ, trZ_len x y n]
theorem trY_len (x : Int) : ∀ n y, (trY x n y).length = 8 * n
  | 0, _ => rfl
  | n + 1, y => by simp [trY, trY_len x n, trZ_len]; omega
theorem trX_len : ∀ n x, (trX n x).length = 64 * n
  | 0, _ => rfl
  | n + 1, x => by simp [trX, trX_len n, trY_len]; omega

theorem tr0 (x y : Int) (fr : List Fr) : ∀ i : Nat, i ≤ 8 → ∀ out : List Tr3, out.length ≤ 10000 + i → EvL C fr [1, 2, 3, 4] B_impl_triples_0 ⟨[(1, .own 0), (2, I x), (3, I y), (4, I i)], [[]], [.arr t_s_int 1 true (out.map trc)]⟩ =
    EvX C fr (.x 4) ⟨[(1, .own 0), (2, I x), (3, I y), (4, I 8), (15, Bo false)], [[]], [.arr t_s_int 1 true ((out ++ trZ x y (8 - i) i).map trc)]⟩ := by
  refine down 8 ?_ ?_
  · intro out ho
    rw [EvL_eq B_impl_triples_0.eq_1]
    simp +decide [trZ]
  · intro i hi ih out ho
    have h4 := inc64 (i := i) (by omega)
    have h7 : (i : Int) ≤ 7 := by omega
    have e : 8 - i = (8 - (i + 1)) + 1 := by omega
    have r1 := room1 (n := out.length + 1) (b := 24) (by omega) (by omega)
    have r2 := room2 (n := out.length + 1) (by omega)
    have ih := ih (out ++ [(x, y, (i : Int))]) (by simp; omega)
    simp at ih
    rw [EvL_eq B_impl_triples_0.eq_1, e, trZ]
    simp +decide [h7, h4, r1, r2, ih]
theorem tr1 (x : Int) (fr : List Fr) : ∀ i : Nat, i ≤ 8 → ∀ out : List Tr3, out.length ≤ 8 * i + 8000 → EvL C fr [1, 2, 3] B_impl_triples_1 ⟨[(1, .own 0), (2, I x), (3, I i)], [[]], [.arr t_s_int 1 true (out.map trc)]⟩ =
    EvX C fr (.x 2) ⟨[(1, .own 0), (2, I x), (3, I 8), (11, Bo false)], [[]], [.arr t_s_int 1 true ((out ++ trY x (8 - i) i).map trc)]⟩ := by
  refine down 8 ?_ ?_
  · intro out ho
    rw [EvL_eq B_impl_triples_1.eq_1]
    simp +decide [trY]
  · intro i hi ih out ho
    have h4 := inc64 (i := i) (by omega)
    have h7 : (i : Int) ≤ 7 := by omega
    have e : 8 - i = (8 - (i + 1)) + 1 := by omega
    have g := fun fr => tr0 x i fr 0 (Nat.zero_le _) out (by omega)
    have ih := ih (out ++ trZ x i 8 0) (by simp [trZ_len]; omega)
    simp at ih g
    rw [EvL_eq B_impl_triples_1.eq_1, e, trY]
    simp +decide [h7, h4, g, ih]
theorem tr2 (fr : List Fr) : ∀ i : Nat, i ≤ 8 → ∀ out : List Tr3, out.length ≤ 64 * i → EvL C fr [1, 2] B_impl_triples_2 ⟨[(1, .own 0), (2, I i)], [[]], [.arr t_s_int 1 true (out.map trc)]⟩ =
    EvX C fr (.x 0) ⟨[(1, .own 0), (2, I 8), (7, Bo false)], [[]], [.arr t_s_int 1 true ((out ++ trX (8 - i) i).map trc)]⟩ := by
  refine down 8 ?_ ?_
  · intro out ho
    rw [EvL_eq B_impl_triples_2.eq_1]
    simp +decide [trX]
  · intro i hi ih out ho
    have h4 := inc64 (i := i) (by omega)
    have h7 : (i : Int) ≤ 7 := by omega
    have e : 8 - i = (8 - (i + 1)) + 1 := by omega
    have g := fun fr => tr1 i fr 0 (Nat.zero_le _) out (by omega)
    have ih := ih (out ++ trY i 8 0) (by simp [trY_len]; omega)
    simp at ih g
    rw [EvL_eq B_impl_triples_2.eq_1, e, trX]
    simp +decide [h7, h4, g, ih]
theorem c_triples : C f_impl_triples [] [] = some (.own 0, [.arr t_s_int 1 true (allT.map trc)]) := by
  refine run t_impl_triples rfl ?_
  have g := fun fr => tr2 fr 0 (Nat.zero_le _) [] (by simp)
  simp at g
  simp +decide [M_impl_triples, g, allT]

theorem mem_trZ (x y : Int) : ∀ (n : Nat) (z : Int) (p : Tr3), p ∈ trZ x y n z ↔ p.1 = x ∧ p.2.1 = y ∧ z ≤ p.2.2 ∧ p.2.2 < z + n
  | 0, z, p => by simp [trZ] <;> omega
  | n + 1, z, ⟨a, b, c⟩ => by
    simp only [trZ, List.mem_cons, mem_trZ x y n, Prod.mk.injEq]
    omega
theorem mem_trY (x : Int) : ∀ (n : Nat) (y : Int) (p : Tr3), p ∈ trY x n y ↔ p.1 = x ∧ (y ≤ p.2.1 ∧ p.2.1 < y + n) ∧ 0 ≤ p.2.2 ∧ p.2.2 < 8
  | 0, z, p => by simp [trY] <;> omega
  | n + 1, z, ⟨a, b, c⟩ => by
    simp only [trY, List.mem_append, mem_trY x n, mem_trZ]
    omega
theorem mem_trX : ∀ (n : Nat) (x : Int) (p : Tr3), p ∈ trX n x ↔ (x ≤ p.1 ∧ p.1 < x + n) ∧ (0 ≤ p.2.1 ∧ p.2.1 < 8) ∧ 0 ≤ p.2.2 ∧ p.2.2 < 8
  | 0, z, p => by simp [trX] <;> omega
  | n + 1, z, ⟨a, b, c⟩ => by
    simp only [trX, List.mem_append, mem_trX n, mem_trY]
    omega
theorem mem_allT (p : Tr3) : p ∈ allT ↔ (0 ≤ p.1 ∧ p.1 ≤ 7) ∧ (0 ≤ p.2.1 ∧ p.2.1 ≤ 7) ∧ 0 ≤ p.2.2 ∧ p.2.2 ≤ 7 := by
  unfold allT
  rw [mem_trX]
  omega
theorem allT_ex (P : Int → Int → Int → Prop) : (∃ p ∈ allT, P p.1 p.2.1 p.2.2) ↔ ∃ x y z : Nat, x ≤ 7 ∧ y ≤ 7 ∧ z ≤ 7 ∧ P x y z := by
  constructor
  · rintro ⟨⟨x, y, z⟩, hp, h⟩
    rw [mem_allT] at hp
    simp only at hp h
    obtain ⟨⟨h1, h2⟩, ⟨h3, h4⟩, h5, h6⟩ := hp
    refine ⟨x.toNat, y.toNat, z.toNat, by omega, by omega, by omega, ?_⟩
    rw [Int.toNat_of_nonneg h1, Int.toNat_of_nonneg h3, Int.toNat_of_nonneg h5]
    exact h
  · rintro ⟨x, y, z, h1, h2, h3, h⟩
    exact ⟨(x, y, z), (mem_allT _).2 (by simp only; omega), h⟩

@[simp] theorem c_copyInts (es : List (List T)) (h : es.length ≤ 1099511627776) (hf : flat es = true) : C f_impl_copyInts [L 1 es] [] = some (.own 0, [.arr t_int 1 true es]) := by
  refine run t_impl_copyInts rfl ?_
  have r1 := room1 (n := es.length) (b := 8) (by omega) (by omega)
  have r2 := room2 (n := es.length) (by omega)
  simp at hf
  simp [M_impl_copyInts, r1, r2]
  exact hf
/-! ### the program's FindDecrease -/
section
variable (o : Operator) (ho : Le o.Steps)
include ho

abbrev RetT (X : List Fr → Option (AV × List Blk)) : Prop := ∃ s, (∃ a b c a' b' c' : Int, finE 0 [.tmp 2, .tmp 3, .tmp 4] s = some (.tup [L 1 (c3 a b c), .own 0, Bo true], [.arr t_int 1 true (c3 a' b' c')])) ∧ ∀ fr, X fr = EvX C fr .r s

theorem id0 (ts : List Tr3) (j : Nat) (x y z : Int) (hx : 0 ≤ x ∧ x ≤ 7) (hy : 0 ≤ y ∧ y ≤ 7) (hz : 0 ≤ z ∧ z ≤ 7) :
    (decAt o x y z ∧ RetT (fun fr => EvL C fr [1, 6, 12, 13, 14, 19, 20] B_impl_FindDecrease_0 ⟨[(1, .ptr 0 0), (6, L 1 (c3 x y z)), (12, .own 1), (13, I ts.length), (14, I j), (19, I 3), (20, I 0)], [[]], [.box (opO o), .arr t_s_int 1 true (ts.map trc)]⟩)) ∨ (¬ decAt o x y z ∧ ∀ fr, EvL C fr [1, 6, 12, 13, 14, 19, 20] B_impl_FindDecrease_0 ⟨[(1, .ptr 0 0), (6, L 1 (c3 x y z)), (12, .own 1), (13, I ts.length), (14, I j), (19, I 3), (20, I 0)], [[]], [.box (opO o), .arr t_s_int 1 true (ts.map trc)]⟩ = EvX C fr (.x 2) ⟨[(1, .ptr 0 0), (6, L 1 (c3 x y z)), (12, .own 1), (13, I ts.length), (14, I j), (19, I 3), (20, I 3), (21, Bo false)], [[]], [.box (opO o), .arr t_s_int 1 true (ts.map trc)]⟩) := by
  have w1 : IntKind.wrap .i64 (x + 1) = x + 1 := wrap64 (by omega) (by omega)
  have w2 : IntKind.wrap .i64 (y + 1) = y + 1 := wrap64 (by omega) (by omega)
  have w3 : IntKind.wrap .i64 (z + 1) = z + 1 := wrap64 (by omega) (by omega)
  have t0 := c_tripleCost o ho x y z
  have s0 : ((x + 1 ≤ 7 ∧ tc o (x + 1) y z < tc o x y z) ∧ RetT (fun fr => EvL C fr [1, 6, 12, 13, 14, 19, 20] B_impl_FindDecrease_0 ⟨[(1, .ptr 0 0), (6, L 1 (c3 x y z)), (12, .own 1), (13, I ts.length), (14, I j), (19, I 3), (20, I 0)], [[]], [.box (opO o), .arr t_s_int 1 true (ts.map trc)]⟩)) ∨ (¬ (x + 1 ≤ 7 ∧ tc o (x + 1) y z < tc o x y z) ∧ ∀ fr, EvL C fr [1, 6, 12, 13, 14, 19, 20] B_impl_FindDecrease_0 ⟨[(1, .ptr 0 0), (6, L 1 (c3 x y z)), (12, .own 1), (13, I ts.length), (14, I j), (19, I 3), (20, I 0)], [[]], [.box (opO o), .arr t_s_int 1 true (ts.map trc)]⟩ = EvL C fr [1, 6, 12, 13, 14, 19, 20] B_impl_FindDecrease_0 ⟨[(1, .ptr 0 0), (6, L 1 (c3 x y z)), (12, .own 1), (13, I ts.length), (14, I j), (19, I 3), (20, I 1)], [[]], [.box (opO o), .arr t_s_int 1 true (ts.map trc)]⟩) := by
    by_cases h1 : x = 7
    · refine .inr ⟨fun h => by omega, fun fr => ?_⟩
      rw [EvL_eq B_impl_FindDecrease_0.eq_1]
      simp +decide [h1, wrap64]
    · have t1 := c_tripleCost o ho (x + 1) y z
      by_cases h2 : tc o (x + 1) y z < tc o x y z
      · refine .inl ⟨⟨by omega, h2⟩, ⟨[(2, L 1 (c3 x y z)), (3, .own 2), (4, Bo true)], [[]], [.box (opO o), .arr t_s_int 1 true (ts.map trc), .arr t_int 1 true (c3 (x + 1) y z)]⟩, ⟨_, _, _, _, _, _, by simp; exact ⟨⟨rfl, rfl, rfl⟩, rfl, rfl, rfl⟩⟩, fun fr => ?_⟩
        show EvL _ _ _ _ _ = _
        rw [EvL_eq B_impl_FindDecrease_0.eq_1]
        simp +decide [w1, h1, t0, t1, h2]
      · refine .inr ⟨fun h => h2 h.2, fun fr => ?_⟩
        rw [EvL_eq B_impl_FindDecrease_0.eq_1]
        simp +decide [w1, h1, t0, t1, h2, wrap64]
  have s1 : ((y + 1 ≤ 7 ∧ tc o x (y + 1) z < tc o x y z) ∧ RetT (fun fr => EvL C fr [1, 6, 12, 13, 14, 19, 20] B_impl_FindDecrease_0 ⟨[(1, .ptr 0 0), (6, L 1 (c3 x y z)), (12, .own 1), (13, I ts.length), (14, I j), (19, I 3), (20, I 1)], [[]], [.box (opO o), .arr t_s_int 1 true (ts.map trc)]⟩)) ∨ (¬ (y + 1 ≤ 7 ∧ tc o x (y + 1) z < tc o x y z) ∧ ∀ fr, EvL C fr [1, 6, 12, 13, 14, 19, 20] B_impl_FindDecrease_0 ⟨[(1, .ptr 0 0), (6, L 1 (c3 x y z)), (12, .own 1), (13, I ts.length), (14, I j), (19, I 3), (20, I 1)], [[]], [.box (opO o), .arr t_s_int 1 true (ts.map trc)]⟩ = EvL C fr [1, 6, 12, 13, 14, 19, 20] B_impl_FindDecrease_0 ⟨[(1, .ptr 0 0), (6, L 1 (c3 x y z)), (12, .own 1), (13, I ts.length), (14, I j), (19, I 3), (20, I 2)], [[]], [.box (opO o), .arr t_s_int 1 true (ts.map trc)]⟩) := by
    by_cases h1 : y = 7
    · refine .inr ⟨fun h => by omega, fun fr => ?_⟩
      rw [EvL_eq B_impl_FindDecrease_0.eq_1]
      simp +decide [h1, wrap64]
    · have t1 := c_tripleCost o ho x (y + 1) z
      by_cases h2 : tc o x (y + 1) z < tc o x y z
      · refine .inl ⟨⟨by omega, h2⟩, ⟨[(2, L 1 (c3 x y z)), (3, .own 2), (4, Bo true)], [[]], [.box (opO o), .arr t_s_int 1 true (ts.map trc), .arr t_int 1 true (c3 x (y + 1) z)]⟩, ⟨_, _, _, _, _, _, by simp; exact ⟨⟨rfl, rfl, rfl⟩, rfl, rfl, rfl⟩⟩, fun fr => ?_⟩
        show EvL _ _ _ _ _ = _
        rw [EvL_eq B_impl_FindDecrease_0.eq_1]
        simp +decide [w2, h1, t0, t1, h2]
      · refine .inr ⟨fun h => h2 h.2, fun fr => ?_⟩
        rw [EvL_eq B_impl_FindDecrease_0.eq_1]
        simp +decide [w2, h1, t0, t1, h2, wrap64]
  have s2 : ((z + 1 ≤ 7 ∧ tc o x y (z + 1) < tc o x y z) ∧ RetT (fun fr => EvL C fr [1, 6, 12, 13, 14, 19, 20] B_impl_FindDecrease_0 ⟨[(1, .ptr 0 0), (6, L 1 (c3 x y z)), (12, .own 1), (13, I ts.length), (14, I j), (19, I 3), (20, I 2)], [[]], [.box (opO o), .arr t_s_int 1 true (ts.map trc)]⟩)) ∨ (¬ (z + 1 ≤ 7 ∧ tc o x y (z + 1) < tc o x y z) ∧ ∀ fr, EvL C fr [1, 6, 12, 13, 14, 19, 20] B_impl_FindDecrease_0 ⟨[(1, .ptr 0 0), (6, L 1 (c3 x y z)), (12, .own 1), (13, I ts.length), (14, I j), (19, I 3), (20, I 2)], [[]], [.box (opO o), .arr t_s_int 1 true (ts.map trc)]⟩ = EvL C fr [1, 6, 12, 13, 14, 19, 20] B_impl_FindDecrease_0 ⟨[(1, .ptr 0 0), (6, L 1 (c3 x y z)), (12, .own 1), (13, I ts.length), (14, I j), (19, I 3), (20, I 3)], [[]], [.box (opO o), .arr t_s_int 1 true (ts.map trc)]⟩) := by
    by_cases h1 : z = 7
    · refine .inr ⟨fun h => by omega, fun fr => ?_⟩
      rw [EvL_eq B_impl_FindDecrease_0.eq_1]
      simp +decide [h1, wrap64]
    · have t1 := c_tripleCost o ho x y (z + 1)
      by_cases h2 : tc o x y (z + 1) < tc o x y z
      · refine .inl ⟨⟨by omega, h2⟩, ⟨[(2, L 1 (c3 x y z)), (3, .own 2), (4, Bo true)], [[]], [.box (opO o), .arr t_s_int 1 true (ts.map trc), .arr t_int 1 true (c3 x y (z + 1))]⟩, ⟨_, _, _, _, _, _, by simp; exact ⟨⟨rfl, rfl, rfl⟩, rfl, rfl, rfl⟩⟩, fun fr => ?_⟩
        show EvL _ _ _ _ _ = _
        rw [EvL_eq B_impl_FindDecrease_0.eq_1]
        simp +decide [w3, h1, t0, t1, h2]
      · refine .inr ⟨fun h => h2 h.2, fun fr => ?_⟩
        rw [EvL_eq B_impl_FindDecrease_0.eq_1]
        simp +decide [w3, h1, t0, t1, h2, wrap64]
  have s3 : ∀ fr, EvL C fr [1, 6, 12, 13, 14, 19, 20] B_impl_FindDecrease_0 ⟨[(1, .ptr 0 0), (6, L 1 (c3 x y z)), (12, .own 1), (13, I ts.length), (14, I j), (19, I 3), (20, I 3)], [[]], [.box (opO o), .arr t_s_int 1 true (ts.map trc)]⟩ = EvX C fr (.x 2) ⟨[(1, .ptr 0 0), (6, L 1 (c3 x y z)), (12, .own 1), (13, I ts.length), (14, I j), (19, I 3), (20, I 3), (21, Bo false)], [[]], [.box (opO o), .arr t_s_int 1 true (ts.map trc)]⟩ := by
    intro fr
    rw [EvL_eq B_impl_FindDecrease_0.eq_1]
    simp +decide
  unfold decAt
  rcases s0 with ⟨h, g⟩ | ⟨h, g⟩
  · exact .inl ⟨.inl h, g⟩
  rcases s1 with ⟨h', s, hp, g'⟩ | ⟨h', g'⟩
  · exact .inl ⟨.inr (.inl h'), s, hp, fun fr => (g fr).trans (g' fr)⟩
  rcases s2 with ⟨h2, s, hp, g2⟩ | ⟨h2, g2⟩
  · exact .inl ⟨.inr (.inr h2), s, hp, fun fr => ((g fr).trans (g' fr)).trans (g2 fr)⟩
  · exact .inr ⟨by rintro (q | q | q) <;> contradiction, fun fr => by rw [g, g', g2, s3]⟩

theorem id1 (ts : List Tr3) (hl : Le ts) (ht : ∀ p ∈ ts, (0 ≤ p.1 ∧ p.1 ≤ 7) ∧ (0 ≤ p.2.1 ∧ p.2.1 ≤ 7) ∧ 0 ≤ p.2.2 ∧ p.2.2 ≤ 7) : ∀ i, i ≤ ts.length →
    ((∃ p ∈ ts.drop i, decAt o p.1 p.2.1 p.2.2) ∧ RetT (fun fr => EvL C fr [1, 12, 13, 14] B_impl_FindDecrease_1 ⟨[(1, .ptr 0 0), (12, .own 1), (13, I ts.length), (14, I i)], [[]], [.box (opO o), .arr t_s_int 1 true (ts.map trc)]⟩)) ∨
    ((¬ ∃ p ∈ ts.drop i, decAt o p.1 p.2.1 p.2.2) ∧ ∀ fr, EvL C fr [1, 12, 13, 14] B_impl_FindDecrease_1 ⟨[(1, .ptr 0 0), (12, .own 1), (13, I ts.length), (14, I i)], [[]], [.box (opO o), .arr t_s_int 1 true (ts.map trc)]⟩ =
      EvX C fr (.x 0) ⟨[(1, .ptr 0 0), (12, .own 1), (13, I ts.length), (14, I ts.length), (15, Bo false)], [[]], [.box (opO o), .arr t_s_int 1 true (ts.map trc)]⟩) := by
  refine down _ ?_ ?_
  · refine .inr ⟨by simp, fun fr => ?_⟩
    rw [EvL_eq B_impl_FindDecrease_1.eq_1]
    simp +decide
  · intro i hi ih
    have h4 := inc64 (i := i) (by omega)
    obtain ⟨b1, b2, b3⟩ := ht ts[i] (List.getElem_mem hi)
    rw [List.drop_eq_getElem_cons hi]
    rcases id0 o ho ts i ts[i].1 ts[i].2.1 ts[i].2.2 b1 b2 b3 with ⟨h, s, hp, g⟩ | ⟨h, g⟩
    · refine .inl ⟨⟨_, List.mem_cons_self, h⟩, s, hp, fun fr => ?_⟩
      show EvL _ _ _ _ _ = _
      rw [EvL_eq B_impl_FindDecrease_1.eq_1]
      simp +decide [hi, g]
    · have e2 : ∀ fr, EvL C fr [1, 12, 13, 14] B_impl_FindDecrease_1 ⟨[(1, .ptr 0 0), (12, .own 1), (13, I ts.length), (14, I i)], [[]], [.box (opO o), .arr t_s_int 1 true (ts.map trc)]⟩ = EvL C fr [1, 12, 13, 14] B_impl_FindDecrease_1 ⟨[(1, .ptr 0 0), (12, .own 1), (13, I ts.length), (14, I ((i + 1 : Nat) : Int))], [[]], [.box (opO o), .arr t_s_int 1 true (ts.map trc)]⟩ := by
        intro fr
        rw [EvL_eq B_impl_FindDecrease_1.eq_1]
        simp +decide [hi, g, h4]
      rcases ih with ⟨⟨p, q1, q2⟩, s, hp, q4⟩ | ⟨q1, q2⟩
      · exact .inl ⟨⟨p, List.mem_cons_of_mem _ q1, q2⟩, s, hp, fun fr => (e2 fr).trans (q4 fr)⟩
      · refine .inr ⟨fun ⟨p, q3, q4⟩ => ?_, fun fr => (e2 fr).trans (q2 fr)⟩
        rcases List.mem_cons.1 q3 with rfl | q3
        · exact h q4
        · exact q1 ⟨p, q3, q4⟩

theorem c_impl_FindDecrease (hv : validOp o = true) :
    (decr o ∧ ∃ a b c a' b' c' : Int, C f_impl_FindDecrease [.agg (opO o)] [] = some (.tup [L 1 (c3 a b c), .own 0, Bo true], [.arr t_int 1 true (c3 a' b' c')])) ∨ (¬ decr o ∧ C f_impl_FindDecrease [.agg (opO o)] [] = some (.tup [.t .nil, .t .nil, Bo false], [])) := by
  have hv' := c_impl_IsValidOperator o.Fixed o.PerLeft o.PerRight o.PerOutput o.PerPair o.Steps ho
  have hv2 : validOp ⟨o.Fixed, o.PerLeft, o.PerRight, o.PerOutput, o.PerPair, o.Steps⟩ = true := hv
  rw [hv2] at hv'
  have hl : allT.length = 512 := by unfold allT; rw [trX_len]
  have ha := allT_ex (decAt o)
  rcases id1 o ho allT (by omega) (fun p hp => (mem_allT p).1 hp) 0 (Nat.zero_le _) with ⟨hd, s, ⟨a1, a2, a3, a4, a5, a6, hp⟩, g⟩ | ⟨h, g⟩
  · rw [List.drop_zero] at hd
    refine .inl ⟨ha.1 hd, a1, a2, a3, a4, a5, a6, run t_impl_FindDecrease rfl ?_⟩
    have g0 : ∀ fr, EvL C fr [1, 12, 13, 14] B_impl_FindDecrease_1 ⟨[(1, .ptr 0 0), (12, .own 1), (13, I allT.length), (14, I 0)], [[]], [.box (opO o), .arr t_s_int 1 true (allT.map trc)]⟩ = EvX C fr .r s := g
    simp [M_impl_FindDecrease, hv', c_triples, g0, EvX_fin_r, -finE]
    exact hp
  · rw [List.drop_zero] at h
    refine .inr ⟨fun hd => h (ha.2 hd), run t_impl_FindDecrease rfl ?_⟩
    simp at g
    simp [M_impl_FindDecrease, hv', c_triples, g]
end
end Go.Proofs.Ytlnnmndebmkdhaa
