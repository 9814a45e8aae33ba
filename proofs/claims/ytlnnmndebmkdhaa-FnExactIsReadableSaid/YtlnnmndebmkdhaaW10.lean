/-
  RefuteModel and IsReadable of the program: the walks and the law.
-/
import Derived.Test.YtlnnmndebmkdhaaW9
namespace Go.Proofs.Ytlnnmndebmkdhaa
open Go.AM
set_option linter.unusedSimpArgs false
set_option linter.unusedVariables false

theorem c_operators (m : Model) : C f_impl_operators [.ptr 0 0] [.box (mdl m)] = some (.bsl 1 5, [.box (mdl m), .box [.ptr 0 0, .ptr 0 6, .ptr 0 12, .ptr 0 18, .ptr 0 24]]) := by
  refine runM t_impl_operators rfl ?_
  simp +decide [M_impl_operators]

theorem ic0 (m : Model) (hm : LeM m) (ts : List Tr3) (hl : Le ts) : ∀ j, j ≤ ts.length →
    ((∃ p ∈ ts.drop j, tc m.Scan p.1 p.2.1 p.2.2 < 1) ∧ RetK 1 (fun fr => EvL C fr [6, 7, 13, 14, 15, 40, 41, 42] B_impl_RefuteModel_0 ⟨[(6, .ptr 0 0), (7, I 1), (13, .bsl 1 5), (14, I 5), (15, I 0), (40, .own 2), (41, I ts.length), (42, I j)], [[]], [.box (mdl m), .box [.ptr 0 0, .ptr 0 6, .ptr 0 12, .ptr 0 18, .ptr 0 24], .arr t_s_int 1 true (ts.map trc)]⟩)) ∨
    ((¬ ∃ p ∈ ts.drop j, tc m.Scan p.1 p.2.1 p.2.2 < 1) ∧ ∀ fr, EvL C fr [6, 7, 13, 14, 15, 40, 41, 42] B_impl_RefuteModel_0 ⟨[(6, .ptr 0 0), (7, I 1), (13, .bsl 1 5), (14, I 5), (15, I 0), (40, .own 2), (41, I ts.length), (42, I j)], [[]], [.box (mdl m), .box [.ptr 0 0, .ptr 0 6, .ptr 0 12, .ptr 0 18, .ptr 0 24], .arr t_s_int 1 true (ts.map trc)]⟩ = EvX C fr (.x 2) ⟨[(6, .ptr 0 0), (7, I 1), (13, .bsl 1 5), (14, I 5), (15, I 0), (40, .own 2), (41, I ts.length), (42, I ts.length), (43, Bo false)], [[]], [.box (mdl m), .box [.ptr 0 0, .ptr 0 6, .ptr 0 12, .ptr 0 18, .ptr 0 24], .arr t_s_int 1 true (ts.map trc)]⟩) := by
  have ho : Le m.Scan.Steps := hm.1
  refine down _ ?_ ?_
  · refine .inr ⟨by simp, fun fr => ?_⟩
    rw [EvL_eq B_impl_RefuteModel_0.eq_1]
    simp +decide
  · intro j hj ih
    have h4 := inc64 (i := j) (by omega)
    have t1 := c_tripleCost m.Scan ho ts[j].1 ts[j].2.1 ts[j].2.2
    rw [List.drop_eq_getElem_cons hj]
    by_cases h : tc m.Scan ts[j].1 ts[j].2.1 ts[j].2.2 < 1
    · refine .inl ⟨⟨_, List.mem_cons_self, h⟩, ⟨[(2, I 1), (3, L 1 (c3 ts[j].1 ts[j].2.1 ts[j].2.2)), (4, .t .nil)], [[]], [.box (mdl m), .box [.ptr 0 0, .ptr 0 6, .ptr 0 12, .ptr 0 18, .ptr 0 24], .arr t_s_int 1 true (ts.map trc)]⟩, ⟨_, _, _, by simp; exact ⟨⟨rfl, rfl⟩, rfl⟩⟩, fun fr => ?_⟩
      show EvL _ _ _ _ _ = _
      rw [EvL_eq B_impl_RefuteModel_0.eq_1]
      simp +decide [hj, t1, h]
    · have e2 : ∀ fr, EvL C fr [6, 7, 13, 14, 15, 40, 41, 42] B_impl_RefuteModel_0 ⟨[(6, .ptr 0 0), (7, I 1), (13, .bsl 1 5), (14, I 5), (15, I 0), (40, .own 2), (41, I ts.length), (42, I j)], [[]], [.box (mdl m), .box [.ptr 0 0, .ptr 0 6, .ptr 0 12, .ptr 0 18, .ptr 0 24], .arr t_s_int 1 true (ts.map trc)]⟩ = EvL C fr [6, 7, 13, 14, 15, 40, 41, 42] B_impl_RefuteModel_0 ⟨[(6, .ptr 0 0), (7, I 1), (13, .bsl 1 5), (14, I 5), (15, I 0), (40, .own 2), (41, I ts.length), (42, I ((j + 1 : Nat) : Int))], [[]], [.box (mdl m), .box [.ptr 0 0, .ptr 0 6, .ptr 0 12, .ptr 0 18, .ptr 0 24], .arr t_s_int 1 true (ts.map trc)]⟩ := by
        intro fr
        rw [EvL_eq B_impl_RefuteModel_0.eq_1]
        simp +decide [hj, t1, h, h4]
      rcases ih with ⟨⟨p, q1, q2⟩, s, hp, q4⟩ | ⟨q1, q2⟩
      · exact .inl ⟨⟨p, List.mem_cons_of_mem _ q1, q2⟩, s, hp, fun fr => (e2 fr).trans (q4 fr)⟩
      · refine .inr ⟨fun ⟨p, q3, q4⟩ => ?_, fun fr => (e2 fr).trans (q2 fr)⟩
        rcases List.mem_cons.1 q3 with rfl | q3
        · exact h q4
        · exact q1 ⟨p, q3, q4⟩

theorem ir0 (m : Model) (hm : LeM m) :
    (¬ goodOp m.Scan ∧ RetK 1 (fun fr => EvL C fr [13, 14, 15] B_impl_RefuteModel_1 ⟨[(13, .bsl 0 5), (14, I 5), (15, I 0)], [[]], [.box [.ptr 1 0, .ptr 1 6, .ptr 1 12, .ptr 1 18, .ptr 1 24], .box (mdl m)]⟩)) ∨ (goodOp m.Scan ∧ ∀ fr, EvL C fr [13, 14, 15] B_impl_RefuteModel_1 ⟨[(13, .bsl 0 5), (14, I 5), (15, I 0)], [[]], [.box [.ptr 1 0, .ptr 1 6, .ptr 1 12, .ptr 1 18, .ptr 1 24], .box (mdl m)]⟩ = EvL C fr [13, 14, 15] B_impl_RefuteModel_1 ⟨[(13, .bsl 0 5), (14, I 5), (15, I 1)], [[]], [.box [.ptr 1 0, .ptr 1 6, .ptr 1 12, .ptr 1 18, .ptr 1 24], .box (mdl m)]⟩) := by
  have ho : Le m.Scan.Steps := hm.1
  have v1 := c_impl_IsValidOperator m.Scan.Fixed m.Scan.PerLeft m.Scan.PerRight m.Scan.PerOutput m.Scan.PerPair m.Scan.Steps ho
  have ev : validOp ⟨m.Scan.Fixed, m.Scan.PerLeft, m.Scan.PerRight, m.Scan.PerOutput, m.Scan.PerPair, m.Scan.Steps⟩ = validOp m.Scan := rfl
  rw [ev] at v1
  have hl : allT.length = 512 := by unfold allT; rw [trX_len]
  rcases tf (validOp m.Scan) with hv | hv
  · rw [hv] at v1
    refine .inl ⟨(fun h => (by rw [h.1] at hv; cases hv)), ⟨[(2, I 1), (3, .t .nil), (4, .t .nil)], [[]], [.box [.ptr 1 0, .ptr 1 6, .ptr 1 12, .ptr 1 18, .ptr 1 24], .box (mdl m)]⟩, ⟨_, _, _, by simp; exact ⟨⟨rfl, rfl⟩, rfl⟩⟩, fun fr => ?_⟩
    show EvL _ _ _ _ _ = _
    rw [EvL_eq B_impl_RefuteModel_1.eq_1]
    simp +decide [v1, wrap64]
  rw [hv] at v1
  rcases c_impl_FindDecrease m.Scan ho hv with ⟨hd, a, b, c, a', b', c', f1⟩ | ⟨hd, f1⟩
  · refine .inl ⟨fun h => h.2.1 hd, ⟨[(2, I 1), (3, L 1 (c3 a b c)), (4, .own 2)], [[]], [.box [.ptr 1 0, .ptr 1 6, .ptr 1 12, .ptr 1 18, .ptr 1 24], .box (mdl m), .arr t_int 1 true (c3 a' b' c')]⟩, ⟨_, _, _, by simp; exact ⟨⟨rfl, rfl⟩, rfl⟩⟩, fun fr => ?_⟩
    show EvL _ _ _ _ _ = _
    rw [EvL_eq B_impl_RefuteModel_1.eq_1]
    simp +decide [v1, wrap64, f1]
  have ha := allT_ex (fun x y z => tc m.Scan x y z < 1)
  rcases ic0 m hm allT (by omega) 0 (Nat.zero_le _) with ⟨hc, s, hp, g⟩ | ⟨hc, g⟩
  · rw [List.drop_zero] at hc
    refine .inl ⟨fun h => h.2.2 (ha.1 hc), s, hp, fun fr => ?_⟩
    show EvL _ _ _ _ _ = _
    rw [EvL_eq B_impl_RefuteModel_1.eq_1]
    simp at g
    simp +decide [v1, wrap64, f1, c_triples, g]
  · rw [List.drop_zero] at hc
    refine .inr ⟨⟨hv, hd, fun h => hc (ha.2 h)⟩, fun fr => ?_⟩
    rw [EvL_eq B_impl_RefuteModel_1.eq_1]
    simp at g
    simp +decide [v1, wrap64, f1, c_triples, g]

theorem ic1 (m : Model) (hm : LeM m) (ts : List Tr3) (hl : Le ts) : ∀ j, j ≤ ts.length →
    ((∃ p ∈ ts.drop j, tc m.Sort_ p.1 p.2.1 p.2.2 < 1) ∧ RetK 2 (fun fr => EvL C fr [6, 7, 13, 14, 15, 40, 41, 42] B_impl_RefuteModel_0 ⟨[(6, .ptr 0 6), (7, I 2), (13, .bsl 1 5), (14, I 5), (15, I 1), (40, .own 2), (41, I ts.length), (42, I j)], [[]], [.box (mdl m), .box [.ptr 0 0, .ptr 0 6, .ptr 0 12, .ptr 0 18, .ptr 0 24], .arr t_s_int 1 true (ts.map trc)]⟩)) ∨
    ((¬ ∃ p ∈ ts.drop j, tc m.Sort_ p.1 p.2.1 p.2.2 < 1) ∧ ∀ fr, EvL C fr [6, 7, 13, 14, 15, 40, 41, 42] B_impl_RefuteModel_0 ⟨[(6, .ptr 0 6), (7, I 2), (13, .bsl 1 5), (14, I 5), (15, I 1), (40, .own 2), (41, I ts.length), (42, I j)], [[]], [.box (mdl m), .box [.ptr 0 0, .ptr 0 6, .ptr 0 12, .ptr 0 18, .ptr 0 24], .arr t_s_int 1 true (ts.map trc)]⟩ = EvX C fr (.x 2) ⟨[(6, .ptr 0 6), (7, I 2), (13, .bsl 1 5), (14, I 5), (15, I 1), (40, .own 2), (41, I ts.length), (42, I ts.length), (43, Bo false)], [[]], [.box (mdl m), .box [.ptr 0 0, .ptr 0 6, .ptr 0 12, .ptr 0 18, .ptr 0 24], .arr t_s_int 1 true (ts.map trc)]⟩) := by
  have ho : Le m.Sort_.Steps := hm.2.1
  refine down _ ?_ ?_
  · refine .inr ⟨by simp, fun fr => ?_⟩
    rw [EvL_eq B_impl_RefuteModel_0.eq_1]
    simp +decide
  · intro j hj ih
    have h4 := inc64 (i := j) (by omega)
    have t1 := c_tripleCost m.Sort_ ho ts[j].1 ts[j].2.1 ts[j].2.2
    rw [List.drop_eq_getElem_cons hj]
    by_cases h : tc m.Sort_ ts[j].1 ts[j].2.1 ts[j].2.2 < 1
    · refine .inl ⟨⟨_, List.mem_cons_self, h⟩, ⟨[(2, I 2), (3, L 1 (c3 ts[j].1 ts[j].2.1 ts[j].2.2)), (4, .t .nil)], [[]], [.box (mdl m), .box [.ptr 0 0, .ptr 0 6, .ptr 0 12, .ptr 0 18, .ptr 0 24], .arr t_s_int 1 true (ts.map trc)]⟩, ⟨_, _, _, by simp; exact ⟨⟨rfl, rfl⟩, rfl⟩⟩, fun fr => ?_⟩
      show EvL _ _ _ _ _ = _
      rw [EvL_eq B_impl_RefuteModel_0.eq_1]
      simp +decide [hj, t1, h]
    · have e2 : ∀ fr, EvL C fr [6, 7, 13, 14, 15, 40, 41, 42] B_impl_RefuteModel_0 ⟨[(6, .ptr 0 6), (7, I 2), (13, .bsl 1 5), (14, I 5), (15, I 1), (40, .own 2), (41, I ts.length), (42, I j)], [[]], [.box (mdl m), .box [.ptr 0 0, .ptr 0 6, .ptr 0 12, .ptr 0 18, .ptr 0 24], .arr t_s_int 1 true (ts.map trc)]⟩ = EvL C fr [6, 7, 13, 14, 15, 40, 41, 42] B_impl_RefuteModel_0 ⟨[(6, .ptr 0 6), (7, I 2), (13, .bsl 1 5), (14, I 5), (15, I 1), (40, .own 2), (41, I ts.length), (42, I ((j + 1 : Nat) : Int))], [[]], [.box (mdl m), .box [.ptr 0 0, .ptr 0 6, .ptr 0 12, .ptr 0 18, .ptr 0 24], .arr t_s_int 1 true (ts.map trc)]⟩ := by
        intro fr
        rw [EvL_eq B_impl_RefuteModel_0.eq_1]
        simp +decide [hj, t1, h, h4]
      rcases ih with ⟨⟨p, q1, q2⟩, s, hp, q4⟩ | ⟨q1, q2⟩
      · exact .inl ⟨⟨p, List.mem_cons_of_mem _ q1, q2⟩, s, hp, fun fr => (e2 fr).trans (q4 fr)⟩
      · refine .inr ⟨fun ⟨p, q3, q4⟩ => ?_, fun fr => (e2 fr).trans (q2 fr)⟩
        rcases List.mem_cons.1 q3 with rfl | q3
        · exact h q4
        · exact q1 ⟨p, q3, q4⟩

theorem ir1 (m : Model) (hm : LeM m) :
    (¬ goodOp m.Sort_ ∧ RetK 2 (fun fr => EvL C fr [13, 14, 15] B_impl_RefuteModel_1 ⟨[(13, .bsl 0 5), (14, I 5), (15, I 1)], [[]], [.box [.ptr 1 0, .ptr 1 6, .ptr 1 12, .ptr 1 18, .ptr 1 24], .box (mdl m)]⟩)) ∨ (goodOp m.Sort_ ∧ ∀ fr, EvL C fr [13, 14, 15] B_impl_RefuteModel_1 ⟨[(13, .bsl 0 5), (14, I 5), (15, I 1)], [[]], [.box [.ptr 1 0, .ptr 1 6, .ptr 1 12, .ptr 1 18, .ptr 1 24], .box (mdl m)]⟩ = EvL C fr [13, 14, 15] B_impl_RefuteModel_1 ⟨[(13, .bsl 0 5), (14, I 5), (15, I 2)], [[]], [.box [.ptr 1 0, .ptr 1 6, .ptr 1 12, .ptr 1 18, .ptr 1 24], .box (mdl m)]⟩) := by
  have ho : Le m.Sort_.Steps := hm.2.1
  have v1 := c_impl_IsValidOperator m.Sort_.Fixed m.Sort_.PerLeft m.Sort_.PerRight m.Sort_.PerOutput m.Sort_.PerPair m.Sort_.Steps ho
  have ev : validOp ⟨m.Sort_.Fixed, m.Sort_.PerLeft, m.Sort_.PerRight, m.Sort_.PerOutput, m.Sort_.PerPair, m.Sort_.Steps⟩ = validOp m.Sort_ := rfl
  rw [ev] at v1
  have hl : allT.length = 512 := by unfold allT; rw [trX_len]
  rcases tf (validOp m.Sort_) with hv | hv
  · rw [hv] at v1
    refine .inl ⟨(fun h => (by rw [h.1] at hv; cases hv)), ⟨[(2, I 2), (3, .t .nil), (4, .t .nil)], [[]], [.box [.ptr 1 0, .ptr 1 6, .ptr 1 12, .ptr 1 18, .ptr 1 24], .box (mdl m)]⟩, ⟨_, _, _, by simp; exact ⟨⟨rfl, rfl⟩, rfl⟩⟩, fun fr => ?_⟩
    show EvL _ _ _ _ _ = _
    rw [EvL_eq B_impl_RefuteModel_1.eq_1]
    simp +decide [v1, wrap64]
  rw [hv] at v1
  rcases c_impl_FindDecrease m.Sort_ ho hv with ⟨hd, a, b, c, a', b', c', f1⟩ | ⟨hd, f1⟩
  · refine .inl ⟨fun h => h.2.1 hd, ⟨[(2, I 2), (3, L 1 (c3 a b c)), (4, .own 2)], [[]], [.box [.ptr 1 0, .ptr 1 6, .ptr 1 12, .ptr 1 18, .ptr 1 24], .box (mdl m), .arr t_int 1 true (c3 a' b' c')]⟩, ⟨_, _, _, by simp; exact ⟨⟨rfl, rfl⟩, rfl⟩⟩, fun fr => ?_⟩
    show EvL _ _ _ _ _ = _
    rw [EvL_eq B_impl_RefuteModel_1.eq_1]
    simp +decide [v1, wrap64, f1]
  have ha := allT_ex (fun x y z => tc m.Sort_ x y z < 1)
  rcases ic1 m hm allT (by omega) 0 (Nat.zero_le _) with ⟨hc, s, hp, g⟩ | ⟨hc, g⟩
  · rw [List.drop_zero] at hc
    refine .inl ⟨fun h => h.2.2 (ha.1 hc), s, hp, fun fr => ?_⟩
    show EvL _ _ _ _ _ = _
    rw [EvL_eq B_impl_RefuteModel_1.eq_1]
    simp at g
    simp +decide [v1, wrap64, f1, c_triples, g]
  · rw [List.drop_zero] at hc
    refine .inr ⟨⟨hv, hd, fun h => hc (ha.2 h)⟩, fun fr => ?_⟩
    rw [EvL_eq B_impl_RefuteModel_1.eq_1]
    simp at g
    simp +decide [v1, wrap64, f1, c_triples, g]

theorem ic2 (m : Model) (hm : LeM m) (ts : List Tr3) (hl : Le ts) : ∀ j, j ≤ ts.length →
    ((∃ p ∈ ts.drop j, tc m.Hash p.1 p.2.1 p.2.2 < 1) ∧ RetK 3 (fun fr => EvL C fr [6, 7, 13, 14, 15, 40, 41, 42] B_impl_RefuteModel_0 ⟨[(6, .ptr 0 12), (7, I 3), (13, .bsl 1 5), (14, I 5), (15, I 2), (40, .own 2), (41, I ts.length), (42, I j)], [[]], [.box (mdl m), .box [.ptr 0 0, .ptr 0 6, .ptr 0 12, .ptr 0 18, .ptr 0 24], .arr t_s_int 1 true (ts.map trc)]⟩)) ∨
    ((¬ ∃ p ∈ ts.drop j, tc m.Hash p.1 p.2.1 p.2.2 < 1) ∧ ∀ fr, EvL C fr [6, 7, 13, 14, 15, 40, 41, 42] B_impl_RefuteModel_0 ⟨[(6, .ptr 0 12), (7, I 3), (13, .bsl 1 5), (14, I 5), (15, I 2), (40, .own 2), (41, I ts.length), (42, I j)], [[]], [.box (mdl m), .box [.ptr 0 0, .ptr 0 6, .ptr 0 12, .ptr 0 18, .ptr 0 24], .arr t_s_int 1 true (ts.map trc)]⟩ = EvX C fr (.x 2) ⟨[(6, .ptr 0 12), (7, I 3), (13, .bsl 1 5), (14, I 5), (15, I 2), (40, .own 2), (41, I ts.length), (42, I ts.length), (43, Bo false)], [[]], [.box (mdl m), .box [.ptr 0 0, .ptr 0 6, .ptr 0 12, .ptr 0 18, .ptr 0 24], .arr t_s_int 1 true (ts.map trc)]⟩) := by
  have ho : Le m.Hash.Steps := hm.2.2.1
  refine down _ ?_ ?_
  · refine .inr ⟨by simp, fun fr => ?_⟩
    rw [EvL_eq B_impl_RefuteModel_0.eq_1]
    simp +decide
  · intro j hj ih
    have h4 := inc64 (i := j) (by omega)
    have t1 := c_tripleCost m.Hash ho ts[j].1 ts[j].2.1 ts[j].2.2
    rw [List.drop_eq_getElem_cons hj]
    by_cases h : tc m.Hash ts[j].1 ts[j].2.1 ts[j].2.2 < 1
    · refine .inl ⟨⟨_, List.mem_cons_self, h⟩, ⟨[(2, I 3), (3, L 1 (c3 ts[j].1 ts[j].2.1 ts[j].2.2)), (4, .t .nil)], [[]], [.box (mdl m), .box [.ptr 0 0, .ptr 0 6, .ptr 0 12, .ptr 0 18, .ptr 0 24], .arr t_s_int 1 true (ts.map trc)]⟩, ⟨_, _, _, by simp; exact ⟨⟨rfl, rfl⟩, rfl⟩⟩, fun fr => ?_⟩
      show EvL _ _ _ _ _ = _
      rw [EvL_eq B_impl_RefuteModel_0.eq_1]
      simp +decide [hj, t1, h]
    · have e2 : ∀ fr, EvL C fr [6, 7, 13, 14, 15, 40, 41, 42] B_impl_RefuteModel_0 ⟨[(6, .ptr 0 12), (7, I 3), (13, .bsl 1 5), (14, I 5), (15, I 2), (40, .own 2), (41, I ts.length), (42, I j)], [[]], [.box (mdl m), .box [.ptr 0 0, .ptr 0 6, .ptr 0 12, .ptr 0 18, .ptr 0 24], .arr t_s_int 1 true (ts.map trc)]⟩ = EvL C fr [6, 7, 13, 14, 15, 40, 41, 42] B_impl_RefuteModel_0 ⟨[(6, .ptr 0 12), (7, I 3), (13, .bsl 1 5), (14, I 5), (15, I 2), (40, .own 2), (41, I ts.length), (42, I ((j + 1 : Nat) : Int))], [[]], [.box (mdl m), .box [.ptr 0 0, .ptr 0 6, .ptr 0 12, .ptr 0 18, .ptr 0 24], .arr t_s_int 1 true (ts.map trc)]⟩ := by
        intro fr
        rw [EvL_eq B_impl_RefuteModel_0.eq_1]
        simp +decide [hj, t1, h, h4]
      rcases ih with ⟨⟨p, q1, q2⟩, s, hp, q4⟩ | ⟨q1, q2⟩
      · exact .inl ⟨⟨p, List.mem_cons_of_mem _ q1, q2⟩, s, hp, fun fr => (e2 fr).trans (q4 fr)⟩
      · refine .inr ⟨fun ⟨p, q3, q4⟩ => ?_, fun fr => (e2 fr).trans (q2 fr)⟩
        rcases List.mem_cons.1 q3 with rfl | q3
        · exact h q4
        · exact q1 ⟨p, q3, q4⟩

theorem ir2 (m : Model) (hm : LeM m) :
    (¬ goodOp m.Hash ∧ RetK 3 (fun fr => EvL C fr [13, 14, 15] B_impl_RefuteModel_1 ⟨[(13, .bsl 0 5), (14, I 5), (15, I 2)], [[]], [.box [.ptr 1 0, .ptr 1 6, .ptr 1 12, .ptr 1 18, .ptr 1 24], .box (mdl m)]⟩)) ∨ (goodOp m.Hash ∧ ∀ fr, EvL C fr [13, 14, 15] B_impl_RefuteModel_1 ⟨[(13, .bsl 0 5), (14, I 5), (15, I 2)], [[]], [.box [.ptr 1 0, .ptr 1 6, .ptr 1 12, .ptr 1 18, .ptr 1 24], .box (mdl m)]⟩ = EvL C fr [13, 14, 15] B_impl_RefuteModel_1 ⟨[(13, .bsl 0 5), (14, I 5), (15, I 3)], [[]], [.box [.ptr 1 0, .ptr 1 6, .ptr 1 12, .ptr 1 18, .ptr 1 24], .box (mdl m)]⟩) := by
  have ho : Le m.Hash.Steps := hm.2.2.1
  have v1 := c_impl_IsValidOperator m.Hash.Fixed m.Hash.PerLeft m.Hash.PerRight m.Hash.PerOutput m.Hash.PerPair m.Hash.Steps ho
  have ev : validOp ⟨m.Hash.Fixed, m.Hash.PerLeft, m.Hash.PerRight, m.Hash.PerOutput, m.Hash.PerPair, m.Hash.Steps⟩ = validOp m.Hash := rfl
  rw [ev] at v1
  have hl : allT.length = 512 := by unfold allT; rw [trX_len]
  rcases tf (validOp m.Hash) with hv | hv
  · rw [hv] at v1
    refine .inl ⟨(fun h => (by rw [h.1] at hv; cases hv)), ⟨[(2, I 3), (3, .t .nil), (4, .t .nil)], [[]], [.box [.ptr 1 0, .ptr 1 6, .ptr 1 12, .ptr 1 18, .ptr 1 24], .box (mdl m)]⟩, ⟨_, _, _, by simp; exact ⟨⟨rfl, rfl⟩, rfl⟩⟩, fun fr => ?_⟩
    show EvL _ _ _ _ _ = _
    rw [EvL_eq B_impl_RefuteModel_1.eq_1]
    simp +decide [v1, wrap64]
  rw [hv] at v1
  rcases c_impl_FindDecrease m.Hash ho hv with ⟨hd, a, b, c, a', b', c', f1⟩ | ⟨hd, f1⟩
  · refine .inl ⟨fun h => h.2.1 hd, ⟨[(2, I 3), (3, L 1 (c3 a b c)), (4, .own 2)], [[]], [.box [.ptr 1 0, .ptr 1 6, .ptr 1 12, .ptr 1 18, .ptr 1 24], .box (mdl m), .arr t_int 1 true (c3 a' b' c')]⟩, ⟨_, _, _, by simp; exact ⟨⟨rfl, rfl⟩, rfl⟩⟩, fun fr => ?_⟩
    show EvL _ _ _ _ _ = _
    rw [EvL_eq B_impl_RefuteModel_1.eq_1]
    simp +decide [v1, wrap64, f1]
  have ha := allT_ex (fun x y z => tc m.Hash x y z < 1)
  rcases ic2 m hm allT (by omega) 0 (Nat.zero_le _) with ⟨hc, s, hp, g⟩ | ⟨hc, g⟩
  · rw [List.drop_zero] at hc
    refine .inl ⟨fun h => h.2.2 (ha.1 hc), s, hp, fun fr => ?_⟩
    show EvL _ _ _ _ _ = _
    rw [EvL_eq B_impl_RefuteModel_1.eq_1]
    simp at g
    simp +decide [v1, wrap64, f1, c_triples, g]
  · rw [List.drop_zero] at hc
    refine .inr ⟨⟨hv, hd, fun h => hc (ha.2 h)⟩, fun fr => ?_⟩
    rw [EvL_eq B_impl_RefuteModel_1.eq_1]
    simp at g
    simp +decide [v1, wrap64, f1, c_triples, g]

theorem ic3 (m : Model) (hm : LeM m) (ts : List Tr3) (hl : Le ts) : ∀ j, j ≤ ts.length →
    ((∃ p ∈ ts.drop j, tc m.Merge p.1 p.2.1 p.2.2 < 1) ∧ RetK 4 (fun fr => EvL C fr [6, 7, 13, 14, 15, 40, 41, 42] B_impl_RefuteModel_0 ⟨[(6, .ptr 0 18), (7, I 4), (13, .bsl 1 5), (14, I 5), (15, I 3), (40, .own 2), (41, I ts.length), (42, I j)], [[]], [.box (mdl m), .box [.ptr 0 0, .ptr 0 6, .ptr 0 12, .ptr 0 18, .ptr 0 24], .arr t_s_int 1 true (ts.map trc)]⟩)) ∨
    ((¬ ∃ p ∈ ts.drop j, tc m.Merge p.1 p.2.1 p.2.2 < 1) ∧ ∀ fr, EvL C fr [6, 7, 13, 14, 15, 40, 41, 42] B_impl_RefuteModel_0 ⟨[(6, .ptr 0 18), (7, I 4), (13, .bsl 1 5), (14, I 5), (15, I 3), (40, .own 2), (41, I ts.length), (42, I j)], [[]], [.box (mdl m), .box [.ptr 0 0, .ptr 0 6, .ptr 0 12, .ptr 0 18, .ptr 0 24], .arr t_s_int 1 true (ts.map trc)]⟩ = EvX C fr (.x 2) ⟨[(6, .ptr 0 18), (7, I 4), (13, .bsl 1 5), (14, I 5), (15, I 3), (40, .own 2), (41, I ts.length), (42, I ts.length), (43, Bo false)], [[]], [.box (mdl m), .box [.ptr 0 0, .ptr 0 6, .ptr 0 12, .ptr 0 18, .ptr 0 24], .arr t_s_int 1 true (ts.map trc)]⟩) := by
  have ho : Le m.Merge.Steps := hm.2.2.2.1
  refine down _ ?_ ?_
  · refine .inr ⟨by simp, fun fr => ?_⟩
    rw [EvL_eq B_impl_RefuteModel_0.eq_1]
    simp +decide
  · intro j hj ih
    have h4 := inc64 (i := j) (by omega)
    have t1 := c_tripleCost m.Merge ho ts[j].1 ts[j].2.1 ts[j].2.2
    rw [List.drop_eq_getElem_cons hj]
    by_cases h : tc m.Merge ts[j].1 ts[j].2.1 ts[j].2.2 < 1
    · refine .inl ⟨⟨_, List.mem_cons_self, h⟩, ⟨[(2, I 4), (3, L 1 (c3 ts[j].1 ts[j].2.1 ts[j].2.2)), (4, .t .nil)], [[]], [.box (mdl m), .box [.ptr 0 0, .ptr 0 6, .ptr 0 12, .ptr 0 18, .ptr 0 24], .arr t_s_int 1 true (ts.map trc)]⟩, ⟨_, _, _, by simp; exact ⟨⟨rfl, rfl⟩, rfl⟩⟩, fun fr => ?_⟩
      show EvL _ _ _ _ _ = _
      rw [EvL_eq B_impl_RefuteModel_0.eq_1]
      simp +decide [hj, t1, h]
    · have e2 : ∀ fr, EvL C fr [6, 7, 13, 14, 15, 40, 41, 42] B_impl_RefuteModel_0 ⟨[(6, .ptr 0 18), (7, I 4), (13, .bsl 1 5), (14, I 5), (15, I 3), (40, .own 2), (41, I ts.length), (42, I j)], [[]], [.box (mdl m), .box [.ptr 0 0, .ptr 0 6, .ptr 0 12, .ptr 0 18, .ptr 0 24], .arr t_s_int 1 true (ts.map trc)]⟩ = EvL C fr [6, 7, 13, 14, 15, 40, 41, 42] B_impl_RefuteModel_0 ⟨[(6, .ptr 0 18), (7, I 4), (13, .bsl 1 5), (14, I 5), (15, I 3), (40, .own 2), (41, I ts.length), (42, I ((j + 1 : Nat) : Int))], [[]], [.box (mdl m), .box [.ptr 0 0, .ptr 0 6, .ptr 0 12, .ptr 0 18, .ptr 0 24], .arr t_s_int 1 true (ts.map trc)]⟩ := by
        intro fr
        rw [EvL_eq B_impl_RefuteModel_0.eq_1]
        simp +decide [hj, t1, h, h4]
      rcases ih with ⟨⟨p, q1, q2⟩, s, hp, q4⟩ | ⟨q1, q2⟩
      · exact .inl ⟨⟨p, List.mem_cons_of_mem _ q1, q2⟩, s, hp, fun fr => (e2 fr).trans (q4 fr)⟩
      · refine .inr ⟨fun ⟨p, q3, q4⟩ => ?_, fun fr => (e2 fr).trans (q2 fr)⟩
        rcases List.mem_cons.1 q3 with rfl | q3
        · exact h q4
        · exact q1 ⟨p, q3, q4⟩

theorem ir3 (m : Model) (hm : LeM m) :
    (¬ goodOp m.Merge ∧ RetK 4 (fun fr => EvL C fr [13, 14, 15] B_impl_RefuteModel_1 ⟨[(13, .bsl 0 5), (14, I 5), (15, I 3)], [[]], [.box [.ptr 1 0, .ptr 1 6, .ptr 1 12, .ptr 1 18, .ptr 1 24], .box (mdl m)]⟩)) ∨ (goodOp m.Merge ∧ ∀ fr, EvL C fr [13, 14, 15] B_impl_RefuteModel_1 ⟨[(13, .bsl 0 5), (14, I 5), (15, I 3)], [[]], [.box [.ptr 1 0, .ptr 1 6, .ptr 1 12, .ptr 1 18, .ptr 1 24], .box (mdl m)]⟩ = EvL C fr [13, 14, 15] B_impl_RefuteModel_1 ⟨[(13, .bsl 0 5), (14, I 5), (15, I 4)], [[]], [.box [.ptr 1 0, .ptr 1 6, .ptr 1 12, .ptr 1 18, .ptr 1 24], .box (mdl m)]⟩) := by
  have ho : Le m.Merge.Steps := hm.2.2.2.1
  have v1 := c_impl_IsValidOperator m.Merge.Fixed m.Merge.PerLeft m.Merge.PerRight m.Merge.PerOutput m.Merge.PerPair m.Merge.Steps ho
  have ev : validOp ⟨m.Merge.Fixed, m.Merge.PerLeft, m.Merge.PerRight, m.Merge.PerOutput, m.Merge.PerPair, m.Merge.Steps⟩ = validOp m.Merge := rfl
  rw [ev] at v1
  have hl : allT.length = 512 := by unfold allT; rw [trX_len]
  rcases tf (validOp m.Merge) with hv | hv
  · rw [hv] at v1
    refine .inl ⟨(fun h => (by rw [h.1] at hv; cases hv)), ⟨[(2, I 4), (3, .t .nil), (4, .t .nil)], [[]], [.box [.ptr 1 0, .ptr 1 6, .ptr 1 12, .ptr 1 18, .ptr 1 24], .box (mdl m)]⟩, ⟨_, _, _, by simp; exact ⟨⟨rfl, rfl⟩, rfl⟩⟩, fun fr => ?_⟩
    show EvL _ _ _ _ _ = _
    rw [EvL_eq B_impl_RefuteModel_1.eq_1]
    simp +decide [v1, wrap64]
  rw [hv] at v1
  rcases c_impl_FindDecrease m.Merge ho hv with ⟨hd, a, b, c, a', b', c', f1⟩ | ⟨hd, f1⟩
  · refine .inl ⟨fun h => h.2.1 hd, ⟨[(2, I 4), (3, L 1 (c3 a b c)), (4, .own 2)], [[]], [.box [.ptr 1 0, .ptr 1 6, .ptr 1 12, .ptr 1 18, .ptr 1 24], .box (mdl m), .arr t_int 1 true (c3 a' b' c')]⟩, ⟨_, _, _, by simp; exact ⟨⟨rfl, rfl⟩, rfl⟩⟩, fun fr => ?_⟩
    show EvL _ _ _ _ _ = _
    rw [EvL_eq B_impl_RefuteModel_1.eq_1]
    simp +decide [v1, wrap64, f1]
  have ha := allT_ex (fun x y z => tc m.Merge x y z < 1)
  rcases ic3 m hm allT (by omega) 0 (Nat.zero_le _) with ⟨hc, s, hp, g⟩ | ⟨hc, g⟩
  · rw [List.drop_zero] at hc
    refine .inl ⟨fun h => h.2.2 (ha.1 hc), s, hp, fun fr => ?_⟩
    show EvL _ _ _ _ _ = _
    rw [EvL_eq B_impl_RefuteModel_1.eq_1]
    simp at g
    simp +decide [v1, wrap64, f1, c_triples, g]
  · rw [List.drop_zero] at hc
    refine .inr ⟨⟨hv, hd, fun h => hc (ha.2 h)⟩, fun fr => ?_⟩
    rw [EvL_eq B_impl_RefuteModel_1.eq_1]
    simp at g
    simp +decide [v1, wrap64, f1, c_triples, g]

theorem ic4 (m : Model) (hm : LeM m) (ts : List Tr3) (hl : Le ts) : ∀ j, j ≤ ts.length →
    ((∃ p ∈ ts.drop j, tc m.Nested p.1 p.2.1 p.2.2 < 1) ∧ RetK 5 (fun fr => EvL C fr [6, 7, 13, 14, 15, 40, 41, 42] B_impl_RefuteModel_0 ⟨[(6, .ptr 0 24), (7, I 5), (13, .bsl 1 5), (14, I 5), (15, I 4), (40, .own 2), (41, I ts.length), (42, I j)], [[]], [.box (mdl m), .box [.ptr 0 0, .ptr 0 6, .ptr 0 12, .ptr 0 18, .ptr 0 24], .arr t_s_int 1 true (ts.map trc)]⟩)) ∨
    ((¬ ∃ p ∈ ts.drop j, tc m.Nested p.1 p.2.1 p.2.2 < 1) ∧ ∀ fr, EvL C fr [6, 7, 13, 14, 15, 40, 41, 42] B_impl_RefuteModel_0 ⟨[(6, .ptr 0 24), (7, I 5), (13, .bsl 1 5), (14, I 5), (15, I 4), (40, .own 2), (41, I ts.length), (42, I j)], [[]], [.box (mdl m), .box [.ptr 0 0, .ptr 0 6, .ptr 0 12, .ptr 0 18, .ptr 0 24], .arr t_s_int 1 true (ts.map trc)]⟩ = EvX C fr (.x 2) ⟨[(6, .ptr 0 24), (7, I 5), (13, .bsl 1 5), (14, I 5), (15, I 4), (40, .own 2), (41, I ts.length), (42, I ts.length), (43, Bo false)], [[]], [.box (mdl m), .box [.ptr 0 0, .ptr 0 6, .ptr 0 12, .ptr 0 18, .ptr 0 24], .arr t_s_int 1 true (ts.map trc)]⟩) := by
  have ho : Le m.Nested.Steps := hm.2.2.2.2
  refine down _ ?_ ?_
  · refine .inr ⟨by simp, fun fr => ?_⟩
    rw [EvL_eq B_impl_RefuteModel_0.eq_1]
    simp +decide
  · intro j hj ih
    have h4 := inc64 (i := j) (by omega)
    have t1 := c_tripleCost m.Nested ho ts[j].1 ts[j].2.1 ts[j].2.2
    rw [List.drop_eq_getElem_cons hj]
    by_cases h : tc m.Nested ts[j].1 ts[j].2.1 ts[j].2.2 < 1
    · refine .inl ⟨⟨_, List.mem_cons_self, h⟩, ⟨[(2, I 5), (3, L 1 (c3 ts[j].1 ts[j].2.1 ts[j].2.2)), (4, .t .nil)], [[]], [.box (mdl m), .box [.ptr 0 0, .ptr 0 6, .ptr 0 12, .ptr 0 18, .ptr 0 24], .arr t_s_int 1 true (ts.map trc)]⟩, ⟨_, _, _, by simp; exact ⟨⟨rfl, rfl⟩, rfl⟩⟩, fun fr => ?_⟩
      show EvL _ _ _ _ _ = _
      rw [EvL_eq B_impl_RefuteModel_0.eq_1]
      simp +decide [hj, t1, h]
    · have e2 : ∀ fr, EvL C fr [6, 7, 13, 14, 15, 40, 41, 42] B_impl_RefuteModel_0 ⟨[(6, .ptr 0 24), (7, I 5), (13, .bsl 1 5), (14, I 5), (15, I 4), (40, .own 2), (41, I ts.length), (42, I j)], [[]], [.box (mdl m), .box [.ptr 0 0, .ptr 0 6, .ptr 0 12, .ptr 0 18, .ptr 0 24], .arr t_s_int 1 true (ts.map trc)]⟩ = EvL C fr [6, 7, 13, 14, 15, 40, 41, 42] B_impl_RefuteModel_0 ⟨[(6, .ptr 0 24), (7, I 5), (13, .bsl 1 5), (14, I 5), (15, I 4), (40, .own 2), (41, I ts.length), (42, I ((j + 1 : Nat) : Int))], [[]], [.box (mdl m), .box [.ptr 0 0, .ptr 0 6, .ptr 0 12, .ptr 0 18, .ptr 0 24], .arr t_s_int 1 true (ts.map trc)]⟩ := by
        intro fr
        rw [EvL_eq B_impl_RefuteModel_0.eq_1]
        simp +decide [hj, t1, h, h4]
      rcases ih with ⟨⟨p, q1, q2⟩, s, hp, q4⟩ | ⟨q1, q2⟩
      · exact .inl ⟨⟨p, List.mem_cons_of_mem _ q1, q2⟩, s, hp, fun fr => (e2 fr).trans (q4 fr)⟩
      · refine .inr ⟨fun ⟨p, q3, q4⟩ => ?_, fun fr => (e2 fr).trans (q2 fr)⟩
        rcases List.mem_cons.1 q3 with rfl | q3
        · exact h q4
        · exact q1 ⟨p, q3, q4⟩

theorem ir4 (m : Model) (hm : LeM m) :
    (¬ goodOp m.Nested ∧ RetK 5 (fun fr => EvL C fr [13, 14, 15] B_impl_RefuteModel_1 ⟨[(13, .bsl 0 5), (14, I 5), (15, I 4)], [[]], [.box [.ptr 1 0, .ptr 1 6, .ptr 1 12, .ptr 1 18, .ptr 1 24], .box (mdl m)]⟩)) ∨ (goodOp m.Nested ∧ ∀ fr, EvL C fr [13, 14, 15] B_impl_RefuteModel_1 ⟨[(13, .bsl 0 5), (14, I 5), (15, I 4)], [[]], [.box [.ptr 1 0, .ptr 1 6, .ptr 1 12, .ptr 1 18, .ptr 1 24], .box (mdl m)]⟩ = EvL C fr [13, 14, 15] B_impl_RefuteModel_1 ⟨[(13, .bsl 0 5), (14, I 5), (15, I 5)], [[]], [.box [.ptr 1 0, .ptr 1 6, .ptr 1 12, .ptr 1 18, .ptr 1 24], .box (mdl m)]⟩) := by
  have ho : Le m.Nested.Steps := hm.2.2.2.2
  have v1 := c_impl_IsValidOperator m.Nested.Fixed m.Nested.PerLeft m.Nested.PerRight m.Nested.PerOutput m.Nested.PerPair m.Nested.Steps ho
  have ev : validOp ⟨m.Nested.Fixed, m.Nested.PerLeft, m.Nested.PerRight, m.Nested.PerOutput, m.Nested.PerPair, m.Nested.Steps⟩ = validOp m.Nested := rfl
  rw [ev] at v1
  have hl : allT.length = 512 := by unfold allT; rw [trX_len]
  rcases tf (validOp m.Nested) with hv | hv
  · rw [hv] at v1
    refine .inl ⟨(fun h => (by rw [h.1] at hv; cases hv)), ⟨[(2, I 5), (3, .t .nil), (4, .t .nil)], [[]], [.box [.ptr 1 0, .ptr 1 6, .ptr 1 12, .ptr 1 18, .ptr 1 24], .box (mdl m)]⟩, ⟨_, _, _, by simp; exact ⟨⟨rfl, rfl⟩, rfl⟩⟩, fun fr => ?_⟩
    show EvL _ _ _ _ _ = _
    rw [EvL_eq B_impl_RefuteModel_1.eq_1]
    simp +decide [v1, wrap64]
  rw [hv] at v1
  rcases c_impl_FindDecrease m.Nested ho hv with ⟨hd, a, b, c, a', b', c', f1⟩ | ⟨hd, f1⟩
  · refine .inl ⟨fun h => h.2.1 hd, ⟨[(2, I 5), (3, L 1 (c3 a b c)), (4, .own 2)], [[]], [.box [.ptr 1 0, .ptr 1 6, .ptr 1 12, .ptr 1 18, .ptr 1 24], .box (mdl m), .arr t_int 1 true (c3 a' b' c')]⟩, ⟨_, _, _, by simp; exact ⟨⟨rfl, rfl⟩, rfl⟩⟩, fun fr => ?_⟩
    show EvL _ _ _ _ _ = _
    rw [EvL_eq B_impl_RefuteModel_1.eq_1]
    simp +decide [v1, wrap64, f1]
  have ha := allT_ex (fun x y z => tc m.Nested x y z < 1)
  rcases ic4 m hm allT (by omega) 0 (Nat.zero_le _) with ⟨hc, s, hp, g⟩ | ⟨hc, g⟩
  · rw [List.drop_zero] at hc
    refine .inl ⟨fun h => h.2.2 (ha.1 hc), s, hp, fun fr => ?_⟩
    show EvL _ _ _ _ _ = _
    rw [EvL_eq B_impl_RefuteModel_1.eq_1]
    simp at g
    simp +decide [v1, wrap64, f1, c_triples, g]
  · rw [List.drop_zero] at hc
    refine .inr ⟨⟨hv, hd, fun h => hc (ha.2 h)⟩, fun fr => ?_⟩
    rw [EvL_eq B_impl_RefuteModel_1.eq_1]
    simp at g
    simp +decide [v1, wrap64, f1, c_triples, g]

theorem c_impl_RefuteModel (m : Model) (hm : LeM m) : (admitted m ∧ C f_impl_RefuteModel [.agg (mdl m)] [] = some (.tup [I 0, .t .nil, .t .nil], [])) ∨
    (¬ admitted m ∧ ∃ k : Int, k ≠ 0 ∧ ∃ w1 w2 h, C f_impl_RefuteModel [.agg (mdl m)] [] = some (.tup [I k, w1, w2], h)) := by
  have bad : ∀ (k : Int) (j : Int), k ≠ 0 → (∀ fr, EvL C fr [13, 14, 15] B_impl_RefuteModel_1 ⟨[(13, .bsl 0 5), (14, I 5), (15, I 0)], [[]], [.box [.ptr 1 0, .ptr 1 6, .ptr 1 12, .ptr 1 18, .ptr 1 24], .box (mdl m)]⟩ = EvL C fr [13, 14, 15] B_impl_RefuteModel_1 ⟨[(13, .bsl 0 5), (14, I 5), (15, I j)], [[]], [.box [.ptr 1 0, .ptr 1 6, .ptr 1 12, .ptr 1 18, .ptr 1 24], .box (mdl m)]⟩) → RetK k (fun fr => EvL C fr [13, 14, 15] B_impl_RefuteModel_1 ⟨[(13, .bsl 0 5), (14, I 5), (15, I j)], [[]], [.box [.ptr 1 0, .ptr 1 6, .ptr 1 12, .ptr 1 18, .ptr 1 24], .box (mdl m)]⟩) → ∃ k : Int, k ≠ 0 ∧ ∃ w1 w2 h, C f_impl_RefuteModel [.agg (mdl m)] [] = some (.tup [I k, w1, w2], h) := by
    rintro k j hk e ⟨s, ⟨w1, w2, h, hp⟩, g⟩
    refine ⟨k, hk, w1, w2, h, run t_impl_RefuteModel rfl ?_⟩
    have g0 : ∀ fr, EvL C fr [13, 14, 15] B_impl_RefuteModel_1 ⟨[(13, .bsl 0 5), (14, I 5), (15, I 0)], [[]], [.box [.ptr 1 0, .ptr 1 6, .ptr 1 12, .ptr 1 18, .ptr 1 24], .box (mdl m)]⟩ = EvX C fr .r s := fun fr => (e fr).trans (g fr)
    simp [M_impl_RefuteModel, c_operators, g0, EvX_fin_r, -finE]
    exact hp
  rcases ir0 m hm with ⟨h0, g0⟩ | ⟨h0, g0⟩
  · exact .inr ⟨fun h => h0 h.1, bad 1 0 (by omega) (fun _ => rfl) g0⟩
  rcases ir1 m hm with ⟨h1, g1⟩ | ⟨h1, g1⟩
  · exact .inr ⟨fun h => h1 h.2.1, bad 2 1 (by omega) (fun fr => g0 fr) g1⟩
  rcases ir2 m hm with ⟨h2, g2⟩ | ⟨h2, g2⟩
  · exact .inr ⟨fun h => h2 h.2.2.1, bad 3 2 (by omega) (fun fr => (g0 fr).trans (g1 fr)) g2⟩
  rcases ir3 m hm with ⟨h3, g3⟩ | ⟨h3, g3⟩
  · exact .inr ⟨fun h => h3 h.2.2.2.1, bad 4 3 (by omega) (fun fr => ((g0 fr).trans (g1 fr)).trans (g2 fr)) g3⟩
  rcases ir4 m hm with ⟨h4, g4⟩ | ⟨h4, g4⟩
  · exact .inr ⟨fun h => h4 h.2.2.2.2, bad 5 4 (by omega) (fun fr => (((g0 fr).trans (g1 fr)).trans (g2 fr)).trans (g3 fr)) g4⟩
  refine .inl ⟨⟨h0, h1, h2, h3, h4⟩, run t_impl_RefuteModel rfl ?_⟩
  have gg : ∀ fr, EvL C fr [13, 14, 15] B_impl_RefuteModel_1 ⟨[(13, .bsl 0 5), (14, I 5), (15, I 0)], [[]], [.box [.ptr 1 0, .ptr 1 6, .ptr 1 12, .ptr 1 18, .ptr 1 24], .box (mdl m)]⟩ = EvL C fr [13, 14, 15] B_impl_RefuteModel_1 ⟨[(13, .bsl 0 5), (14, I 5), (15, I 5)], [[]], [.box [.ptr 1 0, .ptr 1 6, .ptr 1 12, .ptr 1 18, .ptr 1 24], .box (mdl m)]⟩ := fun fr => ((((g0 fr).trans (g1 fr)).trans (g2 fr)).trans (g3 fr)).trans (g4 fr)
  simp [M_impl_RefuteModel, c_operators, gg]
  rw [EvL_eq B_impl_RefuteModel_1.eq_1]
  simp +decide

open Classical in
theorem c_impl_IsAdmitted (m : Model) (hm : LeM m) : C f_impl_IsAdmitted [.agg (mdl m)] [] = some (Bo (decide (admitted m)), []) := by
  refine run t_impl_IsAdmitted rfl ?_
  rcases c_impl_RefuteModel m hm with ⟨ha, g⟩ | ⟨ha, k, hk, w1, w2, h, g⟩
  · simp [M_impl_IsAdmitted, g, ha]
  · simp [M_impl_IsAdmitted, g, ha, hk]

/-! ### IsReadable -/
abbrev oc (o : Operator) (l r n : Int) : Int := operatorCost o.Fixed o.PerLeft o.PerRight o.PerOutput o.PerPair o.Steps l r n
open Classical in
noncomputable def readable (m : Model) (k n : Int) : Bool := decide (admitted m) && inR k 3 5 && inR n 0 4096 && decide (readCost m.Scan n ≤ oc (mOp m k) 0 0 (roundUp n))

open Classical in
theorem c_spec_IsReadable (m : Model) (hm : LeM m) (k n : Int) : C f_spec_IsReadable [.agg (mdl m), I k, I n] [] = some (Bo (readable m k n), []) := by
  refine run t_spec_IsReadable rfl ?_
  unfold readable
  have a1 := c_spec_IsAdmitted m hm
  have r1 := c_spec_ReadCost m.Scan.Fixed m.Scan.PerLeft m.Scan.PerRight m.Scan.PerOutput m.Scan.PerPair m.Scan.Steps m.Sort_.Fixed m.Sort_.PerLeft m.Sort_.PerRight m.Sort_.PerOutput m.Sort_.PerPair m.Sort_.Steps m.Hash.Fixed m.Hash.PerLeft m.Hash.PerRight m.Hash.PerOutput m.Hash.PerPair m.Hash.Steps m.Merge.Fixed m.Merge.PerLeft m.Merge.PerRight m.Merge.PerOutput m.Merge.PerPair m.Merge.Steps m.Nested.Fixed m.Nested.PerLeft m.Nested.PerRight m.Nested.PerOutput m.Nested.PerPair m.Nested.Steps n hm.1
  have o1 := c_l22Op m k
  have o2 := c_spec_OperatorCost (mOp m k).Fixed (mOp m k).PerLeft (mOp m k).PerRight (mOp m k).PerOutput (mOp m k).PerPair (mOp m k).Steps (hm.op k) 0 0 (roundUp n)
  by_cases ha : admitted m
  · rcases tf (inR k 3 5) with hk | hk
    · simp [M_spec_IsReadable, a1, ha, hk]
    rcases tf (inR n 0 4096) with hn | hn
    · simp [M_spec_IsReadable, a1, ha, hk, hn]
    · simp +decide [M_spec_IsReadable, a1, ha, hk, hn, r1, o1, o2]
  · simp [M_spec_IsReadable, a1, ha]

open Classical in
theorem c_impl_IsReadable (m : Model) (hm : LeM m) (k n : Int) : C f_impl_IsReadable [.agg (mdl m), I k, I n] [] = some (Bo (readable m k n), []) := by
  refine run t_impl_IsReadable rfl ?_
  unfold readable
  have a1 := c_impl_IsAdmitted m hm
  have r1 := c_impl_ReadCost m.Scan.Fixed m.Scan.PerLeft m.Scan.PerRight m.Scan.PerOutput m.Scan.PerPair m.Scan.Steps m.Sort_.Fixed m.Sort_.PerLeft m.Sort_.PerRight m.Sort_.PerOutput m.Sort_.PerPair m.Sort_.Steps m.Hash.Fixed m.Hash.PerLeft m.Hash.PerRight m.Hash.PerOutput m.Hash.PerPair m.Hash.Steps m.Merge.Fixed m.Merge.PerLeft m.Merge.PerRight m.Merge.PerOutput m.Merge.PerPair m.Merge.Steps m.Nested.Fixed m.Nested.PerLeft m.Nested.PerRight m.Nested.PerOutput m.Nested.PerPair m.Nested.Steps n hm.1
  rcases tf (inR k 3 5) with hk | hk
  · simp [M_impl_IsReadable, a1, hk]
  rcases tf (inR n 0 4096) with hn | hn
  · simp [M_impl_IsReadable, a1, hk, hn]
  by_cases ha : admitted m
  · have hk3 : k = 3 ∨ k = 4 ∨ k = 5 := by simp [inR] at hk; omega
    have o2 := fun (o : Operator) (ho : Le o.Steps) => c_impl_OperatorCost o.Fixed o.PerLeft o.PerRight o.PerOutput o.PerPair o.Steps ho 0 0 (roundUp n)
    rcases hk3 with rfl | rfl | rfl
    · simp +decide [M_impl_IsReadable, a1, ha, hk, hn, r1, c_operators, wrap64, o2 m.Hash hm.2.2.1, mOp, oc]
    · simp +decide [M_impl_IsReadable, a1, ha, hk, hn, r1, c_operators, wrap64, o2 m.Merge hm.2.2.2.1, mOp, oc]
    · simp +decide [M_impl_IsReadable, a1, ha, hk, hn, r1, c_operators, wrap64, o2 m.Nested hm.2.2.2.2, mOp, oc]
  · simp [M_impl_IsReadable, a1, ha, hk, hn]

theorem lawIsReadable (m : Model) (k n : Int) (hm : m.okay) (hk : OkI k) (hn : OkI n) : C f_laws_FnExactIsReadable [.agg (m.c.map .t), I k, I n] [] = some (Bo true, []) := by
  refine run t_laws_FnExactIsReadable rfl ?_
  have e1 := c_szModel m.Scan.Fixed m.Scan.PerLeft m.Scan.PerRight m.Scan.PerOutput m.Scan.PerPair m.Scan.Steps m.Sort_.Fixed m.Sort_.PerLeft m.Sort_.PerRight m.Sort_.PerOutput m.Sort_.PerPair m.Sort_.Steps m.Hash.Fixed m.Hash.PerLeft m.Hash.PerRight m.Hash.PerOutput m.Hash.PerPair m.Hash.Steps m.Merge.Fixed m.Merge.PerLeft m.Merge.PerRight m.Merge.PerOutput m.Merge.PerPair m.Merge.Steps m.Nested.Fixed m.Nested.PerLeft m.Nested.PerRight m.Nested.PerOutput m.Nested.PerPair m.Nested.Steps 1048576
  by_cases h1 : Model.sz m 1048576 < 0
  · simp [M_laws_FnExactIsReadable, e1, h1]
  · obtain ⟨g1, g2, g3, g4, g5, g6⟩ := Model.sz_ok m 1048576 hm (by omega) (by omega) (by omega)
    have n1 : LeM m := ⟨by omega, by omega, by omega, by omega, by omega⟩
    have t1 := c_toModel m.Scan.Fixed m.Scan.PerLeft m.Scan.PerRight m.Scan.PerOutput m.Scan.PerPair m.Scan.Steps m.Sort_.Fixed m.Sort_.PerLeft m.Sort_.PerRight m.Sort_.PerOutput m.Sort_.PerPair m.Sort_.Steps m.Hash.Fixed m.Hash.PerLeft m.Hash.PerRight m.Hash.PerOutput m.Hash.PerPair m.Hash.Steps m.Merge.Fixed m.Merge.PerLeft m.Merge.PerRight m.Merge.PerOutput m.Merge.PerPair m.Merge.Steps m.Nested.Fixed m.Nested.PerLeft m.Nested.PerRight m.Nested.PerOutput m.Nested.PerPair m.Nested.Steps g2 g3 g4 g5 g6
    have q1 := c_eqModel m.Scan.Fixed m.Scan.PerLeft m.Scan.PerRight m.Scan.PerOutput m.Scan.PerPair m.Scan.Steps m.Sort_.Fixed m.Sort_.PerLeft m.Sort_.PerRight m.Sort_.PerOutput m.Sort_.PerPair m.Sort_.Steps m.Hash.Fixed m.Hash.PerLeft m.Hash.PerRight m.Hash.PerOutput m.Hash.PerPair m.Hash.Steps m.Merge.Fixed m.Merge.PerLeft m.Merge.PerRight m.Merge.PerOutput m.Merge.PerPair m.Merge.Steps m.Nested.Fixed m.Nested.PerLeft m.Nested.PerRight m.Nested.PerOutput m.Nested.PerPair m.Nested.Steps m.Scan.Fixed m.Scan.PerLeft m.Scan.PerRight m.Scan.PerOutput m.Scan.PerPair m.Scan.Steps m.Sort_.Fixed m.Sort_.PerLeft m.Sort_.PerRight m.Sort_.PerOutput m.Sort_.PerPair m.Sort_.Steps m.Hash.Fixed m.Hash.PerLeft m.Hash.PerRight m.Hash.PerOutput m.Hash.PerPair m.Hash.Steps m.Merge.Fixed m.Merge.PerLeft m.Merge.PerRight m.Merge.PerOutput m.Merge.PerPair m.Merge.Steps m.Nested.Fixed m.Nested.PerLeft m.Nested.PerRight m.Nested.PerOutput m.Nested.PerPair m.Nested.Steps g2 g3 g4 g5 g6
    simp at q1
    simp +decide [M_laws_FnExactIsReadable, e1, h1, t1, c_spec_IsReadable m n1, c_impl_IsReadable m n1, q1]
end Go.Proofs.Ytlnnmndebmkdhaa
