/-
  Queries: IsValidQuery.
-/
import Derived.Test.YtiniphmomjnocaaW20
namespace Go.Proofs.Ytiniphmomjnocaa
open Go.AM
set_option linter.unusedSimpArgs false
set_option linter.unusedVariables false

def varsOk (n : Int) (pre : List Int) : List Int → Bool
  | [] => true
  | v :: rest => inR v 0 (n - 1) && !has pre v && varsOk n (pre ++ [v]) rest
theorem varsOk_drop (n : Int) {vs : List Int} {k : Nat} (h : k < vs.length) : varsOk n (vs.take k) (vs.drop k) = (inR vs[k] 0 (n - 1) && !has (vs.take k) vs[k] && varsOk n (vs.take (k + 1)) (vs.drop (k + 1))) := by
  conv => lhs; rw [List.drop_eq_getElem_cons h, varsOk]
  rw [List.take_add_one, List.getElem?_eq_getElem h]
  rfl
theorem varsOk_in {n : Int} : ∀ {vs pre : List Int}, varsOk n pre vs = true → ∀ v ∈ vs, inR v 0 (n - 1) = true
  | [], _, _, v, hv => by cases hv
  | x :: xs, pre, h, v, hv => by
    simp only [varsOk, Bool.and_eq_true] at h
    cases hv with
    | head => exact h.1.1
    | tail _ hv => exact varsOk_in h.2 v hv

def okAtom (n : Int) (a : Atom) : Bool := nmOk a.Name && inR a.Vars.length 1 3 && varsOk n [] a.Vars
/-- the variables that occur -/
def addA (p : Nat → Bool) (qa : List Atom) : Nat → Bool := fun u => p u || qa.any fun a => has a.Vars u
theorem addA_drop (p : Nat → Bool) {qa : List Atom} {i : Nat} (h : i < qa.length) : addA p (qa.drop i) = addA (addV p qa[i].Vars) (qa.drop (i + 1)) := by
  rw [List.drop_eq_getElem_cons h]; funext u; simp only [addA, List.any_cons, addV, Bool.or_assoc]
def validQ (n : Int) (qa : List Atom) : Bool :=
  inR n 1 4 && inR qa.length 1 4 && qa.all (okAtom n) && (List.range n.toNat).all (addA (fun _ => false) qa)

/-! ### the program's -/

def bl (p : Nat → Bool) (n : Nat) : List (List T) := (List.range n).map fun u => [T.bool (p u)]
theorem bl_len (p : Nat → Bool) (n : Nat) : (bl p n).length = n := by simp [bl]
@[simp] theorem bl_get (p : Nat → Bool) (n i : Nat) (h : i < (bl p n).length) : (bl p n)[i] = [T.bool (p i)] := by simp [bl]
theorem bl_set (p : Nat → Bool) (n : Nat) {v : Int} (h : inR v 0 ((n : Int) - 1) = true) : (bl p n).set v.toNat [T.bool true] = bl (addV p [v]) n := by
  simp [inR] at h
  apply List.ext_getElem
  · simp [bl]
  · intro i h1 h2
    simp only [bl, List.length_set, List.length_map, List.length_range] at h1
    rw [List.getElem_set]
    simp only [bl, List.getElem_map, List.getElem_range]
    by_cases e : v.toNat = i
    · have : (i : Int) = v := by omega
      simp [e, addV, has, this]
    · have : ¬ (i : Int) = v := by omega
      simp [e, addV, has, this]

abbrev qB (n : Int) (qa : List Atom) : Blk := .box [I n, L 2 (qa.map Atom.c)]
abbrev aB (a : Atom) : Blk := .box [.t (.str a.Name), .t (tI a.Vars)]

theorem l_impl_IVQ0 (n : Nat) (hn : n ≤ 4) (a : Atom) (qa : List Atom) (j : Int) (hv : Le a.Vars) : ∀ k, k ≤ a.Vars.length → ∀ p,
    if varsOk n (a.Vars.take k) (a.Vars.drop k) = true then ∀ fr, EvL C fr [1, 3, 5, 23, 24, 25, 41, 42, 43] B_impl_IsValidQuery_0 ⟨[(1, .ptr 0 0), (3, .own 1), (5, .ptr 2 0), (23, L 2 (qa.map Atom.c)), (24, I qa.length), (25, I j), (41, .t (tI a.Vars)), (42, I a.Vars.length), (43, I k)], [[]], [qB n qa, .arr t_bool 1 true (bl p n), aB a]⟩ =
      EvX C fr (.x 2) ⟨[(1, .ptr 0 0), (3, .own 1), (5, .ptr 2 0), (23, L 2 (qa.map Atom.c)), (24, I qa.length), (25, I j), (41, .t (tI a.Vars)), (42, I a.Vars.length), (43, I a.Vars.length), (44, Bo false)], [[]], [qB n qa, .arr t_bool 1 true (bl (addV p (a.Vars.drop k)) n), aB a]⟩
    else ∃ h, ∀ fr, EvL C fr [1, 3, 5, 23, 24, 25, 41, 42, 43] B_impl_IsValidQuery_0 ⟨[(1, .ptr 0 0), (3, .own 1), (5, .ptr 2 0), (23, L 2 (qa.map Atom.c)), (24, I qa.length), (25, I j), (41, .t (tI a.Vars)), (42, I a.Vars.length), (43, I k)], [[]], [qB n qa, .arr t_bool 1 true (bl p n), aB a]⟩ =
      EvX C fr .r ⟨[(2, Bo false)], [[]], h⟩ := by
  refine down _ ?_ ?_
  · intro p
    simp only [List.drop_length, varsOk, if_true, addV_nil]
    intro fr
    rw [EvL_eq B_impl_IsValidQuery_0.eq_1]
    simp
  · intro k hk ih p
    have h4 := inc64 (i := k) (by omega)
    have hw : IntKind.wrap .i64 ((n : Int) - 1) = (n : Int) - 1 := wrap64 (by omega) (by omega)
    have q := c_Contains_int (a.Vars.take k) a.Vars[k] (by simp; omega)
    simp only [tI, List.map_take] at q
    have hk2 : k ≤ a.Vars.length := by omega
    have ih := ih (addV p [a.Vars[k]])
    rw [varsOk_drop _ hk]
    rcases tf (inR a.Vars[k] 0 ((n : Int) - 1)) with e1 | e1
    · simp only [e1, Bool.false_and, Bool.false_eq_true, if_false]
      refine ⟨[qB n qa, .arr t_bool 1 true (bl p n), aB a], fun fr => ?_⟩
      rw [EvL_eq B_impl_IsValidQuery_0.eq_1]
      simp [hk, h4, e1, hw]
    · rcases tf (has (a.Vars.take k) a.Vars[k]) with e2 | e2
      · simp only [e1, e2, Bool.true_and, Bool.not_false, addV_drop p hk]
        have e3 : ∀ fr, EvL C fr [1, 3, 5, 23, 24, 25, 41, 42, 43] B_impl_IsValidQuery_0 ⟨[(1, .ptr 0 0), (3, .own 1), (5, .ptr 2 0), (23, L 2 (qa.map Atom.c)), (24, I qa.length), (25, I j), (41, .t (tI a.Vars)), (42, I a.Vars.length), (43, I k)], [[]], [qB n qa, .arr t_bool 1 true (bl p n), aB a]⟩ =
            EvL C fr [1, 3, 5, 23, 24, 25, 41, 42, 43] B_impl_IsValidQuery_0 ⟨[(1, .ptr 0 0), (3, .own 1), (5, .ptr 2 0), (23, L 2 (qa.map Atom.c)), (24, I qa.length), (25, I j), (41, .t (tI a.Vars)), (42, I a.Vars.length), (43, I (k + 1 : Nat))], [[]], [qB n qa, .arr t_bool 1 true (bl (addV p [a.Vars[k]]) n), aB a]⟩ := by
          intro fr
          rw [EvL_eq B_impl_IsValidQuery_0.eq_1]
          have e0 := e1
          simp [inR] at e0
          have e5 : (a.Vars[k]).toNat < (bl p n).length := by rw [bl_len]; omega
          have e6 := bl_set p n e1
          simp [hk, hk2, h4, e1, hw, q, e2, e0, e5, e6]
        simp only [e3]
        exact ih
      · simp only [e1, e2, Bool.not_true, Bool.and_false, Bool.false_and, Bool.false_eq_true, if_false]
        refine ⟨[qB n qa, .arr t_bool 1 true (bl p n), aB a], fun fr => ?_⟩
        rw [EvL_eq B_impl_IsValidQuery_0.eq_1]
        simp [hk, hk2, h4, e1, hw, q, e2]

theorem l_impl_IVQ1 (n : Nat) (hn : n ≤ 4) (qa : List Atom) (hl : Le qa) (hv : ∀ a ∈ qa, Le a.Vars) : ∀ k, k ≤ qa.length → ∀ p,
    if (qa.drop k).all (okAtom n) = true then ∀ fr, EvL C fr [1, 3, 23, 24, 25] B_impl_IsValidQuery_1 ⟨[(1, .ptr 0 0), (3, .own 1), (23, L 2 (qa.map Atom.c)), (24, I qa.length), (25, I k)], [[]], [qB n qa, .arr t_bool 1 true (bl p n)]⟩ =
      EvX C fr (.x 0) ⟨[(1, .ptr 0 0), (3, .own 1), (23, L 2 (qa.map Atom.c)), (24, I qa.length), (25, I qa.length), (26, Bo false)], [[]], [qB n qa, .arr t_bool 1 true (bl (addA p (qa.drop k)) n)]⟩
    else ∃ h, ∀ fr, EvL C fr [1, 3, 23, 24, 25] B_impl_IsValidQuery_1 ⟨[(1, .ptr 0 0), (3, .own 1), (23, L 2 (qa.map Atom.c)), (24, I qa.length), (25, I k)], [[]], [qB n qa, .arr t_bool 1 true (bl p n)]⟩ = EvX C fr .r ⟨[(2, Bo false)], [[]], h⟩ := by
  refine down _ ?_ ?_
  · intro p
    have e : addA p [] = p := by funext u; simp [addA]
    simp only [List.drop_length, List.all_nil, if_true, e]
    intro fr
    rw [EvL_eq B_impl_IsValidQuery_1.eq_1]
    simp
  · intro k hk ih p
    have h4 := inc64 (i := k) (by omega)
    have q := c_nameOk qa[k].Name
    have ih := ih (addV p qa[k].Vars)
    have b := l_impl_IVQ0 n hn qa[k] qa k (hv _ (List.getElem_mem hk)) 0 (Nat.zero_le _) p
    rw [drop_all _ hk]
    simp only [List.take_zero, List.drop_zero] at b
    rcases tf (nmOk qa[k].Name) with e1 | e1
    · simp only [okAtom, e1, Bool.false_and, Bool.false_eq_true, if_false]
      refine ⟨[qB n qa, .arr t_bool 1 true (bl p n), aB qa[k]], fun fr => ?_⟩
      rw [EvL_eq B_impl_IsValidQuery_1.eq_1]
      simp [hk, h4, e1, q]
    rcases tf (inR qa[k].Vars.length 1 3) with e2 | e2
    · simp only [okAtom, e1, e2, Bool.and_false, Bool.false_and, Bool.false_eq_true, if_false]
      refine ⟨[qB n qa, .arr t_bool 1 true (bl p n), aB qa[k]], fun fr => ?_⟩
      rw [EvL_eq B_impl_IsValidQuery_1.eq_1]
      simp [hk, h4, e1, e2, q]
    rcases tf (varsOk n [] qa[k].Vars) with e3 | e3
    · simp only [okAtom, e1, e2, e3, Bool.and_false, Bool.false_and, Bool.false_eq_true, if_false] at b ⊢
      obtain ⟨h, b⟩ := b
      refine ⟨h, fun fr => ?_⟩
      rw [EvL_eq B_impl_IsValidQuery_1.eq_1]
      simp at b
      simp [hk, h4, e1, e2, q, b]
    · simp only [e3, if_true] at b
      simp only [okAtom, e1, e2, e3, Bool.true_and, addA_drop p hk]
      have e4 : ∀ fr, EvL C fr [1, 3, 23, 24, 25] B_impl_IsValidQuery_1 ⟨[(1, .ptr 0 0), (3, .own 1), (23, L 2 (qa.map Atom.c)), (24, I qa.length), (25, I k)], [[]], [qB n qa, .arr t_bool 1 true (bl p n)]⟩ =
          EvL C fr [1, 3, 23, 24, 25] B_impl_IsValidQuery_1 ⟨[(1, .ptr 0 0), (3, .own 1), (23, L 2 (qa.map Atom.c)), (24, I qa.length), (25, I (k + 1 : Nat))], [[]], [qB n qa, .arr t_bool 1 true (bl (addV p qa[k].Vars) n)]⟩ := by
        intro fr
        rw [EvL_eq B_impl_IsValidQuery_1.eq_1]
        simp at b
        simp [hk, h4, e1, e2, q, b]
      simp only [e4]
      exact ih

theorem bl_any (p : Nat → Bool) (n : Nat) : ((List.range n).map p).any (fun x => false == x) = !(List.range n).all p := by
  rw [List.any_map, Bool.eq_iff_iff]
  simp

theorem c_impl_IsValidQuery (n : Int) (qa : List Atom) (hl : Le qa) (hv : ∀ a ∈ qa, Le a.Vars) : C f_impl_IsValidQuery [.agg [I n, L 2 (qa.map Atom.c)]] [] = some (Bo (validQ n qa), []) := by
  refine run t_impl_IsValidQuery rfl ?_
  unfold validQ
  rcases tf (inR n 1 4) with e1 | e1
  · simp [M_impl_IsValidQuery, e1]
  rcases tf (inR qa.length 1 4) with e2 | e2
  · simp [M_impl_IsValidQuery, e1, e2]
  have e0 := e1
  simp [inR] at e0
  obtain ⟨k, rfl⟩ : ∃ k : Nat, n = k := ⟨n.toNat, by omega⟩
  have b := l_impl_IVQ1 k (by omega) qa hl hv 0 (Nat.zero_le _) (fun _ => false)
  have q := c_Contains_bool ((List.range k).map (addA (fun _ => false) qa)) false (by simp; omega)
  have hb : tB ((List.range k).map (addA (fun _ => false) qa)) = .lst 1 (bl (addA (fun _ => false) qa) k) := by simp [tB, bl]
  rw [bl_any, hb] at q
  have r1 : k ≤ room := room2 (by omega)
  have r2 : (k : Int) ≤ 140737488355328 := by omega
  simp only [List.drop_zero] at b
  have ez : bl (fun _ => false) k = List.replicate k [T.bool false] := by
    apply List.ext_getElem <;> simp [bl]
  rw [ez] at b
  rcases tf (qa.all (okAtom k)) with e3 | e3
  · simp only [e3, Bool.false_eq_true, if_false] at b
    obtain ⟨h, b⟩ := b
    simp at b
    simp [M_impl_IsValidQuery, e1, e2, e3, b, r1, r2, q]
  · simp only [e3, if_true] at b
    simp at b
    simp [M_impl_IsValidQuery, e1, e2, e3, b, r1, r2, q]
end Go.Proofs.Ytiniphmomjnocaa
