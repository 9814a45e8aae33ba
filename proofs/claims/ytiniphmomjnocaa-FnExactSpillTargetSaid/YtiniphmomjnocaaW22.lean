/-
  Queries: the reference's IsValidQuery, FullMask, the variables of a mask.
-/
import Derived.Test.YtiniphmomjnocaaW21
namespace Go.Proofs.Ytiniphmomjnocaa
open Go.AM
set_option linter.unusedSimpArgs false
set_option linter.unusedVariables false

theorem inR3 {n : Nat} (hn : n ≤ 4) {v : Int} (h : inR v 0 ((n : Int) - 1) = true) : inR v 0 3 = true := by simp [inR] at h ⊢; omega
theorem shl_neg {v : Int} (h : inR v 0 3 = true) : ¬ v < 0 := by simp [inR] at h; omega

theorem l_spec_IVQ0 (n : Nat) (hn : n ≤ 4) (a : Atom) (qa : List Atom) (j : Int) (hv : Le a.Vars) (fr : List Fr) : ∀ k, k ≤ a.Vars.length → ∀ p,
    EvL C fr [1, 3, 4, 5, 6] B_spec_IsValidQuery_0 ⟨[(1, .ptr 0 0), (3, I (bits4 p)), (4, I j), (5, .ptr 1 0), (6, I k)], [[]], [qB n qa, aB a]⟩ =
    if varsOk n (a.Vars.take k) (a.Vars.drop k) = true then EvX C fr (.x 2) ⟨[(1, .ptr 0 0), (3, I (bits4 (addV p (a.Vars.drop k)))), (4, I j), (5, .ptr 1 0), (6, I a.Vars.length), (45, Bo false)], [[]], [qB n qa, aB a]⟩
    else EvX C fr .r ⟨[(2, Bo false)], [[]], [qB n qa, aB a]⟩ := by
  refine down _ ?_ ?_
  · intro p
    simp only [List.drop_length, varsOk, if_true, addV_nil]
    rw [EvL_eq B_spec_IsValidQuery_0.eq_1]
    simp
  · intro k hk ih p
    have h4 := inc64 (i := k) (by omega)
    have hw : IntKind.wrap .i64 ((n : Int) - 1) = (n : Int) - 1 := wrap64 (by omega) (by omega)
    have q := c_l7Has (a.Vars.take k) a.Vars[k] (by simp; omega)
    simp only [tI, List.map_take] at q
    have hk2 : k ≤ a.Vars.length := by omega
    have ih := ih (addV p [a.Vars[k]])
    rw [varsOk_drop _ hk]
    rcases tf (inR a.Vars[k] 0 ((n : Int) - 1)) with e1 | e1
    · simp only [e1, Bool.false_and, Bool.false_eq_true, if_false]
      rw [EvL_eq B_spec_IsValidQuery_0.eq_1]
      simp +decide [hk, h4, e1, hw]
    · rcases tf (has (a.Vars.take k) a.Vars[k]) with e2 | e2
      · simp only [e1, e2, Bool.true_and, Bool.not_false, addV_drop p hk, ← ih]
        have e5 := or_bit p (inR3 hn e1)
        have e6 := shl_neg (inR3 hn e1)
        rw [EvL_eq B_spec_IsValidQuery_0.eq_1]
        simp +decide [hk, hk2, h4, e1, hw, q, e2, e5, e6]
      · simp only [e1, e2, Bool.not_true, Bool.and_false, Bool.false_and, Bool.false_eq_true, if_false]
        rw [EvL_eq B_spec_IsValidQuery_0.eq_1]
        simp +decide [hk, hk2, h4, e1, hw, q, e2]

theorem l_spec_IVQ1 (n : Nat) (hn : n ≤ 4) (qa : List Atom) (hl : Le qa) (hv : ∀ a ∈ qa, Le a.Vars) : ∀ k, k ≤ qa.length → ∀ p,
    if (qa.drop k).all (okAtom n) = true then ∀ fr, EvL C fr [1, 3, 4] B_spec_IsValidQuery_1 ⟨[(1, .ptr 0 0), (3, I (bits4 p)), (4, I k)], [[]], [qB n qa]⟩ =
      EvX C fr (.x 0) ⟨[(1, .ptr 0 0), (3, I (bits4 (addA p (qa.drop k)))), (4, I qa.length), (22, Bo false)], [[]], [qB n qa]⟩
    else ∃ h, ∀ fr, EvL C fr [1, 3, 4] B_spec_IsValidQuery_1 ⟨[(1, .ptr 0 0), (3, I (bits4 p)), (4, I k)], [[]], [qB n qa]⟩ = EvX C fr .r ⟨[(2, Bo false)], [[]], h⟩ := by
  refine down _ ?_ ?_
  · intro p
    have e : addA p [] = p := by funext u; simp [addA]
    simp only [List.drop_length, List.all_nil, if_true, e]
    intro fr
    rw [EvL_eq B_spec_IsValidQuery_1.eq_1]
    simp
  · intro k hk ih p
    have h4 := inc64 (i := k) (by omega)
    have q := c_l4Name qa[k].Name
    have ih := ih (addV p qa[k].Vars)
    have b := fun fr => l_spec_IVQ0 n hn qa[k] qa k (hv _ (List.getElem_mem hk)) fr 0 (Nat.zero_le _) p
    rw [drop_all _ hk]
    simp only [List.take_zero, List.drop_zero] at b
    rcases tf (nmOk qa[k].Name) with e1 | e1
    · simp only [okAtom, e1, Bool.false_and, Bool.false_eq_true, if_false]
      refine ⟨[qB n qa, aB qa[k]], fun fr => ?_⟩
      rw [EvL_eq B_spec_IsValidQuery_1.eq_1]
      simp [hk, h4, e1, q]
    rcases tf (inR qa[k].Vars.length 1 3) with e2 | e2
    · simp only [okAtom, e1, e2, Bool.and_false, Bool.false_and, Bool.false_eq_true, if_false]
      refine ⟨[qB n qa, aB qa[k]], fun fr => ?_⟩
      rw [EvL_eq B_spec_IsValidQuery_1.eq_1]
      simp [hk, h4, e1, e2, q]
    rcases tf (varsOk n [] qa[k].Vars) with e3 | e3
    · simp only [okAtom, e1, e2, e3, Bool.and_false, Bool.false_and, Bool.false_eq_true, if_false] at b ⊢
      refine ⟨[qB n qa, aB qa[k]], fun fr => ?_⟩
      rw [EvL_eq B_spec_IsValidQuery_1.eq_1]
      simp at b
      simp [hk, h4, e1, e2, q, b]
    · simp only [e3, if_true] at b
      simp only [okAtom, e1, e2, e3, Bool.true_and, addA_drop p hk]
      have e4 : ∀ fr, EvL C fr [1, 3, 4] B_spec_IsValidQuery_1 ⟨[(1, .ptr 0 0), (3, I (bits4 p)), (4, I k)], [[]], [qB n qa]⟩ =
          EvL C fr [1, 3, 4] B_spec_IsValidQuery_1 ⟨[(1, .ptr 0 0), (3, I (bits4 (addV p qa[k].Vars))), (4, I (k + 1 : Nat))], [[]], [qB n qa]⟩ := by
        intro fr
        rw [EvL_eq B_spec_IsValidQuery_1.eq_1]
        simp at b
        simp [hk, h4, e1, e2, q, b]
      simp only [e4]
      exact ih

theorem full_bits : ∀ a b c d : Bool, (bit4 a b c d = 1 ↔ (a = true ∧ b = false ∧ c = false ∧ d = false)) ∧ (bit4 a b c d = 3 ↔ (a = true ∧ b = true ∧ c = false ∧ d = false)) ∧ (bit4 a b c d = 7 ↔ (a = true ∧ b = true ∧ c = true ∧ d = false)) ∧ (bit4 a b c d = 15 ↔ (a = true ∧ b = true ∧ c = true ∧ d = true)) := by decide

theorem all_in {n : Int} {qa : List Atom} (h : qa.all (okAtom n) = true) : ∀ u : Int, n ≤ u → qa.any (fun a => has a.Vars u) = false := by
  intro u hu
  rw [List.any_eq_false]
  intro a ha hc
  rw [has_iff] at hc
  have := List.all_eq_true.1 h a ha
  simp only [okAtom, Bool.and_eq_true] at this
  have := varsOk_in this.2 _ hc
  simp [inR] at this
  omega

theorem c_spec_IsValidQuery (n : Int) (qa : List Atom) (hl : Le qa) (hv : ∀ a ∈ qa, Le a.Vars) : C f_spec_IsValidQuery [.agg [I n, L 2 (qa.map Atom.c)]] [] = some (Bo (validQ n qa), []) := by
  refine run t_spec_IsValidQuery rfl ?_
  unfold validQ
  rcases tf (inR n 1 4) with e1 | e1
  · simp [M_spec_IsValidQuery, e1]
  rcases tf (inR qa.length 1 4) with e2 | e2
  · simp [M_spec_IsValidQuery, e1, e2]
  have e0 := e1
  simp [inR] at e0
  obtain ⟨k, rfl⟩ : ∃ k : Nat, n = k := ⟨n.toNat, by omega⟩
  have b := l_spec_IVQ1 k (by omega) qa hl hv 0 (Nat.zero_le _) (fun _ => false)
  simp only [List.drop_zero] at b
  have ez : bits4 (fun _ => false) = 0 := rfl
  rw [ez] at b
  rcases tf (qa.all (okAtom k)) with e3 | e3
  · simp only [e3, Bool.false_eq_true, if_false] at b
    obtain ⟨h, b⟩ := b
    simp at b
    simp [M_spec_IsValidQuery, e1, e2, e3, b]
  · simp only [e3, if_true] at b
    simp at b
    have hk : k = 1 ∨ k = 2 ∨ k = 3 ∨ k = 4 := by omega
    have hz := all_in e3
    have hf := full_bits (addA (fun _ => false) qa 0) (addA (fun _ => false) qa 1) (addA (fun _ => false) qa 2) (addA (fun _ => false) qa 3)
    have hz' : ∀ u : Nat, k ≤ u → addA (fun _ => false) qa u = false := fun u hu => by simp only [addA, Bool.false_or]; exact hz u (by omega)
    have hk0 : ¬ (k : Int) < 0 := by omega
    simp [M_spec_IsValidQuery, e1, e2, e3, b, hk0]
    rw [Bool.eq_iff_iff, decide_eq_true_eq, bits4]
    rcases hk with rfl | rfl | rfl | rfl
    · simp [shlI, wrap64, full_bits, hz' 1 (by omega), hz' 2 (by omega), hz' 3 (by omega), List.range_succ]
    · simp [shlI, wrap64, full_bits, hz' 2 (by omega), hz' 3 (by omega), List.range_succ]
    · simp [shlI, wrap64, full_bits, hz' 3 (by omega), List.range_succ, and_assoc]
    · simp [shlI, wrap64, full_bits, List.range_succ, and_assoc]

/-! ### masks -/

def fullM (n : Int) (qa : List Atom) : Int := if validQ n qa = true then shlI 1 qa.length - 1 else 0
theorem shl_len {n : Int} {qa : List Atom} (h : validQ n qa = true) : (qa.length = 1 ∨ qa.length = 2 ∨ qa.length = 3 ∨ qa.length = 4) ∧ shlI 1 qa.length = 2 ^ qa.length ∧ IntKind.wrap .i64 (shlI 1 qa.length - 1) = shlI 1 qa.length - 1 ∧ IntKind.wrap .i64 (shlI 1 qa.length - 1 + 1) = shlI 1 qa.length - 1 + 1 := by
  simp only [validQ, Bool.and_eq_true] at h
  have h2 := h.1.1.2
  simp [inR] at h2
  have h3 : qa.length = 1 ∨ qa.length = 2 ∨ qa.length = 3 ∨ qa.length = 4 := by omega
  refine ⟨h3, ?_⟩
  rcases h3 with h3 | h3 | h3 | h3 <;> rw [h3] <;> decide
theorem c_spec_FullMask (n : Int) (qa : List Atom) (hl : Le qa) (hv : ∀ a ∈ qa, Le a.Vars) : C f_spec_FullMask [.agg [I n, L 2 (qa.map Atom.c)]] [] = some (I (fullM n qa), []) := by
  refine run t_spec_FullMask rfl ?_
  have q := c_spec_IsValidQuery n qa hl hv
  unfold fullM
  rcases tf (validQ n qa) with e | e
  · simp [M_spec_FullMask, q, e]
  · obtain ⟨_, _, h3, _⟩ := shl_len e
    have h0 : ¬ (qa.length : Int) < 0 := by omega
    simp [M_spec_FullMask, q, e, h0, h3]
theorem c_impl_FullMask (n : Int) (qa : List Atom) (hl : Le qa) (hv : ∀ a ∈ qa, Le a.Vars) : C f_impl_FullMask [.agg [I n, L 2 (qa.map Atom.c)]] [] = some (I (fullM n qa), []) := by
  refine run t_impl_FullMask rfl ?_
  have q := c_impl_IsValidQuery n qa hl hv
  unfold fullM
  rcases tf (validQ n qa) with e | e
  · simp [M_impl_FullMask, q, e]
  · obtain ⟨_, _, h3, _⟩ := shl_len e
    have h0 : ¬ (qa.length : Int) < 0 := by omega
    simp [M_impl_FullMask, q, e, h0, h3]
theorem fullM_inc (n : Int) (qa : List Atom) : IntKind.wrap .i64 (fullM n qa + 1) = fullM n qa + 1 := by
  unfold fullM
  split
  · rename_i h; exact (shl_len h).2.2.2
  · decide

def boxOkQ (n : Int) (qa : List Atom) (lo hi : List Int) : Bool := validBox lo hi && decide ((lo.length : Int) = fullM n qa + 1)
theorem c_impl_boxOk (n : Int) (qa : List Atom) (lo hi : List Int) (hl : Le qa) (hv : ∀ a ∈ qa, Le a.Vars) (h1 : Le lo) (h2 : Le hi) : C f_impl_boxOk [.agg [I n, L 2 (qa.map Atom.c)], .agg [.t (tI lo), .t (tI hi)]] [] = some (Bo (boxOkQ n qa lo hi), []) := by
  refine run t_impl_boxOk rfl ?_
  have q1 := c_impl_IsValidBox lo hi h1 h2
  have q2 := c_impl_FullMask n qa hl hv
  have q3 := fullM_inc n qa
  unfold boxOkQ
  rcases tf (validBox lo hi) with e | e
  · simp +decide [M_impl_boxOk, q1, e]
  · simp +decide [M_impl_boxOk, q1, q2, q3, e]

end Go.Proofs.Ytiniphmomjnocaa
