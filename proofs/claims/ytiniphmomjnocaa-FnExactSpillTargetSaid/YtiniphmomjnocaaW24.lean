/-
  The info of a step: stepInfo and l23Step.
-/
import Derived.Test.YtiniphmomjnocaaW23
namespace Go.Proofs.Ytiniphmomjnocaa
open Go.AM
set_option linter.unusedSimpArgs false
set_option linter.unusedVariables false

structure SI where
  Mask : Int
  Order : Int
  Left : Int
  Right : Int
def SI.c (y : SI) : List T := [.int .i64 y.Mask, .int .i64 y.Order, .int .i64 y.Left, .int .i64 y.Right]
@[simp] theorem SI.c_def (y : SI) : y.c = [.int .i64 y.Mask, .int .i64 y.Order, .int .i64 y.Left, .int .i64 y.Right] := rfl

def vin (qa : List Atom) (m v : Int) : Bool := inR v 0 3 && pV m qa v.toNat
def shr (qa : List Atom) (a b : Int) : Bool := (List.range 4).any fun u => pV a qa u && pV b qa u
def topAt (st : List Int) (info : List SI) (k : Nat) : Option (Int × SI) := if k ≤ st.length then (match st[st.length - k]? with
  | some s => (info[s.toNat]?).map (s, ·)
  | none => none) else none

def joinO (qa : List Atom) (x : PlanStep) (y z : SI) : Option Int :=
  if x.Kind = 3 ∧ x.Order = 0 then some (-1)
  else if x.Kind = 5 ∧ x.Order = 0 then some y.Order
  else if x.Kind = 4 ∧ vin qa y.Mask x.Order = true ∧ vin qa z.Mask x.Order = true ∧ y.Order = x.Order ∧ z.Order = x.Order then some x.Order
  else none

def stepI (qa : List Atom) (x : PlanStep) (info : List SI) (st : List Int) : Option SI :=
  if x.Kind = 1 then (if inR x.Atom 0 (qa.length - 1) = true ∧ x.Order = 0 then some ⟨shlI 1 x.Atom, (match qa[x.Atom.toNat]? with | some a => a.Vars.headD 0 | none => 0), -1, -1⟩ else none)
  else if x.Atom ≠ 0 then none
  else if x.Kind = 2 then (match topAt st info 1 with
    | some (s, y) => if vin qa y.Mask x.Order = true ∧ y.Order ≠ x.Order then some ⟨y.Mask, x.Order, s, -1⟩ else none
    | none => none)
  else match topAt st info 2, topAt st info 1 with
    | some (s, y), some (t, z) => if andI y.Mask z.Mask = 0 ∧ shr qa y.Mask z.Mask = true then (joinO qa x y z).map (⟨orI y.Mask z.Mask, ·, s, t⟩) else none
    | _, _ => none

def StOk (info : List SI) (st : List Int) : Prop := ∀ s ∈ st, 0 ≤ s ∧ s.toNat < info.length

theorem topAt_ok {info : List SI} {st : List Int} (h : StOk info st) {k : Nat} (h1 : 1 ≤ k) (h2 : k ≤ st.length) :
    ∃ s y, topAt st info k = some (s, y) ∧ st[st.length - k]? = some s ∧ 0 ≤ s ∧ info[s.toNat]? = some y := by
  have hlt : st.length - k < st.length := by omega
  obtain ⟨h3, h4⟩ := h _ (List.getElem_mem hlt)
  refine ⟨st[st.length - k], info[(st[st.length - k]).toNat], ?_, List.getElem?_eq_getElem hlt, h3, List.getElem?_eq_getElem h4⟩
  simp [topAt, h2, List.getElem?_eq_getElem hlt, List.getElem?_eq_getElem h4]

theorem pV_lt {n : Int} {qa : List Atom} (h : validQ n qa = true) {m : Int} {u : Nat} (hp : pV m qa u = true) : (u : Int) < n := by
  have : ∀ (l : List Atom) (i : Nat), (∀ a ∈ l, a ∈ qa) → hasV m l i u = true → (u : Int) < n := by
    intro l
    induction l with
    | nil => intro i _ hh; simp [hasV] at hh
    | cons a l ih =>
      intro i hs hh
      simp only [hasV, Bool.or_eq_true, Bool.and_eq_true] at hh
      rcases hh with hh | hh
      · have := valid_var h a (hs a (by simp)) u (has_iff.1 hh.2)
        simp [inR] at this
        omega
      · exact ih (i + 1) (fun b hb => hs b (by simp [hb])) hh
  exact this qa 0 (fun a ha => ha) hp

theorem has_varL {n : Int} {qa : List Atom} (h : validQ n qa = true) (m v : Int) : has (varL m qa n.toNat) v = vin qa m v := by
  have hn := valid_n h
  rw [Bool.eq_iff_iff, has_iff]
  simp only [varL, List.mem_map, List.mem_filter, List.mem_range, vin, Bool.and_eq_true]
  constructor
  · rintro ⟨u, ⟨h1, h2⟩, rfl⟩
    refine ⟨by simp [inR]; omega, by simpa using h2⟩
  · rintro ⟨h1, h2⟩
    have h3 := pV_lt h h2
    simp [inR] at h1
    exact ⟨v.toNat, ⟨by omega, h2⟩, by omega⟩

theorem shared_len {n : Int} {qa : List Atom} (h : validQ n qa = true) (a b : Int) : ((varL a qa n.toNat).filter (has (varL b qa n.toNat))).length = 0 ↔ shr qa a b = false := by
  have hn := valid_n h
  rw [List.length_eq_zero_iff, List.filter_eq_nil_iff, shr, List.any_eq_false]
  simp only [has_varL h]
  constructor
  · intro hh u hu
    simp only [List.mem_range] at hu
    simp only [Bool.and_eq_true, not_and]
    intro h1 h2
    have h3 := pV_lt h h1
    refine hh (u : Int) ?_ ?_
    · simp only [varL, List.mem_map, List.mem_filter, List.mem_range]
      exact ⟨u, ⟨by omega, h1⟩, rfl⟩
    · simp only [vin, Bool.and_eq_true]
      exact ⟨by simp [inR]; omega, by simpa using h2⟩
  · intro hh v hv
    simp only [varL, List.mem_map, List.mem_filter, List.mem_range] at hv
    obtain ⟨u, ⟨h1, h2⟩, rfl⟩ := hv
    have := hh u (by simp only [List.mem_range]; omega)
    simp only [Bool.and_eq_true, not_and] at this
    simp only [vin, Bool.and_eq_true, not_and]
    intro _
    simpa using this h2

theorem has_shared {n : Int} {qa : List Atom} (h : validQ n qa = true) (a b v : Int) : has ((varL a qa n.toNat).filter (has (varL b qa n.toNat))) v = (vin qa a v && vin qa b v) := by
  rw [Bool.eq_iff_iff, has_iff, List.mem_filter, ← has_iff, has_varL h, has_varL h, Bool.and_eq_true]

theorem shr_bits (qa : List Atom) (a b : Int) : andI (bits4 (pV a qa)) (bits4 (pV b qa)) = 0 ↔ shr qa a b = false := by
  rw [and_bits, bits_zero, shr, List.any_eq_false]
  simp

/-! ### the reference's -/

abbrev stepA (x : PlanStep) : AV := .agg [I x.Kind, I x.Atom, I x.Order]
abbrev siA (y : SI) : AV := .agg [I y.Mask, I y.Order, I y.Left, I y.Right]
abbrev siZ : AV := .agg [I 0, I 0, I 0, I 0]
def popsI (x : PlanStep) : Int := if x.Kind = 1 then 0 else if x.Kind = 2 then 1 else 2

theorem hd0 {xs : List Int} (h : 0 < xs.length) : xs.head?.getD 0 = xs[0] := by cases xs with | nil => simp at h | cons x xs => rfl
set_option maxHeartbeats 4000000 in
theorem c_l23Step (n : Int) (qa : List Atom) (h : validQ n qa = true) (x : PlanStep) (info : List SI) (st : List Int) (hs : StOk info st) (hi : Le info) (hl : Le st) :
    C f_spec_l23Step [.agg [I n, L 2 (qa.map Atom.c)], stepA x, L 4 (info.map SI.c), .t (tI st)] [] = some (match stepI qa x info st with | some y => .tup [siA y, I (popsI x)] | none => .tup [siZ, I (-1)], []) := by
  refine run t_spec_l23Step rfl ?_
  have v1 := valid_len h
  have v2 := valid_vars h
  have hqa : Le qa := by omega
  have hva : ∀ a ∈ qa, Le a.Vars := fun a ha => by have := v2 a ha; omega
  have q1 := fun m => c_l7Bits n m qa (valid4 h) hqa hva
  have w1 : IntKind.wrap .i64 ((qa.length : Int) - 1) = (qa.length : Int) - 1 := wrap64 (by omega) (by omega)
  have w2 : IntKind.wrap .i64 ((st.length : Int) - 1) = (st.length : Int) - 1 := wrap64 (by omega) (by omega)
  have w3 : IntKind.wrap .i64 ((st.length : Int) - 2) = (st.length : Int) - 2 := wrap64 (by omega) (by omega)
  unfold stepI popsI
  by_cases k1 : x.Kind = 1
  · rcases tf (inR x.Atom 0 ((qa.length : Int) - 1)) with e1 | e1
    · simp [M_spec_l23Step, k1, w1, e1]
    · by_cases e2 : x.Order = 0
      · have e3 := e1
        simp [inR] at e3
        have e4 : x.Atom.toNat < qa.length := by omega
        have e5 := v2 _ (List.getElem_mem e4)
        have e6 : ¬ x.Atom < 0 := by omega
        have e7 : 0 < qa[x.Atom.toNat].Vars.length := by omega
        simp +decide [M_spec_l23Step, k1, w1, e1, e2, e3.1, e4, e6, e7, hd0 e7]
      · simp [M_spec_l23Step, k1, w1, e1, e2]
  by_cases a0 : ¬ x.Atom = 0
  · by_cases k2 : x.Kind = 2
    · simp +decide [M_spec_l23Step, k1, k2, a0]
    by_cases k3 : x.Kind = 3
    · simp +decide [M_spec_l23Step, k1, k2, a0, k3]
    by_cases k4 : x.Kind = 4
    · simp +decide [M_spec_l23Step, k1, k2, a0, k3, k4]
    by_cases k5 : x.Kind = 5
    · simp +decide [M_spec_l23Step, k1, k2, a0, k3, k4, k5]
    · simp +decide [M_spec_l23Step, k1, k2, a0, k3, k4, k5]
  have a0 : x.Atom = 0 := Decidable.not_not.1 a0
  by_cases k2 : x.Kind = 2
  · by_cases hz : 1 ≤ st.length
    · obtain ⟨s, y, t1, t2, t3, t4⟩ := topAt_ok hs (Nat.le_refl 1) hz
      have q2 := c_l23In (pV y.Mask qa) x.Order
      have z1 : ¬ ((st.length : Int) < 1) := by omega
      have z2 : ¬ ((st.length : Int) - 1 < 0) := by omega
      have z3 : (1 : Int) ≤ (st.length : Int) := by omega
      have z4 : ((st.length : Int) - 1).toNat = st.length - 1 := by omega
      rw [t1]
      by_cases e1 : y.Order = x.Order
      · simp +decide [M_spec_l23Step, k1, k2, a0, w2, z1, z2, z3, z4, t2, t3, t4, e1]
      · rcases tf (vin qa y.Mask x.Order) with e2 | e2
        · have e3 := e2
          rw [vin] at e3
          rw [e3] at q2
          simp +decide [M_spec_l23Step, k1, k2, a0, w2, z1, z2, z3, z4, t2, t3, t4, e1, e2, q1, q2]
        · have e3 := e2
          rw [vin] at e3
          rw [e3] at q2
          simp +decide [M_spec_l23Step, k1, k2, a0, w2, z1, z2, z3, z4, t2, t3, t4, e1, e2, q1, q2]
    · have z1 : st = [] := List.eq_nil_of_length_eq_zero (by omega)
      subst z1
      simp +decide [M_spec_l23Step, k1, k2, a0, topAt]
  by_cases hz : 2 ≤ st.length
  · obtain ⟨s, y, t1, t2, t3, t4⟩ := topAt_ok hs (by omega : 1 ≤ 2) hz
    obtain ⟨t, z, u1, u2, u3, u4⟩ := topAt_ok hs (Nat.le_refl 1) (by omega)
    have z1 : ¬ ((st.length : Int) < 2) := by omega
    have z2 : ¬ ((st.length : Int) - 1 < 0) := by omega
    have z3 : (1 : Int) ≤ (st.length : Int) := by omega
    have z4 : ((st.length : Int) - 1).toNat = st.length - 1 := by omega
    have z5 : (2 : Int) ≤ (st.length : Int) := by omega
    have z6 : ((st.length : Int) - 2).toNat = st.length - 2 := by omega
    have z7 : ¬ ((st.length : Int) - 2 < 0) := by omega
    have q2 := c_l23In (fun u => pV y.Mask qa u && pV z.Mask qa u) x.Order
    rw [← and_bits] at q2
    have q3 := shr_bits qa y.Mask z.Mask
    have q4 : (inR x.Order 0 3 && (pV y.Mask qa x.Order.toNat && pV z.Mask qa x.Order.toNat)) = (vin qa y.Mask x.Order && vin qa z.Mask x.Order) := by
      unfold vin; cases inR x.Order 0 3 <;> simp
    rw [q4] at q2
    rw [t1, u1]
    simp only
    by_cases kk : ¬ (x.Kind = 3 ∨ x.Kind = 4 ∨ x.Kind = 5)
    · have k3 : ¬ x.Kind = 3 := by omega
      have k4 : ¬ x.Kind = 4 := by omega
      have k5 : ¬ x.Kind = 5 := by omega
      simp +decide [M_spec_l23Step, k1, k2, a0, k3, k4, k5, joinO]
    have kk : x.Kind = 3 ∨ x.Kind = 4 ∨ x.Kind = 5 := Decidable.not_not.1 kk
    by_cases m1 : andI y.Mask z.Mask = 0
    · rcases tf (shr qa y.Mask z.Mask) with m2 | m2
      · have m3 := q3.2 m2
        rcases kk with kk | kk | kk <;> simp +decide [M_spec_l23Step, k1, k2, a0, w2, w3, z1, z2, z3, z4, z5, z6, z7, t2, t3, t4, u2, u3, u4, q1, kk, m1, m2, m3]
      · have m3 : ¬ andI (bits4 (pV y.Mask qa)) (bits4 (pV z.Mask qa)) = 0 := fun hc => by rw [q3.1 hc] at m2; cases m2
        rcases kk with kk | kk | kk
        · by_cases o1 : x.Order = 0 <;> simp +decide [M_spec_l23Step, k1, k2, a0, w2, w3, z1, z2, z3, z4, z5, z6, z7, t2, t3, t4, u2, u3, u4, q1, kk, m1, m2, m3, o1, joinO]
        · rcases tf (vin qa y.Mask x.Order) with o1 | o1
          · rw [o1] at q2
            simp +decide [M_spec_l23Step, k1, k2, a0, w2, w3, z1, z2, z3, z4, z5, z6, z7, t2, t3, t4, u2, u3, u4, q1, q2, kk, m1, m2, m3, o1, joinO]
          · rcases tf (vin qa z.Mask x.Order) with o2 | o2
            · rw [o1, o2] at q2
              simp +decide [M_spec_l23Step, k1, k2, a0, w2, w3, z1, z2, z3, z4, z5, z6, z7, t2, t3, t4, u2, u3, u4, q1, q2, kk, m1, m2, m3, o1, o2, joinO]
            · rw [o1, o2] at q2
              by_cases o3 : y.Order = x.Order
              · by_cases o4 : z.Order = x.Order <;> simp +decide [M_spec_l23Step, k1, k2, a0, w2, w3, z1, z2, z3, z4, z5, z6, z7, t2, t3, t4, u2, u3, u4, q1, q2, kk, m1, m2, m3, o1, o2, o3, o4, joinO]
              · simp +decide [M_spec_l23Step, k1, k2, a0, w2, w3, z1, z2, z3, z4, z5, z6, z7, t2, t3, t4, u2, u3, u4, q1, q2, kk, m1, m2, m3, o1, o2, o3, joinO]
        · by_cases o1 : x.Order = 0 <;> simp +decide [M_spec_l23Step, k1, k2, a0, w2, w3, z1, z2, z3, z4, z5, z6, z7, t2, t3, t4, u2, u3, u4, q1, kk, m1, m2, m3, o1, joinO]
    · rcases kk with kk | kk | kk <;> simp +decide [M_spec_l23Step, k1, k2, a0, w2, w3, z1, z2, z3, z4, z5, z6, z7, t2, t3, t4, u2, u3, u4, q1, kk, m1]
  · have u1 : topAt st info 2 = none := by simp [topAt, hz]
    have z1 : (st.length : Int) < 2 := by omega
    rw [u1]
    by_cases k3 : x.Kind = 3
    · simp +decide [M_spec_l23Step, k1, k2, a0, k3, z1]
    by_cases k4 : x.Kind = 4
    · simp +decide [M_spec_l23Step, k1, k2, a0, k3, k4, z1]
    by_cases k5 : x.Kind = 5
    · simp +decide [M_spec_l23Step, k1, k2, a0, k3, k4, k5, z1]
    · simp +decide [M_spec_l23Step, k1, k2, a0, k3, k4, k5, z1]
end Go.Proofs.Ytiniphmomjnocaa
