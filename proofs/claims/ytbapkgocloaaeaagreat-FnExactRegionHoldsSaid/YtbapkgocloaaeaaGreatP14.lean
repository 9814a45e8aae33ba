/-
  Parts of the proofs for this seat: IG IH IJ IK IL K FA.
-/
import Derived.Test.YtbapkgocloaaeaaGreatP7
import Derived.Test.YtbapkgocloaaeaaGreatP13
set_option linter.unusedSimpArgs false
set_option linter.unusedVariables false
set_option maxRecDepth 100000
set_option maxHeartbeats 4000000
/- part: IG -/
namespace Go.Proofs.YtbapkgocloaaeaaGreat
open Go.AM
theorem Zbc0 {M v c : Int} {x : List Zc} (hM : M ≠ 0) (hv : 0 ≤ v ∧ v ≤ 3) : [offK 0 zE M v c x, offK 1 zE M v c x, offK 2 zE M v c x, offK 3 zE M v c x, offK 4 zE M v c x].filter sm = [⟨M, v, c, ⟨x⟩⟩] := by
  have h : v = 0 ∨ v = 1 ∨ v = 2 ∨ v = 3 := by omega
  rcases h with rfl | rfl | rfl | rfl <;> simp [offK, offE, sm, zE, hM]
theorem Zbc1 : ∀ (i : Fin 4) (a : Fin 16), 1 ≤ a.1 → (a.1 : Int) < shlI 1 (i.1 : Nat) → andI (a.1 : Int) (shlI 1 (i.1 : Nat)) ≠ a.1 := by decide
theorem Zbc2 {qa : List Atom} {i : Nat} (hi : i < 4) : Zo qa (shlI 1 i) = [] := by
  cases h : Zo qa (shlI 1 i) with
  | nil => rfl
  | cons A l =>
    exfalso
    obtain ⟨h1, h2, h3, _⟩ := Zlt (qa := qa) (M := shlI 1 i) (A := A) (by rw [h]; simp)
    have h16 : M16 (shlI 1 (i : Nat)) := (f_shl ⟨i, hi⟩ ⟨0, by omega⟩).2
    obtain ⟨a, rfl⟩ := m16 (x := A) (by omega)
    exact Zbc1 ⟨i, hi⟩ a (by omega) h2 h3
theorem flat_ne {E : List Za} (h : E ≠ []) : flat (E.map Za.c) = false := by
  cases E with
  | nil => exact absurd rfl h
  | cons e E => simp [flat, Za.c, scalar]
theorem Zbc3 {qa : List Atom} {n : Int} (hv : Zm n qa = true) {M A : Int} (hM : MQ qa M) (h : A ∈ Zo qa M) : andNotI M A = M - A := by
  obtain ⟨h1, h2, h3, _⟩ := Zlt h
  have h16 := (hM.m16 hv).1
  obtain ⟨a, rfl⟩ := m16 (x := A) (by omega)
  obtain ⟨b, rfl⟩ := m16 h16
  exact (f_diff a b h3).1
theorem l_copyT (fr : Bool) (out : List Za) (hl : out.length ≤ 1000) (hs : ∀ e ∈ out, e.Plan.Steps.length ≤ 1000) : ∀ i, i ≤ out.length → Zhk fr out out.length i = some (.own 0, [.arr 174 4 fr (out.map Za.c)]) := by
  refine down _ ?_ ?_
  · refine Zyc _ _ _ _ _ ?_
    rw [if_neg (by omega)]
  · intro i hi ih
    have h4 := inc64 (i := i) (by omega)
    have hw : w ((i : Int) + 1) = ((i + 1 : Nat) : Int) := by rw [show w ((i : Int) + 1) = (i : Int) + 1 from h4]; simp
    refine Zyc _ _ _ _ _ ?_
    rw [if_pos (by omega), hw]
    refine ⟨by omega, out[i], by rw [Int.toNat_natCast]; exact List.getElem?_eq_getElem hi, _, Znb _ (hs _ (List.getElem_mem hi)), ?_⟩
    rw [Int.toNat_natCast]
    have : out.set i (⟨out[i].Mask, out[i].Order, out[i].Cost, (⟨out[i].Plan.Steps⟩ : Plan)⟩ : Za) = out := Zls (List.getElem?_eq_getElem hi)
    rw [this]
    exact ih
theorem Inv.steps {m : Zd} {q : Zb} {sizes : List Int} {done : List Int} {out : List Za} (h : Inv m sizes q done out) (h16 : ∀ M ∈ done, M16 M) : ∀ e ∈ out, e.Plan.Steps.length ≤ 1000 := by
  intro e he
  have hd := h.only e he
  have hh := (h.held _ hd).len e (List.mem_filter.2 ⟨he, by simp⟩)
  have := Zck (h16 _ hd)
  omega
theorem conn_16 {n : Int} {qa : List Atom} (hv : Zm n qa = true) : ∀ M ∈ Zn qa, M16 M := by
  intro M hM
  obtain ⟨h1, h2, _⟩ := Zie.1 hM
  exact (MQ.m16 hv ⟨by omega, h2⟩).1
theorem Zsr {m : Zd} {q : Zb} {sizes : List Int} (b : Base m q sizes) {i : Nat} (hi : i ≤ (Zn q.Atoms).length) : ∀ e ∈ Zw m sizes q i, e.Plan.Steps.length ≤ 1000 :=
  (Zjg b i hi).steps fun M hM => conn_16 b.hv M (List.mem_of_mem_take hM)
theorem i_table {m : Zd} {q : Zb} {sizes : List Int} (b : Base m q sizes) : ∀ i, i ≤ (Zn q.Atoms).length → ∀ (table : List (List Za)) (fr fr1 : Bool), table.length = 2 ^ q.Atoms.length → (∀ M ∈ (Zn q.Atoms).take i, table[M.toNat]? = some (ofM (Zw m sizes q i) M)) → (i = (Zn q.Atoms).length → fr1 = false) →
    Ze0 m q fr table fr1 (Zw m sizes q i) (Zn q.Atoms) sizes (Zn q.Atoms).length i = some (.own 0, [.arr 174 4 false ((Zw m sizes q (Zn q.Atoms).length).map Za.c)]) := by
  have hcl := Zni b.hv
  refine down _ ?_ ?_
  · intro table fr fr1 _ _ hf
    rw [hf rfl]
    refine Zya _ _ _ _ _ _ _ _ _ _ _ ?_
    rw [if_neg (by omega)]
    exact l_copyT false _ (by have := Zlv b (Nat.le_refl (Zn q.Atoms).length); omega) (Zsr b (Nat.le_refl _)) 0 (Nat.zero_le _)
  · intro i hi ih table fr fr1 htl hT hf
    have h4 := inc64 (i := i) (by omega)
    have hw : w ((i : Int) + 1) = ((i + 1 : Nat) : Int) := by rw [show w ((i : Int) + 1) = (i : Int) + 1 from h4]; simp
    obtain ⟨c1, c2, c3, c4⟩ := Zjf hi
    have hinv := Zjg b i (by omega)
    have hstep := Z1i b hinv c1 c2 c3 c4 (Zsq (Zlu _) hi)
    have hheld := Zsp b hinv c1 c2 c3 c4
    have hnext : Zw m sizes q (i + 1) = Zw m sizes q i ++ entM m sizes q (Zw m sizes q i) (Zn q.Atoms)[i] := by
      rw [Zw]
      congr 2
      simp [List.getD, hi]
    have hlen := Zlv b (i := i) (by omega)
    have h16 := (c1.m16 b.hv).1
    have hpw := Zdz q.Atoms.length
    have hMt : (Zn q.Atoms)[i].toNat < table.length := by have := c1.1; have := c1.2; omega
    have key : ∀ f1 E, E = entM m sizes q (Zw m sizes q i) (Zn q.Atoms)[i] → Ze0 m q f1 (table.set (Zn q.Atoms)[i].toNat E) (fr1 && flat (E.map Za.c)) (Zw m sizes q i ++ E) (Zn q.Atoms) sizes (Zn q.Atoms).length (w ((i : Int) + 1)) = some (.own 0, [.arr 174 4 false ((Zw m sizes q (Zn q.Atoms).length).map Za.c)]) := by
      intro f1 E hE
      subst hE
      rw [hw, flat_ne hheld.ne, Bool.and_false, ← hnext]
      refine ih _ _ _ (by rw [List.length_set]; exact htl) ?_ (fun _ => rfl)
      intro A hA
      rw [List.take_succ_eq_append_getElem hi] at hA
      rcases List.mem_append.1 hA with hA | hA
      · have hne : A ≠ (Zn q.Atoms)[i] := fun h => Zsq (Zlu _) hi (h ▸ hA)
        have hA0 := (Zie.1 (List.mem_of_mem_take hA)).1
        have := c1.1
        rw [List.getElem?_set_ne (by omega), hT A hA, hnext, hstep.2.1 A hA]
      · rw [List.mem_singleton.1 hA, List.getElem?_set_self hMt, hnext, hstep.2.2]
    have hget : (Zn q.Atoms)[i]? = some (Zn q.Atoms)[i] := List.getElem?_eq_getElem hi
    generalize (Zn q.Atoms)[i] = M at *
    have hic : Zbs q.Ze q.Atoms M = true := by
      unfold Zbs
      rw [b.hv, c3, Zdy b.hv]
      have h1 := c1.1
      have h2 := c1.2
      simp [inR, c2, h1]
      omega
    have e1 : (Zbx q M).map Prod.fst = Zo q.Atoms M := by
      unfold Zbx
      rw [List.map_map]
      exact List.map_id _
    have e2 : (Zbx q M).length = (Zo q.Atoms M).length := by unfold Zbx; rw [List.length_map]
    have hps : (Zbx q M).length ≤ 100 := by rw [e2]; have := Zsh (qa := q.Atoms) h16; omega
    have hok : ∀ p ∈ Zbx q M, Z1c m q sizes (Zw m sizes q i) table M p.1 p.2 := by
      intro p hp
      have o := Zso b hinv c1 c3 c4 p hp
      unfold Zbx at hp
      rw [List.mem_map] at hp
      obtain ⟨A, hA, rfl⟩ := hp
      have hd := Zbc3 b.hv c1 hA
      obtain ⟨q1, q2⟩ := Zsn c1 hA
      refine ⟨o, hd, ?_, hT A (c4 A hA).1, hT _ (c4 A hA).2⟩
      rw [hd]
      exact Zbb5 q b.hq b.hv A (M - A) q1 q2
    have hgo : ∀ a0 a1 a2 a3 a4 : Za, ((Zbx q M).foldl (oneJ m sizes M (Zw m sizes q i)) [a0, a1, a2, a3, a4]).filter sm = entM m sizes q (Zw m sizes q i) M →
        Zc7 m q fr table fr1 (Zw m sizes q i) m q sizes M a0 a1 a2 a3 a4 (sm a0) (sm a1) (sm a2) (sm a3) (sm a4) (Zn q.Atoms) (Zo q.Atoms M) sizes M (Zn q.Atoms).length i (Zo q.Atoms M).length 0 = some (.own 0, [.arr 174 4 false ((Zw m sizes q (Zn q.Atoms).length).map Za.c)]) := by
      intro a0 a1 a2 a3 a4 hE
      have := i_splits b h16 c2 table hMt (Zw m sizes q i) (by omega) (Zbx q M) hps hok fr fr1 (Zn q.Atoms) (Zn q.Atoms).length i _ 0 (Nat.zero_le _) a0 a1 a2 a3 a4 (fun f1 E h => key f1 E (by rw [List.drop_zero, hE] at h; exact h.symm))
      rw [e1, e2] at this
      exact this
    refine Zya _ _ _ _ _ _ _ _ _ _ _ ?_
    rw [if_pos (by omega)]
    refine ⟨by omega, M, by rw [Int.toNat_natCast]; exact hget, .inr ⟨Zcc M, Zbbo h16, ?_⟩⟩
    cases ho : oneB (ofI M) with
    | true =>
      obtain ⟨j, hj4, ha, hMj⟩ := Zsi h16 ho
      have hent := Zsk (m := m) (sizes := sizes) (q := q) (out := Zw m sizes q i) ha
      have hE := hheld
      rw [hent] at hE
      have hlen1 := hE.len _ (List.mem_singleton.2 rfl)
      have hmk := hE.makes _ (List.mem_singleton.2 rfl)
      have hod := hE.ord _ (List.mem_singleton.2 rfl)
      have hjl : j < q.Atoms.length := by
        have h2 := c1.2
        have e : shlI 1 (j : Nat) = 2 ^ j := by
          have : j = 0 ∨ j = 1 ∨ j = 2 ∨ j = 3 := by omega
          rcases this with rfl | rfl | rfl | rfl <;> decide
        rw [hMj, e] at h2
        have h3 : (2 : Int) ^ j < 2 ^ q.Atoms.length := h2
        rw [← Zdz, ← Zdz] at h3
        exact (Nat.pow_lt_pow_iff_right (by omega)).1 (by omega : 2 ^ j < 2 ^ q.Atoms.length)
      have hvar := Zih b.hv _ (List.getElem_mem hjl)
      obtain ⟨v, vs, hvs⟩ : ∃ v vs, q.Atoms[j].Vars = v :: vs := by
        cases hh : q.Atoms[j].Vars with
        | nil => rw [hh] at hvar; simp at hvar
        | cons v vs => exact ⟨v, vs, rfl⟩
      have hv3 : 0 ≤ v ∧ v ≤ 3 := by
        have := Zl4 b.hv _ (List.getElem_mem hjl) v (by rw [hvs]; simp)
        have hn := Zc2 b.hv
        simp [inR] at this
        omega
      have hse : Zgt m sizes q M (j : Int) = ⟨M, v, Z3 m.Scan (szAt sizes M) 0 (szAt sizes M), ⟨[⟨1, j, 0⟩]⟩⟩ := by
        simp [Zgt, List.getElem?_eq_getElem hjl, hvs]
      rw [hse] at hmk
      have hcost := Z0.cost hmk b.hv (by simp) b.hsv
      obtain ⟨t, ht, hx⟩ := Z0x m b.hm q b.hq sizes b.hs M c2 zE zE zE zE zE [⟨1, j, 0⟩] v (by omega) _ hcost
      rw [show sm zE = false from rfl] at hx
      have hnx := hgo _ _ _ _ _ (by
        have hsp : Zbx q M = [] := by unfold Zbx; rw [hMj, Zbc2 hj4]; rfl
        rw [hsp, List.foldl_nil, hent, hse]
        exact Zbc0 (c := Z3 m.Scan (szAt sizes M) 0 (szAt sizes M)) (x := [⟨1, j, 0⟩]) c2 hv3)
      rw [ha, if_pos (by simp)]
      refine ⟨(j : Int), rfl, _, Zbb8 _, by omega, q.Atoms[j], by rw [Int.toNat_natCast]; exact List.getElem?_eq_getElem hjl, v, by rw [hvs]; rfl, ?_⟩
      rcases ht with rfl | rfl
      · exact .inl ⟨m, q, sizes, M, _, _, _, _, _, _, _, _, _, _, hx, .inr ⟨_, Zr2 q b.hq M hic, hnx⟩⟩
      · exact .inr ⟨m, q, sizes, M, _, _, _, _, _, _, _, _, _, _, _, hx, .inr ⟨_, Zr2 q b.hq M hic, hnx⟩⟩
    | false =>
      have hne := Zsj h16 ho
      rw [if_neg (by omega)]
      have hnx := hgo zE zE zE zE zE (by rw [Zsl hne]; rfl)
      rw [show sm zE = false from rfl] at hnx
      exact .inr ⟨_, Zr2 q b.hq M hic, hnx⟩
theorem Zbc4 {m : Zd} {q : Zb} {sizes : List Int} (b : Base m q sizes) (ha : Zcq m) : Ziq m q sizes = some (.own 0, [.arr 174 4 false ((Zw m sizes q (Zn q.Atoms).length).map Za.c)]) := by
  have hf := Zdy b.hv
  have hpw := Zdz q.Atoms.length
  have h16 : 2 ^ q.Atoms.length ≤ 16 := Nat.pow_le_pow_right (by omega : 0 < 2) (Zbo b.hv).2
  have hp1 : 1 ≤ 2 ^ q.Atoms.length := Nat.one_le_two_pow
  have e1 : w (Zr q.Ze q.Atoms + 1) = 2 ^ q.Atoms.length := by rw [w_id (by omega) (by omega)]; omega
  have hr : room = 140737488355328 := rfl
  refine Z8o _ _ _ _ ⟨_, Zzy m b.hm, ?_⟩
  rw [if_pos (by simpa using ha)]
  refine ⟨_, Z0d q b.hq sizes b.hs, ?_⟩
  rw [if_pos b.hsv]
  refine ⟨_, Zgn q b.hq, ?_⟩
  rw [e1]
  have e2 : ((2 : Int) ^ q.Atoms.length).toNat = 2 ^ q.Atoms.length := by omega
  rw [e2]
  refine ⟨by omega, by omega, by rw [hr]; omega, by omega, _, Zbbh q b.hq b.hv, ?_⟩
  refine i_table b 0 (Nat.zero_le _) _ true true (by simp) (by simp) ?_
  intro h
  exfalso
  have : (1 : Int) ∈ Zn q.Atoms := by
    refine Zie.2 ⟨by omega, ?_, ?_⟩
    · have : 2 ^ 1 ≤ 2 ^ q.Atoms.length := Nat.pow_le_pow_right (by omega) (Zbo b.hv).1
      omega
    · have h1 := Zlq b.hv (true, false, false, false)
      rw [show toI (true, false, false, false) = 1 from rfl] at h1
      rw [h1]
      have key : ∀ a b c d e f : Bool, ∀ n : Fin 5, Zbv ⟨a, b, c, d, e, f⟩ n.1 (true, false, false, false) = true := by decide
      exact key _ _ _ _ _ _ ⟨q.Atoms.length, by have := (Zbo b.hv).2; omega⟩
  rw [List.length_eq_zero_iff.1 h.symm] at this
  cases this
end Go.Proofs.YtbapkgocloaaeaaGreat
/- part: IH -/
namespace Go.Proofs.YtbapkgocloaaeaaGreat
open Go.AM
def shOf (q : Zb) (M : Int) : List (List Int) := (Zo q.Atoms M).map fun A => Zd0 q A (M - A)
def Zcl (q : Zb) (M : Int) : Zq := ⟨M, Zo q.Atoms M, shOf q M⟩
def shapes (q : Zb) : List Zq := (Zn q.Atoms).map (Zcl q)
theorem Zbc5 {q : Zb} (hv : Zm q.Ze q.Atoms = true) {M : Int} (c1 : MQ q.Atoms M) (c2 : M ≠ 0) (c3 : conn q.Atoms M = true) : Zbs q.Ze q.Atoms M = true := by
  unfold Zbs
  rw [hv, c3, Zdy hv]
  have h1 := c1.1
  have h2 := c1.2
  simp [inR, c2, h1]
  omega
section
variable (q : Zb) (hq : LeQ q) (hv : Zm q.Ze q.Atoms = true)
include hq hv
theorem Z1k {M : Int} (hM : MQ q.Atoms M) {A : Int} (hA : A ∈ Zo q.Atoms M) : Zgb q A (w (M - A)) = some (.own 0, [.arr 3 1 true ((Zd0 q A (M - A)).map ic)]) := by
  obtain ⟨q1, q2⟩ := Zsn hM hA
  have h16 := (q2.m16 hv).1
  rw [w_id (by omega) (by omega)]
  exact Zbb7 q hq hv A (M - A) q1 q2
theorem Zbc6 (out : List Zq) (hout : out.length ≤ 1000) {i : Nat} (hi : i < (Zn q.Atoms).length) (r : AV × List Blk) (h : Zds q (out ++ [Zcl q (Zn q.Atoms)[i]]) (Zn q.Atoms) (w ((i : Int) + 1)) = some r) :
    ∀ k, k ≤ (Zo q.Atoms (Zn q.Atoms)[i]).length → Zhy q out (Zn q.Atoms) (Zn q.Atoms)[i] (Zo q.Atoms (Zn q.Atoms)[i]) ((shOf q (Zn q.Atoms)[i]).take k) i k = some r := by
  obtain ⟨c1, c2, c3, c4⟩ := Zjf hi
  have hsl := Zsh (qa := q.Atoms) (c1.m16 hv).1
  have hlen : (shOf q (Zn q.Atoms)[i]).length = (Zo q.Atoms (Zn q.Atoms)[i]).length := by simp [shOf]
  refine down _ ?_ ?_
  · refine Zy4 _ _ _ _ _ _ _ _ _ ?_
    rw [if_neg (by omega)]
    refine ⟨by omega, ?_⟩
    rw [← hlen, List.take_length]
    exact h
  · intro k hk ih
    have h4 := inc64 (i := k) (by omega)
    have hw : w ((k : Int) + 1) = ((k + 1 : Nat) : Int) := by rw [show w ((k : Int) + 1) = (k : Int) + 1 from h4]; simp
    refine Zy4 _ _ _ _ _ _ _ _ _ ?_
    rw [if_pos (by omega), hw]
    refine ⟨by omega, _, by rw [Int.toNat_natCast]; exact List.getElem?_eq_getElem hk, by omega, _, by rw [Int.toNat_natCast]; exact List.getElem?_eq_getElem hi, _, Z1k q hq hv c1 (List.getElem_mem hk), ?_, ?_⟩
    · rw [List.length_take]; omega
    · rw [List.take_succ_eq_append_getElem (by omega)] at ih
      simpa [shOf] using ih
theorem Zbc7 (out : List Zq) (hout : out.length ≤ 1000) {i : Nat} (hi : i < (Zn q.Atoms).length) (r : AV × List Blk) (h : Zds q (out ++ [Zcl q (Zn q.Atoms)[i]]) (Zn q.Atoms) (w ((i : Int) + 1)) = some r) :
    Zky q out (Zn q.Atoms) (Zn q.Atoms)[i] (Zo q.Atoms (Zn q.Atoms)[i]) i 0 = some r := by
  obtain ⟨c1, c2, c3, c4⟩ := Zjf hi
  refine Z9s _ _ _ _ _ _ _ _ ?_
  by_cases h0 : (Zo q.Atoms (Zn q.Atoms)[i]).length = 0
  · rw [if_neg (by omega)]
    refine ⟨by omega, ?_⟩
    have : Zcl q (Zn q.Atoms)[i] = ⟨(Zn q.Atoms)[i], Zo q.Atoms (Zn q.Atoms)[i], []⟩ := by
      unfold Zcl shOf
      rw [List.length_eq_zero_iff.1 h0]; rfl
    rw [← this]
    exact h
  · rw [if_pos (by omega)]
    have hk : 0 < (Zo q.Atoms (Zn q.Atoms)[i]).length := by omega
    have := Zbc6 q hq hv out hout hi r h 1 (by omega)
    refine ⟨by omega, _, List.getElem?_eq_getElem hk, by omega, _, by rw [Int.toNat_natCast]; exact List.getElem?_eq_getElem hi, _, Z1k q hq hv c1 (List.getElem_mem hk), ?_⟩
    rw [show w ((0 : Int) + 1) = ((1 : Nat) : Int) from by decide]
    have e : (shOf q (Zn q.Atoms)[i]).take 1 = [Zd0 q (Zo q.Atoms (Zn q.Atoms)[i])[0] ((Zn q.Atoms)[i] - (Zo q.Atoms (Zn q.Atoms)[i])[0])] := by
      rw [List.take_succ_eq_append_getElem (by simp [shOf]; omega)]
      simp [shOf]
    rw [e] at this
    exact this
theorem l_shapes : ∀ i, i ≤ (Zn q.Atoms).length → Zds q ((shapes q).take i) (Zn q.Atoms) i = some (.own 0, [.arr 242 3 true ((shapes q).map Zq.c)]) := by
  have hcl := Zni hv
  have hlen : (shapes q).length = (Zn q.Atoms).length := by simp [shapes]
  refine down _ ?_ ?_
  · refine Zy3 _ _ _ _ _ ?_
    rw [if_neg (by omega), ← hlen, List.take_length]
  · intro i hi ih
    have h4 := inc64 (i := i) (by omega)
    have hw : w ((i : Int) + 1) = ((i + 1 : Nat) : Int) := by rw [show w ((i : Int) + 1) = (i : Int) + 1 from h4]; simp
    obtain ⟨c1, c2, c3, c4⟩ := Zjf hi
    refine Zy3 _ _ _ _ _ ?_
    rw [if_pos (by omega)]
    refine ⟨by omega, _, by rw [Int.toNat_natCast]; exact List.getElem?_eq_getElem hi, _, Zbbm q hq _ (Zbc5 hv c1 c2 c3), ?_⟩
    refine Zbc7 q hq hv _ (by rw [List.length_take]; omega) hi _ ?_
    rw [hw]
    rw [List.take_succ_eq_append_getElem (by omega)] at ih
    simpa [shapes] using ih
theorem Zbc8 : Zkx q = some (.own 0, [.arr 242 3 true ((shapes q).map Zq.c)]) :=
  Z9t _ _ ⟨_, Zbbj q hq hv, by simpa using l_shapes q hq hv 0 (Nat.zero_le _)⟩
end
theorem f_one : ∀ a : Fin 16, 1 ≤ a.1 → (andI (a.1 : Int) (w ((a.1 : Int) - 1)) = 0 ↔ oneB (ofI (a.1 : Int)) = true) := by decide
theorem Z1l {α β : Type} (f : α → β) : ∀ l : List α, l.zip (l.map f) = l.map fun a => (a, f a)
  | [] => rfl
  | a :: l => by simp [Z1l f l]
theorem s_table {m : Zd} {q : Zb} {sizes : List Int} (b : Base m q sizes) : ∀ i, i ≤ (Zn q.Atoms).length → ∀ fr : Bool, ∃ fr', Zgh (shapes q) sizes m q fr (Zw m sizes q i) i = some (.own 2, [.arr 242 3 true ((shapes q).map Zq.c), .arr 3 1 true (sizes.map ic), .arr 174 4 fr' ((Zw m sizes q (Zn q.Atoms).length).map Za.c)]) := by
  have hcl := Zni b.hv
  have hlen : (shapes q).length = (Zn q.Atoms).length := by simp [shapes]
  refine down _ ?_ ?_
  · intro fr
    refine ⟨fr, Zrw _ _ _ _ _ _ _ _ ?_⟩
    rw [if_neg (by omega)]
  · intro i hi ih fr
    have h4 := inc64 (i := i) (by omega)
    have hw : w ((i : Int) + 1) = ((i + 1 : Nat) : Int) := by rw [show w ((i : Int) + 1) = (i : Int) + 1 from h4]; simp
    obtain ⟨c1, c2, c3, c4⟩ := Zjf hi
    have hinv := Zjg b i (by omega)
    have hheld := Zsp b hinv c1 c2 c3 c4
    have hnext : Zw m sizes q (i + 1) = Zw m sizes q i ++ entM m sizes q (Zw m sizes q i) (Zn q.Atoms)[i] := by
      rw [Zw]
      congr 2
      simp [List.getD, hi]
    have hol := Zlv b (i := i) (by omega)
    have h16 := (c1.m16 b.hv).1
    have hget : (shapes q)[i]? = some (Zcl q (Zn q.Atoms)[i]) := by
      unfold shapes
      rw [List.getElem?_map, List.getElem?_eq_getElem hi]; rfl
    rw [hnext] at ih
    generalize (Zn q.Atoms)[i] = M at *
    have hz := Zbb b.hsv c1
    have h1 : (andI M (w (M - 1)) = 0 ↔ oneB (ofI M) = true) := by
      have q1 := c1.1
      obtain ⟨a, rfl⟩ := m16 h16
      exact f_one a (by omega)
    have hle := hheld.le
    cases ho : oneB (ofI M) with
    | true =>
      obtain ⟨j, hj4, ha, hMj⟩ := Zsi h16 ho
      have hent := Zsk (m := m) (sizes := sizes) (q := q) (out := Zw m sizes q i) ha
      have hjl : j < q.Atoms.length := by
        have h2 := c1.2
        have e : shlI 1 (j : Nat) = 2 ^ j := by
          have : j = 0 ∨ j = 1 ∨ j = 2 ∨ j = 3 := by omega
          rcases this with rfl | rfl | rfl | rfl <;> decide
        rw [hMj, e] at h2
        have h3 : (2 : Int) ^ j < 2 ^ q.Atoms.length := h2
        rw [← Zdz, ← Zdz] at h3
        exact (Nat.pow_lt_pow_iff_right (by omega)).1 (by omega : 2 ^ j < 2 ^ q.Atoms.length)
      have hvar := Zih b.hv _ (List.getElem_mem hjl)
      obtain ⟨v, vs, hvs⟩ : ∃ v vs, q.Atoms[j].Vars = v :: vs := by
        cases hh : q.Atoms[j].Vars with
        | nil => rw [hh] at hvar; simp at hvar
        | cons v vs => exact ⟨v, vs, rfl⟩
      have hse : Zgt m sizes q M (j : Int) = ⟨M, v, Z3 m.Scan (szAt sizes M) 0 (szAt sizes M), ⟨[⟨1, j, 0⟩]⟩⟩ := by
        simp [Zgt, List.getElem?_eq_getElem hjl, hvs]
      rw [hent, hse] at ih
      obtain ⟨fr', hr⟩ := ih fr
      refine ⟨fr', Zrw _ _ _ _ _ _ _ _ ?_⟩
      rw [if_pos (by omega)]
      refine ⟨by omega, _, by rw [Int.toNat_natCast]; exact hget, ?_⟩
      have h1' : andI (Zcl q M).mask (w ((Zcl q M).mask - 1)) = 0 := h1.2 ho
      rw [if_pos h1', hw]
      refine ⟨_, Zbbq h16, (j : Int), by rw [show Zcc (Zcl q M).mask = [(j : Int)] from ha]; rfl, by omega, q.Atoms[j], by rw [Int.toNat_natCast]; exact List.getElem?_eq_getElem hjl, v, by rw [hvs]; rfl, hz.1, _, hz.2, _, Zdw _ b.hm.1 _ _ _, _, Zbb9 _, by omega, ?_⟩
      exact hr
    | false =>
      have hne := Zsj h16 ho
      have ok := Zso b hinv c1 c3 c4
      have hzip : (Zcl q M).Zo.zip (Zcl q M).shared = Zbx q M := Z1l _ _
      have hsl := Zsh (qa := q.Atoms) h16
      obtain ⟨f1, hJ⟩ := Zbct m b.hm b.hg sizes b.hcl q.Atoms fr (Zw m sizes q i) (by omega) (Zcl q M) hz h16 (by show 0 < M; have := c1.1; omega) (by simp [Zcl, shOf]) (by show (Zo q.Atoms M).length ≤ 100; omega) (by rw [hzip]; exact ok)
      rw [hzip] at hJ
      have hent := Zsl (m := m) (sizes := sizes) (q := q) (out := Zw m sizes q i) hne
      rw [hent] at ih hle
      obtain ⟨fr', hr⟩ := ih (fr && flat (((Zje m sizes M (Zw m sizes q i) (Zbx q M)).filter sm).map Za.c))
      refine ⟨fr', Zrw _ _ _ _ _ _ _ _ ?_⟩
      rw [if_pos (by omega)]
      refine ⟨by omega, _, by rw [Int.toNat_natCast]; exact hget, ?_⟩
      have h1' : ¬ andI (Zcl q M).mask (w ((Zcl q M).mask - 1)) = 0 := fun h => by have := h1.1 h; rw [ho] at this; cases this
      rw [if_neg h1', hw]
      exact ⟨_, _, hJ, by show (Zw m sizes q i).length + ((Zje m sizes M (Zw m sizes q i) (Zbx q M)).filter sm).length ≤ 68719476736; omega, hr⟩
theorem Zbc9 {m : Zd} {q : Zb} {sizes : List Int} (b : Base m q sizes) : ∃ fr', Zk8 (shapes q) sizes m q = some (.own 2, [.arr 242 3 true ((shapes q).map Zq.c), .arr 3 1 true (sizes.map ic), .arr 174 4 fr' ((Zw m sizes q (Zn q.Atoms).length).map Za.c)]) := by
  obtain ⟨fr', h⟩ := s_table b 0 (Nat.zero_le _) true
  exact ⟨fr', Z95 _ _ _ _ _ h⟩
end Go.Proofs.YtbapkgocloaaeaaGreat
/- part: IJ -/
namespace Go.Proofs.YtbapkgocloaaeaaGreat
open Go.AM
theorem Zbda (a b c : Int) (fr : Bool) (l : List Za) (hl : l.length ≤ 1000) : ∀ i, i ≤ l.length → ∀ best, Zfu a b c best fr l l.length i = some (.agg (((l.drop i).foldl Zb2 best).c.map .t), [.arr 174 4 fr (l.map Za.c)]) := by
  refine down _ ?_ ?_
  · intro best
    refine Zyf _ _ _ _ _ _ _ _ _ ?_
    rw [if_neg (by omega)]; simp
  · intro i hi ih best
    have h4 := inc64 (i := i) (by omega)
    refine Zyf _ _ _ _ _ _ _ _ _ ?_
    rw [if_pos (by omega), List.drop_eq_getElem_cons hi, List.foldl_cons]
    refine ⟨by omega, l[i], by rw [Int.toNat_natCast]; exact List.getElem?_eq_getElem hi, ?_⟩
    rw [show w ((i : Int) + 1) = ((i + 1 : Nat) : Int) from by rw [show w ((i : Int) + 1) = (i : Int) + 1 from h4]; simp]
    by_cases e : l[i].Cost < best.Cost
    · rw [if_pos e, show Zb2 best l[i] = l[i] by simp [Zb2, e]]; exact ih _
    · rw [if_neg e, show Zb2 best l[i] = best by simp [Zb2, e]]; exact ih _
theorem Zbdb (fr : Bool) (l : List Za) (h0 : l ≠ []) (hl : l.length ≤ 1000) : Zka fr l = some (.agg ((Zt l).c.map .t), [.arr 174 4 fr (l.map Za.c)]) := by
  cases l with
  | nil => exact absurd rfl h0
  | cons e l =>
    refine Z8p _ _ _ ⟨e, rfl, ?_⟩
    have := Zbda 0 0 0 fr (e :: l) hl 0 (Nat.zero_le _) e
    simpa [Zt] using this
theorem l_best (l : List Za) (mask : Int) (hl : l.length ≤ 1000) (hne : ofM l mask ≠ []) (hs : ∀ e ∈ l, e.Plan.Steps.length ≤ 1000) : ∀ i, i ≤ l.length → ∀ fr, Zfv 0 0 0 fr (ofM (l.take i) mask) mask l l.length i = some (.tup [.agg [I (Zt (ofM l mask)).Mask, I (Zt (ofM l mask)).Order, I (Zt (ofM l mask)).Cost, .own 0], Bo true], [.arr 142 3 true ((Zt (ofM l mask)).Plan.Steps.map Zc.c)]) := by
  refine down _ ?_ ?_
  · intro fr
    refine Zyg _ _ _ _ _ _ _ _ _ _ ?_
    rw [if_neg (by omega), List.take_length]
    have h1 : (ofM l mask).length ≠ 0 := fun h => hne (List.length_eq_zero_iff.1 h)
    have h2 : (ofM l mask).length ≤ l.length := List.length_filter_le _ _
    rw [if_neg (by omega)]
    have hmem := Zr8 hne
    exact ⟨_, Zbdb fr _ hne (by omega), _, Znb _ (hs _ (List.mem_filter.1 hmem).1), rfl⟩
  · intro i hi ih fr
    have h4 := inc64 (i := i) (by omega)
    have hw : w ((i : Int) + 1) = ((i + 1 : Nat) : Int) := by rw [show w ((i : Int) + 1) = (i : Int) + 1 from h4]; simp
    rw [Z0y l mask hi] at ih
    have h2 : (ofM (l.take i) mask).length ≤ (l.take i).length := List.length_filter_le _ _
    rw [List.length_take] at h2
    refine Zyg _ _ _ _ _ _ _ _ _ _ ?_
    rw [if_pos (by omega), hw]
    refine ⟨by omega, l[i], by rw [Int.toNat_natCast]; exact List.getElem?_eq_getElem hi, ?_⟩
    by_cases e : l[i].Mask = mask
    · rw [if_pos e]
      rw [if_pos e] at ih
      exact ⟨by omega, ih false⟩
    · rw [if_neg e]
      rw [if_neg e, List.append_nil] at ih
      exact ih fr
theorem Zbdc (l : List Za) (mask : Int) (hl : l.length ≤ 1000) (hne : ofM l mask ≠ []) (hs : ∀ e ∈ l, e.Plan.Steps.length ≤ 1000) : Zir l mask = some (.tup [.agg [I (Zt (ofM l mask)).Mask, I (Zt (ofM l mask)).Order, I (Zt (ofM l mask)).Cost, .own 0], Bo true], [.arr 142 3 true ((Zt (ofM l mask)).Plan.Steps.map Zc.c)]) :=
  Z8q _ _ _ (by simpa [ofM] using l_best l mask hl hne hs 0 (Nat.zero_le _) true)
theorem Zbdd (l : List Za) (mask : Int) (hl : l.length ≤ 1000) (hne : ofM l mask ≠ []) (hs : ∀ e ∈ l, e.Plan.Steps.length ≤ 1000) : Zix l mask = some (.tup [.agg [I (Zt (ofM l mask)).Mask, I (Zt (ofM l mask)).Order, I (Zt (ofM l mask)).Cost, .own 0], Bo true], [.arr 142 3 true ((Zt (ofM l mask)).Plan.Steps.map Zc.c)]) := by
  obtain ⟨k1, k2⟩ := Znf hne
  have hmem := Zr8 hne
  have := hs _ (List.mem_filter.1 hmem).1
  refine Z96 _ _ _ ⟨_, x_low l mask hl, ?_⟩
  rw [if_neg (by omega)]
  exact ⟨k1, _, k2, by omega, rfl⟩
def tab (m : Zd) (q : Zb) (sizes : List Int) : List Za := Zw m sizes q (Zn q.Atoms).length
def opt (m : Zd) (q : Zb) (sizes : List Int) : Za := Zt (ofM (tab m q sizes) (Zr q.Ze q.Atoms))
theorem full_MQ {q : Zb} (hv : Zm q.Ze q.Atoms = true) : MQ q.Atoms (Zr q.Ze q.Atoms) := by
  have := Zdy hv
  have := Zn0 hv
  exact ⟨by omega, by omega⟩
theorem Z1m {m : Zd} {q : Zb} {sizes : List Int} (b : Base m q sizes) (hc : Zbs q.Ze q.Atoms (Zr q.Ze q.Atoms) = true) : Held m sizes q.Atoms (Zr q.Ze q.Atoms) (ofM (tab m q sizes) (Zr q.Ze q.Atoms)) := by
  refine (Zjg b _ (Nat.le_refl _)).held _ ?_
  rw [List.take_length]
  have hp := Zn0 b.hv
  have hq := full_MQ b.hv
  unfold Zbs at hc
  simp only [Bool.and_eq_true] at hc
  exact Zie.2 ⟨by omega, hq.2, hc.2⟩
theorem Zbde {m : Zd} {q : Zb} {sizes : List Int} (b : Base m q sizes) (ha : Zcq m) (hc : Zbs q.Ze q.Atoms (Zr q.Ze q.Atoms) = true) : Zis m q sizes = some (.tup [.agg [I (opt m q sizes).Mask, I (opt m q sizes).Order, I (opt m q sizes).Cost, .own 0], Bo true], [.arr 142 3 true ((opt m q sizes).Plan.Steps.map Zc.c)]) := by
  have hl := Zlv b (Nat.le_refl (Zn q.Atoms).length)
  refine Z8r _ _ _ _ (.inr ⟨_, _, Zbc4 b ha, _, Zgn q b.hq, .inr ⟨_, _, _, _, Zbdc _ _ (by omega) (Z1m b hc).ne (Zsr b (Nat.le_refl _)), rfl⟩⟩)
theorem Zbdf {m : Zd} {q : Zb} {sizes : List Int} (b : Base m q sizes) (ha : Zcq m) (hc : Zbs q.Ze q.Atoms (Zr q.Ze q.Atoms) = true) : Zkb m q sizes = some (I (opt m q sizes).Cost, []) :=
  Z8s _ _ _ _ (.inr ⟨_, _, _, _, Zbde b ha hc, rfl⟩)
theorem Zbdg {m : Zd} {q : Zb} {l : List Int} (hl : l.length ≤ 4294967296) (h : Zz l = true) (b : Base m q (Zbg l)) (ha : Zcq m) (hc : Zbs q.Ze q.Atoms (Zr q.Ze q.Atoms) = true) : Zkc m q l = some (I (opt m q (Zbg l)).Cost, []) := by
  have hb := Z0h l hl
  rw [h, if_pos rfl] at hb
  exact Z8t _ _ _ _ (.inl ⟨_, hb, _, Zbdf b ha hc, rfl⟩)
/-! ### regions -/
def LeR (r : Region) : Prop := Le r.Box.Low ∧ Le r.Box.High
theorem x_boxOk (q : Zb) (hq : LeQ q) (bx : Box) (hb : LeX bx) : Zjr q bx = some (Bo (Zig q.Ze q.Atoms bx.Low bx.High), []) := by
  have q5 := Zl3 q.Ze q.Atoms
  refine Z7n _ _ _ ⟨_, Zrx bx hb, ?_⟩
  unfold Zig
  rcases tf (Z4 bx.Low bx.High) with e | e
  · rw [e]; simp
  · rw [e, if_pos rfl]
    refine ⟨_, Zgn q hq, ?_⟩
    rw [show w (Zr q.Ze q.Atoms + 1) = Zr q.Ze q.Atoms + 1 from q5]
    simp
theorem Zbdh (q : Zb) (hq : LeQ q) (r : Region) (hr : LeR r) : Zjt q r = some (Bo (Zff q.Ze q.Atoms r.Plan.Steps r.Box.Low r.Box.High r.Percent), []) := by
  refine Z7s _ _ _ ⟨_, Zli q hq, ?_⟩
  unfold Zff
  rcases tf (Zm q.Ze q.Atoms) with e | e
  · rw [e]; simp
  rw [e, if_pos rfl]
  refine ⟨_, x_boxOk q hq r.Box hr, ?_⟩
  rcases tf (Zig q.Ze q.Atoms r.Box.Low r.Box.High) with e2 | e2
  · rw [e2]; simp
  rw [e2, if_pos rfl]
  refine ⟨_, Zbay q r.Plan hq, _, Zgn q hq, ?_⟩
  by_cases e3 : Zfe q.Ze q.Atoms r.Plan.Steps = Zr q.Ze q.Atoms
  · rw [if_pos e3]
    exact ⟨_, Zcw _ _ _, by simp [e3]⟩
  · rw [if_neg e3]; simp [e3]
theorem Zbdi (q : Zb) (hq : LeQ q) (r : Region) (hr : LeR r) : Zkp q r = some (Bo (Zff q.Ze q.Atoms r.Plan.Steps r.Box.Low r.Box.High r.Percent), []) := by
  have q5 := Zl3 q.Ze q.Atoms
  refine Z9m _ _ _ ⟨_, Zry r.Box hr, ?_⟩
  unfold Zff Zig
  rcases tf (Z4 r.Box.Low r.Box.High) with e | e
  · rw [e]; simp
  rw [e, if_pos rfl]
  refine ⟨_, Zmy q hq, ?_⟩
  rw [show w (Zr q.Ze q.Atoms + 1) = Zr q.Ze q.Atoms + 1 from q5]
  by_cases e4 : (r.Box.Low.length : Int) = Zr q.Ze q.Atoms + 1
  · rw [if_pos e4]
    refine ⟨_, Zbaz q r.Plan hq, ?_⟩
    by_cases e3 : Zfe q.Ze q.Atoms r.Plan.Steps = Zr q.Ze q.Atoms
    · rw [if_pos e3]
      rcases tf (Zm q.Ze q.Atoms) with e1 | e1
      · have e5 : Zr q.Ze q.Atoms = 0 := by unfold Zr; rw [e1]; rfl
        rw [if_neg (by omega)]; simp [e1]
      · have e5 := Zn0 e1
        rw [if_pos e5]
        exact ⟨_, Zgm _ _ _, by simp [e1, e3, e4]⟩
    · rw [if_neg e3]; simp [e3]
  · rw [if_neg e4]; simp [e4]
def Zb6 (m : Zd) (q : Zb) (r : Region) : Prop := Zff q.Ze q.Atoms r.Plan.Steps r.Box.Low r.Box.High r.Percent = true ∧ Zbs q.Ze q.Atoms (Zr q.Ze q.Atoms) = true ∧ Zcq m
theorem Z1n {l : List Int} (h : Zz l = true) : l.length ≤ 16 := by
  simp only [Zz, Bool.and_eq_true, decide_eq_true_eq] at h
  omega
theorem class_le {a : Int} (h : 0 ≤ a ∧ a ≤ 7) : inR (Zbi a) 0 4096 = true := by
  have : a = 0 ∨ a = 1 ∨ a = 2 ∨ a = 3 ∨ a = 4 ∨ a = 5 ∨ a = 6 ∨ a = 7 := by omega
  rcases this with rfl | rfl | rfl | rfl | rfl | rfl | rfl | rfl <;> decide
theorem base_of {m : Zd} (hm : LeM m) (ha : Zcq m) {q : Zb} (hq : LeQ q) (hv : Zm q.Ze q.Atoms = true) {l : List Int} (h : Zz l = true) (hl : (l.length : Int) = Zr q.Ze q.Atoms + 1) : Base m q (Zbg l) := by
  have hll : (l.length : Int) ≤ 16 := by simp only [Zz, Bool.and_eq_true, decide_eq_true_eq] at h; exact h.2
  have hc := Zbcj h
  refine ⟨hm, ha.2.1, hq, hv, by simp [Zbg]; omega, hc, ?_⟩
  unfold Zbl Zgp
  rw [hv]
  have : (Zbg l).all (fun x => inR x 0 4096) = true := by
    rw [List.all_eq_true]
    intro s hs
    obtain ⟨a, h1, rfl⟩ := hc s hs
    exact class_le h1
  rw [this]
  simp [Zbg, hl]
theorem Zlw {m : Zd} {q : Zb} {r : Region} (h : Zb6 m q r) : Zm q.Ze q.Atoms = true ∧ Zz r.Box.Low = true ∧ Zz r.Box.High = true ∧ (r.Box.Low.length : Int) = Zr q.Ze q.Atoms + 1 ∧ Z4 r.Box.Low r.Box.High = true ∧ inR r.Percent 100 1000 = true ∧ Zfe q.Ze q.Atoms r.Plan.Steps = Zr q.Ze q.Atoms := by
  have h1 := h.1
  unfold Zff Zig at h1
  simp only [Bool.and_eq_true, decide_eq_true_eq] at h1
  have h2 := h1.1.1.2.1
  unfold Z4 at h2
  simp only [Bool.and_eq_true, decide_eq_true_eq] at h2
  exact ⟨h1.1.1.1, h2.1.1.2, h2.1.2, h1.1.1.2.2, h1.1.1.2.1, h1.2, h1.1.2⟩
theorem Z1o {m : Zd} {q : Zb} {r : Region} (hm : LeM m) (hq : LeQ q) (hr : LeR r) : Zij m q r = some (Bo (@decide (Zb6 m q r) (Classical.propDecidable _)), []) := by
  refine Z75 _ _ _ _ ⟨_, Zbdh q hq r hr, ?_⟩
  rcases tf (Zff q.Ze q.Atoms r.Plan.Steps r.Box.Low r.Box.High r.Percent) with e | e
  · rw [if_neg (by rw [e]; simp)]
    have : ¬ Zb6 m q r := fun h => by rw [h.1] at e; cases e
    simp [this]
  rw [if_pos e]
  refine ⟨_, Zgn q hq, _, Zz5 q hq _, ?_⟩
  rcases tf (Zbs q.Ze q.Atoms (Zr q.Ze q.Atoms)) with e2 | e2
  · rw [if_neg (by rw [e2]; simp)]
    have : ¬ Zb6 m q r := fun h => by rw [h.2.1] at e2; cases e2
    simp [this]
  rw [if_pos e2]
  refine ⟨_, Zzy m hm, ?_⟩
  by_cases ha : Zcq m
  · have : Zb6 m q r := ⟨e, e2, ha⟩
    simp [this, ha]
  · have : ¬ Zb6 m q r := fun h => ha h.2.2
    simp [this, ha]
end Go.Proofs.YtbapkgocloaaeaaGreat
/- part: IK -/
namespace Go.Proofs.YtbapkgocloaaeaaGreat
open Go.AM
end Go.Proofs.YtbapkgocloaaeaaGreat
/- part: IL -/
namespace Go.Proofs.YtbapkgocloaaeaaGreat
open Go.AM
def dimD (lo hi : List Int) (k : Nat) : Int := hi.getD k 0 - lo.getD k 0 + 1
def locK (lo hi : List Int) : Nat → Int → List Int → List Int
  | 0, _, out => out
  | k + 1, idx, out => locK lo hi k (idx / dimD lo hi k) (out.set k (lo.getD k 0 + idx % dimD lo hi k))
def volK (lo hi : List Int) : Nat → Int
  | 0 => 1
  | k + 1 => volK lo hi k * dimD lo hi k
def locB (b : Box) (idx : Int) : List Int := locK b.Low b.High b.Low.length idx b.Low
theorem Znj {lo hi : List Int} (h : Z4 lo hi = true) {k : Nat} (hk : k < lo.length) : 1 ≤ dimD lo hi k ∧ dimD lo hi k ≤ 8 ∧ lo.getD k 0 = lo[k] ∧ 0 ≤ lo.getD k 0 ∧ lo.getD k 0 + dimD lo hi k ≤ 8 := by
  obtain ⟨b1, b2, b3, b4⟩ := Zdg h
  have h2 : k < hi.length := by omega
  have := b4 k hk h2
  have e1 : lo.getD k 0 = lo[k] := by simp [List.getD, hk]
  have e2 : hi.getD k 0 = hi[k] := by simp [List.getD, h2]
  unfold dimD
  rw [e1, e2]
  refine ⟨?_, ?_, rfl, ?_, ?_⟩ <;> omega
theorem Z1p {lo hi : List Int} (h : Z4 lo hi = true) : ∀ k, k ≤ lo.length → volK lo hi k * vol (lo.drop k) (hi.drop k) = vol lo hi
  | 0, _ => by simp [volK]
  | k + 1, hk => by
    obtain ⟨b1, b2, b3, b4⟩ := Zdg h
    have ih := Z1p h k (by omega)
    have h2 : k < hi.length := by omega
    rw [Zn2 (by omega) h2] at ih
    rw [volK, ← ih, Int.mul_assoc]
    unfold dimD
    rw [show lo.getD k 0 = lo[k] by simp [List.getD, show k < lo.length by omega], show hi.getD k 0 = hi[k] by simp [List.getD, h2]]
theorem Z1q {lo hi : List Int} (h : Z4 lo hi = true) : volK lo hi lo.length = vol lo hi := by
  obtain ⟨b1, _⟩ := Zdg h
  have := Z1p h lo.length (Nat.le_refl _)
  rw [List.drop_length, ← b1, List.drop_length, Zn1, Int.mul_one] at this
  rw [← this, b1]
theorem Zss {lo hi : List Int} (h : Z4 lo hi = true) : ∀ k, k ≤ lo.length → 1 ≤ volK lo hi k ∧ volK lo hi k ≤ 8 ^ k
  | 0, _ => by simp [volK]
  | k + 1, hk => by
    obtain ⟨i1, i2⟩ := Zss h k (by omega)
    obtain ⟨d1, d2, _⟩ := Znj h (k := k) (by omega)
    rw [volK]
    constructor
    · have := Int.mul_le_mul i1 d1 (by omega) (by omega); omega
    · have := Int.mul_le_mul i2 d2 (by omega) (Int.pow_nonneg (by omega))
      rw [Int.pow_succ]; exact this
theorem Z1r {lo hi : List Int} : ∀ (k : Nat) (idx : Int) (out : List Int), (locK lo hi k idx out).length = out.length
  | 0, _, _ => rfl
  | k + 1, idx, out => by rw [locK, Z1r k]; simp
theorem Z1s {lo hi : List Int} (h : Z4 lo hi = true) : ∀ k, k ≤ lo.length → ∀ (idx : Int) (out : List Int), 0 ≤ idx → (∀ x ∈ out, 0 ≤ x ∧ x ≤ 7) → ∀ x ∈ locK lo hi k idx out, 0 ≤ x ∧ x ≤ 7
  | 0, _, idx, out, _, ho => ho
  | k + 1, hk, idx, out, h0, ho => by
    obtain ⟨d1, d2, _, d3, d4⟩ := Znj h (k := k) (by omega)
    rw [locK]
    refine Z1s h k (by omega) _ _ (Int.ediv_nonneg h0 (by omega)) ?_
    intro x hx
    rcases List.mem_or_eq_of_mem_set hx with hx | hx
    · exact ho x hx
    · have m1 := Int.emod_nonneg idx (show dimD lo hi k ≠ 0 by omega)
      have m2 := Int.emod_lt_of_pos idx (show 0 < dimD lo hi k by omega)
      omega
theorem loc_B {b : Box} (h : Z4 b.Low b.High = true) {idx : Int} (h0 : 0 ≤ idx) : Zz (locB b idx) = true ∧ (locB b idx).length = b.Low.length := by
  obtain ⟨b1, b2, b3, b4⟩ := Zdg h
  have hlen : (locB b idx).length = b.Low.length := Z1r _ _ _
  refine ⟨?_, hlen⟩
  have hin := Z1s h b.Low.length (Nat.le_refl _) idx b.Low h0 (fun x hx => by
    obtain ⟨i, hi, rfl⟩ := List.mem_iff_getElem.1 hx
    have := b4 i hi (by omega)
    omega)
  unfold Zz Zd3
  rw [Bool.and_eq_true, List.all_eq_true]
  refine ⟨fun x hx => ?_, by simp; omega⟩
  have := hin x hx
  simp [inR]; omega
theorem Zc0 {x : Int} (h1 : -1000000000000000 ≤ x) (h2 : x ≤ 1000000000000000) : w x = x := w_id (by omega) (by omega)
theorem Z1t (b : Box) (h : Z4 b.Low b.High = true) : ∀ k, k ≤ b.Low.length → ∀ (idx : Int) (out : List Int), 0 ≤ idx → idx < 281474976710656 → out.length = b.Low.length → (∀ j, j < k → out[j]? = b.Low[j]?) → Zh6 b out idx ((k : Int) - 1) = some (.tup [.own 0, Bo true], [.arr 3 1 true ((locK b.Low b.High k idx out).map ic)])
  | 0, _, idx, out, _, _, _, _ => by
    refine Zzh _ _ _ _ _ ?_
    rw [if_neg (by omega)]; rfl
  | k + 1, hk, idx, out, h0, h1, hl, ho => by
    obtain ⟨b1, b2, b3, b4⟩ := Zdg h
    have hlt : k < b.Low.length := by omega
    have hlt2 : k < b.High.length := by omega
    obtain ⟨d1, d2, e1, d3, d4⟩ := Znj h hlt
    have hd : dimD b.Low b.High k = b.High[k] - b.Low[k] + 1 := by
      unfold dimD
      rw [e1, show b.High.getD k 0 = b.High[k] by simp [List.getD, hlt2]]
    have hk1 : (((k + 1 : Nat) : Int) - 1) = (k : Int) := by omega
    have m1 := Int.emod_nonneg idx (show dimD b.Low b.High k ≠ 0 by omega)
    have m2 := Int.emod_lt_of_pos idx (show 0 < dimD b.Low b.High k by omega)
    have q1 := Int.ediv_nonneg h0 (show 0 ≤ dimD b.Low b.High k by omega)
    have q2 : idx / dimD b.Low b.High k ≤ idx := Int.ediv_le_self _ h0
    have g3 := b4 k hlt hlt2
    have w1 : w (w (b.High[k] - b.Low[k]) + 1) = dimD b.Low b.High k := by rw [Zc0 (x := b.High[k] - b.Low[k]) (by omega) (by omega), Zc0 (by omega) (by omega), hd]
    refine Zzh _ _ _ _ _ ?_
    rw [hk1, if_pos (by omega)]
    refine ⟨b.High[k], by rw [Int.toNat_natCast]; exact List.getElem?_eq_getElem hlt2, b.Low[k], by rw [Int.toNat_natCast]; exact List.getElem?_eq_getElem hlt, b.Low[k], by rw [Int.toNat_natCast, ho k (by omega)]; exact List.getElem?_eq_getElem hlt, by rw [w1]; omega, ?_⟩
    rw [w1, Int.toNat_natCast, Int.tmod_eq_emod_of_nonneg h0, Int.tdiv_eq_ediv_of_nonneg h0, Zc0 (x := b.Low[k] + idx % dimD b.Low b.High k) (by omega) (by omega), Zc0 (x := idx / dimD b.Low b.High k) (by omega) (by omega), Zc0 (x := (k : Int) - 1) (by omega) (by omega), ← e1]
    have ih := Z1t b h k (by omega) (idx / dimD b.Low b.High k) (out.set k (b.Low.getD k 0 + idx % dimD b.Low b.High k)) q1 (by omega) (by simp [hl]) (fun j hj => by rw [List.getElem?_set_ne (by omega)]; exact ho j (by omega))
    rw [locK]
    exact ih
theorem Z1u (b : Box) (h : Z4 b.Low b.High = true) : ∀ k, k ≤ b.Low.length → ∀ (idx : Int) (out : List Int), 0 ≤ idx → idx < volK b.Low b.High k → out.length = b.Low.length → Zh9 b out idx ((k : Int) - 1) = some (.tup [.own 0, Bo true], [.arr 3 1 true ((locK b.Low b.High k idx out).map ic)])
  | 0, _, idx, out, h0, h1, _ => by
    refine Zzn _ _ _ _ _ ?_
    rw [volK] at h1
    rw [if_neg (by omega), if_neg (by omega)]; rfl
  | k + 1, hk, idx, out, h0, h1, hl => by
    obtain ⟨b1, b2, b3, b4⟩ := Zdg h
    have hlt : k < b.Low.length := by omega
    have hlt2 : k < b.High.length := by omega
    obtain ⟨d1, d2, e1, d3, d4⟩ := Znj h hlt
    have hd : dimD b.Low b.High k = b.High[k] - b.Low[k] + 1 := by
      unfold dimD
      rw [e1, show b.High.getD k 0 = b.High[k] by simp [List.getD, hlt2]]
    have hk1 : (((k + 1 : Nat) : Int) - 1) = (k : Int) := by omega
    have m1 := Int.emod_nonneg idx (show dimD b.Low b.High k ≠ 0 by omega)
    have m2 := Int.emod_lt_of_pos idx (show 0 < dimD b.Low b.High k by omega)
    have q1 := Int.ediv_nonneg h0 (show 0 ≤ dimD b.Low b.High k by omega)
    have q2 : idx / dimD b.Low b.High k ≤ idx := Int.ediv_le_self _ h0
    have hv := Zss h (k + 1) hk
    have hp := pow8 (show k + 1 ≤ 16 by omega)
    have g3 := b4 k hlt hlt2
    have w1 : w (w (b.High[k] - b.Low[k]) + 1) = dimD b.Low b.High k := by rw [Zc0 (x := b.High[k] - b.Low[k]) (by omega) (by omega), Zc0 (by omega) (by omega), hd]
    refine Zzn _ _ _ _ _ ?_
    rw [hk1, if_pos (by omega)]
    refine ⟨b.High[k], by rw [Int.toNat_natCast]; exact List.getElem?_eq_getElem hlt2, b.Low[k], by rw [Int.toNat_natCast]; exact List.getElem?_eq_getElem hlt, by rw [w1]; omega, out[k], by rw [Int.toNat_natCast]; exact List.getElem?_eq_getElem (by omega), ?_⟩
    rw [w1, Int.toNat_natCast, Int.tmod_eq_emod_of_nonneg h0, Int.tdiv_eq_ediv_of_nonneg h0, Zc0 (x := b.Low[k] + idx % dimD b.Low b.High k) (by omega) (by omega), Zc0 (x := idx / dimD b.Low b.High k) (by omega) (by omega), Zc0 (x := (k : Int) - 1) (by omega) (by omega), ← e1]
    rw [volK] at h1
    have ih := Z1u b h k (by omega) (idx / dimD b.Low b.High k) (out.set k (b.Low.getD k 0 + idx % dimD b.Low b.High k)) q1 (Int.ediv_lt_of_lt_mul (by omega) h1) (by simp [hl])
    rw [locK]
    exact ih
theorem Znk {lo hi : List Int} (h : Z4 lo hi = true) : 1 ≤ vol lo hi ∧ vol lo hi ≤ 281474976710656 := by
  obtain ⟨b1, b2, b3, b4⟩ := Zdg h
  have h1 := Zss h lo.length (Nat.le_refl _)
  have h2 := pow8 b3
  rw [Z1q h] at h1
  exact ⟨h1.1, by omega⟩
theorem x_volume (b : Box) (e : Z4 b.Low b.High = true) : Zgi b = some (I (vol b.Low b.High), []) := by
  have q2 := Zzq b e 0 (Nat.zero_le _) 1 (by omega) (by decide)
  exact Zzg _ _ (by simpa using q2)
theorem Zbdj (b : Box) (hb : LeX b) (e : Z4 b.Low b.High = true) {idx : Int} (h0 : 0 ≤ idx) (h1 : idx < vol b.Low b.High) : Ziz b idx = some (.tup [.own 0, Bo true], [.arr 3 1 true ((locB b idx).map ic)]) := by
  obtain ⟨b1, b2, b3, b4⟩ := Zdg e
  obtain ⟨v1, v2⟩ := Znk e
  refine Zbad _ _ _ ⟨_, Zrx b hb, ?_⟩
  rw [e, if_pos rfl]
  refine ⟨_, x_volume b e, _, Zcw _ _ _, ?_⟩
  rw [Zc0 (by omega) (by omega), if_pos (by simp [inR]; omega)]
  refine ⟨_, Zxt _ _ ⟨by omega, rfl⟩, ?_⟩
  rw [Zc0 (by omega) (by omega)]
  exact Z1t b e b.Low.length (Nat.le_refl _) idx b.Low h0 (by omega) rfl (fun _ _ => rfl)
theorem Zbdk (b : Box) (hb : LeX b) (e : Z4 b.Low b.High = true) {idx : Int} (h0 : 0 ≤ idx) (h1 : idx < vol b.Low b.High) : Zlf b idx = some (.tup [.own 0, Bo true], [.arr 3 1 true ((locB b idx).map ic)]) := by
  obtain ⟨b1, b2, b3, b4⟩ := Zdg e
  obtain ⟨v1, v2⟩ := Znk e
  refine Zbaf _ _ _ ⟨_, Zry b hb, ?_⟩
  rw [e, if_pos rfl, if_neg (by omega)]
  refine ⟨by omega, ?_⟩
  rw [Zc0 (by omega) (by omega)]
  exact Z1u b e b.Low.length (Nat.le_refl _) idx b.Low h0 (by rw [Z1q e]; exact h1) rfl
def Zby (b : Box) : List (List Int) := (List.range (Z7 b.Low b.High).toNat).map fun i : Nat => locB b i
theorem l_locs (b : Box) (hb : LeX b) (h4 : Z7 b.Low b.High ≤ 400) (hn : 0 ≤ Z7 b.Low b.High) : ∀ i, i ≤ (Z7 b.Low b.High).toNat → Zgj b ((Zby b).take i) (Z7 b.Low b.High) i = some (.own 0, [.arr 38 1 true ((Zby b).map isc)]) := by
  have hlen : (Zby b).length = (Z7 b.Low b.High).toNat := by simp [Zby]
  refine down _ ?_ ?_
  · refine Zzi _ _ _ _ _ ?_
    rw [if_neg (by omega), ← hlen, List.take_length]
  · intro i hi ih
    have h5 := inc64 (i := i) (by omega)
    have e : Z4 b.Low b.High = true := by
      rcases tf (Z4 b.Low b.High) with e | e
      · unfold Z7 at hi; rw [e] at hi; simp at hi
      · exact e
    have hv : Z7 b.Low b.High ≤ vol b.Low b.High := by
      unfold Z7 capV
      rw [if_pos e]
      split <;> omega
    refine Zzi _ _ _ _ _ ?_
    rw [if_pos (by omega)]
    refine .inr ⟨_, Zbdj b hb e (by omega) (by omega), by rw [List.length_take]; omega, ?_⟩
    rw [show w ((i : Int) + 1) = ((i + 1 : Nat) : Int) from by rw [show w ((i : Int) + 1) = (i : Int) + 1 from h5]; simp]
    rw [List.take_succ_eq_append_getElem (by omega)] at ih
    simpa [Zby] using ih
theorem Zst (b : Box) : 0 ≤ Z7 b.Low b.High := by
  unfold Z7
  split
  · rename_i e
    have := Znk e
    unfold capV
    split <;> omega
  · omega
theorem Zbdl (b : Box) (hb : LeX b) : Zi0 b = if Z7 b.Low b.High ≤ 400 then some (.own 0, [.arr 38 1 true ((Zby b).map isc)]) else some (.t .nil, []) := by
  by_cases h4 : Z7 b.Low b.High ≤ 400
  · rw [if_pos h4]
    refine Zzj _ _ ⟨_, Zzr b hb, ?_⟩
    rw [if_neg (by omega)]
    simpa using l_locs b hb h4 (Zst b) 0 (Nat.zero_le _)
  · rw [if_neg h4]
    refine Zzj _ _ ⟨_, Zzr b hb, ?_⟩
    rw [if_pos (by omega)]
def Zlx (m : Zd) (q : Zb) (r : Region) (l : List Int) : Bool := !decide (w (r.Percent * (opt m q (Zbg l)).Cost) < w (100 * Zcd m q.Ze q.Atoms r.Plan.Steps (Zbg l)))
theorem Z1v {m : Zd} {q : Zb} {r : Region} (hm : LeM m) (hq : LeQ q) (h : Zb6 m q r) {l : List Int} (h1 : Zz l = true) (h2 : l.length = r.Box.Low.length) : Base m q (Zbg l) := by
  obtain ⟨g1, g2, g3, g4, _⟩ := Zlw h
  exact base_of hm h.2.2 hq g1 h1 (by rw [h2]; exact g4)
theorem Zbdm {m : Zd} {q : Zb} {r : Region} (hm : LeM m) (hq : LeQ q) (h : Zb6 m q r) (ls : List (List Int)) (hl : ls.length ≤ 1000) (hls : ∀ l ∈ ls, Zz l = true ∧ l.length = r.Box.Low.length) : ∀ i, i ≤ ls.length → Zh7 m q r ls ls.length i = some (Bo ((ls.drop i).all (Zlx m q r)), []) := by
  refine down _ ?_ ?_
  · refine Zzk _ _ _ _ _ _ _ ?_
    rw [if_neg (by omega)]; simp
  · intro i hi ih
    have h5 := inc64 (i := i) (by omega)
    obtain ⟨g1, g2⟩ := hls _ (List.getElem_mem hi)
    have l1 := Z1n g1
    refine Zzk _ _ _ _ _ _ _ ?_
    rw [if_pos (by omega), List.drop_eq_getElem_cons hi, List.all_cons]
    refine ⟨by omega, ls[i], by rw [Int.toNat_natCast]; exact List.getElem?_eq_getElem hi, _, Zbb3 m hm q hq r.Plan _ (by omega) g1, _, Zbdg (by omega) g1 (Z1v hm hq h g1 g2) h.2.2 h.2.1, ?_⟩
    rw [show w ((i : Int) + 1) = ((i + 1 : Nat) : Int) from by rw [show w ((i : Int) + 1) = (i : Int) + 1 from h5]; simp]
    unfold Zlx at ih ⊢
    by_cases e : w (r.Percent * (opt m q (Zbg ls[i])).Cost) < w (100 * Zcd m q.Ze q.Atoms r.Plan.Steps (Zbg ls[i]))
    · rw [if_pos e]; simp [e]
    · rw [if_neg e, ih]; simp [e]
theorem Zbdn {m : Zd} {q : Zb} {r : Region} (hm : LeM m) (hq : LeQ q) (hr : LeR r) (h : Zb6 m q r) (h4 : Z7 r.Box.Low r.Box.High ≤ 400) : ∀ i, i ≤ (Zby r.Box).length → Zgk m q r (shapes q) (Z7 r.Box.Low r.Box.High) (Zr q.Ze q.Atoms) i = some (Bo (((Zby r.Box).drop i).all (Zlx m q r)), []) := by
  obtain ⟨g1, g2, g3, g4, g5, _⟩ := Zlw h
  have hp := Zst r.Box
  have hlen : (Zby r.Box).length = (Z7 r.Box.Low r.Box.High).toNat := by simp [Zby]
  have hv : Z7 r.Box.Low r.Box.High ≤ vol r.Box.Low r.Box.High := by
    unfold Z7 capV
    rw [if_pos g5]
    split <;> omega
  refine down _ ?_ ?_
  · refine Zzo _ _ _ _ _ _ _ _ ?_
    rw [if_neg (by omega)]; simp
  · intro i hi ih
    have h5 := inc64 (i := i) (by omega)
    have hli : (Zby r.Box)[i] = locB r.Box i := by simp [Zby]
    obtain ⟨k1, k2⟩ := loc_B g5 (show (0 : Int) ≤ (i : Int) by omega)
    have l1 := Z1n k1
    have b := Z1v hm hq h k1 k2
    have hl := Zlv b (Nat.le_refl (Zn q.Atoms).length)
    have hs := Z0i (locB r.Box i) (by omega)
    rw [k1, if_pos rfl] at hs
    obtain ⟨fr, ht⟩ := Zbc9 b
    refine Zzo _ _ _ _ _ _ _ _ ?_
    rw [if_pos (by omega), List.drop_eq_getElem_cons hi, List.all_cons, hli]
    refine ⟨_, _, Zbdk r.Box hr g5 (by omega) (by omega), _, hs, _, _, ht, .inr ⟨_, _, _, _, Zbdd _ _ (by omega) (Z1m b h.2.1).ne (Zsr b (Nat.le_refl _)), _, Zbb4 m hm q hq r.Plan _ (by omega) k1, ?_⟩⟩
    rw [show w ((i : Int) + 1) = ((i + 1 : Nat) : Int) from by rw [show w ((i : Int) + 1) = (i : Int) + 1 from h5]; simp]
    unfold Zlx opt tab at ih ⊢
    rw [Int.mul_comm (Zcd m q.Ze q.Atoms r.Plan.Steps (Zbg (locB r.Box i))) 100]
    split
    · rename_i e; simp [e]
    · rename_i e; rw [ih]; simp [e]
open Classical in
noncomputable def holds (m : Zd) (q : Zb) (r : Region) : Bool := decide (Zb6 m q r) && (decide (Z7 r.Box.Low r.Box.High ≤ 400) && (Zby r.Box).all (Zlx m q r))
theorem locs_pos {m : Zd} {q : Zb} {r : Region} (h : Zb6 m q r) : (Zby r.Box).length ≠ 0 := by
  obtain ⟨g1, g2, g3, g4, g5, _⟩ := Zlw h
  have h1 := Znk g5
  have : 1 ≤ Z7 r.Box.Low r.Box.High := by
    unfold Z7 capV
    rw [if_pos g5]
    split <;> omega
  simp [Zby]; omega
theorem Zbdo {m : Zd} {q : Zb} {r : Region} (hm : LeM m) (hq : LeQ q) (hr : LeR r) : Zmt m q r = some (Bo (holds m q r), []) := by
  have hx := Zbdl r.Box hr
  have hp := Zst r.Box
  have hlen : (Zby r.Box).length = (Z7 r.Box.Low r.Box.High).toNat := by simp [Zby]
  unfold holds
  by_cases h4 : Z7 r.Box.Low r.Box.High ≤ 400
  · rw [if_pos h4] at hx
    refine Zzl _ _ _ _ (.inr ⟨_, hx, _, Z1o hm hq hr, ?_⟩)
    by_cases h : Zb6 m q r
    · obtain ⟨g1, g2, g3, g4, g5, _⟩ := Zlw h
      rw [if_pos (by simp [h]), if_neg (by have := locs_pos h; omega)]
      have := Zbdm hm hq h (Zby r.Box) (by omega) (fun l hl => by
        unfold Zby at hl
        rw [List.mem_map] at hl
        obtain ⟨i, _, rfl⟩ := hl
        exact loc_B g5 (by omega)) 0 (Nat.zero_le _)
      rw [List.drop_zero] at this
      refine Eq.trans this ?_
      simp [h, h4]
    · rw [if_neg (by simp [h])]; simp [h]
  · rw [if_neg h4] at hx
    refine Zzl _ _ _ _ (.inl ⟨hx, _, Z1o hm hq hr, ?_⟩)
    by_cases h : Zb6 m q r
    · rw [if_pos (by simp [h])]; simp [h4]
    · rw [if_neg (by simp [h])]; simp [h]
theorem Zbdp {m : Zd} {q : Zb} {r : Region} (hm : LeM m) (hq : LeQ q) (hr : LeR r) : Zmu m q r = some (Bo (holds m q r), []) := by
  refine Zbag _ _ _ _ ⟨_, Zbat r.Box hr, _, Zbbb m hm, ?_⟩
  unfold holds
  by_cases ha : Zcq m
  · rw [if_pos (by simp [ha])]
    refine ⟨_, Zmy q hq, _, Zz6 q hq _, ?_⟩
    rcases tf (Zbs q.Ze q.Atoms (Zr q.Ze q.Atoms)) with e2 | e2
    · rw [if_neg (by rw [e2]; simp)]
      have : ¬ Zb6 m q r := fun h => by rw [h.2.1] at e2; cases e2
      simp [this]
    rw [if_pos e2]
    refine ⟨_, Zbdi q hq r hr, ?_⟩
    rcases tf (Zff q.Ze q.Atoms r.Plan.Steps r.Box.Low r.Box.High r.Percent) with e | e
    · rw [if_neg (by rw [e]; simp)]
      have : ¬ Zb6 m q r := fun h => by rw [h.1] at e; cases e
      simp [this]
    rw [if_pos e]
    have h : Zb6 m q r := ⟨e, e2, ha⟩
    by_cases h4 : Z7 r.Box.Low r.Box.High ≤ 400
    · rw [if_neg (by omega)]
      have := Zbdn hm hq hr h h4 0 (Nat.zero_le _)
      rw [List.drop_zero] at this
      exact ⟨_, Zbc8 q hq (Zlw h).1, by refine Eq.trans this ?_; simp [h, h4]⟩
    · rw [if_pos (by omega)]; simp [h4]
  · rw [if_neg (by simp [ha])]
    have : ¬ Zb6 m q r := fun h => ha h.2.2
    simp [this]
end Go.Proofs.YtbapkgocloaaeaaGreat
/- part: K -/
namespace Go.Proofs.YtbapkgocloaaeaaGreat
open Go.AM
def Zly : MFun := ⟨3, 63, [.tmp 6],
  .seq (.reg [ ⟨some 3, none, .box (.s 0)⟩, ⟨some 4, none, .box (.s 1)⟩, ⟨some 5, none, .box (.s 2)⟩, ⟨some 6, none, .mov (.c (.t (.bool false)))⟩] [3, 4, 5])
  (.seq (.reg [ ⟨some 7, none, .mov (.c (.t (.int .i64 1048576)))⟩] [3, 4, 5, 7])
  (.seq (.reg [ ⟨some 13, none, .load (some 30) (.s 3)⟩, ⟨some 14, none, .mov (.s 7)⟩, ⟨some 15, none, .call 13 [.s 13, .s 14]⟩, ⟨some 7, none, .mov (.s 15)⟩] [3, 4, 5, 7])
  (.seq (.seq (.reg [ ⟨some 16, none, .mov (.s 7)⟩, ⟨some 17, none, .bin .lss (.s 16) (.c (.t (.int .i64 0)))⟩] [3, 4, 5, 7, 17])
  (.cond (.s 17)
    (.seq (.reg [ ⟨some 6, none, .mov (.c (.t (.bool true)))⟩] [6])
    (.ret))
    (.skip)))
  (.seq (.reg [ ⟨some 18, none, .load (some 2) (.s 4)⟩, ⟨some 19, none, .mov (.s 7)⟩, ⟨some 20, none, .call 14 [.s 18, .s 19]⟩, ⟨some 7, none, .mov (.s 20)⟩] [3, 4, 5, 7])
  (.seq (.seq (.reg [ ⟨some 21, none, .mov (.s 7)⟩, ⟨some 22, none, .bin .lss (.s 21) (.c (.t (.int .i64 0)))⟩] [3, 4, 5, 7, 22])
  (.cond (.s 22)
    (.seq (.reg [ ⟨some 6, none, .mov (.c (.t (.bool true)))⟩] [6])
    (.ret))
    (.skip)))
  (.seq (.reg [ ⟨some 23, none, .load (some 4) (.s 5)⟩, ⟨some 24, none, .mov (.s 7)⟩, ⟨some 25, none, .call 34 [.s 23, .s 24]⟩, ⟨some 7, none, .mov (.s 25)⟩] [3, 4, 5, 7])
  (.seq (.seq (.reg [ ⟨some 26, none, .mov (.s 7)⟩, ⟨some 27, none, .bin .lss (.s 26) (.c (.t (.int .i64 0)))⟩] [3, 4, 5, 27])
  (.cond (.s 27)
    (.seq (.reg [ ⟨some 6, none, .mov (.c (.t (.bool true)))⟩] [6])
    (.ret))
    (.skip)))
  (.seq (.drw [ ⟨some 28, none, .load (some 30) (.s 3)⟩, ⟨some 29, none, .call 18 [.s 28]⟩, ⟨some 30, none, .load (some 2) (.s 4)⟩, ⟨some 31, none, .call 19 [.s 30]⟩, ⟨some 32, none, .load (some 4) (.s 5)⟩, ⟨some 33, none, .call 36 [.s 32]⟩, ⟨some 34, none, .call 39 [.s 29, .s 31, .s 33]⟩, ⟨some 8, none, .mov (.s 34)⟩] [[], [0], [], [2, 1], [], [4, 3], [1, 3, 5, 5], [6, 6, 0, 1, 2, 3, 4, 5, 6]] [3, 4, 5, 8])
  (.seq (.reg [ ⟨some 35, none, .load (some 30) (.s 3)⟩, ⟨some 36, none, .call 18 [.s 35]⟩, ⟨some 9, none, .alloc [(.t (.int .i64 0)), (.t (.int .i64 0)), (.t (.int .i64 0)), (.t (.int .i64 0)), (.t (.int .i64 0)), (.t .nil), (.t (.int .i64 0)), (.t (.int .i64 0)), (.t (.int .i64 0)), (.t (.int .i64 0)), (.t (.int .i64 0)), (.t .nil), (.t (.int .i64 0)), (.t (.int .i64 0)), (.t (.int .i64 0)), (.t (.int .i64 0)), (.t (.int .i64 0)), (.t .nil), (.t (.int .i64 0)), (.t (.int .i64 0)), (.t (.int .i64 0)), (.t (.int .i64 0)), (.t (.int .i64 0)), (.t .nil), (.t (.int .i64 0)), (.t (.int .i64 0)), (.t (.int .i64 0)), (.t (.int .i64 0)), (.t (.int .i64 0)), (.t .nil)]⟩, ⟨none, none, .store 30 (.s 9) (.s 36)⟩] [3, 4, 5, 8, 9])
  (.seq (.reg [ ⟨some 37, none, .load (some 2) (.s 4)⟩, ⟨some 38, none, .call 19 [.s 37]⟩, ⟨some 10, none, .alloc [(.t (.int .i64 0)), (.t .nil)]⟩, ⟨none, none, .store 2 (.s 10) (.s 38)⟩] [3, 4, 5, 8, 9, 10])
  (.seq (.reg [ ⟨some 39, none, .load (some 4) (.s 5)⟩, ⟨some 40, none, .call 36 [.s 39]⟩, ⟨some 11, none, .alloc [(.t .nil), (.t .nil), (.t .nil), (.t (.int .i64 0))]⟩, ⟨none, none, .store 4 (.s 11) (.s 40)⟩] [3, 4, 5, 8, 9, 10, 11])
  (.seq (.reg [ ⟨some 41, none, .load (some 30) (.s 9)⟩, ⟨some 42, none, .load (some 2) (.s 10)⟩, ⟨some 43, none, .load (some 4) (.s 11)⟩, ⟨some 44, none, .call 40 [.s 41, .s 42, .s 43]⟩, ⟨some 12, none, .mov (.s 44)⟩] [3, 4, 5, 8, 9, 10, 11, 12])
  (.seq (.seq (.reg [ ⟨some 45, none, .mov (.s 12)⟩, ⟨some 46, none, .mov (.s 8)⟩, ⟨some 47, none, .beq true (.s 45) (.s 46)⟩] [3, 4, 5, 9, 10, 11, 47])
  (.cond (.s 47)
    (.seq (.reg [ ⟨some 6, none, .mov (.c (.t (.bool false)))⟩] [6])
    (.ret))
    (.skip)))
  (.seq (.seq (.drw [ ⟨some 48, none, .load (some 30) (.s 9)⟩, ⟨some 49, none, .load (some 30) (.s 3)⟩, ⟨some 50, none, .call 18 [.s 49]⟩, ⟨some 51, none, .call 24 [.s 48, .s 50]⟩, ⟨some 52, none, .un .not (.s 51)⟩] [[], [], [1], [0, 2, 2], [3]] [4, 5, 10, 11, 52])
  (.cond (.s 52)
    (.seq (.reg [ ⟨some 6, none, .mov (.c (.t (.bool false)))⟩] [6])
    (.ret))
    (.skip)))
  (.seq (.seq (.drw [ ⟨some 53, none, .load (some 2) (.s 10)⟩, ⟨some 54, none, .load (some 2) (.s 4)⟩, ⟨some 55, none, .call 19 [.s 54]⟩, ⟨some 56, none, .call 25 [.s 53, .s 55]⟩, ⟨some 57, none, .un .not (.s 56)⟩] [[], [], [1], [0, 2, 2], [3]] [5, 11, 57])
  (.cond (.s 57)
    (.seq (.reg [ ⟨some 6, none, .mov (.c (.t (.bool false)))⟩] [6])
    (.ret))
    (.skip)))
  (.seq (.seq (.drw [ ⟨some 58, none, .load (some 4) (.s 11)⟩, ⟨some 59, none, .load (some 4) (.s 5)⟩, ⟨some 60, none, .call 36 [.s 59]⟩, ⟨some 61, none, .call 38 [.s 58, .s 60]⟩, ⟨some 62, none, .un .not (.s 61)⟩] [[], [], [1], [0, 2, 2], [3]] [62])
  (.cond (.s 62)
    (.seq (.reg [ ⟨some 6, none, .mov (.c (.t (.bool false)))⟩] [6])
    (.ret))
    (.skip)))
  (.seq (.reg [ ⟨some 6, none, .mov (.c (.t (.bool true)))⟩] [6])
  (.ret))))))))))))))))))⟩
theorem Zbdq : tbl 5 = some Zly := tblOf_eq Tryz.func5 (by kernel_rfl) (by kernel_rfl)
def Z1w : MFun := ⟨2, 36, [.tmp 4],
  .seq (.reg [ ⟨some 2, none, .box (.s 0)⟩, ⟨some 4, none, .mov (.c (.t (.int .i64 0)))⟩] [1, 2])
  (.seq (.reg [ ⟨some 5, none, .faddr 0 (.s 2)⟩, ⟨some 6, none, .load (some 6) (.s 5)⟩, ⟨some 7, none, .mov (.s 1)⟩, ⟨some 8, none, .call 84 [.s 6, .s 7]⟩, ⟨some 1, none, .mov (.s 8)⟩] [1, 2])
  (.seq (.seq (.reg [ ⟨some 9, none, .mov (.s 1)⟩, ⟨some 10, none, .bin .lss (.s 9) (.c (.t (.int .i64 0)))⟩] [1, 2, 10])
  (.cond (.s 10)
    (.seq (.reg [ ⟨some 4, none, .mov (.c (.t (.int .i64 (-1))))⟩] [4])
    (.ret))
    (.skip)))
  (.seq (.reg [ ⟨some 11, none, .faddr 6 (.s 2)⟩, ⟨some 12, none, .load (some 6) (.s 11)⟩, ⟨some 13, none, .mov (.s 1)⟩, ⟨some 14, none, .call 84 [.s 12, .s 13]⟩, ⟨some 1, none, .mov (.s 14)⟩] [1, 2])
  (.seq (.seq (.reg [ ⟨some 15, none, .mov (.s 1)⟩, ⟨some 16, none, .bin .lss (.s 15) (.c (.t (.int .i64 0)))⟩] [1, 2, 16])
  (.cond (.s 16)
    (.seq (.reg [ ⟨some 4, none, .mov (.c (.t (.int .i64 (-1))))⟩] [4])
    (.ret))
    (.skip)))
  (.seq (.reg [ ⟨some 17, none, .faddr 12 (.s 2)⟩, ⟨some 18, none, .load (some 6) (.s 17)⟩, ⟨some 19, none, .mov (.s 1)⟩, ⟨some 20, none, .call 84 [.s 18, .s 19]⟩, ⟨some 1, none, .mov (.s 20)⟩] [1, 2])
  (.seq (.seq (.reg [ ⟨some 21, none, .mov (.s 1)⟩, ⟨some 22, none, .bin .lss (.s 21) (.c (.t (.int .i64 0)))⟩] [1, 2, 22])
  (.cond (.s 22)
    (.seq (.reg [ ⟨some 4, none, .mov (.c (.t (.int .i64 (-1))))⟩] [4])
    (.ret))
    (.skip)))
  (.seq (.reg [ ⟨some 23, none, .faddr 18 (.s 2)⟩, ⟨some 24, none, .load (some 6) (.s 23)⟩, ⟨some 25, none, .mov (.s 1)⟩, ⟨some 26, none, .call 84 [.s 24, .s 25]⟩, ⟨some 1, none, .mov (.s 26)⟩] [1, 2])
  (.seq (.seq (.reg [ ⟨some 27, none, .mov (.s 1)⟩, ⟨some 28, none, .bin .lss (.s 27) (.c (.t (.int .i64 0)))⟩] [1, 2, 28])
  (.cond (.s 28)
    (.seq (.reg [ ⟨some 4, none, .mov (.c (.t (.int .i64 (-1))))⟩] [4])
    (.ret))
    (.skip)))
  (.seq (.reg [ ⟨some 29, none, .faddr 24 (.s 2)⟩, ⟨some 30, none, .load (some 6) (.s 29)⟩, ⟨some 31, none, .mov (.s 1)⟩, ⟨some 32, none, .call 84 [.s 30, .s 31]⟩, ⟨some 1, none, .mov (.s 32)⟩] [1])
  (.seq (.seq (.reg [ ⟨some 33, none, .mov (.s 1)⟩, ⟨some 34, none, .bin .lss (.s 33) (.c (.t (.int .i64 0)))⟩] [1, 34])
  (.cond (.s 34)
    (.seq (.reg [ ⟨some 4, none, .mov (.c (.t (.int .i64 (-1))))⟩] [4])
    (.ret))
    (.skip)))
  (.seq (.reg [ ⟨some 35, none, .mov (.s 1)⟩, ⟨some 4, none, .mov (.s 35)⟩] [4])
  (.ret))))))))))))⟩
theorem Zbdr : tbl 13 = some Z1w := tblOf_eq Tryz.func13 (by kernel_rfl) (by kernel_rfl)
def Z1x : MFun := ⟨2, 12, [.tmp 4],
  .seq (.reg [ ⟨some 2, none, .box (.s 0)⟩, ⟨some 4, none, .mov (.c (.t (.int .i64 0)))⟩] [1, 2])
  (.seq (.reg [ ⟨some 5, none, .faddr 1 (.s 2)⟩, ⟨some 6, none, .load none (.s 5)⟩, ⟨some 7, none, .mov (.s 1)⟩, ⟨some 8, none, .call 85 [.s 6, .s 7]⟩, ⟨some 1, none, .mov (.s 8)⟩] [1])
  (.seq (.seq (.reg [ ⟨some 9, none, .mov (.s 1)⟩, ⟨some 10, none, .bin .lss (.s 9) (.c (.t (.int .i64 0)))⟩] [1, 10])
  (.cond (.s 10)
    (.seq (.reg [ ⟨some 4, none, .mov (.c (.t (.int .i64 (-1))))⟩] [4])
    (.ret))
    (.skip)))
  (.seq (.reg [ ⟨some 11, none, .mov (.s 1)⟩, ⟨some 4, none, .mov (.s 11)⟩] [4])
  (.ret))))⟩
theorem Zbds : tbl 14 = some Z1x := tblOf_eq Tryz.func14 (by kernel_rfl) (by kernel_rfl)
def Z1y : MFun := ⟨2, 12, [.tmp 4],
  .seq (.reg [ ⟨some 2, none, .box (.s 0)⟩, ⟨some 4, none, .mov (.c (.t (.int .i64 0)))⟩] [1, 2])
  (.seq (.reg [ ⟨some 5, none, .faddr 0 (.s 2)⟩, ⟨some 6, none, .load none (.s 5)⟩, ⟨some 7, none, .mov (.s 1)⟩, ⟨some 8, none, .call 86 [.s 6, .s 7]⟩, ⟨some 1, none, .mov (.s 8)⟩] [1])
  (.seq (.seq (.reg [ ⟨some 9, none, .mov (.s 1)⟩, ⟨some 10, none, .bin .lss (.s 9) (.c (.t (.int .i64 0)))⟩] [1, 10])
  (.cond (.s 10)
    (.seq (.reg [ ⟨some 4, none, .mov (.c (.t (.int .i64 (-1))))⟩] [4])
    (.ret))
    (.skip)))
  (.seq (.reg [ ⟨some 11, none, .mov (.s 1)⟩, ⟨some 4, none, .mov (.s 11)⟩] [4])
  (.ret))))⟩
theorem Zbdt : tbl 15 = some Z1y := tblOf_eq Tryz.func15 (by kernel_rfl) (by kernel_rfl)
def Z1z : MFun := ⟨1, 25, [.cell 2 (some 30)],
  .seq (.reg [ ⟨some 1, none, .box (.s 0)⟩, ⟨some 2, none, .alloc [(.t (.int .i64 0)), (.t (.int .i64 0)), (.t (.int .i64 0)), (.t (.int .i64 0)), (.t (.int .i64 0)), (.t .nil), (.t (.int .i64 0)), (.t (.int .i64 0)), (.t (.int .i64 0)), (.t (.int .i64 0)), (.t (.int .i64 0)), (.t .nil), (.t (.int .i64 0)), (.t (.int .i64 0)), (.t (.int .i64 0)), (.t (.int .i64 0)), (.t (.int .i64 0)), (.t .nil), (.t (.int .i64 0)), (.t (.int .i64 0)), (.t (.int .i64 0)), (.t (.int .i64 0)), (.t (.int .i64 0)), (.t .nil), (.t (.int .i64 0)), (.t (.int .i64 0)), (.t (.int .i64 0)), (.t (.int .i64 0)), (.t (.int .i64 0)), (.t .nil)]⟩] [1, 2])
  (.seq (.reg [ ⟨some 3, none, .alloc [(.t (.int .i64 0)), (.t (.int .i64 0)), (.t (.int .i64 0)), (.t (.int .i64 0)), (.t (.int .i64 0)), (.t .nil), (.t (.int .i64 0)), (.t (.int .i64 0)), (.t (.int .i64 0)), (.t (.int .i64 0)), (.t (.int .i64 0)), (.t .nil), (.t (.int .i64 0)), (.t (.int .i64 0)), (.t (.int .i64 0)), (.t (.int .i64 0)), (.t (.int .i64 0)), (.t .nil), (.t (.int .i64 0)), (.t (.int .i64 0)), (.t (.int .i64 0)), (.t (.int .i64 0)), (.t (.int .i64 0)), (.t .nil), (.t (.int .i64 0)), (.t (.int .i64 0)), (.t (.int .i64 0)), (.t (.int .i64 0)), (.t (.int .i64 0)), (.t .nil)]⟩] [1, 2, 3])
  (.seq (.reg [ ⟨some 4, none, .faddr 0 (.s 1)⟩, ⟨some 5, none, .load (some 6) (.s 4)⟩, ⟨some 6, none, .call 95 [.s 5]⟩, ⟨some 7, none, .faddr 0 (.s 3)⟩, ⟨none, none, .store 6 (.s 7) (.s 6)⟩] [1, 2, 3])
  (.seq (.reg [ ⟨some 8, none, .faddr 6 (.s 1)⟩, ⟨some 9, none, .load (some 6) (.s 8)⟩, ⟨some 10, none, .call 95 [.s 9]⟩, ⟨some 11, none, .faddr 6 (.s 3)⟩, ⟨none, none, .store 6 (.s 11) (.s 10)⟩] [1, 2, 3])
  (.seq (.reg [ ⟨some 12, none, .faddr 12 (.s 1)⟩, ⟨some 13, none, .load (some 6) (.s 12)⟩, ⟨some 14, none, .call 95 [.s 13]⟩, ⟨some 15, none, .faddr 12 (.s 3)⟩, ⟨none, none, .store 6 (.s 15) (.s 14)⟩] [1, 2, 3])
  (.seq (.reg [ ⟨some 16, none, .faddr 18 (.s 1)⟩, ⟨some 17, none, .load (some 6) (.s 16)⟩, ⟨some 18, none, .call 95 [.s 17]⟩, ⟨some 19, none, .faddr 18 (.s 3)⟩, ⟨none, none, .store 6 (.s 19) (.s 18)⟩] [1, 2, 3])
  (.seq (.reg [ ⟨some 20, none, .faddr 24 (.s 1)⟩, ⟨some 21, none, .load (some 6) (.s 20)⟩, ⟨some 22, none, .call 95 [.s 21]⟩, ⟨some 23, none, .faddr 24 (.s 3)⟩, ⟨none, none, .store 6 (.s 23) (.s 22)⟩] [2, 3])
  (.seq (.reg [ ⟨some 24, none, .load (some 30) (.s 3)⟩, ⟨none, none, .store 30 (.s 2) (.s 24)⟩] [2])
  (.ret))))))))⟩
theorem Zbdu : tbl 18 = some Z1z := tblOf_eq Tryz.func18 (by kernel_rfl) (by kernel_rfl)
def Z10 : MFun := ⟨1, 12, [.cell 2 (some 2)],
  .seq (.reg [ ⟨some 1, none, .box (.s 0)⟩, ⟨some 2, none, .alloc [(.t (.int .i64 0)), (.t .nil)]⟩] [1, 2])
  (.seq (.reg [ ⟨some 3, none, .alloc [(.t (.int .i64 0)), (.t .nil)]⟩] [1, 2, 3])
  (.seq (.reg [ ⟨some 4, none, .faddr 0 (.s 1)⟩, ⟨some 5, none, .load none (.s 4)⟩, ⟨some 6, none, .faddr 0 (.s 3)⟩, ⟨none, none, .store 1 (.s 6) (.s 5)⟩] [1, 2, 3])
  (.seq (.reg [ ⟨some 7, none, .faddr 1 (.s 1)⟩, ⟨some 8, none, .load none (.s 7)⟩, ⟨some 9, none, .call 96 [.s 8]⟩, ⟨some 10, none, .faddr 1 (.s 3)⟩, ⟨none, none, .store 1 (.s 10) (.s 9)⟩] [2, 3])
  (.seq (.reg [ ⟨some 11, none, .load (some 2) (.s 3)⟩, ⟨none, none, .store 2 (.s 2) (.s 11)⟩] [2])
  (.ret)))))⟩
theorem Zbdv : tbl 19 = some Z10 := tblOf_eq Tryz.func19 (by kernel_rfl) (by kernel_rfl)
def Z11 : MFun := ⟨1, 9, [.cell 2 (some 1)],
  .seq (.reg [ ⟨some 1, none, .box (.s 0)⟩, ⟨some 2, none, .alloc [(.t .nil)]⟩] [1, 2])
  (.seq (.reg [ ⟨some 3, none, .alloc [(.t .nil)]⟩] [1, 2, 3])
  (.seq (.reg [ ⟨some 4, none, .faddr 0 (.s 1)⟩, ⟨some 5, none, .load none (.s 4)⟩, ⟨some 6, none, .call 97 [.s 5]⟩, ⟨some 7, none, .faddr 0 (.s 3)⟩, ⟨none, none, .store 1 (.s 7) (.s 6)⟩] [2, 3])
  (.seq (.reg [ ⟨some 8, none, .load (some 1) (.s 3)⟩, ⟨none, none, .store 1 (.s 2) (.s 8)⟩] [2])
  (.ret))))⟩
theorem Zbdw : tbl 20 = some Z11 := tblOf_eq Tryz.func20 (by kernel_rfl) (by kernel_rfl)
def Znl : MCode :=
  .seq (.seq (.reg [ ⟨some 11, none, .mov (.s 5)⟩, ⟨some 12, none, .mov (.s 0)⟩, ⟨some 13, none, .len false (.s 12)⟩, ⟨some 14, none, .bin .lss (.s 11) (.s 13)⟩] [0, 1, 5, 14])
  (.cond (.s 14)
    (.skip)
    (.exit 0)))
  (.seq (.block 1 (.seq (.drw [ ⟨some 17, none, .mov (.s 0)⟩, ⟨some 18, none, .mov (.s 5)⟩, ⟨some 19, none, .iaddr 1 (.s 17) (.s 18)⟩, ⟨some 20, none, .load none (.s 19)⟩, ⟨some 21, none, .mov (.s 1)⟩, ⟨some 22, none, .mov (.s 5)⟩, ⟨some 23, none, .iaddr 1 (.s 21) (.s 22)⟩, ⟨some 24, none, .load none (.s 23)⟩, ⟨some 25, none, .bin .neq (.s 20) (.s 24)⟩] [[], [], [0, 1], [2], [], [], [4, 5], [6], [3, 7]] [0, 1, 5, 25])
  (.cond (.s 25)
    (.seq (.reg [ ⟨some 4, none, .mov (.c (.t (.bool false)))⟩] [4])
    (.ret))
    (.skip))))
  (.reg [ ⟨some 15, none, .mov (.s 5)⟩, ⟨some 16, none, .bin .add (.s 15) (.c (.t (.int .i64 1)))⟩, ⟨some 5, none, .mov (.s 16)⟩] [0, 1, 5]))
def Zsu : MFun := ⟨2, 26, [.tmp 4],
  .seq (.reg [ ⟨some 4, none, .mov (.c (.t (.bool false)))⟩] [0, 1])
  (.seq (.seq (.reg [ ⟨some 6, none, .mov (.s 0)⟩, ⟨some 7, none, .len false (.s 6)⟩, ⟨some 8, none, .mov (.s 1)⟩, ⟨some 9, none, .len false (.s 8)⟩, ⟨some 10, none, .bin .neq (.s 7) (.s 9)⟩] [0, 1, 10])
  (.cond (.s 10)
    (.seq (.reg [ ⟨some 4, none, .mov (.c (.t (.bool false)))⟩] [4])
    (.ret))
    (.skip)))
  (.seq (.seq (.reg [ ⟨some 5, none, .mov (.c (.t (.int .i64 0)))⟩] [0, 1, 5])
  (.block 0 (.loop [0, 1, 5] Znl)))
  (.seq (.reg [ ⟨some 4, none, .mov (.c (.t (.bool true)))⟩] [4])
  (.ret))))⟩
theorem Zbdx : tbl 23 = some Zsu := tblOf_eq Tryz.func23 (by kernel_rfl) (by kernel_rfl)
def Z12 : MFun := ⟨2, 35, [.tmp 4],
  .seq (.reg [ ⟨some 2, none, .box (.s 0)⟩, ⟨some 3, none, .box (.s 1)⟩, ⟨some 4, none, .mov (.c (.t (.bool false)))⟩] [2, 3])
  (.seq (.seq (.reg [ ⟨some 5, none, .faddr 0 (.s 2)⟩, ⟨some 6, none, .load (some 6) (.s 5)⟩, ⟨some 7, none, .faddr 0 (.s 3)⟩, ⟨some 8, none, .load (some 6) (.s 7)⟩, ⟨some 9, none, .call 109 [.s 6, .s 8]⟩, ⟨some 10, none, .un .not (.s 9)⟩] [2, 3, 10])
  (.cond (.s 10)
    (.seq (.reg [ ⟨some 4, none, .mov (.c (.t (.bool false)))⟩] [4])
    (.ret))
    (.skip)))
  (.seq (.seq (.reg [ ⟨some 11, none, .faddr 6 (.s 2)⟩, ⟨some 12, none, .load (some 6) (.s 11)⟩, ⟨some 13, none, .faddr 6 (.s 3)⟩, ⟨some 14, none, .load (some 6) (.s 13)⟩, ⟨some 15, none, .call 109 [.s 12, .s 14]⟩, ⟨some 16, none, .un .not (.s 15)⟩] [2, 3, 16])
  (.cond (.s 16)
    (.seq (.reg [ ⟨some 4, none, .mov (.c (.t (.bool false)))⟩] [4])
    (.ret))
    (.skip)))
  (.seq (.seq (.reg [ ⟨some 17, none, .faddr 12 (.s 2)⟩, ⟨some 18, none, .load (some 6) (.s 17)⟩, ⟨some 19, none, .faddr 12 (.s 3)⟩, ⟨some 20, none, .load (some 6) (.s 19)⟩, ⟨some 21, none, .call 109 [.s 18, .s 20]⟩, ⟨some 22, none, .un .not (.s 21)⟩] [2, 3, 22])
  (.cond (.s 22)
    (.seq (.reg [ ⟨some 4, none, .mov (.c (.t (.bool false)))⟩] [4])
    (.ret))
    (.skip)))
  (.seq (.seq (.reg [ ⟨some 23, none, .faddr 18 (.s 2)⟩, ⟨some 24, none, .load (some 6) (.s 23)⟩, ⟨some 25, none, .faddr 18 (.s 3)⟩, ⟨some 26, none, .load (some 6) (.s 25)⟩, ⟨some 27, none, .call 109 [.s 24, .s 26]⟩, ⟨some 28, none, .un .not (.s 27)⟩] [2, 3, 28])
  (.cond (.s 28)
    (.seq (.reg [ ⟨some 4, none, .mov (.c (.t (.bool false)))⟩] [4])
    (.ret))
    (.skip)))
  (.seq (.seq (.reg [ ⟨some 29, none, .faddr 24 (.s 2)⟩, ⟨some 30, none, .load (some 6) (.s 29)⟩, ⟨some 31, none, .faddr 24 (.s 3)⟩, ⟨some 32, none, .load (some 6) (.s 31)⟩, ⟨some 33, none, .call 109 [.s 30, .s 32]⟩, ⟨some 34, none, .un .not (.s 33)⟩] [34])
  (.cond (.s 34)
    (.seq (.reg [ ⟨some 4, none, .mov (.c (.t (.bool false)))⟩] [4])
    (.ret))
    (.skip)))
  (.seq (.reg [ ⟨some 4, none, .mov (.c (.t (.bool true)))⟩] [4])
  (.ret)))))))⟩
theorem Zbdy : tbl 24 = some Z12 := tblOf_eq Tryz.func24 (by kernel_rfl) (by kernel_rfl)
def Z13 : MFun := ⟨2, 16, [.tmp 4],
  .seq (.reg [ ⟨some 2, none, .box (.s 0)⟩, ⟨some 3, none, .box (.s 1)⟩, ⟨some 4, none, .mov (.c (.t (.bool false)))⟩] [2, 3])
  (.seq (.seq (.reg [ ⟨some 5, none, .faddr 0 (.s 2)⟩, ⟨some 6, none, .load none (.s 5)⟩, ⟨some 7, none, .faddr 0 (.s 3)⟩, ⟨some 8, none, .load none (.s 7)⟩, ⟨some 9, none, .bin .neq (.s 6) (.s 8)⟩] [2, 3, 9])
  (.cond (.s 9)
    (.seq (.reg [ ⟨some 4, none, .mov (.c (.t (.bool false)))⟩] [4])
    (.ret))
    (.skip)))
  (.seq (.seq (.reg [ ⟨some 10, none, .faddr 1 (.s 2)⟩, ⟨some 11, none, .load none (.s 10)⟩, ⟨some 12, none, .faddr 1 (.s 3)⟩, ⟨some 13, none, .load none (.s 12)⟩, ⟨some 14, none, .call 110 [.s 11, .s 13]⟩, ⟨some 15, none, .un .not (.s 14)⟩] [15])
  (.cond (.s 15)
    (.seq (.reg [ ⟨some 4, none, .mov (.c (.t (.bool false)))⟩] [4])
    (.ret))
    (.skip)))
  (.seq (.reg [ ⟨some 4, none, .mov (.c (.t (.bool true)))⟩] [4])
  (.ret))))⟩
theorem Zbdz : tbl 25 = some Z13 := tblOf_eq Tryz.func25 (by kernel_rfl) (by kernel_rfl)
def Z14 : MFun := ⟨2, 11, [.tmp 4],
  .seq (.reg [ ⟨some 2, none, .box (.s 0)⟩, ⟨some 3, none, .box (.s 1)⟩, ⟨some 4, none, .mov (.c (.t (.bool false)))⟩] [2, 3])
  (.seq (.seq (.reg [ ⟨some 5, none, .faddr 0 (.s 2)⟩, ⟨some 6, none, .load none (.s 5)⟩, ⟨some 7, none, .faddr 0 (.s 3)⟩, ⟨some 8, none, .load none (.s 7)⟩, ⟨some 9, none, .call 111 [.s 6, .s 8]⟩, ⟨some 10, none, .un .not (.s 9)⟩] [10])
  (.cond (.s 10)
    (.seq (.reg [ ⟨some 4, none, .mov (.c (.t (.bool false)))⟩] [4])
    (.ret))
    (.skip)))
  (.seq (.reg [ ⟨some 4, none, .mov (.c (.t (.bool true)))⟩] [4])
  (.ret)))⟩
theorem Zbd0 : tbl 26 = some Z14 := tblOf_eq Tryz.func26 (by kernel_rfl) (by kernel_rfl)
def Z15 : MFun := ⟨2, 18, [.tmp 4],
  .seq (.reg [ ⟨some 2, none, .box (.s 0)⟩, ⟨some 4, none, .mov (.c (.t (.int .i64 0)))⟩] [1, 2])
  (.seq (.reg [ ⟨some 5, none, .faddr 0 (.s 2)⟩, ⟨some 6, none, .load (some 1) (.s 5)⟩, ⟨some 7, none, .mov (.s 1)⟩, ⟨some 8, none, .call 15 [.s 6, .s 7]⟩, ⟨some 1, none, .mov (.s 8)⟩] [1, 2])
  (.seq (.seq (.reg [ ⟨some 9, none, .mov (.s 1)⟩, ⟨some 10, none, .bin .lss (.s 9) (.c (.t (.int .i64 0)))⟩] [1, 2, 10])
  (.cond (.s 10)
    (.seq (.reg [ ⟨some 4, none, .mov (.c (.t (.int .i64 (-1))))⟩] [4])
    (.ret))
    (.skip)))
  (.seq (.reg [ ⟨some 11, none, .faddr 1 (.s 2)⟩, ⟨some 12, none, .load (some 2) (.s 11)⟩, ⟨some 13, none, .mov (.s 1)⟩, ⟨some 14, none, .call 57 [.s 12, .s 13]⟩, ⟨some 1, none, .mov (.s 14)⟩] [1])
  (.seq (.seq (.reg [ ⟨some 15, none, .mov (.s 1)⟩, ⟨some 16, none, .bin .lss (.s 15) (.c (.t (.int .i64 0)))⟩] [1, 16])
  (.cond (.s 16)
    (.seq (.reg [ ⟨some 4, none, .mov (.c (.t (.int .i64 (-1))))⟩] [4])
    (.ret))
    (.skip)))
  (.seq (.reg [ ⟨some 17, none, .mov (.s 1)⟩, ⟨some 4, none, .mov (.s 17)⟩] [4])
  (.ret))))))⟩
theorem Zbd1 : tbl 34 = some Z15 := tblOf_eq Tryz.func34 (by kernel_rfl) (by kernel_rfl)
def Z16 : MFun := ⟨1, 16, [.cell 2 (some 4)],
  .seq (.reg [ ⟨some 1, none, .box (.s 0)⟩, ⟨some 2, none, .alloc [(.t .nil), (.t .nil), (.t .nil), (.t (.int .i64 0))]⟩] [1, 2])
  (.seq (.reg [ ⟨some 3, none, .alloc [(.t .nil), (.t .nil), (.t .nil), (.t (.int .i64 0))]⟩] [1, 2, 3])
  (.seq (.reg [ ⟨some 4, none, .faddr 0 (.s 1)⟩, ⟨some 5, none, .load (some 1) (.s 4)⟩, ⟨some 6, none, .call 20 [.s 5]⟩, ⟨some 7, none, .faddr 0 (.s 3)⟩, ⟨none, none, .store 1 (.s 7) (.s 6)⟩] [1, 2, 3])
  (.seq (.reg [ ⟨some 8, none, .faddr 1 (.s 1)⟩, ⟨some 9, none, .load (some 2) (.s 8)⟩, ⟨some 10, none, .call 58 [.s 9]⟩, ⟨some 11, none, .faddr 1 (.s 3)⟩, ⟨none, none, .store 2 (.s 11) (.s 10)⟩] [1, 2, 3])
  (.seq (.reg [ ⟨some 12, none, .faddr 3 (.s 1)⟩, ⟨some 13, none, .load none (.s 12)⟩, ⟨some 14, none, .faddr 3 (.s 3)⟩, ⟨none, none, .store 1 (.s 14) (.s 13)⟩] [2, 3])
  (.seq (.reg [ ⟨some 15, none, .load (some 4) (.s 3)⟩, ⟨none, none, .store 4 (.s 2) (.s 15)⟩] [2])
  (.ret))))))⟩
theorem Zbd2 : tbl 36 = some Z16 := tblOf_eq Tryz.func36 (by kernel_rfl) (by kernel_rfl)
def Z17 : MFun := ⟨2, 22, [.tmp 4],
  .seq (.reg [ ⟨some 2, none, .box (.s 0)⟩, ⟨some 3, none, .box (.s 1)⟩, ⟨some 4, none, .mov (.c (.t (.bool false)))⟩] [2, 3])
  (.seq (.seq (.reg [ ⟨some 5, none, .faddr 0 (.s 2)⟩, ⟨some 6, none, .load (some 1) (.s 5)⟩, ⟨some 7, none, .faddr 0 (.s 3)⟩, ⟨some 8, none, .load (some 1) (.s 7)⟩, ⟨some 9, none, .call 26 [.s 6, .s 8]⟩, ⟨some 10, none, .un .not (.s 9)⟩] [2, 3, 10])
  (.cond (.s 10)
    (.seq (.reg [ ⟨some 4, none, .mov (.c (.t (.bool false)))⟩] [4])
    (.ret))
    (.skip)))
  (.seq (.seq (.reg [ ⟨some 11, none, .faddr 1 (.s 2)⟩, ⟨some 12, none, .load (some 2) (.s 11)⟩, ⟨some 13, none, .faddr 1 (.s 3)⟩, ⟨some 14, none, .load (some 2) (.s 13)⟩, ⟨some 15, none, .call 60 [.s 12, .s 14]⟩, ⟨some 16, none, .un .not (.s 15)⟩] [2, 3, 16])
  (.cond (.s 16)
    (.seq (.reg [ ⟨some 4, none, .mov (.c (.t (.bool false)))⟩] [4])
    (.ret))
    (.skip)))
  (.seq (.seq (.reg [ ⟨some 17, none, .faddr 3 (.s 2)⟩, ⟨some 18, none, .load none (.s 17)⟩, ⟨some 19, none, .faddr 3 (.s 3)⟩, ⟨some 20, none, .load none (.s 19)⟩, ⟨some 21, none, .bin .neq (.s 18) (.s 20)⟩] [21])
  (.cond (.s 21)
    (.seq (.reg [ ⟨some 4, none, .mov (.c (.t (.bool false)))⟩] [4])
    (.ret))
    (.skip)))
  (.seq (.reg [ ⟨some 4, none, .mov (.c (.t (.bool true)))⟩] [4])
  (.ret)))))⟩
theorem Zbd3 : tbl 38 = some Z17 := tblOf_eq Tryz.func38 (by kernel_rfl) (by kernel_rfl)
def Z18 : MFun := ⟨2, 18, [.tmp 4],
  .seq (.reg [ ⟨some 2, none, .box (.s 0)⟩, ⟨some 4, none, .mov (.c (.t (.int .i64 0)))⟩] [1, 2])
  (.seq (.reg [ ⟨some 5, none, .faddr 0 (.s 2)⟩, ⟨some 6, none, .load none (.s 5)⟩, ⟨some 7, none, .mov (.s 1)⟩, ⟨some 8, none, .call 151 [.s 6, .s 7]⟩, ⟨some 1, none, .mov (.s 8)⟩] [1, 2])
  (.seq (.seq (.reg [ ⟨some 9, none, .mov (.s 1)⟩, ⟨some 10, none, .bin .lss (.s 9) (.c (.t (.int .i64 0)))⟩] [1, 2, 10])
  (.cond (.s 10)
    (.seq (.reg [ ⟨some 4, none, .mov (.c (.t (.int .i64 (-1))))⟩] [4])
    (.ret))
    (.skip)))
  (.seq (.reg [ ⟨some 11, none, .faddr 1 (.s 2)⟩, ⟨some 12, none, .load none (.s 11)⟩, ⟨some 13, none, .mov (.s 1)⟩, ⟨some 14, none, .call 151 [.s 12, .s 13]⟩, ⟨some 1, none, .mov (.s 14)⟩] [1])
  (.seq (.seq (.reg [ ⟨some 15, none, .mov (.s 1)⟩, ⟨some 16, none, .bin .lss (.s 15) (.c (.t (.int .i64 0)))⟩] [1, 16])
  (.cond (.s 16)
    (.seq (.reg [ ⟨some 4, none, .mov (.c (.t (.int .i64 (-1))))⟩] [4])
    (.ret))
    (.skip)))
  (.seq (.reg [ ⟨some 17, none, .mov (.s 1)⟩, ⟨some 4, none, .mov (.s 17)⟩] [4])
  (.ret))))))⟩
theorem Zbd4 : tbl 57 = some Z18 := tblOf_eq Tryz.func57 (by kernel_rfl) (by kernel_rfl)
def Z19 : MFun := ⟨1, 13, [.cell 2 (some 2)],
  .seq (.reg [ ⟨some 1, none, .box (.s 0)⟩, ⟨some 2, none, .alloc [(.t .nil), (.t .nil)]⟩] [1, 2])
  (.seq (.reg [ ⟨some 3, none, .alloc [(.t .nil), (.t .nil)]⟩] [1, 2, 3])
  (.seq (.reg [ ⟨some 4, none, .faddr 0 (.s 1)⟩, ⟨some 5, none, .load none (.s 4)⟩, ⟨some 6, none, .call 59 [.s 5]⟩, ⟨some 7, none, .faddr 0 (.s 3)⟩, ⟨none, none, .store 1 (.s 7) (.s 6)⟩] [1, 2, 3])
  (.seq (.reg [ ⟨some 8, none, .faddr 1 (.s 1)⟩, ⟨some 9, none, .load none (.s 8)⟩, ⟨some 10, none, .call 59 [.s 9]⟩, ⟨some 11, none, .faddr 1 (.s 3)⟩, ⟨none, none, .store 1 (.s 11) (.s 10)⟩] [2, 3])
  (.seq (.reg [ ⟨some 12, none, .load (some 2) (.s 3)⟩, ⟨none, none, .store 2 (.s 2) (.s 12)⟩] [2])
  (.ret)))))⟩
theorem Zbd5 : tbl 58 = some Z19 := tblOf_eq Tryz.func58 (by kernel_rfl) (by kernel_rfl)
def Znm : MCode :=
  .seq (.seq (.reg [ ⟨some 8, none, .mov (.s 4)⟩, ⟨some 9, none, .mov (.s 0)⟩, ⟨some 10, none, .len false (.s 9)⟩, ⟨some 11, none, .bin .lss (.s 8) (.s 10)⟩] [0, 3, 4, 11])
  (.cond (.s 11)
    (.skip)
    (.exit 0)))
  (.seq (.block 1 (.reg [ ⟨some 14, none, .mov (.s 3)⟩, ⟨some 15, none, .mov (.s 4)⟩, ⟨some 16, none, .mov (.s 0)⟩, ⟨some 17, none, .mov (.s 4)⟩, ⟨some 18, none, .iaddr 1 (.s 16) (.s 17)⟩, ⟨some 19, none, .load none (.s 18)⟩, ⟨some 20, none, .iaddr 1 (.s 14) (.s 15)⟩, ⟨none, none, .store 1 (.s 20) (.s 19)⟩] [0, 3, 4]))
  (.reg [ ⟨some 12, none, .mov (.s 4)⟩, ⟨some 13, none, .bin .add (.s 12) (.c (.t (.int .i64 1)))⟩, ⟨some 4, none, .mov (.s 13)⟩] [0, 3, 4]))
def Z2a : MFun := ⟨1, 22, [.tmp 2],
  .seq (.reg [ ⟨some 2, none, .mov (.c (.t .nil))⟩] [0])
  (.seq (.reg [ ⟨some 5, none, .mov (.s 0)⟩, ⟨some 6, none, .len false (.s 5)⟩, ⟨some 7, none, .mkslice 3 1 8 [(.int .i64 0)] (.s 6) (.s 6)⟩, ⟨some 3, none, .mov (.s 7)⟩] [0, 3])
  (.seq (.seq (.reg [ ⟨some 4, none, .mov (.c (.t (.int .i64 0)))⟩] [0, 3, 4])
  (.block 0 (.loop [0, 3, 4] Znm)))
  (.seq (.reg [ ⟨some 21, none, .mov (.s 3)⟩, ⟨some 2, none, .mov (.s 21)⟩] [2])
  (.ret))))⟩
theorem Zbd6 : tbl 59 = some Z2a := tblOf_eq Tryz.func59 (by kernel_rfl) (by kernel_rfl)
def Z2b : MFun := ⟨2, 17, [.tmp 4],
  .seq (.reg [ ⟨some 2, none, .box (.s 0)⟩, ⟨some 3, none, .box (.s 1)⟩, ⟨some 4, none, .mov (.c (.t (.bool false)))⟩] [2, 3])
  (.seq (.seq (.reg [ ⟨some 5, none, .faddr 0 (.s 2)⟩, ⟨some 6, none, .load none (.s 5)⟩, ⟨some 7, none, .faddr 0 (.s 3)⟩, ⟨some 8, none, .load none (.s 7)⟩, ⟨some 9, none, .call 23 [.s 6, .s 8]⟩, ⟨some 10, none, .un .not (.s 9)⟩] [2, 3, 10])
  (.cond (.s 10)
    (.seq (.reg [ ⟨some 4, none, .mov (.c (.t (.bool false)))⟩] [4])
    (.ret))
    (.skip)))
  (.seq (.seq (.reg [ ⟨some 11, none, .faddr 1 (.s 2)⟩, ⟨some 12, none, .load none (.s 11)⟩, ⟨some 13, none, .faddr 1 (.s 3)⟩, ⟨some 14, none, .load none (.s 13)⟩, ⟨some 15, none, .call 23 [.s 12, .s 14]⟩, ⟨some 16, none, .un .not (.s 15)⟩] [16])
  (.cond (.s 16)
    (.seq (.reg [ ⟨some 4, none, .mov (.c (.t (.bool false)))⟩] [4])
    (.ret))
    (.skip)))
  (.seq (.reg [ ⟨some 4, none, .mov (.c (.t (.bool true)))⟩] [4])
  (.ret))))⟩
theorem Zbd7 : tbl 60 = some Z2b := tblOf_eq Tryz.func60 (by kernel_rfl) (by kernel_rfl)
def Z2c : MFun := ⟨2, 12, [.tmp 4],
  .seq (.reg [ ⟨some 2, none, .box (.s 0)⟩, ⟨some 4, none, .mov (.c (.t (.int .i64 0)))⟩] [1, 2])
  (.seq (.reg [ ⟨some 5, none, .faddr 5 (.s 2)⟩, ⟨some 6, none, .load none (.s 5)⟩, ⟨some 7, none, .mov (.s 1)⟩, ⟨some 8, none, .call 178 [.s 6, .s 7]⟩, ⟨some 1, none, .mov (.s 8)⟩] [1])
  (.seq (.seq (.reg [ ⟨some 9, none, .mov (.s 1)⟩, ⟨some 10, none, .bin .lss (.s 9) (.c (.t (.int .i64 0)))⟩] [1, 10])
  (.cond (.s 10)
    (.seq (.reg [ ⟨some 4, none, .mov (.c (.t (.int .i64 (-1))))⟩] [4])
    (.ret))
    (.skip)))
  (.seq (.reg [ ⟨some 11, none, .mov (.s 1)⟩, ⟨some 4, none, .mov (.s 11)⟩] [4])
  (.ret))))⟩
theorem Zbd8 : tbl 84 = some Z2c := tblOf_eq Tryz.func84 (by kernel_rfl) (by kernel_rfl)
def Zif : MCode :=
  .seq (.seq (.reg [ ⟨some 12, none, .mov (.s 5)⟩, ⟨some 13, none, .mov (.s 0)⟩, ⟨some 14, none, .len false (.s 13)⟩, ⟨some 15, none, .bin .lss (.s 12) (.s 14)⟩] [0, 1, 5, 15])
  (.cond (.s 15)
    (.skip)
    (.exit 0)))
  (.seq (.block 1 (.seq (.reg [ ⟨some 18, none, .mov (.s 0)⟩, ⟨some 19, none, .mov (.s 5)⟩, ⟨some 20, none, .iaddr 2 (.s 18) (.s 19)⟩, ⟨some 21, none, .load (some 2) (.s 20)⟩, ⟨some 22, none, .mov (.s 1)⟩, ⟨some 23, none, .call 179 [.s 21, .s 22]⟩, ⟨some 1, none, .mov (.s 23)⟩] [0, 1, 5])
  (.seq (.reg [ ⟨some 24, none, .mov (.s 1)⟩, ⟨some 25, none, .bin .lss (.s 24) (.c (.t (.int .i64 0)))⟩] [0, 1, 5, 25])
  (.cond (.s 25)
    (.seq (.reg [ ⟨some 4, none, .mov (.c (.t (.int .i64 (-1))))⟩] [4])
    (.ret))
    (.skip)))))
  (.reg [ ⟨some 16, none, .mov (.s 5)⟩, ⟨some 17, none, .bin .add (.s 16) (.c (.t (.int .i64 1)))⟩, ⟨some 5, none, .mov (.s 17)⟩] [0, 1, 5]))
def Z2d : MFun := ⟨2, 27, [.tmp 4],
  .seq (.reg [ ⟨some 4, none, .mov (.c (.t (.int .i64 0)))⟩] [0, 1])
  (.seq (.reg [ ⟨some 6, none, .mov (.s 1)⟩, ⟨some 7, none, .mov (.s 0)⟩, ⟨some 8, none, .len false (.s 7)⟩, ⟨some 9, none, .bin .sub (.s 6) (.s 8)⟩, ⟨some 1, none, .mov (.s 9)⟩] [0, 1])
  (.seq (.seq (.reg [ ⟨some 10, none, .mov (.s 1)⟩, ⟨some 11, none, .bin .lss (.s 10) (.c (.t (.int .i64 0)))⟩] [0, 1, 11])
  (.cond (.s 11)
    (.seq (.reg [ ⟨some 4, none, .mov (.c (.t (.int .i64 (-1))))⟩] [4])
    (.ret))
    (.skip)))
  (.seq (.seq (.reg [ ⟨some 5, none, .mov (.c (.t (.int .i64 0)))⟩] [0, 1, 5])
  (.block 0 (.loop [0, 1, 5] Zif)))
  (.seq (.reg [ ⟨some 26, none, .mov (.s 1)⟩, ⟨some 4, none, .mov (.s 26)⟩] [4])
  (.ret)))))⟩
theorem Zbd9 : tbl 85 = some Z2d := tblOf_eq Tryz.func85 (by kernel_rfl) (by kernel_rfl)
def Z2e : MFun := ⟨2, 12, [.tmp 4],
  .seq (.reg [ ⟨some 4, none, .mov (.c (.t (.int .i64 0)))⟩] [0, 1])
  (.seq (.reg [ ⟨some 5, none, .mov (.s 1)⟩, ⟨some 6, none, .mov (.s 0)⟩, ⟨some 7, none, .len false (.s 6)⟩, ⟨some 8, none, .bin .sub (.s 5) (.s 7)⟩, ⟨some 1, none, .mov (.s 8)⟩] [1])
  (.seq (.seq (.reg [ ⟨some 9, none, .mov (.s 1)⟩, ⟨some 10, none, .bin .lss (.s 9) (.c (.t (.int .i64 0)))⟩] [1, 10])
  (.cond (.s 10)
    (.seq (.reg [ ⟨some 4, none, .mov (.c (.t (.int .i64 (-1))))⟩] [4])
    (.ret))
    (.skip)))
  (.seq (.reg [ ⟨some 11, none, .mov (.s 1)⟩, ⟨some 4, none, .mov (.s 11)⟩] [4])
  (.ret))))⟩
theorem Zbea : tbl 86 = some Z2e := tblOf_eq Tryz.func86 (by kernel_rfl) (by kernel_rfl)
def Z2f : MFun := ⟨1, 24, [.cell 2 (some 6)],
  .seq (.reg [ ⟨some 1, none, .box (.s 0)⟩, ⟨some 2, none, .alloc [(.t (.int .i64 0)), (.t (.int .i64 0)), (.t (.int .i64 0)), (.t (.int .i64 0)), (.t (.int .i64 0)), (.t .nil)]⟩] [1, 2])
  (.seq (.reg [ ⟨some 3, none, .alloc [(.t (.int .i64 0)), (.t (.int .i64 0)), (.t (.int .i64 0)), (.t (.int .i64 0)), (.t (.int .i64 0)), (.t .nil)]⟩] [1, 2, 3])
  (.seq (.reg [ ⟨some 4, none, .faddr 0 (.s 1)⟩, ⟨some 5, none, .load none (.s 4)⟩, ⟨some 6, none, .faddr 0 (.s 3)⟩, ⟨none, none, .store 1 (.s 6) (.s 5)⟩] [1, 2, 3])
  (.seq (.reg [ ⟨some 7, none, .faddr 1 (.s 1)⟩, ⟨some 8, none, .load none (.s 7)⟩, ⟨some 9, none, .faddr 1 (.s 3)⟩, ⟨none, none, .store 1 (.s 9) (.s 8)⟩] [1, 2, 3])
  (.seq (.reg [ ⟨some 10, none, .faddr 2 (.s 1)⟩, ⟨some 11, none, .load none (.s 10)⟩, ⟨some 12, none, .faddr 2 (.s 3)⟩, ⟨none, none, .store 1 (.s 12) (.s 11)⟩] [1, 2, 3])
  (.seq (.reg [ ⟨some 13, none, .faddr 3 (.s 1)⟩, ⟨some 14, none, .load none (.s 13)⟩, ⟨some 15, none, .faddr 3 (.s 3)⟩, ⟨none, none, .store 1 (.s 15) (.s 14)⟩] [1, 2, 3])
  (.seq (.reg [ ⟨some 16, none, .faddr 4 (.s 1)⟩, ⟨some 17, none, .load none (.s 16)⟩, ⟨some 18, none, .faddr 4 (.s 3)⟩, ⟨none, none, .store 1 (.s 18) (.s 17)⟩] [1, 2, 3])
  (.seq (.reg [ ⟨some 19, none, .faddr 5 (.s 1)⟩, ⟨some 20, none, .load none (.s 19)⟩, ⟨some 21, none, .call 186 [.s 20]⟩, ⟨some 22, none, .faddr 5 (.s 3)⟩, ⟨none, none, .store 1 (.s 22) (.s 21)⟩] [2, 3])
  (.seq (.reg [ ⟨some 23, none, .load (some 6) (.s 3)⟩, ⟨none, none, .store 6 (.s 2) (.s 23)⟩] [2])
  (.ret)))))))))⟩
theorem Zbeb : tbl 95 = some Z2f := tblOf_eq Tryz.func95 (by kernel_rfl) (by kernel_rfl)
def Znn : MCode :=
  .seq (.seq (.reg [ ⟨some 8, none, .mov (.s 4)⟩, ⟨some 9, none, .mov (.s 0)⟩, ⟨some 10, none, .len false (.s 9)⟩, ⟨some 11, none, .bin .lss (.s 8) (.s 10)⟩] [0, 3, 4, 11])
  (.cond (.s 11)
    (.skip)
    (.exit 0)))
  (.seq (.block 1 (.reg [ ⟨some 14, none, .mov (.s 3)⟩, ⟨some 15, none, .mov (.s 4)⟩, ⟨some 16, none, .mov (.s 0)⟩, ⟨some 17, none, .mov (.s 4)⟩, ⟨some 18, none, .iaddr 2 (.s 16) (.s 17)⟩, ⟨some 19, none, .load (some 2) (.s 18)⟩, ⟨some 20, none, .call 187 [.s 19]⟩, ⟨some 21, none, .iaddr 2 (.s 14) (.s 15)⟩, ⟨none, none, .store 2 (.s 21) (.s 20)⟩] [0, 3, 4]))
  (.reg [ ⟨some 12, none, .mov (.s 4)⟩, ⟨some 13, none, .bin .add (.s 12) (.c (.t (.int .i64 1)))⟩, ⟨some 4, none, .mov (.s 13)⟩] [0, 3, 4]))
def Z2g : MFun := ⟨1, 23, [.tmp 2],
  .seq (.reg [ ⟨some 2, none, .mov (.c (.t .nil))⟩] [0])
  (.seq (.reg [ ⟨some 5, none, .mov (.s 0)⟩, ⟨some 6, none, .len false (.s 5)⟩, ⟨some 7, none, .mkslice 223 2 40 [(.str ⟨#[]⟩), (.lst 1 [])] (.s 6) (.s 6)⟩, ⟨some 3, none, .mov (.s 7)⟩] [0, 3])
  (.seq (.seq (.reg [ ⟨some 4, none, .mov (.c (.t (.int .i64 0)))⟩] [0, 3, 4])
  (.block 0 (.loop [0, 3, 4] Znn)))
  (.seq (.reg [ ⟨some 22, none, .mov (.s 3)⟩, ⟨some 2, none, .mov (.s 22)⟩] [2])
  (.ret))))⟩
theorem Zbec : tbl 96 = some Z2g := tblOf_eq Tryz.func96 (by kernel_rfl) (by kernel_rfl)
def Zno : MCode :=
  .seq (.seq (.reg [ ⟨some 8, none, .mov (.s 4)⟩, ⟨some 9, none, .mov (.s 0)⟩, ⟨some 10, none, .len false (.s 9)⟩, ⟨some 11, none, .bin .lss (.s 8) (.s 10)⟩] [0, 3, 4, 11])
  (.cond (.s 11)
    (.skip)
    (.exit 0)))
  (.seq (.block 1 (.reg [ ⟨some 14, none, .mov (.s 3)⟩, ⟨some 15, none, .mov (.s 4)⟩, ⟨some 16, none, .mov (.s 0)⟩, ⟨some 17, none, .mov (.s 4)⟩, ⟨some 18, none, .iaddr 3 (.s 16) (.s 17)⟩, ⟨some 19, none, .load (some 3) (.s 18)⟩, ⟨some 20, none, .call 188 [.s 19]⟩, ⟨some 21, none, .iaddr 3 (.s 14) (.s 15)⟩, ⟨none, none, .store 3 (.s 21) (.s 20)⟩] [0, 3, 4]))
  (.reg [ ⟨some 12, none, .mov (.s 4)⟩, ⟨some 13, none, .bin .add (.s 12) (.c (.t (.int .i64 1)))⟩, ⟨some 4, none, .mov (.s 13)⟩] [0, 3, 4]))
def Z2h : MFun := ⟨1, 23, [.tmp 2],
  .seq (.reg [ ⟨some 2, none, .mov (.c (.t .nil))⟩] [0])
  (.seq (.reg [ ⟨some 5, none, .mov (.s 0)⟩, ⟨some 6, none, .len false (.s 5)⟩, ⟨some 7, none, .mkslice 142 3 24 [(.int .i64 0), (.int .i64 0), (.int .i64 0)] (.s 6) (.s 6)⟩, ⟨some 3, none, .mov (.s 7)⟩] [0, 3])
  (.seq (.seq (.reg [ ⟨some 4, none, .mov (.c (.t (.int .i64 0)))⟩] [0, 3, 4])
  (.block 0 (.loop [0, 3, 4] Zno)))
  (.seq (.reg [ ⟨some 22, none, .mov (.s 3)⟩, ⟨some 2, none, .mov (.s 22)⟩] [2])
  (.ret))))⟩
theorem Zbed : tbl 97 = some Z2h := tblOf_eq Tryz.func97 (by kernel_rfl) (by kernel_rfl)
def Z2i : MFun := ⟨2, 36, [.tmp 4],
  .seq (.reg [ ⟨some 2, none, .box (.s 0)⟩, ⟨some 3, none, .box (.s 1)⟩, ⟨some 4, none, .mov (.c (.t (.bool false)))⟩] [2, 3])
  (.seq (.seq (.reg [ ⟨some 5, none, .faddr 0 (.s 2)⟩, ⟨some 6, none, .load none (.s 5)⟩, ⟨some 7, none, .faddr 0 (.s 3)⟩, ⟨some 8, none, .load none (.s 7)⟩, ⟨some 9, none, .bin .neq (.s 6) (.s 8)⟩] [2, 3, 9])
  (.cond (.s 9)
    (.seq (.reg [ ⟨some 4, none, .mov (.c (.t (.bool false)))⟩] [4])
    (.ret))
    (.skip)))
  (.seq (.seq (.reg [ ⟨some 10, none, .faddr 1 (.s 2)⟩, ⟨some 11, none, .load none (.s 10)⟩, ⟨some 12, none, .faddr 1 (.s 3)⟩, ⟨some 13, none, .load none (.s 12)⟩, ⟨some 14, none, .bin .neq (.s 11) (.s 13)⟩] [2, 3, 14])
  (.cond (.s 14)
    (.seq (.reg [ ⟨some 4, none, .mov (.c (.t (.bool false)))⟩] [4])
    (.ret))
    (.skip)))
  (.seq (.seq (.reg [ ⟨some 15, none, .faddr 2 (.s 2)⟩, ⟨some 16, none, .load none (.s 15)⟩, ⟨some 17, none, .faddr 2 (.s 3)⟩, ⟨some 18, none, .load none (.s 17)⟩, ⟨some 19, none, .bin .neq (.s 16) (.s 18)⟩] [2, 3, 19])
  (.cond (.s 19)
    (.seq (.reg [ ⟨some 4, none, .mov (.c (.t (.bool false)))⟩] [4])
    (.ret))
    (.skip)))
  (.seq (.seq (.reg [ ⟨some 20, none, .faddr 3 (.s 2)⟩, ⟨some 21, none, .load none (.s 20)⟩, ⟨some 22, none, .faddr 3 (.s 3)⟩, ⟨some 23, none, .load none (.s 22)⟩, ⟨some 24, none, .bin .neq (.s 21) (.s 23)⟩] [2, 3, 24])
  (.cond (.s 24)
    (.seq (.reg [ ⟨some 4, none, .mov (.c (.t (.bool false)))⟩] [4])
    (.ret))
    (.skip)))
  (.seq (.seq (.reg [ ⟨some 25, none, .faddr 4 (.s 2)⟩, ⟨some 26, none, .load none (.s 25)⟩, ⟨some 27, none, .faddr 4 (.s 3)⟩, ⟨some 28, none, .load none (.s 27)⟩, ⟨some 29, none, .bin .neq (.s 26) (.s 28)⟩] [2, 3, 29])
  (.cond (.s 29)
    (.seq (.reg [ ⟨some 4, none, .mov (.c (.t (.bool false)))⟩] [4])
    (.ret))
    (.skip)))
  (.seq (.seq (.reg [ ⟨some 30, none, .faddr 5 (.s 2)⟩, ⟨some 31, none, .load none (.s 30)⟩, ⟨some 32, none, .faddr 5 (.s 3)⟩, ⟨some 33, none, .load none (.s 32)⟩, ⟨some 34, none, .call 197 [.s 31, .s 33]⟩, ⟨some 35, none, .un .not (.s 34)⟩] [35])
  (.cond (.s 35)
    (.seq (.reg [ ⟨some 4, none, .mov (.c (.t (.bool false)))⟩] [4])
    (.ret))
    (.skip)))
  (.seq (.reg [ ⟨some 4, none, .mov (.c (.t (.bool true)))⟩] [4])
  (.ret))))))))⟩
theorem Zbee : tbl 109 = some Z2i := tblOf_eq Tryz.func109 (by kernel_rfl) (by kernel_rfl)
def Znp : MCode :=
  .seq (.seq (.reg [ ⟨some 11, none, .mov (.s 5)⟩, ⟨some 12, none, .mov (.s 0)⟩, ⟨some 13, none, .len false (.s 12)⟩, ⟨some 14, none, .bin .lss (.s 11) (.s 13)⟩] [0, 1, 5, 14])
  (.cond (.s 14)
    (.skip)
    (.exit 0)))
  (.seq (.block 1 (.seq (.drw [ ⟨some 17, none, .mov (.s 0)⟩, ⟨some 18, none, .mov (.s 5)⟩, ⟨some 19, none, .iaddr 2 (.s 17) (.s 18)⟩, ⟨some 20, none, .load (some 2) (.s 19)⟩, ⟨some 21, none, .mov (.s 1)⟩, ⟨some 22, none, .mov (.s 5)⟩, ⟨some 23, none, .iaddr 2 (.s 21) (.s 22)⟩, ⟨some 24, none, .load (some 2) (.s 23)⟩, ⟨some 25, none, .call 198 [.s 20, .s 24]⟩, ⟨some 26, none, .un .not (.s 25)⟩] [[], [], [0, 1], [2], [], [], [4, 5], [6], [3, 7], [8]] [0, 1, 5, 26])
  (.cond (.s 26)
    (.seq (.reg [ ⟨some 4, none, .mov (.c (.t (.bool false)))⟩] [4])
    (.ret))
    (.skip))))
  (.reg [ ⟨some 15, none, .mov (.s 5)⟩, ⟨some 16, none, .bin .add (.s 15) (.c (.t (.int .i64 1)))⟩, ⟨some 5, none, .mov (.s 16)⟩] [0, 1, 5]))
def Zsv : MFun := ⟨2, 27, [.tmp 4],
  .seq (.reg [ ⟨some 4, none, .mov (.c (.t (.bool false)))⟩] [0, 1])
  (.seq (.seq (.reg [ ⟨some 6, none, .mov (.s 0)⟩, ⟨some 7, none, .len false (.s 6)⟩, ⟨some 8, none, .mov (.s 1)⟩, ⟨some 9, none, .len false (.s 8)⟩, ⟨some 10, none, .bin .neq (.s 7) (.s 9)⟩] [0, 1, 10])
  (.cond (.s 10)
    (.seq (.reg [ ⟨some 4, none, .mov (.c (.t (.bool false)))⟩] [4])
    (.ret))
    (.skip)))
  (.seq (.seq (.reg [ ⟨some 5, none, .mov (.c (.t (.int .i64 0)))⟩] [0, 1, 5])
  (.block 0 (.loop [0, 1, 5] Znp)))
  (.seq (.reg [ ⟨some 4, none, .mov (.c (.t (.bool true)))⟩] [4])
  (.ret))))⟩
theorem Zbef : tbl 110 = some Zsv := tblOf_eq Tryz.func110 (by kernel_rfl) (by kernel_rfl)
def Znq : MCode :=
  .seq (.seq (.reg [ ⟨some 11, none, .mov (.s 5)⟩, ⟨some 12, none, .mov (.s 0)⟩, ⟨some 13, none, .len false (.s 12)⟩, ⟨some 14, none, .bin .lss (.s 11) (.s 13)⟩] [0, 1, 5, 14])
  (.cond (.s 14)
    (.skip)
    (.exit 0)))
  (.seq (.block 1 (.seq (.drw [ ⟨some 17, none, .mov (.s 0)⟩, ⟨some 18, none, .mov (.s 5)⟩, ⟨some 19, none, .iaddr 3 (.s 17) (.s 18)⟩, ⟨some 20, none, .load (some 3) (.s 19)⟩, ⟨some 21, none, .mov (.s 1)⟩, ⟨some 22, none, .mov (.s 5)⟩, ⟨some 23, none, .iaddr 3 (.s 21) (.s 22)⟩, ⟨some 24, none, .load (some 3) (.s 23)⟩, ⟨some 25, none, .call 199 [.s 20, .s 24]⟩, ⟨some 26, none, .un .not (.s 25)⟩] [[], [], [0, 1], [2], [], [], [4, 5], [6], [3, 7], [8]] [0, 1, 5, 26])
  (.cond (.s 26)
    (.seq (.reg [ ⟨some 4, none, .mov (.c (.t (.bool false)))⟩] [4])
    (.ret))
    (.skip))))
  (.reg [ ⟨some 15, none, .mov (.s 5)⟩, ⟨some 16, none, .bin .add (.s 15) (.c (.t (.int .i64 1)))⟩, ⟨some 5, none, .mov (.s 16)⟩] [0, 1, 5]))
def Zsw : MFun := ⟨2, 27, [.tmp 4],
  .seq (.reg [ ⟨some 4, none, .mov (.c (.t (.bool false)))⟩] [0, 1])
  (.seq (.seq (.reg [ ⟨some 6, none, .mov (.s 0)⟩, ⟨some 7, none, .len false (.s 6)⟩, ⟨some 8, none, .mov (.s 1)⟩, ⟨some 9, none, .len false (.s 8)⟩, ⟨some 10, none, .bin .neq (.s 7) (.s 9)⟩] [0, 1, 10])
  (.cond (.s 10)
    (.seq (.reg [ ⟨some 4, none, .mov (.c (.t (.bool false)))⟩] [4])
    (.ret))
    (.skip)))
  (.seq (.seq (.reg [ ⟨some 5, none, .mov (.c (.t (.int .i64 0)))⟩] [0, 1, 5])
  (.block 0 (.loop [0, 1, 5] Znq)))
  (.seq (.reg [ ⟨some 4, none, .mov (.c (.t (.bool true)))⟩] [4])
  (.ret))))⟩
theorem Zbeg : tbl 111 = some Zsw := tblOf_eq Tryz.func111 (by kernel_rfl) (by kernel_rfl)
def Z2j : MFun := ⟨2, 12, [.tmp 4],
  .seq (.reg [ ⟨some 4, none, .mov (.c (.t (.int .i64 0)))⟩] [0, 1])
  (.seq (.reg [ ⟨some 5, none, .mov (.s 1)⟩, ⟨some 6, none, .mov (.s 0)⟩, ⟨some 7, none, .len false (.s 6)⟩, ⟨some 8, none, .bin .sub (.s 5) (.s 7)⟩, ⟨some 1, none, .mov (.s 8)⟩] [1])
  (.seq (.seq (.reg [ ⟨some 9, none, .mov (.s 1)⟩, ⟨some 10, none, .bin .lss (.s 9) (.c (.t (.int .i64 0)))⟩] [1, 10])
  (.cond (.s 10)
    (.seq (.reg [ ⟨some 4, none, .mov (.c (.t (.int .i64 (-1))))⟩] [4])
    (.ret))
    (.skip)))
  (.seq (.reg [ ⟨some 11, none, .mov (.s 1)⟩, ⟨some 4, none, .mov (.s 11)⟩] [4])
  (.ret))))⟩
theorem Zbeh : tbl 151 = some Z2j := tblOf_eq Tryz.func151 (by kernel_rfl) (by kernel_rfl)
def Z2k : MFun := ⟨2, 12, [.tmp 4],
  .seq (.reg [ ⟨some 4, none, .mov (.c (.t (.int .i64 0)))⟩] [0, 1])
  (.seq (.reg [ ⟨some 5, none, .mov (.s 1)⟩, ⟨some 6, none, .mov (.s 0)⟩, ⟨some 7, none, .len false (.s 6)⟩, ⟨some 8, none, .bin .sub (.s 5) (.s 7)⟩, ⟨some 1, none, .mov (.s 8)⟩] [1])
  (.seq (.seq (.reg [ ⟨some 9, none, .mov (.s 1)⟩, ⟨some 10, none, .bin .lss (.s 9) (.c (.t (.int .i64 0)))⟩] [1, 10])
  (.cond (.s 10)
    (.seq (.reg [ ⟨some 4, none, .mov (.c (.t (.int .i64 (-1))))⟩] [4])
    (.ret))
    (.skip)))
  (.seq (.reg [ ⟨some 11, none, .mov (.s 1)⟩, ⟨some 4, none, .mov (.s 11)⟩] [4])
  (.ret))))⟩
theorem Zbei : tbl 178 = some Z2k := tblOf_eq Tryz.func178 (by kernel_rfl) (by kernel_rfl)
def Z2l : MFun := ⟨2, 19, [.tmp 4],
  .seq (.reg [ ⟨some 2, none, .box (.s 0)⟩, ⟨some 4, none, .mov (.c (.t (.int .i64 0)))⟩] [1, 2])
  (.seq (.reg [ ⟨some 5, none, .mov (.s 1)⟩, ⟨some 6, none, .faddr 0 (.s 2)⟩, ⟨some 7, none, .load none (.s 6)⟩, ⟨some 8, none, .len true (.s 7)⟩, ⟨some 9, none, .bin .sub (.s 5) (.s 8)⟩, ⟨some 1, none, .mov (.s 9)⟩] [1, 2])
  (.seq (.seq (.reg [ ⟨some 10, none, .mov (.s 1)⟩, ⟨some 11, none, .bin .lss (.s 10) (.c (.t (.int .i64 0)))⟩] [1, 2, 11])
  (.cond (.s 11)
    (.seq (.reg [ ⟨some 4, none, .mov (.c (.t (.int .i64 (-1))))⟩] [4])
    (.ret))
    (.skip)))
  (.seq (.reg [ ⟨some 12, none, .faddr 1 (.s 2)⟩, ⟨some 13, none, .load none (.s 12)⟩, ⟨some 14, none, .mov (.s 1)⟩, ⟨some 15, none, .call 151 [.s 13, .s 14]⟩, ⟨some 1, none, .mov (.s 15)⟩] [1])
  (.seq (.seq (.reg [ ⟨some 16, none, .mov (.s 1)⟩, ⟨some 17, none, .bin .lss (.s 16) (.c (.t (.int .i64 0)))⟩] [1, 17])
  (.cond (.s 17)
    (.seq (.reg [ ⟨some 4, none, .mov (.c (.t (.int .i64 (-1))))⟩] [4])
    (.ret))
    (.skip)))
  (.seq (.reg [ ⟨some 18, none, .mov (.s 1)⟩, ⟨some 4, none, .mov (.s 18)⟩] [4])
  (.ret))))))⟩
theorem Zbej : tbl 179 = some Z2l := tblOf_eq Tryz.func179 (by kernel_rfl) (by kernel_rfl)
def Znr : MCode :=
  .seq (.seq (.reg [ ⟨some 8, none, .mov (.s 4)⟩, ⟨some 9, none, .mov (.s 0)⟩, ⟨some 10, none, .len false (.s 9)⟩, ⟨some 11, none, .bin .lss (.s 8) (.s 10)⟩] [0, 3, 4, 11])
  (.cond (.s 11)
    (.skip)
    (.exit 0)))
  (.seq (.block 1 (.reg [ ⟨some 14, none, .mov (.s 3)⟩, ⟨some 15, none, .mov (.s 4)⟩, ⟨some 16, none, .mov (.s 0)⟩, ⟨some 17, none, .mov (.s 4)⟩, ⟨some 18, none, .iaddr 2 (.s 16) (.s 17)⟩, ⟨some 19, none, .load (some 2) (.s 18)⟩, ⟨some 20, none, .call 256 [.s 19]⟩, ⟨some 21, none, .iaddr 2 (.s 14) (.s 15)⟩, ⟨none, none, .store 2 (.s 21) (.s 20)⟩] [0, 3, 4]))
  (.reg [ ⟨some 12, none, .mov (.s 4)⟩, ⟨some 13, none, .bin .add (.s 12) (.c (.t (.int .i64 1)))⟩, ⟨some 4, none, .mov (.s 13)⟩] [0, 3, 4]))
def Z2m : MFun := ⟨1, 23, [.tmp 2],
  .seq (.reg [ ⟨some 2, none, .mov (.c (.t .nil))⟩] [0])
  (.seq (.reg [ ⟨some 5, none, .mov (.s 0)⟩, ⟨some 6, none, .len false (.s 5)⟩, ⟨some 7, none, .mkslice 221 2 16 [(.int .i64 0), (.int .i64 0)] (.s 6) (.s 6)⟩, ⟨some 3, none, .mov (.s 7)⟩] [0, 3])
  (.seq (.seq (.reg [ ⟨some 4, none, .mov (.c (.t (.int .i64 0)))⟩] [0, 3, 4])
  (.block 0 (.loop [0, 3, 4] Znr)))
  (.seq (.reg [ ⟨some 22, none, .mov (.s 3)⟩, ⟨some 2, none, .mov (.s 22)⟩] [2])
  (.ret))))⟩
theorem Zbek : tbl 186 = some Z2m := tblOf_eq Tryz.func186 (by kernel_rfl) (by kernel_rfl)
def Z2n : MFun := ⟨1, 12, [.cell 2 (some 2)],
  .seq (.reg [ ⟨some 1, none, .box (.s 0)⟩, ⟨some 2, none, .alloc [(.t (.str ⟨#[]⟩)), (.t .nil)]⟩] [1, 2])
  (.seq (.reg [ ⟨some 3, none, .alloc [(.t (.str ⟨#[]⟩)), (.t .nil)]⟩] [1, 2, 3])
  (.seq (.reg [ ⟨some 4, none, .faddr 0 (.s 1)⟩, ⟨some 5, none, .load none (.s 4)⟩, ⟨some 6, none, .faddr 0 (.s 3)⟩, ⟨none, none, .store 1 (.s 6) (.s 5)⟩] [1, 2, 3])
  (.seq (.reg [ ⟨some 7, none, .faddr 1 (.s 1)⟩, ⟨some 8, none, .load none (.s 7)⟩, ⟨some 9, none, .call 59 [.s 8]⟩, ⟨some 10, none, .faddr 1 (.s 3)⟩, ⟨none, none, .store 1 (.s 10) (.s 9)⟩] [2, 3])
  (.seq (.reg [ ⟨some 11, none, .load (some 2) (.s 3)⟩, ⟨none, none, .store 2 (.s 2) (.s 11)⟩] [2])
  (.ret)))))⟩
theorem Zbel : tbl 187 = some Z2n := tblOf_eq Tryz.func187 (by kernel_rfl) (by kernel_rfl)
def Z2o : MFun := ⟨1, 14, [.cell 2 (some 3)],
  .seq (.reg [ ⟨some 1, none, .box (.s 0)⟩, ⟨some 2, none, .alloc [(.t (.int .i64 0)), (.t (.int .i64 0)), (.t (.int .i64 0))]⟩] [1, 2])
  (.seq (.reg [ ⟨some 3, none, .alloc [(.t (.int .i64 0)), (.t (.int .i64 0)), (.t (.int .i64 0))]⟩] [1, 2, 3])
  (.seq (.reg [ ⟨some 4, none, .faddr 0 (.s 1)⟩, ⟨some 5, none, .load none (.s 4)⟩, ⟨some 6, none, .faddr 0 (.s 3)⟩, ⟨none, none, .store 1 (.s 6) (.s 5)⟩] [1, 2, 3])
  (.seq (.reg [ ⟨some 7, none, .faddr 1 (.s 1)⟩, ⟨some 8, none, .load none (.s 7)⟩, ⟨some 9, none, .faddr 1 (.s 3)⟩, ⟨none, none, .store 1 (.s 9) (.s 8)⟩] [1, 2, 3])
  (.seq (.reg [ ⟨some 10, none, .faddr 2 (.s 1)⟩, ⟨some 11, none, .load none (.s 10)⟩, ⟨some 12, none, .faddr 2 (.s 3)⟩, ⟨none, none, .store 1 (.s 12) (.s 11)⟩] [2, 3])
  (.seq (.reg [ ⟨some 13, none, .load (some 3) (.s 3)⟩, ⟨none, none, .store 3 (.s 2) (.s 13)⟩] [2])
  (.ret))))))⟩
theorem Zbem : tbl 188 = some Z2o := tblOf_eq Tryz.func188 (by kernel_rfl) (by kernel_rfl)
def Zns : MCode :=
  .seq (.seq (.reg [ ⟨some 11, none, .mov (.s 5)⟩, ⟨some 12, none, .mov (.s 0)⟩, ⟨some 13, none, .len false (.s 12)⟩, ⟨some 14, none, .bin .lss (.s 11) (.s 13)⟩] [0, 1, 5, 14])
  (.cond (.s 14)
    (.skip)
    (.exit 0)))
  (.seq (.block 1 (.seq (.drw [ ⟨some 17, none, .mov (.s 0)⟩, ⟨some 18, none, .mov (.s 5)⟩, ⟨some 19, none, .iaddr 2 (.s 17) (.s 18)⟩, ⟨some 20, none, .load (some 2) (.s 19)⟩, ⟨some 21, none, .mov (.s 1)⟩, ⟨some 22, none, .mov (.s 5)⟩, ⟨some 23, none, .iaddr 2 (.s 21) (.s 22)⟩, ⟨some 24, none, .load (some 2) (.s 23)⟩, ⟨some 25, none, .call 266 [.s 20, .s 24]⟩, ⟨some 26, none, .un .not (.s 25)⟩] [[], [], [0, 1], [2], [], [], [4, 5], [6], [3, 7], [8]] [0, 1, 5, 26])
  (.cond (.s 26)
    (.seq (.reg [ ⟨some 4, none, .mov (.c (.t (.bool false)))⟩] [4])
    (.ret))
    (.skip))))
  (.reg [ ⟨some 15, none, .mov (.s 5)⟩, ⟨some 16, none, .bin .add (.s 15) (.c (.t (.int .i64 1)))⟩, ⟨some 5, none, .mov (.s 16)⟩] [0, 1, 5]))
def Zsx : MFun := ⟨2, 27, [.tmp 4],
  .seq (.reg [ ⟨some 4, none, .mov (.c (.t (.bool false)))⟩] [0, 1])
  (.seq (.seq (.reg [ ⟨some 6, none, .mov (.s 0)⟩, ⟨some 7, none, .len false (.s 6)⟩, ⟨some 8, none, .mov (.s 1)⟩, ⟨some 9, none, .len false (.s 8)⟩, ⟨some 10, none, .bin .neq (.s 7) (.s 9)⟩] [0, 1, 10])
  (.cond (.s 10)
    (.seq (.reg [ ⟨some 4, none, .mov (.c (.t (.bool false)))⟩] [4])
    (.ret))
    (.skip)))
  (.seq (.seq (.reg [ ⟨some 5, none, .mov (.c (.t (.int .i64 0)))⟩] [0, 1, 5])
  (.block 0 (.loop [0, 1, 5] Zns)))
  (.seq (.reg [ ⟨some 4, none, .mov (.c (.t (.bool true)))⟩] [4])
  (.ret))))⟩
theorem Zben : tbl 197 = some Zsx := tblOf_eq Tryz.func197 (by kernel_rfl) (by kernel_rfl)
def Z2p : MFun := ⟨2, 16, [.tmp 4],
  .seq (.reg [ ⟨some 2, none, .box (.s 0)⟩, ⟨some 3, none, .box (.s 1)⟩, ⟨some 4, none, .mov (.c (.t (.bool false)))⟩] [2, 3])
  (.seq (.seq (.reg [ ⟨some 5, none, .faddr 0 (.s 2)⟩, ⟨some 6, none, .load none (.s 5)⟩, ⟨some 7, none, .faddr 0 (.s 3)⟩, ⟨some 8, none, .load none (.s 7)⟩, ⟨some 9, none, .bin .neq (.s 6) (.s 8)⟩] [2, 3, 9])
  (.cond (.s 9)
    (.seq (.reg [ ⟨some 4, none, .mov (.c (.t (.bool false)))⟩] [4])
    (.ret))
    (.skip)))
  (.seq (.seq (.reg [ ⟨some 10, none, .faddr 1 (.s 2)⟩, ⟨some 11, none, .load none (.s 10)⟩, ⟨some 12, none, .faddr 1 (.s 3)⟩, ⟨some 13, none, .load none (.s 12)⟩, ⟨some 14, none, .call 23 [.s 11, .s 13]⟩, ⟨some 15, none, .un .not (.s 14)⟩] [15])
  (.cond (.s 15)
    (.seq (.reg [ ⟨some 4, none, .mov (.c (.t (.bool false)))⟩] [4])
    (.ret))
    (.skip)))
  (.seq (.reg [ ⟨some 4, none, .mov (.c (.t (.bool true)))⟩] [4])
  (.ret))))⟩
theorem Zbeo : tbl 198 = some Z2p := tblOf_eq Tryz.func198 (by kernel_rfl) (by kernel_rfl)
def Z2q : MFun := ⟨2, 20, [.tmp 4],
  .seq (.reg [ ⟨some 2, none, .box (.s 0)⟩, ⟨some 3, none, .box (.s 1)⟩, ⟨some 4, none, .mov (.c (.t (.bool false)))⟩] [2, 3])
  (.seq (.seq (.reg [ ⟨some 5, none, .faddr 0 (.s 2)⟩, ⟨some 6, none, .load none (.s 5)⟩, ⟨some 7, none, .faddr 0 (.s 3)⟩, ⟨some 8, none, .load none (.s 7)⟩, ⟨some 9, none, .bin .neq (.s 6) (.s 8)⟩] [2, 3, 9])
  (.cond (.s 9)
    (.seq (.reg [ ⟨some 4, none, .mov (.c (.t (.bool false)))⟩] [4])
    (.ret))
    (.skip)))
  (.seq (.seq (.reg [ ⟨some 10, none, .faddr 1 (.s 2)⟩, ⟨some 11, none, .load none (.s 10)⟩, ⟨some 12, none, .faddr 1 (.s 3)⟩, ⟨some 13, none, .load none (.s 12)⟩, ⟨some 14, none, .bin .neq (.s 11) (.s 13)⟩] [2, 3, 14])
  (.cond (.s 14)
    (.seq (.reg [ ⟨some 4, none, .mov (.c (.t (.bool false)))⟩] [4])
    (.ret))
    (.skip)))
  (.seq (.seq (.reg [ ⟨some 15, none, .faddr 2 (.s 2)⟩, ⟨some 16, none, .load none (.s 15)⟩, ⟨some 17, none, .faddr 2 (.s 3)⟩, ⟨some 18, none, .load none (.s 17)⟩, ⟨some 19, none, .bin .neq (.s 16) (.s 18)⟩] [19])
  (.cond (.s 19)
    (.seq (.reg [ ⟨some 4, none, .mov (.c (.t (.bool false)))⟩] [4])
    (.ret))
    (.skip)))
  (.seq (.reg [ ⟨some 4, none, .mov (.c (.t (.bool true)))⟩] [4])
  (.ret)))))⟩
theorem Zbep : tbl 199 = some Z2q := tblOf_eq Tryz.func199 (by kernel_rfl) (by kernel_rfl)
def Z2r : MFun := ⟨1, 11, [.cell 2 (some 2)],
  .seq (.reg [ ⟨some 1, none, .box (.s 0)⟩, ⟨some 2, none, .alloc [(.t (.int .i64 0)), (.t (.int .i64 0))]⟩] [1, 2])
  (.seq (.reg [ ⟨some 3, none, .alloc [(.t (.int .i64 0)), (.t (.int .i64 0))]⟩] [1, 2, 3])
  (.seq (.reg [ ⟨some 4, none, .faddr 0 (.s 1)⟩, ⟨some 5, none, .load none (.s 4)⟩, ⟨some 6, none, .faddr 0 (.s 3)⟩, ⟨none, none, .store 1 (.s 6) (.s 5)⟩] [1, 2, 3])
  (.seq (.reg [ ⟨some 7, none, .faddr 1 (.s 1)⟩, ⟨some 8, none, .load none (.s 7)⟩, ⟨some 9, none, .faddr 1 (.s 3)⟩, ⟨none, none, .store 1 (.s 9) (.s 8)⟩] [2, 3])
  (.seq (.reg [ ⟨some 10, none, .load (some 2) (.s 3)⟩, ⟨none, none, .store 2 (.s 2) (.s 10)⟩] [2])
  (.ret)))))⟩
theorem Zbeq : tbl 256 = some Z2r := tblOf_eq Tryz.func256 (by kernel_rfl) (by kernel_rfl)
def Z2s : MFun := ⟨2, 15, [.tmp 4],
  .seq (.reg [ ⟨some 2, none, .box (.s 0)⟩, ⟨some 3, none, .box (.s 1)⟩, ⟨some 4, none, .mov (.c (.t (.bool false)))⟩] [2, 3])
  (.seq (.seq (.reg [ ⟨some 5, none, .faddr 0 (.s 2)⟩, ⟨some 6, none, .load none (.s 5)⟩, ⟨some 7, none, .faddr 0 (.s 3)⟩, ⟨some 8, none, .load none (.s 7)⟩, ⟨some 9, none, .bin .neq (.s 6) (.s 8)⟩] [2, 3, 9])
  (.cond (.s 9)
    (.seq (.reg [ ⟨some 4, none, .mov (.c (.t (.bool false)))⟩] [4])
    (.ret))
    (.skip)))
  (.seq (.seq (.reg [ ⟨some 10, none, .faddr 1 (.s 2)⟩, ⟨some 11, none, .load none (.s 10)⟩, ⟨some 12, none, .faddr 1 (.s 3)⟩, ⟨some 13, none, .load none (.s 12)⟩, ⟨some 14, none, .bin .neq (.s 11) (.s 13)⟩] [14])
  (.cond (.s 14)
    (.seq (.reg [ ⟨some 4, none, .mov (.c (.t (.bool false)))⟩] [4])
    (.ret))
    (.skip)))
  (.seq (.reg [ ⟨some 4, none, .mov (.c (.t (.bool true)))⟩] [4])
  (.ret))))⟩
theorem Zber : tbl 266 = some Z2s := tblOf_eq Tryz.func266 (by kernel_rfl) (by kernel_rfl)
end Go.Proofs.YtbapkgocloaaeaaGreat
/- part: FA -/
namespace Go.Proofs.YtbapkgocloaaeaaGreat
open Go.AM
theorem l_toIntS (xs : List Int) (h : SmA xs) (fr : List Fr) : ∀ i, i ≤ xs.length → EvL C fr [0, 3, 4] Znm ⟨[(0, L 1 (xs.map ic)), (3, .own 0), (4, I i)], [[]], [.arr Zs 1 true (fill ic [.int .i64 0] xs i)]⟩ =
    EvX C fr (.x 0) ⟨[(0, L 1 (xs.map ic)), (3, .own 0), (4, I xs.length), (11, Bo false)], [[]], [.arr Zs 1 true (xs.map ic)]⟩ := by
  have hl : xs.length ≤ 4294967296 := h
  refine down xs.length ?_ ?_
  · rw [EvL_eq Znm.eq_1]
    simp [fill_all]
  · intro i hi ih
    rw [EvL_eq Znm.eq_1, ← ih]
    have h1 := fill_set (f := ic) (z := [.int .i64 0]) hi
    have h3 := fill_len (f := ic) (z := [.int .i64 0]) (Nat.le_of_lt hi)
    have h4 : IntKind.wrap .i64 ((i : Int) + 1) = (i : Int) + 1 := wrap64 (by omega) (by omega)
    simp at h1
    simp [hi, h3, h4, h1]
theorem Zsy (xs : List Int) (h : SmA xs) : C Z3i [L 1 (xs.map ic)] [] = some (.own 0, [.arr Zs 1 true (xs.map ic)]) := by
  refine run Zbd6 rfl ?_
  have hl : xs.length ≤ 4294967296 := h
  have h1 : ∀ b, b ≤ 4096 → xs.length * b ≤ room := fun b hb => Nat.le_trans (Nat.mul_le_mul hl hb) (by decide)
  have h2 : (xs.length : Int) ≤ 140737488355328 := by omega
  have h3 := fun fr => l_toIntS xs h fr 0 (Nat.zero_le _)
  simp [fill_zero] at h3
  simp [Z2a, h1, h2, h3]
theorem l_eqIntS (xs ys : List Int) (h : SmA xs) (hl : ys.length = xs.length) (fr : List Fr) : ∀ i, i ≤ xs.length → EvL C fr [0, 1, 5] Znl ⟨[(0, L 1 (xs.map ic)), (1, L 1 (ys.map ic)), (5, I i)], [[]], []⟩ =
    if xs.drop i = ys.drop i then EvX C fr (.x 0) ⟨[(0, L 1 (xs.map ic)), (1, L 1 (ys.map ic)), (5, I xs.length), (14, Bo false)], [[]], []⟩ else EvX C fr .r ⟨[(4, Bo false)], [[]], []⟩ := by
  have hm : xs.length ≤ 4294967296 := h
  refine down xs.length ?_ ?_
  · rw [EvL_eq Znl.eq_1]
    simp [hl, List.drop_eq_nil_of_le]
  · intro i hi ih
    have hi2 : i < ys.length := by omega
    have h4 : IntKind.wrap .i64 ((i : Int) + 1) = (i : Int) + 1 := wrap64 (by omega) (by omega)
    rw [EvL_eq Znl.eq_1]
    simp +decide [hi, hi2, h4]
    simp at ih
    simp only [drop_eq_iff hi hi2, ih]
    split <;> first | (simp_all; done) | grind
theorem Zsz (xs ys : List Int) (h : SmA xs) : C Z29 [L 1 (xs.map ic), L 1 (ys.map ic)] [] = some (Bo (decide (xs = ys)), []) := by
  refine run Zbdx rfl ?_
  by_cases hl : ys.length = xs.length
  · have h3 := fun fr => l_eqIntS xs ys h hl fr 0 (Nat.zero_le _)
    simp at h3
    simp [Zsu, h3, hl]
    split <;> simp_all
  · have h1 : xs ≠ ys := fun h => hl (by rw [h])
    have h2 : ¬ ((xs.length : Int) = ys.length) := by omega
    simp [Zsu, h1, h2]
@[simp] theorem Z2t (es : List (List T)) (left : Int) : C Z3t [L 1 es, I left] [] = some (I (sz1 es.length left), []) := by
  refine run Zbeh rfl ?_
  simp [Z2j, sz1]
  split <;> simp_all
theorem c_toAtom (x0 : ByteArray) (x1 : List Int) (h1 : SmA x1) : C Z3x [.agg [.t (.str x0), .t (tI x1)]] [] = some (.agg [.t (.str x0), .own 0], [.arr Zs 1 true (x1.map ic)]) := by
  refine run Zbel rfl ?_
  simp [Z2n, Zsy _ h1]
theorem c_eqAtom (x0 : ByteArray) (x1 : List Int) (y0 : ByteArray) (y1 : List Int) (h1 : SmA x1) : C Z30 [.agg [.t (.str x0), .t (tI x1)], .agg [.t (.str y0), .t (tI y1)]] [] = some (Bo (decide (x0 = y0 ∧ x1 = y1)), []) := by
  refine run Zbeo rfl ?_
  simp [Z2p, Zsz _ _ h1]
  repeat' split
  all_goals first | (simp_all; done) | grind
theorem c_szAtom (x0 : ByteArray) (x1 : List Int) (left : Int)  : C Z3v [.agg [.t (.str x0), .t (tI x1)], I left] [] = some (I (Atom.sz ⟨x0, x1⟩ left), []) := by
  refine run Zbej rfl ?_
  simp [Z2l, Z2t, Atom.sz, andSz, sz1]
  repeat' split
  all_goals first | (simp_all; done) | grind
theorem Zbes (xs : List Atom) (h : SmL Atom.small xs) (fr : List Fr) : ∀ i, i ≤ xs.length → EvL C fr [0, 3, 4] Znn ⟨[(0, L 2 (xs.map Atom.c)), (3, .own 0), (4, I i)], [[]], [.arr Zl5 2 true (fill Atom.c [.str ⟨#[]⟩, .lst 1 []] xs i)]⟩ =
    EvX C fr (.x 0) ⟨[(0, L 2 (xs.map Atom.c)), (3, .own 0), (4, I xs.length), (11, Bo false)], [[]], [.arr Zl5 2 true (xs.map Atom.c)]⟩ := by
  have hl : xs.length ≤ 4294967296 := h.1
  refine down xs.length ?_ ?_
  · rw [EvL_eq Znn.eq_1]
    simp [fill_all]
  · intro i hi ih
    rw [EvL_eq Znn.eq_1, ← ih]
    have h1 := fill_set (f := Atom.c) (z := [.str ⟨#[]⟩, .lst 1 []]) hi
    have h3 := fill_len (f := Atom.c) (z := [.str ⟨#[]⟩, .lst 1 []]) (Nat.le_of_lt hi)
    have h4 : IntKind.wrap .i64 ((i : Int) + 1) = (i : Int) + 1 := wrap64 (by omega) (by omega)
    simp at h1
    simp [hi, c_toAtom _ _ (h.2 _ (List.getElem_mem hi)).2, h3, h4, h1]
theorem Zbet (xs : List Atom) (h : SmL Atom.small xs) : C Z3o [L 2 (xs.map Atom.c)] [] = some (.own 0, [.arr Zl5 2 true (xs.map Atom.c)]) := by
  refine run Zbec rfl ?_
  have hl : xs.length ≤ 4294967296 := h.1
  have h1 : ∀ b, b ≤ 4096 → xs.length * b ≤ room := fun b hb => Nat.le_trans (Nat.mul_le_mul hl hb) (by decide)
  have h2 : (xs.length : Int) ≤ 140737488355328 := by omega
  have h3 := fun fr => Zbes xs h fr 0 (Nat.zero_le _)
  simp [fill_zero] at h3
  simp [Z2g, h1, h2, h3]
theorem Zbeu (xs ys : List Atom) (h : SmL Atom.small xs) (hl : ys.length = xs.length) (fr : List Fr) : ∀ i, i ≤ xs.length → EvL C fr [0, 1, 5] Znp ⟨[(0, L 2 (xs.map Atom.c)), (1, L 2 (ys.map Atom.c)), (5, I i)], [[]], []⟩ =
    if xs.drop i = ys.drop i then EvX C fr (.x 0) ⟨[(0, L 2 (xs.map Atom.c)), (1, L 2 (ys.map Atom.c)), (5, I xs.length), (14, Bo false)], [[]], []⟩ else EvX C fr .r ⟨[(4, Bo false)], [[]], []⟩ := by
  have hm : xs.length ≤ 4294967296 := h.1
  refine down xs.length ?_ ?_
  · rw [EvL_eq Znp.eq_1]
    simp [hl, List.drop_eq_nil_of_le]
  · intro i hi ih
    have hi2 : i < ys.length := by omega
    have h4 : IntKind.wrap .i64 ((i : Int) + 1) = (i : Int) + 1 := wrap64 (by omega) (by omega)
    rw [EvL_eq Znp.eq_1]
    simp +decide [hi, hi2, c_eqAtom _ _ _ _ (h.2 _ (List.getElem_mem hi)).2, h4]
    simp at ih
    simp only [drop_eq_iff hi hi2, ih, Atom.ext_iff]
    split <;> first | (simp_all; done) | grind
theorem Zbev (xs ys : List Atom) (h : SmL Atom.small xs) : C Z3r [L 2 (xs.map Atom.c), L 2 (ys.map Atom.c)] [] = some (Bo (decide (xs = ys)), []) := by
  refine run Zbef rfl ?_
  by_cases hl : ys.length = xs.length
  · have h3 := fun fr => Zbeu xs ys h hl fr 0 (Nat.zero_le _)
    simp at h3
    simp [Zsv, h3, hl]
    split <;> simp_all
  · have h1 : xs ≠ ys := fun h => hl (by rw [h])
    have h2 : ¬ ((xs.length : Int) = ys.length) := by omega
    simp [Zsv, h1, h2]
theorem Zbew (xs : List Atom) (h : OkL Atom.okay xs) (fr : List Fr) : ∀ i, i ≤ xs.length → ∀ left : Int,
    (EvL C fr [0, 1, 5] Zif ⟨[(0, L 2 (xs.map Atom.c)), (1, I left), (5, I i)], [[]], []⟩ = EvX C fr .r ⟨[(4, I (-1))], [[]], []⟩ ∧ szFold Atom.sz (xs.drop i) left = -1) ∨
    EvL C fr [0, 1, 5] Zif ⟨[(0, L 2 (xs.map Atom.c)), (1, I left), (5, I i)], [[]], []⟩ = EvX C fr (.x 0) ⟨[(0, L 2 (xs.map Atom.c)), (1, I (szFold Atom.sz (xs.drop i) left)), (5, I xs.length), (15, Bo false)], [[]], []⟩ := by
  have hm : maxLen ≤ 9223372036854775807 := by decide
  have hl := h.1
  refine down xs.length ?_ ?_
  · intro left
    right
    rw [EvL_eq Zif.eq_1]
    simp [List.drop_eq_nil_of_le, szFold]
  · intro i hi ih left
    have h4 : IntKind.wrap .i64 ((i : Int) + 1) = (i : Int) + 1 := wrap64 (by omega) (by omega)
    have e : EvL C fr [0, 1, 5] Zif ⟨[(0, L 2 (xs.map Atom.c)), (1, I left), (5, I i)], [[]], []⟩ = if Atom.sz xs[i] left < 0 then EvX C fr .r ⟨[(4, I (-1))], [[]], []⟩ else EvL C fr [0, 1, 5] Zif ⟨[(0, L 2 (xs.map Atom.c)), (1, I (Atom.sz xs[i] left)), (5, I ((i + 1 : Nat) : Int))], [[]], []⟩ := by
      rw [EvL_eq Zif.eq_1]
      simp [hi, c_szAtom, h4]
    rw [e, List.drop_eq_getElem_cons hi, szFold]
    split
    · exact .inl ⟨rfl, rfl⟩
    · exact ih _
theorem Zbex (xs : List Atom) (left : Int) (h : OkL Atom.okay xs) : C Z3l [L 2 (xs.map Atom.c), I left] [] = some (I (szL Atom.sz xs left), []) := by
  refine run Zbd9 rfl ?_
  have h3 := fun fr l => Zbew xs h fr 0 (Nat.zero_le _) l
  simp at h3
  simp [Z2d, szL, andSz, sz1]
  split
  · simp_all
  · rcases h3 [.blk 0, .seq _, .fin _ _] (IntKind.wrap .i64 (left - xs.length)) with ⟨h5, h6⟩ | h5
    · rw [h5]; simp [h6]
    · rw [h5]; simp
theorem Zbey (x0 : Int) (x1 : List Atom) (h1 : SmL Atom.small x1) : C Z27 [.agg [I x0, .t (.lst 2 (x1.map Atom.c))]] [] = some (.agg [I x0, .own 0], [.arr Zl5 2 true (x1.map Atom.c)]) := by
  refine run Zbdv rfl ?_
  simp [Z10, Zbet _ h1]
theorem Zbez (x0 : Int) (x1 : List Atom) (y0 : Int) (y1 : List Atom) (h1 : SmL Atom.small x1) : C Z3b [.agg [I x0, .t (.lst 2 (x1.map Atom.c))], .agg [I y0, .t (.lst 2 (y1.map Atom.c))]] [] = some (Bo (decide (x0 = y0 ∧ x1 = y1)), []) := by
  refine run Zbdz rfl ?_
  simp [Z13, Zbev _ _ h1]
  repeat' split
  all_goals first | (simp_all; done) | grind
theorem Zbe0 (x0 : Int) (x1 : List Atom) (left : Int) (h1 : OkL Atom.okay x1) : C Z24 [.agg [I x0, .t (.lst 2 (x1.map Atom.c))], I left] [] = some (I (Zb.sz ⟨x0, x1⟩ left), []) := by
  refine run Zbds rfl ?_
  simp [Z1x, Zbex _ _ h1, Zb.sz, andSz, sz1]
  repeat' split
  all_goals first | (simp_all; done) | grind
theorem c_toBox (x0 : List Int) (x1 : List Int) (h0 : SmA x0) (h1 : SmA x1) : C Z3h [.agg [.t (tI x0), .t (tI x1)]] [] = some (.agg [.own 0, .own 1], [.arr Zs 1 true (x0.map ic), .arr Zs 1 true (x1.map ic)]) := by
  refine run Zbd5 rfl ?_
  simp [Z19, Zsy _ h0, Zsy _ h1]
theorem c_eqBox (x0 : List Int) (x1 : List Int) (y0 : List Int) (y1 : List Int) (h0 : SmA x0) (h1 : SmA x1) : C Z3j [.agg [.t (tI x0), .t (tI x1)], .agg [.t (tI y0), .t (tI y1)]] [] = some (Bo (decide (x0 = y0 ∧ x1 = y1)), []) := by
  refine run Zbd7 rfl ?_
  simp [Z2b, Zsz _ _ h0, Zsz _ _ h1]
  repeat' split
  all_goals first | (simp_all; done) | grind
theorem c_szBox (x0 : List Int) (x1 : List Int) (left : Int)  : C Z3g [.agg [.t (tI x0), .t (tI x1)], I left] [] = some (I (Box.sz ⟨x0, x1⟩ left), []) := by
  refine run Zbd4 rfl ?_
  simp [Z18, Z2t, Box.sz, andSz, sz1]
  repeat' split
  all_goals first | (simp_all; done) | grind
theorem Zbe1 (x0 : Int) (x1 : Int)  : C Z32 [.agg [I x0, I x1]] [] = some (.agg [I x0, I x1], []) := by
  refine run Zbeq rfl ?_
  simp [Z2r]
theorem Zbe2 (x0 : Int) (x1 : Int) (y0 : Int) (y1 : Int)  : C Z33 [.agg [I x0, I x1], .agg [I y0, I y1]] [] = some (Bo (decide (x0 = y0 ∧ x1 = y1)), []) := by
  refine run Zber rfl ?_
  simp [Z2s]
  repeat' split
  all_goals first | (simp_all; done) | grind
theorem Zbe3 (xs : List Zg) (h : SmA xs) (fr : List Fr) : ∀ i, i ≤ xs.length → EvL C fr [0, 3, 4] Znr ⟨[(0, L 2 (xs.map Zg.c)), (3, .own 0), (4, I i)], [[]], [.arr Zei 2 true (fill Zg.c [.int .i64 0, .int .i64 0] xs i)]⟩ =
    EvX C fr (.x 0) ⟨[(0, L 2 (xs.map Zg.c)), (3, .own 0), (4, I xs.length), (11, Bo false)], [[]], [.arr Zei 2 true (xs.map Zg.c)]⟩ := by
  have hl : xs.length ≤ 4294967296 := h
  refine down xs.length ?_ ?_
  · rw [EvL_eq Znr.eq_1]
    simp [fill_all]
  · intro i hi ih
    rw [EvL_eq Znr.eq_1, ← ih]
    have h1 := fill_set (f := Zg.c) (z := [.int .i64 0, .int .i64 0]) hi
    have h3 := fill_len (f := Zg.c) (z := [.int .i64 0, .int .i64 0]) (Nat.le_of_lt hi)
    have h4 : IntKind.wrap .i64 ((i : Int) + 1) = (i : Int) + 1 := wrap64 (by omega) (by omega)
    simp at h1
    simp [hi, Zbe1, h3, h4, h1]
theorem Zbe4 (xs : List Zg) (h : SmA xs) : C Z3w [L 2 (xs.map Zg.c)] [] = some (.own 0, [.arr Zei 2 true (xs.map Zg.c)]) := by
  refine run Zbek rfl ?_
  have hl : xs.length ≤ 4294967296 := h
  have h1 : ∀ b, b ≤ 4096 → xs.length * b ≤ room := fun b hb => Nat.le_trans (Nat.mul_le_mul hl hb) (by decide)
  have h2 : (xs.length : Int) ≤ 140737488355328 := by omega
  have h3 := fun fr => Zbe3 xs h fr 0 (Nat.zero_le _)
  simp [fill_zero] at h3
  simp [Z2m, h1, h2, h3]
theorem Zbe5 (xs ys : List Zg) (h : SmA xs) (hl : ys.length = xs.length) (fr : List Fr) : ∀ i, i ≤ xs.length → EvL C fr [0, 1, 5] Zns ⟨[(0, L 2 (xs.map Zg.c)), (1, L 2 (ys.map Zg.c)), (5, I i)], [[]], []⟩ =
    if xs.drop i = ys.drop i then EvX C fr (.x 0) ⟨[(0, L 2 (xs.map Zg.c)), (1, L 2 (ys.map Zg.c)), (5, I xs.length), (14, Bo false)], [[]], []⟩ else EvX C fr .r ⟨[(4, Bo false)], [[]], []⟩ := by
  have hm : xs.length ≤ 4294967296 := h
  refine down xs.length ?_ ?_
  · rw [EvL_eq Zns.eq_1]
    simp [hl, List.drop_eq_nil_of_le]
  · intro i hi ih
    have hi2 : i < ys.length := by omega
    have h4 : IntKind.wrap .i64 ((i : Int) + 1) = (i : Int) + 1 := wrap64 (by omega) (by omega)
    rw [EvL_eq Zns.eq_1]
    simp +decide [hi, hi2, Zbe2 _ _ _ _ , h4]
    simp at ih
    simp only [drop_eq_iff hi hi2, ih, Zg.ext_iff]
    split <;> first | (simp_all; done) | grind
theorem Zbe6 (xs ys : List Zg) (h : SmA xs) : C Z3z [L 2 (xs.map Zg.c), L 2 (ys.map Zg.c)] [] = some (Bo (decide (xs = ys)), []) := by
  refine run Zben rfl ?_
  by_cases hl : ys.length = xs.length
  · have h3 := fun fr => Zbe5 xs ys h hl fr 0 (Nat.zero_le _)
    simp at h3
    simp [Zsx, h3, hl]
    split <;> simp_all
  · have h1 : xs ≠ ys := fun h => hl (by rw [h])
    have h2 : ¬ ((xs.length : Int) = ys.length) := by omega
    simp [Zsx, h1, h2]
@[simp] theorem Zbe7 (es : List (List T)) (left : Int) : C Z3u [L 2 es, I left] [] = some (I (sz1 es.length left), []) := by
  refine run Zbei rfl ?_
  simp [Z2k, sz1]
  split <;> simp_all
theorem Zlz (x0 : Int) (x1 : Int) (x2 : Int) (x3 : Int) (x4 : Int) (x5 : List Zg) (h5 : SmA x5) : C Z3n [.agg [I x0, I x1, I x2, I x3, I x4, .t (.lst 2 (x5.map Zg.c))]] [] = some (.agg [I x0, I x1, I x2, I x3, I x4, .own 0], [.arr Zei 2 true (x5.map Zg.c)]) := by
  refine run Zbeb rfl ?_
  simp [Z2f, Zbe4 _ h5]
theorem Zl0 (x0 : Int) (x1 : Int) (x2 : Int) (x3 : Int) (x4 : Int) (x5 : List Zg) (y0 : Int) (y1 : Int) (y2 : Int) (y3 : Int) (y4 : Int) (y5 : List Zg) (h5 : SmA x5) : C Z3q [.agg [I x0, I x1, I x2, I x3, I x4, .t (.lst 2 (x5.map Zg.c))], .agg [I y0, I y1, I y2, I y3, I y4, .t (.lst 2 (y5.map Zg.c))]] [] = some (Bo (decide (x0 = y0 ∧ x1 = y1 ∧ x2 = y2 ∧ x3 = y3 ∧ x4 = y4 ∧ x5 = y5)), []) := by
  refine run Zbee rfl ?_
  simp [Z2i, Zbe6 _ _ h5]
  repeat' split
  all_goals first | (simp_all; done) | grind
theorem Zbe8 (x0 : Int) (x1 : Int) (x2 : Int) (x3 : Int) (x4 : Int) (x5 : List Zg) (left : Int)  : C Z3k [.agg [I x0, I x1, I x2, I x3, I x4, .t (.lst 2 (x5.map Zg.c))], I left] [] = some (I (Zh.sz ⟨x0, x1, x2, x3, x4, x5⟩ left), []) := by
  refine run Zbd8 rfl ?_
  simp [Z2c, Zbe7, Zh.sz, andSz, sz1]
  repeat' split
  all_goals first | (simp_all; done) | grind
theorem Zbe9 (x0 : Int) (x1 : Int) (x2 : Int) (x3 : Int) (x4 : Int) (x5 : List Zg) (x6 : Int) (x7 : Int) (x8 : Int) (x9 : Int) (x10 : Int) (x11 : List Zg) (x12 : Int) (x13 : Int) (x14 : Int) (x15 : Int) (x16 : Int) (x17 : List Zg) (x18 : Int) (x19 : Int) (x20 : Int) (x21 : Int) (x22 : Int) (x23 : List Zg) (x24 : Int) (x25 : Int) (x26 : Int) (x27 : Int) (x28 : Int) (x29 : List Zg) (h5 : SmA x5) (h11 : SmA x11) (h17 : SmA x17) (h23 : SmA x23) (h29 : SmA x29) : C Z26 [.agg [I x0, I x1, I x2, I x3, I x4, .t (.lst 2 (x5.map Zg.c)), I x6, I x7, I x8, I x9, I x10, .t (.lst 2 (x11.map Zg.c)), I x12, I x13, I x14, I x15, I x16, .t (.lst 2 (x17.map Zg.c)), I x18, I x19, I x20, I x21, I x22, .t (.lst 2 (x23.map Zg.c)), I x24, I x25, I x26, I x27, I x28, .t (.lst 2 (x29.map Zg.c))]] [] = some (.agg [I x0, I x1, I x2, I x3, I x4, .own 0, I x6, I x7, I x8, I x9, I x10, .own 1, I x12, I x13, I x14, I x15, I x16, .own 2, I x18, I x19, I x20, I x21, I x22, .own 3, I x24, I x25, I x26, I x27, I x28, .own 4], [.arr Zei 2 true (x5.map Zg.c), .arr Zei 2 true (x11.map Zg.c), .arr Zei 2 true (x17.map Zg.c), .arr Zei 2 true (x23.map Zg.c), .arr Zei 2 true (x29.map Zg.c)]) := by
  refine run Zbdu rfl ?_
  simp [Z1z, Zlz _ _ _ _ _ _ h5, Zlz _ _ _ _ _ _ h11, Zlz _ _ _ _ _ _ h17, Zlz _ _ _ _ _ _ h23, Zlz _ _ _ _ _ _ h29]
theorem Zbfa (x0 : Int) (x1 : Int) (x2 : Int) (x3 : Int) (x4 : Int) (x5 : List Zg) (x6 : Int) (x7 : Int) (x8 : Int) (x9 : Int) (x10 : Int) (x11 : List Zg) (x12 : Int) (x13 : Int) (x14 : Int) (x15 : Int) (x16 : Int) (x17 : List Zg) (x18 : Int) (x19 : Int) (x20 : Int) (x21 : Int) (x22 : Int) (x23 : List Zg) (x24 : Int) (x25 : Int) (x26 : Int) (x27 : Int) (x28 : Int) (x29 : List Zg) (y0 : Int) (y1 : Int) (y2 : Int) (y3 : Int) (y4 : Int) (y5 : List Zg) (y6 : Int) (y7 : Int) (y8 : Int) (y9 : Int) (y10 : Int) (y11 : List Zg) (y12 : Int) (y13 : Int) (y14 : Int) (y15 : Int) (y16 : Int) (y17 : List Zg) (y18 : Int) (y19 : Int) (y20 : Int) (y21 : Int) (y22 : Int) (y23 : List Zg) (y24 : Int) (y25 : Int) (y26 : Int) (y27 : Int) (y28 : Int) (y29 : List Zg) (h5 : SmA x5) (h11 : SmA x11) (h17 : SmA x17) (h23 : SmA x23) (h29 : SmA x29) : C Z3a [.agg [I x0, I x1, I x2, I x3, I x4, .t (.lst 2 (x5.map Zg.c)), I x6, I x7, I x8, I x9, I x10, .t (.lst 2 (x11.map Zg.c)), I x12, I x13, I x14, I x15, I x16, .t (.lst 2 (x17.map Zg.c)), I x18, I x19, I x20, I x21, I x22, .t (.lst 2 (x23.map Zg.c)), I x24, I x25, I x26, I x27, I x28, .t (.lst 2 (x29.map Zg.c))], .agg [I y0, I y1, I y2, I y3, I y4, .t (.lst 2 (y5.map Zg.c)), I y6, I y7, I y8, I y9, I y10, .t (.lst 2 (y11.map Zg.c)), I y12, I y13, I y14, I y15, I y16, .t (.lst 2 (y17.map Zg.c)), I y18, I y19, I y20, I y21, I y22, .t (.lst 2 (y23.map Zg.c)), I y24, I y25, I y26, I y27, I y28, .t (.lst 2 (y29.map Zg.c))]] [] = some (Bo (decide (x0 = y0 ∧ x1 = y1 ∧ x2 = y2 ∧ x3 = y3 ∧ x4 = y4 ∧ x5 = y5 ∧ x6 = y6 ∧ x7 = y7 ∧ x8 = y8 ∧ x9 = y9 ∧ x10 = y10 ∧ x11 = y11 ∧ x12 = y12 ∧ x13 = y13 ∧ x14 = y14 ∧ x15 = y15 ∧ x16 = y16 ∧ x17 = y17 ∧ x18 = y18 ∧ x19 = y19 ∧ x20 = y20 ∧ x21 = y21 ∧ x22 = y22 ∧ x23 = y23 ∧ x24 = y24 ∧ x25 = y25 ∧ x26 = y26 ∧ x27 = y27 ∧ x28 = y28 ∧ x29 = y29)), []) := by
  refine run Zbdy rfl ?_
  simp [Z12, Zl0 _ _ _ _ _ _ _ _ _ _ _ _ h5, Zl0 _ _ _ _ _ _ _ _ _ _ _ _ h11, Zl0 _ _ _ _ _ _ _ _ _ _ _ _ h17, Zl0 _ _ _ _ _ _ _ _ _ _ _ _ h23, Zl0 _ _ _ _ _ _ _ _ _ _ _ _ h29]
  repeat' split
  all_goals first | (simp_all; done) | grind
theorem Zbfb (x0 : Int) (x1 : Int) (x2 : Int) (x3 : Int) (x4 : Int) (x5 : List Zg) (x6 : Int) (x7 : Int) (x8 : Int) (x9 : Int) (x10 : Int) (x11 : List Zg) (x12 : Int) (x13 : Int) (x14 : Int) (x15 : Int) (x16 : Int) (x17 : List Zg) (x18 : Int) (x19 : Int) (x20 : Int) (x21 : Int) (x22 : Int) (x23 : List Zg) (x24 : Int) (x25 : Int) (x26 : Int) (x27 : Int) (x28 : Int) (x29 : List Zg) (left : Int)  : C Z23 [.agg [I x0, I x1, I x2, I x3, I x4, .t (.lst 2 (x5.map Zg.c)), I x6, I x7, I x8, I x9, I x10, .t (.lst 2 (x11.map Zg.c)), I x12, I x13, I x14, I x15, I x16, .t (.lst 2 (x17.map Zg.c)), I x18, I x19, I x20, I x21, I x22, .t (.lst 2 (x23.map Zg.c)), I x24, I x25, I x26, I x27, I x28, .t (.lst 2 (x29.map Zg.c))], I left] [] = some (I (Zd.sz ⟨⟨x0, x1, x2, x3, x4, x5⟩, ⟨x6, x7, x8, x9, x10, x11⟩, ⟨x12, x13, x14, x15, x16, x17⟩, ⟨x18, x19, x20, x21, x22, x23⟩, ⟨x24, x25, x26, x27, x28, x29⟩⟩ left), []) := by
  refine run Zbdr rfl ?_
  simp [Z1w, Zbe8, Zd.sz, andSz, sz1]
  repeat' split
  all_goals first | (simp_all; done) | grind
theorem Zbfc (x0 : Int) (x1 : Int) (x2 : Int)  : C Z3y [.agg [I x0, I x1, I x2]] [] = some (.agg [I x0, I x1, I x2], []) := by
  refine run Zbem rfl ?_
  simp [Z2o]
theorem Zbfd (x0 : Int) (x1 : Int) (x2 : Int) (y0 : Int) (y1 : Int) (y2 : Int)  : C Z31 [.agg [I x0, I x1, I x2], .agg [I y0, I y1, I y2]] [] = some (Bo (decide (x0 = y0 ∧ x1 = y1 ∧ x2 = y2)), []) := by
  refine run Zbep rfl ?_
  simp [Z2q]
  repeat' split
  all_goals first | (simp_all; done) | grind
theorem Zbfe (xs : List Zc) (h : SmA xs) (fr : List Fr) : ∀ i, i ≤ xs.length → EvL C fr [0, 3, 4] Zno ⟨[(0, L 3 (xs.map Zc.c)), (3, .own 0), (4, I i)], [[]], [.arr Zjk 3 true (fill Zc.c [.int .i64 0, .int .i64 0, .int .i64 0] xs i)]⟩ =
    EvX C fr (.x 0) ⟨[(0, L 3 (xs.map Zc.c)), (3, .own 0), (4, I xs.length), (11, Bo false)], [[]], [.arr Zjk 3 true (xs.map Zc.c)]⟩ := by
  have hl : xs.length ≤ 4294967296 := h
  refine down xs.length ?_ ?_
  · rw [EvL_eq Zno.eq_1]
    simp [fill_all]
  · intro i hi ih
    rw [EvL_eq Zno.eq_1, ← ih]
    have h1 := fill_set (f := Zc.c) (z := [.int .i64 0, .int .i64 0, .int .i64 0]) hi
    have h3 := fill_len (f := Zc.c) (z := [.int .i64 0, .int .i64 0, .int .i64 0]) (Nat.le_of_lt hi)
    have h4 : IntKind.wrap .i64 ((i : Int) + 1) = (i : Int) + 1 := wrap64 (by omega) (by omega)
    simp at h1
    simp [hi, Zbfc, h3, h4, h1]
theorem Zbff (xs : List Zc) (h : SmA xs) : C Z3p [L 3 (xs.map Zc.c)] [] = some (.own 0, [.arr Zjk 3 true (xs.map Zc.c)]) := by
  refine run Zbed rfl ?_
  have hl : xs.length ≤ 4294967296 := h
  have h1 : ∀ b, b ≤ 4096 → xs.length * b ≤ room := fun b hb => Nat.le_trans (Nat.mul_le_mul hl hb) (by decide)
  have h2 : (xs.length : Int) ≤ 140737488355328 := by omega
  have h3 := fun fr => Zbfe xs h fr 0 (Nat.zero_le _)
  simp [fill_zero] at h3
  simp [Z2h, h1, h2, h3]
theorem Zbfg (xs ys : List Zc) (h : SmA xs) (hl : ys.length = xs.length) (fr : List Fr) : ∀ i, i ≤ xs.length → EvL C fr [0, 1, 5] Znq ⟨[(0, L 3 (xs.map Zc.c)), (1, L 3 (ys.map Zc.c)), (5, I i)], [[]], []⟩ =
    if xs.drop i = ys.drop i then EvX C fr (.x 0) ⟨[(0, L 3 (xs.map Zc.c)), (1, L 3 (ys.map Zc.c)), (5, I xs.length), (14, Bo false)], [[]], []⟩ else EvX C fr .r ⟨[(4, Bo false)], [[]], []⟩ := by
  have hm : xs.length ≤ 4294967296 := h
  refine down xs.length ?_ ?_
  · rw [EvL_eq Znq.eq_1]
    simp [hl, List.drop_eq_nil_of_le]
  · intro i hi ih
    have hi2 : i < ys.length := by omega
    have h4 : IntKind.wrap .i64 ((i : Int) + 1) = (i : Int) + 1 := wrap64 (by omega) (by omega)
    rw [EvL_eq Znq.eq_1]
    simp +decide [hi, hi2, Zbfd _ _ _ _ _ _ , h4]
    simp at ih
    simp only [drop_eq_iff hi hi2, ih, Zc.ext_iff]
    split <;> first | (simp_all; done) | grind
theorem Zbfh (xs ys : List Zc) (h : SmA xs) : C Z3s [L 3 (xs.map Zc.c), L 3 (ys.map Zc.c)] [] = some (Bo (decide (xs = ys)), []) := by
  refine run Zbeg rfl ?_
  by_cases hl : ys.length = xs.length
  · have h3 := fun fr => Zbfg xs ys h hl fr 0 (Nat.zero_le _)
    simp at h3
    simp [Zsw, h3, hl]
    split <;> simp_all
  · have h1 : xs ≠ ys := fun h => hl (by rw [h])
    have h2 : ¬ ((xs.length : Int) = ys.length) := by omega
    simp [Zsw, h1, h2]
@[simp] theorem Zbfi (es : List (List T)) (left : Int) : C Z3m [L 3 es, I left] [] = some (I (sz1 es.length left), []) := by
  refine run Zbea rfl ?_
  simp [Z2e, sz1]
  split <;> simp_all
theorem c_toPlan (x0 : List Zc) (h0 : SmA x0) : C Z28 [.agg [.t (.lst 3 (x0.map Zc.c))]] [] = some (.agg [.own 0], [.arr Zjk 3 true (x0.map Zc.c)]) := by
  refine run Zbdw rfl ?_
  simp [Z11, Zbff _ h0]
theorem c_eqPlan (x0 : List Zc) (y0 : List Zc) (h0 : SmA x0) : C Z3c [.agg [.t (.lst 3 (x0.map Zc.c))], .agg [.t (.lst 3 (y0.map Zc.c))]] [] = some (Bo (decide (x0 = y0)), []) := by
  refine run Zbd0 rfl ?_
  simp [Z14, Zbfh _ _ h0]
  repeat' split
  all_goals first | (simp_all; done) | grind
theorem c_szPlan (x0 : List Zc) (left : Int)  : C Z25 [.agg [.t (.lst 3 (x0.map Zc.c))], I left] [] = some (I (Plan.sz ⟨x0⟩ left), []) := by
  refine run Zbdt rfl ?_
  simp [Z1y, Zbfi, Plan.sz, andSz, sz1]
  repeat' split
  all_goals first | (simp_all; done) | grind
theorem Zbfj (x0 : List Zc) (x1 : List Int) (x2 : List Int) (x3 : Int) (h0 : SmA x0) (h1 : SmA x1) (h2 : SmA x2) : C Z3e [.agg [.t (.lst 3 (x0.map Zc.c)), .t (tI x1), .t (tI x2), I x3]] [] = some (.agg [.own 0, .own 1, .own 2, I x3], [.arr Zjk 3 true (x0.map Zc.c), .arr Zs 1 true (x1.map ic), .arr Zs 1 true (x2.map ic)]) := by
  refine run Zbd2 rfl ?_
  simp [Z16, c_toPlan _ h0, c_toBox _ _ h1 h2]
theorem Zbfk (x0 : List Zc) (x1 : List Int) (x2 : List Int) (x3 : Int) (y0 : List Zc) (y1 : List Int) (y2 : List Int) (y3 : Int) (h0 : SmA x0) (h1 : SmA x1) (h2 : SmA x2) : C Z3f [.agg [.t (.lst 3 (x0.map Zc.c)), .t (tI x1), .t (tI x2), I x3], .agg [.t (.lst 3 (y0.map Zc.c)), .t (tI y1), .t (tI y2), I y3]] [] = some (Bo (decide (x0 = y0 ∧ x1 = y1 ∧ x2 = y2 ∧ x3 = y3)), []) := by
  refine run Zbd3 rfl ?_
  simp [Z17, c_eqPlan _ _ h0, c_eqBox _ _ _ _ h1 h2]
  repeat' split
  all_goals first | (simp_all; done) | grind
theorem Zbfl (x0 : List Zc) (x1 : List Int) (x2 : List Int) (x3 : Int) (left : Int)  : C Z3d [.agg [.t (.lst 3 (x0.map Zc.c)), .t (tI x1), .t (tI x2), I x3], I left] [] = some (I (Region.sz ⟨⟨x0⟩, ⟨x1, x2⟩, x3⟩ left), []) := by
  refine run Zbd1 rfl ?_
  simp [Z15, c_szPlan, c_szBox, Region.sz, andSz, sz1]
  repeat' split
  all_goals first | (simp_all; done) | grind
end Go.Proofs.YtbapkgocloaaeaaGreat
