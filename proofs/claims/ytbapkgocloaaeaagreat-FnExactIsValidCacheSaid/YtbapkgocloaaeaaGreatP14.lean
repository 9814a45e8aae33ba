/-
  Parts of the proofs for this seat: IG IH IJ K.
-/
import Derived.Test.YtbapkgocloaaeaaGreatP7
import Derived.Test.YtbapkgocloaaeaaGreatP13
set_option linter.unusedSimpArgs false
set_option linter.unusedVariables false
set_option maxRecDepth 100000
set_option maxHeartbeats 4000000
/- part: IG -/
namespace Go.Proofs.YtbapkgocloaaeaaGreat
open Go.AM
theorem Zbd0 {M v c : Int} {x : List Zc} (hM : M ≠ 0) (hv : 0 ≤ v ∧ v ≤ 3) : [offK 0 zE M v c x, offK 1 zE M v c x, offK 2 zE M v c x, offK 3 zE M v c x, offK 4 zE M v c x].filter sm = [⟨M, v, c, ⟨x⟩⟩] := by
  have h : v = 0 ∨ v = 1 ∨ v = 2 ∨ v = 3 := by omega
  rcases h with rfl | rfl | rfl | rfl <;> simp [offK, offE, sm, zE, hM]
theorem Zbd1 : ∀ (i : Fin 4) (a : Fin 16), 1 ≤ a.1 → (a.1 : Int) < shlI 1 (i.1 : Nat) → andI (a.1 : Int) (shlI 1 (i.1 : Nat)) ≠ a.1 := by decide
theorem Zbd2 {qa : List Atom} {i : Nat} (hi : i < 4) : Zp qa (shlI 1 i) = [] := by
  cases h : Zp qa (shlI 1 i) with
  | nil => rfl
  | cons A l =>
    exfalso
    obtain ⟨h1, h2, h3, _⟩ := Zlt (qa := qa) (M := shlI 1 i) (A := A) (by rw [h]; simp)
    have h16 : M16 (shlI 1 (i : Nat)) := (f_shl ⟨i, hi⟩ ⟨0, by omega⟩).2
    obtain ⟨a, rfl⟩ := m16 (x := A) (by omega)
    exact Zbd1 ⟨i, hi⟩ a (by omega) h2 h3
theorem flat_ne {E : List Za} (h : E ≠ []) : flat (E.map Za.c) = false := by
  cases E with
  | nil => exact absurd rfl h
  | cons e E => simp [flat, Za.c, scalar]
theorem Zbd3 {qa : List Atom} {n : Int} (hv : Zn n qa = true) {M A : Int} (hM : MQ qa M) (h : A ∈ Zp qa M) : andNotI M A = M - A := by
  obtain ⟨h1, h2, h3, _⟩ := Zlt h
  have h16 := (hM.m16 hv).1
  obtain ⟨a, rfl⟩ := m16 (x := A) (by omega)
  obtain ⟨b, rfl⟩ := m16 h16
  exact (f_diff a b h3).1
theorem l_copyT (fr : Bool) (out : List Za) (hl : out.length ≤ 1000) (hs : ∀ e ∈ out, e.Plan.Steps.length ≤ 1000) : ∀ i, i ≤ out.length → Zhd fr out out.length i = some (.own 0, [.arr 174 4 fr (out.map Za.c)]) := by
  refine down _ ?_ ?_
  · refine Zyi _ _ _ _ _ ?_
    rw [if_neg (by omega)]
  · intro i hi ih
    have h4 := inc64 (i := i) (by omega)
    have hw : w ((i : Int) + 1) = ((i + 1 : Nat) : Int) := by rw [show w ((i : Int) + 1) = (i : Int) + 1 from h4]; simp
    refine Zyi _ _ _ _ _ ?_
    rw [if_pos (by omega), hw]
    refine ⟨by omega, out[i], by rw [Int.toNat_natCast]; exact List.getElem?_eq_getElem hi, _, Znd _ (hs _ (List.getElem_mem hi)), ?_⟩
    rw [Int.toNat_natCast]
    have : out.set i (⟨out[i].Mask, out[i].Order, out[i].Cost, (⟨out[i].Plan.Steps⟩ : Plan)⟩ : Za) = out := Zls (List.getElem?_eq_getElem hi)
    rw [this]
    exact ih
theorem Inv.steps {m : Zd} {q : Zb} {sizes : List Int} {done : List Int} {out : List Za} (h : Inv m sizes q done out) (h16 : ∀ M ∈ done, M16 M) : ∀ e ∈ out, e.Plan.Steps.length ≤ 1000 := by
  intro e he
  have hd := h.only e he
  have hh := (h.held _ hd).len e (List.mem_filter.2 ⟨he, by simp⟩)
  have := Zch (h16 _ hd)
  omega
theorem conn_16 {n : Int} {qa : List Atom} (hv : Zn n qa = true) : ∀ M ∈ Zo qa, M16 M := by
  intro M hM
  obtain ⟨h1, h2, _⟩ := Zh8.1 hM
  exact (MQ.m16 hv ⟨by omega, h2⟩).1
theorem Zsr {m : Zd} {q : Zb} {sizes : List Int} (b : Base m q sizes) {i : Nat} (hi : i ≤ (Zo q.Atoms).length) : ∀ e ∈ Zz m sizes q i, e.Plan.Steps.length ≤ 1000 :=
  (Zjb b i hi).steps fun M hM => conn_16 b.hv M (List.mem_of_mem_take hM)
theorem i_table {m : Zd} {q : Zb} {sizes : List Int} (b : Base m q sizes) : ∀ i, i ≤ (Zo q.Atoms).length → ∀ (table : List (List Za)) (fr fr1 : Bool), table.length = 2 ^ q.Atoms.length → (∀ M ∈ (Zo q.Atoms).take i, table[M.toNat]? = some (ofM (Zz m sizes q i) M)) → (i = (Zo q.Atoms).length → fr1 = false) →
    Zex m q fr table fr1 (Zz m sizes q i) (Zo q.Atoms) sizes (Zo q.Atoms).length i = some (.own 0, [.arr 174 4 false ((Zz m sizes q (Zo q.Atoms).length).map Za.c)]) := by
  have hcl := Znk b.hv
  refine down _ ?_ ?_
  · intro table fr fr1 _ _ hf
    rw [hf rfl]
    refine Zyg _ _ _ _ _ _ _ _ _ _ _ ?_
    rw [if_neg (by omega)]
    exact l_copyT false _ (by have := Zlv b (Nat.le_refl (Zo q.Atoms).length); omega) (Zsr b (Nat.le_refl _)) 0 (Nat.zero_le _)
  · intro i hi ih table fr fr1 htl hT hf
    have h4 := inc64 (i := i) (by omega)
    have hw : w ((i : Int) + 1) = ((i + 1 : Nat) : Int) := by rw [show w ((i : Int) + 1) = (i : Int) + 1 from h4]; simp
    obtain ⟨c1, c2, c3, c4⟩ := Zja hi
    have hinv := Zjb b i (by omega)
    have hstep := Z1k b hinv c1 c2 c3 c4 (Zsq (Zlu _) hi)
    have hheld := Zsp b hinv c1 c2 c3 c4
    have hnext : Zz m sizes q (i + 1) = Zz m sizes q i ++ entM m sizes q (Zz m sizes q i) (Zo q.Atoms)[i] := by
      rw [Zz]
      congr 2
      simp [List.getD, hi]
    have hlen := Zlv b (i := i) (by omega)
    have h16 := (c1.m16 b.hv).1
    have hpw := Zdw q.Atoms.length
    have hMt : (Zo q.Atoms)[i].toNat < table.length := by have := c1.1; have := c1.2; omega
    have key : ∀ f1 E, E = entM m sizes q (Zz m sizes q i) (Zo q.Atoms)[i] → Zex m q f1 (table.set (Zo q.Atoms)[i].toNat E) (fr1 && flat (E.map Za.c)) (Zz m sizes q i ++ E) (Zo q.Atoms) sizes (Zo q.Atoms).length (w ((i : Int) + 1)) = some (.own 0, [.arr 174 4 false ((Zz m sizes q (Zo q.Atoms).length).map Za.c)]) := by
      intro f1 E hE
      subst hE
      rw [hw, flat_ne hheld.ne, Bool.and_false, ← hnext]
      refine ih _ _ _ (by rw [List.length_set]; exact htl) ?_ (fun _ => rfl)
      intro A hA
      rw [List.take_succ_eq_append_getElem hi] at hA
      rcases List.mem_append.1 hA with hA | hA
      · have hne : A ≠ (Zo q.Atoms)[i] := fun h => Zsq (Zlu _) hi (h ▸ hA)
        have hA0 := (Zh8.1 (List.mem_of_mem_take hA)).1
        have := c1.1
        rw [List.getElem?_set_ne (by omega), hT A hA, hnext, hstep.2.1 A hA]
      · rw [List.mem_singleton.1 hA, List.getElem?_set_self hMt, hnext, hstep.2.2]
    have hget : (Zo q.Atoms)[i]? = some (Zo q.Atoms)[i] := List.getElem?_eq_getElem hi
    generalize (Zo q.Atoms)[i] = M at *
    have hic : Zbq q.Ze q.Atoms M = true := by
      unfold Zbq
      rw [b.hv, c3, Zdv b.hv]
      have h1 := c1.1
      have h2 := c1.2
      simp [inR, c2, h1]
      omega
    have e1 : (Zbv q M).map Prod.fst = Zp q.Atoms M := by
      unfold Zbv
      rw [List.map_map]
      exact List.map_id _
    have e2 : (Zbv q M).length = (Zp q.Atoms M).length := by unfold Zbv; rw [List.length_map]
    have hps : (Zbv q M).length ≤ 100 := by rw [e2]; have := Zsh (qa := q.Atoms) h16; omega
    have hok : ∀ p ∈ Zbv q M, Z1e m q sizes (Zz m sizes q i) table M p.1 p.2 := by
      intro p hp
      have o := Zso b hinv c1 c3 c4 p hp
      unfold Zbv at hp
      rw [List.mem_map] at hp
      obtain ⟨A, hA, rfl⟩ := hp
      have hd := Zbd3 b.hv c1 hA
      obtain ⟨q1, q2⟩ := Zsn c1 hA
      refine ⟨o, hd, ?_, hT A (c4 A hA).1, hT _ (c4 A hA).2⟩
      rw [hd]
      exact Zbc5 q b.hq b.hv A (M - A) q1 q2
    have hgo : ∀ a0 a1 a2 a3 a4 : Za, ((Zbv q M).foldl (oneJ m sizes M (Zz m sizes q i)) [a0, a1, a2, a3, a4]).filter sm = entM m sizes q (Zz m sizes q i) M →
        Zc5 m q fr table fr1 (Zz m sizes q i) m q sizes M a0 a1 a2 a3 a4 (sm a0) (sm a1) (sm a2) (sm a3) (sm a4) (Zo q.Atoms) (Zp q.Atoms M) sizes M (Zo q.Atoms).length i (Zp q.Atoms M).length 0 = some (.own 0, [.arr 174 4 false ((Zz m sizes q (Zo q.Atoms).length).map Za.c)]) := by
      intro a0 a1 a2 a3 a4 hE
      have := i_splits b h16 c2 table hMt (Zz m sizes q i) (by omega) (Zbv q M) hps hok fr fr1 (Zo q.Atoms) (Zo q.Atoms).length i _ 0 (Nat.zero_le _) a0 a1 a2 a3 a4 (fun f1 E h => key f1 E (by rw [List.drop_zero, hE] at h; exact h.symm))
      rw [e1, e2] at this
      exact this
    refine Zyg _ _ _ _ _ _ _ _ _ _ _ ?_
    rw [if_pos (by omega)]
    refine ⟨by omega, M, by rw [Int.toNat_natCast]; exact hget, .inr ⟨Zb9 M, Zbco h16, ?_⟩⟩
    cases ho : oneB (ofI M) with
    | true =>
      obtain ⟨j, hj4, ha, hMj⟩ := Zsi h16 ho
      have hent := Zsk (m := m) (sizes := sizes) (q := q) (out := Zz m sizes q i) ha
      have hE := hheld
      rw [hent] at hE
      have hlen1 := hE.len _ (List.mem_singleton.2 rfl)
      have hmk := hE.makes _ (List.mem_singleton.2 rfl)
      have hod := hE.ord _ (List.mem_singleton.2 rfl)
      have hjl : j < q.Atoms.length := by
        have h2 := c1.2
        have e : shlI 1 (j : Nat) = 2 ^ j := by
          have : j = 0 ∨ j = 1 ∨ j = 2 ∨ j = 3 := by omega
          rcases this with rfl | rfl | rfl | rfl <;> decide
        rw [hMj, e] at h2
        have h3 : (2 : Int) ^ j < 2 ^ q.Atoms.length := h2
        rw [← Zdw, ← Zdw] at h3
        exact (Nat.pow_lt_pow_iff_right (by omega)).1 (by omega : 2 ^ j < 2 ^ q.Atoms.length)
      have hvar := Zid b.hv _ (List.getElem_mem hjl)
      obtain ⟨v, vs, hvs⟩ : ∃ v vs, q.Atoms[j].Vars = v :: vs := by
        cases hh : q.Atoms[j].Vars with
        | nil => rw [hh] at hvar; simp at hvar
        | cons v vs => exact ⟨v, vs, rfl⟩
      have hv3 : 0 ≤ v ∧ v ≤ 3 := by
        have := Zl2 b.hv _ (List.getElem_mem hjl) v (by rw [hvs]; simp)
        have hn := Zc0 b.hv
        simp [inR] at this
        omega
      have hse : Zgm m sizes q M (j : Int) = ⟨M, v, Z4 m.Scan (szAt sizes M) 0 (szAt sizes M), ⟨[⟨1, j, 0⟩]⟩⟩ := by
        simp [Zgm, List.getElem?_eq_getElem hjl, hvs]
      rw [hse] at hmk
      have hcost := Z1.cost hmk b.hv (by simp) b.hsv
      obtain ⟨t, ht, hx⟩ := Z0z m b.hm q b.hq sizes b.hs M c2 zE zE zE zE zE [⟨1, j, 0⟩] v (by omega) _ hcost
      rw [show sm zE = false from rfl] at hx
      have hnx := hgo _ _ _ _ _ (by
        have hsp : Zbv q M = [] := by unfold Zbv; rw [hMj, Zbd2 hj4]; rfl
        rw [hsp, List.foldl_nil, hent, hse]
        exact Zbd0 (c := Z4 m.Scan (szAt sizes M) 0 (szAt sizes M)) (x := [⟨1, j, 0⟩]) c2 hv3)
      rw [ha, if_pos (by simp)]
      refine ⟨(j : Int), rfl, _, Zbc8 _, by omega, q.Atoms[j], by rw [Int.toNat_natCast]; exact List.getElem?_eq_getElem hjl, v, by rw [hvs]; rfl, ?_⟩
      rcases ht with rfl | rfl
      · exact .inl ⟨m, q, sizes, M, _, _, _, _, _, _, _, _, _, _, hx, .inr ⟨_, Zr2 q b.hq M hic, hnx⟩⟩
      · exact .inr ⟨m, q, sizes, M, _, _, _, _, _, _, _, _, _, _, _, hx, .inr ⟨_, Zr2 q b.hq M hic, hnx⟩⟩
    | false =>
      have hne := Zsj h16 ho
      rw [if_neg (by omega)]
      have hnx := hgo zE zE zE zE zE (by rw [Zsl hne]; rfl)
      rw [show sm zE = false from rfl] at hnx
      exact .inr ⟨_, Zr2 q b.hq M hic, hnx⟩
theorem Zbd4 {m : Zd} {q : Zb} {sizes : List Int} (b : Base m q sizes) (ha : Zco m) : Zim m q sizes = some (.own 0, [.arr 174 4 false ((Zz m sizes q (Zo q.Atoms).length).map Za.c)]) := by
  have hf := Zdv b.hv
  have hpw := Zdw q.Atoms.length
  have h16 : 2 ^ q.Atoms.length ≤ 16 := Nat.pow_le_pow_right (by omega : 0 < 2) (Zbm b.hv).2
  have hp1 : 1 ≤ 2 ^ q.Atoms.length := Nat.one_le_two_pow
  have e1 : w (Zs q.Ze q.Atoms + 1) = 2 ^ q.Atoms.length := by rw [w_id (by omega) (by omega)]; omega
  have hr : room = 140737488355328 := rfl
  refine Z9i _ _ _ _ ⟨_, Zz0 m b.hm, ?_⟩
  rw [if_pos (by simpa using ha)]
  refine ⟨_, Z0f q b.hq sizes b.hs, ?_⟩
  rw [if_pos b.hsv]
  refine ⟨_, Zgg q b.hq, ?_⟩
  rw [e1]
  have e2 : ((2 : Int) ^ q.Atoms.length).toNat = 2 ^ q.Atoms.length := by omega
  rw [e2]
  refine ⟨by omega, by omega, by rw [hr]; omega, by omega, _, Zbch q b.hq b.hv, ?_⟩
  refine i_table b 0 (Nat.zero_le _) _ true true (by simp) (by simp) ?_
  intro h
  exfalso
  have : (1 : Int) ∈ Zo q.Atoms := by
    refine Zh8.2 ⟨by omega, ?_, ?_⟩
    · have : 2 ^ 1 ≤ 2 ^ q.Atoms.length := Nat.pow_le_pow_right (by omega) (Zbm b.hv).1
      omega
    · have h1 := Zlq b.hv (true, false, false, false)
      rw [show toI (true, false, false, false) = 1 from rfl] at h1
      rw [h1]
      have key : ∀ a b c d e f : Bool, ∀ n : Fin 5, Zbt ⟨a, b, c, d, e, f⟩ n.1 (true, false, false, false) = true := by decide
      exact key _ _ _ _ _ _ ⟨q.Atoms.length, by have := (Zbm b.hv).2; omega⟩
  rw [List.length_eq_zero_iff.1 h.symm] at this
  cases this
end Go.Proofs.YtbapkgocloaaeaaGreat
/- part: IH -/
namespace Go.Proofs.YtbapkgocloaaeaaGreat
open Go.AM
def shOf (q : Zb) (M : Int) : List (List Int) := (Zp q.Atoms M).map fun A => Zdx q A (M - A)
def Zci (q : Zb) (M : Int) : Zr := ⟨M, Zp q.Atoms M, shOf q M⟩
def shapes (q : Zb) : List Zr := (Zo q.Atoms).map (Zci q)
theorem Zbd5 {q : Zb} (hv : Zn q.Ze q.Atoms = true) {M : Int} (c1 : MQ q.Atoms M) (c2 : M ≠ 0) (c3 : conn q.Atoms M = true) : Zbq q.Ze q.Atoms M = true := by
  unfold Zbq
  rw [hv, c3, Zdv hv]
  have h1 := c1.1
  have h2 := c1.2
  simp [inR, c2, h1]
  omega
section
variable (q : Zb) (hq : LeQ q) (hv : Zn q.Ze q.Atoms = true)
include hq hv
theorem Z1m {M : Int} (hM : MQ q.Atoms M) {A : Int} (hA : A ∈ Zp q.Atoms M) : Zf7 q A (w (M - A)) = some (.own 0, [.arr 3 1 true ((Zdx q A (M - A)).map ic)]) := by
  obtain ⟨q1, q2⟩ := Zsn hM hA
  have h16 := (q2.m16 hv).1
  rw [w_id (by omega) (by omega)]
  exact Zbc7 q hq hv A (M - A) q1 q2
theorem Zbd6 (out : List Zr) (hout : out.length ≤ 1000) {i : Nat} (hi : i < (Zo q.Atoms).length) (r : AV × List Blk) (h : Zdo q (out ++ [Zci q (Zo q.Atoms)[i]]) (Zo q.Atoms) (w ((i : Int) + 1)) = some r) :
    ∀ k, k ≤ (Zp q.Atoms (Zo q.Atoms)[i]).length → Zhs q out (Zo q.Atoms) (Zo q.Atoms)[i] (Zp q.Atoms (Zo q.Atoms)[i]) ((shOf q (Zo q.Atoms)[i]).take k) i k = some r := by
  obtain ⟨c1, c2, c3, c4⟩ := Zja hi
  have hsl := Zsh (qa := q.Atoms) (c1.m16 hv).1
  have hlen : (shOf q (Zo q.Atoms)[i]).length = (Zp q.Atoms (Zo q.Atoms)[i]).length := by simp [shOf]
  refine down _ ?_ ?_
  · refine Zza _ _ _ _ _ _ _ _ _ ?_
    rw [if_neg (by omega)]
    refine ⟨by omega, ?_⟩
    rw [← hlen, List.take_length]
    exact h
  · intro k hk ih
    have h4 := inc64 (i := k) (by omega)
    have hw : w ((k : Int) + 1) = ((k + 1 : Nat) : Int) := by rw [show w ((k : Int) + 1) = (k : Int) + 1 from h4]; simp
    refine Zza _ _ _ _ _ _ _ _ _ ?_
    rw [if_pos (by omega), hw]
    refine ⟨by omega, _, by rw [Int.toNat_natCast]; exact List.getElem?_eq_getElem hk, by omega, _, by rw [Int.toNat_natCast]; exact List.getElem?_eq_getElem hi, _, Z1m q hq hv c1 (List.getElem_mem hk), ?_, ?_⟩
    · rw [List.length_take]; omega
    · rw [List.take_succ_eq_append_getElem (by omega)] at ih
      simpa [shOf] using ih
theorem Zbd7 (out : List Zr) (hout : out.length ≤ 1000) {i : Nat} (hi : i < (Zo q.Atoms).length) (r : AV × List Blk) (h : Zdo q (out ++ [Zci q (Zo q.Atoms)[i]]) (Zo q.Atoms) (w ((i : Int) + 1)) = some r) :
    Zkw q out (Zo q.Atoms) (Zo q.Atoms)[i] (Zp q.Atoms (Zo q.Atoms)[i]) i 0 = some r := by
  obtain ⟨c1, c2, c3, c4⟩ := Zja hi
  refine Zbao _ _ _ _ _ _ _ _ ?_
  by_cases h0 : (Zp q.Atoms (Zo q.Atoms)[i]).length = 0
  · rw [if_neg (by omega)]
    refine ⟨by omega, ?_⟩
    have : Zci q (Zo q.Atoms)[i] = ⟨(Zo q.Atoms)[i], Zp q.Atoms (Zo q.Atoms)[i], []⟩ := by
      unfold Zci shOf
      rw [List.length_eq_zero_iff.1 h0]; rfl
    rw [← this]
    exact h
  · rw [if_pos (by omega)]
    have hk : 0 < (Zp q.Atoms (Zo q.Atoms)[i]).length := by omega
    have := Zbd6 q hq hv out hout hi r h 1 (by omega)
    refine ⟨by omega, _, List.getElem?_eq_getElem hk, by omega, _, by rw [Int.toNat_natCast]; exact List.getElem?_eq_getElem hi, _, Z1m q hq hv c1 (List.getElem_mem hk), ?_⟩
    rw [show w ((0 : Int) + 1) = ((1 : Nat) : Int) from by decide]
    have e : (shOf q (Zo q.Atoms)[i]).take 1 = [Zdx q (Zp q.Atoms (Zo q.Atoms)[i])[0] ((Zo q.Atoms)[i] - (Zp q.Atoms (Zo q.Atoms)[i])[0])] := by
      rw [List.take_succ_eq_append_getElem (by simp [shOf]; omega)]
      simp [shOf]
    rw [e] at this
    exact this
theorem l_shapes : ∀ i, i ≤ (Zo q.Atoms).length → Zdo q ((shapes q).take i) (Zo q.Atoms) i = some (.own 0, [.arr 242 3 true ((shapes q).map Zr.c)]) := by
  have hcl := Znk hv
  have hlen : (shapes q).length = (Zo q.Atoms).length := by simp [shapes]
  refine down _ ?_ ?_
  · refine Zy9 _ _ _ _ _ ?_
    rw [if_neg (by omega), ← hlen, List.take_length]
  · intro i hi ih
    have h4 := inc64 (i := i) (by omega)
    have hw : w ((i : Int) + 1) = ((i + 1 : Nat) : Int) := by rw [show w ((i : Int) + 1) = (i : Int) + 1 from h4]; simp
    obtain ⟨c1, c2, c3, c4⟩ := Zja hi
    refine Zy9 _ _ _ _ _ ?_
    rw [if_pos (by omega)]
    refine ⟨by omega, _, by rw [Int.toNat_natCast]; exact List.getElem?_eq_getElem hi, _, Zbcm q hq _ (Zbd5 hv c1 c2 c3), ?_⟩
    refine Zbd7 q hq hv _ (by rw [List.length_take]; omega) hi _ ?_
    rw [hw]
    rw [List.take_succ_eq_append_getElem (by omega)] at ih
    simpa [shapes] using ih
theorem Zbd8 : Zkv q = some (.own 0, [.arr 242 3 true ((shapes q).map Zr.c)]) :=
  Zbap _ _ ⟨_, Zbcj q hq hv, by simpa using l_shapes q hq hv 0 (Nat.zero_le _)⟩
end
theorem f_one : ∀ a : Fin 16, 1 ≤ a.1 → (andI (a.1 : Int) (w ((a.1 : Int) - 1)) = 0 ↔ oneB (ofI (a.1 : Int)) = true) := by decide
theorem Z1n {α β : Type} (f : α → β) : ∀ l : List α, l.zip (l.map f) = l.map fun a => (a, f a)
  | [] => rfl
  | a :: l => by simp [Z1n f l]
theorem s_table {m : Zd} {q : Zb} {sizes : List Int} (b : Base m q sizes) : ∀ i, i ≤ (Zo q.Atoms).length → ∀ fr : Bool, ∃ fr', Zgd (shapes q) sizes m q fr (Zz m sizes q i) i = some (.own 2, [.arr 242 3 true ((shapes q).map Zr.c), .arr 3 1 true (sizes.map ic), .arr 174 4 fr' ((Zz m sizes q (Zo q.Atoms).length).map Za.c)]) := by
  have hcl := Znk b.hv
  have hlen : (shapes q).length = (Zo q.Atoms).length := by simp [shapes]
  refine down _ ?_ ?_
  · intro fr
    refine ⟨fr, Zry _ _ _ _ _ _ _ _ ?_⟩
    rw [if_neg (by omega)]
  · intro i hi ih fr
    have h4 := inc64 (i := i) (by omega)
    have hw : w ((i : Int) + 1) = ((i + 1 : Nat) : Int) := by rw [show w ((i : Int) + 1) = (i : Int) + 1 from h4]; simp
    obtain ⟨c1, c2, c3, c4⟩ := Zja hi
    have hinv := Zjb b i (by omega)
    have hheld := Zsp b hinv c1 c2 c3 c4
    have hnext : Zz m sizes q (i + 1) = Zz m sizes q i ++ entM m sizes q (Zz m sizes q i) (Zo q.Atoms)[i] := by
      rw [Zz]
      congr 2
      simp [List.getD, hi]
    have hol := Zlv b (i := i) (by omega)
    have h16 := (c1.m16 b.hv).1
    have hget : (shapes q)[i]? = some (Zci q (Zo q.Atoms)[i]) := by
      unfold shapes
      rw [List.getElem?_map, List.getElem?_eq_getElem hi]; rfl
    rw [hnext] at ih
    generalize (Zo q.Atoms)[i] = M at *
    have hz := Z7 b.hsv c1
    have h1 : (andI M (w (M - 1)) = 0 ↔ oneB (ofI M) = true) := by
      have q1 := c1.1
      obtain ⟨a, rfl⟩ := m16 h16
      exact f_one a (by omega)
    have hle := hheld.le
    cases ho : oneB (ofI M) with
    | true =>
      obtain ⟨j, hj4, ha, hMj⟩ := Zsi h16 ho
      have hent := Zsk (m := m) (sizes := sizes) (q := q) (out := Zz m sizes q i) ha
      have hjl : j < q.Atoms.length := by
        have h2 := c1.2
        have e : shlI 1 (j : Nat) = 2 ^ j := by
          have : j = 0 ∨ j = 1 ∨ j = 2 ∨ j = 3 := by omega
          rcases this with rfl | rfl | rfl | rfl <;> decide
        rw [hMj, e] at h2
        have h3 : (2 : Int) ^ j < 2 ^ q.Atoms.length := h2
        rw [← Zdw, ← Zdw] at h3
        exact (Nat.pow_lt_pow_iff_right (by omega)).1 (by omega : 2 ^ j < 2 ^ q.Atoms.length)
      have hvar := Zid b.hv _ (List.getElem_mem hjl)
      obtain ⟨v, vs, hvs⟩ : ∃ v vs, q.Atoms[j].Vars = v :: vs := by
        cases hh : q.Atoms[j].Vars with
        | nil => rw [hh] at hvar; simp at hvar
        | cons v vs => exact ⟨v, vs, rfl⟩
      have hse : Zgm m sizes q M (j : Int) = ⟨M, v, Z4 m.Scan (szAt sizes M) 0 (szAt sizes M), ⟨[⟨1, j, 0⟩]⟩⟩ := by
        simp [Zgm, List.getElem?_eq_getElem hjl, hvs]
      rw [hent, hse] at ih
      obtain ⟨fr', hr⟩ := ih fr
      refine ⟨fr', Zry _ _ _ _ _ _ _ _ ?_⟩
      rw [if_pos (by omega)]
      refine ⟨by omega, _, by rw [Int.toNat_natCast]; exact hget, ?_⟩
      have h1' : andI (Zci q M).mask (w ((Zci q M).mask - 1)) = 0 := h1.2 ho
      rw [if_pos h1', hw]
      refine ⟨_, Zbcq h16, (j : Int), by rw [show Zb9 (Zci q M).mask = [(j : Int)] from ha]; rfl, by omega, q.Atoms[j], by rw [Int.toNat_natCast]; exact List.getElem?_eq_getElem hjl, v, by rw [hvs]; rfl, hz.1, _, hz.2, _, Zdt _ b.hm.1 _ _ _, _, Zbc9 _, by omega, ?_⟩
      exact hr
    | false =>
      have hne := Zsj h16 ho
      have ok := Zso b hinv c1 c3 c4
      have hzip : (Zci q M).Zp.zip (Zci q M).shared = Zbv q M := Z1n _ _
      have hsl := Zsh (qa := q.Atoms) h16
      obtain ⟨f1, hJ⟩ := Zbdt m b.hm b.hg sizes b.hcl q.Atoms fr (Zz m sizes q i) (by omega) (Zci q M) hz h16 (by show 0 < M; have := c1.1; omega) (by simp [Zci, shOf]) (by show (Zp q.Atoms M).length ≤ 100; omega) (by rw [hzip]; exact ok)
      rw [hzip] at hJ
      have hent := Zsl (m := m) (sizes := sizes) (q := q) (out := Zz m sizes q i) hne
      rw [hent] at ih hle
      obtain ⟨fr', hr⟩ := ih (fr && flat (((Zi9 m sizes M (Zz m sizes q i) (Zbv q M)).filter sm).map Za.c))
      refine ⟨fr', Zry _ _ _ _ _ _ _ _ ?_⟩
      rw [if_pos (by omega)]
      refine ⟨by omega, _, by rw [Int.toNat_natCast]; exact hget, ?_⟩
      have h1' : ¬ andI (Zci q M).mask (w ((Zci q M).mask - 1)) = 0 := fun h => by have := h1.1 h; rw [ho] at this; cases this
      rw [if_neg h1', hw]
      exact ⟨_, _, hJ, by show (Zz m sizes q i).length + ((Zi9 m sizes M (Zz m sizes q i) (Zbv q M)).filter sm).length ≤ 68719476736; omega, hr⟩
theorem Zbd9 {m : Zd} {q : Zb} {sizes : List Int} (b : Base m q sizes) : ∃ fr', Zk6 (shapes q) sizes m q = some (.own 2, [.arr 242 3 true ((shapes q).map Zr.c), .arr 3 1 true (sizes.map ic), .arr 174 4 fr' ((Zz m sizes q (Zo q.Atoms).length).map Za.c)]) := by
  obtain ⟨fr', h⟩ := s_table b 0 (Nat.zero_le _) true
  exact ⟨fr', Zba1 _ _ _ _ _ h⟩
end Go.Proofs.YtbapkgocloaaeaaGreat
/- part: IJ -/
namespace Go.Proofs.YtbapkgocloaaeaaGreat
open Go.AM
theorem Zbea (a b c : Int) (fr : Bool) (l : List Za) (hl : l.length ≤ 1000) : ∀ i, i ≤ l.length → ∀ best, Zfq a b c best fr l l.length i = some (.agg (((l.drop i).foldl Zbz best).c.map .t), [.arr 174 4 fr (l.map Za.c)]) := by
  refine down _ ?_ ?_
  · intro best
    refine Zyl _ _ _ _ _ _ _ _ _ ?_
    rw [if_neg (by omega)]; simp
  · intro i hi ih best
    have h4 := inc64 (i := i) (by omega)
    refine Zyl _ _ _ _ _ _ _ _ _ ?_
    rw [if_pos (by omega), List.drop_eq_getElem_cons hi, List.foldl_cons]
    refine ⟨by omega, l[i], by rw [Int.toNat_natCast]; exact List.getElem?_eq_getElem hi, ?_⟩
    rw [show w ((i : Int) + 1) = ((i + 1 : Nat) : Int) from by rw [show w ((i : Int) + 1) = (i : Int) + 1 from h4]; simp]
    by_cases e : l[i].Cost < best.Cost
    · rw [if_pos e, show Zbz best l[i] = l[i] by simp [Zbz, e]]; exact ih _
    · rw [if_neg e, show Zbz best l[i] = best by simp [Zbz, e]]; exact ih _
theorem Zbeb (fr : Bool) (l : List Za) (h0 : l ≠ []) (hl : l.length ≤ 1000) : Zj7 fr l = some (.agg ((Zw l).c.map .t), [.arr 174 4 fr (l.map Za.c)]) := by
  cases l with
  | nil => exact absurd rfl h0
  | cons e l =>
    refine Z9j _ _ _ ⟨e, rfl, ?_⟩
    have := Zbea 0 0 0 fr (e :: l) hl 0 (Nat.zero_le _) e
    simpa [Zw] using this
theorem l_best (l : List Za) (mask : Int) (hl : l.length ≤ 1000) (hne : ofM l mask ≠ []) (hs : ∀ e ∈ l, e.Plan.Steps.length ≤ 1000) : ∀ i, i ≤ l.length → ∀ fr, Zfr 0 0 0 fr (ofM (l.take i) mask) mask l l.length i = some (.tup [.agg [I (Zw (ofM l mask)).Mask, I (Zw (ofM l mask)).Order, I (Zw (ofM l mask)).Cost, .own 0], Bo true], [.arr 142 3 true ((Zw (ofM l mask)).Plan.Steps.map Zc.c)]) := by
  refine down _ ?_ ?_
  · intro fr
    refine Zym _ _ _ _ _ _ _ _ _ _ ?_
    rw [if_neg (by omega), List.take_length]
    have h1 : (ofM l mask).length ≠ 0 := fun h => hne (List.length_eq_zero_iff.1 h)
    have h2 : (ofM l mask).length ≤ l.length := List.length_filter_le _ _
    rw [if_neg (by omega)]
    have hmem := Zr8 hne
    exact ⟨_, Zbeb fr _ hne (by omega), _, Znd _ (hs _ (List.mem_filter.1 hmem).1), rfl⟩
  · intro i hi ih fr
    have h4 := inc64 (i := i) (by omega)
    have hw : w ((i : Int) + 1) = ((i + 1 : Nat) : Int) := by rw [show w ((i : Int) + 1) = (i : Int) + 1 from h4]; simp
    rw [Z00 l mask hi] at ih
    have h2 : (ofM (l.take i) mask).length ≤ (l.take i).length := List.length_filter_le _ _
    rw [List.length_take] at h2
    refine Zym _ _ _ _ _ _ _ _ _ _ ?_
    rw [if_pos (by omega), hw]
    refine ⟨by omega, l[i], by rw [Int.toNat_natCast]; exact List.getElem?_eq_getElem hi, ?_⟩
    by_cases e : l[i].Mask = mask
    · rw [if_pos e]
      rw [if_pos e] at ih
      exact ⟨by omega, ih false⟩
    · rw [if_neg e]
      rw [if_neg e, List.append_nil] at ih
      exact ih fr
theorem Zbec (l : List Za) (mask : Int) (hl : l.length ≤ 1000) (hne : ofM l mask ≠ []) (hs : ∀ e ∈ l, e.Plan.Steps.length ≤ 1000) : Zin l mask = some (.tup [.agg [I (Zw (ofM l mask)).Mask, I (Zw (ofM l mask)).Order, I (Zw (ofM l mask)).Cost, .own 0], Bo true], [.arr 142 3 true ((Zw (ofM l mask)).Plan.Steps.map Zc.c)]) :=
  Z9k _ _ _ (by simpa [ofM] using l_best l mask hl hne hs 0 (Nat.zero_le _) true)
theorem Zbed (l : List Za) (mask : Int) (hl : l.length ≤ 1000) (hne : ofM l mask ≠ []) (hs : ∀ e ∈ l, e.Plan.Steps.length ≤ 1000) : Ziu l mask = some (.tup [.agg [I (Zw (ofM l mask)).Mask, I (Zw (ofM l mask)).Order, I (Zw (ofM l mask)).Cost, .own 0], Bo true], [.arr 142 3 true ((Zw (ofM l mask)).Plan.Steps.map Zc.c)]) := by
  obtain ⟨k1, k2⟩ := Znh hne
  have hmem := Zr8 hne
  have := hs _ (List.mem_filter.1 hmem).1
  refine Zba2 _ _ _ ⟨_, x_low l mask hl, ?_⟩
  rw [if_neg (by omega)]
  exact ⟨k1, _, k2, by omega, rfl⟩
def tab (m : Zd) (q : Zb) (sizes : List Int) : List Za := Zz m sizes q (Zo q.Atoms).length
def opt (m : Zd) (q : Zb) (sizes : List Int) : Za := Zw (ofM (tab m q sizes) (Zs q.Ze q.Atoms))
theorem full_MQ {q : Zb} (hv : Zn q.Ze q.Atoms = true) : MQ q.Atoms (Zs q.Ze q.Atoms) := by
  have := Zdv hv
  have := Zn6 hv
  exact ⟨by omega, by omega⟩
theorem Z1o {m : Zd} {q : Zb} {sizes : List Int} (b : Base m q sizes) (hc : Zbq q.Ze q.Atoms (Zs q.Ze q.Atoms) = true) : Held m sizes q.Atoms (Zs q.Ze q.Atoms) (ofM (tab m q sizes) (Zs q.Ze q.Atoms)) := by
  refine (Zjb b _ (Nat.le_refl _)).held _ ?_
  rw [List.take_length]
  have hp := Zn6 b.hv
  have hq := full_MQ b.hv
  unfold Zbq at hc
  simp only [Bool.and_eq_true] at hc
  exact Zh8.2 ⟨by omega, hq.2, hc.2⟩
theorem Zbee {m : Zd} {q : Zb} {sizes : List Int} (b : Base m q sizes) (ha : Zco m) (hc : Zbq q.Ze q.Atoms (Zs q.Ze q.Atoms) = true) : Zio m q sizes = some (.tup [.agg [I (opt m q sizes).Mask, I (opt m q sizes).Order, I (opt m q sizes).Cost, .own 0], Bo true], [.arr 142 3 true ((opt m q sizes).Plan.Steps.map Zc.c)]) := by
  have hl := Zlv b (Nat.le_refl (Zo q.Atoms).length)
  refine Z9l _ _ _ _ (.inr ⟨_, _, Zbd4 b ha, _, Zgg q b.hq, .inr ⟨_, _, _, _, Zbec _ _ (by omega) (Z1o b hc).ne (Zsr b (Nat.le_refl _)), rfl⟩⟩)
theorem Zbef {m : Zd} {q : Zb} {sizes : List Int} (b : Base m q sizes) (ha : Zco m) (hc : Zbq q.Ze q.Atoms (Zs q.Ze q.Atoms) = true) : Zj8 m q sizes = some (I (opt m q sizes).Cost, []) :=
  Z9m _ _ _ _ (.inr ⟨_, _, _, _, Zbee b ha hc, rfl⟩)
theorem Zbeg {m : Zd} {q : Zb} {l : List Int} (hl : l.length ≤ 4294967296) (h : Z5 l = true) (b : Base m q (Zbo l)) (ha : Zco m) (hc : Zbq q.Ze q.Atoms (Zs q.Ze q.Atoms) = true) : Zj9 m q l = some (I (opt m q (Zbo l)).Cost, []) := by
  have hb := Z0j l hl
  rw [h, if_pos rfl] at hb
  exact Z9n _ _ _ _ (.inl ⟨_, hb, _, Zbef b ha hc, rfl⟩)
/-! ### regions -/
def LeR (r : Region) : Prop := Le r.Box.Low ∧ Le r.Box.High
theorem x_boxOk (q : Zb) (hq : LeQ q) (bx : Box) (hb : LeX bx) : Zjm q bx = some (Bo (Zic q.Ze q.Atoms bx.Low bx.High), []) := by
  have q5 := Zl1 q.Ze q.Atoms
  refine Z8g _ _ _ ⟨_, Zzs bx hb, ?_⟩
  unfold Zic
  rcases tf (Zb3 bx.Low bx.High) with e | e
  · rw [e]; simp
  · rw [e, if_pos rfl]
    refine ⟨_, Zgg q hq, ?_⟩
    rw [show w (Zs q.Ze q.Atoms + 1) = Zs q.Ze q.Atoms + 1 from q5]
    simp
theorem Zbeh (q : Zb) (hq : LeQ q) (r : Region) (hr : LeR r) : Zjo q r = some (Bo (Zfb q.Ze q.Atoms r.Plan.Steps r.Box.Low r.Box.High r.Percent), []) := by
  refine Z8l _ _ _ ⟨_, Zlh q hq, ?_⟩
  unfold Zfb
  rcases tf (Zn q.Ze q.Atoms) with e | e
  · rw [e]; simp
  rw [e, if_pos rfl]
  refine ⟨_, x_boxOk q hq r.Box hr, ?_⟩
  rcases tf (Zic q.Ze q.Atoms r.Box.Low r.Box.High) with e2 | e2
  · rw [e2]; simp
  rw [e2, if_pos rfl]
  refine ⟨_, Zbby q r.Plan hq, _, Zgg q hq, ?_⟩
  by_cases e3 : Zfa q.Ze q.Atoms r.Plan.Steps = Zs q.Ze q.Atoms
  · rw [if_pos e3]
    exact ⟨_, Zcg _ _ _, by simp [e3]⟩
  · rw [if_neg e3]; simp [e3]
theorem Zbei (q : Zb) (hq : LeQ q) (r : Region) (hr : LeR r) : Zkn q r = some (Bo (Zfb q.Ze q.Atoms r.Plan.Steps r.Box.Low r.Box.High r.Percent), []) := by
  have q5 := Zl1 q.Ze q.Atoms
  refine Zbai _ _ _ ⟨_, Zzt r.Box hr, ?_⟩
  unfold Zfb Zic
  rcases tf (Zb3 r.Box.Low r.Box.High) with e | e
  · rw [e]; simp
  rw [e, if_pos rfl]
  refine ⟨_, Zlj q hq, ?_⟩
  rw [show w (Zs q.Ze q.Atoms + 1) = Zs q.Ze q.Atoms + 1 from q5]
  by_cases e4 : (r.Box.Low.length : Int) = Zs q.Ze q.Atoms + 1
  · rw [if_pos e4]
    refine ⟨_, Zbbz q r.Plan hq, ?_⟩
    by_cases e3 : Zfa q.Ze q.Atoms r.Plan.Steps = Zs q.Ze q.Atoms
    · rw [if_pos e3]
      rcases tf (Zn q.Ze q.Atoms) with e1 | e1
      · have e5 : Zs q.Ze q.Atoms = 0 := by unfold Zs; rw [e1]; rfl
        rw [if_neg (by omega)]; simp [e1]
      · have e5 := Zn6 e1
        rw [if_pos e5]
        exact ⟨_, Zds _ _ _, by simp [e1, e3, e4]⟩
    · rw [if_neg e3]; simp [e3]
  · rw [if_neg e4]; simp [e4]
def Zcj (m : Zd) (q : Zb) (r : Region) : Prop := Zfb q.Ze q.Atoms r.Plan.Steps r.Box.Low r.Box.High r.Percent = true ∧ Zbq q.Ze q.Atoms (Zs q.Ze q.Atoms) = true ∧ Zco m
theorem Znl {l : List Int} (h : Z5 l = true) : l.length ≤ 16 := by
  simp only [Z5, Bool.and_eq_true, decide_eq_true_eq] at h
  omega
theorem class_le {a : Int} (h : 0 ≤ a ∧ a ≤ 7) : inR (Zbg a) 0 4096 = true := by
  have : a = 0 ∨ a = 1 ∨ a = 2 ∨ a = 3 ∨ a = 4 ∨ a = 5 ∨ a = 6 ∨ a = 7 := by omega
  rcases this with rfl | rfl | rfl | rfl | rfl | rfl | rfl | rfl <;> decide
theorem base_of {m : Zd} (hm : LeM m) (ha : Zco m) {q : Zb} (hq : LeQ q) (hv : Zn q.Ze q.Atoms = true) {l : List Int} (h : Z5 l = true) (hl : (l.length : Int) = Zs q.Ze q.Atoms + 1) : Base m q (Zbo l) := by
  have hll : (l.length : Int) ≤ 16 := by simp only [Z5, Bool.and_eq_true, decide_eq_true_eq] at h; exact h.2
  have hc := Zbdj h
  refine ⟨hm, ha.2.1, hq, hv, by simp [Zbo]; omega, hc, ?_⟩
  unfold Zbj Zgi
  rw [hv]
  have : (Zbo l).all (fun x => inR x 0 4096) = true := by
    rw [List.all_eq_true]
    intro s hs
    obtain ⟨a, h1, rfl⟩ := hc s hs
    exact class_le h1
  rw [this]
  simp [Zbo, hl]
theorem Zss {m : Zd} {q : Zb} {r : Region} (h : Zcj m q r) : Zn q.Ze q.Atoms = true ∧ Z5 r.Box.Low = true ∧ Z5 r.Box.High = true ∧ (r.Box.Low.length : Int) = Zs q.Ze q.Atoms + 1 ∧ Zb3 r.Box.Low r.Box.High = true ∧ inR r.Percent 100 1000 = true ∧ Zfa q.Ze q.Atoms r.Plan.Steps = Zs q.Ze q.Atoms := by
  have h1 := h.1
  unfold Zfb Zic at h1
  simp only [Bool.and_eq_true, decide_eq_true_eq] at h1
  have h2 := h1.1.1.2.1
  unfold Zb3 at h2
  simp only [Bool.and_eq_true, decide_eq_true_eq] at h2
  exact ⟨h1.1.1.1, h2.1.1.2, h2.1.2, h1.1.1.2.2, h1.1.1.2.1, h1.2, h1.1.2⟩
theorem Z1p {m : Zd} {q : Zb} {r : Region} (hm : LeM m) (hq : LeQ q) (h : Zcj m q r) : Base m q (Zbo r.Box.Low) := by
  obtain ⟨h1, h2, h3, h4, _⟩ := Zss h
  exact base_of hm h.2.2 hq h1 h2 h4
def Znm (m : Zd) (q : Zb) (r : Region) : Bool := decide (w (100 * Zcq m q.Ze q.Atoms r.Plan.Steps (Zbo r.Box.High)) ≤ w (r.Percent * (opt m q (Zbo r.Box.Low)).Cost))
theorem Zbej {m : Zd} {q : Zb} {r : Region} (hm : LeM m) (hq : LeQ q) (hr : LeR r) (h : Zcj m q r) : Zka m q r = some (Bo (Znm m q r), []) := by
  obtain ⟨h1, h2, h3, h4, _⟩ := Zss h
  have l1 := Znl h2
  have l2 := Znl h3
  exact Z9o _ _ _ _ ⟨_, Zbc3 m hm q hq r.Plan r.Box.High (by omega) h3, _, Zbeg (by omega) h2 (Z1p hm hq h) h.2.2 h.2.1, rfl⟩
theorem Zbek {m : Zd} {q : Zb} {r : Region} (hm : LeM m) (hq : LeQ q) (hr : LeR r) (h : Zcj m q r) : Zlc m q r = some (Bo (Znm m q r), []) := by
  obtain ⟨h1, h2, h3, h4, _⟩ := Zss h
  have l1 := Znl h2
  have l2 := Znl h3
  have b := Z1p hm hq h
  have hl := Zlv b (Nat.le_refl (Zo q.Atoms).length)
  have hs := Z0k r.Box.Low (by omega)
  rw [h2, if_pos rfl] at hs
  obtain ⟨fr, ht⟩ := Zbd9 b
  refine Zba8 _ _ _ _ ⟨_, Zbd8 q hq h1, _, hs, _, _, ht, _, Zlj q hq, .inr ⟨_, _, _, _, Zbed _ _ (by omega) (Z1o b h.2.1).ne (Zsr b (Nat.le_refl _)), _, Zbc4 m hm q hq r.Plan r.Box.High (by omega) h3, ?_⟩⟩
  unfold Znm opt tab
  rw [Int.mul_comm]
open Classical in
noncomputable def Zh9 (m : Zd) (q : Zb) (r : Region) : Bool := decide (Zcj m q r) && Znm m q r
theorem Zbel {m : Zd} {q : Zb} {r : Region} (hm : LeM m) (hq : LeQ q) (hr : LeR r) : Zju m q r = some (Bo (@decide (Zcj m q r) (Classical.propDecidable _)), []) := by
  refine Z8z _ _ _ _ ⟨_, Zbeh q hq r hr, ?_⟩
  rcases tf (Zfb q.Ze q.Atoms r.Plan.Steps r.Box.Low r.Box.High r.Percent) with e | e
  · rw [if_neg (by rw [e]; simp)]
    have : ¬ Zcj m q r := fun h => by rw [h.1] at e; cases e
    simp [this]
  rw [if_pos e]
  refine ⟨_, Zgg q hq, _, Zz7 q hq _, ?_⟩
  rcases tf (Zbq q.Ze q.Atoms (Zs q.Ze q.Atoms)) with e2 | e2
  · rw [if_neg (by rw [e2]; simp)]
    have : ¬ Zcj m q r := fun h => by rw [h.2.1] at e2; cases e2
    simp [this]
  rw [if_pos e2]
  refine ⟨_, Zz0 m hm, ?_⟩
  by_cases ha : Zco m
  · have : Zcj m q r := ⟨e, e2, ha⟩
    simp [this, ha]
  · have : ¬ Zcj m q r := fun h => ha h.2.2
    simp [this, ha]
theorem Z1q {m : Zd} {q : Zb} {r : Region} (hm : LeM m) (hq : LeQ q) (hr : LeR r) : Zip m q r = some (Bo (Zh9 m q r), []) := by
  refine Z9p _ _ _ _ ⟨_, Zbel hm hq hr, ?_⟩
  unfold Zh9
  by_cases h : Zcj m q r
  · rw [if_pos (by simp [h])]
    exact ⟨_, Zbej hm hq hr h, by simp [h]⟩
  · rw [if_neg (by simp [h])]; simp [h]
theorem Z1r {m : Zd} {q : Zb} {r : Region} (hm : LeM m) (hq : LeQ q) (hr : LeR r) : Ziv m q r = some (Bo (Zh9 m q r), []) := by
  refine Zba9 _ _ _ _ ⟨_, Zbcb m hm, ?_⟩
  unfold Zh9
  by_cases ha : Zco m
  · rw [if_pos (by simp [ha])]
    refine ⟨_, Zlj q hq, _, Zz8 q hq _, ?_⟩
    rcases tf (Zbq q.Ze q.Atoms (Zs q.Ze q.Atoms)) with e2 | e2
    · rw [if_neg (by rw [e2]; simp)]
      have : ¬ Zcj m q r := fun h => by rw [h.2.1] at e2; cases e2
      simp [this]
    rw [if_pos e2]
    refine ⟨_, Zbei q hq r hr, ?_⟩
    rcases tf (Zfb q.Ze q.Atoms r.Plan.Steps r.Box.Low r.Box.High r.Percent) with e | e
    · rw [if_neg (by rw [e]; simp)]
      have : ¬ Zcj m q r := fun h => by rw [h.1] at e; cases e
      simp [this]
    rw [if_pos e]
    have h : Zcj m q r := ⟨e, e2, ha⟩
    exact ⟨_, Zbek hm hq hr h, by simp [h]⟩
  · rw [if_neg (by simp [ha])]
    have : ¬ Zcj m q r := fun h => ha h.2.2
    simp [this]
end Go.Proofs.YtbapkgocloaaeaaGreat
/- part: K -/
namespace Go.Proofs.YtbapkgocloaaeaaGreat
open Go.AM
def Zlw : MFun := ⟨3, 63, [.tmp 6],
  .seq (.reg [ ⟨some 3, none, .box (.s 0)⟩, ⟨some 4, none, .box (.s 1)⟩, ⟨some 5, none, .box (.s 2)⟩, ⟨some 6, none, .mov (.c (.t (.bool false)))⟩] [3, 4, 5])
  (.seq (.reg [ ⟨some 7, none, .mov (.c (.t (.int .i64 1048576)))⟩] [3, 4, 5, 7])
  (.seq (.reg [ ⟨some 13, none, .load (some 30) (.s 3)⟩, ⟨some 14, none, .mov (.s 7)⟩, ⟨some 15, none, .call 13 [.s 13, .s 14]⟩, ⟨some 7, none, .mov (.s 15)⟩] [3, 4, 5, 7])
  (.seq (.seq (.reg [ ⟨some 16, none, .mov (.s 7)⟩, ⟨some 17, none, .bin .lss (.s 16) (.c (.t (.int .i64 0)))⟩] [3, 4, 5, 7, 17])
  (.cond (.s 17)
    (.seq (.reg [ ⟨some 6, none, .mov (.c (.t (.bool true)))⟩] [6])
    (.ret))
    (.skip)))
  (.seq (.reg [ ⟨some 18, none, .load (some 2) (.s 4)⟩, ⟨some 19, none, .mov (.s 7)⟩, ⟨some 20, none, .call 14 [.s 18, .s 19]⟩, ⟨some 7, none, .mov (.s 20)⟩] [3, 4, 5, 7])
  (.seq (.seq (.reg [ ⟨some 21, none, .mov (.s 7)⟩, ⟨some 22, none, .bin .lss (.s 21) (.c (.t (.int .i64 0)))⟩] [3, 4, 5, 7, 22])
  (.cond (.s 22)
    (.seq (.reg [ ⟨some 6, none, .mov (.c (.t (.bool true)))⟩] [6])
    (.ret))
    (.skip)))
  (.seq (.reg [ ⟨some 23, none, .load (some 4) (.s 5)⟩, ⟨some 24, none, .mov (.s 7)⟩, ⟨some 25, none, .call 34 [.s 23, .s 24]⟩, ⟨some 7, none, .mov (.s 25)⟩] [3, 4, 5, 7])
  (.seq (.seq (.reg [ ⟨some 26, none, .mov (.s 7)⟩, ⟨some 27, none, .bin .lss (.s 26) (.c (.t (.int .i64 0)))⟩] [3, 4, 5, 27])
  (.cond (.s 27)
    (.seq (.reg [ ⟨some 6, none, .mov (.c (.t (.bool true)))⟩] [6])
    (.ret))
    (.skip)))
  (.seq (.drw [ ⟨some 28, none, .load (some 30) (.s 3)⟩, ⟨some 29, none, .call 18 [.s 28]⟩, ⟨some 30, none, .load (some 2) (.s 4)⟩, ⟨some 31, none, .call 19 [.s 30]⟩, ⟨some 32, none, .load (some 4) (.s 5)⟩, ⟨some 33, none, .call 36 [.s 32]⟩, ⟨some 34, none, .call 35 [.s 29, .s 31, .s 33]⟩, ⟨some 8, none, .mov (.s 34)⟩] [[], [0], [], [2, 1], [], [4, 3], [1, 3, 5, 5], [6, 6, 0, 1, 2, 3, 4, 5, 6]] [3, 4, 5, 8])
  (.seq (.reg [ ⟨some 35, none, .load (some 30) (.s 3)⟩, ⟨some 36, none, .call 18 [.s 35]⟩, ⟨some 9, none, .alloc [(.t (.int .i64 0)), (.t (.int .i64 0)), (.t (.int .i64 0)), (.t (.int .i64 0)), (.t (.int .i64 0)), (.t .nil), (.t (.int .i64 0)), (.t (.int .i64 0)), (.t (.int .i64 0)), (.t (.int .i64 0)), (.t (.int .i64 0)), (.t .nil), (.t (.int .i64 0)), (.t (.int .i64 0)), (.t (.int .i64 0)), (.t (.int .i64 0)), (.t (.int .i64 0)), (.t .nil), (.t (.int .i64 0)), (.t (.int .i64 0)), (.t (.int .i64 0)), (.t (.int .i64 0)), (.t (.int .i64 0)), (.t .nil), (.t (.int .i64 0)), (.t (.int .i64 0)), (.t (.int .i64 0)), (.t (.int .i64 0)), (.t (.int .i64 0)), (.t .nil)]⟩, ⟨none, none, .store 30 (.s 9) (.s 36)⟩] [3, 4, 5, 8, 9])
  (.seq (.reg [ ⟨some 37, none, .load (some 2) (.s 4)⟩, ⟨some 38, none, .call 19 [.s 37]⟩, ⟨some 10, none, .alloc [(.t (.int .i64 0)), (.t .nil)]⟩, ⟨none, none, .store 2 (.s 10) (.s 38)⟩] [3, 4, 5, 8, 9, 10])
  (.seq (.reg [ ⟨some 39, none, .load (some 4) (.s 5)⟩, ⟨some 40, none, .call 36 [.s 39]⟩, ⟨some 11, none, .alloc [(.t .nil), (.t .nil), (.t .nil), (.t (.int .i64 0))]⟩, ⟨none, none, .store 4 (.s 11) (.s 40)⟩] [3, 4, 5, 8, 9, 10, 11])
  (.seq (.reg [ ⟨some 41, none, .load (some 30) (.s 9)⟩, ⟨some 42, none, .load (some 2) (.s 10)⟩, ⟨some 43, none, .load (some 4) (.s 11)⟩, ⟨some 44, none, .call 37 [.s 41, .s 42, .s 43]⟩, ⟨some 12, none, .mov (.s 44)⟩] [3, 4, 5, 8, 9, 10, 11, 12])
  (.seq (.seq (.reg [ ⟨some 45, none, .mov (.s 12)⟩, ⟨some 46, none, .mov (.s 8)⟩, ⟨some 47, none, .beq true (.s 45) (.s 46)⟩] [3, 4, 5, 9, 10, 11, 47])
  (.cond (.s 47)
    (.seq (.reg [ ⟨some 6, none, .mov (.c (.t (.bool false)))⟩] [6])
    (.ret))
    (.skip)))
  (.seq (.seq (.drw [ ⟨some 48, none, .load (some 30) (.s 9)⟩, ⟨some 49, none, .load (some 30) (.s 3)⟩, ⟨some 50, none, .call 18 [.s 49]⟩, ⟨some 51, none, .call 24 [.s 48, .s 50]⟩, ⟨some 52, none, .un .not (.s 51)⟩] [[], [], [1], [0, 2, 2], [3]] [4, 5, 10, 11, 52])
  (.cond (.s 52)
    (.seq (.reg [ ⟨some 6, none, .mov (.c (.t (.bool false)))⟩] [6])
    (.ret))
    (.skip)))
  (.seq (.seq (.drw [ ⟨some 53, none, .load (some 2) (.s 10)⟩, ⟨some 54, none, .load (some 2) (.s 4)⟩, ⟨some 55, none, .call 19 [.s 54]⟩, ⟨some 56, none, .call 25 [.s 53, .s 55]⟩, ⟨some 57, none, .un .not (.s 56)⟩] [[], [], [1], [0, 2, 2], [3]] [5, 11, 57])
  (.cond (.s 57)
    (.seq (.reg [ ⟨some 6, none, .mov (.c (.t (.bool false)))⟩] [6])
    (.ret))
    (.skip)))
  (.seq (.seq (.drw [ ⟨some 58, none, .load (some 4) (.s 11)⟩, ⟨some 59, none, .load (some 4) (.s 5)⟩, ⟨some 60, none, .call 36 [.s 59]⟩, ⟨some 61, none, .call 38 [.s 58, .s 60]⟩, ⟨some 62, none, .un .not (.s 61)⟩] [[], [], [1], [0, 2, 2], [3]] [62])
  (.cond (.s 62)
    (.seq (.reg [ ⟨some 6, none, .mov (.c (.t (.bool false)))⟩] [6])
    (.ret))
    (.skip)))
  (.seq (.reg [ ⟨some 6, none, .mov (.c (.t (.bool true)))⟩] [6])
  (.ret))))))))))))))))))⟩
theorem Zbem : tbl 4 = some Zlw := tblOf_eq Tryz.func4 (by kernel_rfl) (by kernel_rfl)
def Znn : MFun := ⟨2, 45, [.tmp 4],
  .seq (.reg [ ⟨some 2, none, .box (.s 0)⟩, ⟨some 3, none, .box (.s 1)⟩, ⟨some 4, none, .mov (.c (.t (.bool false)))⟩] [2, 3])
  (.seq (.reg [ ⟨some 5, none, .mov (.c (.t (.int .i64 1048576)))⟩] [2, 3, 5])
  (.seq (.reg [ ⟨some 10, none, .load (some 30) (.s 2)⟩, ⟨some 11, none, .mov (.s 5)⟩, ⟨some 12, none, .call 13 [.s 10, .s 11]⟩, ⟨some 5, none, .mov (.s 12)⟩] [2, 3, 5])
  (.seq (.seq (.reg [ ⟨some 13, none, .mov (.s 5)⟩, ⟨some 14, none, .bin .lss (.s 13) (.c (.t (.int .i64 0)))⟩] [2, 3, 5, 14])
  (.cond (.s 14)
    (.seq (.reg [ ⟨some 4, none, .mov (.c (.t (.bool true)))⟩] [4])
    (.ret))
    (.skip)))
  (.seq (.reg [ ⟨some 15, none, .load (some 2) (.s 3)⟩, ⟨some 16, none, .mov (.s 5)⟩, ⟨some 17, none, .call 52 [.s 15, .s 16]⟩, ⟨some 5, none, .mov (.s 17)⟩] [2, 3, 5])
  (.seq (.seq (.reg [ ⟨some 18, none, .mov (.s 5)⟩, ⟨some 19, none, .bin .lss (.s 18) (.c (.t (.int .i64 0)))⟩] [2, 3, 19])
  (.cond (.s 19)
    (.seq (.reg [ ⟨some 4, none, .mov (.c (.t (.bool true)))⟩] [4])
    (.ret))
    (.skip)))
  (.seq (.drw [ ⟨some 20, none, .load (some 30) (.s 2)⟩, ⟨some 21, none, .call 18 [.s 20]⟩, ⟨some 22, none, .load (some 2) (.s 3)⟩, ⟨some 23, none, .call 54 [.s 22]⟩, ⟨some 24, none, .call 53 [.s 21, .s 23]⟩, ⟨some 6, none, .mov (.s 24)⟩] [[], [0], [], [2, 1], [1, 3, 3], [4, 4, 0, 1, 2, 3, 4]] [2, 3, 6])
  (.seq (.reg [ ⟨some 25, none, .load (some 30) (.s 2)⟩, ⟨some 26, none, .call 18 [.s 25]⟩, ⟨some 7, none, .alloc [(.t (.int .i64 0)), (.t (.int .i64 0)), (.t (.int .i64 0)), (.t (.int .i64 0)), (.t (.int .i64 0)), (.t .nil), (.t (.int .i64 0)), (.t (.int .i64 0)), (.t (.int .i64 0)), (.t (.int .i64 0)), (.t (.int .i64 0)), (.t .nil), (.t (.int .i64 0)), (.t (.int .i64 0)), (.t (.int .i64 0)), (.t (.int .i64 0)), (.t (.int .i64 0)), (.t .nil), (.t (.int .i64 0)), (.t (.int .i64 0)), (.t (.int .i64 0)), (.t (.int .i64 0)), (.t (.int .i64 0)), (.t .nil), (.t (.int .i64 0)), (.t (.int .i64 0)), (.t (.int .i64 0)), (.t (.int .i64 0)), (.t (.int .i64 0)), (.t .nil)]⟩, ⟨none, none, .store 30 (.s 7) (.s 26)⟩] [2, 3, 6, 7])
  (.seq (.reg [ ⟨some 27, none, .load (some 2) (.s 3)⟩, ⟨some 28, none, .call 54 [.s 27]⟩, ⟨some 8, none, .alloc [(.t (.int .i64 0)), (.t .nil)]⟩, ⟨none, none, .store 2 (.s 8) (.s 28)⟩] [2, 3, 6, 7, 8])
  (.seq (.reg [ ⟨some 29, none, .load (some 30) (.s 7)⟩, ⟨some 30, none, .load (some 2) (.s 8)⟩, ⟨some 31, none, .call 55 [.s 29, .s 30]⟩, ⟨some 9, none, .mov (.s 31)⟩] [2, 3, 6, 7, 8, 9])
  (.seq (.seq (.reg [ ⟨some 32, none, .mov (.s 9)⟩, ⟨some 33, none, .mov (.s 6)⟩, ⟨some 34, none, .beq true (.s 32) (.s 33)⟩] [2, 3, 7, 8, 34])
  (.cond (.s 34)
    (.seq (.reg [ ⟨some 4, none, .mov (.c (.t (.bool false)))⟩] [4])
    (.ret))
    (.skip)))
  (.seq (.seq (.drw [ ⟨some 35, none, .load (some 30) (.s 7)⟩, ⟨some 36, none, .load (some 30) (.s 2)⟩, ⟨some 37, none, .call 18 [.s 36]⟩, ⟨some 38, none, .call 24 [.s 35, .s 37]⟩, ⟨some 39, none, .un .not (.s 38)⟩] [[], [], [1], [0, 2, 2], [3]] [3, 8, 39])
  (.cond (.s 39)
    (.seq (.reg [ ⟨some 4, none, .mov (.c (.t (.bool false)))⟩] [4])
    (.ret))
    (.skip)))
  (.seq (.seq (.drw [ ⟨some 40, none, .load (some 2) (.s 8)⟩, ⟨some 41, none, .load (some 2) (.s 3)⟩, ⟨some 42, none, .call 54 [.s 41]⟩, ⟨some 43, none, .call 56 [.s 40, .s 42]⟩, ⟨some 44, none, .un .not (.s 43)⟩] [[], [], [1], [0, 2, 2], [3]] [44])
  (.cond (.s 44)
    (.seq (.reg [ ⟨some 4, none, .mov (.c (.t (.bool false)))⟩] [4])
    (.ret))
    (.skip)))
  (.seq (.reg [ ⟨some 4, none, .mov (.c (.t (.bool true)))⟩] [4])
  (.ret))))))))))))))⟩
theorem Zben : tbl 7 = some Znn := tblOf_eq Tryz.func7 (by kernel_rfl) (by kernel_rfl)
def Z1s : MFun := ⟨2, 36, [.tmp 4],
  .seq (.reg [ ⟨some 2, none, .box (.s 0)⟩, ⟨some 4, none, .mov (.c (.t (.int .i64 0)))⟩] [1, 2])
  (.seq (.reg [ ⟨some 5, none, .faddr 0 (.s 2)⟩, ⟨some 6, none, .load (some 6) (.s 5)⟩, ⟨some 7, none, .mov (.s 1)⟩, ⟨some 8, none, .call 84 [.s 6, .s 7]⟩, ⟨some 1, none, .mov (.s 8)⟩] [1, 2])
  (.seq (.seq (.reg [ ⟨some 9, none, .mov (.s 1)⟩, ⟨some 10, none, .bin .lss (.s 9) (.c (.t (.int .i64 0)))⟩] [1, 2, 10])
  (.cond (.s 10)
    (.seq (.reg [ ⟨some 4, none, .mov (.c (.t (.int .i64 (-1))))⟩] [4])
    (.ret))
    (.skip)))
  (.seq (.reg [ ⟨some 11, none, .faddr 6 (.s 2)⟩, ⟨some 12, none, .load (some 6) (.s 11)⟩, ⟨some 13, none, .mov (.s 1)⟩, ⟨some 14, none, .call 84 [.s 12, .s 13]⟩, ⟨some 1, none, .mov (.s 14)⟩] [1, 2])
  (.seq (.seq (.reg [ ⟨some 15, none, .mov (.s 1)⟩, ⟨some 16, none, .bin .lss (.s 15) (.c (.t (.int .i64 0)))⟩] [1, 2, 16])
  (.cond (.s 16)
    (.seq (.reg [ ⟨some 4, none, .mov (.c (.t (.int .i64 (-1))))⟩] [4])
    (.ret))
    (.skip)))
  (.seq (.reg [ ⟨some 17, none, .faddr 12 (.s 2)⟩, ⟨some 18, none, .load (some 6) (.s 17)⟩, ⟨some 19, none, .mov (.s 1)⟩, ⟨some 20, none, .call 84 [.s 18, .s 19]⟩, ⟨some 1, none, .mov (.s 20)⟩] [1, 2])
  (.seq (.seq (.reg [ ⟨some 21, none, .mov (.s 1)⟩, ⟨some 22, none, .bin .lss (.s 21) (.c (.t (.int .i64 0)))⟩] [1, 2, 22])
  (.cond (.s 22)
    (.seq (.reg [ ⟨some 4, none, .mov (.c (.t (.int .i64 (-1))))⟩] [4])
    (.ret))
    (.skip)))
  (.seq (.reg [ ⟨some 23, none, .faddr 18 (.s 2)⟩, ⟨some 24, none, .load (some 6) (.s 23)⟩, ⟨some 25, none, .mov (.s 1)⟩, ⟨some 26, none, .call 84 [.s 24, .s 25]⟩, ⟨some 1, none, .mov (.s 26)⟩] [1, 2])
  (.seq (.seq (.reg [ ⟨some 27, none, .mov (.s 1)⟩, ⟨some 28, none, .bin .lss (.s 27) (.c (.t (.int .i64 0)))⟩] [1, 2, 28])
  (.cond (.s 28)
    (.seq (.reg [ ⟨some 4, none, .mov (.c (.t (.int .i64 (-1))))⟩] [4])
    (.ret))
    (.skip)))
  (.seq (.reg [ ⟨some 29, none, .faddr 24 (.s 2)⟩, ⟨some 30, none, .load (some 6) (.s 29)⟩, ⟨some 31, none, .mov (.s 1)⟩, ⟨some 32, none, .call 84 [.s 30, .s 31]⟩, ⟨some 1, none, .mov (.s 32)⟩] [1])
  (.seq (.seq (.reg [ ⟨some 33, none, .mov (.s 1)⟩, ⟨some 34, none, .bin .lss (.s 33) (.c (.t (.int .i64 0)))⟩] [1, 34])
  (.cond (.s 34)
    (.seq (.reg [ ⟨some 4, none, .mov (.c (.t (.int .i64 (-1))))⟩] [4])
    (.ret))
    (.skip)))
  (.seq (.reg [ ⟨some 35, none, .mov (.s 1)⟩, ⟨some 4, none, .mov (.s 35)⟩] [4])
  (.ret))))))))))))⟩
theorem Zbeo : tbl 13 = some Z1s := tblOf_eq Tryz.func13 (by kernel_rfl) (by kernel_rfl)
def Z1t : MFun := ⟨2, 12, [.tmp 4],
  .seq (.reg [ ⟨some 2, none, .box (.s 0)⟩, ⟨some 4, none, .mov (.c (.t (.int .i64 0)))⟩] [1, 2])
  (.seq (.reg [ ⟨some 5, none, .faddr 1 (.s 2)⟩, ⟨some 6, none, .load none (.s 5)⟩, ⟨some 7, none, .mov (.s 1)⟩, ⟨some 8, none, .call 85 [.s 6, .s 7]⟩, ⟨some 1, none, .mov (.s 8)⟩] [1])
  (.seq (.seq (.reg [ ⟨some 9, none, .mov (.s 1)⟩, ⟨some 10, none, .bin .lss (.s 9) (.c (.t (.int .i64 0)))⟩] [1, 10])
  (.cond (.s 10)
    (.seq (.reg [ ⟨some 4, none, .mov (.c (.t (.int .i64 (-1))))⟩] [4])
    (.ret))
    (.skip)))
  (.seq (.reg [ ⟨some 11, none, .mov (.s 1)⟩, ⟨some 4, none, .mov (.s 11)⟩] [4])
  (.ret))))⟩
theorem Zbep : tbl 14 = some Z1t := tblOf_eq Tryz.func14 (by kernel_rfl) (by kernel_rfl)
def Z1u : MFun := ⟨2, 12, [.tmp 4],
  .seq (.reg [ ⟨some 2, none, .box (.s 0)⟩, ⟨some 4, none, .mov (.c (.t (.int .i64 0)))⟩] [1, 2])
  (.seq (.reg [ ⟨some 5, none, .faddr 0 (.s 2)⟩, ⟨some 6, none, .load none (.s 5)⟩, ⟨some 7, none, .mov (.s 1)⟩, ⟨some 8, none, .call 86 [.s 6, .s 7]⟩, ⟨some 1, none, .mov (.s 8)⟩] [1])
  (.seq (.seq (.reg [ ⟨some 9, none, .mov (.s 1)⟩, ⟨some 10, none, .bin .lss (.s 9) (.c (.t (.int .i64 0)))⟩] [1, 10])
  (.cond (.s 10)
    (.seq (.reg [ ⟨some 4, none, .mov (.c (.t (.int .i64 (-1))))⟩] [4])
    (.ret))
    (.skip)))
  (.seq (.reg [ ⟨some 11, none, .mov (.s 1)⟩, ⟨some 4, none, .mov (.s 11)⟩] [4])
  (.ret))))⟩
theorem Zbeq : tbl 15 = some Z1u := tblOf_eq Tryz.func15 (by kernel_rfl) (by kernel_rfl)
def Z1v : MFun := ⟨1, 25, [.cell 2 (some 30)],
  .seq (.reg [ ⟨some 1, none, .box (.s 0)⟩, ⟨some 2, none, .alloc [(.t (.int .i64 0)), (.t (.int .i64 0)), (.t (.int .i64 0)), (.t (.int .i64 0)), (.t (.int .i64 0)), (.t .nil), (.t (.int .i64 0)), (.t (.int .i64 0)), (.t (.int .i64 0)), (.t (.int .i64 0)), (.t (.int .i64 0)), (.t .nil), (.t (.int .i64 0)), (.t (.int .i64 0)), (.t (.int .i64 0)), (.t (.int .i64 0)), (.t (.int .i64 0)), (.t .nil), (.t (.int .i64 0)), (.t (.int .i64 0)), (.t (.int .i64 0)), (.t (.int .i64 0)), (.t (.int .i64 0)), (.t .nil), (.t (.int .i64 0)), (.t (.int .i64 0)), (.t (.int .i64 0)), (.t (.int .i64 0)), (.t (.int .i64 0)), (.t .nil)]⟩] [1, 2])
  (.seq (.reg [ ⟨some 3, none, .alloc [(.t (.int .i64 0)), (.t (.int .i64 0)), (.t (.int .i64 0)), (.t (.int .i64 0)), (.t (.int .i64 0)), (.t .nil), (.t (.int .i64 0)), (.t (.int .i64 0)), (.t (.int .i64 0)), (.t (.int .i64 0)), (.t (.int .i64 0)), (.t .nil), (.t (.int .i64 0)), (.t (.int .i64 0)), (.t (.int .i64 0)), (.t (.int .i64 0)), (.t (.int .i64 0)), (.t .nil), (.t (.int .i64 0)), (.t (.int .i64 0)), (.t (.int .i64 0)), (.t (.int .i64 0)), (.t (.int .i64 0)), (.t .nil), (.t (.int .i64 0)), (.t (.int .i64 0)), (.t (.int .i64 0)), (.t (.int .i64 0)), (.t (.int .i64 0)), (.t .nil)]⟩] [1, 2, 3])
  (.seq (.reg [ ⟨some 4, none, .faddr 0 (.s 1)⟩, ⟨some 5, none, .load (some 6) (.s 4)⟩, ⟨some 6, none, .call 95 [.s 5]⟩, ⟨some 7, none, .faddr 0 (.s 3)⟩, ⟨none, none, .store 6 (.s 7) (.s 6)⟩] [1, 2, 3])
  (.seq (.reg [ ⟨some 8, none, .faddr 6 (.s 1)⟩, ⟨some 9, none, .load (some 6) (.s 8)⟩, ⟨some 10, none, .call 95 [.s 9]⟩, ⟨some 11, none, .faddr 6 (.s 3)⟩, ⟨none, none, .store 6 (.s 11) (.s 10)⟩] [1, 2, 3])
  (.seq (.reg [ ⟨some 12, none, .faddr 12 (.s 1)⟩, ⟨some 13, none, .load (some 6) (.s 12)⟩, ⟨some 14, none, .call 95 [.s 13]⟩, ⟨some 15, none, .faddr 12 (.s 3)⟩, ⟨none, none, .store 6 (.s 15) (.s 14)⟩] [1, 2, 3])
  (.seq (.reg [ ⟨some 16, none, .faddr 18 (.s 1)⟩, ⟨some 17, none, .load (some 6) (.s 16)⟩, ⟨some 18, none, .call 95 [.s 17]⟩, ⟨some 19, none, .faddr 18 (.s 3)⟩, ⟨none, none, .store 6 (.s 19) (.s 18)⟩] [1, 2, 3])
  (.seq (.reg [ ⟨some 20, none, .faddr 24 (.s 1)⟩, ⟨some 21, none, .load (some 6) (.s 20)⟩, ⟨some 22, none, .call 95 [.s 21]⟩, ⟨some 23, none, .faddr 24 (.s 3)⟩, ⟨none, none, .store 6 (.s 23) (.s 22)⟩] [2, 3])
  (.seq (.reg [ ⟨some 24, none, .load (some 30) (.s 3)⟩, ⟨none, none, .store 30 (.s 2) (.s 24)⟩] [2])
  (.ret))))))))⟩
theorem Zber : tbl 18 = some Z1v := tblOf_eq Tryz.func18 (by kernel_rfl) (by kernel_rfl)
def Z1w : MFun := ⟨1, 12, [.cell 2 (some 2)],
  .seq (.reg [ ⟨some 1, none, .box (.s 0)⟩, ⟨some 2, none, .alloc [(.t (.int .i64 0)), (.t .nil)]⟩] [1, 2])
  (.seq (.reg [ ⟨some 3, none, .alloc [(.t (.int .i64 0)), (.t .nil)]⟩] [1, 2, 3])
  (.seq (.reg [ ⟨some 4, none, .faddr 0 (.s 1)⟩, ⟨some 5, none, .load none (.s 4)⟩, ⟨some 6, none, .faddr 0 (.s 3)⟩, ⟨none, none, .store 1 (.s 6) (.s 5)⟩] [1, 2, 3])
  (.seq (.reg [ ⟨some 7, none, .faddr 1 (.s 1)⟩, ⟨some 8, none, .load none (.s 7)⟩, ⟨some 9, none, .call 96 [.s 8]⟩, ⟨some 10, none, .faddr 1 (.s 3)⟩, ⟨none, none, .store 1 (.s 10) (.s 9)⟩] [2, 3])
  (.seq (.reg [ ⟨some 11, none, .load (some 2) (.s 3)⟩, ⟨none, none, .store 2 (.s 2) (.s 11)⟩] [2])
  (.ret)))))⟩
theorem Zbes : tbl 19 = some Z1w := tblOf_eq Tryz.func19 (by kernel_rfl) (by kernel_rfl)
def Z1x : MFun := ⟨1, 9, [.cell 2 (some 1)],
  .seq (.reg [ ⟨some 1, none, .box (.s 0)⟩, ⟨some 2, none, .alloc [(.t .nil)]⟩] [1, 2])
  (.seq (.reg [ ⟨some 3, none, .alloc [(.t .nil)]⟩] [1, 2, 3])
  (.seq (.reg [ ⟨some 4, none, .faddr 0 (.s 1)⟩, ⟨some 5, none, .load none (.s 4)⟩, ⟨some 6, none, .call 97 [.s 5]⟩, ⟨some 7, none, .faddr 0 (.s 3)⟩, ⟨none, none, .store 1 (.s 7) (.s 6)⟩] [2, 3])
  (.seq (.reg [ ⟨some 8, none, .load (some 1) (.s 3)⟩, ⟨none, none, .store 1 (.s 2) (.s 8)⟩] [2])
  (.ret))))⟩
theorem Zbet : tbl 20 = some Z1x := tblOf_eq Tryz.func20 (by kernel_rfl) (by kernel_rfl)
def Zno : MCode :=
  .seq (.seq (.reg [ ⟨some 11, none, .mov (.s 5)⟩, ⟨some 12, none, .mov (.s 0)⟩, ⟨some 13, none, .len false (.s 12)⟩, ⟨some 14, none, .bin .lss (.s 11) (.s 13)⟩] [0, 1, 5, 14])
  (.cond (.s 14)
    (.skip)
    (.exit 0)))
  (.seq (.block 1 (.seq (.drw [ ⟨some 17, none, .mov (.s 0)⟩, ⟨some 18, none, .mov (.s 5)⟩, ⟨some 19, none, .iaddr 1 (.s 17) (.s 18)⟩, ⟨some 20, none, .load none (.s 19)⟩, ⟨some 21, none, .mov (.s 1)⟩, ⟨some 22, none, .mov (.s 5)⟩, ⟨some 23, none, .iaddr 1 (.s 21) (.s 22)⟩, ⟨some 24, none, .load none (.s 23)⟩, ⟨some 25, none, .bin .neq (.s 20) (.s 24)⟩] [[], [], [0, 1], [2], [], [], [4, 5], [6], [3, 7]] [0, 1, 5, 25])
  (.cond (.s 25)
    (.seq (.reg [ ⟨some 4, none, .mov (.c (.t (.bool false)))⟩] [4])
    (.ret))
    (.skip))))
  (.reg [ ⟨some 15, none, .mov (.s 5)⟩, ⟨some 16, none, .bin .add (.s 15) (.c (.t (.int .i64 1)))⟩, ⟨some 5, none, .mov (.s 16)⟩] [0, 1, 5]))
def Zst : MFun := ⟨2, 26, [.tmp 4],
  .seq (.reg [ ⟨some 4, none, .mov (.c (.t (.bool false)))⟩] [0, 1])
  (.seq (.seq (.reg [ ⟨some 6, none, .mov (.s 0)⟩, ⟨some 7, none, .len false (.s 6)⟩, ⟨some 8, none, .mov (.s 1)⟩, ⟨some 9, none, .len false (.s 8)⟩, ⟨some 10, none, .bin .neq (.s 7) (.s 9)⟩] [0, 1, 10])
  (.cond (.s 10)
    (.seq (.reg [ ⟨some 4, none, .mov (.c (.t (.bool false)))⟩] [4])
    (.ret))
    (.skip)))
  (.seq (.seq (.reg [ ⟨some 5, none, .mov (.c (.t (.int .i64 0)))⟩] [0, 1, 5])
  (.block 0 (.loop [0, 1, 5] Zno)))
  (.seq (.reg [ ⟨some 4, none, .mov (.c (.t (.bool true)))⟩] [4])
  (.ret))))⟩
theorem Zbeu : tbl 23 = some Zst := tblOf_eq Tryz.func23 (by kernel_rfl) (by kernel_rfl)
def Z1y : MFun := ⟨2, 35, [.tmp 4],
  .seq (.reg [ ⟨some 2, none, .box (.s 0)⟩, ⟨some 3, none, .box (.s 1)⟩, ⟨some 4, none, .mov (.c (.t (.bool false)))⟩] [2, 3])
  (.seq (.seq (.reg [ ⟨some 5, none, .faddr 0 (.s 2)⟩, ⟨some 6, none, .load (some 6) (.s 5)⟩, ⟨some 7, none, .faddr 0 (.s 3)⟩, ⟨some 8, none, .load (some 6) (.s 7)⟩, ⟨some 9, none, .call 109 [.s 6, .s 8]⟩, ⟨some 10, none, .un .not (.s 9)⟩] [2, 3, 10])
  (.cond (.s 10)
    (.seq (.reg [ ⟨some 4, none, .mov (.c (.t (.bool false)))⟩] [4])
    (.ret))
    (.skip)))
  (.seq (.seq (.reg [ ⟨some 11, none, .faddr 6 (.s 2)⟩, ⟨some 12, none, .load (some 6) (.s 11)⟩, ⟨some 13, none, .faddr 6 (.s 3)⟩, ⟨some 14, none, .load (some 6) (.s 13)⟩, ⟨some 15, none, .call 109 [.s 12, .s 14]⟩, ⟨some 16, none, .un .not (.s 15)⟩] [2, 3, 16])
  (.cond (.s 16)
    (.seq (.reg [ ⟨some 4, none, .mov (.c (.t (.bool false)))⟩] [4])
    (.ret))
    (.skip)))
  (.seq (.seq (.reg [ ⟨some 17, none, .faddr 12 (.s 2)⟩, ⟨some 18, none, .load (some 6) (.s 17)⟩, ⟨some 19, none, .faddr 12 (.s 3)⟩, ⟨some 20, none, .load (some 6) (.s 19)⟩, ⟨some 21, none, .call 109 [.s 18, .s 20]⟩, ⟨some 22, none, .un .not (.s 21)⟩] [2, 3, 22])
  (.cond (.s 22)
    (.seq (.reg [ ⟨some 4, none, .mov (.c (.t (.bool false)))⟩] [4])
    (.ret))
    (.skip)))
  (.seq (.seq (.reg [ ⟨some 23, none, .faddr 18 (.s 2)⟩, ⟨some 24, none, .load (some 6) (.s 23)⟩, ⟨some 25, none, .faddr 18 (.s 3)⟩, ⟨some 26, none, .load (some 6) (.s 25)⟩, ⟨some 27, none, .call 109 [.s 24, .s 26]⟩, ⟨some 28, none, .un .not (.s 27)⟩] [2, 3, 28])
  (.cond (.s 28)
    (.seq (.reg [ ⟨some 4, none, .mov (.c (.t (.bool false)))⟩] [4])
    (.ret))
    (.skip)))
  (.seq (.seq (.reg [ ⟨some 29, none, .faddr 24 (.s 2)⟩, ⟨some 30, none, .load (some 6) (.s 29)⟩, ⟨some 31, none, .faddr 24 (.s 3)⟩, ⟨some 32, none, .load (some 6) (.s 31)⟩, ⟨some 33, none, .call 109 [.s 30, .s 32]⟩, ⟨some 34, none, .un .not (.s 33)⟩] [34])
  (.cond (.s 34)
    (.seq (.reg [ ⟨some 4, none, .mov (.c (.t (.bool false)))⟩] [4])
    (.ret))
    (.skip)))
  (.seq (.reg [ ⟨some 4, none, .mov (.c (.t (.bool true)))⟩] [4])
  (.ret)))))))⟩
theorem Zbev : tbl 24 = some Z1y := tblOf_eq Tryz.func24 (by kernel_rfl) (by kernel_rfl)
def Z1z : MFun := ⟨2, 16, [.tmp 4],
  .seq (.reg [ ⟨some 2, none, .box (.s 0)⟩, ⟨some 3, none, .box (.s 1)⟩, ⟨some 4, none, .mov (.c (.t (.bool false)))⟩] [2, 3])
  (.seq (.seq (.reg [ ⟨some 5, none, .faddr 0 (.s 2)⟩, ⟨some 6, none, .load none (.s 5)⟩, ⟨some 7, none, .faddr 0 (.s 3)⟩, ⟨some 8, none, .load none (.s 7)⟩, ⟨some 9, none, .bin .neq (.s 6) (.s 8)⟩] [2, 3, 9])
  (.cond (.s 9)
    (.seq (.reg [ ⟨some 4, none, .mov (.c (.t (.bool false)))⟩] [4])
    (.ret))
    (.skip)))
  (.seq (.seq (.reg [ ⟨some 10, none, .faddr 1 (.s 2)⟩, ⟨some 11, none, .load none (.s 10)⟩, ⟨some 12, none, .faddr 1 (.s 3)⟩, ⟨some 13, none, .load none (.s 12)⟩, ⟨some 14, none, .call 110 [.s 11, .s 13]⟩, ⟨some 15, none, .un .not (.s 14)⟩] [15])
  (.cond (.s 15)
    (.seq (.reg [ ⟨some 4, none, .mov (.c (.t (.bool false)))⟩] [4])
    (.ret))
    (.skip)))
  (.seq (.reg [ ⟨some 4, none, .mov (.c (.t (.bool true)))⟩] [4])
  (.ret))))⟩
theorem Zbew : tbl 25 = some Z1z := tblOf_eq Tryz.func25 (by kernel_rfl) (by kernel_rfl)
def Z10 : MFun := ⟨2, 11, [.tmp 4],
  .seq (.reg [ ⟨some 2, none, .box (.s 0)⟩, ⟨some 3, none, .box (.s 1)⟩, ⟨some 4, none, .mov (.c (.t (.bool false)))⟩] [2, 3])
  (.seq (.seq (.reg [ ⟨some 5, none, .faddr 0 (.s 2)⟩, ⟨some 6, none, .load none (.s 5)⟩, ⟨some 7, none, .faddr 0 (.s 3)⟩, ⟨some 8, none, .load none (.s 7)⟩, ⟨some 9, none, .call 111 [.s 6, .s 8]⟩, ⟨some 10, none, .un .not (.s 9)⟩] [10])
  (.cond (.s 10)
    (.seq (.reg [ ⟨some 4, none, .mov (.c (.t (.bool false)))⟩] [4])
    (.ret))
    (.skip)))
  (.seq (.reg [ ⟨some 4, none, .mov (.c (.t (.bool true)))⟩] [4])
  (.ret)))⟩
theorem Zbex : tbl 26 = some Z10 := tblOf_eq Tryz.func26 (by kernel_rfl) (by kernel_rfl)
def Z11 : MFun := ⟨2, 18, [.tmp 4],
  .seq (.reg [ ⟨some 2, none, .box (.s 0)⟩, ⟨some 4, none, .mov (.c (.t (.int .i64 0)))⟩] [1, 2])
  (.seq (.reg [ ⟨some 5, none, .faddr 0 (.s 2)⟩, ⟨some 6, none, .load (some 1) (.s 5)⟩, ⟨some 7, none, .mov (.s 1)⟩, ⟨some 8, none, .call 15 [.s 6, .s 7]⟩, ⟨some 1, none, .mov (.s 8)⟩] [1, 2])
  (.seq (.seq (.reg [ ⟨some 9, none, .mov (.s 1)⟩, ⟨some 10, none, .bin .lss (.s 9) (.c (.t (.int .i64 0)))⟩] [1, 2, 10])
  (.cond (.s 10)
    (.seq (.reg [ ⟨some 4, none, .mov (.c (.t (.int .i64 (-1))))⟩] [4])
    (.ret))
    (.skip)))
  (.seq (.reg [ ⟨some 11, none, .faddr 1 (.s 2)⟩, ⟨some 12, none, .load (some 2) (.s 11)⟩, ⟨some 13, none, .mov (.s 1)⟩, ⟨some 14, none, .call 57 [.s 12, .s 13]⟩, ⟨some 1, none, .mov (.s 14)⟩] [1])
  (.seq (.seq (.reg [ ⟨some 15, none, .mov (.s 1)⟩, ⟨some 16, none, .bin .lss (.s 15) (.c (.t (.int .i64 0)))⟩] [1, 16])
  (.cond (.s 16)
    (.seq (.reg [ ⟨some 4, none, .mov (.c (.t (.int .i64 (-1))))⟩] [4])
    (.ret))
    (.skip)))
  (.seq (.reg [ ⟨some 17, none, .mov (.s 1)⟩, ⟨some 4, none, .mov (.s 17)⟩] [4])
  (.ret))))))⟩
theorem Zbey : tbl 34 = some Z11 := tblOf_eq Tryz.func34 (by kernel_rfl) (by kernel_rfl)
def Z12 : MFun := ⟨1, 16, [.cell 2 (some 4)],
  .seq (.reg [ ⟨some 1, none, .box (.s 0)⟩, ⟨some 2, none, .alloc [(.t .nil), (.t .nil), (.t .nil), (.t (.int .i64 0))]⟩] [1, 2])
  (.seq (.reg [ ⟨some 3, none, .alloc [(.t .nil), (.t .nil), (.t .nil), (.t (.int .i64 0))]⟩] [1, 2, 3])
  (.seq (.reg [ ⟨some 4, none, .faddr 0 (.s 1)⟩, ⟨some 5, none, .load (some 1) (.s 4)⟩, ⟨some 6, none, .call 20 [.s 5]⟩, ⟨some 7, none, .faddr 0 (.s 3)⟩, ⟨none, none, .store 1 (.s 7) (.s 6)⟩] [1, 2, 3])
  (.seq (.reg [ ⟨some 8, none, .faddr 1 (.s 1)⟩, ⟨some 9, none, .load (some 2) (.s 8)⟩, ⟨some 10, none, .call 58 [.s 9]⟩, ⟨some 11, none, .faddr 1 (.s 3)⟩, ⟨none, none, .store 2 (.s 11) (.s 10)⟩] [1, 2, 3])
  (.seq (.reg [ ⟨some 12, none, .faddr 3 (.s 1)⟩, ⟨some 13, none, .load none (.s 12)⟩, ⟨some 14, none, .faddr 3 (.s 3)⟩, ⟨none, none, .store 1 (.s 14) (.s 13)⟩] [2, 3])
  (.seq (.reg [ ⟨some 15, none, .load (some 4) (.s 3)⟩, ⟨none, none, .store 4 (.s 2) (.s 15)⟩] [2])
  (.ret))))))⟩
theorem Zbez : tbl 36 = some Z12 := tblOf_eq Tryz.func36 (by kernel_rfl) (by kernel_rfl)
def Z13 : MFun := ⟨2, 22, [.tmp 4],
  .seq (.reg [ ⟨some 2, none, .box (.s 0)⟩, ⟨some 3, none, .box (.s 1)⟩, ⟨some 4, none, .mov (.c (.t (.bool false)))⟩] [2, 3])
  (.seq (.seq (.reg [ ⟨some 5, none, .faddr 0 (.s 2)⟩, ⟨some 6, none, .load (some 1) (.s 5)⟩, ⟨some 7, none, .faddr 0 (.s 3)⟩, ⟨some 8, none, .load (some 1) (.s 7)⟩, ⟨some 9, none, .call 26 [.s 6, .s 8]⟩, ⟨some 10, none, .un .not (.s 9)⟩] [2, 3, 10])
  (.cond (.s 10)
    (.seq (.reg [ ⟨some 4, none, .mov (.c (.t (.bool false)))⟩] [4])
    (.ret))
    (.skip)))
  (.seq (.seq (.reg [ ⟨some 11, none, .faddr 1 (.s 2)⟩, ⟨some 12, none, .load (some 2) (.s 11)⟩, ⟨some 13, none, .faddr 1 (.s 3)⟩, ⟨some 14, none, .load (some 2) (.s 13)⟩, ⟨some 15, none, .call 60 [.s 12, .s 14]⟩, ⟨some 16, none, .un .not (.s 15)⟩] [2, 3, 16])
  (.cond (.s 16)
    (.seq (.reg [ ⟨some 4, none, .mov (.c (.t (.bool false)))⟩] [4])
    (.ret))
    (.skip)))
  (.seq (.seq (.reg [ ⟨some 17, none, .faddr 3 (.s 2)⟩, ⟨some 18, none, .load none (.s 17)⟩, ⟨some 19, none, .faddr 3 (.s 3)⟩, ⟨some 20, none, .load none (.s 19)⟩, ⟨some 21, none, .bin .neq (.s 18) (.s 20)⟩] [21])
  (.cond (.s 21)
    (.seq (.reg [ ⟨some 4, none, .mov (.c (.t (.bool false)))⟩] [4])
    (.ret))
    (.skip)))
  (.seq (.reg [ ⟨some 4, none, .mov (.c (.t (.bool true)))⟩] [4])
  (.ret)))))⟩
theorem Zbe0 : tbl 38 = some Z13 := tblOf_eq Tryz.func38 (by kernel_rfl) (by kernel_rfl)
def Z14 : MFun := ⟨2, 12, [.tmp 4],
  .seq (.reg [ ⟨some 2, none, .box (.s 0)⟩, ⟨some 4, none, .mov (.c (.t (.int .i64 0)))⟩] [1, 2])
  (.seq (.reg [ ⟨some 5, none, .faddr 1 (.s 2)⟩, ⟨some 6, none, .load none (.s 5)⟩, ⟨some 7, none, .mov (.s 1)⟩, ⟨some 8, none, .call 146 [.s 6, .s 7]⟩, ⟨some 1, none, .mov (.s 8)⟩] [1])
  (.seq (.seq (.reg [ ⟨some 9, none, .mov (.s 1)⟩, ⟨some 10, none, .bin .lss (.s 9) (.c (.t (.int .i64 0)))⟩] [1, 10])
  (.cond (.s 10)
    (.seq (.reg [ ⟨some 4, none, .mov (.c (.t (.int .i64 (-1))))⟩] [4])
    (.ret))
    (.skip)))
  (.seq (.reg [ ⟨some 11, none, .mov (.s 1)⟩, ⟨some 4, none, .mov (.s 11)⟩] [4])
  (.ret))))⟩
theorem Zbe1 : tbl 52 = some Z14 := tblOf_eq Tryz.func52 (by kernel_rfl) (by kernel_rfl)
def Z15 : MFun := ⟨1, 12, [.cell 2 (some 2)],
  .seq (.reg [ ⟨some 1, none, .box (.s 0)⟩, ⟨some 2, none, .alloc [(.t (.int .i64 0)), (.t .nil)]⟩] [1, 2])
  (.seq (.reg [ ⟨some 3, none, .alloc [(.t (.int .i64 0)), (.t .nil)]⟩] [1, 2, 3])
  (.seq (.reg [ ⟨some 4, none, .faddr 0 (.s 1)⟩, ⟨some 5, none, .load none (.s 4)⟩, ⟨some 6, none, .faddr 0 (.s 3)⟩, ⟨none, none, .store 1 (.s 6) (.s 5)⟩] [1, 2, 3])
  (.seq (.reg [ ⟨some 7, none, .faddr 1 (.s 1)⟩, ⟨some 8, none, .load none (.s 7)⟩, ⟨some 9, none, .call 147 [.s 8]⟩, ⟨some 10, none, .faddr 1 (.s 3)⟩, ⟨none, none, .store 1 (.s 10) (.s 9)⟩] [2, 3])
  (.seq (.reg [ ⟨some 11, none, .load (some 2) (.s 3)⟩, ⟨none, none, .store 2 (.s 2) (.s 11)⟩] [2])
  (.ret)))))⟩
theorem Zbe2 : tbl 54 = some Z15 := tblOf_eq Tryz.func54 (by kernel_rfl) (by kernel_rfl)
def Z16 : MFun := ⟨2, 16, [.tmp 4],
  .seq (.reg [ ⟨some 2, none, .box (.s 0)⟩, ⟨some 3, none, .box (.s 1)⟩, ⟨some 4, none, .mov (.c (.t (.bool false)))⟩] [2, 3])
  (.seq (.seq (.reg [ ⟨some 5, none, .faddr 0 (.s 2)⟩, ⟨some 6, none, .load none (.s 5)⟩, ⟨some 7, none, .faddr 0 (.s 3)⟩, ⟨some 8, none, .load none (.s 7)⟩, ⟨some 9, none, .bin .neq (.s 6) (.s 8)⟩] [2, 3, 9])
  (.cond (.s 9)
    (.seq (.reg [ ⟨some 4, none, .mov (.c (.t (.bool false)))⟩] [4])
    (.ret))
    (.skip)))
  (.seq (.seq (.reg [ ⟨some 10, none, .faddr 1 (.s 2)⟩, ⟨some 11, none, .load none (.s 10)⟩, ⟨some 12, none, .faddr 1 (.s 3)⟩, ⟨some 13, none, .load none (.s 12)⟩, ⟨some 14, none, .call 150 [.s 11, .s 13]⟩, ⟨some 15, none, .un .not (.s 14)⟩] [15])
  (.cond (.s 15)
    (.seq (.reg [ ⟨some 4, none, .mov (.c (.t (.bool false)))⟩] [4])
    (.ret))
    (.skip)))
  (.seq (.reg [ ⟨some 4, none, .mov (.c (.t (.bool true)))⟩] [4])
  (.ret))))⟩
theorem Zbe3 : tbl 56 = some Z16 := tblOf_eq Tryz.func56 (by kernel_rfl) (by kernel_rfl)
def Z17 : MFun := ⟨2, 18, [.tmp 4],
  .seq (.reg [ ⟨some 2, none, .box (.s 0)⟩, ⟨some 4, none, .mov (.c (.t (.int .i64 0)))⟩] [1, 2])
  (.seq (.reg [ ⟨some 5, none, .faddr 0 (.s 2)⟩, ⟨some 6, none, .load none (.s 5)⟩, ⟨some 7, none, .mov (.s 1)⟩, ⟨some 8, none, .call 151 [.s 6, .s 7]⟩, ⟨some 1, none, .mov (.s 8)⟩] [1, 2])
  (.seq (.seq (.reg [ ⟨some 9, none, .mov (.s 1)⟩, ⟨some 10, none, .bin .lss (.s 9) (.c (.t (.int .i64 0)))⟩] [1, 2, 10])
  (.cond (.s 10)
    (.seq (.reg [ ⟨some 4, none, .mov (.c (.t (.int .i64 (-1))))⟩] [4])
    (.ret))
    (.skip)))
  (.seq (.reg [ ⟨some 11, none, .faddr 1 (.s 2)⟩, ⟨some 12, none, .load none (.s 11)⟩, ⟨some 13, none, .mov (.s 1)⟩, ⟨some 14, none, .call 151 [.s 12, .s 13]⟩, ⟨some 1, none, .mov (.s 14)⟩] [1])
  (.seq (.seq (.reg [ ⟨some 15, none, .mov (.s 1)⟩, ⟨some 16, none, .bin .lss (.s 15) (.c (.t (.int .i64 0)))⟩] [1, 16])
  (.cond (.s 16)
    (.seq (.reg [ ⟨some 4, none, .mov (.c (.t (.int .i64 (-1))))⟩] [4])
    (.ret))
    (.skip)))
  (.seq (.reg [ ⟨some 17, none, .mov (.s 1)⟩, ⟨some 4, none, .mov (.s 17)⟩] [4])
  (.ret))))))⟩
theorem Zbe4 : tbl 57 = some Z17 := tblOf_eq Tryz.func57 (by kernel_rfl) (by kernel_rfl)
def Z18 : MFun := ⟨1, 13, [.cell 2 (some 2)],
  .seq (.reg [ ⟨some 1, none, .box (.s 0)⟩, ⟨some 2, none, .alloc [(.t .nil), (.t .nil)]⟩] [1, 2])
  (.seq (.reg [ ⟨some 3, none, .alloc [(.t .nil), (.t .nil)]⟩] [1, 2, 3])
  (.seq (.reg [ ⟨some 4, none, .faddr 0 (.s 1)⟩, ⟨some 5, none, .load none (.s 4)⟩, ⟨some 6, none, .call 59 [.s 5]⟩, ⟨some 7, none, .faddr 0 (.s 3)⟩, ⟨none, none, .store 1 (.s 7) (.s 6)⟩] [1, 2, 3])
  (.seq (.reg [ ⟨some 8, none, .faddr 1 (.s 1)⟩, ⟨some 9, none, .load none (.s 8)⟩, ⟨some 10, none, .call 59 [.s 9]⟩, ⟨some 11, none, .faddr 1 (.s 3)⟩, ⟨none, none, .store 1 (.s 11) (.s 10)⟩] [2, 3])
  (.seq (.reg [ ⟨some 12, none, .load (some 2) (.s 3)⟩, ⟨none, none, .store 2 (.s 2) (.s 12)⟩] [2])
  (.ret)))))⟩
theorem Zbe5 : tbl 58 = some Z18 := tblOf_eq Tryz.func58 (by kernel_rfl) (by kernel_rfl)
def Znp : MCode :=
  .seq (.seq (.reg [ ⟨some 8, none, .mov (.s 4)⟩, ⟨some 9, none, .mov (.s 0)⟩, ⟨some 10, none, .len false (.s 9)⟩, ⟨some 11, none, .bin .lss (.s 8) (.s 10)⟩] [0, 3, 4, 11])
  (.cond (.s 11)
    (.skip)
    (.exit 0)))
  (.seq (.block 1 (.reg [ ⟨some 14, none, .mov (.s 3)⟩, ⟨some 15, none, .mov (.s 4)⟩, ⟨some 16, none, .mov (.s 0)⟩, ⟨some 17, none, .mov (.s 4)⟩, ⟨some 18, none, .iaddr 1 (.s 16) (.s 17)⟩, ⟨some 19, none, .load none (.s 18)⟩, ⟨some 20, none, .iaddr 1 (.s 14) (.s 15)⟩, ⟨none, none, .store 1 (.s 20) (.s 19)⟩] [0, 3, 4]))
  (.reg [ ⟨some 12, none, .mov (.s 4)⟩, ⟨some 13, none, .bin .add (.s 12) (.c (.t (.int .i64 1)))⟩, ⟨some 4, none, .mov (.s 13)⟩] [0, 3, 4]))
def Z19 : MFun := ⟨1, 22, [.tmp 2],
  .seq (.reg [ ⟨some 2, none, .mov (.c (.t .nil))⟩] [0])
  (.seq (.reg [ ⟨some 5, none, .mov (.s 0)⟩, ⟨some 6, none, .len false (.s 5)⟩, ⟨some 7, none, .mkslice 3 1 8 [(.int .i64 0)] (.s 6) (.s 6)⟩, ⟨some 3, none, .mov (.s 7)⟩] [0, 3])
  (.seq (.seq (.reg [ ⟨some 4, none, .mov (.c (.t (.int .i64 0)))⟩] [0, 3, 4])
  (.block 0 (.loop [0, 3, 4] Znp)))
  (.seq (.reg [ ⟨some 21, none, .mov (.s 3)⟩, ⟨some 2, none, .mov (.s 21)⟩] [2])
  (.ret))))⟩
theorem Zbe6 : tbl 59 = some Z19 := tblOf_eq Tryz.func59 (by kernel_rfl) (by kernel_rfl)
def Z2a : MFun := ⟨2, 17, [.tmp 4],
  .seq (.reg [ ⟨some 2, none, .box (.s 0)⟩, ⟨some 3, none, .box (.s 1)⟩, ⟨some 4, none, .mov (.c (.t (.bool false)))⟩] [2, 3])
  (.seq (.seq (.reg [ ⟨some 5, none, .faddr 0 (.s 2)⟩, ⟨some 6, none, .load none (.s 5)⟩, ⟨some 7, none, .faddr 0 (.s 3)⟩, ⟨some 8, none, .load none (.s 7)⟩, ⟨some 9, none, .call 23 [.s 6, .s 8]⟩, ⟨some 10, none, .un .not (.s 9)⟩] [2, 3, 10])
  (.cond (.s 10)
    (.seq (.reg [ ⟨some 4, none, .mov (.c (.t (.bool false)))⟩] [4])
    (.ret))
    (.skip)))
  (.seq (.seq (.reg [ ⟨some 11, none, .faddr 1 (.s 2)⟩, ⟨some 12, none, .load none (.s 11)⟩, ⟨some 13, none, .faddr 1 (.s 3)⟩, ⟨some 14, none, .load none (.s 13)⟩, ⟨some 15, none, .call 23 [.s 12, .s 14]⟩, ⟨some 16, none, .un .not (.s 15)⟩] [16])
  (.cond (.s 16)
    (.seq (.reg [ ⟨some 4, none, .mov (.c (.t (.bool false)))⟩] [4])
    (.ret))
    (.skip)))
  (.seq (.reg [ ⟨some 4, none, .mov (.c (.t (.bool true)))⟩] [4])
  (.ret))))⟩
theorem Zbe7 : tbl 60 = some Z2a := tblOf_eq Tryz.func60 (by kernel_rfl) (by kernel_rfl)
def Z2b : MFun := ⟨2, 12, [.tmp 4],
  .seq (.reg [ ⟨some 2, none, .box (.s 0)⟩, ⟨some 4, none, .mov (.c (.t (.int .i64 0)))⟩] [1, 2])
  (.seq (.reg [ ⟨some 5, none, .faddr 5 (.s 2)⟩, ⟨some 6, none, .load none (.s 5)⟩, ⟨some 7, none, .mov (.s 1)⟩, ⟨some 8, none, .call 178 [.s 6, .s 7]⟩, ⟨some 1, none, .mov (.s 8)⟩] [1])
  (.seq (.seq (.reg [ ⟨some 9, none, .mov (.s 1)⟩, ⟨some 10, none, .bin .lss (.s 9) (.c (.t (.int .i64 0)))⟩] [1, 10])
  (.cond (.s 10)
    (.seq (.reg [ ⟨some 4, none, .mov (.c (.t (.int .i64 (-1))))⟩] [4])
    (.ret))
    (.skip)))
  (.seq (.reg [ ⟨some 11, none, .mov (.s 1)⟩, ⟨some 4, none, .mov (.s 11)⟩] [4])
  (.ret))))⟩
theorem Zbe8 : tbl 84 = some Z2b := tblOf_eq Tryz.func84 (by kernel_rfl) (by kernel_rfl)
def Zia : MCode :=
  .seq (.seq (.reg [ ⟨some 12, none, .mov (.s 5)⟩, ⟨some 13, none, .mov (.s 0)⟩, ⟨some 14, none, .len false (.s 13)⟩, ⟨some 15, none, .bin .lss (.s 12) (.s 14)⟩] [0, 1, 5, 15])
  (.cond (.s 15)
    (.skip)
    (.exit 0)))
  (.seq (.block 1 (.seq (.reg [ ⟨some 18, none, .mov (.s 0)⟩, ⟨some 19, none, .mov (.s 5)⟩, ⟨some 20, none, .iaddr 2 (.s 18) (.s 19)⟩, ⟨some 21, none, .load (some 2) (.s 20)⟩, ⟨some 22, none, .mov (.s 1)⟩, ⟨some 23, none, .call 179 [.s 21, .s 22]⟩, ⟨some 1, none, .mov (.s 23)⟩] [0, 1, 5])
  (.seq (.reg [ ⟨some 24, none, .mov (.s 1)⟩, ⟨some 25, none, .bin .lss (.s 24) (.c (.t (.int .i64 0)))⟩] [0, 1, 5, 25])
  (.cond (.s 25)
    (.seq (.reg [ ⟨some 4, none, .mov (.c (.t (.int .i64 (-1))))⟩] [4])
    (.ret))
    (.skip)))))
  (.reg [ ⟨some 16, none, .mov (.s 5)⟩, ⟨some 17, none, .bin .add (.s 16) (.c (.t (.int .i64 1)))⟩, ⟨some 5, none, .mov (.s 17)⟩] [0, 1, 5]))
def Z2c : MFun := ⟨2, 27, [.tmp 4],
  .seq (.reg [ ⟨some 4, none, .mov (.c (.t (.int .i64 0)))⟩] [0, 1])
  (.seq (.reg [ ⟨some 6, none, .mov (.s 1)⟩, ⟨some 7, none, .mov (.s 0)⟩, ⟨some 8, none, .len false (.s 7)⟩, ⟨some 9, none, .bin .sub (.s 6) (.s 8)⟩, ⟨some 1, none, .mov (.s 9)⟩] [0, 1])
  (.seq (.seq (.reg [ ⟨some 10, none, .mov (.s 1)⟩, ⟨some 11, none, .bin .lss (.s 10) (.c (.t (.int .i64 0)))⟩] [0, 1, 11])
  (.cond (.s 11)
    (.seq (.reg [ ⟨some 4, none, .mov (.c (.t (.int .i64 (-1))))⟩] [4])
    (.ret))
    (.skip)))
  (.seq (.seq (.reg [ ⟨some 5, none, .mov (.c (.t (.int .i64 0)))⟩] [0, 1, 5])
  (.block 0 (.loop [0, 1, 5] Zia)))
  (.seq (.reg [ ⟨some 26, none, .mov (.s 1)⟩, ⟨some 4, none, .mov (.s 26)⟩] [4])
  (.ret)))))⟩
theorem Zbe9 : tbl 85 = some Z2c := tblOf_eq Tryz.func85 (by kernel_rfl) (by kernel_rfl)
def Z2d : MFun := ⟨2, 12, [.tmp 4],
  .seq (.reg [ ⟨some 4, none, .mov (.c (.t (.int .i64 0)))⟩] [0, 1])
  (.seq (.reg [ ⟨some 5, none, .mov (.s 1)⟩, ⟨some 6, none, .mov (.s 0)⟩, ⟨some 7, none, .len false (.s 6)⟩, ⟨some 8, none, .bin .sub (.s 5) (.s 7)⟩, ⟨some 1, none, .mov (.s 8)⟩] [1])
  (.seq (.seq (.reg [ ⟨some 9, none, .mov (.s 1)⟩, ⟨some 10, none, .bin .lss (.s 9) (.c (.t (.int .i64 0)))⟩] [1, 10])
  (.cond (.s 10)
    (.seq (.reg [ ⟨some 4, none, .mov (.c (.t (.int .i64 (-1))))⟩] [4])
    (.ret))
    (.skip)))
  (.seq (.reg [ ⟨some 11, none, .mov (.s 1)⟩, ⟨some 4, none, .mov (.s 11)⟩] [4])
  (.ret))))⟩
theorem Zbfa : tbl 86 = some Z2d := tblOf_eq Tryz.func86 (by kernel_rfl) (by kernel_rfl)
def Z2e : MFun := ⟨1, 24, [.cell 2 (some 6)],
  .seq (.reg [ ⟨some 1, none, .box (.s 0)⟩, ⟨some 2, none, .alloc [(.t (.int .i64 0)), (.t (.int .i64 0)), (.t (.int .i64 0)), (.t (.int .i64 0)), (.t (.int .i64 0)), (.t .nil)]⟩] [1, 2])
  (.seq (.reg [ ⟨some 3, none, .alloc [(.t (.int .i64 0)), (.t (.int .i64 0)), (.t (.int .i64 0)), (.t (.int .i64 0)), (.t (.int .i64 0)), (.t .nil)]⟩] [1, 2, 3])
  (.seq (.reg [ ⟨some 4, none, .faddr 0 (.s 1)⟩, ⟨some 5, none, .load none (.s 4)⟩, ⟨some 6, none, .faddr 0 (.s 3)⟩, ⟨none, none, .store 1 (.s 6) (.s 5)⟩] [1, 2, 3])
  (.seq (.reg [ ⟨some 7, none, .faddr 1 (.s 1)⟩, ⟨some 8, none, .load none (.s 7)⟩, ⟨some 9, none, .faddr 1 (.s 3)⟩, ⟨none, none, .store 1 (.s 9) (.s 8)⟩] [1, 2, 3])
  (.seq (.reg [ ⟨some 10, none, .faddr 2 (.s 1)⟩, ⟨some 11, none, .load none (.s 10)⟩, ⟨some 12, none, .faddr 2 (.s 3)⟩, ⟨none, none, .store 1 (.s 12) (.s 11)⟩] [1, 2, 3])
  (.seq (.reg [ ⟨some 13, none, .faddr 3 (.s 1)⟩, ⟨some 14, none, .load none (.s 13)⟩, ⟨some 15, none, .faddr 3 (.s 3)⟩, ⟨none, none, .store 1 (.s 15) (.s 14)⟩] [1, 2, 3])
  (.seq (.reg [ ⟨some 16, none, .faddr 4 (.s 1)⟩, ⟨some 17, none, .load none (.s 16)⟩, ⟨some 18, none, .faddr 4 (.s 3)⟩, ⟨none, none, .store 1 (.s 18) (.s 17)⟩] [1, 2, 3])
  (.seq (.reg [ ⟨some 19, none, .faddr 5 (.s 1)⟩, ⟨some 20, none, .load none (.s 19)⟩, ⟨some 21, none, .call 186 [.s 20]⟩, ⟨some 22, none, .faddr 5 (.s 3)⟩, ⟨none, none, .store 1 (.s 22) (.s 21)⟩] [2, 3])
  (.seq (.reg [ ⟨some 23, none, .load (some 6) (.s 3)⟩, ⟨none, none, .store 6 (.s 2) (.s 23)⟩] [2])
  (.ret)))))))))⟩
theorem Zbfb : tbl 95 = some Z2e := tblOf_eq Tryz.func95 (by kernel_rfl) (by kernel_rfl)
def Znq : MCode :=
  .seq (.seq (.reg [ ⟨some 8, none, .mov (.s 4)⟩, ⟨some 9, none, .mov (.s 0)⟩, ⟨some 10, none, .len false (.s 9)⟩, ⟨some 11, none, .bin .lss (.s 8) (.s 10)⟩] [0, 3, 4, 11])
  (.cond (.s 11)
    (.skip)
    (.exit 0)))
  (.seq (.block 1 (.reg [ ⟨some 14, none, .mov (.s 3)⟩, ⟨some 15, none, .mov (.s 4)⟩, ⟨some 16, none, .mov (.s 0)⟩, ⟨some 17, none, .mov (.s 4)⟩, ⟨some 18, none, .iaddr 2 (.s 16) (.s 17)⟩, ⟨some 19, none, .load (some 2) (.s 18)⟩, ⟨some 20, none, .call 187 [.s 19]⟩, ⟨some 21, none, .iaddr 2 (.s 14) (.s 15)⟩, ⟨none, none, .store 2 (.s 21) (.s 20)⟩] [0, 3, 4]))
  (.reg [ ⟨some 12, none, .mov (.s 4)⟩, ⟨some 13, none, .bin .add (.s 12) (.c (.t (.int .i64 1)))⟩, ⟨some 4, none, .mov (.s 13)⟩] [0, 3, 4]))
def Z2f : MFun := ⟨1, 23, [.tmp 2],
  .seq (.reg [ ⟨some 2, none, .mov (.c (.t .nil))⟩] [0])
  (.seq (.reg [ ⟨some 5, none, .mov (.s 0)⟩, ⟨some 6, none, .len false (.s 5)⟩, ⟨some 7, none, .mkslice 223 2 40 [(.str ⟨#[]⟩), (.lst 1 [])] (.s 6) (.s 6)⟩, ⟨some 3, none, .mov (.s 7)⟩] [0, 3])
  (.seq (.seq (.reg [ ⟨some 4, none, .mov (.c (.t (.int .i64 0)))⟩] [0, 3, 4])
  (.block 0 (.loop [0, 3, 4] Znq)))
  (.seq (.reg [ ⟨some 22, none, .mov (.s 3)⟩, ⟨some 2, none, .mov (.s 22)⟩] [2])
  (.ret))))⟩
theorem Zbfc : tbl 96 = some Z2f := tblOf_eq Tryz.func96 (by kernel_rfl) (by kernel_rfl)
def Znr : MCode :=
  .seq (.seq (.reg [ ⟨some 8, none, .mov (.s 4)⟩, ⟨some 9, none, .mov (.s 0)⟩, ⟨some 10, none, .len false (.s 9)⟩, ⟨some 11, none, .bin .lss (.s 8) (.s 10)⟩] [0, 3, 4, 11])
  (.cond (.s 11)
    (.skip)
    (.exit 0)))
  (.seq (.block 1 (.reg [ ⟨some 14, none, .mov (.s 3)⟩, ⟨some 15, none, .mov (.s 4)⟩, ⟨some 16, none, .mov (.s 0)⟩, ⟨some 17, none, .mov (.s 4)⟩, ⟨some 18, none, .iaddr 3 (.s 16) (.s 17)⟩, ⟨some 19, none, .load (some 3) (.s 18)⟩, ⟨some 20, none, .call 188 [.s 19]⟩, ⟨some 21, none, .iaddr 3 (.s 14) (.s 15)⟩, ⟨none, none, .store 3 (.s 21) (.s 20)⟩] [0, 3, 4]))
  (.reg [ ⟨some 12, none, .mov (.s 4)⟩, ⟨some 13, none, .bin .add (.s 12) (.c (.t (.int .i64 1)))⟩, ⟨some 4, none, .mov (.s 13)⟩] [0, 3, 4]))
def Z2g : MFun := ⟨1, 23, [.tmp 2],
  .seq (.reg [ ⟨some 2, none, .mov (.c (.t .nil))⟩] [0])
  (.seq (.reg [ ⟨some 5, none, .mov (.s 0)⟩, ⟨some 6, none, .len false (.s 5)⟩, ⟨some 7, none, .mkslice 142 3 24 [(.int .i64 0), (.int .i64 0), (.int .i64 0)] (.s 6) (.s 6)⟩, ⟨some 3, none, .mov (.s 7)⟩] [0, 3])
  (.seq (.seq (.reg [ ⟨some 4, none, .mov (.c (.t (.int .i64 0)))⟩] [0, 3, 4])
  (.block 0 (.loop [0, 3, 4] Znr)))
  (.seq (.reg [ ⟨some 22, none, .mov (.s 3)⟩, ⟨some 2, none, .mov (.s 22)⟩] [2])
  (.ret))))⟩
theorem Zbfd : tbl 97 = some Z2g := tblOf_eq Tryz.func97 (by kernel_rfl) (by kernel_rfl)
def Z2h : MFun := ⟨2, 36, [.tmp 4],
  .seq (.reg [ ⟨some 2, none, .box (.s 0)⟩, ⟨some 3, none, .box (.s 1)⟩, ⟨some 4, none, .mov (.c (.t (.bool false)))⟩] [2, 3])
  (.seq (.seq (.reg [ ⟨some 5, none, .faddr 0 (.s 2)⟩, ⟨some 6, none, .load none (.s 5)⟩, ⟨some 7, none, .faddr 0 (.s 3)⟩, ⟨some 8, none, .load none (.s 7)⟩, ⟨some 9, none, .bin .neq (.s 6) (.s 8)⟩] [2, 3, 9])
  (.cond (.s 9)
    (.seq (.reg [ ⟨some 4, none, .mov (.c (.t (.bool false)))⟩] [4])
    (.ret))
    (.skip)))
  (.seq (.seq (.reg [ ⟨some 10, none, .faddr 1 (.s 2)⟩, ⟨some 11, none, .load none (.s 10)⟩, ⟨some 12, none, .faddr 1 (.s 3)⟩, ⟨some 13, none, .load none (.s 12)⟩, ⟨some 14, none, .bin .neq (.s 11) (.s 13)⟩] [2, 3, 14])
  (.cond (.s 14)
    (.seq (.reg [ ⟨some 4, none, .mov (.c (.t (.bool false)))⟩] [4])
    (.ret))
    (.skip)))
  (.seq (.seq (.reg [ ⟨some 15, none, .faddr 2 (.s 2)⟩, ⟨some 16, none, .load none (.s 15)⟩, ⟨some 17, none, .faddr 2 (.s 3)⟩, ⟨some 18, none, .load none (.s 17)⟩, ⟨some 19, none, .bin .neq (.s 16) (.s 18)⟩] [2, 3, 19])
  (.cond (.s 19)
    (.seq (.reg [ ⟨some 4, none, .mov (.c (.t (.bool false)))⟩] [4])
    (.ret))
    (.skip)))
  (.seq (.seq (.reg [ ⟨some 20, none, .faddr 3 (.s 2)⟩, ⟨some 21, none, .load none (.s 20)⟩, ⟨some 22, none, .faddr 3 (.s 3)⟩, ⟨some 23, none, .load none (.s 22)⟩, ⟨some 24, none, .bin .neq (.s 21) (.s 23)⟩] [2, 3, 24])
  (.cond (.s 24)
    (.seq (.reg [ ⟨some 4, none, .mov (.c (.t (.bool false)))⟩] [4])
    (.ret))
    (.skip)))
  (.seq (.seq (.reg [ ⟨some 25, none, .faddr 4 (.s 2)⟩, ⟨some 26, none, .load none (.s 25)⟩, ⟨some 27, none, .faddr 4 (.s 3)⟩, ⟨some 28, none, .load none (.s 27)⟩, ⟨some 29, none, .bin .neq (.s 26) (.s 28)⟩] [2, 3, 29])
  (.cond (.s 29)
    (.seq (.reg [ ⟨some 4, none, .mov (.c (.t (.bool false)))⟩] [4])
    (.ret))
    (.skip)))
  (.seq (.seq (.reg [ ⟨some 30, none, .faddr 5 (.s 2)⟩, ⟨some 31, none, .load none (.s 30)⟩, ⟨some 32, none, .faddr 5 (.s 3)⟩, ⟨some 33, none, .load none (.s 32)⟩, ⟨some 34, none, .call 197 [.s 31, .s 33]⟩, ⟨some 35, none, .un .not (.s 34)⟩] [35])
  (.cond (.s 35)
    (.seq (.reg [ ⟨some 4, none, .mov (.c (.t (.bool false)))⟩] [4])
    (.ret))
    (.skip)))
  (.seq (.reg [ ⟨some 4, none, .mov (.c (.t (.bool true)))⟩] [4])
  (.ret))))))))⟩
theorem Zbfe : tbl 109 = some Z2h := tblOf_eq Tryz.func109 (by kernel_rfl) (by kernel_rfl)
def Zns : MCode :=
  .seq (.seq (.reg [ ⟨some 11, none, .mov (.s 5)⟩, ⟨some 12, none, .mov (.s 0)⟩, ⟨some 13, none, .len false (.s 12)⟩, ⟨some 14, none, .bin .lss (.s 11) (.s 13)⟩] [0, 1, 5, 14])
  (.cond (.s 14)
    (.skip)
    (.exit 0)))
  (.seq (.block 1 (.seq (.drw [ ⟨some 17, none, .mov (.s 0)⟩, ⟨some 18, none, .mov (.s 5)⟩, ⟨some 19, none, .iaddr 2 (.s 17) (.s 18)⟩, ⟨some 20, none, .load (some 2) (.s 19)⟩, ⟨some 21, none, .mov (.s 1)⟩, ⟨some 22, none, .mov (.s 5)⟩, ⟨some 23, none, .iaddr 2 (.s 21) (.s 22)⟩, ⟨some 24, none, .load (some 2) (.s 23)⟩, ⟨some 25, none, .call 198 [.s 20, .s 24]⟩, ⟨some 26, none, .un .not (.s 25)⟩] [[], [], [0, 1], [2], [], [], [4, 5], [6], [3, 7], [8]] [0, 1, 5, 26])
  (.cond (.s 26)
    (.seq (.reg [ ⟨some 4, none, .mov (.c (.t (.bool false)))⟩] [4])
    (.ret))
    (.skip))))
  (.reg [ ⟨some 15, none, .mov (.s 5)⟩, ⟨some 16, none, .bin .add (.s 15) (.c (.t (.int .i64 1)))⟩, ⟨some 5, none, .mov (.s 16)⟩] [0, 1, 5]))
def Zsu : MFun := ⟨2, 27, [.tmp 4],
  .seq (.reg [ ⟨some 4, none, .mov (.c (.t (.bool false)))⟩] [0, 1])
  (.seq (.seq (.reg [ ⟨some 6, none, .mov (.s 0)⟩, ⟨some 7, none, .len false (.s 6)⟩, ⟨some 8, none, .mov (.s 1)⟩, ⟨some 9, none, .len false (.s 8)⟩, ⟨some 10, none, .bin .neq (.s 7) (.s 9)⟩] [0, 1, 10])
  (.cond (.s 10)
    (.seq (.reg [ ⟨some 4, none, .mov (.c (.t (.bool false)))⟩] [4])
    (.ret))
    (.skip)))
  (.seq (.seq (.reg [ ⟨some 5, none, .mov (.c (.t (.int .i64 0)))⟩] [0, 1, 5])
  (.block 0 (.loop [0, 1, 5] Zns)))
  (.seq (.reg [ ⟨some 4, none, .mov (.c (.t (.bool true)))⟩] [4])
  (.ret))))⟩
theorem Zbff : tbl 110 = some Zsu := tblOf_eq Tryz.func110 (by kernel_rfl) (by kernel_rfl)
def Znt : MCode :=
  .seq (.seq (.reg [ ⟨some 11, none, .mov (.s 5)⟩, ⟨some 12, none, .mov (.s 0)⟩, ⟨some 13, none, .len false (.s 12)⟩, ⟨some 14, none, .bin .lss (.s 11) (.s 13)⟩] [0, 1, 5, 14])
  (.cond (.s 14)
    (.skip)
    (.exit 0)))
  (.seq (.block 1 (.seq (.drw [ ⟨some 17, none, .mov (.s 0)⟩, ⟨some 18, none, .mov (.s 5)⟩, ⟨some 19, none, .iaddr 3 (.s 17) (.s 18)⟩, ⟨some 20, none, .load (some 3) (.s 19)⟩, ⟨some 21, none, .mov (.s 1)⟩, ⟨some 22, none, .mov (.s 5)⟩, ⟨some 23, none, .iaddr 3 (.s 21) (.s 22)⟩, ⟨some 24, none, .load (some 3) (.s 23)⟩, ⟨some 25, none, .call 199 [.s 20, .s 24]⟩, ⟨some 26, none, .un .not (.s 25)⟩] [[], [], [0, 1], [2], [], [], [4, 5], [6], [3, 7], [8]] [0, 1, 5, 26])
  (.cond (.s 26)
    (.seq (.reg [ ⟨some 4, none, .mov (.c (.t (.bool false)))⟩] [4])
    (.ret))
    (.skip))))
  (.reg [ ⟨some 15, none, .mov (.s 5)⟩, ⟨some 16, none, .bin .add (.s 15) (.c (.t (.int .i64 1)))⟩, ⟨some 5, none, .mov (.s 16)⟩] [0, 1, 5]))
def Zsv : MFun := ⟨2, 27, [.tmp 4],
  .seq (.reg [ ⟨some 4, none, .mov (.c (.t (.bool false)))⟩] [0, 1])
  (.seq (.seq (.reg [ ⟨some 6, none, .mov (.s 0)⟩, ⟨some 7, none, .len false (.s 6)⟩, ⟨some 8, none, .mov (.s 1)⟩, ⟨some 9, none, .len false (.s 8)⟩, ⟨some 10, none, .bin .neq (.s 7) (.s 9)⟩] [0, 1, 10])
  (.cond (.s 10)
    (.seq (.reg [ ⟨some 4, none, .mov (.c (.t (.bool false)))⟩] [4])
    (.ret))
    (.skip)))
  (.seq (.seq (.reg [ ⟨some 5, none, .mov (.c (.t (.int .i64 0)))⟩] [0, 1, 5])
  (.block 0 (.loop [0, 1, 5] Znt)))
  (.seq (.reg [ ⟨some 4, none, .mov (.c (.t (.bool true)))⟩] [4])
  (.ret))))⟩
theorem Zbfg : tbl 111 = some Zsv := tblOf_eq Tryz.func111 (by kernel_rfl) (by kernel_rfl)
def Zib : MCode :=
  .seq (.seq (.reg [ ⟨some 12, none, .mov (.s 5)⟩, ⟨some 13, none, .mov (.s 0)⟩, ⟨some 14, none, .len false (.s 13)⟩, ⟨some 15, none, .bin .lss (.s 12) (.s 14)⟩] [0, 1, 5, 15])
  (.cond (.s 15)
    (.skip)
    (.exit 0)))
  (.seq (.block 1 (.seq (.reg [ ⟨some 18, none, .mov (.s 0)⟩, ⟨some 19, none, .mov (.s 5)⟩, ⟨some 20, none, .iaddr 8 (.s 18) (.s 19)⟩, ⟨some 21, none, .load (some 8) (.s 20)⟩, ⟨some 22, none, .mov (.s 1)⟩, ⟨some 23, none, .call 235 [.s 21, .s 22]⟩, ⟨some 1, none, .mov (.s 23)⟩] [0, 1, 5])
  (.seq (.reg [ ⟨some 24, none, .mov (.s 1)⟩, ⟨some 25, none, .bin .lss (.s 24) (.c (.t (.int .i64 0)))⟩] [0, 1, 5, 25])
  (.cond (.s 25)
    (.seq (.reg [ ⟨some 4, none, .mov (.c (.t (.int .i64 (-1))))⟩] [4])
    (.ret))
    (.skip)))))
  (.reg [ ⟨some 16, none, .mov (.s 5)⟩, ⟨some 17, none, .bin .add (.s 16) (.c (.t (.int .i64 1)))⟩, ⟨some 5, none, .mov (.s 17)⟩] [0, 1, 5]))
def Z2i : MFun := ⟨2, 27, [.tmp 4],
  .seq (.reg [ ⟨some 4, none, .mov (.c (.t (.int .i64 0)))⟩] [0, 1])
  (.seq (.reg [ ⟨some 6, none, .mov (.s 1)⟩, ⟨some 7, none, .mov (.s 0)⟩, ⟨some 8, none, .len false (.s 7)⟩, ⟨some 9, none, .bin .sub (.s 6) (.s 8)⟩, ⟨some 1, none, .mov (.s 9)⟩] [0, 1])
  (.seq (.seq (.reg [ ⟨some 10, none, .mov (.s 1)⟩, ⟨some 11, none, .bin .lss (.s 10) (.c (.t (.int .i64 0)))⟩] [0, 1, 11])
  (.cond (.s 11)
    (.seq (.reg [ ⟨some 4, none, .mov (.c (.t (.int .i64 (-1))))⟩] [4])
    (.ret))
    (.skip)))
  (.seq (.seq (.reg [ ⟨some 5, none, .mov (.c (.t (.int .i64 0)))⟩] [0, 1, 5])
  (.block 0 (.loop [0, 1, 5] Zib)))
  (.seq (.reg [ ⟨some 26, none, .mov (.s 1)⟩, ⟨some 4, none, .mov (.s 26)⟩] [4])
  (.ret)))))⟩
theorem Zbfh : tbl 146 = some Z2i := tblOf_eq Tryz.func146 (by kernel_rfl) (by kernel_rfl)
def Znu : MCode :=
  .seq (.seq (.reg [ ⟨some 8, none, .mov (.s 4)⟩, ⟨some 9, none, .mov (.s 0)⟩, ⟨some 10, none, .len false (.s 9)⟩, ⟨some 11, none, .bin .lss (.s 8) (.s 10)⟩] [0, 3, 4, 11])
  (.cond (.s 11)
    (.skip)
    (.exit 0)))
  (.seq (.block 1 (.reg [ ⟨some 14, none, .mov (.s 3)⟩, ⟨some 15, none, .mov (.s 4)⟩, ⟨some 16, none, .mov (.s 0)⟩, ⟨some 17, none, .mov (.s 4)⟩, ⟨some 18, none, .iaddr 8 (.s 16) (.s 17)⟩, ⟨some 19, none, .load (some 8) (.s 18)⟩, ⟨some 20, none, .call 236 [.s 19]⟩, ⟨some 21, none, .iaddr 8 (.s 14) (.s 15)⟩, ⟨none, none, .store 8 (.s 21) (.s 20)⟩] [0, 3, 4]))
  (.reg [ ⟨some 12, none, .mov (.s 4)⟩, ⟨some 13, none, .bin .add (.s 12) (.c (.t (.int .i64 1)))⟩, ⟨some 4, none, .mov (.s 13)⟩] [0, 3, 4]))
def Z2j : MFun := ⟨1, 23, [.tmp 2],
  .seq (.reg [ ⟨some 2, none, .mov (.c (.t .nil))⟩] [0])
  (.seq (.reg [ ⟨some 5, none, .mov (.s 0)⟩, ⟨some 6, none, .len false (.s 5)⟩, ⟨some 7, none, .mkslice 114 8 128 [(.int .i64 0), (.lst 2 []), (.lst 3 []), (.lst 1 []), (.lst 1 []), (.int .i64 0), (.int .i64 0), (.int .i64 0)] (.s 6) (.s 6)⟩, ⟨some 3, none, .mov (.s 7)⟩] [0, 3])
  (.seq (.seq (.reg [ ⟨some 4, none, .mov (.c (.t (.int .i64 0)))⟩] [0, 3, 4])
  (.block 0 (.loop [0, 3, 4] Znu)))
  (.seq (.reg [ ⟨some 22, none, .mov (.s 3)⟩, ⟨some 2, none, .mov (.s 22)⟩] [2])
  (.ret))))⟩
theorem Zbfi : tbl 147 = some Z2j := tblOf_eq Tryz.func147 (by kernel_rfl) (by kernel_rfl)
def Znv : MCode :=
  .seq (.seq (.reg [ ⟨some 11, none, .mov (.s 5)⟩, ⟨some 12, none, .mov (.s 0)⟩, ⟨some 13, none, .len false (.s 12)⟩, ⟨some 14, none, .bin .lss (.s 11) (.s 13)⟩] [0, 1, 5, 14])
  (.cond (.s 14)
    (.skip)
    (.exit 0)))
  (.seq (.block 1 (.seq (.drw [ ⟨some 17, none, .mov (.s 0)⟩, ⟨some 18, none, .mov (.s 5)⟩, ⟨some 19, none, .iaddr 8 (.s 17) (.s 18)⟩, ⟨some 20, none, .load (some 8) (.s 19)⟩, ⟨some 21, none, .mov (.s 1)⟩, ⟨some 22, none, .mov (.s 5)⟩, ⟨some 23, none, .iaddr 8 (.s 21) (.s 22)⟩, ⟨some 24, none, .load (some 8) (.s 23)⟩, ⟨some 25, none, .call 237 [.s 20, .s 24]⟩, ⟨some 26, none, .un .not (.s 25)⟩] [[], [], [0, 1], [2], [], [], [4, 5], [6], [3, 7], [8]] [0, 1, 5, 26])
  (.cond (.s 26)
    (.seq (.reg [ ⟨some 4, none, .mov (.c (.t (.bool false)))⟩] [4])
    (.ret))
    (.skip))))
  (.reg [ ⟨some 15, none, .mov (.s 5)⟩, ⟨some 16, none, .bin .add (.s 15) (.c (.t (.int .i64 1)))⟩, ⟨some 5, none, .mov (.s 16)⟩] [0, 1, 5]))
def Zsw : MFun := ⟨2, 27, [.tmp 4],
  .seq (.reg [ ⟨some 4, none, .mov (.c (.t (.bool false)))⟩] [0, 1])
  (.seq (.seq (.reg [ ⟨some 6, none, .mov (.s 0)⟩, ⟨some 7, none, .len false (.s 6)⟩, ⟨some 8, none, .mov (.s 1)⟩, ⟨some 9, none, .len false (.s 8)⟩, ⟨some 10, none, .bin .neq (.s 7) (.s 9)⟩] [0, 1, 10])
  (.cond (.s 10)
    (.seq (.reg [ ⟨some 4, none, .mov (.c (.t (.bool false)))⟩] [4])
    (.ret))
    (.skip)))
  (.seq (.seq (.reg [ ⟨some 5, none, .mov (.c (.t (.int .i64 0)))⟩] [0, 1, 5])
  (.block 0 (.loop [0, 1, 5] Znv)))
  (.seq (.reg [ ⟨some 4, none, .mov (.c (.t (.bool true)))⟩] [4])
  (.ret))))⟩
theorem Zbfj : tbl 150 = some Zsw := tblOf_eq Tryz.func150 (by kernel_rfl) (by kernel_rfl)
def Z2k : MFun := ⟨2, 12, [.tmp 4],
  .seq (.reg [ ⟨some 4, none, .mov (.c (.t (.int .i64 0)))⟩] [0, 1])
  (.seq (.reg [ ⟨some 5, none, .mov (.s 1)⟩, ⟨some 6, none, .mov (.s 0)⟩, ⟨some 7, none, .len false (.s 6)⟩, ⟨some 8, none, .bin .sub (.s 5) (.s 7)⟩, ⟨some 1, none, .mov (.s 8)⟩] [1])
  (.seq (.seq (.reg [ ⟨some 9, none, .mov (.s 1)⟩, ⟨some 10, none, .bin .lss (.s 9) (.c (.t (.int .i64 0)))⟩] [1, 10])
  (.cond (.s 10)
    (.seq (.reg [ ⟨some 4, none, .mov (.c (.t (.int .i64 (-1))))⟩] [4])
    (.ret))
    (.skip)))
  (.seq (.reg [ ⟨some 11, none, .mov (.s 1)⟩, ⟨some 4, none, .mov (.s 11)⟩] [4])
  (.ret))))⟩
theorem Zbfk : tbl 151 = some Z2k := tblOf_eq Tryz.func151 (by kernel_rfl) (by kernel_rfl)
def Z2l : MFun := ⟨2, 12, [.tmp 4],
  .seq (.reg [ ⟨some 4, none, .mov (.c (.t (.int .i64 0)))⟩] [0, 1])
  (.seq (.reg [ ⟨some 5, none, .mov (.s 1)⟩, ⟨some 6, none, .mov (.s 0)⟩, ⟨some 7, none, .len false (.s 6)⟩, ⟨some 8, none, .bin .sub (.s 5) (.s 7)⟩, ⟨some 1, none, .mov (.s 8)⟩] [1])
  (.seq (.seq (.reg [ ⟨some 9, none, .mov (.s 1)⟩, ⟨some 10, none, .bin .lss (.s 9) (.c (.t (.int .i64 0)))⟩] [1, 10])
  (.cond (.s 10)
    (.seq (.reg [ ⟨some 4, none, .mov (.c (.t (.int .i64 (-1))))⟩] [4])
    (.ret))
    (.skip)))
  (.seq (.reg [ ⟨some 11, none, .mov (.s 1)⟩, ⟨some 4, none, .mov (.s 11)⟩] [4])
  (.ret))))⟩
theorem Zbfl : tbl 178 = some Z2l := tblOf_eq Tryz.func178 (by kernel_rfl) (by kernel_rfl)
def Z2m : MFun := ⟨2, 19, [.tmp 4],
  .seq (.reg [ ⟨some 2, none, .box (.s 0)⟩, ⟨some 4, none, .mov (.c (.t (.int .i64 0)))⟩] [1, 2])
  (.seq (.reg [ ⟨some 5, none, .mov (.s 1)⟩, ⟨some 6, none, .faddr 0 (.s 2)⟩, ⟨some 7, none, .load none (.s 6)⟩, ⟨some 8, none, .len true (.s 7)⟩, ⟨some 9, none, .bin .sub (.s 5) (.s 8)⟩, ⟨some 1, none, .mov (.s 9)⟩] [1, 2])
  (.seq (.seq (.reg [ ⟨some 10, none, .mov (.s 1)⟩, ⟨some 11, none, .bin .lss (.s 10) (.c (.t (.int .i64 0)))⟩] [1, 2, 11])
  (.cond (.s 11)
    (.seq (.reg [ ⟨some 4, none, .mov (.c (.t (.int .i64 (-1))))⟩] [4])
    (.ret))
    (.skip)))
  (.seq (.reg [ ⟨some 12, none, .faddr 1 (.s 2)⟩, ⟨some 13, none, .load none (.s 12)⟩, ⟨some 14, none, .mov (.s 1)⟩, ⟨some 15, none, .call 151 [.s 13, .s 14]⟩, ⟨some 1, none, .mov (.s 15)⟩] [1])
  (.seq (.seq (.reg [ ⟨some 16, none, .mov (.s 1)⟩, ⟨some 17, none, .bin .lss (.s 16) (.c (.t (.int .i64 0)))⟩] [1, 17])
  (.cond (.s 17)
    (.seq (.reg [ ⟨some 4, none, .mov (.c (.t (.int .i64 (-1))))⟩] [4])
    (.ret))
    (.skip)))
  (.seq (.reg [ ⟨some 18, none, .mov (.s 1)⟩, ⟨some 4, none, .mov (.s 18)⟩] [4])
  (.ret))))))⟩
theorem Zbfm : tbl 179 = some Z2m := tblOf_eq Tryz.func179 (by kernel_rfl) (by kernel_rfl)
def Znw : MCode :=
  .seq (.seq (.reg [ ⟨some 8, none, .mov (.s 4)⟩, ⟨some 9, none, .mov (.s 0)⟩, ⟨some 10, none, .len false (.s 9)⟩, ⟨some 11, none, .bin .lss (.s 8) (.s 10)⟩] [0, 3, 4, 11])
  (.cond (.s 11)
    (.skip)
    (.exit 0)))
  (.seq (.block 1 (.reg [ ⟨some 14, none, .mov (.s 3)⟩, ⟨some 15, none, .mov (.s 4)⟩, ⟨some 16, none, .mov (.s 0)⟩, ⟨some 17, none, .mov (.s 4)⟩, ⟨some 18, none, .iaddr 2 (.s 16) (.s 17)⟩, ⟨some 19, none, .load (some 2) (.s 18)⟩, ⟨some 20, none, .call 256 [.s 19]⟩, ⟨some 21, none, .iaddr 2 (.s 14) (.s 15)⟩, ⟨none, none, .store 2 (.s 21) (.s 20)⟩] [0, 3, 4]))
  (.reg [ ⟨some 12, none, .mov (.s 4)⟩, ⟨some 13, none, .bin .add (.s 12) (.c (.t (.int .i64 1)))⟩, ⟨some 4, none, .mov (.s 13)⟩] [0, 3, 4]))
def Z2n : MFun := ⟨1, 23, [.tmp 2],
  .seq (.reg [ ⟨some 2, none, .mov (.c (.t .nil))⟩] [0])
  (.seq (.reg [ ⟨some 5, none, .mov (.s 0)⟩, ⟨some 6, none, .len false (.s 5)⟩, ⟨some 7, none, .mkslice 221 2 16 [(.int .i64 0), (.int .i64 0)] (.s 6) (.s 6)⟩, ⟨some 3, none, .mov (.s 7)⟩] [0, 3])
  (.seq (.seq (.reg [ ⟨some 4, none, .mov (.c (.t (.int .i64 0)))⟩] [0, 3, 4])
  (.block 0 (.loop [0, 3, 4] Znw)))
  (.seq (.reg [ ⟨some 22, none, .mov (.s 3)⟩, ⟨some 2, none, .mov (.s 22)⟩] [2])
  (.ret))))⟩
theorem Zbfn : tbl 186 = some Z2n := tblOf_eq Tryz.func186 (by kernel_rfl) (by kernel_rfl)
def Z2o : MFun := ⟨1, 12, [.cell 2 (some 2)],
  .seq (.reg [ ⟨some 1, none, .box (.s 0)⟩, ⟨some 2, none, .alloc [(.t (.str ⟨#[]⟩)), (.t .nil)]⟩] [1, 2])
  (.seq (.reg [ ⟨some 3, none, .alloc [(.t (.str ⟨#[]⟩)), (.t .nil)]⟩] [1, 2, 3])
  (.seq (.reg [ ⟨some 4, none, .faddr 0 (.s 1)⟩, ⟨some 5, none, .load none (.s 4)⟩, ⟨some 6, none, .faddr 0 (.s 3)⟩, ⟨none, none, .store 1 (.s 6) (.s 5)⟩] [1, 2, 3])
  (.seq (.reg [ ⟨some 7, none, .faddr 1 (.s 1)⟩, ⟨some 8, none, .load none (.s 7)⟩, ⟨some 9, none, .call 59 [.s 8]⟩, ⟨some 10, none, .faddr 1 (.s 3)⟩, ⟨none, none, .store 1 (.s 10) (.s 9)⟩] [2, 3])
  (.seq (.reg [ ⟨some 11, none, .load (some 2) (.s 3)⟩, ⟨none, none, .store 2 (.s 2) (.s 11)⟩] [2])
  (.ret)))))⟩
theorem Zbfo : tbl 187 = some Z2o := tblOf_eq Tryz.func187 (by kernel_rfl) (by kernel_rfl)
def Z2p : MFun := ⟨1, 14, [.cell 2 (some 3)],
  .seq (.reg [ ⟨some 1, none, .box (.s 0)⟩, ⟨some 2, none, .alloc [(.t (.int .i64 0)), (.t (.int .i64 0)), (.t (.int .i64 0))]⟩] [1, 2])
  (.seq (.reg [ ⟨some 3, none, .alloc [(.t (.int .i64 0)), (.t (.int .i64 0)), (.t (.int .i64 0))]⟩] [1, 2, 3])
  (.seq (.reg [ ⟨some 4, none, .faddr 0 (.s 1)⟩, ⟨some 5, none, .load none (.s 4)⟩, ⟨some 6, none, .faddr 0 (.s 3)⟩, ⟨none, none, .store 1 (.s 6) (.s 5)⟩] [1, 2, 3])
  (.seq (.reg [ ⟨some 7, none, .faddr 1 (.s 1)⟩, ⟨some 8, none, .load none (.s 7)⟩, ⟨some 9, none, .faddr 1 (.s 3)⟩, ⟨none, none, .store 1 (.s 9) (.s 8)⟩] [1, 2, 3])
  (.seq (.reg [ ⟨some 10, none, .faddr 2 (.s 1)⟩, ⟨some 11, none, .load none (.s 10)⟩, ⟨some 12, none, .faddr 2 (.s 3)⟩, ⟨none, none, .store 1 (.s 12) (.s 11)⟩] [2, 3])
  (.seq (.reg [ ⟨some 13, none, .load (some 3) (.s 3)⟩, ⟨none, none, .store 3 (.s 2) (.s 13)⟩] [2])
  (.ret))))))⟩
theorem Zbfp : tbl 188 = some Z2p := tblOf_eq Tryz.func188 (by kernel_rfl) (by kernel_rfl)
def Znx : MCode :=
  .seq (.seq (.reg [ ⟨some 11, none, .mov (.s 5)⟩, ⟨some 12, none, .mov (.s 0)⟩, ⟨some 13, none, .len false (.s 12)⟩, ⟨some 14, none, .bin .lss (.s 11) (.s 13)⟩] [0, 1, 5, 14])
  (.cond (.s 14)
    (.skip)
    (.exit 0)))
  (.seq (.block 1 (.seq (.drw [ ⟨some 17, none, .mov (.s 0)⟩, ⟨some 18, none, .mov (.s 5)⟩, ⟨some 19, none, .iaddr 2 (.s 17) (.s 18)⟩, ⟨some 20, none, .load (some 2) (.s 19)⟩, ⟨some 21, none, .mov (.s 1)⟩, ⟨some 22, none, .mov (.s 5)⟩, ⟨some 23, none, .iaddr 2 (.s 21) (.s 22)⟩, ⟨some 24, none, .load (some 2) (.s 23)⟩, ⟨some 25, none, .call 266 [.s 20, .s 24]⟩, ⟨some 26, none, .un .not (.s 25)⟩] [[], [], [0, 1], [2], [], [], [4, 5], [6], [3, 7], [8]] [0, 1, 5, 26])
  (.cond (.s 26)
    (.seq (.reg [ ⟨some 4, none, .mov (.c (.t (.bool false)))⟩] [4])
    (.ret))
    (.skip))))
  (.reg [ ⟨some 15, none, .mov (.s 5)⟩, ⟨some 16, none, .bin .add (.s 15) (.c (.t (.int .i64 1)))⟩, ⟨some 5, none, .mov (.s 16)⟩] [0, 1, 5]))
def Zsx : MFun := ⟨2, 27, [.tmp 4],
  .seq (.reg [ ⟨some 4, none, .mov (.c (.t (.bool false)))⟩] [0, 1])
  (.seq (.seq (.reg [ ⟨some 6, none, .mov (.s 0)⟩, ⟨some 7, none, .len false (.s 6)⟩, ⟨some 8, none, .mov (.s 1)⟩, ⟨some 9, none, .len false (.s 8)⟩, ⟨some 10, none, .bin .neq (.s 7) (.s 9)⟩] [0, 1, 10])
  (.cond (.s 10)
    (.seq (.reg [ ⟨some 4, none, .mov (.c (.t (.bool false)))⟩] [4])
    (.ret))
    (.skip)))
  (.seq (.seq (.reg [ ⟨some 5, none, .mov (.c (.t (.int .i64 0)))⟩] [0, 1, 5])
  (.block 0 (.loop [0, 1, 5] Znx)))
  (.seq (.reg [ ⟨some 4, none, .mov (.c (.t (.bool true)))⟩] [4])
  (.ret))))⟩
theorem Zbfq : tbl 197 = some Zsx := tblOf_eq Tryz.func197 (by kernel_rfl) (by kernel_rfl)
def Z2q : MFun := ⟨2, 16, [.tmp 4],
  .seq (.reg [ ⟨some 2, none, .box (.s 0)⟩, ⟨some 3, none, .box (.s 1)⟩, ⟨some 4, none, .mov (.c (.t (.bool false)))⟩] [2, 3])
  (.seq (.seq (.reg [ ⟨some 5, none, .faddr 0 (.s 2)⟩, ⟨some 6, none, .load none (.s 5)⟩, ⟨some 7, none, .faddr 0 (.s 3)⟩, ⟨some 8, none, .load none (.s 7)⟩, ⟨some 9, none, .bin .neq (.s 6) (.s 8)⟩] [2, 3, 9])
  (.cond (.s 9)
    (.seq (.reg [ ⟨some 4, none, .mov (.c (.t (.bool false)))⟩] [4])
    (.ret))
    (.skip)))
  (.seq (.seq (.reg [ ⟨some 10, none, .faddr 1 (.s 2)⟩, ⟨some 11, none, .load none (.s 10)⟩, ⟨some 12, none, .faddr 1 (.s 3)⟩, ⟨some 13, none, .load none (.s 12)⟩, ⟨some 14, none, .call 23 [.s 11, .s 13]⟩, ⟨some 15, none, .un .not (.s 14)⟩] [15])
  (.cond (.s 15)
    (.seq (.reg [ ⟨some 4, none, .mov (.c (.t (.bool false)))⟩] [4])
    (.ret))
    (.skip)))
  (.seq (.reg [ ⟨some 4, none, .mov (.c (.t (.bool true)))⟩] [4])
  (.ret))))⟩
theorem Zbfr : tbl 198 = some Z2q := tblOf_eq Tryz.func198 (by kernel_rfl) (by kernel_rfl)
def Z2r : MFun := ⟨2, 20, [.tmp 4],
  .seq (.reg [ ⟨some 2, none, .box (.s 0)⟩, ⟨some 3, none, .box (.s 1)⟩, ⟨some 4, none, .mov (.c (.t (.bool false)))⟩] [2, 3])
  (.seq (.seq (.reg [ ⟨some 5, none, .faddr 0 (.s 2)⟩, ⟨some 6, none, .load none (.s 5)⟩, ⟨some 7, none, .faddr 0 (.s 3)⟩, ⟨some 8, none, .load none (.s 7)⟩, ⟨some 9, none, .bin .neq (.s 6) (.s 8)⟩] [2, 3, 9])
  (.cond (.s 9)
    (.seq (.reg [ ⟨some 4, none, .mov (.c (.t (.bool false)))⟩] [4])
    (.ret))
    (.skip)))
  (.seq (.seq (.reg [ ⟨some 10, none, .faddr 1 (.s 2)⟩, ⟨some 11, none, .load none (.s 10)⟩, ⟨some 12, none, .faddr 1 (.s 3)⟩, ⟨some 13, none, .load none (.s 12)⟩, ⟨some 14, none, .bin .neq (.s 11) (.s 13)⟩] [2, 3, 14])
  (.cond (.s 14)
    (.seq (.reg [ ⟨some 4, none, .mov (.c (.t (.bool false)))⟩] [4])
    (.ret))
    (.skip)))
  (.seq (.seq (.reg [ ⟨some 15, none, .faddr 2 (.s 2)⟩, ⟨some 16, none, .load none (.s 15)⟩, ⟨some 17, none, .faddr 2 (.s 3)⟩, ⟨some 18, none, .load none (.s 17)⟩, ⟨some 19, none, .bin .neq (.s 16) (.s 18)⟩] [19])
  (.cond (.s 19)
    (.seq (.reg [ ⟨some 4, none, .mov (.c (.t (.bool false)))⟩] [4])
    (.ret))
    (.skip)))
  (.seq (.reg [ ⟨some 4, none, .mov (.c (.t (.bool true)))⟩] [4])
  (.ret)))))⟩
theorem Zbfs : tbl 199 = some Z2r := tblOf_eq Tryz.func199 (by kernel_rfl) (by kernel_rfl)
def Z2s : MFun := ⟨2, 18, [.tmp 4],
  .seq (.reg [ ⟨some 2, none, .box (.s 0)⟩, ⟨some 4, none, .mov (.c (.t (.int .i64 0)))⟩] [1, 2])
  (.seq (.reg [ ⟨some 5, none, .faddr 0 (.s 2)⟩, ⟨some 6, none, .load (some 2) (.s 5)⟩, ⟨some 7, none, .mov (.s 1)⟩, ⟨some 8, none, .call 14 [.s 6, .s 7]⟩, ⟨some 1, none, .mov (.s 8)⟩] [1, 2])
  (.seq (.seq (.reg [ ⟨some 9, none, .mov (.s 1)⟩, ⟨some 10, none, .bin .lss (.s 9) (.c (.t (.int .i64 0)))⟩] [1, 2, 10])
  (.cond (.s 10)
    (.seq (.reg [ ⟨some 4, none, .mov (.c (.t (.int .i64 (-1))))⟩] [4])
    (.ret))
    (.skip)))
  (.seq (.reg [ ⟨some 11, none, .faddr 2 (.s 2)⟩, ⟨some 12, none, .load (some 4) (.s 11)⟩, ⟨some 13, none, .mov (.s 1)⟩, ⟨some 14, none, .call 34 [.s 12, .s 13]⟩, ⟨some 1, none, .mov (.s 14)⟩] [1])
  (.seq (.seq (.reg [ ⟨some 15, none, .mov (.s 1)⟩, ⟨some 16, none, .bin .lss (.s 15) (.c (.t (.int .i64 0)))⟩] [1, 16])
  (.cond (.s 16)
    (.seq (.reg [ ⟨some 4, none, .mov (.c (.t (.int .i64 (-1))))⟩] [4])
    (.ret))
    (.skip)))
  (.seq (.reg [ ⟨some 17, none, .mov (.s 1)⟩, ⟨some 4, none, .mov (.s 17)⟩] [4])
  (.ret))))))⟩
theorem Zbft : tbl 235 = some Z2s := tblOf_eq Tryz.func235 (by kernel_rfl) (by kernel_rfl)
def Z2t : MFun := ⟨1, 19, [.cell 2 (some 8)],
  .seq (.reg [ ⟨some 1, none, .box (.s 0)⟩, ⟨some 2, none, .alloc [(.t (.int .i64 0)), (.t .nil), (.t .nil), (.t .nil), (.t .nil), (.t (.int .i64 0)), (.t (.int .i64 0)), (.t (.int .i64 0))]⟩] [1, 2])
  (.seq (.reg [ ⟨some 3, none, .alloc [(.t (.int .i64 0)), (.t .nil), (.t .nil), (.t .nil), (.t .nil), (.t (.int .i64 0)), (.t (.int .i64 0)), (.t (.int .i64 0))]⟩] [1, 2, 3])
  (.seq (.reg [ ⟨some 4, none, .faddr 0 (.s 1)⟩, ⟨some 5, none, .load (some 2) (.s 4)⟩, ⟨some 6, none, .call 19 [.s 5]⟩, ⟨some 7, none, .faddr 0 (.s 3)⟩, ⟨none, none, .store 2 (.s 7) (.s 6)⟩] [1, 2, 3])
  (.seq (.reg [ ⟨some 8, none, .faddr 2 (.s 1)⟩, ⟨some 9, none, .load (some 4) (.s 8)⟩, ⟨some 10, none, .call 36 [.s 9]⟩, ⟨some 11, none, .faddr 2 (.s 3)⟩, ⟨none, none, .store 4 (.s 11) (.s 10)⟩] [1, 2, 3])
  (.seq (.reg [ ⟨some 12, none, .faddr 6 (.s 1)⟩, ⟨some 13, none, .load none (.s 12)⟩, ⟨some 14, none, .faddr 6 (.s 3)⟩, ⟨none, none, .store 1 (.s 14) (.s 13)⟩] [1, 2, 3])
  (.seq (.reg [ ⟨some 15, none, .faddr 7 (.s 1)⟩, ⟨some 16, none, .load none (.s 15)⟩, ⟨some 17, none, .faddr 7 (.s 3)⟩, ⟨none, none, .store 1 (.s 17) (.s 16)⟩] [2, 3])
  (.seq (.reg [ ⟨some 18, none, .load (some 8) (.s 3)⟩, ⟨none, none, .store 8 (.s 2) (.s 18)⟩] [2])
  (.ret)))))))⟩
theorem Zbfu : tbl 236 = some Z2t := tblOf_eq Tryz.func236 (by kernel_rfl) (by kernel_rfl)
def Z2u : MFun := ⟨2, 27, [.tmp 4],
  .seq (.reg [ ⟨some 2, none, .box (.s 0)⟩, ⟨some 3, none, .box (.s 1)⟩, ⟨some 4, none, .mov (.c (.t (.bool false)))⟩] [2, 3])
  (.seq (.seq (.reg [ ⟨some 5, none, .faddr 0 (.s 2)⟩, ⟨some 6, none, .load (some 2) (.s 5)⟩, ⟨some 7, none, .faddr 0 (.s 3)⟩, ⟨some 8, none, .load (some 2) (.s 7)⟩, ⟨some 9, none, .call 25 [.s 6, .s 8]⟩, ⟨some 10, none, .un .not (.s 9)⟩] [2, 3, 10])
  (.cond (.s 10)
    (.seq (.reg [ ⟨some 4, none, .mov (.c (.t (.bool false)))⟩] [4])
    (.ret))
    (.skip)))
  (.seq (.seq (.reg [ ⟨some 11, none, .faddr 2 (.s 2)⟩, ⟨some 12, none, .load (some 4) (.s 11)⟩, ⟨some 13, none, .faddr 2 (.s 3)⟩, ⟨some 14, none, .load (some 4) (.s 13)⟩, ⟨some 15, none, .call 38 [.s 12, .s 14]⟩, ⟨some 16, none, .un .not (.s 15)⟩] [2, 3, 16])
  (.cond (.s 16)
    (.seq (.reg [ ⟨some 4, none, .mov (.c (.t (.bool false)))⟩] [4])
    (.ret))
    (.skip)))
  (.seq (.seq (.reg [ ⟨some 17, none, .faddr 6 (.s 2)⟩, ⟨some 18, none, .load none (.s 17)⟩, ⟨some 19, none, .faddr 6 (.s 3)⟩, ⟨some 20, none, .load none (.s 19)⟩, ⟨some 21, none, .bin .neq (.s 18) (.s 20)⟩] [2, 3, 21])
  (.cond (.s 21)
    (.seq (.reg [ ⟨some 4, none, .mov (.c (.t (.bool false)))⟩] [4])
    (.ret))
    (.skip)))
  (.seq (.seq (.reg [ ⟨some 22, none, .faddr 7 (.s 2)⟩, ⟨some 23, none, .load none (.s 22)⟩, ⟨some 24, none, .faddr 7 (.s 3)⟩, ⟨some 25, none, .load none (.s 24)⟩, ⟨some 26, none, .bin .neq (.s 23) (.s 25)⟩] [26])
  (.cond (.s 26)
    (.seq (.reg [ ⟨some 4, none, .mov (.c (.t (.bool false)))⟩] [4])
    (.ret))
    (.skip)))
  (.seq (.reg [ ⟨some 4, none, .mov (.c (.t (.bool true)))⟩] [4])
  (.ret))))))⟩
theorem Zbfv : tbl 237 = some Z2u := tblOf_eq Tryz.func237 (by kernel_rfl) (by kernel_rfl)
def Z2v : MFun := ⟨1, 11, [.cell 2 (some 2)],
  .seq (.reg [ ⟨some 1, none, .box (.s 0)⟩, ⟨some 2, none, .alloc [(.t (.int .i64 0)), (.t (.int .i64 0))]⟩] [1, 2])
  (.seq (.reg [ ⟨some 3, none, .alloc [(.t (.int .i64 0)), (.t (.int .i64 0))]⟩] [1, 2, 3])
  (.seq (.reg [ ⟨some 4, none, .faddr 0 (.s 1)⟩, ⟨some 5, none, .load none (.s 4)⟩, ⟨some 6, none, .faddr 0 (.s 3)⟩, ⟨none, none, .store 1 (.s 6) (.s 5)⟩] [1, 2, 3])
  (.seq (.reg [ ⟨some 7, none, .faddr 1 (.s 1)⟩, ⟨some 8, none, .load none (.s 7)⟩, ⟨some 9, none, .faddr 1 (.s 3)⟩, ⟨none, none, .store 1 (.s 9) (.s 8)⟩] [2, 3])
  (.seq (.reg [ ⟨some 10, none, .load (some 2) (.s 3)⟩, ⟨none, none, .store 2 (.s 2) (.s 10)⟩] [2])
  (.ret)))))⟩
theorem Zbfw : tbl 256 = some Z2v := tblOf_eq Tryz.func256 (by kernel_rfl) (by kernel_rfl)
def Z2w : MFun := ⟨2, 15, [.tmp 4],
  .seq (.reg [ ⟨some 2, none, .box (.s 0)⟩, ⟨some 3, none, .box (.s 1)⟩, ⟨some 4, none, .mov (.c (.t (.bool false)))⟩] [2, 3])
  (.seq (.seq (.reg [ ⟨some 5, none, .faddr 0 (.s 2)⟩, ⟨some 6, none, .load none (.s 5)⟩, ⟨some 7, none, .faddr 0 (.s 3)⟩, ⟨some 8, none, .load none (.s 7)⟩, ⟨some 9, none, .bin .neq (.s 6) (.s 8)⟩] [2, 3, 9])
  (.cond (.s 9)
    (.seq (.reg [ ⟨some 4, none, .mov (.c (.t (.bool false)))⟩] [4])
    (.ret))
    (.skip)))
  (.seq (.seq (.reg [ ⟨some 10, none, .faddr 1 (.s 2)⟩, ⟨some 11, none, .load none (.s 10)⟩, ⟨some 12, none, .faddr 1 (.s 3)⟩, ⟨some 13, none, .load none (.s 12)⟩, ⟨some 14, none, .bin .neq (.s 11) (.s 13)⟩] [14])
  (.cond (.s 14)
    (.seq (.reg [ ⟨some 4, none, .mov (.c (.t (.bool false)))⟩] [4])
    (.ret))
    (.skip)))
  (.seq (.reg [ ⟨some 4, none, .mov (.c (.t (.bool true)))⟩] [4])
  (.ret))))⟩
theorem Zbfx : tbl 266 = some Z2w := tblOf_eq Tryz.func266 (by kernel_rfl) (by kernel_rfl)
end Go.Proofs.YtbapkgocloaaeaaGreat
