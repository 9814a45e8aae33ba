/-
  THE ABSTRACT MACHINE: a call that hands over roots.
-/
import Derived.Test.YtiniphmomjnocaaAMSound
namespace Go.AM
open Go.RowKit (Below)

section
variable {P : Program} {N : Par} {base : Nat} {ρ : Map} {h : List Blk} {w : World} {e : Env} {a : Act} {inl : List Nat} {ops : Array Oper}

/-- whatever a value refers to is a root -/
theorem RV.root {F : Nat → Prop} {x : AV} {v : Value} (hv : RV ρ w F x v) : ∀ b ∈ refs x, ∃ r, ρ b = some r := by
  refine RV.rec (motive_1 := fun x v _ => ∀ b ∈ refs x, ∃ r, ρ b = some r) (motive_2 := fun xs vs _ => ∀ b ∈ refss xs, ∃ r, ρ b = some r) ?_ ?_ ?_ ?_ ?_ ?_ ?_ ?_ ?_ ?_ ?_ ?_ ?_ hv
  · intro v b hb; cases hb
  · intro b hb; cases hb
  · intro x v fp _ _ b hb; cases hb
  · intro cs c _ _ ih; simpa [refs] using ih
  · intro cs c _ ih; simpa [refs] using ih
  · intro b off g r hr _ c hc; simp [refs] at hc; subst hc; exact ⟨r, hr⟩
  · intro b i sz off g n cap r hr _ c hc; simp [refs] at hc; subst hc; exact ⟨r, hr⟩
  · intro cs off g o c e fz fp _ _ _ _ b hb; cases hb
  · intro b r hr _ c hc; simp [refs] at hc; subst hc; exact ⟨r, hr⟩
  · intro b n g r hr _ c hc; simp [refs] at hc; subst hc; exact ⟨r, hr⟩
  · intro f cs c _ ih; simpa [refs] using ih
  · intro b hb; cases hb
  · intro x v xs vs _ _ ih1 ih2 b hb
    simp only [refss, List.mem_append] at hb
    exact hb.elim (ih1 b) (ih2 b)

theorem RVs.root {F : Nat → Prop} {xs : List AV} {vs : List Value} (hv : RVs ρ w F xs vs) : ∀ b ∈ refss xs, ∃ r, ρ b = some r := by
  induction xs generalizing vs with
  | nil => intro b hb; cases hb
  | cons x xs ih =>
    cases hv with
    | cons h1 h2 =>
      intro b hb
      simp only [refss, List.mem_append] at hb
      exact hb.elim (h1.root b) (ih h2 b)

theorem reach_all {p : Nat → Prop} (hc : ∀ b, p b → ∀ c ∈ refsB (gt h b), p c) : ∀ (n : Nat) (todo acc : List Nat), (∀ b ∈ todo, p b) → (∀ b ∈ acc, p b) → ∀ b ∈ reach h n todo acc, p b
  | 0, _, _, _, ha, b, hb => ha b (by simpa [reach] using hb)
  | n + 1, [], acc, _, ha, b, hb => ha b (by simpa [reach] using hb)
  | n + 1, c :: todo, acc, ht, ha, b, hb => by
    simp only [reach] at hb
    split at hb
    · exact reach_all hc n todo acc (fun b hb => ht b (by simp [hb])) ha b hb
    · refine reach_all hc n _ _ (fun b hb => ?_) (fun b hb => ?_) b hb
      · rcases List.mem_append.1 hb with hb | hb
        · exact hc c (ht c (by simp)) b hb
        · exact ht b (by simp [hb])
      · rcases List.mem_append.1 hb with hb | hb
        · exact ha b hb
        · simp at hb; subst hb; exact ht b (by simp)

theorem Rel.refs_root (R : Rel N base ρ h w) (b : Nat) : ∀ c ∈ refsB (gt h b), ∃ r, ρ c = some r := by
  intro c hc
  cases hx : gt h b with
  | dead => rw [hx] at hc; cases hc
  | arr e sz fr es => rw [hx] at hc; cases hc
  | box cs =>
    obtain ⟨r, h1, h2⟩ := R.blk b (by rw [hx]; intro hc; cases hc)
    rw [hx] at h2 hc
    obtain ⟨g, c', e', _, _, _, h6, _⟩ := h2
    exact h6.root c hc

theorem subIds_root (R : Rel N base ρ h w) {vs : List AV} {vals : List Value} (hv : RVs ρ w (Free N ρ h) vs vals) : ∀ b ∈ subIds h vs, ∃ r, ρ b = some r :=
  reach_all (p := fun b => ∃ r, ρ b = some r) (fun b _ c hc => R.refs_root b c hc) 200 (refss vs) [] (fun b hb => hv.root b hb) (fun b hb => by cases hb)

theorem idx_at {ids : List Nat} (hnd : ids.Nodup) {i b : Nat} (hi : ids[i]? = some b) : idx b ids 0 = i := by
  obtain ⟨j, h1, h2⟩ := idx_get (List.mem_of_getElem? hi) 0
  rw [Nat.zero_add] at h1
  rw [h1]
  obtain ⟨q1, q2⟩ := List.getElem?_eq_some_iff.1 hi
  obtain ⟨q3, q4⟩ := List.getElem?_eq_some_iff.1 h2
  rcases Nat.lt_trichotomy j i with hlt | rfl | hlt
  · exact absurd (q4.trans q2.symm) (List.pairwise_iff_getElem.1 hnd j i q3 q1 hlt)
  · rfl
  · exact absurd (q2.trans q4.symm) (List.pairwise_iff_getElem.1 hnd i j q1 q3 hlt)

theorem bk_lt {ids : List Nat} {nx i b : Nat} (hi : ids[i]? = some b) : bk ids nx i = b := by simp [bk, hi]
theorem bk_ge {ids : List Nat} {nx i : Nat} (hi : ids.length ≤ i) : bk ids nx i = nx + (i - ids.length) := by simp [bk, List.getElem?_eq_none hi]

theorem bk_inj {ids : List Nat} (hnd : ids.Nodup) {nx m : Nat} (hn : ∀ j, j < m - ids.length → nx + j ∉ ids) {i j : Nat} (hi : i < m) (hj : j < m) (he : bk ids nx i = bk ids nx j) : i = j := by
  rcases Nat.lt_or_ge i ids.length with h1 | h1 <;> rcases Nat.lt_or_ge j ids.length with h2 | h2
  · have e1 : ids[i]? = some ids[i] := by simp [h1]
    have e2 : ids[j]? = some ids[j] := by simp [h2]
    rw [bk_lt e1, bk_lt e2] at he
    rw [← idx_at hnd e1, ← idx_at hnd e2, he]
  · have e1 : ids[i]? = some ids[i] := by simp [h1]
    rw [bk_lt e1, bk_ge h2] at he
    exact absurd (he ▸ List.mem_of_getElem? e1) (hn _ (by omega))
  · have e2 : ids[j]? = some ids[j] := by simp [h2]
    rw [bk_lt e2, bk_ge h1] at he
    exact absurd (he.symm ▸ List.mem_of_getElem? e2) (hn _ (by omega))
  · rw [bk_ge h1, bk_ge h2] at he
    omega

theorem backU_keys (ids : List Nat) (nx : Nat) : ∀ (bs : List Blk) (i b : Nat), b ∈ (backU ids nx bs i).map Prod.fst ↔ ∃ j, i ≤ j ∧ j < i + bs.length ∧ bk ids nx j = b
  | [], i, b => by simp [backU]; intro j h1 h2; omega
  | x :: bs, i, b => by
    simp only [backU, List.map_cons, List.mem_cons, backU_keys ids nx bs (i + 1), List.length_cons]
    constructor
    · rintro (rfl | ⟨j, h1, h2, h3⟩)
      · exact ⟨i, Nat.le_refl _, by omega, rfl⟩
      · exact ⟨j, by omega, by omega, h3⟩
    · rintro ⟨j, h1, h2, h3⟩
      by_cases hj : j = i
      · subst hj; exact .inl h3.symm
      · exact .inr ⟨j, by omega, by omega, h3⟩

theorem gt_backU_not (ids : List Nat) (nx : Nat) : ∀ (bs : List Blk) (i : Nat) (h : List Blk) (b : Nat), (∀ j, i ≤ j → j < i + bs.length → bk ids nx j ≠ b) → gt (upd h (backU ids nx bs i)) b = gt h b
  | [], i, h, b, _ => rfl
  | x :: bs, i, h, b, hb => by
    simp only [backU, upd]
    rw [gt_backU_not ids nx bs (i + 1) _ b (fun j h1 h2 => hb j (by omega) (by simp; omega)), gt_stB, if_neg fun he => hb i (Nat.le_refl _) (by simp) he.symm]

theorem gt_backU (ids : List Nat) (nx : Nat) : ∀ (bs : List Blk) (i : Nat) (h : List Blk), (∀ j k, i ≤ j → j < i + bs.length → i ≤ k → k < i + bs.length → bk ids nx j = bk ids nx k → j = k) → ∀ j, i ≤ j → j < i + bs.length →
    gt (upd h (backU ids nx bs i)) (bk ids nx j) = renB (bk ids nx) (gt bs (j - i))
  | [], i, h, _, j, h1, h2 => by simp at h2; omega
  | x :: bs, i, h, hinj, j, h1, h2 => by
    simp only [List.length_cons] at h2 hinj
    simp only [backU, upd]
    by_cases hj : j = i
    · subst hj
      rw [gt_backU_not ids nx bs (j + 1) _ _ (fun k h3 h4 he => by have := hinj k j (by omega) (by omega) (by omega) (by omega) he; omega), gt_stB, if_pos rfl]
      simp [gt]
    · rw [gt_backU ids nx bs (i + 1) _ (fun j k q1 q2 q3 q4 => hinj j k (by omega) (by omega) (by omega) (by omega)) j (by omega) (by omega)]
      have : j - i = (j - (i + 1)) + 1 := by omega
      rw [this]
      simp [gt]

open Classical in
/-- the caller's roots behind the call -/
noncomputable def backM (ρ ρ1 : Map) (ids : List Nat) (nx m : Nat) : Map := fun b => if hx : ∃ i, i < m ∧ bk ids nx i = b then ρ1 hx.choose else ρ b

theorem backM_at {ρ1 : Map} {ids : List Nat} {nx m : Nat} (hinj : ∀ i j, i < m → j < m → bk ids nx i = bk ids nx j → i = j) {i : Nat} (hi : i < m) : backM ρ ρ1 ids nx m (bk ids nx i) = ρ1 i := by
  have hx : ∃ j, j < m ∧ bk ids nx j = bk ids nx i := ⟨i, hi, rfl⟩
  unfold backM
  rw [dif_pos hx, hinj _ _ hx.choose_spec.1 hi hx.choose_spec.2]

theorem backM_not {ρ1 : Map} {ids : List Nat} {nx m b : Nat} (hb : ∀ i, i < m → bk ids nx i ≠ b) : backM ρ ρ1 ids nx m b = ρ b := by
  unfold backM
  rw [dif_neg fun ⟨i, h1, h2⟩ => hb i h1 h2]

/-- a callee's own part of the caller's world -/
def subP (N : Par) (ρ : Map) (h : List Blk) (w : World) (ids : List Nat) : Par :=
  ⟨fun g => N.a g ∧ ∀ b r, b ∉ ids → ρ b = some r → gt h b ≠ .dead → blkOf r.v ≠ some g,
    fun g => w.heap.size ≤ g ∨ ∃ b ∈ ids, ∃ r, ρ b = some r ∧ gt h b ≠ .dead ∧ (blkOf r.v = some g ∨ isFresh (gt h b) = true ∧ g ∈ r.fp), Free N ρ h⟩

theorem Rel.sub (R : Rel N base ρ h w) {ids : List Nat} (hnd : ids.Nodup) (hcl : ∀ b ∈ ids, ∀ c ∈ refsB (gt h b), c ∈ ids) : Rel (subP N ρ h w ids) base (renM ρ ids) (subH h ids) w := by
  refine R.renN hnd hcl ?_ ?_ ?_ ?_
  · intro g hg
    refine ⟨⟨(R.hN g hg).1, fun b r _ hr hd he => ?_⟩, .inl hg⟩
    have := (R.lt hr hd he).2
    omega
  · intro b hb r g hr hd hg
    refine ⟨⟨(R.hO b r g hr hd hg).1, fun c rc hc hrc hdc he => ?_⟩, .inr ⟨b, hb, r, hr, hd, .inl hg⟩⟩
    exact hc (R.inj b c r rc g hr hrc hd hdc hg he ▸ hb)
  · exact fun g hg => ⟨hg.1, fun b r _ => hg.2 b r⟩
  · intro b hb r hr hf g hg
    exact .inr ⟨b, hb, r, hr, fresh_live hf, .inr ⟨hf, hg⟩⟩

/-- what comes back from a callee that had roots of the caller's -/
structure BackH (N : Par) (base : Nat) (ρ : Map) (h : List Blk) (w : World) (ids : List Nat) (nx : Nat) (ρ1 : Map) (h1 : List Blk) (w' : World) : Prop where
  R : Rel N base ρ h w
  nd : ids.Nodup
  root : ∀ b ∈ ids, ∃ r, ρ b = some r
  len : ids.length ≤ h1.length
  new : ∀ j, j < h1.length - ids.length → ρ (nx + j) = none
  R1 : Rel (subP N ρ h w ids) base ρ1 h1 w'
  B : Below base w w'
  dom : ∀ b, h1.length ≤ b → ρ1 b = none
  kn : ∀ g, g < w.heap.size → ¬ (subP N ρ h w ids).a g → w'.heap[g]? = w.heap[g]?
  fz : ∀ g, g < w.heap.size → Free N ρ h g → Free (subP N ρ h w ids) ρ1 h1 g ∧ w'.heap[g]? = w.heap[g]?
  rt : ∀ b r0, b < ids.length → renM ρ ids b = some r0 → ∃ r1, ρ1 b = some r1 ∧ r1.v = r0.v

section
variable {ids : List Nat} {nx : Nat} {ρ1 : Map} {h1 : List Blk} {w' : World}

theorem BackH.inj (J : BackH N base ρ h w ids nx ρ1 h1 w') : ∀ i j, i < h1.length → j < h1.length → bk ids nx i = bk ids nx j → i = j := by
  intro i j hi hj he
  refine bk_inj J.nd (m := h1.length) (fun k hk hm => ?_) hi hj he
  obtain ⟨r, hr⟩ := J.root _ hm
  rw [J.new k hk] at hr
  cases hr

theorem BackH.split (J : BackH N base ρ h w ids nx ρ1 h1 w') (b : Nat) :
    (∃ i, i < h1.length ∧ bk ids nx i = b ∧ backM ρ ρ1 ids nx h1.length b = ρ1 i ∧ gt (upd h (backU ids nx h1 0)) b = renB (bk ids nx) (gt h1 i)) ∨
    (b ∉ ids ∧ (∀ i, i < h1.length → bk ids nx i ≠ b) ∧ backM ρ ρ1 ids nx h1.length b = ρ b ∧ gt (upd h (backU ids nx h1 0)) b = gt h b) := by
  by_cases hx : ∃ i, i < h1.length ∧ bk ids nx i = b
  · obtain ⟨i, hi, rfl⟩ := hx
    refine .inl ⟨i, hi, rfl, backM_at J.inj hi, ?_⟩
    have := gt_backU ids nx h1 0 h (fun j k _ h2 _ h4 => J.inj j k (by omega) (by omega)) i (Nat.zero_le _) (by omega)
    simpa using this
  · have hn : ∀ i, i < h1.length → bk ids nx i ≠ b := fun i hi he => hx ⟨i, hi, he⟩
    refine .inr ⟨fun hm => ?_, hn, backM_not hn, gt_backU_not ids nx h1 0 h b fun j _ h2 => hn j (by omega)⟩
    obtain ⟨i, hi⟩ := List.getElem?_of_mem hm
    have hl := (List.getElem?_eq_some_iff.1 hi).1
    exact hn i (by have := J.len; omega) (bk_lt hi)

theorem BackH.free (J : BackH N base ρ h w ids nx ρ1 h1 w') {g : Nat} (hg : Free (subP N ρ h w ids) ρ1 h1 g) : Free N (backM ρ ρ1 ids nx h1.length) (upd h (backU ids nx h1 0)) g := by
  refine ⟨hg.1.1, ?_⟩
  intro b r hb hd he
  rcases J.split b with ⟨i, hi, rfl, e1, e2⟩ | ⟨hm, _, e1, e2⟩
  · rw [e1] at hb
    rw [e2] at hd
    exact hg.2 i r hb (fun hc => hd (by rw [hc]; rfl)) he
  · rw [e1] at hb
    rw [e2] at hd
    exact hg.1.2 b r hm hb hd he

theorem BackH.keeps (J : BackH N base ρ h w ids nx ρ1 h1 w') : Keeps ρ w (Free N ρ h) (backM ρ ρ1 ids nx h1.length) w' (Free N (backM ρ ρ1 ids nx h1.length) (upd h (backU ids nx h1 0))) := by
  constructor
  · intro b r hb
    rcases J.split b with ⟨i, hi, rfl, e1, _⟩ | ⟨hm, _, e1, _⟩
    · rw [e1]
      rcases Nat.lt_or_ge i ids.length with hl | hl
      · have ei : ids[i]? = some ids[i] := by simp [hl]
        rw [bk_lt ei] at hb
        exact J.rt i r hl (by simp [renM, ei, hb])
      · rw [bk_ge hl, J.new _ (by omega)] at hb
        cases hb
    · exact ⟨r, by rw [e1]; exact hb, rfl⟩
  · intro g hl hf
    obtain ⟨q1, q2⟩ := J.fz g hl hf
    exact ⟨J.free q1, q2⟩

theorem BackH.rel (J : BackH N base ρ h w ids nx ρ1 h1 w') : Rel N base (backM ρ ρ1 ids nx h1.length) (upd h (backU ids nx h1 0)) w' := by
  have hk := J.keeps
  have hroot : ∀ c r, ρ1 c = some r → backM ρ ρ1 ids nx h1.length (bk ids nx c) = some r := by
    intro c r hc
    have hl : c < h1.length := by
      rcases Nat.lt_or_ge c h1.length with q | q
      · exact q
      · rw [J.dom c q] at hc; cases hc
    rw [backM_at J.inj hl]
    exact hc
  have hf1 : ∀ g, (subP N ρ h w ids).f g → N.f g := by
    rintro g (hg | ⟨b, hb, r, hr, hd, hg | ⟨hf, hg⟩⟩)
    · exact (J.R.hN g hg).2
    · exact (J.R.hO b r g hr hd hg).2
    · exact (J.R.fresh hr hf g hg).1
  refine ⟨Nat.le_trans J.R.hb J.B.size, fun g hl => J.R.hN g (Nat.le_trans J.B.size hl), ?_, ?_, ?_, ?_⟩
  · intro b r g hb hd hg
    rcases J.split b with ⟨i, hi, rfl, e1, e2⟩ | ⟨hm, _, e1, e2⟩
    · rw [e1] at hb
      rw [e2] at hd
      have := J.R1.hO i r g hb (fun hc => hd (by rw [hc]; rfl)) hg
      exact ⟨this.1.1, hf1 g this.2⟩
    · rw [e1] at hb
      rw [e2] at hd
      exact J.R.hO b r g hb hd hg
  · intro b hd
    rcases J.split b with ⟨i, hi, rfl, e1, e2⟩ | ⟨hm, _, e1, e2⟩
    · rw [e2] at hd ⊢
      rw [e1]
      obtain ⟨r, q1, q2⟩ := J.R1.blk i fun hc => hd (by rw [hc]; rfl)
      refine ⟨r, q1, ?_⟩
      cases hx : gt h1 i with
      | dead => trivial
      | box cs =>
        rw [hx] at q2
        obtain ⟨g, c, e', h3, h4, h5, h6, h7⟩ := q2
        exact ⟨g, c, e', h3, h4, h5, h6.ren _ (fun c _ r hr => hroot c r hr) fun g _ hg => J.free hg, h7⟩
      | arr e' sz fr es =>
        rw [hx] at q2
        obtain ⟨xs, h3, h4, h5, h6, h7, h8⟩ := q2
        exact ⟨xs, h3, h4, h5, h6, fun g hg => J.free (h7 g hg), fun hf => ⟨(h8 hf).1, fun g hg => hf1 g ((h8 hf).2 g hg)⟩⟩
    · rw [e2] at hd ⊢
      rw [e1]
      obtain ⟨r, q1, q2⟩ := J.R.blk b hd
      exact ⟨r, q1, q2.keep hk fun g hg => J.kn g (q2.lt hd hg).2 fun hc => hc.2 b r hm q1 hd hg⟩
  · intro b b' r r' g hb hb' hd hd' hg hg'
    rcases J.split b with ⟨i, hi, rfl, e1, e2⟩ | ⟨hm, _, e1, e2⟩ <;> rcases J.split b' with ⟨j, hj, rfl, e3, e4⟩ | ⟨hm', _, e3, e4⟩
    · rw [e1] at hb; rw [e2] at hd; rw [e3] at hb'; rw [e4] at hd'
      rw [J.R1.inj i j r r' g hb hb' (fun hc => hd (by rw [hc]; rfl)) (fun hc => hd' (by rw [hc]; rfl)) hg hg']
    · rw [e1] at hb; rw [e2] at hd; rw [e3] at hb'; rw [e4] at hd'
      have := J.R1.hO i r g hb (fun hc => hd (by rw [hc]; rfl)) hg
      exact absurd hg' (this.1.2 b' r' hm' hb' hd')
    · rw [e1] at hb; rw [e2] at hd; rw [e3] at hb'; rw [e4] at hd'
      have := J.R1.hO j r' g hb' (fun hc => hd' (by rw [hc]; rfl)) hg'
      exact absurd hg (this.1.2 b r hm hb hd)
    · rw [e1] at hb; rw [e2] at hd; rw [e3] at hb'; rw [e4] at hd'
      exact J.R.inj b b' r r' g hb hb' hd hd' hg hg'
  · intro b b' r r' g hb hb' hf hf' hg hg'
    have mixed : ∀ i r b' r', ρ1 i = some r → isFresh (gt h1 i) = true → b' ∉ ids → ρ b' = some r' → isFresh (gt h b') = true → g ∈ r.fp → g ∈ r'.fp → False := by
      intro i r b' r' hb hf hm hb' hf' hg hg'
      have q1 := (J.R1.fresh hb hf g hg).1
      obtain ⟨_, q2, q3⟩ := J.R.fresh hb' hf' g hg'
      rcases q1 with q1 | ⟨c, hc, rc, h3, h4, h5 | ⟨h5, h6⟩⟩
      · omega
      · exact q2.2 c rc h3 h4 h5
      · exact hm (J.R.apart c b' rc r' g h3 hb' h5 hf' h6 hg' ▸ hc)
    rcases J.split b with ⟨i, hi, rfl, e1, e2⟩ | ⟨hm, _, e1, e2⟩ <;> rcases J.split b' with ⟨j, hj, rfl, e3, e4⟩ | ⟨hm', _, e3, e4⟩
    · rw [e1] at hb; rw [e2, isFresh_ren] at hf; rw [e3] at hb'; rw [e4, isFresh_ren] at hf'
      rw [J.R1.apart i j r r' g hb hb' hf hf' hg hg']
    · rw [e1] at hb; rw [e2, isFresh_ren] at hf; rw [e3] at hb'; rw [e4] at hf'
      exact (mixed i r b' r' hb hf hm' hb' hf' hg hg').elim
    · rw [e1] at hb; rw [e2] at hf; rw [e3] at hb'; rw [e4, isFresh_ren] at hf'
      exact (mixed j r' b r hb' hf' hm hb hf hg' hg).elim
    · rw [e1] at hb; rw [e2] at hf; rw [e3] at hb'; rw [e4] at hf'
      exact J.R.apart b b' r r' g hb hb' hf hf' hg hg'

theorem BackH.after (J : BackH N base ρ h w ids nx ρ1 h1 w') {r : AV} {v : Value} (hv : RV ρ1 w' (Free (subP N ρ h w ids) ρ1 h1) r v) :
    After N base ρ h w (ren (bk ids nx) r) (backU ids nx h1 0) v w' (backM ρ ρ1 ids nx h1.length) := by
  refine ⟨hv.ren _ (fun b _ r hr => ?_) fun g _ hg => J.free hg, J.rel, J.keeps, ?_, J.B, fun g hl hn => J.kn g hl fun hc => hn hc.1⟩
  · have hl : b < h1.length := by
      rcases Nat.lt_or_ge b h1.length with q | q
      · exact q
      · rw [J.dom b q] at hr; cases hr
    rw [backM_at J.inj hl]
    exact hr
  · intro b hb hb0
    rw [backU_keys] at hb
    rw [backM_not fun i hi he => hb ⟨i, Nat.zero_le _, by omega, he⟩]
    exact hb0
end

/-- **A CALL THAT HANDS OVER ROOTS.** -/
theorem mcall_sound {o : Oper} (R : Rel N base ρ h w) {nx : Nat} {f : Nat} {vs : List AV} {vals : Array Value} (hargs : RVs ρ w (Free N ρ h) vs vals.toList) {r : AV} {h1 : List Blk}
    (hu : ∀ j, (subIds h vs).length ≤ j → j < h1.length → ρ (nx + (j - (subIds h vs).length)) = none) (hcl : closedB h (subIds h vs) (refss vs) = true) (hG : Sound P f (subA (subIds h vs) vs) (subH h (subIds h vs)) r h1)
    (hex : (execOp a.eval o).run P w = .ok (.enter f vals) w) {K : Act → World → Prop} {Q : Exit → Act → World → Prop}
    (hK : ∀ val w' ρ', After N base ρ h w (ren (bk (subIds h vs) nx) r) (backU (subIds h vs) nx h1 0) val w' ρ' → K (a.put o.dst val) w') : o.wp P a w K Q := by
  obtain ⟨hin, hcl2⟩ := closedB_spec hcl
  have hnd : (subIds h vs).Nodup := reach_nodup _ _ _ List.nodup_nil
  have hroot := subIds_root R hargs
  generalize subIds h vs = ids at *
  unfold Oper.wp
  rw [hex]
  show Calls P f vals w _
  have hF : ∀ g, Free N ρ h g → Free (subP N ρ h w ids) (renM ρ ids) (subH h ids) g := fun g hg => free_renN hg ⟨hg.1, fun b r _ => hg.2 b r⟩
  refine (hG.2 (subP N ρ h w ids) base w (renM ρ ids) vals (R.sub hnd hcl2) (fun b hb => renM_none (by simpa [subH] using hb))
    (hargs.ren _ (fun b hb r hr => by rw [renM_idx (hin b hb)]; exact hr) fun g _ hg => hF g hg) hF).mono ?_
  rintro e w' ⟨v, ρ1, rfl, hB, hR1, hv, hdom, hlen, hkn, hfz, hrt⟩
  have hl : (subH h ids).length = ids.length := by simp [subH]
  rw [hl] at hlen hrt
  have J : BackH N base ρ h w ids nx ρ1 h1 w' := ⟨R, hnd, hroot, hlen, fun j hj => by
    have := hu (j + ids.length) (by omega) (by omega)
    rwa [Nat.add_sub_cancel] at this, hR1, hB, hdom, hkn, hfz, hrt⟩
  exact hK v w' _ (J.after hv)

/-! ### roots that are left as they are -/

theorem Free.congr {h' : List Blk} (hg : ∀ b, gt h b = gt h' b) : Free N ρ h = Free N ρ h' := by
  funext g
  unfold Free
  simp only [hg]

theorem Rel.congr {h' : List Blk} (hg : ∀ b, gt h b = gt h' b) (R : Rel N base ρ h w) : Rel N base ρ h' w := by
  have hF := Free.congr (N := N) (ρ := ρ) hg
  refine ⟨R.hb, R.hN, ?_, ?_, ?_, ?_⟩
  · intro b r g hr hd
    rw [← hg] at hd
    exact R.hO b r g hr hd
  · intro b hb
    rw [← hg] at hb
    obtain ⟨r, h1, h2⟩ := R.blk b hb
    exact ⟨r, h1, by rw [← hg, ← hF]; exact h2⟩
  · intro b b' r r' g h1 h2 h3 h4
    rw [← hg] at h3 h4
    exact R.inj b b' r r' g h1 h2 h3 h4
  · intro b b' r r' g h1 h2 h3 h4
    rw [← hg] at h3 h4
    exact R.apart b b' r r' g h1 h2 h3 h4

theorem ren_back {f g : Nat → Nat} : ∀ (v : AV), (∀ c ∈ refs v, g (f c) = c) → ren g (ren f v) = v := by
  intro v
  refine AV.rec (motive_1 := fun v => (∀ c ∈ refs v, g (f c) = c) → ren g (ren f v) = v) (motive_2 := fun vs => (∀ c ∈ refss vs, g (f c) = c) → rens g (rens f vs) = vs) ?_ ?_ ?_ ?_ ?_ ?_ ?_ ?_ ?_ ?_ ?_ ?_ ?_ v
  · intro _; rfl
  · intro _; rfl
  · intro x _; rfl
  · intro cs ih h; simp [ren, ih (by simpa [refs] using h)]
  · intro cs ih h; simp [ren, ih (by simpa [refs] using h)]
  · intro b off h; simp [ren, h b (by simp [refs])]
  · intro b i sz off h; simp [ren, h b (by simp [refs])]
  · intro cs off _; rfl
  · intro b h; simp [ren, h b (by simp [refs])]
  · intro b n h; simp [ren, h b (by simp [refs])]
  · intro fn cs ih h; simp [ren, ih (by simpa [refs] using h)]
  · intro _; rfl
  · intro v vs ih1 ih2 h
    simp only [refss, List.mem_append] at h
    simp [rens, ih1 (fun c hc => h c (.inl hc)), ih2 (fun c hc => h c (.inr hc))]

theorem rens_back {f g : Nat → Nat} : ∀ (vs : List AV), (∀ c ∈ refss vs, g (f c) = c) → rens g (rens f vs) = vs
  | [], _ => rfl
  | v :: vs, h => by
    simp only [refss, List.mem_append] at h
    simp [rens, ren_back v (fun c hc => h c (.inl hc)), rens_back vs (fun c hc => h c (.inr hc))]

theorem renB_back {f g : Nat → Nat} (x : Blk) (h : ∀ c ∈ refsB x, g (f c) = c) : renB g (renB f x) = x := by
  cases x with
  | box cs => simp [renB, rens_back cs h]
  | _ => rfl

theorem backU_append (ids : List Nat) (nx : Nat) : ∀ (xs ys : List Blk) (i : Nat), backU ids nx (xs ++ ys) i = backU ids nx xs i ++ backU ids nx ys (i + xs.length)
  | [], ys, i => by simp [backU]
  | x :: xs, ys, i => by simp [backU, backU_append ids nx xs ys (i + 1), Nat.add_assoc, Nat.add_comm 1]

theorem gt_upd_congr0 {u : List (Nat × Blk)} : ∀ {h h' : List Blk}, (∀ b, gt h b = gt h' b) → ∀ b, gt (upd h u) b = gt (upd h' u) b := by
  induction u with
  | nil => intro h h' hg b; exact hg b
  | cons p u ih =>
    intro h h' hg b
    obtain ⟨c, x⟩ := p
    exact ih (fun b => by rw [gt_stB, gt_stB, hg]) b

theorem back_same {ids : List Nat} (hnd : ids.Nodup) (hcl : ∀ b ∈ ids, ∀ c ∈ refsB (gt h b), c ∈ ids) (nx : Nat) (b : Nat) : gt (upd h (backU ids nx (subH h ids) 0)) b = gt h b := by
  have hl : (subH h ids).length = ids.length := by simp [subH]
  by_cases hb : b ∈ ids
  · obtain ⟨i, hi⟩ := List.getElem?_of_mem hb
    have hil := (List.getElem?_eq_some_iff.1 hi).1
    have hinj : ∀ j k, j < ids.length → k < ids.length → bk ids nx j = bk ids nx k → j = k := fun j k hj hk he => bk_inj hnd (m := ids.length) (fun q hq => by omega) hj hk he
    have := gt_backU ids nx (subH h ids) 0 h (fun j k _ h2 _ h4 => hinj j k (by omega) (by omega)) i (Nat.zero_le _) (by omega)
    rw [bk_lt hi] at this
    rw [this]
    have e : gt (subH h ids) (i - 0) = renB (fun c => idx c ids 0) (gt h b) := by
      rw [Nat.sub_zero, subH, gt_ren, hi]
    rw [e]
    refine renB_back _ fun c hc => ?_
    obtain ⟨j, hj⟩ := List.getElem?_of_mem (hcl b hb c hc)
    rw [idx_at hnd hj, bk_lt hj]
  · exact gt_backU_not ids nx _ 0 h b fun j _ h2 he => hb (by
      have hj : ids[j]? = some (ids[j]'(by omega)) := by simp
      rw [bk_lt hj] at he
      exact he ▸ List.mem_of_getElem? hj)

theorem After.congr {v : AV} {u u' : List (Nat × Blk)} {val : Value} {w' : World} {ρ' : Map} (hA : After N base ρ h w v u val w' ρ') (hg : ∀ b, gt (upd h u) b = gt (upd h u') b) (hs : ∀ b, b ∉ u'.map Prod.fst → ρ b = none → ρ' b = none) : After N base ρ h w v u' val w' ρ' := by
  have hF := Free.congr (N := N) (ρ := ρ') hg
  exact ⟨by rw [← hF]; exact hA.val, hA.rel.congr hg, by rw [← hF]; exact hA.keeps, hs, hA.below, hA.kn⟩

theorem pcall_sound {o : Oper} (R : Rel N base ρ h w) {nx : Nat} {f : Nat} {vs : List AV} {vals : Array Value} (hargs : RVs ρ w (Free N ρ h) vs vals.toList) {r : AV} {hn : List Blk}
    (hu : ∀ b, b ∈ (backU (subIds h vs) nx hn (subIds h vs).length).map Prod.fst → nx ≤ b → ρ b = none) (hcl : closedB h (subIds h vs) (refss vs) = true)
    (hG : Sound P f (subA (subIds h vs) vs) (subH h (subIds h vs)) r (subH h (subIds h vs) ++ hn)) (hex : (execOp a.eval o).run P w = .ok (.enter f vals) w) {K : Act → World → Prop} {Q : Exit → Act → World → Prop}
    (hK : ∀ val w' ρ', After N base ρ h w (ren (bk (subIds h vs) nx) r) (backU (subIds h vs) nx hn (subIds h vs).length) val w' ρ' → K (a.put o.dst val) w') : o.wp P a w K Q := by
  have hl : (subH h (subIds h vs)).length = (subIds h vs).length := by simp [subH]
  refine mcall_sound R (nx := nx) hargs (fun j h1 h2 => ?_) hcl hG hex fun val w' ρ' hA => ?_
  · rw [List.length_append, hl] at h2
    refine hu _ ((backU_keys _ _ _ _ _).2 ⟨j, h1, h2, bk_ge h1⟩) (Nat.le_add_right _ _)
  · obtain ⟨hin, hcl2⟩ := closedB_spec hcl
    have hnd : (subIds h vs).Nodup := reach_nodup _ _ _ List.nodup_nil
    refine hK val w' ρ' (hA.congr (fun b => ?_) fun b hb hb0 => ?_)
    · rw [backU_append, gt_upd_append, hl, Nat.zero_add]
      exact gt_upd_congr0 (fun c => back_same hnd hcl2 nx c) b
    · refine hA.same b (fun hm => ?_) hb0
      rw [backU_append, List.map_append, List.mem_append, hl, Nat.zero_add] at hm
      rcases hm with hm | hm
      · obtain ⟨j, _, h2, h3⟩ := (backU_keys _ _ _ _ _).1 hm
        rw [Nat.zero_add, hl] at h2
        have hj : (subIds h vs)[j]? = some ((subIds h vs)[j]'h2) := by simp [h2]
        rw [bk_lt hj] at h3
        obtain ⟨r0, hr0⟩ := subIds_root R hargs b (h3 ▸ List.mem_of_getElem? hj)
        rw [hb0] at hr0
        cases hr0
      · exact hb hm

/-! ### every operation -/

/-- is it a call -/
def isC : MOp → Prop
  | .call _ _ => True
  | .icall _ _ => True
  | .pcall _ _ => True
  | .dcall _ _ => True
  | _ => False

theorem opR_sound {o : Oper} {k : MOp} (hk : compK P inl ops o.op = some k) (hE : RelEnv ρ w (Free N ρ h) e a.tmps) (R : Rel N base ρ h w) {nx : Nat} {v : AV} {u : List (Nat × Blk)} (hn : isC k ∨ ρ nx = none) (hu : ∀ b, b ∈ u.map Prod.fst → nx ≤ b → ρ b = none)
    (hev : opR (Sound P) h nx e k v u) {K : Act → World → Prop} {Q : Exit → Act → World → Prop} (hK : ∀ val w' ρ', After N base ρ h w v u val w' ρ' → K (a.put o.dst val) w') : o.wp P a w K Q := by
  have plain : evalOp h nx e k = some (v, u) → o.wp P a w K Q := by
    intro hev
    have hnx : ρ nx = none := by
      rcases hn with hn | hn
      · cases k <;> first | exact hn.elim | cases hev
      · exact hn
    obtain ⟨val, w', ρ', hrun, h1, h2, h3, h4, h5, h6⟩ := op_sound hk hE R hnx hev
    have := hK val w' ρ' ⟨h1, h2, h3, fun b hb hb0 => by rw [h4 b hb]; exact hb0, h5, h6⟩
    unfold Oper.wp
    rcases hrun with hrun | ⟨hrun, rfl⟩
    · rw [hrun]; exact this
    · rw [hrun]; exact this
  have hul : ∀ {ids : List Nat} {h1 : List Blk}, u = backU ids nx h1 0 → ∀ j, ids.length ≤ j → j < h1.length → ρ (nx + (j - ids.length)) = none := by
    intro ids h1 he j h2 h3
    exact hu _ (by rw [he]; exact (backU_keys _ _ _ _ _).2 ⟨j, Nat.zero_le _, by omega, bk_ge h2⟩) (Nat.le_add_right _ _)
  cases k <;> try (exact plain hev)
  · rename_i f args
    simp only [opR] at hev
    obtain ⟨as, hfz, r, hr, hG, hsh, rfl, rfl⟩ := hev
    obtain ⟨c, hoc, hcc, has, hcl⟩ := (compK_call hk).1 f args rfl
    exact contract_sound R (vals := c.args.map a.eval) (by rw [Array.toList_map]; exact mapO_opd hE has) hu hfz hG hsh (exec_call hoc hcc hcl w) hK
  · rename_i f args
    simp only [opR, mcallW] at hev
    obtain ⟨hcl', r, h1, hG, rfl, rfl⟩ := hev
    obtain ⟨c, hoc, hcc, has, hcl⟩ := (compK_call hk).1 f args rfl
    exact mcall_sound R (vals := c.args.map a.eval) (by rw [Array.toList_map]; exact mapO_opd hE has) (hul rfl) hcl' hG (exec_call hoc hcc hcl w) hK
  · rename_i f args
    simp only [opR, pcallW] at hev
    obtain ⟨hcl', r, hn, hG, rfl, rfl⟩ := hev
    obtain ⟨c, hoc, hcc, has, hcl⟩ := (compK_call hk).1 f args rfl
    exact pcall_sound R (vals := c.args.map a.eval) (by rw [Array.toList_map]; exact mapO_opd hE has) hu hcl' hG (exec_call hoc hcc hcl w) hK
  · rename_i x args
    simp only [opR, mcallW] at hev
    obtain ⟨g, caps, hg, hcl', r, h1, hG, rfl, rfl⟩ := hev
    obtain ⟨c, y, hoc, hcc, hy, has⟩ := (compK_call hk).2 x args rfl
    have hry := opd_rel hE hy
    rw [hg] at hry
    obtain ⟨cv, hcv, hcaps⟩ := hry.fn_val
    have hex : (execOp a.eval o).run P w = .ok (.enter g (c.args.map a.eval ++ cv)) w := by
      unfold execOp
      rw [hoc]
      simp [resolve, hcc, hcv, Deferred.ofValue, invoke, run_callFunc hG.1]
    exact mcall_sound R (vals := c.args.map a.eval ++ cv) (by rw [Array.toList_append, Array.toList_map]; exact (mapO_opd hE has).append hcaps) (hul rfl) hcl' hG hex hK

end
end Go.AM
