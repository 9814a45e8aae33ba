/-
  THE ABSTRACT MACHINE: renaming, collecting, joining.
-/
import Derived.Test.YtiniphmomjnocaaAMOps9
namespace Go.AM
open Go.RowKit (Below)

section
variable {N : Par} {base : Nat} {ρ ρ' : Map} {h : List Blk} {w w' : World} {F F' : Nat → Prop}

theorem mem_refss {v : AV} {vs : List AV} (hv : v ∈ vs) {b : Nat} (hb : b ∈ refs v) : b ∈ refss vs := by
  induction vs with
  | nil => cases hv
  | cons x vs ih =>
    simp only [refss, List.mem_append]
    cases hv with
    | head => exact .inl hb
    | tail _ hv => exact .inr (ih hv)

theorem RV.ren {a : AV} {v : Value} (h : RV ρ w F a v) : ∀ (f : Nat → Nat), (∀ b ∈ refs a, ∀ r, ρ b = some r → ρ' (f b) = some r) → (∀ g, g < w.heap.size → F g → F' g) → RV ρ' w F' (AM.ren f a) v := by
  refine RV.rec (motive_1 := fun a v _ => ∀ (f : Nat → Nat), (∀ b ∈ refs a, ∀ r, ρ b = some r → ρ' (f b) = some r) → (∀ g, g < w.heap.size → F g → F' g) → RV ρ' w F' (AM.ren f a) v)
    (motive_2 := fun as vs _ => ∀ (f : Nat → Nat), (∀ b ∈ refss as, ∀ r, ρ b = some r → ρ' (f b) = some r) → (∀ g, g < w.heap.size → F g → F' g) → RVs ρ' w F' (AM.rens f as) vs) ?_ ?_ ?_ ?_ ?_ ?_ ?_ ?_ ?_ ?_ ?_ ?_ ?_ h
  · intro v f _ _; exact .top v
  · intro f _ _; exact .nilp
  · intro x v fp h hf f _ hF; exact .t h fun g hg => hF g (h.lt g hg) (hf g hg)
  · intro cs c _ h1 ih f hr hF; exact .agg (ih f (by simpa [refs] using hr) hF) h1
  · intro cs c _ ih f hr hF; exact .tup (ih f (by simpa [refs] using hr) hF)
  · intro b off g r hr hv f hf _; exact .ptr (hf b (by simp [refs]) r hr) hv
  · intro b i sz off g n cap r hr hv f hf _; exact .eptr (hf b (by simp [refs]) r hr) hv
  · intro cs off g o c e fz fp hg hFg hc hfp f _ hF
    exact .iptr hg (hF g (Array.getElem?_eq_some_iff.1 hg).1 hFg) hc fun g hg => hF g (hc.lt g hg) (hfp g hg)
  · intro b r hr h1 f hf _; exact .own (hf b (by simp [refs]) r hr) h1
  · intro b n g r hr hv f hf _; exact .bsl (hf b (by simp [refs]) r hr) hv
  · intro g cs c _ ih f hr hF; exact .fn (ih f (by simpa [refs] using hr) hF)
  · intro f _ _; exact .nil
  · intro a v as vs _ _ ih1 ih2 f hr hF
    exact .cons (ih1 f (fun b hb => hr b (by simp [refss, hb])) hF) (ih2 f (fun b hb => hr b (by simp [refss, hb])) hF)

theorem RVs.ren {as : List AV} {vs : List Value} (h : RVs ρ w F as vs) (f : Nat → Nat) (hr : ∀ b ∈ refss as, ∀ r, ρ b = some r → ρ' (f b) = some r) (hF : ∀ g, g < w.heap.size → F g → F' g) : RVs ρ' w F' (rens f as) vs := by
  induction as generalizing vs with
  | nil => cases h; exact .nil
  | cons a as ih => cases h with | cons h hs => exact .cons (h.ren f (fun b hb => hr b (by simp [refss, hb])) hF) (ih hs fun b hb => hr b (by simp [refss, hb]))

/-- no tree: any 'F' will do -/
theorem RV.scal {a : AV} {v : Value} (h : RV ρ w F a v) : ∀ (f : Nat → Nat), (∀ b ∈ refs a, ∀ r, ρ b = some r → ρ' (f b) = some r) → scalAV a = true → RV ρ' w F' (AM.ren f a) v := by
  refine RV.rec (motive_1 := fun a v _ => ∀ (f : Nat → Nat), (∀ b ∈ refs a, ∀ r, ρ b = some r → ρ' (f b) = some r) → scalAV a = true → RV ρ' w F' (AM.ren f a) v)
    (motive_2 := fun as vs _ => ∀ (f : Nat → Nat), (∀ b ∈ refss as, ∀ r, ρ b = some r → ρ' (f b) = some r) → scalAVs as = true → RVs ρ' w F' (AM.rens f as) vs) ?_ ?_ ?_ ?_ ?_ ?_ ?_ ?_ ?_ ?_ ?_ ?_ ?_ h
  · intro v f _ _; exact .top v
  · intro f _ _; exact .nilp
  · intro x v fp h hf f _ hs
    refine .t h fun g hg => ?_
    cases h <;> first | (simp [scalAV, scalar] at hs; done) | cases hg
  · intro cs c _ h1 ih f hr hs; exact .agg (ih f (by simpa [refs] using hr) hs) h1
  · intro cs c _ ih f hr hs; exact .tup (ih f (by simpa [refs] using hr) hs)
  · intro b off g r hr hv f hf _; exact .ptr (hf b (by simp [refs]) r hr) hv
  · intro b i sz off g n cap r hr hv f hf _; exact .eptr (hf b (by simp [refs]) r hr) hv
  · intro cs off g o c e fz fp hg hFg hc hfp f _ hs; simp [scalAV] at hs
  · intro b r hr h1 f hf _; exact .own (hf b (by simp [refs]) r hr) h1
  · intro b n g r hr hv f hf _; exact .bsl (hf b (by simp [refs]) r hr) hv
  · intro g cs c _ ih f hr hs; exact .fn (ih f (by simpa [refs] using hr) hs)
  · intro f _ _; exact .nil
  · intro a v as vs _ _ ih1 ih2 f hr hs
    simp only [scalAVs, Bool.and_eq_true] at hs
    exact .cons (ih1 f (fun b hb => hr b (by simp [refss, hb])) hs.1) (ih2 f (fun b hb => hr b (by simp [refss, hb])) hs.2)

theorem RVs.scal {as : List AV} {vs : List Value} (h : RVs ρ w F as vs) (f : Nat → Nat) (hr : ∀ b ∈ refss as, ∀ r, ρ b = some r → ρ' (f b) = some r) (hs : scalAVs as = true) : RVs ρ' w F' (rens f as) vs := by
  induction as generalizing vs with
  | nil => cases h; exact .nil
  | cons a as ih =>
    simp only [scalAVs, Bool.and_eq_true] at hs
    cases h with | cons h hs' => exact .cons (h.scal f (fun b hb => hr b (by simp [refss, hb])) hs.1) (ih hs' (fun b hb => hr b (by simp [refss, hb])) hs.2)

/-! ### collecting -/

theorem reach_nodup (n : Nat) : ∀ (todo acc : List Nat), acc.Nodup → (reach h n todo acc).Nodup := by
  induction n with
  | zero => intro todo acc ha; cases todo <;> simpa [reach] using ha
  | succ n ih =>
    intro todo acc ha
    cases todo with
    | nil => simpa [reach] using ha
    | cons b todo =>
      simp only [reach]
      split
      · exact ih _ _ ha
      · rename_i hb
        refine ih _ _ ?_
        rw [List.nodup_append]
        refine ⟨ha, by simp, ?_⟩
        intro x hx y hy hxy
        simp at hy
        subst hy
        subst hxy
        simp at hb
        exact hb hx

theorem idx_get {b : Nat} {ids : List Nat} (hb : b ∈ ids) (k : Nat) : ∃ i, idx b ids k = k + i ∧ ids[i]? = some b := by
  induction ids generalizing k with
  | nil => cases hb
  | cons c ids ih =>
    simp only [idx]
    split
    · rename_i hc; subst hc; exact ⟨0, rfl, rfl⟩
    · rename_i hc
      cases hb with
      | head => exact absurd rfl hc
      | tail _ hb =>
        obtain ⟨i, h1, h2⟩ := ih hb (k + 1)
        exact ⟨i + 1, by rw [h1]; omega, by simpa using h2⟩

def renM (ρ : Map) (ids : List Nat) : Map := fun i => match ids[i]? with
  | some b => ρ b
  | none => none

theorem renM_idx {ids : List Nat} {b : Nat} (hb : b ∈ ids) : renM ρ ids (idx b ids 0) = ρ b := by
  obtain ⟨i, h1, h2⟩ := idx_get hb 0
  simp [renM, h1, h2]

theorem gt_ren {ids : List Nat} {f : Nat → Nat} (i : Nat) : gt (ids.map fun b => renB f (gt h b)) i = match ids[i]? with | some b => renB f (gt h b) | none => .dead := by
  unfold gt
  rw [List.getElem?_map]
  cases ids[i]? <;> rfl

theorem renB_dead {f : Nat → Nat} {x : Blk} (hx : renB f x = .dead) : x = .dead := by cases x <;> first | rfl | simp [renB] at hx

theorem isFresh_ren {f : Nat → Nat} {x : Blk} : isFresh (renB f x) = isFresh x := by cases x <;> rfl

theorem free_renN {N' : Par} {ids : List Nat} {f : Nat → Nat} {g : Nat} (hg : Free N ρ h g) (hn : N'.a g) : Free N' (renM ρ ids) (ids.map fun b => renB f (gt h b)) g := by
  refine ⟨hn, ?_⟩
  intro i r hr hd
  rw [gt_ren] at hd
  simp only [renM] at hr
  cases hi : ids[i]? with
  | none => simp [hi] at hr
  | some b =>
    simp only [hi] at hr hd
    exact hg.2 b r hr fun hc => hd (by rw [hc]; rfl)

theorem free_ren {ids : List Nat} {f : Nat → Nat} {g : Nat} (hg : Free N ρ h g) : Free N (renM ρ ids) (ids.map fun b => renB f (gt h b)) g := free_renN hg hg.1

theorem Rel.renN {N' : Par} (R : Rel N base ρ h w) {ids : List Nat} (hnd : ids.Nodup) (hcl : ∀ b ∈ ids, ∀ c ∈ refsB (gt h b), c ∈ ids) (hn : ∀ g, w.heap.size ≤ g → N'.a g ∧ N'.f g)
    (hO : ∀ b ∈ ids, ∀ r g, ρ b = some r → gt h b ≠ .dead → blkOf r.v = some g → N'.a g ∧ N'.f g) (hF : ∀ g, Free N ρ h g → N'.a g) (hfr : ∀ b ∈ ids, ∀ r, ρ b = some r → isFresh (gt h b) = true → ∀ g ∈ r.fp, N'.f g) :
    Rel N' base (renM ρ ids) (ids.map fun b => renB (fun c => idx c ids 0) (gt h b)) w := by
  have inj_of : ∀ {i j : Nat} {b : Nat}, ids[i]? = some b → ids[j]? = some b → i = j := by
    intro i j b hi hj
    obtain ⟨h1, h2⟩ := List.getElem?_eq_some_iff.1 hi
    obtain ⟨h3, h4⟩ := List.getElem?_eq_some_iff.1 hj
    rcases Nat.lt_trichotomy i j with hlt | rfl | hlt
    · exact absurd (h2.trans h4.symm) (List.pairwise_iff_getElem.1 hnd i j h1 h3 hlt)
    · rfl
    · exact absurd (h4.trans h2.symm) (List.pairwise_iff_getElem.1 hnd j i h3 h1 hlt)
  refine ⟨R.hb, hn, ?_, ?_, ?_, ?_⟩
  · intro i r g hr hd hg
    rw [gt_ren] at hd
    simp only [renM] at hr
    cases hi : ids[i]? with
    | none => simp [hi] at hr
    | some b =>
      simp only [hi] at hr hd
      exact hO b (List.mem_of_getElem? hi) r g hr (fun hc => hd (by rw [hc]; rfl)) hg
  · intro i hd
    rw [gt_ren] at hd ⊢
    cases hi : ids[i]? with
    | none => simp [hi] at hd
    | some b =>
      simp only [hi] at hd ⊢
      have hb : b ∈ ids := List.mem_of_getElem? hi
      obtain ⟨r, h1, h2⟩ := R.blk b fun hc => hd (by rw [hc]; rfl)
      refine ⟨r, by simp [renM, hi, h1], ?_⟩
      cases hx : gt h b with
      | dead => trivial
      | box cs =>
        rw [hx] at h2
        obtain ⟨g, c, e, h3, h4, h5, h6, h7⟩ := h2
        exact ⟨g, c, e, h3, h4, h5, h6.ren _ (fun c hc r hr => by
          have hci : c ∈ ids := hcl b hb c (by rw [hx]; exact hc)
          rw [renM_idx hci]; exact hr) fun g _ hg => free_renN hg (hF g hg), h7⟩
      | arr e sz fr es =>
        rw [hx] at h2
        obtain ⟨xs, h3, h4, h5, h6, h7, h8⟩ := h2
        exact ⟨xs, h3, h4, h5, h6, fun g hg => free_renN (h7 g hg) (hF g (h7 g hg)), fun hf => ⟨(h8 hf).1, hfr b hb r h1 (by rw [hx]; exact hf)⟩⟩
  · intro i j r r' g hr hr' hd hd' hg hg'
    rw [gt_ren] at hd hd'
    simp only [renM] at hr hr'
    cases hi : ids[i]? with
    | none => simp [hi] at hr
    | some b =>
      cases hj : ids[j]? with
      | none => simp [hj] at hr'
      | some c =>
        simp only [hi] at hr hd
        simp only [hj] at hr' hd'
        have := R.inj b c r r' g hr hr' (fun hc => hd (by rw [hc]; rfl)) (fun hc => hd' (by rw [hc]; rfl)) hg hg'
        subst this
        exact inj_of hi hj
  · intro i j r r' g hr hr' hf hf' hg hg'
    rw [gt_ren] at hf hf'
    simp only [renM] at hr hr'
    cases hi : ids[i]? with
    | none => simp [hi] at hr
    | some b =>
      cases hj : ids[j]? with
      | none => simp [hj] at hr'
      | some c =>
        simp only [hi, isFresh_ren] at hr hf
        simp only [hj, isFresh_ren] at hr' hf'
        have := R.apart b c r r' g hr hr' hf hf' hg hg'
        subst this
        exact inj_of hi hj

/-- the fresh rows of live roots -/
theorem Rel.fresh (R : Rel N base ρ h w) {b : Nat} {r : Root} (hr : ρ b = some r) (hf : isFresh (gt h b) = true) : ∀ g ∈ r.fp, N.f g ∧ Free N ρ h g ∧ g < w.heap.size := by
  obtain ⟨r', h1, h2⟩ := R.blk b (fresh_live hf)
  rw [hr] at h1
  cases h1
  cases hx : gt h b with
  | dead => rw [hx] at hf; cases hf
  | box cs => rw [hx] at hf; cases hf
  | arr e sz fr es =>
    rw [hx] at h2 hf
    obtain ⟨xs, _, _, _, h6, h7, h8⟩ := h2
    exact fun g hg => ⟨(h8 hf).2 g hg, h7 g hg, h6.lt g hg⟩

theorem Rel.ren (R : Rel N base ρ h w) {ids : List Nat} (hnd : ids.Nodup) (hcl : ∀ b ∈ ids, ∀ c ∈ refsB (gt h b), c ∈ ids) :
    Rel N base (renM ρ ids) (ids.map fun b => renB (fun c => idx c ids 0) (gt h b)) w :=
  R.renN hnd hcl R.hN (fun _ _ _ _ => R.hO _ _ _) (fun _ hg => hg.1) (fun _ _ _ hr hf g hg => (R.fresh hr hf g hg).1)

theorem renM_none {ids : List Nat} {i : Nat} (hi : ids.length ≤ i) : renM ρ ids i = none := by
  simp [renM, List.getElem?_eq_none hi]

theorem lk_ren (f : Nat → Nat) (e : Env) (s : Nat) : lk s (renE f e) = ren f (lk s e) := by
  induction e with
  | nil => rfl
  | cons p e ih =>
    obtain ⟨k, v⟩ := p
    simp only [renE, List.map_cons, lk] at ih ⊢
    split
    · rfl
    · exact ih

theorem refs_lk (e : Env) (s : Nat) : ∀ b ∈ refs (lk s e), b ∈ refsE e := by
  induction e with
  | nil => intro b hb; simp [lk, refs] at hb
  | cons p e ih =>
    obtain ⟨k, v⟩ := p
    intro b hb
    simp only [refsE, List.flatMap_cons, List.mem_append] at ih ⊢
    simp only [lk] at hb
    split at hb
    · exact .inl hb
    · exact .inr (ih b hb)

theorem RelEnv.ren {e : Env} {tmps : Array Value} (hE : RelEnv ρ w F e tmps) (f : Nat → Nat) (hr : ∀ b ∈ refsE e, ∀ r, ρ b = some r → ρ' (f b) = some r) (hF : ∀ g, g < w.heap.size → F g → F' g) : RelEnv ρ' w F' (renE f e) tmps := by
  intro s
  rw [lk_ren]
  exact (hE s).ren f (fun b hb => hr b (refs_lk e s b hb)) hF

theorem lk_rst (keep : List Nat) (e : Env) (s : Nat) : lk s (rst keep e) = if s ∈ keep then lk s e else .top := by
  induction keep with
  | nil => rfl
  | cons k keep ih =>
    simp only [rst, List.map_cons, lk] at ih ⊢
    rw [ih]
    by_cases hk : k = s
    · simp [hk]
    · simp [hk, Ne.symm hk]

theorem RelEnv.rst {e : Env} {tmps : Array Value} (hE : RelEnv ρ w F e tmps) (keep : List Nat) : RelEnv ρ w F (rst keep e) tmps := by
  intro s
  rw [lk_rst]
  split
  · exact hE s
  · exact .top _

theorem lk_scrub (e : Env) (s : Nat) : lk s (scrubE h e) = scrub h (lk s e) := by
  induction e with
  | nil => rfl
  | cons p e ih =>
    obtain ⟨k, v⟩ := p
    simp only [scrubE, List.map_cons, lk] at ih ⊢
    split
    · rfl
    · exact ih

theorem RV.scrub {a : AV} {v : Value} (hv : RV ρ w F a v) : RV ρ w F (scrub h a) v := by
  unfold AM.scrub
  split
  · split
    · exact .top _
    · exact hv
  · exact hv

theorem RelEnv.scrub {e : Env} {tmps : Array Value} (hE : RelEnv ρ w F e tmps) : RelEnv ρ w F (scrubE h e) tmps := by
  intro s
  rw [lk_scrub]
  exact (hE s).scrub

theorem closedB_spec {ids rs : List Nat} (hc : closedB h ids rs = true) : (∀ b ∈ rs, b ∈ ids) ∧ ∀ b ∈ ids, ∀ c ∈ refsB (gt h b), c ∈ ids := by
  simp only [closedB, Bool.and_eq_true, List.all_eq_true, List.contains_iff_mem] at hc
  exact hc

end
end Go.AM
