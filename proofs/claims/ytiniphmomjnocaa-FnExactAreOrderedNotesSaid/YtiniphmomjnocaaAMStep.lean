/-
  THE ABSTRACT MACHINE: the laws of change.
-/
import Derived.Test.YtiniphmomjnocaaAMRel
namespace Go.AM

def updM (ρ : Map) (n : Nat) (r : Root) : Map := fun b => if b = n then some r else ρ b

theorem gt_upd_append (h : List Blk) (u u' : List (Nat × Blk)) : upd h (u ++ u') = upd (upd h u) u' := by
  induction u generalizing h with
  | nil => rfl
  | cons x u ih => exact ih _

theorem gt_kill (h : List Blk) (ks : List Nat) (b : Nat) : gt (upd h (kill ks)) b = if b ∈ ks then .dead else gt h b := by
  induction ks generalizing h with
  | nil => simp [kill, upd]
  | cons k ks ih =>
    show gt (upd (stB h k .dead) (kill ks)) b = _
    rw [ih, gt_stB]
    by_cases h1 : b ∈ ks <;> by_cases h2 : b = k <;> simp [h1, h2]

theorem gt_put (h : List Blk) (ks : List Nat) (n : Nat) (x : Blk) (b : Nat) : gt (upd h (kill ks ++ [(n, x)])) b = if b = n then x else if b ∈ ks then .dead else gt h b := by
  rw [gt_upd_append]
  show gt (stB _ n x) b = _
  rw [gt_stB, gt_kill]

section
variable {N : Par} {base : Nat} {ρ : Map} {h : List Blk} {w w' : World}

theorem BlkRel.lt {F : Nat → Prop} {r : Root} {x : Blk} (hx : BlkRel N base ρ w F r x) (hd : x ≠ .dead) {g : Nat} (hg : blkOf r.v = some g) : base ≤ g ∧ g < w.heap.size := by
  cases x with
  | dead => exact absurd rfl hd
  | box cs =>
    obtain ⟨g', c, e, hv, hb, hh, _⟩ := hx
    rw [hv] at hg
    simp [blkOf] at hg
    subst hg
    exact ⟨hb, (Array.getElem?_eq_some_iff.1 hh).1⟩
  | arr e sz fr es =>
    obtain ⟨xs, ho, _⟩ := hx
    rcases ho.2 with ⟨hv, _⟩ | ⟨g', cap, cur, hv, hb, hh, _⟩
    · rw [hv] at hg; simp [blkOf] at hg
    · rw [hv] at hg
      simp [blkOf] at hg
      subst hg
      exact ⟨hb, (Array.getElem?_eq_some_iff.1 hh).1⟩

theorem Rel.lt (R : Rel N base ρ h w) {b : Nat} {r : Root} {g : Nat} (hr : ρ b = some r) (hd : gt h b ≠ .dead) (hg : blkOf r.v = some g) : base ≤ g ∧ g < w.heap.size := by
  obtain ⟨r', h1, h2⟩ := R.blk b hd
  rw [hr] at h1
  cases h1
  exact h2.lt hd hg

/-- The block of a live root. -/
def Owner (ρ : Map) (h : List Blk) (b : Nat) (g : Nat) : Prop := ∃ r, ρ b = some r ∧ gt h b ≠ .dead ∧ blkOf r.v = some g

theorem put_keeps {n : Nat} {ks : List Nat} {x : Blk} {r : Root} {row : Option Nat} (hn : ∀ r0, ρ n = some r0 → r0.v = r.v) (hg : w.grownBy w' row)
    (hrow : ∀ g, row = some g → ∃ b, Owner ρ h b g) (hblk : ∀ g, blkOf r.v = some g → w.heap.size ≤ g ∨ ∃ b, Owner ρ h b g) :
    Keeps ρ w (Free N ρ h) (updM ρ n r) w' (Free N (updM ρ n r) (upd h (kill ks ++ [(n, x)]))) := by
  constructor
  · intro b r0 hr
    by_cases hb : b = n
    · subst hb
      exact ⟨r, by simp [updM], (hn r0 hr).symm⟩
    · exact ⟨r0, by simp [updM, hb, hr], rfl⟩
  · intro g hlt hf
    constructor
    · refine ⟨hf.1, ?_⟩
      intro b rb hr hd he
      rw [gt_put] at hd
      by_cases hb : b = n
      · subst hb
        simp [updM] at hr
        subst hr
        rcases hblk g he with h1 | ⟨b', r', h1, h2, h3⟩
        · omega
        · exact hf.2 b' r' h1 h2 h3
      · simp [updM, hb] at hr
        simp [hb] at hd
        exact hf.2 b rb hr hd.2 he
    · refine hg.block g hlt fun he => ?_
      obtain ⟨b', r', h1, h2, h3⟩ := hrow g he.symm
      exact hf.2 b' r' h1 h2 h3

/-- A live root that is not touched stands as it stood. -/
theorem BlkRel.keep {F F' : Nat → Prop} {ρ' : Map} {r : Root} {x : Blk} (hx : BlkRel N base ρ w F r x) (hk : Keeps ρ w F ρ' w' F')
    (hsame : ∀ g, blkOf r.v = some g → w'.heap[g]? = w.heap[g]?) : BlkRel N base ρ' w' F' r x := by
  cases x with
  | dead => trivial
  | box cs =>
    obtain ⟨g, c, e, hv, hb, hh, h1, h2⟩ := hx
    exact ⟨g, c, e, hv, hb, by rw [hsame g (by rw [hv]; rfl)]; exact hh, h1.keep hk, h2⟩
  | arr e sz fr es =>
    obtain ⟨xs, ho, hsz, hl, ht, hf, hfr⟩ := hx
    refine ⟨xs, ⟨ho.1, ?_⟩, hsz, hl, ht.frame fun g hg => (hk.free g (ht.lt g hg) (hf g hg)).2, fun g hg => (hk.free g (ht.lt g hg) (hf g hg)).1, hfr⟩
    rcases ho.2 with h0 | ⟨g, cap, cur, hv, hb, hh, rest⟩
    · exact .inl h0
    · exact .inr ⟨g, cap, cur, hv, hb, by rw [hsame g (by rw [hv]; rfl)]; exact hh, rest⟩

theorem put_rel (R : Rel N base ρ h w) {n : Nat} {ks : List Nat} {x : Blk} {r : Root} {row : Option Nat} (hn : ∀ r0, ρ n = some r0 → r0.v = r.v) (hg : w.grownBy w' row)
    (hrow : ∀ g, row = some g → ∃ b, (b ∈ ks ∨ b = n) ∧ Owner ρ h b g) (hblk : ∀ g, blkOf r.v = some g → w.heap.size ≤ g ∨ ∃ b, (b ∈ ks ∨ b = n) ∧ Owner ρ h b g)
    (hB : Keeps ρ w (Free N ρ h) (updM ρ n r) w' (Free N (updM ρ n r) (upd h (kill ks ++ [(n, x)]))) →
      BlkRel N base (updM ρ n r) w' (Free N (updM ρ n r) (upd h (kill ks ++ [(n, x)]))) r x)
    (hfp : isFresh x = true → ∀ g ∈ r.fp, ∀ d rd, d ∉ ks → d ≠ n → ρ d = some rd → isFresh (gt h d) = true → g ∉ rd.fp) :
    Rel N base (updM ρ n r) (upd h (kill ks ++ [(n, x)])) w' ∧ Keeps ρ w (Free N ρ h) (updM ρ n r) w' (Free N (updM ρ n r) (upd h (kill ks ++ [(n, x)]))) ∧
      ∀ g, g < w.heap.size → ¬ N.a g → w'.heap[g]? = w.heap[g]? := by
  have hk : Keeps ρ w (Free N ρ h) (updM ρ n r) w' (Free N (updM ρ n r) (upd h (kill ks ++ [(n, x)]))) :=
    put_keeps hn hg (fun g e => let ⟨b, _, ho⟩ := hrow g e; ⟨b, ho⟩) (fun g e => (hblk g e).imp id fun ⟨b, _, ho⟩ => ⟨b, ho⟩)
  have hB := hB hk
  refine ⟨⟨Nat.le_trans R.hb hg.size, fun g hl => R.hN g (Nat.le_trans hg.size hl), ?_, ?_, ?_, ?_⟩, hk, ?_⟩
  · intro b rb g hrb hd hgb
    rw [gt_put] at hd
    by_cases hb : b = n
    · subst hb
      simp [updM] at hrb
      subst hrb
      rcases hblk g hgb with h1 | ⟨c, _, rc, h1, h2, h3⟩
      · exact R.hN g h1
      · exact R.hO c rc g h1 h2 h3
    · simp [updM, hb] at hrb
      simp [hb] at hd
      exact R.hO b rb g hrb hd.2 hgb
  · intro b hd
    rw [gt_put] at hd
    by_cases hb : b = n
    · subst hb
      exact ⟨r, by simp [updM], by rw [gt_put]; simpa using hB⟩
    · simp [hb] at hd
      obtain ⟨rb, h1, h2⟩ := R.blk b hd.2
      refine ⟨rb, by simp [updM, hb, h1], ?_⟩
      rw [gt_put]
      simp only [hb, hd.1, if_false]
      refine h2.keep hk fun g hgb => ?_
      refine hg.block g (h2.lt hd.2 hgb).2 fun e => ?_
      obtain ⟨b', hb', r', h1', h2', h3'⟩ := hrow g e.symm
      have := R.inj b b' rb r' g h1 h1' hd.2 h2' hgb h3'
      subst this
      rcases hb' with hb' | hb'
      · exact hd.1 hb'
      · exact hb hb'
  · intro b b' rb rb' g h1 h1' hd hd' hgb hgb'
    rw [gt_put] at hd hd'
    by_cases hb : b = n <;> by_cases hb' : b' = n
    · rw [hb, hb']
    · exfalso
      subst hb
      simp [updM] at h1
      subst h1
      simp [updM, hb'] at h1'
      simp [hb'] at hd'
      rcases hblk g hgb with h0 | ⟨c, hc, rc, hc1, hc2, hc3⟩
      · have := (R.lt h1' hd'.2 hgb').2; omega
      · have := R.inj b' c rb' rc g h1' hc1 hd'.2 hc2 hgb' hc3
        subst this
        rcases hc with hc | hc
        · exact hd'.1 hc
        · exact hb' hc
    · exfalso
      subst hb'
      simp [updM] at h1'
      subst h1'
      simp [updM, hb] at h1
      simp [hb] at hd
      rcases hblk g hgb' with h0 | ⟨c, hc, rc, hc1, hc2, hc3⟩
      · have := (R.lt h1 hd.2 hgb).2; omega
      · have := R.inj b c rb rc g h1 hc1 hd.2 hc2 hgb hc3
        subst this
        rcases hc with hc | hc
        · exact hd.1 hc
        · exact hb hc
    · simp [updM, hb] at h1
      simp [updM, hb'] at h1'
      simp [hb] at hd
      simp [hb'] at hd'
      exact R.inj b b' rb rb' g h1 h1' hd.2 hd'.2 hgb hgb'
  · intro b b' rb rb' g h1 h1' hf hf' hgb hgb'
    rw [gt_put] at hf hf'
    by_cases hb : b = n <;> by_cases hb' : b' = n
    · rw [hb, hb']
    · exfalso
      subst hb
      simp [updM] at h1
      subst h1
      simp [updM, hb'] at h1'
      simp only [hb', if_false] at hf'
      simp only [if_true] at hf
      by_cases hk' : b' ∈ ks
      · simp [hk', isFresh] at hf'
      · simp only [hk', if_false] at hf'
        exact hfp hf g hgb b' rb' hk' hb' h1' hf' hgb'
    · exfalso
      subst hb'
      simp [updM] at h1'
      subst h1'
      simp [updM, hb] at h1
      simp only [hb, if_false] at hf
      simp only [if_true] at hf'
      by_cases hk' : b ∈ ks
      · simp [hk', isFresh] at hf
      · simp only [hk', if_false] at hf
        exact hfp hf' g hgb' b rb hk' hb h1 hf hgb
    · simp [updM, hb] at h1
      simp [updM, hb'] at h1'
      simp only [hb, if_false] at hf
      simp only [hb', if_false] at hf'
      by_cases hk1 : b ∈ ks
      · simp [hk1, isFresh] at hf
      · by_cases hk2 : b' ∈ ks
        · simp [hk2, isFresh] at hf'
        · simp only [hk1, if_false] at hf
          simp only [hk2, if_false] at hf'
          exact R.apart b b' rb rb' g h1 h1' hf hf' hgb hgb'
  · intro g hl hn'
    refine hg.block g hl fun e => ?_
    obtain ⟨c, _, rc, h1, h2, h3⟩ := hrow g e.symm
    exact hn' (R.hO c rc g h1 h2 h3).1
end

end Go.AM
