/-
  THE ABSTRACT MACHINE: a callee's result comes back to its caller.
-/
import Derived.Test.YtiniphmomjnocaaAMRen
namespace Go.AM
open Go.RowKit (Below)

section
variable {N : Par} {A : Nat → Prop} {base : Nat} {ρ ρc : Map} {h hr : List Blk} {w w' : World}

def joinM (ρ ρc : Map) (n len : Nat) : Map := fun b => if n ≤ b ∧ b < n + len then ρc (b - n) else ρ b

theorem gt_newU (n : Nat) : ∀ (bs : List Blk) (i : Nat) (h : List Blk) (b : Nat), gt (upd h (newU n bs i)) b = if n + i ≤ b ∧ b < n + i + bs.length then renB (fun c => c + n) (gt bs (b - (n + i))) else gt h b
  | [], i, h, b => by simp [newU, upd]; intro h1 h2; omega
  | x :: bs, i, h, b => by
    simp only [newU, upd]
    rw [gt_newU n bs (i + 1), gt_stB]
    by_cases h1 : b = n + i
    · subst h1
      rw [if_neg (by omega), if_pos rfl, if_pos (by simp)]
      simp [gt]
    · by_cases h2 : n + (i + 1) ≤ b ∧ b < n + (i + 1) + bs.length
      · have h3 : n + i ≤ b ∧ b < n + i + (x :: bs).length := by simp; omega
        rw [if_pos h2, if_pos h3]
        have : b - (n + i) = (b - (n + (i + 1))) + 1 := by omega
        rw [this]
        simp [gt]
      · have h3 : ¬ (n + i ≤ b ∧ b < n + i + (x :: bs).length) := by simp; omega
        rw [if_neg h2, if_neg h3, if_neg h1]

theorem newU_keys (n : Nat) : ∀ (bs : List Blk) (i b : Nat), b ∈ (newU n bs i).map Prod.fst ↔ n + i ≤ b ∧ b < n + i + bs.length
  | [], i, b => by simp [newU]
  | x :: bs, i, b => by
    simp only [newU, List.map_cons, List.mem_cons, newU_keys n bs (i + 1), List.length_cons]
    omega

theorem frB_arr {e sz : Nat} {fr : Bool} {es : List (List T)} {b : Nat} (hf : hr.all frB = true) (hb : gt hr b = .arr e sz fr es) : fr = true := by
  unfold gt at hb
  cases hx : hr[b]? with
  | none => simp [hx] at hb
  | some x =>
    simp [hx] at hb
    subst hb
    have := List.all_eq_true.1 hf _ (List.mem_of_getElem? hx)
    exact this

theorem frB_box {cs : List AV} {b : Nat} (hf : hr.all frB = true) (hb : gt hr b = .box cs) : scalAVs cs = true := by
  unfold gt at hb
  cases hx : hr[b]? with
  | none => simp [hx] at hb
  | some x =>
    simp [hx] at hb
    subst hb
    exact List.all_eq_true.1 hf _ (List.mem_of_getElem? hx)

/-- what a callee may own: new blocks alone; what it reads: those in A, too -/
def calP (w : World) (A : Nat → Prop) : Par := ⟨fun g => w.heap.size ≤ g ∨ A g, fun g => w.heap.size ≤ g, fun _ => False⟩

structure JoinH (N : Par) (A : Nat → Prop) (base : Nat) (ρ : Map) (h : List Blk) (w : World) (ρc : Map) (hr : List Blk) (w' : World) (n : Nat) : Prop where
  R : Rel N base ρ h w
  B : Below w.heap.size w w'
  Rc : Rel (calP w A) w.heap.size ρc hr w'
  new : ∀ b, n ≤ b → b < n + hr.length → ρ b = none
  dom : ∀ b, hr.length ≤ b → ρc b = none
  share : (∀ g, A g → Free N ρ h g) ∨ hr.all frB = true

theorem gt_none_of (R : Rel N base ρ h w) {b : Nat} (hb : ρ b = none) : gt h b = .dead := by
  by_cases hd : gt h b = .dead
  · exact hd
  · obtain ⟨r, h1, _⟩ := R.blk b hd
    rw [hb] at h1
    cases h1

theorem JoinH.free_new {n : Nat} (J : JoinH N A base ρ h w ρc hr w' n) {g : Nat} (hg : Free (calP w A) ρc hr g) (hs : w.heap.size ≤ g ∨ ∀ g, A g → Free N ρ h g) :
    Free N (joinM ρ ρc n hr.length) (upd h (newU n hr 0)) g := by
  have hor : w.heap.size ≤ g ∨ Free N ρ h g := by
    rcases hs with hs | hs
    · exact .inl hs
    · exact hg.1.imp id (hs g)
  refine ⟨?_, ?_⟩
  · rcases hor with h1 | h1
    · exact (J.R.hN g h1).1
    · exact h1.1
  · intro b r hb hd he
    rw [gt_newU] at hd
    simp only [Nat.add_zero] at hd
    simp only [joinM] at hb
    by_cases hc : n ≤ b ∧ b < n + hr.length
    · rw [if_pos hc] at hb hd
      exact hg.2 (b - n) r hb (fun hx => hd (by rw [hx]; rfl)) he
    · rw [if_neg hc] at hb hd
      have := J.R.lt hb hd he
      rcases hor with h1 | h1
      · omega
      · exact h1.2 b r hb hd he

theorem JoinH.keeps {n : Nat} (J : JoinH N A base ρ h w ρc hr w' n) : Keeps ρ w (Free N ρ h) (joinM ρ ρc n hr.length) w' (Free N (joinM ρ ρc n hr.length) (upd h (newU n hr 0))) := by
  constructor
  · intro b r hb
    refine ⟨r, ?_, rfl⟩
    simp only [joinM]
    rw [if_neg fun hc => by rw [J.new b hc.1 hc.2] at hb; cases hb]
    exact hb
  · intro g hlt hf
    refine ⟨⟨hf.1, ?_⟩, J.B.block g hlt⟩
    intro b r hb hd he
    rw [gt_newU] at hd
    simp only [Nat.add_zero] at hd
    simp only [joinM] at hb
    by_cases hc : n ≤ b ∧ b < n + hr.length
    · rw [if_pos hc] at hb hd
      have := J.Rc.lt hb (fun hx => hd (by rw [hx]; rfl)) he
      omega
    · rw [if_neg hc] at hb hd
      exact hf.2 b r hb hd he

theorem JoinH.root {n : Nat} (J : JoinH N A base ρ h w ρc hr w' n) {b : Nat} {r : Root} (hb : ρc b = some r) : joinM ρ ρc n hr.length (b + n) = some r := by
  have hlt : b < hr.length := by
    rcases Nat.lt_or_ge b hr.length with h1 | h1
    · exact h1
    · rw [J.dom b h1] at hb; cases hb
  simp only [joinM]
  rw [if_pos (by omega), Nat.add_sub_cancel]
  exact hb

theorem JoinH.rel {n : Nat} (J : JoinH N A base ρ h w ρc hr w' n) : Rel N base (joinM ρ ρc n hr.length) (upd h (newU n hr 0)) w' := by
  have hk := J.keeps
  have hsplit : ∀ b r, joinM ρ ρc n hr.length b = some r → gt (upd h (newU n hr 0)) b ≠ .dead →
      (ρ b = some r ∧ gt h b ≠ .dead ∧ gt (upd h (newU n hr 0)) b = gt h b) ∨ (n ≤ b ∧ ρc (b - n) = some r ∧ gt hr (b - n) ≠ .dead ∧ gt (upd h (newU n hr 0)) b = renB (fun c => c + n) (gt hr (b - n))) := by
    intro b r hb hd
    rw [gt_newU] at hd ⊢
    simp only [Nat.add_zero] at hd ⊢
    simp only [joinM] at hb
    by_cases hc : n ≤ b ∧ b < n + hr.length
    · rw [if_pos hc] at hb hd ⊢
      exact .inr ⟨hc.1, hb, fun hx => hd (by rw [hx]; rfl), rfl⟩
    · rw [if_neg hc] at hb hd ⊢
      exact .inl ⟨hb, hd, rfl⟩
  refine ⟨Nat.le_trans J.R.hb J.B.size, fun g hl => J.R.hN g (Nat.le_trans J.B.size hl), ?_, ?_, ?_, ?_⟩
  · intro b r g hb hd hg
    rcases hsplit b r hb hd with ⟨h1, h2, _⟩ | ⟨h0, h1, h2, _⟩
    · exact J.R.hO b r g h1 h2 hg
    · exact J.R.hN g (J.Rc.lt h1 h2 hg).1
  · intro b hd
    have hd' := hd
    rw [gt_newU] at hd
    simp only [Nat.add_zero] at hd
    by_cases hc : n ≤ b ∧ b < n + hr.length
    · rw [if_pos hc] at hd
      obtain ⟨r, h1, h2⟩ := J.Rc.blk (b - n) fun hx => hd (by rw [hx]; rfl)
      refine ⟨r, by simp only [joinM]; rw [if_pos hc]; exact h1, ?_⟩
      rw [gt_newU]
      simp only [Nat.add_zero]
      rw [if_pos hc]
      cases hx : gt hr (b - n) with
      | dead => trivial
      | box cs =>
        rw [hx] at h2
        obtain ⟨g, c, e, h3, h4, h5, h6, h7⟩ := h2
        refine ⟨g, c, e, h3, Nat.le_trans J.R.hb h4, h5, ?_, h7⟩
        rcases J.share with hs | hs
        · exact h6.ren _ (fun c _ r hr' => J.root hr') fun g _ hg => J.free_new hg (.inr hs)
        · exact h6.scal _ (fun c _ r hr' => J.root hr') (frB_box hs hx)
      | arr e sz fr es =>
        rw [hx] at h2
        obtain ⟨xs, h3, h4, h5, h6, h7, h8⟩ := h2
        refine ⟨xs, ⟨h3.1, ?_⟩, h4, h5, h6, fun g hg => ?_, fun hf => ⟨(h8 hf).1, fun g hg => (J.R.hN g ((h8 hf).2 g hg)).2⟩⟩
        · rcases h3.2 with h3 | ⟨g, cap, cur, q1, q2, q3⟩
          · exact .inl h3
          · exact .inr ⟨g, cap, cur, q1, Nat.le_trans J.R.hb q2, q3⟩
        · rcases J.share with hs | hs
          · exact J.free_new (h7 g hg) (.inr hs)
          · exact J.free_new (h7 g hg) (.inl ((h8 (frB_arr hs hx)).2 g hg))
    · rw [if_neg hc] at hd
      obtain ⟨r, h1, h2⟩ := J.R.blk b hd
      refine ⟨r, by simp only [joinM]; rw [if_neg hc]; exact h1, ?_⟩
      rw [gt_newU]
      simp only [Nat.add_zero]
      rw [if_neg hc]
      exact h2.keep hk fun g hg => J.B.block g (h2.lt hd hg).2
  · intro b b' r r' g hb hb' hd hd' hg hg'
    rcases hsplit b r hb hd with ⟨h1, h2, _⟩ | ⟨h0, h1, h2, _⟩ <;> rcases hsplit b' r' hb' hd' with ⟨h3, h4, _⟩ | ⟨h0', h3, h4, _⟩
    · exact J.R.inj b b' r r' g h1 h3 h2 h4 hg hg'
    · have q1 := (J.R.lt h1 h2 hg).2; have q2 := (J.Rc.lt h3 h4 hg').1; omega
    · have q1 := (J.R.lt h3 h4 hg').2; have q2 := (J.Rc.lt h1 h2 hg).1; omega
    · have := J.Rc.inj (b - n) (b' - n) r r' g h1 h3 h2 h4 hg hg'; omega
  · intro b b' r r' g hb hb' hf hf' hg hg'
    have lt_of : ∀ b r, ρ b = some r → isFresh (gt h b) = true → ∀ g ∈ r.fp, g < w.heap.size := by
      intro b r hb hf g hg
      obtain ⟨r2, h1, h2⟩ := J.R.blk b (fresh_live hf)
      rw [hb] at h1
      cases h1
      cases hx : gt h b with
      | dead => rw [hx] at hf; cases hf
      | box cs => rw [hx] at hf; cases hf
      | arr e sz fr es => rw [hx] at h2; obtain ⟨xs, _, _, _, h6, _⟩ := h2; exact h6.lt g hg
    have ge_of : ∀ b r, ρc b = some r → isFresh (gt hr b) = true → ∀ g ∈ r.fp, w.heap.size ≤ g := by
      intro b r hb hf g hg
      obtain ⟨r2, h1, h2⟩ := J.Rc.blk b (fresh_live hf)
      rw [hb] at h1
      cases h1
      cases hx : gt hr b with
      | dead => rw [hx] at hf; cases hf
      | box cs => rw [hx] at hf; cases hf
      | arr e sz fr es =>
        rw [hx] at h2 hf
        obtain ⟨xs, _, _, _, _, _, h8⟩ := h2
        exact (h8 hf).2 g hg
    rcases hsplit b r hb (fresh_live hf) with ⟨h1, h2, e1⟩ | ⟨h0, h1, h2, e1⟩ <;> rcases hsplit b' r' hb' (fresh_live hf') with ⟨h3, h4, e2⟩ | ⟨h0', h3, h4, e2⟩
    · rw [e1] at hf; rw [e2] at hf'; exact J.R.apart b b' r r' g h1 h3 hf hf' hg hg'
    · rw [e1] at hf; rw [e2, isFresh_ren] at hf'
      have q1 := lt_of b r h1 hf g hg; have q2 := ge_of _ r' h3 hf' g hg'; omega
    · rw [e1, isFresh_ren] at hf; rw [e2] at hf'
      have q1 := lt_of b' r' h3 hf' g hg'; have q2 := ge_of _ r h1 hf g hg; omega
    · rw [e1, isFresh_ren] at hf; rw [e2, isFresh_ren] at hf'
      have := J.Rc.apart (b - n) (b' - n) r r' g h1 h3 hf hf' hg hg'; omega

theorem JoinH.val {n : Nat} (J : JoinH N A base ρ h w ρc hr w' n) {r : AV} {v : Value} (hv : RV ρc w' (Free (calP w A) ρc hr) r v) (hs : (∀ g, A g → Free N ρ h g) ∨ scalAV r = true) :
    RV (joinM ρ ρc n hr.length) w' (Free N (joinM ρ ρc n hr.length) (upd h (newU n hr 0))) (shift n r) v := by
  rcases hs with hs | hs
  · exact hv.ren _ (fun b _ r hr' => J.root hr') fun g _ hg => J.free_new hg (.inr hs)
  · exact hv.scal _ (fun b _ r hr' => J.root hr') hs

end
end Go.AM
