/-
  THE ABSTRACT MACHINE: code, functions, contracts.
-/
import Derived.Test.YtiniphmomjnocaaAMDraw2
namespace Go.AM
open Go.RowKit (Below)

section
variable {P : Program} {N : Par} {base : Nat} {w0 : World} {nt : Nat} {ts : List (Array Value)} {inl : List Nat}

theorem StkRel.ren {ρ ρ' : Map} {w : World} {F F' : Nat → Prop} (f : Nat → Nat) (hF : ∀ g, g < w.heap.size → F g → F' g) : ∀ {es : List Env} {ts : List (Array Value)}, StkRel ρ w F es ts → (∀ b ∈ es.flatMap refsE, ∀ r, ρ b = some r → ρ' (f b) = some r) → StkRel ρ' w F' (es.map (renE f)) ts
  | [], [], _, _ => trivial
  | _ :: _, _ :: _, h, hr => ⟨h.1.ren f (fun b hb => hr b (by simp only [List.flatMap_cons, List.mem_append]; exact .inl hb)) hF, StkRel.ren f hF h.2 fun b hb => hr b (by simp only [List.flatMap_cons, List.mem_append]; exact .inr hb)⟩
  | [], _ :: _, h, _ => h.elim
  | _ :: _, [], h, _ => h.elim

theorem canon_sound {ρ : Map} {s : S} {a : Act} {w : World} (hS : RelS N base w0 nt ts ρ s a w) (keep : List Nat) : ∃ ρ', RelS N base w0 nt ts ρ' (canon keep s) a w := by
  unfold canon
  simp only
  split
  · rename_i hc
    obtain ⟨h1, h2⟩ := closedB_spec hc
    have hnd : (reach s.h 200 (refsE (scrubE s.h (rst keep s.env)) ++ s.stk.flatMap refsE) []).Nodup := reach_nodup _ _ _ List.nodup_nil
    generalize reach s.h 200 (refsE (scrubE s.h (rst keep s.env)) ++ s.stk.flatMap refsE) [] = ids at *
    refine ⟨renM ρ ids, hS.rel.ren hnd h2, ?_, ?_, ?_, hS.defers, hS.size, hS.below, hS.kn, fun g hg hz => ⟨free_ren (hS.fz g hg hz).1, (hS.fz g hg hz).2⟩⟩
    · exact ((hS.env.rst keep).scrub (h := s.h)).ren _ (fun b hb r hr => by rw [renM_idx (h1 b (by simp [hb]))]; exact hr) fun g _ hg => free_ren hg
    · exact hS.stk.ren _ (fun g _ hg => free_ren hg) fun b hb r hr => by rw [renM_idx (h1 b (List.mem_append.2 (.inr hb)))]; exact hr
    · intro b hb
      exact renM_none (by simpa using hb)
  · exact ⟨ρ, hS.rel, fun _ => .top _, hS.stk, hS.dom, hS.defers, hS.size, hS.below, hS.kn, hS.fz⟩

/-- what the abstract post says of the concrete one -/
def PQ (N : Par) (base : Nat) (w0 : World) (nt : Nat) (ts : List (Array Value)) (Q : X → S → Prop) : Exit → Act → World → Prop
  | .normal, a, w => ∃ s ρ, Q .n s ∧ RelS N base w0 nt ts ρ s a w
  | .exit id, a, w => ∃ s ρ, Q (.x id) s ∧ RelS N base w0 nt ts ρ s a w
  | .ret, a, w => ∃ s ρ, Q .r s ∧ RelS N base w0 nt ts ρ s a w
  | _, _, _ => False

theorem RelS.rst {ρ : Map} {s : S} {a : Act} {w : World} (hS : RelS N base w0 nt ts ρ s a w) (keep : List Nat) : RelS N base w0 nt ts ρ { s with env := rst keep s.env } a w :=
  ⟨hS.rel, hS.env.rst keep, hS.stk, hS.dom, hS.defers, hS.size, hS.below, hS.kn, hS.fz⟩

theorem Wc_sound {Γ : Ctr} (hΓ : Γ = Sound P) : ∀ (c : Code) (ks : List (List Nat)) (m : MCode) (ks' : List (List Nat)), comp P inl nt c ks = some (m, ks') → ∀ (Q : X → S → Prop) (s : S) (a : Act) (w : World) (ρ : Map),
    Wc Γ m Q s → RelS N base w0 nt ts ρ s a w → c.wp P (PQ N base w0 nt ts Q) a w := by
  intro c
  induction c with
  | skip =>
    intro ks m ks' hc Q s a w ρ hW hS
    simp [comp] at hc
    obtain ⟨rfl, rfl⟩ := hc
    exact wp_skip ⟨s, ρ, hW, hS⟩
  | region id ops draw =>
    intro ks m ks' hc Q s a w ρ hW hS
    cases ks with
    | nil => simp [comp] at hc
    | cons k ks =>
      simp only [comp] at hc
      split at hc
      · rename_i os hos
        split at hc
        · rename_i hdraw
          subst hdraw
          split at hc
          · rename_i hcond
            cases hc
            simp only [Wc] at hW
            exact drw_sound hΓ hos hcond.1 hcond.2.1 (fun s a w ρ hq hS => ⟨_, ρ, hq, hS.rst k⟩) hW hS
          · cases hc
        · rename_i hdraw
          cases hc
          simp only [Wc] at hW
          have hdraw' : draw = false := by simpa using hdraw
          subst hdraw'
          exact wp_region_list (regW_sound hΓ (fun s a w ρ hq hS => ⟨_, ρ, hq, hS.rst k⟩) ops.toList os hos s a w ρ hW hS)
      · cases hc
  | seq x y ihx ihy =>
    intro ks m ks' hc Q s a w ρ hW hS
    simp only [comp] at hc
    split at hc
    · rename_i mx k1 h1
      split at hc
      · rename_i my k2 h2
        cases hc
        simp only [Wc] at hW
        refine wp_seq (wp_mono (ihx ks mx k1 h1 _ s a w ρ hW hS) ?_)
        intro e a' w' hq
        cases e with
        | normal => obtain ⟨s', ρ', h3, h4⟩ := hq; exact ihy k1 my _ h2 Q s' a' w' ρ' h3 h4
        | exit id => exact hq
        | ret => exact hq
        | goto l => exact hq.elim
        | panic ch => exact hq.elim
        | outgrown => exact hq.elim
      · cases hc
    · cases hc
  | cond o x y ihx ihy =>
    intro ks m ks' hc Q s a w ρ hW hS
    simp only [comp] at hc
    split at hc
    · rename_i o' mx k1 ho h1
      split at hc
      · rename_i my k2 h2
        cases hc
        simp only [Wc] at hW
        have hr := opd_rel hS.env ho
        split at hW
        · rename_i b hb
          rw [hb] at hr
          refine wp_cond hr.bool_inv ?_
          split at hW
          · rename_i hbt; subst hbt; exact ihx ks mx k1 h1 Q s a w ρ hW hS
          · rename_i hbt
            have : b = false := by simpa using hbt
            subst this
            exact ihy k1 my _ h2 Q s a w ρ hW hS
        · exact hW.elim
      · cases hc
    · cases hc
  | block id b ih =>
    intro ks m ks' hc Q s a w ρ hW hS
    simp only [comp] at hc
    split at hc
    · rename_i mb k1 h1
      cases hc
      simp only [Wc] at hW
      refine wp_block (wp_mono (ih ks mb _ h1 _ s a w ρ hW hS) ?_)
      intro e a' w' hq
      cases e with
      | normal => exact hq
      | exit id' =>
        obtain ⟨s', ρ', h3, h4⟩ := hq
        simp only [Exit.inBlock]
        simp only at h3
        split at h3
        · rename_i hid; rw [if_pos hid]; exact ⟨s', ρ', h3, h4⟩
        · rename_i hid; rw [if_neg hid]; exact ⟨s', ρ', h3, h4⟩
      | ret => exact hq
      | goto l => exact hq.elim
      | panic ch => exact hq.elim
      | outgrown => exact hq.elim
    · cases hc
  | loop b ih =>
    intro ks m ks' hc Q s a w ρ hW hS
    cases ks with
    | nil => simp [comp] at hc
    | cons k ks =>
      simp only [comp] at hc
      split at hc
      · rename_i mb k1 h1
        cases hc
        simp only [Wc, LoopW] at hW
        obtain ⟨I, μ, h0, hround⟩ := hW
        obtain ⟨ρ0, hS0⟩ := canon_sound hS k
        refine wp_loop_ghost (fun n a w => ∃ s ρ, I s ∧ μ s = n ∧ RelS N base w0 nt ts ρ s a w) (μ (canon k s)) ⟨_, ρ0, h0, rfl, hS0⟩ ?_
        rintro n a' w' ⟨s1, ρ1, hI, rfl, hS1⟩
        refine wp_mono (ih ks mb _ h1 _ s1 a' w' ρ1 (hround s1 hI) hS1) ?_
        intro e a2 w2 hq
        cases e with
        | normal =>
          obtain ⟨s2, ρ2, ⟨h3, h4⟩, h5⟩ := hq
          obtain ⟨ρ3, h6⟩ := canon_sound h5 k
          exact ⟨μ (canon k s2), h4, _, ρ3, h3, rfl, h6⟩
        | exit id => exact hq
        | ret => exact hq
        | goto l => exact hq.elim
        | panic ch => exact hq.elim
        | outgrown => exact hq.elim
      · cases hc
  | exit id =>
    intro ks m ks' hc Q s a w ρ hW hS
    simp [comp] at hc
    obtain ⟨rfl, rfl⟩ := hc
    exact wp_exit ⟨s, ρ, hW, hS⟩
  | ret =>
    intro ks m ks' hc Q s a w ρ hW hS
    simp [comp] at hc
    obtain ⟨rfl, rfl⟩ := hc
    exact wp_ret ⟨s, ρ, hW, hS⟩
  | rangeFunc f ps x y _ _ => intro ks m ks' hc; cases ks <;> simp [comp] at hc
  | scope b _ => intro ks m ks' hc; cases ks <;> simp [comp] at hc
  | label l => intro ks m ks' hc; cases ks <;> simp [comp] at hc
  | goto l => intro ks m ks' hc; cases ks <;> simp [comp] at hc
  | refuse wy => intro ks m ks' hc; cases ks <;> simp [comp] at hc

end
end Go.AM
