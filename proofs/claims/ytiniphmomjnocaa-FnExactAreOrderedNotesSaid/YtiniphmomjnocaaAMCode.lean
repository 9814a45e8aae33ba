/-
  THE ABSTRACT MACHINE: code is sound.
-/
import Derived.Test.YtiniphmomjnocaaAMCall
import Derived.Deep.LoopGhost
namespace Go.AM
open Go.RowKit (Below)

def StkRel (ρ : Map) (w : World) (F : Nat → Prop) : List Env → List (Array Value) → Prop
  | [], [] => True
  | e :: es, t :: ts => RelEnv ρ w F e t ∧ StkRel ρ w F es ts
  | _, _ => False

structure RelS (N : Par) (base : Nat) (w0 : World) (nt : Nat) (ts : List (Array Value)) (ρ : Map) (s : S) (a : Act) (w : World) : Prop where
  rel : Rel N base ρ s.h w
  env : RelEnv ρ w (Free N ρ s.h) s.env a.tmps
  stk : StkRel ρ w (Free N ρ s.h) s.stk ts
  dom : ∀ b, s.h.length ≤ b → ρ b = none
  defers : a.defers = []
  size : a.tmps.size = nt
  below : Below base w0 w
  kn : ∀ g, g < w0.heap.size → ¬ N.a g → w.heap[g]? = w0.heap[g]?
  fz : ∀ g, g < w0.heap.size → N.z g → Free N ρ s.h g ∧ w.heap[g]? = w0.heap[g]?

section
variable {P : Program} {N : Par} {base : Nat} {w0 : World} {nt : Nat} {ts : List (Array Value)} {inl : List Nat}

theorem StkRel.keep {ρ ρ' : Map} {w w' : World} {F F' : Nat → Prop} (hk : Keeps ρ w F ρ' w' F') : ∀ {es : List Env} {ts : List (Array Value)}, StkRel ρ w F es ts → StkRel ρ' w' F' es ts
  | [], [], _ => trivial
  | _ :: _, _ :: _, h => ⟨fun s => (h.1 s).keep hk, StkRel.keep hk h.2⟩
  | [], _ :: _, h => h.elim
  | _ :: _, [], h => h.elim

theorem stB_len (h : List Blk) (b : Nat) (x : Blk) : h.length ≤ (stB h b x).length ∧ b < (stB h b x).length := by
  induction h generalizing b with
  | nil =>
    induction b with
    | zero => simp [stB]
    | succ b ih => simp [stB]; exact ih.2
  | cons y h ih =>
    cases b with
    | zero => simp [stB]
    | succ b => simp [stB]; exact ih b

theorem upd_len (u : List (Nat × Blk)) : ∀ h : List Blk, h.length ≤ (upd h u).length ∧ ∀ b ∈ u.map Prod.fst, b < (upd h u).length := by
  induction u with
  | nil => intro h; simp [upd]
  | cons p u ih =>
    intro h
    obtain ⟨b, x⟩ := p
    have h1 := stB_len h b x
    have h2 := ih (stB h b x)
    simp only [upd]
    refine ⟨by omega, ?_⟩
    intro c hc
    simp only [List.map_cons, List.mem_cons] at hc
    rcases hc with rfl | hc
    · omega
    · exact h2.2 c hc

theorem relEnv_put {ρ : Map} {w : World} {F : Nat → Prop} {e : Env} {a : Act} {d : Option Nat} {v : AV} {val : Value} (hE : RelEnv ρ w F e a.tmps) (hv : RV ρ w F v val) (hd : ∀ x, d = some x → x < a.tmps.size) : RelEnv ρ w F (put d v e) (a.put d val).tmps := by
  cases d with
  | none => exact hE
  | some d =>
    intro s
    have hlt := hd d rfl
    simp only [put, lk, Act.put]
    split
    · rename_i hs
      subst hs
      simpa [Array.getD, hlt] using hv
    · rename_i hs
      have := hE s
      simp only [Array.getD_eq_getD_getElem?, Array.getElem?_setIfInBounds] at this ⊢
      rw [if_neg hs]
      exact this

theorem act_put_defers (a : Act) (d : Option Nat) (v : Value) : (a.put d v).defers = a.defers := by cases d <;> rfl
theorem act_put_size (a : Act) (d : Option Nat) (v : Value) : (a.put d v).tmps.size = a.tmps.size := by cases d <;> simp [Act.put]

/-- what stands behind an operation, of the whole state -/
theorem RelS.after {ρ ρ' : Map} {s : S} {a : Act} {w w' : World} (hS : RelS N base w0 nt ts ρ s a w) {v : AV} {u : List (Nat × Blk)} {val : Value} (hA : After N base ρ s.h w v u val w' ρ') {d : Option Nat} (hd : ∀ x, d = some x → x < nt) :
    RelS N base w0 nt ts ρ' { s with env := put d v s.env, h := upd s.h u } (a.put d val) w' := by
  refine ⟨hA.rel, relEnv_put (fun s => (hS.env s).keep hA.keeps) hA.val fun x hx => by rw [hS.size]; exact hd x hx, hS.stk.keep hA.keeps, ?_, by rw [act_put_defers]; exact hS.defers, by rw [act_put_size]; exact hS.size, hS.below.trans hA.below,
    fun g hg hn => (hA.kn g (Nat.lt_of_lt_of_le hg hS.below.size) hn).trans (hS.kn g hg hn), fun g hg hz => ?_⟩
  · intro b hb
    have h1 := upd_len u s.h
    exact hA.same b (fun hc => by have := h1.2 b hc; simp only at hb; omega) (hS.dom b (by simp only at hb; omega))
  · obtain ⟨h1, h2⟩ := hS.fz g hg hz
    obtain ⟨h3, h4⟩ := hA.keeps.free g (Nat.lt_of_lt_of_le hg hS.below.size) h1
    exact ⟨h3, h4.trans h2⟩

theorem RelS.skip {ρ : Map} {s : S} {a : Act} {w : World} (hS : RelS N base w0 nt ts ρ s a w) {d : Option Nat} (hd : ∀ x, d = some x → x < nt) :
    RelS N base w0 nt ts ρ { s with env := put d (.tup []) s.env } (a.put d undef) w :=
  ⟨hS.rel, relEnv_put hS.env (RV.tup (c := #[]) .nil) fun x hx => by rw [hS.size]; exact hd x hx, hS.stk, hS.dom, by rw [act_put_defers]; exact hS.defers, by rw [act_put_size]; exact hS.size, hS.below, hS.kn, hS.fz⟩

theorem runW_opR {Γ : Ctr} {o : MO} {s : S} {K : S → Prop} (hr : runW Γ o s K) : ∃ v u, opR Γ s.h s.h.length s.env o.op v u ∧ K { s with env := put o.dst v s.env, h := upd s.h u } := by
  cases ho : o.op with
  | icall f args =>
    simp only [runW, ho, mcallW] at hr
    obtain ⟨h1, r, h2, h3, h4⟩ := hr
    exact ⟨_, _, ⟨h1, r, h2, h3, rfl, rfl⟩, h4⟩
  | pcall f args =>
    simp only [runW, ho, pcallW] at hr
    obtain ⟨h1, r, h2, h3, h4⟩ := hr
    exact ⟨_, _, ⟨h1, r, h2, h3, rfl, rfl⟩, h4⟩
  | dcall f args =>
    simp only [runW, ho] at hr
    split at hr
    · rename_i g caps hg
      obtain ⟨h1, r, h2, h3, h4⟩ := hr
      exact ⟨_, _, ⟨g, caps, hg, h1, r, h2, h3, rfl, rfl⟩, h4⟩
    · exact hr.elim
  | call f args =>
    simp only [runW, ho] at hr
    obtain ⟨as, h1, r, hr', h2, h3, h4⟩ := hr
    exact ⟨_, _, ⟨as, h1, r, hr', h2, h3, rfl, rfl⟩, h4⟩
  | _ =>
    simp only [runW, ho] at hr
    split at hr
    · rename_i v u hev
      exact ⟨v, u, hev, hr⟩
    · exact hr.elim

theorem compO_spec {ops : Array Oper} {o : Oper} {m : MO} (hc : compO P inl nt ops o = some m) : compK P inl ops o.op = some m.op ∧ m.dst = o.dst ∧ (∀ x, o.dst = some x → x < nt) ∧
    ((o.guard = none ∧ m.guard = none) ∨ ∃ j b d, o.guard = some (j, b) ∧ (ops[j]?).bind (·.dst) = some d ∧ m.guard = some (d, b)) := by
  unfold compO at hc
  split at hc
  · rename_i hd
    split at hc
    · rename_i k g hk hg
      cases hc
      refine ⟨hk, rfl, ?_, ?_⟩
      · intro x hx; rw [hx] at hd; simpa using hd
      · split at hg
        · rename_i hgn; cases hg; exact .inl ⟨hgn, rfl⟩
        · rename_i j b hgn
          obtain ⟨d, h1, h2⟩ := Option.map_eq_some_iff.1 hg
          subst h2
          exact .inr ⟨j, b, d, hgn, h1, rfl⟩
    · cases hc
  · cases hc

theorem wanted_of {ρ : Map} {w : World} {F : Nat → Prop} {e : Env} {a : Act} (hE : RelEnv ρ w F e a.tmps) {ops : Array Oper} {o : Oper} {j d : Nat} {b : Bool} (hg : o.guard = some (j, b)) (hd : (ops[j]?).bind (·.dst) = some d) :
    (∀ c, lk d e = .t (.bool c) → Region.wanted o (yielded ops a.tmps) = decide (c = b)) ∧ (lk d e = .tup [] → Region.wanted o (yielded ops a.tmps) = false) := by
  have hr := hE d
  constructor
  · intro c hc
    rw [hc] at hr
    have h1 := hr.bool_inv
    have h2 : a.tmps[d]? = some (.bool c) := by
      rw [Array.getD_eq_getD_getElem?] at h1
      cases hx : a.tmps[d]? with
      | none => rw [hx] at h1; cases h1
      | some y => rw [hx] at h1; simp at h1; rw [h1]
    simp only [Region.wanted, hg, yielded, hd, Option.bind_some, h2]
    cases c <;> cases b <;> rfl
  · intro hc
    rw [hc] at hr
    obtain ⟨c, h1, h2⟩ := hr.tup_val
    have h3 : c = #[] := by cases h2' : c.toList with | nil => simpa using h2' | cons x xs => rw [h2'] at h2; cases h2
    subst h3
    simp only [Region.wanted, hg, yielded, hd, Option.bind_some]
    rw [Array.getD_eq_getD_getElem?] at h1
    cases hx : a.tmps[d]? with
    | none => rfl
    | some y => rw [hx] at h1; simp at h1; subst h1; rfl

theorem regW_sound {Γ : Ctr} (hΓ : Γ = Sound P) {ops : Array Oper} {Qc : Exit → Act → World → Prop} {K : S → Prop}
    (hQ : ∀ s a w ρ, K s → RelS N base w0 nt ts ρ s a w → Qc .normal a w) : ∀ (l : List Oper) (os : List MO), mapO (compO P inl nt ops) l = some os → ∀ (s : S) (a : Act) (w : World) (ρ : Map), regW Γ os s K → RelS N base w0 nt ts ρ s a w → wpList P ops Qc l a w
  | [], os, hm, s, a, w, ρ, hr, hS => by cases hm; exact hQ s a w ρ hr hS
  | o :: l, os, hm, s, a, w, ρ, hr, hS => by
    obtain ⟨m, ms, h1, h2, rfl⟩ := mapO_cons hm
    obtain ⟨hk, hdst, hd, hguard⟩ := compO_spec h1
    simp only [regW] at hr
    have ih := regW_sound hΓ hQ l ms h2
    have run : runW Γ m s (fun s' => regW Γ ms s' K) → o.wp P a w (wpList P ops Qc l) Qc := by
      intro hrun
      obtain ⟨v, u, hop, hK⟩ := runW_opR hrun
      rw [hΓ] at hop
      refine opR_sound hk hS.env hS.rel (nx := s.h.length) (.inr (hS.dom _ (Nat.le_refl _))) (fun b _ hb => hS.dom b hb) hop fun val w' ρ' hA => ?_
      exact ih _ _ _ ρ' hK (by rw [hdst]; exact hS.after hA hd)
    have skip : regW Γ ms { s with env := put m.dst (.tup []) s.env } K → wpList P ops Qc l (a.put o.dst undef) w := fun hK => ih _ _ _ ρ hK (by rw [hdst]; exact hS.skip hd)
    refine wpList_step fun K' hK' => ?_
    have run' : runW Γ m s (fun s' => regW Γ ms s' K) → o.wp P a w K' Qc := fun h => Oper.wp_mono hK' (run h)
    rcases hguard with ⟨hg1, hg2⟩ | ⟨j, b, d, hg1, hg2, hg3⟩
    · simp only [opW, hg2] at hr
      simp only [Region.wanted, hg1, if_true]
      exact run' hr
    · have hw := wanted_of hS.env hg1 hg2
      simp only [opW, hg3] at hr
      split at hr
      · rename_i c hc
        rw [hw.1 c hc]
        split at hr
        · rename_i hcb; simp only [hcb, decide_true, if_true]; exact run' hr
        · rename_i hcb; simp only [hcb, decide_false, Bool.false_eq_true, if_false]; exact hK' _ _ (skip hr)
      · rename_i hc
        rw [hw.2 hc]
        simp only [Bool.false_eq_true, if_false]
        exact hK' _ _ (skip hr)
      · exact hr.elim

end
end Go.AM
