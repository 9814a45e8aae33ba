/-
  THE ABSTRACT MACHINE: walking loops, blocks and regions whose order is drawn.
-/
import Derived.Test.YtlnnmndebmkdhaaAMRun
namespace Go.AM

/-- one operation of a drawn region, without calls -/
def drunS (o : MO) (s : S) : Option (Foot × S) := match evalOp s.h s.h.length s.env o.op with
  | some (v, u) => some (footOf o s (u.map Prod.fst), { s with env := put o.dst v s.env, h := upd s.h u })
  | none => none

def drun1 (o : MO) (s : S) : Option (Foot × S) := match o.guard with
  | none => drunS o s
  | some (g, want) => match lk g s.env with
    | .t (.bool b) => if b = want then drunS o s else some (footOf o s [], { s with env := put o.dst (.tup []) s.env })
    | .tup [] => some (footOf o s [], { s with env := put o.dst (.tup []) s.env })
    | _ => none

def drun : List MO → S → List Foot → Option (S × List Foot)
  | [], s, feet => some (s, feet)
  | o :: os, s, feet => match drun1 o s with
    | some (f, s') => drun os s' (feet ++ [f])
    | none => none

/-- the rest of a drawn region -/
def DW (Γ : Ctr) (ops : List MO) (s : S) (feet : List Foot) (before : List (List Nat)) (keep : List Nat) (Q : X → S → Prop) : Prop :=
  drwW Γ ops s feet fun feet s' => ordOK before feet = true ∧ Q .n { s' with env := rst keep s'.env }

section
variable {Γ : Ctr} {call : CallW}

theorem drunS_drwOp {o : MO} {s s' : S} {f : Foot} (h : drunS o s = some (f, s')) {K : Foot → S → Prop} (hK : K f s') : drwOp Γ o s K := by
  unfold drunS at h
  unfold drwOp
  split at h
  · rename_i v u heq
    cases h
    split
    · rename_i hop; rw [hop] at heq; cases heq
    · rename_i hop; rw [hop] at heq; cases heq
    · rename_i hop; rw [hop] at heq; cases heq
    · rw [heq]; exact hK
  · cases h

theorem drun1_drwG {o : MO} {s s' : S} {f : Foot} (h : drun1 o s = some (f, s')) {K : Foot → S → Prop} (hK : K f s') : drwG Γ o s K := by
  unfold drun1 at h
  unfold drwG
  split at h
  · rename_i hg; rw [hg]; exact drunS_drwOp h hK
  · rename_i g want hg
    rw [hg]
    simp only
    split at h
    · rename_i b hb
      rw [hb]
      simp only
      split at h
      · rename_i hc; rw [if_pos hc]; exact drunS_drwOp h hK
      · rename_i hc; rw [if_neg hc]; cases h; exact hK
    · rename_i hb; rw [hb]; cases h; exact hK
    · cases h

theorem drun_drwW {ops rest : List MO} {s s' : S} {feet feet' : List Foot} (h : drun ops s feet = some (s', feet')) {K : List Foot → S → Prop} (hK : drwW Γ rest s' feet' K) : drwW Γ (ops ++ rest) s feet K := by
  induction ops generalizing s feet with
  | nil => cases h; exact hK
  | cons o os ih =>
    unfold drun at h
    split at h
    · rename_i f s1 h1; exact drun1_drwG h1 (ih h)
    · cases h

theorem DW_run (n : Nat) {ops : List MO} {s s' : S} {feet feet' : List Foot} {before : List (List Nat)} {keep : List Nat} {Q : X → S → Prop} (h : drun (ops.take n) s feet = some (s', feet')) (hQ : DW Γ (ops.drop n) s' feet' before keep Q) :
    DW Γ ops s feet before keep Q := by
  have := drun_drwW (Γ := Γ) (rest := ops.drop n) h hQ
  rw [List.take_append_drop] at this
  exact this

theorem DW_call {d : Option Nat} {f : Nat} {args : List Opd} {ops : List MO} {s s' : S} {feet feet' : List Foot} {before : List (List Nat)} {keep : List Nat} {Q : X → S → Prop} {as : List AV} {r : AV} {hr : List Blk}
    (hf : frzs s.h (args.map (ev s.env)) = some as) (hΓ : Γ f as r hr) (hn : (noOwn (args.map (ev s.env)) || frR r hr) = true)
    (hs : { s with env := put d (shift s.h.length r) s.env, h := upd s.h (newU s.h.length hr 0) } = s') (hfe : feet ++ [footOf ⟨d, none, .call f args⟩ s ((newU s.h.length hr 0).map Prod.fst)] = feet')
    (hQ : DW Γ ops s' feet' before keep Q) : DW Γ (⟨d, none, .call f args⟩ :: ops) s feet before keep Q := by
  subst hs hfe
  exact ⟨as, hf, r, hr, hΓ, hn, hQ⟩

theorem DW_nil {s s' : S} {feet : List Foot} {before : List (List Nat)} {keep : List Nat} {Q : X → S → Prop} (ho : ordOK before feet = true) (hs : { s with env := rst keep s.env } = s') (hQ : Q .n s') : DW Γ [] s feet before keep Q := by
  subst hs
  exact ⟨ho, hQ⟩

theorem Wc_drw {ops : List MO} {before : List (List Nat)} {keep : List Nat} {s : S} {Q : X → S → Prop} (h : DW Γ ops s [] before keep Q) : Wc Γ call (.drw ops before keep) Q s := h

theorem Wc_sdrw {ops : List MO} {before : List (List Nat)} {keep : List Nat} {s : S} {Q : X → S → Prop} {b : MCode} (h : DW Γ ops s [] before keep (seqK Γ call b Q)) : Wc Γ call (.seq (.drw ops before keep) b) Q s := Wc_seq (Wc_drw h)

theorem DW_end {s s' : S} {feet : List Foot} {before : List (List Nat)} {keep : List Nat} {Q : X → S → Prop} {b : MCode} (ho : ordOK before feet = true) (hs : { s with env := rst keep s.env } = s') (hQ : Wc Γ call b Q s') :
    DW Γ [] s feet before keep (seqK Γ call b Q) := DW_nil ho hs hQ

/-! ### blocks and loops -/

/-- what a block makes of an end -/
def blkK (id : Nat) (Q : X → S → Prop) : X → S → Prop
  | .n, s' => Q .n s'
  | .x i, s' => if i = id then Q .n s' else Q (.x i) s'
  | .r, s' => Q .r s'

theorem Wc_block {id : Nat} {b : MCode} {Q : X → S → Prop} {s : S} (h : Wc Γ call b (blkK id Q) s) : Wc Γ call (.block id b) Q s := by
  have e : blkK id Q = (fun x s' => match x with | .x i => (if i = id then Q .n s' else Q (.x i) s') | x => Q x s') := by
    funext x s'; cases x <;> rfl
  rw [e] at h
  exact h

/-- what a loop's body may end with, at a head of the family -/
def loopK {α : Type} (keep : List Nat) (F : α → S) (J : α → Prop) (μ : α → Nat) (a : α) (Q : X → S → Prop) : X → S → Prop
  | .n, s' => ∃ a', canon keep s' = F a' ∧ J a' ∧ μ a' < μ a
  | .x i, s' => Q (.x i) s'
  | .r, s' => Q .r s'

theorem exists_least {p : Nat → Prop} (h : ∃ n, p n) : ∃ n, p n ∧ ∀ m, p m → n ≤ m := by
  obtain ⟨n, hn⟩ := h
  induction n using Nat.strongRecOn with
  | ind n ih =>
    by_cases hx : ∃ m, m < n ∧ p m
    · obtain ⟨m, h1, h2⟩ := hx
      exact ih m h1 h2
    · refine ⟨n, hn, fun m hm => ?_⟩
      by_cases hl : m < n
      · exact absurd ⟨m, hl, hm⟩ hx
      · omega

open Classical in
/-- A LOOP whose heads are a family -/
theorem Wc_loop {α : Type} {keep : List Nat} {b : MCode} {Q : X → S → Prop} {s : S} (F : α → S) (J : α → Prop) (μ : α → Nat) (a0 : α) (h0 : canon keep s = F a0) (hJ : J a0)
    (hb : ∀ a, J a → ∀ R : X → S → Prop, (∀ x s', loopK keep F J μ a Q x s' → R x s') → Wc Γ call b R (F a)) : Wc Γ call (.loop keep b) Q s := by
  let p : S → Nat → Prop := fun s n => ∃ a, s = F a ∧ J a ∧ μ a = n
  let m : S → Nat := fun s => if h : ∃ n, p s n then (exists_least h).choose else 0
  have hm : ∀ s, (∃ n, p s n) → p s (m s) ∧ ∀ n, p s n → m s ≤ n := by
    intro s h
    have e : m s = (exists_least h).choose := dif_pos h
    rw [e]
    exact (exists_least h).choose_spec
  refine ⟨fun s => ∃ n, p s n, m, ⟨μ a0, a0, h0, hJ, rfl⟩, ?_⟩
  intro s hs
  obtain ⟨a, ha, hJa, hμ⟩ := (hm s hs).1
  have h1 := hb a hJa
  rw [← ha] at h1
  refine h1 _ ?_
  intro x s' h
  cases x with
  | n =>
    obtain ⟨a', h2, h3, h4⟩ := h
    refine ⟨⟨μ a', a', h2, h3, rfl⟩, ?_⟩
    have := (hm (canon keep s') ⟨μ a', a', h2, h3, rfl⟩).2 (μ a') ⟨a', h2, h3, rfl⟩
    omega
  | x i => exact h
  | r => exact h

theorem Wc_sexit {id : Nat} {b : MCode} {Q : X → S → Prop} {s : S} (h : Q (.x id) s) : Wc Γ call (.seq (.exit id) b) Q s := h

theorem Wc_sblock {id : Nat} {b c : MCode} {Q : X → S → Prop} {s : S} (h : Wc Γ call b (blkK id (seqK Γ call c Q)) s) : Wc Γ call (.seq (.block id b) c) Q s := Wc_seq (Wc_block h)

theorem blkK_n {id : Nat} {Q : X → S → Prop} {s : S} (h : Q .n s) : blkK id Q .n s := h
theorem blkK_x {id : Nat} {Q : X → S → Prop} {s : S} (h : Q .n s) : blkK id Q (.x id) s := by simp only [blkK, if_true]; exact h
theorem blkK_r {id : Nat} {Q : X → S → Prop} {s : S} (h : Q .r s) : blkK id Q .r s := h
theorem seqK_n {b : MCode} {Q : X → S → Prop} {s : S} (h : Wc Γ call b Q s) : seqK Γ call b Q .n s := h

theorem loopK_x {α : Type} {keep : List Nat} {F : α → S} {J : α → Prop} {μ : α → Nat} {a : α} {Q : X → S → Prop} {i : Nat} {s : S} (h : Q (.x i) s) : loopK keep F J μ a Q (.x i) s := h
theorem loopK_r {α : Type} {keep : List Nat} {F : α → S} {J : α → Prop} {μ : α → Nat} {a : α} {Q : X → S → Prop} {s : S} (h : Q .r s) : loopK keep F J μ a Q .r s := h
theorem loopK_n {α : Type} {keep : List Nat} {F : α → S} {J : α → Prop} {μ : α → Nat} {a : α} {Q : X → S → Prop} {s : S} (a' : α) (h : canon keep s = F a') (hJ : J a') (hμ : μ a' < μ a) : loopK keep F J μ a Q .n s := ⟨a', h, hJ, hμ⟩

end
end Go.AM
