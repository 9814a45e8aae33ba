/-
  THE ABSTRACT MACHINE: walking code. Stretches without calls are run by reckoning.
-/
import Derived.Test.YtlnnmndebmkdhaaAMFun
namespace Go.AM

def runS (o : MO) (s : S) : Option S := match evalOp s.h s.h.length s.env o.op with
  | some (v, u) => some { s with env := put o.dst v s.env, h := upd s.h u }
  | none => none

def run1 (o : MO) (s : S) : Option S := match o.guard with
  | none => runS o s
  | some (g, want) => match lk g s.env with
    | .t (.bool b) => if b = want then runS o s else some { s with env := put o.dst (.tup []) s.env }
    | .tup [] => some { s with env := put o.dst (.tup []) s.env }
    | _ => none

def run : List MO → S → Option S
  | [], s => some s
  | o :: os, s => match run1 o s with
    | some s' => run os s'
    | none => none

section
variable {Γ : Ctr} {call : CallW}

theorem runS_runW {o : MO} {s s' : S} (h : runS o s = some s') {K : S → Prop} (hK : K s') : runW Γ call o s K := by
  unfold runS at h
  unfold runW
  split at h
  · rename_i v u heq
    cases h
    split
    · rename_i hop; rw [hop] at heq; cases heq
    · rename_i hop; rw [hop] at heq; cases heq
    · rename_i hop; rw [hop] at heq; cases heq
    · rw [heq]; exact hK
  · cases h

theorem run1_opW {o : MO} {s s' : S} (h : run1 o s = some s') {K : S → Prop} (hK : K s') : opW Γ call o s K := by
  unfold run1 at h
  unfold opW
  split at h
  · rename_i hg; rw [hg]; exact runS_runW h hK
  · rename_i g want hg
    rw [hg]
    simp only
    split at h
    · rename_i b hb
      rw [hb]
      simp only
      split at h
      · rename_i hc; rw [if_pos hc]; exact runS_runW h hK
      · rename_i hc; rw [if_neg hc]; cases h; exact hK
    · rename_i hb; rw [hb]; cases h; exact hK
    · cases h

theorem run_regW {ops rest : List MO} {s s' : S} (h : run ops s = some s') {K : S → Prop} (hK : regW Γ call rest s' K) : regW Γ call (ops ++ rest) s K := by
  induction ops generalizing s with
  | nil => cases h; exact hK
  | cons o os ih =>
    unfold run at h
    split at h
    · rename_i s1 h1; exact run1_opW h1 (ih h)
    · cases h

/-- a region without calls -/
theorem Wc_reg {ops : List MO} {keep : List Nat} {s s' : S} {Q : X → S → Prop} (h : run ops s = some s') (hQ : Q .n { s' with env := rst keep s'.env }) : Wc Γ call (.reg ops keep) Q s := by
  have := run_regW (Γ := Γ) (call := call) (rest := []) (K := fun s' => Q .n { s' with env := rst keep s'.env }) h hQ
  rw [List.append_nil] at this
  exact this

/-- a region: its first stretch without calls -/
theorem Wc_regs (n : Nat) {ops : List MO} {keep : List Nat} {s s' : S} {Q : X → S → Prop} (h : run (ops.take n) s = some s') (hQ : Wc Γ call (.reg (ops.drop n) keep) Q s') : Wc Γ call (.reg ops keep) Q s := by
  have := run_regW (Γ := Γ) (call := call) (rest := ops.drop n) (K := fun s' => Q .n { s' with env := rst keep s'.env }) h hQ
  rw [List.take_append_drop] at this
  exact this

/-- a region that begins with a call -/
theorem Wc_call {d : Option Nat} {f : Nat} {args : List Opd} {ops : List MO} {keep : List Nat} {s : S} {Q : X → S → Prop} {as : List AV} {r : AV} {hr : List Blk} (hf : frzs s.h (args.map (ev s.env)) = some as) (hΓ : Γ f as r hr)
    (hn : (noOwn (args.map (ev s.env)) || frR r hr) = true) (hQ : Wc Γ call (.reg ops keep) Q { s with env := put d (shift s.h.length r) s.env, h := upd s.h (newU s.h.length hr 0) }) :
    Wc Γ call (.reg (⟨d, none, .call f args⟩ :: ops) keep) Q s :=
  ⟨as, hf, r, hr, hΓ, hn, hQ⟩

theorem Wc_nil {keep : List Nat} {s : S} {Q : X → S → Prop} (hQ : Q .n { s with env := rst keep s.env }) : Wc Γ call (.reg [] keep) Q s := hQ

/-- what comes behind -/
def seqK (Γ : Ctr) (call : CallW) (b : MCode) (Q : X → S → Prop) : X → S → Prop
  | .n, s' => Wc Γ call b Q s'
  | .x i, s' => Q (.x i) s'
  | .r, s' => Q .r s'

theorem Wc_seq {a b : MCode} {Q : X → S → Prop} {s : S} (h : Wc Γ call a (seqK Γ call b Q) s) : Wc Γ call (.seq a b) Q s := by
  have e : seqK Γ call b Q = (fun x s' => match x with | .n => Wc Γ call b Q s' | x => Q x s') := by
    funext x s'; cases x <;> rfl
  rw [e] at h
  exact h

/-- a region run and cut down -/
def runK (ops : List MO) (keep : List Nat) (s : S) : Option S := match run ops s with
  | some s' => some { s' with env := rst keep s'.env }
  | none => none

theorem runK_spec {ops : List MO} {keep : List Nat} {s s' : S} (h : runK ops keep s = some s') : ∃ s1, run ops s = some s1 ∧ s' = { s1 with env := rst keep s1.env } := by
  unfold runK at h
  split at h
  · rename_i s1 h1; cases h; exact ⟨s1, h1, rfl⟩
  · cases h

theorem Wc_regK {ops : List MO} {keep : List Nat} {s s' : S} {Q : X → S → Prop} (h : runK ops keep s = some s') (hQ : Q .n s') : Wc Γ call (.reg ops keep) Q s := by
  obtain ⟨s1, h1, rfl⟩ := runK_spec h
  exact Wc_reg h1 hQ

/-- a region, then more -/
theorem Wc_step {ops : List MO} {keep : List Nat} {b : MCode} {s s' : S} {Q : X → S → Prop} (h : runK ops keep s = some s') (hQ : Wc Γ call b Q s') : Wc Γ call (.seq (.reg ops keep) b) Q s :=
  Wc_seq (Wc_regK h hQ)

/-- a region's first stretch, then more -/
theorem Wc_steps (n : Nat) {ops : List MO} {keep : List Nat} {b : MCode} {s s' : S} {Q : X → S → Prop} (h : run (ops.take n) s = some s') (hQ : Wc Γ call (.seq (.reg (ops.drop n) keep) b) Q s') : Wc Γ call (.seq (.reg ops keep) b) Q s :=
  Wc_seq (Wc_regs n h (by
    have e : seqK Γ call b Q = (fun x s' => match x with | .n => Wc Γ call b Q s' | x => Q x s') := by
      funext x s'; cases x <;> rfl
    rw [e]
    exact hQ))

theorem Wc_scall {d : Option Nat} {f : Nat} {args : List Opd} {ops : List MO} {keep : List Nat} {b : MCode} {s s' : S} {Q : X → S → Prop} {as : List AV} {r : AV} {hr : List Blk} (hf : frzs s.h (args.map (ev s.env)) = some as) (hΓ : Γ f as r hr)
    (hn : (noOwn (args.map (ev s.env)) || frR r hr) = true) (hs : { s with env := put d (shift s.h.length r) s.env, h := upd s.h (newU s.h.length hr 0) } = s') (hQ : Wc Γ call (.seq (.reg ops keep) b) Q s') :
    Wc Γ call (.seq (.reg (⟨d, none, .call f args⟩ :: ops) keep) b) Q s := by
  subst hs
  refine Wc_seq (Wc_call hf hΓ hn ?_)
  have e : seqK Γ call b Q = (fun x s' => match x with | .n => Wc Γ call b Q s' | x => Q x s') := by
    funext x s'; cases x <;> rfl
  rw [e]
  exact hQ

/-- sequences lean to the right -/
theorem Wc_assoc {a b c : MCode} {Q : X → S → Prop} {s : S} (h : Wc Γ call (.seq a (.seq b c)) Q s) : Wc Γ call (.seq (.seq a b) c) Q s := by
  refine Wc_seq (Wc_seq ?_)
  have h1 : Wc Γ call a (fun x s' => match x with | .n => Wc Γ call (.seq b c) Q s' | x => Q x s') s := h
  have e : seqK Γ call b (seqK Γ call c Q) = (fun x s' => match x with | .n => Wc Γ call (.seq b c) Q s' | x => Q x s') := by
    funext x s'
    cases x
    · show Wc Γ call b (seqK Γ call c Q) s' = Wc Γ call b (fun x s' => match x with | .n => Wc Γ call c Q s' | x => Q x s') s'
      congr 1
      funext x s'; cases x <;> rfl
    · rfl
    · rfl
  rw [e]
  exact h1

theorem Wc_sskip {b : MCode} {Q : X → S → Prop} {s : S} (h : Wc Γ call b Q s) : Wc Γ call (.seq .skip b) Q s := h
theorem Wc_sret {b : MCode} {Q : X → S → Prop} {s : S} (h : Wc Γ call .ret Q s) : Wc Γ call (.seq .ret b) Q s := h

/-- a choice, then more -/
theorem Wc_scond {c : Opd} {x y b : MCode} {Q : X → S → Prop} {s : S} {v : Bool} (hc : ev s.env c = .t (.bool v)) (ht : v = true → Wc Γ call (.seq x b) Q s) (hf : v = false → Wc Γ call (.seq y b) Q s) : Wc Γ call (.seq (.cond c x y) b) Q s := by
  have e : Wc Γ call (.seq (.cond c x y) b) Q s = (match ev s.env c with
    | .t (.bool v) => if v = true then Wc Γ call (.seq x b) Q s else Wc Γ call (.seq y b) Q s
    | _ => False) := rfl
  rw [e, hc]
  cases v
  · exact hf rfl
  · exact ht rfl

theorem Wc_cond {c : Opd} {x y : MCode} {Q : X → S → Prop} {s : S} {b : Bool} (hc : ev s.env c = .t (.bool b)) (ht : b = true → Wc Γ call x Q s) (hf : b = false → Wc Γ call y Q s) : Wc Γ call (.cond c x y) Q s := by
  unfold Wc
  rw [hc]
  cases b
  · exact hf rfl
  · exact ht rfl

theorem Wc_reti' {rs : List Res} {K : AV → S → Prop} {s : S} {v : AV} (hv : resAV rs s = some v) (hK : K v s) : Wc Γ call .ret (bodyQ rs K) s := by
  show bodyQ rs _ .r s
  unfold bodyQ
  simp only [hv]
  exact hK

/-- the function's end -/
theorem Wc_ret {rs : List Res} {s : S} {v : AV} {r r' : AV} {hr hr' : List Blk} (hv : resAV rs s = some v) (hc : canonR v s.h = (r', hr')) (he : r' = r) (hh : hr' = hr) :
    Wc Γ call .ret (bodyQ rs fun v s => canonR v s.h = (r, hr)) s := by
  subst he hh
  show bodyQ rs _ .r s
  unfold bodyQ
  simp only [hv]
  exact hc

theorem canonR_t (x : T) (h : List Blk) : canonR (.t x) h = (.t x, []) := rfl

theorem Wc_ret_t {rs : List Res} {s : S} {x x' : T} (hv : resAV rs s = some (.t x')) (he : x' = x) : Wc Γ call .ret (bodyQ rs fun v s => canonR v s.h = (.t x, [])) s := by
  subst he
  exact Wc_reti' hv rfl

theorem Wc_exit {id : Nat} {Q : X → S → Prop} {s : S} (h : Q (.x id) s) : Wc Γ call (.exit id) Q s := h
theorem Wc_skip {Q : X → S → Prop} {s : S} (h : Q .n s) : Wc Γ call .skip Q s := h

theorem Wc_reti {rs : List Res} {K : AV → S → Prop} {s : S} {v : AV} (hv : resAV rs s = some v) (hK : K v s) : Wc Γ call .ret (bodyQ rs K) s := by
  show bodyQ rs _ .r s
  unfold bodyQ
  simp only [hv]
  exact hK

end
end Go.AM
