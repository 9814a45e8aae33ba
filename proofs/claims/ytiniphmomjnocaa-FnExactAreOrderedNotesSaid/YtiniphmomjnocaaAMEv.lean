/-
  THE ABSTRACT MACHINE AS A FUNCTION: steps, the limit 'Lim', contracts as equations.
-/
import Derived.Test.YtiniphmomjnocaaAMFun
namespace Go.AM

inductive Fr where
  | seq (b : MCode)
  | blk (id : Nat)
  | loop (keep : List Nat) (b : MCode)
  | fin (k : Nat) (rs : List Res)

inductive Cf where
  | code (c : MCode)
  | ops (os : List MO) (keep : List Nat)
  | drw (os : List MO) (feet : List Foot) (before : List (List Nat)) (keep : List Nat)
  | out (x : X)

abbrev CallE := Nat → List AV → List Blk → Option (AV × List Blk)

/-- a call by contract: what it leaves -/
def callB (args : List AV) (nx : Nat) : Option (AV × List Blk) → Option (AV × List (Nat × Blk))
  | some (r, hr) => if (noOwn args || frR r hr) = true then some (shift nx r, newU nx hr 0) else none
  | none => none

def callA (C : CallE) (f : Nat) (args : List AV) (nx : Nat) : Option (List AV) → Option (AV × List (Nat × Blk))
  | some as => callB args nx (C f as [])
  | none => none

/-- a call that hands over roots -/
def mcallB (ids : List Nat) (nx : Nat) : Option (AV × List Blk) → Option (AV × List (Nat × Blk))
  | some (r, h1) => some (ren (bk ids nx) r, backU ids nx h1 0)
  | none => none

def mcallI (C : CallE) (f : Nat) (vs : List AV) (h : List Blk) (nx : Nat) (ids : List Nat) : Option (AV × List (Nat × Blk)) :=
  if closedB h ids (refss vs) = true then mcallB ids nx (C f (subA ids vs) (subH h ids)) else none

open Classical in
/-- a call that hands over roots and leaves them as they are -/
noncomputable def pcallB (ids : List Nat) (h0 : List Blk) (nx : Nat) : Option (AV × List Blk) → Option (AV × List (Nat × Blk))
  | some (r, h1) => if h1.take ids.length = h0 then some (ren (bk ids nx) r, backU ids nx (h1.drop ids.length) ids.length) else none
  | none => none

noncomputable def pcallI (C : CallE) (f : Nat) (vs : List AV) (h : List Blk) (nx : Nat) (ids : List Nat) : Option (AV × List (Nat × Blk)) :=
  if closedB h ids (refss vs) = true then pcallB ids (subH h ids) nx (C f (subA ids vs) (subH h ids)) else none

/-- a call of a function value -/
def dcallE (C : CallE) (args : List AV) (h : List Blk) (nx : Nat) : AV → Option (AV × List (Nat × Blk))
  | .fn g caps => mcallI C g (args ++ caps) h nx (subIds h (args ++ caps))
  | _ => none

/-- any operation: its value and the blocks that it sets -/
noncomputable def runV (C : CallE) (k : MOp) (s : S) : Option (AV × List (Nat × Blk)) := match k with
  | .call f args => callA C f (args.map (ev s.env)) s.h.length (frzs s.h (args.map (ev s.env)))
  | .icall f args => mcallI C f (args.map (ev s.env)) s.h s.h.length (subIds s.h (args.map (ev s.env)))
  | .pcall f args => pcallI C f (args.map (ev s.env)) s.h s.h.length (subIds s.h (args.map (ev s.env)))
  | .dcall f args => dcallE C (args.map (ev s.env)) s.h s.h.length (ev s.env f)
  | k => evalOp s.h s.h.length s.env k

def runD (o : MO) (s : S) : Option (AV × List (Nat × Blk)) → Option S
  | some (v, u) => some { s with env := put o.dst v s.env, h := upd s.h u }
  | none => none

noncomputable def runE (C : CallE) (o : MO) (s : S) : Option S := runD o s (runV C o.op s)

def skipE (o : MO) (s : S) : S := { s with env := put o.dst (.tup []) s.env }

noncomputable def guardE (C : CallE) (o : MO) (s : S) (want : Bool) : AV → Option S
  | .t (.bool b) => if b = want then runE C o s else some (skipE o s)
  | .tup [] => some (skipE o s)
  | _ => none

noncomputable def opE (C : CallE) (o : MO) (s : S) : Option S := match o.guard with
  | none => runE C o s
  | some (g, want) => guardE C o s want (lk g s.env)

def runFD (o : MO) (s : S) : Option (AV × List (Nat × Blk)) → Option (Foot × S)
  | some (v, u) => some (footOf o s (u.map Prod.fst), { s with env := put o.dst v s.env, h := upd s.h u })
  | none => none

noncomputable def runF (C : CallE) (o : MO) (s : S) : Option (Foot × S) := runFD o s (runV C o.op s)

noncomputable def guardF (C : CallE) (o : MO) (s : S) (want : Bool) : AV → Option (Foot × S)
  | .t (.bool b) => if b = want then runF C o s else some (footOf o s [], skipE o s)
  | .tup [] => some (footOf o s [], skipE o s)
  | _ => none

noncomputable def opF (C : CallE) (o : MO) (s : S) : Option (Foot × S) := match o.guard with
  | none => runF C o s
  | some (g, want) => guardF C o s want (lk g s.env)

/-- a function's end -/
def finE (k : Nat) (rs : List Res) (s : S) : Option (AV × List Blk) := match resAV rs s with
  | some v => canonR k v s
  | none => none

abbrev Step := Sum (List Fr × Cf × S) (Option (AV × List Blk))

def stepO (ks : List Fr) (os : List MO) (keep : List Nat) : Option S → Step
  | some s => .inl (ks, .ops os keep, s)
  | none => .inr none

def stepD (ks : List Fr) (os : List MO) (feet : List Foot) (before : List (List Nat)) (keep : List Nat) : Option (Foot × S) → Step
  | some (f, s) => .inl (ks, .drw os (feet ++ [f]) before keep, s)
  | none => .inr none

def stepC (ks : List Fr) (x y : MCode) (s : S) : AV → Step
  | .t (.bool b) => if b = true then .inl (ks, .code x, s) else .inl (ks, .code y, s)
  | _ => .inr none

noncomputable def step (C : CallE) : List Fr → Cf → S → Step
  | ks, .code .skip, s => .inl (ks, .out .n, s)
  | ks, .code (.reg ops keep), s => .inl (ks, .ops ops keep, s)
  | ks, .code (.drw ops b keep), s => .inl (ks, .drw ops [] b keep, s)
  | ks, .code (.seq a b), s => .inl (.seq b :: ks, .code a, s)
  | ks, .code (.cond c x y), s => stepC ks x y s (ev s.env c)
  | ks, .code (.block id b), s => .inl (.blk id :: ks, .code b, s)
  | ks, .code (.loop keep b), s => .inl (.loop keep b :: ks, .code b, canon keep s)
  | ks, .code (.exit id), s => .inl (ks, .out (.x id), s)
  | ks, .code .ret, s => .inl (ks, .out .r, s)
  | ks, .ops [] keep, s => .inl (ks, .out .n, { s with env := rst keep s.env })
  | ks, .ops (o :: os) keep, s => stepO ks os keep (opE C o s)
  | ks, .drw [] feet before keep, s => if ordOK before feet = true then .inl (ks, .out .n, { s with env := rst keep s.env }) else .inr none
  | ks, .drw (o :: os) feet before keep, s => stepD ks os feet before keep (opF C o s)
  | [], .out _, _ => .inr none
  | .fin _ _ :: _, .out (.x _), _ => .inr none
  | .fin k rs :: _, .out .n, s => .inr (finE k rs s)
  | .fin k rs :: _, .out .r, s => .inr (finE k rs s)
  | .seq b :: ks, .out .n, s => .inl (ks, .code b, s)
  | .seq _ :: ks, .out x, s => .inl (ks, .out x, s)
  | .blk id :: ks, .out (.x i), s => if i = id then .inl (ks, .out .n, s) else .inl (ks, .out (.x i), s)
  | .blk _ :: ks, .out x, s => .inl (ks, .out x, s)
  | .loop keep b :: ks, .out .n, s => .inl (ks, .code (.loop keep b), s)
  | .loop _ _ :: ks, .out x, s => .inl (ks, .out x, s)

noncomputable def runN (C : CallE) : Nat → List Fr → Cf → S → Option (AV × List Blk)
  | 0, _, _, _ => none
  | n + 1, ks, cf, s => match step C ks cf s with
    | .inl (ks', cf', s') => runN C n ks' cf' s'
    | .inr r => r

theorem runN_mono {C : CallE} : ∀ (n : Nat) {m : Nat} {ks : List Fr} {cf : Cf} {s : S} {r : AV × List Blk}, runN C n ks cf s = some r → n ≤ m → runN C m ks cf s = some r
  | 0, _, _, _, _, _, h, _ => by cases h
  | n + 1, 0, _, _, _, _, _, hm => by omega
  | n + 1, m + 1, ks, cf, s, r, h, hm => by
    simp only [runN] at h ⊢
    split at h
    · rename_i h1; exact runN_mono n h (by omega)
    · rename_i h1; exact h

theorem runN_det {C : CallE} {n m : Nat} {ks : List Fr} {cf : Cf} {s : S} {r r' : AV × List Blk} (h : runN C n ks cf s = some r) (h' : runN C m ks cf s = some r') : r = r' := by
  rcases Nat.le_total n m with hl | hl
  · have := runN_mono n h hl; rw [h'] at this; cases this; rfl
  · have := runN_mono m h' hl; rw [h] at this; cases this; rfl

open Classical in
noncomputable def limP (p : AV × List Blk → Prop) : Option (AV × List Blk) := if h : ∃ r, p r then some h.choose else none

/-- the limit of a family of answers -/
noncomputable def lim (p : Nat → Option (AV × List Blk)) : Option (AV × List Blk) := limP fun r => ∃ n, p n = some r

theorem lim_some {p : Nat → Option (AV × List Blk)} {r : AV × List Blk} (h : lim p = some r) : ∃ n, p n = some r := by
  unfold lim limP at h
  split at h
  · rename_i hx; cases h; exact hx.choose_spec
  · cases h

theorem lim_eq {p : Nat → Option (AV × List Blk)} (det : ∀ n m r r', p n = some r → p m = some r' → r = r') {n : Nat} {r : AV × List Blk} (h : p n = some r) : lim p = some r := by
  have hx : ∃ r, ∃ n, p n = some r := ⟨r, n, h⟩
  unfold lim limP
  rw [dif_pos hx]
  obtain ⟨m, hm⟩ := hx.choose_spec
  rw [det _ _ _ _ hm h]

theorem lim_congr {p q : Nat → Option (AV × List Blk)} (h : ∀ r, (∃ n, p n = some r) ↔ ∃ n, q n = some r) : lim p = lim q := by
  have : (fun r => ∃ n, p n = some r) = fun r => ∃ n, q n = some r := funext fun r => propext (h r)
  unfold lim
  rw [this]

noncomputable def Lim (C : CallE) (ks : List Fr) (cf : Cf) (s : S) : Option (AV × List Blk) := lim fun n => runN C n ks cf s

theorem Lim_some {C : CallE} {ks : List Fr} {cf : Cf} {s : S} {r : AV × List Blk} (h : Lim C ks cf s = some r) : ∃ n, runN C n ks cf s = some r := lim_some h

theorem Lim_step {C : CallE} {ks ks' : List Fr} {cf cf' : Cf} {s s' : S} (h : step C ks cf s = .inl (ks', cf', s')) : Lim C ks cf s = Lim C ks' cf' s' := by
  refine lim_congr fun r => ⟨?_, ?_⟩
  · rintro ⟨n, hn⟩
    cases n with
    | zero => cases hn
    | succ n => simp only [runN, h] at hn; exact ⟨n, hn⟩
  · rintro ⟨n, hn⟩
    exact ⟨n + 1, by simp only [runN, h]; exact hn⟩

theorem Lim_stop {C : CallE} {ks : List Fr} {cf : Cf} {s : S} {r : Option (AV × List Blk)} (h : step C ks cf s = .inr r) : Lim C ks cf s = r := by
  cases r with
  | some r => exact lim_eq (fun n m r r' h h' => runN_det h h') (n := 1) (by simp only [runN, h])
  | none =>
    cases hl : Lim C ks cf s with
    | none => rfl
    | some r =>
      obtain ⟨n, hn⟩ := Lim_some hl
      cases n with
      | zero => cases hn
      | succ n => simp only [runN, h] at hn; cases hn

/-! ### the equations -/

noncomputable def Ev (C : CallE) (ks : List Fr) (c : MCode) (s : S) : Option (AV × List Blk) := Lim C ks (.code c) s
noncomputable def EvX (C : CallE) (ks : List Fr) (x : X) (s : S) : Option (AV × List Blk) := Lim C ks (.out x) s
noncomputable def EvO (C : CallE) (ks : List Fr) (os : List MO) (keep : List Nat) (s : S) : Option (AV × List Blk) := Lim C ks (.ops os keep) s
noncomputable def EvD (C : CallE) (ks : List Fr) (os : List MO) (feet : List Foot) (before : List (List Nat)) (keep : List Nat) (s : S) : Option (AV × List Blk) := Lim C ks (.drw os feet before keep) s

noncomputable def EvL (C : CallE) (ks : List Fr) (keep : List Nat) (b : MCode) (s : S) : Option (AV × List Blk) := Ev C (.loop keep b :: ks) b s

noncomputable def EvS (C : CallE) (ks : List Fr) (os : List MO) (keep : List Nat) : Option S → Option (AV × List Blk)
  | some s => EvO C ks os keep s
  | none => none
noncomputable def EvF (C : CallE) (ks : List Fr) (os : List MO) (feet : List Foot) (before : List (List Nat)) (keep : List Nat) : Option (Foot × S) → Option (AV × List Blk)
  | some (f, s) => EvD C ks os (feet ++ [f]) before keep s
  | none => none
noncomputable def EvC (C : CallE) (ks : List Fr) (x y : MCode) (s : S) : AV → Option (AV × List Blk)
  | .t (.bool b) => if b = true then Ev C ks x s else Ev C ks y s
  | _ => none

section
variable {C : CallE} {ks : List Fr} {s : S} {a b x y : MCode} {os : List MO} {o : MO} {keep : List Nat} {id i : Nat} {feet : List Foot} {before : List (List Nat)}

theorem Ev_skip : Ev C ks .skip s = EvX C ks .n s := Lim_step rfl
theorem Ev_reg : Ev C ks (.reg os keep) s = EvO C ks os keep s := Lim_step rfl
theorem Ev_drw : Ev C ks (.drw os before keep) s = EvD C ks os [] before keep s := Lim_step rfl
theorem Ev_seq : Ev C ks (.seq a b) s = Ev C (.seq b :: ks) a s := Lim_step rfl
theorem Ev_cond {c : Opd} : Ev C ks (.cond c x y) s = EvC C ks x y s (ev s.env c) := by
  unfold EvC
  split
  · rename_i b hb
    cases b
    · exact Lim_step (by simp [step, hb, stepC])
    · exact Lim_step (by simp [step, hb, stepC])
  · rename_i hb
    refine Lim_stop ?_
    simp only [step]
    unfold stepC
    split
    · rename_i b hb2; exact absurd hb2 (hb b)
    · rfl
theorem Ev_block : Ev C ks (.block id b) s = Ev C (.blk id :: ks) b s := Lim_step rfl
theorem Ev_loop : Ev C ks (.loop keep b) s = Ev C (.loop keep b :: ks) b (canon keep s) := Lim_step rfl
theorem Ev_loopB {B c : MCode} (hB : B = c) : Ev C ks (.loop keep B) s = Ev C (.loop keep B :: ks) c (canon keep s) := by subst hB; exact Ev_loop
/-- a loop at its head -/
theorem EvL_eq {B c : MCode} (hB : B = c) : EvL C ks keep B s = Ev C (.loop keep B :: ks) c s := by subst hB; rfl
theorem Ev_loopL : Ev C ks (.loop keep b) s = EvL C ks keep b (canon keep s) := Ev_loop
theorem EvD_nil' : EvD C ks [] feet before keep s = if ordOK before feet = true then EvX C ks .n { s with env := rst keep s.env } else none := by
  split
  · rename_i h; exact Lim_step (by simp [step, h])
  · rename_i h; exact Lim_stop (by simp [step, h])
theorem Ev_exit : Ev C ks (.exit id) s = EvX C ks (.x id) s := Lim_step rfl
theorem Ev_ret : Ev C ks .ret s = EvX C ks .r s := Lim_step rfl
theorem EvO_nil : EvO C ks [] keep s = EvX C ks .n { s with env := rst keep s.env } := Lim_step rfl
theorem EvO_cons : EvO C ks (o :: os) keep s = EvS C ks os keep (opE C o s) := by
  cases h : opE C o s with
  | some s' => exact Lim_step (by simp [step, h, stepO])
  | none =>
    show Lim C ks (.ops (o :: os) keep) s = none
    exact Lim_stop (by simp [step, h, stepO])
theorem EvS_some : EvS C ks os keep (some s) = EvO C ks os keep s := rfl
theorem EvD_nil (h : ordOK before feet = true) : EvD C ks [] feet before keep s = EvX C ks .n { s with env := rst keep s.env } := Lim_step (by simp [step, h])
theorem EvD_cons : EvD C ks (o :: os) feet before keep s = EvF C ks os feet before keep (opF C o s) := by
  cases h : opF C o s with
  | some p => obtain ⟨f, s'⟩ := p; exact Lim_step (by simp [step, h, stepD])
  | none =>
    show Lim C ks (.drw (o :: os) feet before keep) s = none
    exact Lim_stop (by simp [step, h, stepD])
theorem EvF_some {f : Foot} : EvF C ks os feet before keep (some (f, s)) = EvD C ks os (feet ++ [f]) before keep s := rfl
theorem EvC_bool {v : Bool} : EvC C ks x y s (.t (.bool v)) = if v = true then Ev C ks x s else Ev C ks y s := rfl
theorem EvX_fin_n {k : Nat} {rs : List Res} : EvX C (.fin k rs :: ks) .n s = finE k rs s := Lim_stop rfl
theorem EvX_fin_r {k : Nat} {rs : List Res} : EvX C (.fin k rs :: ks) .r s = finE k rs s := Lim_stop rfl
theorem EvX_seq_n : EvX C (.seq b :: ks) .n s = Ev C ks b s := Lim_step rfl
theorem EvX_seq_x : EvX C (.seq b :: ks) (.x i) s = EvX C ks (.x i) s := Lim_step rfl
theorem EvX_seq_r : EvX C (.seq b :: ks) .r s = EvX C ks .r s := Lim_step rfl
theorem EvX_blk_n : EvX C (.blk id :: ks) .n s = EvX C ks .n s := Lim_step rfl
theorem EvX_blk_x : EvX C (.blk id :: ks) (.x i) s = if i = id then EvX C ks .n s else EvX C ks (.x i) s := by
  split
  · rename_i h; exact Lim_step (by simp [step, h])
  · rename_i h; exact Lim_step (by simp [step, h])
theorem EvX_blk_r : EvX C (.blk id :: ks) .r s = EvX C ks .r s := Lim_step rfl
theorem EvX_loop_n : EvX C (.loop keep b :: ks) .n s = Ev C ks (.loop keep b) s := Lim_step rfl
theorem EvX_loopL_n : EvX C (.loop keep b :: ks) .n s = EvL C ks keep b (canon keep s) := by rw [EvX_loop_n, Ev_loopL]
theorem EvX_loop_x : EvX C (.loop keep b :: ks) (.x i) s = EvX C ks (.x i) s := Lim_step rfl
theorem EvX_loop_r : EvX C (.loop keep b :: ks) .r s = EvX C ks .r s := Lim_step rfl
end

/-! ### contracts -/

noncomputable def callN (tbl : Nat → Option MFun) : Nat → CallE
  | 0 => fun _ _ _ => none
  | n + 1 => fun f as h0 => match tbl f with
    | some m => if as.length = m.np then runN (callN tbl n) n [.fin h0.length m.res] (.code m.body) ⟨initE as 0, [rootsE h0 0], h0⟩ else none
    | none => none

/-- more answers -/
def LeE (C C' : CallE) : Prop := ∀ f as h0 r, C f as h0 = some r → C' f as h0 = some r

theorem runV_mono {C C' : CallE} (h : LeE C C') {k : MOp} {s : S} {p : AV × List (Nat × Blk)} (hr : runV C k s = some p) : runV C' k s = some p := by
  have m : ∀ f vs ids, mcallI C f vs s.h s.h.length ids = some p → mcallI C' f vs s.h s.h.length ids = some p := by
    intro f vs ids hr
    unfold mcallI at hr ⊢
    split at hr
    · rename_i hc
      rw [if_pos hc]
      cases hx : C f (subA ids vs) (subH s.h ids) with
      | none => rw [hx] at hr; cases hr
      | some q => rw [h _ _ _ _ hx]; rw [hx] at hr; exact hr
    · cases hr
  cases k <;> first | exact hr | skip
  · rename_i f args
    simp only [runV] at hr ⊢
    cases hf : frzs s.h (args.map (ev s.env)) with
    | none => rw [hf] at hr; cases hr
    | some as =>
      rw [hf] at hr
      simp only [callA] at hr ⊢
      cases hx : C f as [] with
      | none => rw [hx] at hr; cases hr
      | some q => rw [h _ _ _ _ hx]; rw [hx] at hr; exact hr
  · exact m _ _ _ hr
  · rename_i f args
    simp only [runV, pcallI] at hr ⊢
    split at hr
    · rename_i hc
      rw [if_pos hc]
      cases hx : C f (subA (subIds s.h (args.map (ev s.env))) (args.map (ev s.env))) (subH s.h (subIds s.h (args.map (ev s.env)))) with
      | none => rw [hx] at hr; cases hr
      | some q => rw [h _ _ _ _ hx]; rw [hx] at hr; exact hr
    · cases hr
  · rename_i x args
    simp only [runV] at hr ⊢
    unfold dcallE at hr ⊢
    split at hr
    · exact m _ _ _ hr
    · cases hr

theorem runE_mono {C C' : CallE} (h : LeE C C') {o : MO} {s s' : S} (hr : runE C o s = some s') : runE C' o s = some s' := by
  unfold runE at hr ⊢
  cases hx : runV C o.op s with
  | none => rw [hx] at hr; cases hr
  | some p => rw [runV_mono h hx]; rw [hx] at hr; exact hr

theorem runF_mono {C C' : CallE} (h : LeE C C') {o : MO} {s : S} {s' : Foot × S} (hr : runF C o s = some s') : runF C' o s = some s' := by
  unfold runF at hr ⊢
  cases hx : runV C o.op s with
  | none => rw [hx] at hr; cases hr
  | some p => rw [runV_mono h hx]; rw [hx] at hr; exact hr

theorem opE_mono {C C' : CallE} (h : LeE C C') {o : MO} {s s' : S} (hr : opE C o s = some s') : opE C' o s = some s' := by
  unfold opE at hr ⊢
  cases hg : o.guard with
  | none => simp only [hg] at hr ⊢; exact runE_mono h hr
  | some p =>
    obtain ⟨g, want⟩ := p
    simp only [hg] at hr ⊢
    unfold guardE at hr ⊢
    split at hr
    · split at hr
      · rename_i hb; simp only [hb, if_true]; exact runE_mono h hr
      · rename_i hb; simp only [hb, if_false]; exact hr
    · exact hr
    · cases hr

theorem opF_mono {C C' : CallE} (h : LeE C C') {o : MO} {s : S} {s' : Foot × S} (hr : opF C o s = some s') : opF C' o s = some s' := by
  unfold opF at hr ⊢
  cases hg : o.guard with
  | none => simp only [hg] at hr ⊢; exact runF_mono h hr
  | some p =>
    obtain ⟨g, want⟩ := p
    simp only [hg] at hr ⊢
    unfold guardF at hr ⊢
    split at hr
    · split at hr
      · rename_i hb; simp only [hb, if_true]; exact runF_mono h hr
      · rename_i hb; simp only [hb, if_false]; exact hr
    · exact hr
    · cases hr

theorem step_mono {C C' : CallE} (h : LeE C C') {ks : List Fr} {cf : Cf} {s : S} : (∀ c, step C ks cf s = .inl c → step C' ks cf s = .inl c) ∧ ∀ r, step C ks cf s = .inr (some r) → step C' ks cf s = .inr (some r) := by
  have key : (∃ o os keep, cf = .ops (o :: os) keep) ∨ (∃ o os feet before keep, cf = .drw (o :: os) feet before keep) ∨ step C ks cf s = step C' ks cf s := by
    cases cf with
    | code c => cases c <;> exact .inr (.inr rfl)
    | ops os keep =>
      cases os with
      | nil => exact .inr (.inr rfl)
      | cons o os => exact .inl ⟨o, os, keep, rfl⟩
    | drw os feet before keep =>
      cases os with
      | nil => exact .inr (.inr rfl)
      | cons o os => exact .inr (.inl ⟨o, os, feet, before, keep, rfl⟩)
    | out x =>
      refine .inr (.inr ?_)
      cases ks with
      | nil => rfl
      | cons k ks => cases k <;> cases x <;> rfl
  rcases key with ⟨o, os, keep, rfl⟩ | ⟨o, os, feet, before, keep, rfl⟩ | he
  · simp only [step]
    cases hx : opE C o s with
    | none => simp [stepO]
    | some s' => rw [opE_mono h hx]; exact ⟨fun _ h => h, fun _ h => h⟩
  · simp only [step]
    cases hx : opF C o s with
    | none => simp [stepD]
    | some s' => rw [opF_mono h hx]; exact ⟨fun _ h => h, fun _ h => h⟩
  · rw [he]; exact ⟨fun _ h => h, fun _ h => h⟩

theorem runN_monoC {C C' : CallE} (h : LeE C C') : ∀ (n : Nat) {ks : List Fr} {cf : Cf} {s : S} {r : AV × List Blk}, runN C n ks cf s = some r → runN C' n ks cf s = some r
  | 0, _, _, _, _, hr => by cases hr
  | n + 1, ks, cf, s, r, hr => by
    simp only [runN] at hr ⊢
    split at hr
    · rename_i h1; rw [(step_mono h).1 _ h1]; exact runN_monoC h n hr
    · rename_i h1; subst hr; rw [(step_mono h).2 _ h1]

theorem callN_mono {tbl : Nat → Option MFun} : ∀ n, LeE (callN tbl n) (callN tbl (n + 1))
  | 0 => fun _ _ _ _ h => by cases h
  | n + 1 => fun f as h0 r h => by
    simp only [callN] at h
    rw [callN]
    cases hm : tbl f with
    | none => simp only [hm] at h; cases h
    | some m =>
      simp only [hm] at h ⊢
      split at h
      · rename_i hl
        rw [if_pos hl]
        exact runN_mono _ (runN_monoC (callN_mono n) n h) (Nat.le_succ n)
      · cases h

theorem callN_le {tbl : Nat → Option MFun} {n m : Nat} (h : n ≤ m) : LeE (callN tbl n) (callN tbl m) := by
  induction h with
  | refl => exact fun _ _ _ _ h => h
  | step _ ih => exact fun f as h0 r h => callN_mono _ f as h0 r (ih f as h0 r h)

theorem callN_det {tbl : Nat → Option MFun} {f : Nat} {as : List AV} {h0 : List Blk} (n m : Nat) (r r' : AV × List Blk) (h : callN tbl n f as h0 = some r) (h' : callN tbl m f as h0 = some r') : r = r' := by
  have h1 := callN_le (Nat.le_max_left n m) f as h0 r h
  have h2 := callN_le (Nat.le_max_right n m) f as h0 r' h'
  rw [h1] at h2
  cases h2
  rfl

/-- a function's answer on data -/
noncomputable def callC (tbl : Nat → Option MFun) : CallE := fun f as h0 => lim fun n => callN tbl n f as h0

theorem callC_le {tbl : Nat → Option MFun} (n : Nat) : LeE (callN tbl n) (callC tbl) := fun _ _ _ _ h => lim_eq (fun n m r r' h h' => callN_det n m r r' h h') h

theorem runV_fin {tbl : Nat → Option MFun} {k : MOp} {s : S} {p : AV × List (Nat × Blk)} (hr : runV (callC tbl) k s = some p) : ∃ n, runV (callN tbl n) k s = some p := by
  have m : ∀ f vs ids, mcallI (callC tbl) f vs s.h s.h.length ids = some p → ∃ n, mcallI (callN tbl n) f vs s.h s.h.length ids = some p := by
    intro f vs ids hr
    unfold mcallI at hr ⊢
    split at hr
    · rename_i hc
      cases hx : callC tbl f (subA ids vs) (subH s.h ids) with
      | none => rw [hx] at hr; cases hr
      | some q =>
        obtain ⟨n, hn⟩ := lim_some hx
        exact ⟨n, by rw [if_pos hc, hn]; rw [hx] at hr; exact hr⟩
    · cases hr
  cases k <;> first | exact ⟨0, hr⟩ | skip
  · rename_i f args
    simp only [runV] at hr ⊢
    cases hf : frzs s.h (args.map (ev s.env)) with
    | none => rw [hf] at hr; cases hr
    | some as =>
      rw [hf] at hr
      simp only [callA] at hr ⊢
      cases hx : callC tbl f as [] with
      | none => rw [hx] at hr; cases hr
      | some q =>
        obtain ⟨n, hn⟩ := lim_some hx
        exact ⟨n, by rw [hn]; rw [hx] at hr; exact hr⟩
  · exact m _ _ _ hr
  · rename_i f args
    simp only [runV, pcallI] at hr ⊢
    split at hr
    · rename_i hc
      cases hx : callC tbl f (subA (subIds s.h (args.map (ev s.env))) (args.map (ev s.env))) (subH s.h (subIds s.h (args.map (ev s.env)))) with
      | none => rw [hx] at hr; cases hr
      | some q =>
        obtain ⟨n, hn⟩ := lim_some hx
        exact ⟨n, by rw [if_pos hc, hn]; rw [hx] at hr; exact hr⟩
    · cases hr
  · rename_i x args
    simp only [runV] at hr ⊢
    unfold dcallE at hr ⊢
    split at hr
    · exact m _ _ _ hr
    · cases hr

theorem runE_fin {tbl : Nat → Option MFun} {o : MO} {s s' : S} (hr : runE (callC tbl) o s = some s') : ∃ n, runE (callN tbl n) o s = some s' := by
  unfold runE at hr ⊢
  cases hx : runV (callC tbl) o.op s with
  | none => rw [hx] at hr; cases hr
  | some p =>
    obtain ⟨n, hn⟩ := runV_fin hx
    exact ⟨n, by rw [hn]; rw [hx] at hr; exact hr⟩

theorem runF_fin {tbl : Nat → Option MFun} {o : MO} {s : S} {s' : Foot × S} (hr : runF (callC tbl) o s = some s') : ∃ n, runF (callN tbl n) o s = some s' := by
  unfold runF at hr ⊢
  cases hx : runV (callC tbl) o.op s with
  | none => rw [hx] at hr; cases hr
  | some p =>
    obtain ⟨n, hn⟩ := runV_fin hx
    exact ⟨n, by rw [hn]; rw [hx] at hr; exact hr⟩

theorem opE_fin {tbl : Nat → Option MFun} {o : MO} {s s' : S} (hr : opE (callC tbl) o s = some s') : ∃ n, opE (callN tbl n) o s = some s' := by
  unfold opE at hr ⊢
  cases hg : o.guard with
  | none => simp only [hg] at hr ⊢; exact runE_fin hr
  | some p =>
    obtain ⟨g, want⟩ := p
    simp only [hg] at hr ⊢
    unfold guardE at hr ⊢
    split at hr
    · split at hr
      · rename_i hb; simp only [hb, if_true]; exact runE_fin hr
      · rename_i hb; simp only [hb, if_false]; exact ⟨0, hr⟩
    · exact ⟨0, hr⟩
    · cases hr

theorem opF_fin {tbl : Nat → Option MFun} {o : MO} {s : S} {s' : Foot × S} (hr : opF (callC tbl) o s = some s') : ∃ n, opF (callN tbl n) o s = some s' := by
  unfold opF at hr ⊢
  cases hg : o.guard with
  | none => simp only [hg] at hr ⊢; exact runF_fin hr
  | some p =>
    obtain ⟨g, want⟩ := p
    simp only [hg] at hr ⊢
    unfold guardF at hr ⊢
    split at hr
    · split at hr
      · rename_i hb; simp only [hb, if_true]; exact runF_fin hr
      · rename_i hb; simp only [hb, if_false]; exact ⟨0, hr⟩
    · exact ⟨0, hr⟩
    · cases hr

theorem step_fin {tbl : Nat → Option MFun} {ks : List Fr} {cf : Cf} {s : S} {c : Step} (hc : c ≠ .inr none) (h : step (callC tbl) ks cf s = c) : ∃ n, step (callN tbl n) ks cf s = c := by
  have key : (∃ o os keep, cf = .ops (o :: os) keep) ∨ (∃ o os feet before keep, cf = .drw (o :: os) feet before keep) ∨ step (callN tbl 0) ks cf s = step (callC tbl) ks cf s := by
    cases cf with
    | code c => cases c <;> exact .inr (.inr rfl)
    | ops os keep =>
      cases os with
      | nil => exact .inr (.inr rfl)
      | cons o os => exact .inl ⟨o, os, keep, rfl⟩
    | drw os feet before keep =>
      cases os with
      | nil => exact .inr (.inr rfl)
      | cons o os => exact .inr (.inl ⟨o, os, feet, before, keep, rfl⟩)
    | out x =>
      refine .inr (.inr ?_)
      cases ks with
      | nil => rfl
      | cons k ks => cases k <;> cases x <;> rfl
  rcases key with ⟨o, os, keep, rfl⟩ | ⟨o, os, feet, before, keep, rfl⟩ | he
  · simp only [step] at h ⊢
    cases hx : opE (callC tbl) o s with
    | none => rw [hx] at h; exact absurd h.symm hc
    | some s' =>
      obtain ⟨n, hn⟩ := opE_fin hx
      exact ⟨n, by rw [hn, ← hx]; exact h⟩
  · simp only [step] at h ⊢
    cases hx : opF (callC tbl) o s with
    | none => rw [hx] at h; exact absurd h.symm hc
    | some s' =>
      obtain ⟨n, hn⟩ := opF_fin hx
      exact ⟨n, by rw [hn, ← hx]; exact h⟩
  · exact ⟨0, by rw [he]; exact h⟩

theorem runN_fin {tbl : Nat → Option MFun} : ∀ (n : Nat) {ks : List Fr} {cf : Cf} {s : S} {r : AV × List Blk}, runN (callC tbl) n ks cf s = some r → ∃ k, runN (callN tbl k) n ks cf s = some r
  | 0, _, _, _, _, h => by cases h
  | n + 1, ks, cf, s, r, h => by
    simp only [runN] at h
    split at h
    · rename_i ks' cf' s' h1
      obtain ⟨k, hk⟩ := step_fin (by intro hc; cases hc) h1
      obtain ⟨k2, hk2⟩ := runN_fin n h
      refine ⟨max k k2, ?_⟩
      simp only [runN]
      rw [(step_mono (callN_le (Nat.le_max_left k k2))).1 _ hk]
      exact runN_monoC (callN_le (Nat.le_max_right k k2)) n hk2
    · rename_i h1
      subst h
      obtain ⟨k, hk⟩ := step_fin (by intro hc; cases hc) h1
      exact ⟨k, by simp only [runN, hk]⟩

/-- **A FUNCTION's ANSWER IS WHAT ITS BODY GIVES.** -/
theorem callC_of {tbl : Nat → Option MFun} {f : Nat} {as : List AV} {h0 : List Blk} {m : MFun} (ht : tbl f = some m) (hl : as.length = m.np) {r : AV × List Blk} (h : Ev (callC tbl) [.fin h0.length m.res] m.body ⟨initE as 0, [rootsE h0 0], h0⟩ = some r) : callC tbl f as h0 = some r := by
  obtain ⟨n, hn⟩ := Lim_some h
  obtain ⟨k, hk⟩ := runN_fin n hn
  refine callC_le (max n k + 1) f as h0 r ?_
  simp only [callN, ht, hl, if_true]
  exact runN_mono n (runN_monoC (callN_le (Nat.le_max_right n k)) n hk) (Nat.le_max_left n k)

/-! ### soundness -/

theorem exists_least {p : Nat → Prop} (h : ∃ n, p n) : ∃ n, p n ∧ ∀ m, p m → n ≤ m := by
  obtain ⟨n, hn⟩ := h
  induction n using Nat.strongRecOn with
  | ind n ih =>
    by_cases hx : ∃ m, m < n ∧ p m
    · obtain ⟨m, h1, h2⟩ := hx
      exact ih m h1 h2
    · refine ⟨n, hn, fun m hm => ?_⟩
      by_cases hl : m < n
      · exact absurd ⟨m, hl, hm⟩ hx
      · omega

section
variable {Γ : Ctr} {C : CallE}

/-- what stands behind: the rest runs to the answer in fewer steps -/
def Qf (C : CallE) (r : AV × List Blk) (m : Nat) (ks : List Fr) : X → S → Prop := fun x s => ∃ k, k < m ∧ runN C k ks (.out x) s = some r

theorem runW_mono {o : MO} {s : S} {K K' : S → Prop} (hK : ∀ s, K s → K' s) (h : runW Γ o s K) : runW Γ o s K' := by
  unfold runW at h ⊢
  split at h
  · obtain ⟨as, h1, r, hr, h2, h3, h4⟩ := h; exact ⟨as, h1, r, hr, h2, h3, hK _ h4⟩
  · obtain ⟨h1, r, h2, h3, h4⟩ := h; exact ⟨h1, r, h2, h3, hK _ h4⟩
  · obtain ⟨h1, r, h2, h3, h4⟩ := h; exact ⟨h1, r, h2, h3, hK _ h4⟩
  · split at h
    · obtain ⟨h1, r, h2, h3, h4⟩ := h; exact ⟨h1, r, h2, h3, hK _ h4⟩
    · exact h.elim
  · split at h
    · exact hK _ h
    · exact h.elim

theorem opW_mono {o : MO} {s : S} {K K' : S → Prop} (hK : ∀ s, K s → K' s) (h : opW Γ o s K) : opW Γ o s K' := by
  unfold opW at h ⊢
  split at h
  · exact runW_mono hK h
  · split at h
    · split at h
      · rename_i hb; simp only [hb, if_true]; exact runW_mono hK h
      · rename_i hb; simp only [hb, if_false]; exact hK _ h
    · exact hK _ h
    · exact h.elim

theorem regW_mono : ∀ (os : List MO) {s : S} {K K' : S → Prop}, (∀ s, K s → K' s) → regW Γ os s K → regW Γ os s K'
  | [], _, _, _, hK, h => hK _ h
  | _ :: os, _, _, _, hK, h => opW_mono (fun _ h' => regW_mono os hK h') h

theorem drwOp_mono {o : MO} {s : S} {K K' : Foot → S → Prop} (hK : ∀ f s, K f s → K' f s) (h : drwOp Γ o s K) : drwOp Γ o s K' := by
  unfold drwOp at h ⊢
  split at h
  · obtain ⟨as, h1, r, hr, h2, h3, h4⟩ := h; exact ⟨as, h1, r, hr, h2, h3, hK _ _ h4⟩
  · obtain ⟨h1, r, h2, h3, h4⟩ := h; exact ⟨h1, r, h2, h3, hK _ _ h4⟩
  · obtain ⟨h1, r, h2, h3, h4⟩ := h; exact ⟨h1, r, h2, h3, hK _ _ h4⟩
  · split at h
    · obtain ⟨h1, r, h2, h3, h4⟩ := h; exact ⟨h1, r, h2, h3, hK _ _ h4⟩
    · exact h.elim
  · split at h
    · exact hK _ _ h
    · exact h.elim

theorem drwG_mono {o : MO} {s : S} {K K' : Foot → S → Prop} (hK : ∀ f s, K f s → K' f s) (h : drwG Γ o s K) : drwG Γ o s K' := by
  unfold drwG at h ⊢
  split at h
  · exact drwOp_mono hK h
  · split at h
    · split at h
      · rename_i hb; simp only [hb, if_true]; exact drwOp_mono hK h
      · rename_i hb; simp only [hb, if_false]; exact hK _ _ h
    · exact hK _ _ h
    · exact h.elim

theorem drwW_mono : ∀ (os : List MO) {s : S} {feet : List Foot} {K K' : List Foot → S → Prop}, (∀ f s, K f s → K' f s) → drwW Γ os s feet K → drwW Γ os s feet K'
  | [], _, _, _, _, hK, h => hK _ _ h
  | _ :: os, _, _, _, _, hK, h => drwG_mono (fun _ _ h' => drwW_mono os hK h') h

theorem Wc_mono : ∀ (c : MCode) {s : S} {Q Q' : X → S → Prop}, (∀ x s, Q x s → Q' x s) → Wc Γ c Q s → Wc Γ c Q' s
  | .skip, _, _, _, hQ, h => hQ _ _ h
  | .reg os _, _, _, _, hQ, h => regW_mono os (fun _ h' => hQ _ _ h') h
  | .drw os _ _, _, _, _, hQ, h => drwW_mono os (fun _ _ h' => ⟨h'.1, hQ _ _ h'.2⟩) h
  | .seq a b, _, _, _, hQ, h => Wc_mono a (fun x s' h' => by cases x with | n => exact Wc_mono b hQ h' | x i => exact hQ _ _ h' | r => exact hQ _ _ h') h
  | .cond c x y, s, _, _, hQ, h => by
    unfold Wc at h ⊢
    split at h
    · split at h
      · rename_i hb; simp only [hb, if_true]; exact Wc_mono x hQ h
      · rename_i hb; simp only [hb]; exact Wc_mono y hQ h
    · exact h.elim
  | .block id b, _, _, _, hQ, h => Wc_mono b (fun x s' h' => by
      cases x with
      | n => exact hQ _ _ h'
      | x i => simp only at h' ⊢; split at h' <;> rename_i hi <;> simp only [hi, if_true, if_false] <;> exact hQ _ _ h'
      | r => exact hQ _ _ h') h
  | .loop keep b, _, _, _, hQ, h => by
    obtain ⟨I, μ, h0, hr⟩ := h
    refine ⟨I, μ, h0, fun s hs => Wc_mono b (fun x s' h' => ?_) (hr s hs)⟩
    cases x with
    | n => exact h'
    | x i => exact hQ _ _ h'
    | r => exact hQ _ _ h'
  | .exit _, _, _, _, hQ, h => hQ _ _ h
  | .ret, _, _, _, hQ, h => hQ _ _ h

/-- what a call's answer stands for -/
theorem callA_W (hC : ∀ f as h0 r hr, C f as h0 = some (r, hr) → Γ f as h0 r hr) {f : Nat} {args : List AV} {h : List Blk} {nx : Nat} {v : AV} {u : List (Nat × Blk)} (hr : callA C f args nx (frzs h args) = some (v, u)) :
    ∃ as, frzs h args = some as ∧ ∃ r hr, Γ f as [] r hr ∧ (noOwn args || frR r hr) = true ∧ v = shift nx r ∧ u = newU nx hr 0 := by
  cases hf : frzs h args with
  | none => rw [hf] at hr; cases hr
  | some as =>
    rw [hf] at hr
    simp only [callA] at hr
    cases hc : C f as [] with
    | none => rw [hc] at hr; cases hr
    | some p =>
      obtain ⟨r, hr'⟩ := p
      rw [hc] at hr
      simp only [callB] at hr
      split at hr
      · rename_i hcond; cases hr; exact ⟨as, rfl, r, hr', hC _ _ _ _ _ hc, hcond, rfl, rfl⟩
      · cases hr

theorem mcallI_W (hC : ∀ f as h0 r hr, C f as h0 = some (r, hr) → Γ f as h0 r hr) {f : Nat} {vs : List AV} {h : List Blk} {nx : Nat} {v : AV} {u : List (Nat × Blk)} (hr : mcallI C f vs h nx (subIds h vs) = some (v, u)) {K : AV → List (Nat × Blk) → Prop} (hK : K v u) : mcallW Γ f vs h nx K := by
  unfold mcallI at hr
  split at hr
  · rename_i hc
    cases hx : C f (subA (subIds h vs) vs) (subH h (subIds h vs)) with
    | none => rw [hx] at hr; cases hr
    | some p =>
      obtain ⟨r, h1⟩ := p
      rw [hx] at hr
      cases hr
      exact ⟨hc, r, h1, hC _ _ _ _ _ hx, hK⟩
  · cases hr

theorem pcallI_W (hC : ∀ f as h0 r hr, C f as h0 = some (r, hr) → Γ f as h0 r hr) {f : Nat} {vs : List AV} {h : List Blk} {nx : Nat} {v : AV} {u : List (Nat × Blk)} (hr : pcallI C f vs h nx (subIds h vs) = some (v, u)) {K : AV → List (Nat × Blk) → Prop} (hK : K v u) : pcallW Γ f vs h nx K := by
  unfold pcallI at hr
  split at hr
  · rename_i hc
    cases hx : C f (subA (subIds h vs) vs) (subH h (subIds h vs)) with
    | none => rw [hx] at hr; cases hr
    | some p =>
      obtain ⟨r, h1⟩ := p
      rw [hx] at hr
      simp only [pcallB] at hr
      split at hr
      · rename_i ht
        cases hr
        refine ⟨hc, r, h1.drop (subIds h vs).length, ?_, hK⟩
        have := hC _ _ _ _ _ hx
        have e : subH h (subIds h vs) ++ h1.drop (subIds h vs).length = h1 := by
          rw [← ht]
          exact List.take_append_drop _ _
        rw [e]
        exact this
      · cases hr
  · cases hr

theorem runE_runW (hC : ∀ f as h0 r hr, C f as h0 = some (r, hr) → Γ f as h0 r hr) {o : MO} {s s' : S} (h : runE C o s = some s') {K : S → Prop} (hK : K s') : runW Γ o s K := by
  unfold runE at h
  cases hv : runV C o.op s with
  | none => rw [hv] at h; cases h
  | some p =>
    obtain ⟨v, u⟩ := p
    rw [hv] at h
    cases h
    unfold runW
    cases ho : o.op <;> simp only [ho, runV] at hv ⊢ <;> try (rw [hv]; exact hK)
    · obtain ⟨as, h1, r, hr, h2, h3, rfl, rfl⟩ := callA_W hC hv
      exact ⟨as, h1, r, hr, h2, h3, hK⟩
    · exact mcallI_W hC hv hK
    · exact pcallI_W hC hv hK
    · unfold dcallE at hv
      split at hv
      · rename_i g caps hg; rw [hg]; exact mcallI_W hC hv hK
      · cases hv

theorem opE_opW (hC : ∀ f as h0 r hr, C f as h0 = some (r, hr) → Γ f as h0 r hr) {o : MO} {s s' : S} (h : opE C o s = some s') {K : S → Prop} (hK : K s') : opW Γ o s K := by
  unfold opE at h
  unfold opW
  cases hg : o.guard with
  | none => simp only [hg] at h ⊢; exact runE_runW hC h hK
  | some p =>
    obtain ⟨g, want⟩ := p
    simp only [hg] at h ⊢
    unfold guardE at h
    split at h
    · rename_i b hb
      rw [hb]
      simp only
      split at h
      · rename_i hb; rw [if_pos hb]; exact runE_runW hC h hK
      · rename_i hb; rw [if_neg hb]; cases h; exact hK
    · rename_i hb; rw [hb]; cases h; exact hK
    · cases h

theorem runF_drwOp (hC : ∀ f as h0 r hr, C f as h0 = some (r, hr) → Γ f as h0 r hr) {o : MO} {s s' : S} {f : Foot} (h : runF C o s = some (f, s')) {K : Foot → S → Prop} (hK : K f s') : drwOp Γ o s K := by
  unfold runF at h
  cases hv : runV C o.op s with
  | none => rw [hv] at h; cases h
  | some p =>
    obtain ⟨v, u⟩ := p
    rw [hv] at h
    cases h
    unfold drwOp
    cases ho : o.op <;> simp only [ho, runV] at hv ⊢ <;> try (rw [hv]; exact hK)
    · obtain ⟨as, h1, r, hr, h2, h3, rfl, rfl⟩ := callA_W hC hv
      exact ⟨as, h1, r, hr, h2, h3, hK⟩
    · exact mcallI_W hC hv hK
    · exact pcallI_W hC hv hK
    · unfold dcallE at hv
      split at hv
      · rename_i g caps hg; rw [hg]; exact mcallI_W hC hv hK
      · cases hv

theorem opF_drwG (hC : ∀ f as h0 r hr, C f as h0 = some (r, hr) → Γ f as h0 r hr) {o : MO} {s s' : S} {f : Foot} (h : opF C o s = some (f, s')) {K : Foot → S → Prop} (hK : K f s') : drwG Γ o s K := by
  unfold opF at h
  unfold drwG
  cases hg : o.guard with
  | none => simp only [hg] at h ⊢; exact runF_drwOp hC h hK
  | some p =>
    obtain ⟨g, want⟩ := p
    simp only [hg] at h ⊢
    unfold guardF at h
    split at h
    · rename_i b hb
      rw [hb]
      simp only
      split at h
      · rename_i hb; rw [if_pos hb]; exact runF_drwOp hC h hK
      · rename_i hb; rw [if_neg hb]; cases h; exact hK
    · rename_i hb; rw [hb]; cases h; exact hK
    · cases h

theorem runN_ops (hC : ∀ f as h0 r hr, C f as h0 = some (r, hr) → Γ f as h0 r hr) {r : AV × List Blk} {keep : List Nat} {ks : List Fr} : ∀ (os : List MO) (m : Nat) (s : S), runN C m ks (.ops os keep) s = some r →
    regW Γ os s fun s' => Qf C r m ks .n { s' with env := rst keep s'.env }
  | _, 0, _, h => by cases h
  | [], m + 1, s, h => ⟨m, Nat.lt_succ_self m, h⟩
  | o :: os, m + 1, s, h => by
    simp only [runN, step] at h
    cases ho : opE C o s with
    | none => simp only [ho, stepO] at h; cases h
    | some s' =>
      simp only [ho, stepO] at h
      exact opE_opW hC ho (regW_mono os (fun s ⟨k, h1, h2⟩ => ⟨k, by omega, h2⟩) (runN_ops hC os m s' h))

theorem runN_drw (hC : ∀ f as h0 r hr, C f as h0 = some (r, hr) → Γ f as h0 r hr) {r : AV × List Blk} {before : List (List Nat)} {keep : List Nat} {ks : List Fr} : ∀ (os : List MO) (feet : List Foot) (m : Nat) (s : S), runN C m ks (.drw os feet before keep) s = some r →
    drwW Γ os s feet fun feet s' => ordOK before feet = true ∧ Qf C r m ks .n { s' with env := rst keep s'.env }
  | _, _, 0, _, h => by cases h
  | [], feet, m + 1, s, h => by
    simp only [runN, step] at h
    split at h
    · rename_i h1
      split at h1
      · rename_i ho; cases h1; exact ⟨ho, m, Nat.lt_succ_self m, h⟩
      · cases h1
    · rename_i h1
      split at h1
      · cases h1
      · cases h1; cases h
  | o :: os, feet, m + 1, s, h => by
    simp only [runN, step] at h
    cases ho : opF C o s with
    | none => simp only [ho, stepD] at h; cases h
    | some p =>
      obtain ⟨f, s'⟩ := p
      simp only [ho, stepD] at h
      exact opF_drwG hC ho (drwW_mono os (fun _ s ⟨h0, k, h1, h2⟩ => ⟨h0, k, by omega, h2⟩) (runN_drw hC os _ m s' h))

theorem runN_pos {m : Nat} {ks : List Fr} {cf : Cf} {s : S} {r : AV × List Blk} (h : runN C m ks cf s = some r) : ∃ k, m = k + 1 := by
  cases m with
  | zero => cases h
  | succ k => exact ⟨k, rfl⟩

open Classical in
theorem runN_W (hC : ∀ f as h0 r hr, C f as h0 = some (r, hr) → Γ f as h0 r hr) {r : AV × List Blk} (m : Nat) : ∀ (c : MCode) (ks : List Fr) (s : S), runN C m ks (.code c) s = some r → Wc Γ c (Qf C r m ks) s := by
  induction m using Nat.strongRecOn with
  | ind m ih =>
    intro c ks s h
    obtain ⟨m, rfl⟩ := runN_pos h
    cases c with
    | skip => exact ⟨m, Nat.lt_succ_self m, h⟩
    | reg os keep => exact regW_mono os (fun s ⟨k, h1, h2⟩ => ⟨k, by omega, h2⟩) (runN_ops hC os m s h)
    | drw os before keep => exact drwW_mono os (fun _ s ⟨h0, k, h1, h2⟩ => ⟨h0, k, by omega, h2⟩) (runN_drw hC os [] m s h)
    | seq a b =>
      refine Wc_mono a (fun x s' hq => ?_) (ih m (Nat.lt_succ_self m) a (.seq b :: ks) s h)
      obtain ⟨k, hk, h2⟩ := hq
      obtain ⟨k, rfl⟩ := runN_pos h2
      cases x with
      | n => exact Wc_mono b (fun x s ⟨j, h3, h4⟩ => ⟨j, by omega, h4⟩) (ih k (by omega) b ks s' h2)
      | x i => exact ⟨k, by omega, h2⟩
      | r => exact ⟨k, by omega, h2⟩
    | cond c x y =>
      simp only [runN, step] at h
      unfold Wc
      unfold stepC at h
      cases hv : ev s.env c with
      | t v =>
        simp only [hv] at h
        cases v with
        | bool b =>
          simp only at h ⊢
          cases b
          · exact Wc_mono y (fun x s ⟨j, h3, h4⟩ => ⟨j, by omega, h4⟩) (ih m (Nat.lt_succ_self m) y ks s h)
          · exact Wc_mono x (fun x s ⟨j, h3, h4⟩ => ⟨j, by omega, h4⟩) (ih m (Nat.lt_succ_self m) x ks s h)
        | _ => cases h
      | _ => simp only [hv] at h; cases h
    | block id b =>
      refine Wc_mono b (fun x s' hq => ?_) (ih m (Nat.lt_succ_self m) b (.blk id :: ks) s h)
      obtain ⟨k, hk, h2⟩ := hq
      obtain ⟨k, rfl⟩ := runN_pos h2
      cases x with
      | n => exact ⟨k, by omega, h2⟩
      | x i =>
        simp only [runN, step] at h2
        simp only
        by_cases hi : i = id
        · simp only [hi, if_true] at h2 ⊢
          exact ⟨k, by omega, h2⟩
        · simp only [hi, if_false] at h2 ⊢
          exact ⟨k, by omega, h2⟩
      | r => exact ⟨k, by omega, h2⟩
    | loop keep b =>
      let p : S → Nat → Prop := fun t k => k ≤ m ∧ runN C k (.loop keep b :: ks) (.code b) t = some r
      let μ : S → Nat := fun t => if hx : ∃ k, p t k then (exists_least hx).choose else 0
      have hμ : ∀ t, (∃ k, p t k) → p t (μ t) ∧ ∀ k, p t k → μ t ≤ k := by
        intro t hx
        have e : μ t = (exists_least hx).choose := dif_pos hx
        rw [e]
        exact (exists_least hx).choose_spec
      refine ⟨fun t => ∃ k, p t k, μ, ⟨m, Nat.le_refl m, h⟩, ?_⟩
      intro t ht
      obtain ⟨⟨h1, h2⟩, h3⟩ := hμ t ht
      refine Wc_mono b (fun x s' hq => ?_) (ih (μ t) (by omega) b _ t h2)
      obtain ⟨k, hk, h4⟩ := hq
      obtain ⟨k, rfl⟩ := runN_pos h4
      cases x with
      | n =>
        have h5 : runN C k ks (.code (.loop keep b)) s' = some r := h4
        obtain ⟨k, rfl⟩ := runN_pos h5
        have h6 : p (canon keep s') k := ⟨by omega, h5⟩
        exact ⟨⟨k, h6⟩, by have := (hμ _ ⟨k, h6⟩).2 k h6; omega⟩
      | x i => exact ⟨k, by omega, h4⟩
      | r => exact ⟨k, by omega, h4⟩
    | exit id => exact ⟨m, Nat.lt_succ_self m, h⟩
    | ret => exact ⟨m, Nat.lt_succ_self m, h⟩
end

theorem callN_sound {P : Program} {tbl : Nat → Option MFun} (hT : TblOK P tbl) : ∀ (n f : Nat) (as : List AV) (h0 : List Blk) (r : AV) (hr : List Blk), callN tbl n f as h0 = some (r, hr) → Sound P f as h0 r hr
  | 0, _, _, _, _, _, h => by cases h
  | n + 1, f, as, h0, r, hr, h => by
    simp only [callN] at h
    cases hm : tbl f with
    | none => simp only [hm] at h; cases h
    | some m =>
      simp only [hm] at h
      split at h
      · rename_i hl
        obtain ⟨fn, ks, inl, h1, h2, h3⟩ := hT f m hm
        have hW := runN_W (Γ := Sound P) (callN_sound hT n) n m.body _ _ h
        refine sound_of h1 h3 h2 ⟨hl, ?_⟩
        refine Wc_mono m.body (fun x s hq => ?_) hW
        obtain ⟨k, hk, h4⟩ := hq
        obtain ⟨k, rfl⟩ := runN_pos h4
        have fin : finE h0.length m.res s = some (r, hr) → ∀ x, (∀ i, x ≠ .x i) → bodyQ m.res (fun v s => canonR h0.length v s = some (r, hr)) x s := by
          intro hf x hx
          unfold finE at hf
          cases x with
          | x i => exact absurd rfl (hx i)
          | n =>
            simp only [bodyQ]
            split at hf
            · rename_i v hv; rw [hv]; exact hf
            · cases hf
          | r =>
            simp only [bodyQ]
            split at hf
            · rename_i v hv; rw [hv]; exact hf
            · cases hf
        cases x with
        | n => exact fin h4 _ (fun i hc => by cases hc)
        | r => exact fin h4 _ (fun i hc => by cases hc)
        | x i => simp only [runN, step] at h4; cases h4
      · cases h

/-- **AN ANSWER IS A CONTRACT.** -/
theorem callC_sound {P : Program} {tbl : Nat → Option MFun} (hT : TblOK P tbl) {f : Nat} {as : List AV} {h0 : List Blk} {r : AV} {hr : List Blk} (h : callC tbl f as h0 = some (r, hr)) : Sound P f as h0 r hr := by
  obtain ⟨n, hn⟩ := lim_some h
  exact callN_sound hT n f as h0 r hr hn

end Go.AM
