/-
  THE ABSTRACT MACHINE: contracts; calls; regions.
-/
import Derived.Test.YtlnnmndebmkdhaaAMJoin
namespace Go.AM
open Go.RowKit (Below)

abbrev noMap : Map := fun _ => none

/-- **A CONTRACT**: called on this data, wherever it lies, the function returns; what was there is as it was; the result stands for (r, hr); its trees lie in new memory or where the arguments' lay. -/
def Sound (P : Program) : Ctr := fun f args r hr => ∀ (w : World) (A : Nat → Prop) (vs : Array Value), RVs noMap w A args vs.toList →
  Calls P f vs w fun e w' => ∃ v ρ, e = .returned v ∧ Below w.heap.size w w' ∧ Rel (fun g => w.heap.size ≤ g ∨ A g) w.heap.size ρ hr w' ∧
    RV ρ w' (Free (fun g => w.heap.size ≤ g ∨ A g) ρ hr) r v ∧ ∀ b, hr.length ≤ b → ρ b = none

section
variable {P : Program} {N : Nat → Prop} {base : Nat} {ρ : Map} {h : List Blk} {w : World} {e : Env} {a : Act} {inl : List Nat} {ops : Array Oper}

theorem frz_go {F : Nat → Prop} (R : Rel N base ρ h w) {cs ds : List AV} {vs : List Value} (hg : frz.go h cs = some ds) (hv : RVs ρ w (Free N ρ h) cs vs) (hF : (refss cs = [] ∧ ∀ g, Free N ρ h g → F g) ∨ ∀ g, F g) : RVs noMap w F ds vs := by
  induction cs generalizing ds vs with
  | nil => simp [frz.go] at hg; subst hg; cases hv; exact .nil
  | cons c cs ih =>
    cases hv with
    | cons hc hcs =>
      have hF' : (refss cs = [] ∧ ∀ g, Free N ρ h g → F g) ∨ ∀ g, F g := hF.imp (fun ⟨h1, h2⟩ => ⟨by simp [refss] at h1; exact h1.2, h2⟩) id
      cases c <;> try (simp [frz.go] at hg; done)
      · simp only [frz.go] at hg
        obtain ⟨ds', h1, rfl⟩ := Option.map_eq_some_iff.1 hg
        refine .cons ?_ (ih h1 hcs hF')
        cases hc with
        | t hT hf => exact .t hT fun g hg => hF.elim (fun h2 => h2.2 g (hf g hg)) fun h2 => h2 g
      · rename_i b
        simp only [frz.go] at hg
        split at hg
        · rename_i el sz fr es hb
          obtain ⟨ds', h1, rfl⟩ := Option.map_eq_some_iff.1 hg
          refine .cons ?_ (ih h1 hcs hF')
          rcases hF with hF | hF
          · simp [refss, refs] at hF
          · cases hc with
            | own hr hone =>
              obtain ⟨fp, hT, _, _⟩ := own_TR R hr hb
              exact .t hT fun g _ => hF g
        · cases hg

theorem frz_go_one {F : Nat → Prop} {ds : List AV} {vs : List Value} (hv : RVs noMap w F ds vs) (hone : ∀ v ∈ vs, v.oneCell' = true) : RV noMap w F (.agg ds) (.agg vs.toArray) := .agg (by simpa using hv) (by simpa using hone)

theorem frz_rel {F : Nat → Prop} (R : Rel N base ρ h w) {v d : AV} {val : Value} (hf : frz h v = some d) (hv : RV ρ w (Free N ρ h) v val) (hF : (refs v = [] ∧ ∀ g, Free N ρ h g → F g) ∨ ∀ g, F g) : RV noMap w F d val := by
  cases v <;> try (simp [frz] at hf; done)
  · simp [frz] at hf
    subst hf
    cases hv with
    | t hT hf => exact .t hT fun g hg => hF.elim (fun h2 => h2.2 g (hf g hg)) fun h2 => h2 g
  · rename_i cs
    simp only [frz] at hf
    split at hf
    · rename_i ds hds
      cases hf
      cases hv with
      | agg hc h1 => exact .agg (frz_go R hds hc (hF.imp (fun ⟨q1, q2⟩ => ⟨by simpa [refs] using q1, q2⟩) id)) h1
    · cases hf
  · rename_i b
    simp only [frz] at hf
    split at hf
    · rename_i el sz fr es hb
      cases hf
      rcases hF with hF | hF
      · simp [refs] at hF
      · cases hv with
        | own hr hone =>
          obtain ⟨fp, hT, _, _⟩ := own_TR R hr hb
          exact .t hT fun g _ => hF g
    · cases hf

theorem frzs_rel {F : Nat → Prop} (R : Rel N base ρ h w) {vs ds : List AV} {vals : List Value} (hf : frzs h vs = some ds) (hv : RVs ρ w (Free N ρ h) vs vals) (hF : (refss vs = [] ∧ ∀ g, Free N ρ h g → F g) ∨ ∀ g, F g) : RVs noMap w F ds vals := by
  induction vs generalizing ds vals with
  | nil => simp [frzs] at hf; subst hf; cases hv; exact .nil
  | cons v vs ih =>
    cases hv with
    | cons h1 h2 =>
      simp only [frzs] at hf
      split at hf
      · rename_i x xs hx hxs
        cases hf
        exact .cons (frz_rel R hx h1 (hF.imp (fun ⟨q1, q2⟩ => ⟨by simp [refss] at q1; exact q1.1, q2⟩) id)) (ih hxs h2 (hF.imp (fun ⟨q1, q2⟩ => ⟨by simp [refss] at q1; exact q1.2, q2⟩) id))
      · cases hf

theorem run_callFunc {f : Nat} (hc : callable P f = true) (args : Array Value) (w : World) : (callFunc f args).run P w = .ok (.enter f args) w := by
  unfold callable at hc
  split at hc
  · rename_i fn hfn
    simp only [Bool.and_eq_true, bne_iff_ne, ne_eq] at hc
    cases hb : fn.body with
    | none => simp [hb] at hc
    | some c => simp [callFunc, hfn, hc.2, hb]
  · cases hc

/-- an operation and what it leaves: contracts and all that is no call -/
def opR (Γ : Ctr) (h : List Blk) (nx : Nat) (e : Env) (k : MOp) (v : AV) (u : List (Nat × Blk)) : Prop := match k with
  | .call f args => ∃ as, frzs h (args.map (ev e)) = some as ∧ ∃ r hr, Γ f as r hr ∧ (noOwn (args.map (ev e)) || frR r hr) = true ∧ v = shift nx r ∧ u = newU nx hr 0
  | .icall _ _ => False
  | .dcall _ _ => False
  | k => evalOp h nx e k = some (v, u)

/-- what stands behind such an operation -/
structure After (N : Nat → Prop) (base : Nat) (ρ : Map) (h : List Blk) (w : World) (v : AV) (u : List (Nat × Blk)) (val : Value) (w' : World) (ρ' : Map) : Prop where
  val : RV ρ' w' (Free N ρ' (upd h u)) v val
  rel : Rel N base ρ' (upd h u) w'
  keeps : Keeps ρ w (Free N ρ h) ρ' w' (Free N ρ' (upd h u))
  same : ∀ b, b ∉ u.map Prod.fst → ρ' b = ρ b
  below : Below base w w'

/-- which operations become calls -/
theorem compK_call {op : Op} {k : MOp} (hk : compK P inl ops op = some k) :
    (∀ f args, k = .call f args → ∃ c, op = .call c ∧ c.callee = .value (.func f) ∧ mapO opd c.args.toList = some args ∧ callable P f = true) ∧
    (∀ f args, k = .icall f args → ∃ c, op = .call c ∧ c.callee = .value (.func f) ∧ mapO opd c.args.toList = some args ∧ callable P f = true) ∧
    (∀ x args, k = .dcall x args → ∃ c y, op = .call c ∧ c.callee = .value y ∧ opd y = some x ∧ mapO opd c.args.toList = some args) := by
  cases op with
  | call c =>
    obtain ⟨callee, as, ts⟩ := c
    cases callee with
    | invoke r m => simp [compK] at hk
    | builtin b =>
      have : (∀ f args, k ≠ .call f args) ∧ (∀ f args, k ≠ .icall f args) ∧ (∀ x args, k ≠ .dcall x args) := by
        cases b <;> simp only [compK] at hk <;> (repeat' split at hk) <;> first
          | cases hk; done
          | (cases hk; exact ⟨by simp, by simp, by simp⟩)
          | (obtain ⟨_, _, rfl⟩ := Option.map_eq_some_iff.1 hk; exact ⟨by simp, by simp, by simp⟩)
      exact ⟨fun f args h => absurd h (this.1 f args), fun f args h => absurd h (this.2.1 f args), fun x args h => absurd h (this.2.2 x args)⟩
    | value y =>
      cases y with
      | func f =>
        simp only [compK] at hk
        split at hk
        · rename_i hc
          obtain ⟨as', h1, h2⟩ := Option.map_eq_some_iff.1 hk
          split at h2
          · subst h2
            refine ⟨by simp, ?_, by simp⟩
            intro f' args hq
            cases hq
            exact ⟨_, rfl, rfl, h1, hc⟩
          · subst h2
            refine ⟨?_, by simp, by simp⟩
            intro f' args hq
            cases hq
            exact ⟨_, rfl, rfl, h1, hc⟩
        · cases hk
      | tmp t =>
        simp only [compK] at hk
        split at hk
        · rename_i x as' hx has
          cases hk
          refine ⟨by simp, by simp, ?_⟩
          intro x' args hq
          cases hq
          exact ⟨_, _, rfl, rfl, hx, has⟩
        · cases hk
      | const v =>
        simp only [compK] at hk
        split at hk
        · rename_i x as' hx has
          cases hk
          refine ⟨by simp, by simp, ?_⟩
          intro x' args hq
          cases hq
          exact ⟨_, _, rfl, rfl, hx, has⟩
        · cases hk
      | global g =>
        simp only [compK] at hk
        split at hk
        · rename_i x as' hx has
          simp [opd] at hx
        · cases hk
  | makeFunc fn first caps =>
    have : (∀ f args, k ≠ .call f args) ∧ (∀ f args, k ≠ .icall f args) ∧ (∀ x args, k ≠ .dcall x args) := by
      cases fn <;> simp only [compK] at hk <;> (repeat' split at hk) <;> first
        | (cases hk; done)
        | (cases hk; exact ⟨by simp, by simp, by simp⟩)
        | (obtain ⟨_, _, rfl⟩ := Option.map_eq_some_iff.1 hk; exact ⟨by simp, by simp, by simp⟩)
    exact ⟨fun f args h => absurd h (this.1 f args), fun f args h => absurd h (this.2.1 f args), fun x args h => absurd h (this.2.2 x args)⟩
  | slice t x lo hi mx =>
    have : (∀ f args, k ≠ .call f args) ∧ (∀ f args, k ≠ .icall f args) ∧ (∀ x args, k ≠ .dcall x args) := by
      cases mx <;> simp only [compK] at hk <;> (repeat' split at hk) <;> first
        | (cases hk; done)
        | (cases hk; exact ⟨by simp, by simp, by simp⟩)
        | (obtain ⟨_, _, rfl⟩ := Option.map_eq_some_iff.1 hk; exact ⟨by simp, by simp, by simp⟩)
    exact ⟨fun f args h => absurd h (this.1 f args), fun f args h => absurd h (this.2.1 f args), fun x args h => absurd h (this.2.2 x args)⟩
  | _ =>
    have : (∀ f args, k ≠ .call f args) ∧ (∀ f args, k ≠ .icall f args) ∧ (∀ x args, k ≠ .dcall x args) := by
      simp only [compK] at hk <;> (repeat' split at hk) <;> first
        | (cases hk; done)
        | (cases hk; exact ⟨by simp, by simp, by simp⟩)
        | (obtain ⟨_, _, rfl⟩ := Option.map_eq_some_iff.1 hk; exact ⟨by simp, by simp, by simp⟩)
    exact ⟨fun f args h => absurd h (this.1 f args), fun f args h => absurd h (this.2.1 f args), fun x args h => absurd h (this.2.2 x args)⟩

theorem exec_call {o : Oper} {c : Call} {f : Nat} (ho : o.op = .call c) (hc : c.callee = .value (.func f)) (hcl : callable P f = true) (w : World) : (execOp a.eval o).run P w = .ok (.enter f (c.args.map a.eval)) w := by
  unfold execOp
  rw [ho]
  simp [resolve, hc, Act.eval, Deferred.ofValue, invoke, run_callFunc hcl]

theorem opR_sound {o : Oper} {k : MOp} (hk : compK P inl ops o.op = some k) (hE : RelEnv ρ w (Free N ρ h) e a.tmps) (R : Rel N base ρ h w) {nx : Nat} {v : AV} {u : List (Nat × Blk)} (hn : ∀ b, b ∈ nx :: u.map Prod.fst → nx ≤ b → ρ b = none)
    (hev : opR (Sound P) h nx e k v u) {K : Act → World → Prop} {Q : Exit → Act → World → Prop} (hK : ∀ val w' ρ', After N base ρ h w v u val w' ρ' → K (a.put o.dst val) w') : o.wp P a w K Q := by
  have plain : evalOp h nx e k = some (v, u) → o.wp P a w K Q := by
    intro hev
    obtain ⟨val, w', ρ', hrun, h1, h2, h3, h4, h5⟩ := op_sound hk hE R (hn nx (by simp) (Nat.le_refl _)) hev
    have := hK val w' ρ' ⟨h1, h2, h3, h4, h5⟩
    unfold Oper.wp
    rcases hrun with hrun | ⟨hrun, rfl⟩
    · rw [hrun]; exact this
    · rw [hrun]; exact this
  cases k <;> try (exact plain hev)
  · rename_i f args
    simp only [opR] at hev
    obtain ⟨as, hfz, r, hr, hG, hsh, rfl, rfl⟩ := hev
    obtain ⟨c, hoc, hcc, has, hcl⟩ := (compK_call hk).1 f args rfl
    have hargs := mapO_opd hE has
    have hnew : ∀ b, nx ≤ b → b < nx + hr.length → ρ b = none := by
      intro b h1 h2
      refine hn b ?_ h1
      rw [List.mem_cons]
      exact .inr ((newU_keys nx hr 0 b).2 (by omega))
    have main : ∀ A : Nat → Prop, RVs noMap w A as (c.args.map a.eval).toList → ((∀ g, A g → Free N ρ h g) ∨ frR r hr = true) → o.wp P a w K Q := by
      intro A hA hs
      unfold Oper.wp
      rw [exec_call hoc hcc hcl]
      show Calls P f (c.args.map a.eval) w _
      refine (hG w A _ hA).mono ?_
      rintro e w' ⟨val, ρc, rfl, hB, hRc, hv, hdom⟩
      have J : JoinH N A base ρ h w ρc hr w' nx := ⟨R, hB, hRc, hnew, hdom, hs.imp id fun hf => by simp only [frR, Bool.and_eq_true] at hf; exact hf.2⟩
      refine hK val w' (joinM ρ ρc nx hr.length) ⟨J.val hv (hs.imp id fun hf => by simp only [frR, Bool.and_eq_true] at hf; exact hf.1), J.rel, J.keeps, ?_, hB.mono R.hb⟩
      intro b hb
      rw [newU_keys] at hb
      simp only [joinM]
      rw [if_neg (by omega)]
    simp only [Bool.or_eq_true] at hsh
    rcases hsh with hsh | hsh
    · have h0 : refss (args.map (ev e)) = [] := by simpa [noOwn] using hsh
      exact main (Free N ρ h) (by rw [Array.toList_map]; exact frzs_rel R hfz hargs (.inl ⟨h0, fun _ h => h⟩)) (.inl fun _ h => h)
    · exact main (fun _ => True) (by rw [Array.toList_map]; exact frzs_rel R hfz hargs (.inr fun _ => trivial)) (.inr hsh)
  · simp [opR] at hev
  · simp [opR] at hev

end
end Go.AM
