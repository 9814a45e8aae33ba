/-
  THE ABSTRACT MACHINE: contracts; calls; regions.
-/
import Derived.Test.YtiniphmomjnocaaAMJoin
namespace Go.AM
open Go.RowKit (Below)

abbrev noMap : Map := fun _ => none

/-- **A CONTRACT**: called on this data and these roots, wherever they lie, the function returns; what is not its own is as it was; the result and the roots stand for (r, h1). -/
def Sound (P : Program) : Ctr := fun f args h0 r h1 => callable P f = true ∧ ∀ (N : Par) (base : Nat) (w : World) (ρ : Map) (vs : Array Value), Rel N base ρ h0 w → (∀ b, h0.length ≤ b → ρ b = none) →
  RVs ρ w (Free N ρ h0) args vs.toList → (∀ g, N.z g → Free N ρ h0 g) →
  Calls P f vs w fun e w' => ∃ v ρ', e = .returned v ∧ Below base w w' ∧ Rel N base ρ' h1 w' ∧ RV ρ' w' (Free N ρ' h1) r v ∧ (∀ b, h1.length ≤ b → ρ' b = none) ∧ h0.length ≤ h1.length ∧
    (∀ g, g < w.heap.size → ¬ N.a g → w'.heap[g]? = w.heap[g]?) ∧ (∀ g, g < w.heap.size → N.z g → Free N ρ' h1 g ∧ w'.heap[g]? = w.heap[g]?) ∧
    ∀ b r0, b < h0.length → ρ b = some r0 → ∃ r1, ρ' b = some r1 ∧ r1.v = r0.v

/-- the empty heap -/
theorem Rel.empty {N : Par} {base : Nat} {w : World} (hb : base ≤ w.heap.size) (hN : ∀ g, w.heap.size ≤ g → N.a g ∧ N.f g) : Rel N base noMap [] w :=
  ⟨hb, hN, fun b r g hr => (by cases hr), fun b hb => absurd (by simp [gt]) hb, fun b b' r r' g hb => (by cases hb), fun b b' r r' g hb => (by cases hb)⟩

/-- a contract on data alone -/
theorem Sound.data {P : Program} {f : Nat} {args : List AV} {r : AV} {hr : List Blk} (h : Sound P f args [] r hr) (w : World) (A : Nat → Prop) (vs : Array Value) (hv : RVs noMap w A args vs.toList) :
    Calls P f vs w fun e w' => ∃ v ρ, e = .returned v ∧ Below w.heap.size w w' ∧ Rel (calP w A) w.heap.size ρ hr w' ∧ RV ρ w' (Free (calP w A) ρ hr) r v ∧ ∀ b, hr.length ≤ b → ρ b = none := by
  have hk : Keeps noMap w A noMap w (Free (calP w A) noMap []) := ⟨fun b r hb => (by cases hb), fun g _ hg => ⟨⟨.inr hg, fun b r hb => (by cases hb)⟩, rfl⟩⟩
  refine (h.2 (calP w A) w.heap.size w noMap vs (.empty (Nat.le_refl _) fun g hg => ⟨.inl hg, hg⟩) (fun _ _ => rfl) (hv.keep hk) (fun g hg => hg.elim)).mono ?_
  rintro e w' ⟨v, ρ, rfl, h1, h2, h3, h4, _⟩
  exact ⟨v, ρ, rfl, h1, h2, h3, h4⟩

section
variable {P : Program} {N : Par} {base : Nat} {ρ : Map} {h : List Blk} {w : World} {e : Env} {a : Act} {inl : List Nat} {ops : Array Oper}

theorem frzT_rel {F : Nat → Prop} (R : Rel N base ρ h w) {v : AV} {x : T} {val : Value} (hf : frzT h v = some x) (hv : RV ρ w (Free N ρ h) v val) (hF : (refs v = [] ∧ ∀ g, Free N ρ h g → F g) ∨ ∀ g, F g) : ∃ fp, TR w x val fp ∧ ∀ g ∈ fp, F g := by
  cases v <;> try (simp [frzT] at hf; done)
  · simp [frzT] at hf
    subst hf
    cases hv with
    | t hT hf => exact ⟨_, hT, fun g hg => hF.elim (fun h2 => h2.2 g (hf g hg)) fun h2 => h2 g⟩
  · rename_i b
    simp only [frzT] at hf
    split at hf
    · rename_i el sz fr es hb
      cases hf
      rcases hF with hF | hF
      · simp [refs] at hF
      · cases hv with
        | own hr hone =>
          obtain ⟨fp, hT, _, _⟩ := own_TR R hr hb
          exact ⟨fp, hT, fun g _ => hF g⟩
    · cases hf

theorem frzTs_rel {F : Nat → Prop} (R : Rel N base ρ h w) : ∀ {cs : List AV} {ts : List T} {vs : List Value}, frzTs h cs = some ts → RVs ρ w (Free N ρ h) cs vs → ((refss cs = [] ∧ ∀ g, Free N ρ h g → F g) ∨ ∀ g, F g) → ∃ fp, TRs w ts vs fp ∧ ∀ g ∈ fp, F g
  | [], ts, vs, hg, hv, _ => by simp [frzTs] at hg; subst hg; cases hv; exact ⟨[], .nil, fun g hg => by cases hg⟩
  | c :: cs, ts, vs, hg, hv, hF => by
    cases hv with
    | cons h1 h2 =>
      simp only [frzTs] at hg
      split at hg
      · rename_i x xs hx hxs
        cases hg
        obtain ⟨fp, h3, h4⟩ := frzT_rel R hx h1 (hF.imp (fun ⟨q1, q2⟩ => ⟨by simp [refss] at q1; exact q1.1, q2⟩) id)
        obtain ⟨fq, h5, h6⟩ := frzTs_rel R hxs h2 (hF.imp (fun ⟨q1, q2⟩ => ⟨by simp [refss] at q1; exact q1.2, q2⟩) id)
        exact ⟨fp ++ fq, .cons h3 h5, fun g hg => (List.mem_append.1 hg).elim (h4 g) (h6 g)⟩
      · cases hg

theorem frz1_rel {F : Nat → Prop} (R : Rel N base ρ h w) {v d : AV} {val : Value} (hf : frz1 h v = some d) (hv : RV ρ w (Free N ρ h) v val) (hF : (refs v = [] ∧ ∀ g, Free N ρ h g → F g) ∨ ∀ g, F g) : RV noMap w F d val := by
  cases v <;> try (simp [frz1] at hf; done)
  · simp [frz1] at hf
    subst hf
    cases hv
    exact .nilp
  · simp [frz1] at hf
    subst hf
    cases hv with
    | t hT hf => exact .t hT fun g hg => hF.elim (fun h2 => h2.2 g (hf g hg)) fun h2 => h2 g
  · rename_i cs
    simp only [frz1] at hf
    split at hf
    · rename_i ds hds
      cases hf
      cases hv with
      | agg hc h1 =>
        obtain ⟨fp, h3, h4⟩ := frzTs_rel R hds hc (hF.imp (fun ⟨q1, q2⟩ => ⟨by simpa [refs] using q1, q2⟩) id)
        exact .agg (RVs.of_TRs h3 h4) h1
    · cases hf
  · rename_i b off
    simp only [frz1] at hf
    split at hf
    · rename_i cs hb
      split at hf
      · rename_i ts hts
        cases hf
        rcases hF with hF | hF
        · simp [refs] at hF
        · cases hv with
          | ptr hr hv =>
            obtain ⟨r', h1, h2⟩ := R.blk b (by rw [hb]; intro hc; cases hc)
            rw [hr] at h1
            cases h1
            rw [hb] at h2
            obtain ⟨g', c, te, hv2, _, hh, hcs, hone⟩ := h2
            rw [hv] at hv2
            cases hv2
            obtain ⟨fp, h3, h4⟩ := frzTs_rel R hts hcs (.inr hF)
            have hl : ts.length = c.toList.length := h3.length
            have := RV.iptr (ρ := noMap) (F := F) (o := 0) (off := off) hh (hF _) (by rw [List.drop_zero, hl, List.take_length]; exact h3) (fun g _ => hF g)
            simpa using this
      · cases hf
    · cases hf
  · simp [frz1] at hf
    subst hf
    cases hv with
    | iptr hg hF' hc hf => exact .iptr hg (hF.elim (fun h2 => h2.2 _ hF') fun h2 => h2 _) hc fun g hg => hF.elim (fun h2 => h2.2 g (hf g hg)) fun h2 => h2 g
  · rename_i b
    simp only [frz1] at hf
    split at hf
    · rename_i el sz fr es hb
      cases hf
      rcases hF with hF | hF
      · simp [refs] at hF
      · cases hv with
        | own hr hone =>
          obtain ⟨fp, hT, _, _⟩ := own_TR R hr hb
          exact .t hT fun g _ => hF g
    · cases hf

theorem frz1s_rel {F : Nat → Prop} (R : Rel N base ρ h w) : ∀ {vs ds : List AV} {vals : List Value}, frz1s h vs = some ds → RVs ρ w (Free N ρ h) vs vals → ((refss vs = [] ∧ ∀ g, Free N ρ h g → F g) ∨ ∀ g, F g) → RVs noMap w F ds vals
  | [], ds, vals, hf, hv, _ => by simp [frz1s] at hf; subst hf; cases hv; exact .nil
  | v :: vs, ds, vals, hf, hv, hF => by
    cases hv with
    | cons h1 h2 =>
      simp only [frz1s] at hf
      split at hf
      · rename_i x xs hx hxs
        cases hf
        exact .cons (frz1_rel R hx h1 (hF.imp (fun ⟨q1, q2⟩ => ⟨by simp [refss] at q1; exact q1.1, q2⟩) id)) (frz1s_rel R hxs h2 (hF.imp (fun ⟨q1, q2⟩ => ⟨by simp [refss] at q1; exact q1.2, q2⟩) id))
      · cases hf

theorem frz_rel {F : Nat → Prop} (R : Rel N base ρ h w) {v d : AV} {val : Value} (hf : frz h v = some d) (hv : RV ρ w (Free N ρ h) v val) (hF : (refs v = [] ∧ ∀ g, Free N ρ h g → F g) ∨ ∀ g, F g) : RV noMap w F d val := by
  by_cases hx : ∃ g cs, v = .fn g cs
  · obtain ⟨g, cs, rfl⟩ := hx
    simp only [frz] at hf
    split at hf
    · rename_i ds hds
      cases hf
      cases hv with
      | fn hc => exact .fn (frz1s_rel R hds hc (hF.imp (fun ⟨q1, q2⟩ => ⟨by simpa [refs] using q1, q2⟩) id))
    · cases hf
  · have : frz h v = frz1 h v := by
      cases v <;> first | rfl | exact absurd ⟨_, _, rfl⟩ hx
    rw [this] at hf
    exact frz1_rel R hf hv hF

theorem frzs_rel {F : Nat → Prop} (R : Rel N base ρ h w) {vs ds : List AV} {vals : List Value} (hf : frzs h vs = some ds) (hv : RVs ρ w (Free N ρ h) vs vals) (hF : (refss vs = [] ∧ ∀ g, Free N ρ h g → F g) ∨ ∀ g, F g) : RVs noMap w F ds vals := by
  induction vs generalizing ds vals with
  | nil => simp [frzs] at hf; subst hf; cases hv; exact .nil
  | cons v vs ih =>
    cases hv with
    | cons h1 h2 =>
      simp only [frzs] at hf
      split at hf
      · rename_i x xs hx hxs
        cases hf
        exact .cons (frz_rel R hx h1 (hF.imp (fun ⟨q1, q2⟩ => ⟨by simp [refss] at q1; exact q1.1, q2⟩) id)) (ih hxs h2 (hF.imp (fun ⟨q1, q2⟩ => ⟨by simp [refss] at q1; exact q1.2, q2⟩) id))
      · cases hf

theorem run_callFunc {f : Nat} (hc : callable P f = true) (args : Array Value) (w : World) : (callFunc f args).run P w = .ok (.enter f args) w := by
  unfold callable at hc
  split at hc
  · rename_i fn hfn
    simp only [Bool.and_eq_true, bne_iff_ne, ne_eq] at hc
    cases hb : fn.body with
    | none => simp [hb] at hc
    | some c => simp [callFunc, hfn, hc.2, hb]
  · cases hc

/-- an operation and what it leaves: contracts and all that is no call -/
def opR (Γ : Ctr) (h : List Blk) (nx : Nat) (e : Env) (k : MOp) (v : AV) (u : List (Nat × Blk)) : Prop := match k with
  | .call f args => ∃ as, frzs h (args.map (ev e)) = some as ∧ ∃ r hr, Γ f as [] r hr ∧ (noOwn (args.map (ev e)) || frR r hr) = true ∧ v = shift nx r ∧ u = newU nx hr 0
  | .icall f args => mcallW Γ f (args.map (ev e)) h nx fun v' u' => v = v' ∧ u = u'
  | .pcall f args => pcallW Γ f (args.map (ev e)) h nx fun v' u' => v = v' ∧ u = u'
  | .dcall f args => ∃ g caps, ev e f = .fn g caps ∧ mcallW Γ g (args.map (ev e) ++ caps) h nx fun v' u' => v = v' ∧ u = u'
  | k => evalOp h nx e k = some (v, u)

/-- what stands behind such an operation -/
structure After (N : Par) (base : Nat) (ρ : Map) (h : List Blk) (w : World) (v : AV) (u : List (Nat × Blk)) (val : Value) (w' : World) (ρ' : Map) : Prop where
  val : RV ρ' w' (Free N ρ' (upd h u)) v val
  rel : Rel N base ρ' (upd h u) w'
  keeps : Keeps ρ w (Free N ρ h) ρ' w' (Free N ρ' (upd h u))
  same : ∀ b, b ∉ u.map Prod.fst → ρ b = none → ρ' b = none
  below : Below base w w'
  kn : ∀ g, g < w.heap.size → ¬ N.a g → w'.heap[g]? = w.heap[g]?

/-- which operations become calls -/
def named : MOp → Option (Nat × List Opd)
  | .call f args => some (f, args)
  | .icall f args => some (f, args)
  | .pcall f args => some (f, args)
  | _ => none

theorem compK_call {op : Op} {k : MOp} (hk : compK P inl ops op = some k) :
    (∀ f args, named k = some (f, args) → ∃ c, op = .call c ∧ c.callee = .value (.func f) ∧ mapO opd c.args.toList = some args ∧ callable P f = true) ∧
    (∀ x args, k = .dcall x args → ∃ c y, op = .call c ∧ c.callee = .value y ∧ opd y = some x ∧ mapO opd c.args.toList = some args) := by
  cases op with
  | call c =>
    obtain ⟨callee, as, ts⟩ := c
    cases callee with
    | invoke r m => simp [compK] at hk
    | builtin b =>
      have : named k = none ∧ (∀ x args, k ≠ .dcall x args) := by
        cases b <;> simp only [compK] at hk <;> (repeat' split at hk) <;> first
          | cases hk; done
          | (cases hk; exact ⟨rfl, by simp⟩)
          | (obtain ⟨_, _, rfl⟩ := Option.map_eq_some_iff.1 hk; exact ⟨rfl, by simp⟩)
      exact ⟨fun f args h => (by rw [this.1] at h; cases h), fun x args h => absurd h (this.2 x args)⟩
    | value y =>
      cases y with
      | func f =>
        simp only [compK] at hk
        split at hk
        · rename_i hc
          obtain ⟨as', h1, h2⟩ := Option.map_eq_some_iff.1 hk
          have hn : named k = some (f, as') ∧ ∀ x args, k ≠ .dcall x args := by
            subst h2
            split
            · exact ⟨rfl, by simp⟩
            · split
              · exact ⟨rfl, by simp⟩
              · exact ⟨rfl, by simp⟩
          refine ⟨fun f' args hq => ?_, fun x args hq => absurd hq (hn.2 x args)⟩
          rw [hn.1] at hq
          cases hq
          exact ⟨_, rfl, rfl, h1, hc⟩
        · cases hk
      | tmp t =>
        simp only [compK] at hk
        split at hk
        · rename_i x as' hx has
          cases hk
          refine ⟨by simp [named], ?_⟩
          intro x' args hq
          cases hq
          exact ⟨_, _, rfl, rfl, hx, has⟩
        · cases hk
      | const v =>
        simp only [compK] at hk
        split at hk
        · rename_i x as' hx has
          cases hk
          refine ⟨by simp [named], ?_⟩
          intro x' args hq
          cases hq
          exact ⟨_, _, rfl, rfl, hx, has⟩
        · cases hk
      | global g =>
        simp only [compK] at hk
        split at hk
        · rename_i x as' hx has
          simp [opd] at hx
        · cases hk
  | makeFunc fn first caps =>
    have : named k = none ∧ (∀ x args, k ≠ .dcall x args) := by
      cases fn <;> simp only [compK] at hk <;> (repeat' split at hk) <;> first
        | (cases hk; done)
        | (cases hk; exact ⟨rfl, by simp⟩)
        | (obtain ⟨_, _, rfl⟩ := Option.map_eq_some_iff.1 hk; exact ⟨rfl, by simp⟩)
    exact ⟨fun f args h => (by rw [this.1] at h; cases h), fun x args h => absurd h (this.2 x args)⟩
  | slice t x lo hi mx =>
    have : named k = none ∧ (∀ x args, k ≠ .dcall x args) := by
      cases mx <;> simp only [compK] at hk <;> (repeat' split at hk) <;> first
        | (cases hk; done)
        | (cases hk; exact ⟨rfl, by simp⟩)
        | (obtain ⟨_, _, rfl⟩ := Option.map_eq_some_iff.1 hk; exact ⟨rfl, by simp⟩)
    exact ⟨fun f args h => (by rw [this.1] at h; cases h), fun x args h => absurd h (this.2 x args)⟩
  | _ =>
    have : named k = none ∧ (∀ x args, k ≠ .dcall x args) := by
      simp only [compK] at hk <;> (repeat' split at hk) <;> first
        | (cases hk; done)
        | (cases hk; exact ⟨rfl, by simp⟩)
        | (obtain ⟨_, _, rfl⟩ := Option.map_eq_some_iff.1 hk; exact ⟨rfl, by simp⟩)
    exact ⟨fun f args h => (by rw [this.1] at h; cases h), fun x args h => absurd h (this.2 x args)⟩

theorem exec_call {o : Oper} {c : Call} {f : Nat} (ho : o.op = .call c) (hc : c.callee = .value (.func f)) (hcl : callable P f = true) (w : World) : (execOp a.eval o).run P w = .ok (.enter f (c.args.map a.eval)) w := by
  unfold execOp
  rw [ho]
  simp [resolve, hc, Act.eval, Deferred.ofValue, invoke, run_callFunc hcl]

/-- a call by contract -/
theorem contract_sound {o : Oper} (R : Rel N base ρ h w) {nx : Nat} {f : Nat} {vs as : List AV} {vals : Array Value} (hargs : RVs ρ w (Free N ρ h) vs vals.toList) {r : AV} {hr : List Blk} (hu : ∀ b, b ∈ (newU nx hr 0).map Prod.fst → nx ≤ b → ρ b = none)
    (hfz : frzs h vs = some as) (hG : Sound P f as [] r hr) (hsh : (noOwn vs || frR r hr) = true) (hex : (execOp a.eval o).run P w = .ok (.enter f vals) w)
    {K : Act → World → Prop} {Q : Exit → Act → World → Prop} (hK : ∀ val w' ρ', After N base ρ h w (shift nx r) (newU nx hr 0) val w' ρ' → K (a.put o.dst val) w') : o.wp P a w K Q := by
  have hnew : ∀ b, nx ≤ b → b < nx + hr.length → ρ b = none := by
    intro b h1 h2
    refine hu b ?_ h1
    exact (newU_keys nx hr 0 b).2 (by omega)
  have main : ∀ A : Nat → Prop, RVs noMap w A as vals.toList → ((∀ g, A g → Free N ρ h g) ∨ frR r hr = true) → o.wp P a w K Q := by
    intro A hA hs
    unfold Oper.wp
    rw [hex]
    show Calls P f vals w _
    refine (hG.data w A _ hA).mono ?_
    rintro e w' ⟨val, ρc, rfl, hB, hRc, hv, hdom⟩
    have J : JoinH N A base ρ h w ρc hr w' nx := ⟨R, hB, hRc, hnew, hdom, hs.imp id fun hf => by simp only [frR, Bool.and_eq_true] at hf; exact hf.2⟩
    refine hK val w' (joinM ρ ρc nx hr.length) ⟨J.val hv (hs.imp id fun hf => by simp only [frR, Bool.and_eq_true] at hf; exact hf.1), J.rel, J.keeps, ?_, hB.mono R.hb, fun g hg _ => hB.block g hg⟩
    intro b hb hb0
    rw [newU_keys] at hb
    simp only [joinM]
    rw [if_neg (by omega)]
    exact hb0
  simp only [Bool.or_eq_true] at hsh
  rcases hsh with hsh | hsh
  · have h0 : refss vs = [] := by simpa [noOwn] using hsh
    exact main (Free N ρ h) (frzs_rel R hfz hargs (.inl ⟨h0, fun _ h => h⟩)) (.inl fun _ h => h)
  · exact main (fun _ => True) (frzs_rel R hfz hargs (.inr fun _ => trivial)) (.inr hsh)

end
end Go.AM
