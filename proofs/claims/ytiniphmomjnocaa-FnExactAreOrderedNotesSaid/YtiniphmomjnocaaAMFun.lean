/-
  THE ABSTRACT MACHINE: functions and contracts.
-/
import Derived.Test.YtiniphmomjnocaaAMTop
namespace Go.AM
open Go.RowKit (Below)

section
variable {P : Program} {N : Par} {base : Nat} {w0 : World} {nt : Nat} {ts : List (Array Value)} {inl : List Nat}

def resSem (tmps : Array Value) : ResultVar → Sem Value
  | .tmp t => pure (tmps.getD t undef)
  | .cell ad t => do loadVar t (← asAddr (tmps.getD ad undef))

theorem results_eq (fn : Func) (tmps : Array Value) : results fn tmps = (do let vs ← fn.results.mapM (resSem tmps); pure (if h : vs.size = 1 then vs[0] else .tuple vs)) := by
  unfold results
  congr 1

theorem resOne_sound {ρ : Map} {s : S} {a : Act} {w : World} (hS : RelS N base w0 nt ts ρ s a w) {rv : ResultVar} {r : Res} (hc : compRes P rv = some r) {v : AV} (hv : resOne s r = some v) :
    ∃ val, (resSem a.tmps rv).run P w = .ok val w ∧ RV ρ w (Free N ρ s.h) v val := by
  cases rv with
  | tmp t =>
    simp [compRes] at hc
    subst hc
    simp [resOne] at hv
    subst hv
    exact ⟨_, rfl, hS.env t⟩
  | cell ad t =>
    simp only [compRes] at hc
    obtain ⟨n, hn, rfl⟩ := Option.map_eq_some_iff.1 hc
    simp only [resOne] at hv
    split at hv
    · rename_i b off hb
      split at hv
      · rename_i cs hgb
        have hr := hS.env ad
        rw [hb] at hr
        obtain ⟨p, hp⟩ : ∃ g, a.tmps.getD ad undef = .pointer (some ⟨g, off, none⟩) ∧ ∃ r, ρ b = some r ∧ r.v = .pointer (some ⟨g, 0, none⟩) := by
          generalize a.tmps.getD ad undef = x at hr
          cases hr with
          | ptr h1 h2 => exact ⟨_, rfl, _, h1, h2⟩
        obtain ⟨hp1, r, hr1, hr2⟩ := hp
        obtain ⟨r', h1, h2⟩ := hS.rel.blk b (by rw [hgb]; intro hc; cases hc)
        rw [hr1] at h1
        cases h1
        rw [hgb] at h2
        obtain ⟨g', c, te, hv2, _, hh, hcs, hone⟩ := h2
        rw [hr2] at hv2
        cases hv2
        obtain ⟨val, h3, h4⟩ := loadA_sound (P := P) hn hh hcs hone hv
        exact ⟨val, by simp only [resSem, Sem.run_bind, hp1, asAddr, Sem.run_pure, Result.andThen_ok, h3], h4⟩
      · cases hv
    · cases hv

theorem resAll_sound {ρ : Map} {s : S} {a : Act} {w : World} (hS : RelS N base w0 nt ts ρ s a w) : ∀ (l : List ResultVar) (rs : List Res), mapO (compRes P) l = some rs → ∀ vs, resAll s rs = some vs →
    ∃ vals, (l.mapM (resSem a.tmps)).run P w = .ok vals w ∧ RVs ρ w (Free N ρ s.h) vs vals
  | [], rs, hm, vs, hv => by cases hm; simp [resAll] at hv; subst hv; exact ⟨[], by simp, .nil⟩
  | rv :: l, rs, hm, vs, hv => by
    obtain ⟨r, rs', h1, h2, rfl⟩ := mapO_cons hm
    simp only [resAll] at hv
    split at hv
    · rename_i v vs' h3 h4
      cases hv
      obtain ⟨val, h5, h6⟩ := resOne_sound hS h1 h3
      obtain ⟨vals, h7, h8⟩ := resAll_sound hS l rs' h2 vs' h4
      refine ⟨val :: vals, ?_, .cons h6 h8⟩
      simp only [List.mapM_cons, Sem.run_bind]
      rw [h5]
      simp only [Result.andThen_ok]
      rw [h7]
      simp
    · cases hv

theorem resAV_sound {ρ : Map} {s : S} {a : Act} {w : World} (hS : RelS N base w0 nt ts ρ s a w) {fn : Func} {rs : List Res} (hm : mapO (compRes P) fn.results.toList = some rs) {v : AV} (hv : resAV rs s = some v) :
    ∃ val, (results fn a.tmps).run P w = .ok val w ∧ RV ρ w (Free N ρ s.h) v val := by
  unfold resAV at hv
  have key : ∀ vs, resAll s rs = some vs → ∃ vals, (fn.results.mapM (resSem a.tmps)).run P w = .ok vals.toArray w ∧ RVs ρ w (Free N ρ s.h) vs vals := by
    intro vs hvs
    obtain ⟨vals, h1, h2⟩ := resAll_sound hS fn.results.toList rs hm vs hvs
    refine ⟨vals, ?_, h2⟩
    rw [Array.mapM_eq_mapM_toList]
    simp only [Sem.run_map]
    rw [h1]
    rfl
  split at hv
  · rename_i v' hvs
    cases hv
    obtain ⟨vals, h1, h2⟩ := key _ hvs
    have hl := h2.length
    match vals, hl, h1, h2 with
    | [val], _, h1, h2 =>
      cases h2 with
      | cons h3 _ =>
        refine ⟨val, ?_, h3⟩
        rw [results_eq, Sem.run_bind, h1]
        simp
  · rename_i vs hne hvs
    cases hv
    obtain ⟨vals, h1, h2⟩ := key _ hvs
    have hl := h2.length
    refine ⟨.tuple vals.toArray, ?_, .tup (by simpa using h2)⟩
    rw [results_eq, Sem.run_bind, h1]
    have hn1 : vals.length ≠ 1 := by
      intro hc
      rw [hc] at hl
      match vs, hl, hne with
      | [v0], _, hne => exact hne v0 rfl
    simp [hn1]
  · cases hv

theorem lk_initE (args : List AV) (k i : Nat) : lk (k + i) (initE args k) = (args[i]?).getD .top := by
  induction args generalizing k i with
  | nil => rfl
  | cons v args ih =>
    simp only [initE, lk]
    cases i with
    | zero => simp
    | succ i =>
      rw [if_neg (by omega)]
      have := ih (k + 1) i
      rw [show k + 1 + i = k + (i + 1) by omega] at this
      simpa using this

theorem init_env {ρ : Map} {w : World} {F : Nat → Prop} {args : List AV} {vs : Array Value} (hv : RVs ρ w F args vs.toList) (n : Nat) : RelEnv ρ w F (initE args 0) (vs ++ Array.replicate n undef) := by
  intro s
  have h1 := lk_initE args 0 s
  rw [Nat.zero_add] at h1
  rw [h1]
  cases hs : args[s]? with
  | none => exact .top _
  | some a =>
    obtain ⟨v, h2, h3⟩ := hv.at hs
    have h2' : vs[s]? = some v := by simpa using h2
    have hlt : s < vs.size := (Array.getElem?_eq_some_iff.1 h2').1
    have : (vs ++ Array.replicate n undef).getD s undef = v := by
      rw [Array.getD_eq_getD_getElem?, Array.getElem?_append_left hlt, h2']
      rfl
    rw [this]
    exact h3

theorem compF_spec {ks : List (List Nat)} {fn : Func} {m : MFun} (hc : compF P inl ks fn = some m) : ∃ c, fn.body = some c ∧ comp P inl fn.ntmps c ks = some (m.body, []) ∧ mapO (compRes P) fn.results.toList = some m.res ∧ m.nt = fn.ntmps ∧ m.np ≤ m.nt := by
  unfold compF at hc
  split at hc
  · rename_i c hb
    split at hc
    · rename_i b rs h1 h2
      split at hc
      · rename_i hle
        cases hc
        exact ⟨c, hb, h1, h2, rfl, hle⟩
      · cases hc
    · cases hc
  · cases hc

theorem body_sound {Γ : Ctr} (hΓ : Γ = Sound P) {f : Nat} {fn : Func} {m : MFun} {ks : List (List Nat)} (hf : P.funcs[f]? = some fn) (hc : compF P inl ks fn = some m) {args : List AV} (hl : args.length = m.np) {s : S} {K : AV → S → Prop}
    (hW : Wc Γ m.body (bodyQ m.res K) { s with env := initE args 0 }) {vs : Array Value} {w : World} {ρ : Map} (hR : Rel N base ρ s.h w) (hst : StkRel ρ w (Free N ρ s.h) s.stk ts) (hdom : ∀ b, s.h.length ≤ b → ρ b = none)
    (hv : RVs ρ w (Free N ρ s.h) args vs.toList) (hz : ∀ g, N.z g → Free N ρ s.h g) :
    Calls P f vs w fun e w' => ∃ val v s' ρ', e = .returned val ∧ K v s' ∧ RV ρ' w' (Free N ρ' s'.h) v val ∧ Rel N base ρ' s'.h w' ∧ StkRel ρ' w' (Free N ρ' s'.h) s'.stk ts ∧ (∀ b, s'.h.length ≤ b → ρ' b = none) ∧ Below base w w' ∧
      (∀ g, g < w.heap.size → ¬ N.a g → w'.heap[g]? = w.heap[g]?) ∧ ∀ g, g < w.heap.size → N.z g → Free N ρ' s'.h g ∧ w'.heap[g]? = w.heap[g]? := by
  obtain ⟨c, hb, hcc, hres, hnt, hnp⟩ := compF_spec hc
  have hvl := hv.length
  simp only [Array.length_toList] at hvl
  refine calls_of_wp hf hb (wp_mono (Wc_sound (N := N) (base := base) (w0 := w) (ts := ts) hΓ c ks m.body [] hcc _ _ _ w ρ hW ⟨hR, init_env hv _, hst, hdom, rfl, by simp; omega, Below.refl _ _, fun _ _ _ => rfl, fun g _ hg => ⟨hz g hg, rfl⟩⟩) ?_)
  intro e a' w' hq
  have fin : ∀ s' ρ', bodyQ m.res K .n s' → RelS N base w fn.ntmps ts ρ' s' a' w' → a'.defers = [] ∧ ∃ v, (results fn a'.tmps).run P w' = .ok v w' ∧ ∃ val v_1 s' ρ', Ending.returned v = .returned val ∧ K v_1 s' ∧ RV ρ' w' (Free N ρ' s'.h) v_1 val ∧ Rel N base ρ' s'.h w' ∧
      StkRel ρ' w' (Free N ρ' s'.h) s'.stk ts ∧ (∀ b, s'.h.length ≤ b → ρ' b = none) ∧ Below base w w' ∧ (∀ g, g < w.heap.size → ¬ N.a g → w'.heap[g]? = w.heap[g]?) ∧ ∀ g, g < w.heap.size → N.z g → Free N ρ' s'.h g ∧ w'.heap[g]? = w.heap[g]? := by
    intro s' ρ' hQ hS
    simp only [bodyQ] at hQ
    split at hQ
    · rename_i v hvr
      obtain ⟨val, h1, h2⟩ := resAV_sound hS hres hvr
      exact ⟨hS.defers, val, h1, val, v, s', ρ', rfl, hQ, h2, hS.rel, hS.stk, hS.dom, hS.below, hS.kn, hS.fz⟩
    · exact hQ.elim
  cases e with
  | normal => obtain ⟨s', ρ', h1, h2⟩ := hq; exact fin s' ρ' h1 h2
  | ret => obtain ⟨s', ρ', h1, h2⟩ := hq; exact fin s' ρ' h1 h2
  | exit id => obtain ⟨s', ρ', h1, h2⟩ := hq; exact h1.elim
  | goto l => exact hq.elim
  | panic ch => exact hq.elim
  | outgrown => exact hq.elim

/-! ### the roots handed over -/

theorem reach_pre {h : List Blk} : ∀ (n : Nat) (todo acc : List Nat), ∃ more, reach h n todo acc = acc ++ more
  | 0, _, acc => ⟨[], by simp [reach]⟩
  | n + 1, [], acc => ⟨[], by simp [reach]⟩
  | n + 1, c :: todo, acc => by
    simp only [reach]
    split
    · exact reach_pre n todo acc
    · obtain ⟨more, hm⟩ := reach_pre (h := h) n (refsB (gt h c) ++ todo) (acc ++ [c])
      exact ⟨c :: more, by rw [hm]; simp⟩

theorem lk_rootsE : ∀ (bs : List Blk) (k i : Nat), lk (k + i) (rootsE bs k) = match bs[i]? with | some (.box _) => .ptr (k + i) 0 | some (.arr _ _ _ _) => .own (k + i) | _ => .top
  | [], k, i => by simp [rootsE, lk]
  | b :: bs, k, 0 => by cases b <;> simp [rootsE, lk]
  | b :: bs, k, i + 1 => by
    simp only [rootsE, lk]
    rw [if_neg (by omega)]
    have := lk_rootsE bs (k + 1) i
    rw [show k + 1 + i = k + (i + 1) by omega] at this
    simpa using this

theorem lk_rootsE_lt : ∀ (bs : List Blk) (k s : Nat), s < k → lk s (rootsE bs k) = .top
  | [], k, s, _ => rfl
  | b :: bs, k, s, h => by
    simp only [rootsE, lk]
    rw [if_neg (by omega)]
    exact lk_rootsE_lt bs (k + 1) s (by omega)

/-- the values of the roots handed over -/
def rootVals (ρ : Map) (k : Nat) : Array Value := ((List.range k).map fun i => match ρ i with | some r => r.v | none => undef).toArray

theorem rootVals_at {ρ : Map} {k i : Nat} {r : Root} (hi : i < k) (hr : ρ i = some r) : (rootVals ρ k).getD i undef = r.v := by
  simp [rootVals, hi, hr]

theorem roots_env {ρ : Map} {h0 : List Blk} {w : World} (R : Rel N base ρ h0 w) : RelEnv ρ w (Free N ρ h0) (rootsE h0 0) (rootVals ρ h0.length) := by
  intro i
  have := lk_rootsE h0 0 i
  rw [Nat.zero_add] at this
  rw [this]
  cases hb : h0[i]? with
  | none => exact .top _
  | some b =>
    have hi : i < h0.length := (List.getElem?_eq_some_iff.1 hb).1
    have hg : gt h0 i = b := by simp [gt, hb]
    cases b with
    | dead => exact .top _
    | box cs =>
      obtain ⟨r, h1, h2⟩ := R.blk i (by rw [hg]; intro hc; cases hc)
      rw [hg] at h2
      obtain ⟨g, c, e, h3, _⟩ := h2
      rw [rootVals_at hi h1, h3]
      exact .ptr h1 h3
    | arr e sz fr es =>
      obtain ⟨r, h1, h2⟩ := R.blk i (by rw [hg]; intro hc; cases hc)
      rw [hg] at h2
      obtain ⟨xs, h3, _⟩ := h2
      rw [rootVals_at hi h1]
      exact .own h1 (ownsRow_one h3)

theorem canonR_sound {ρ0 ρ : Map} {s : S} {w : World} {v : AV} {val : Value} {k : Nat} (R : Rel N base ρ s.h w) (hv : RV ρ w (Free N ρ s.h) v val) (hdom : ∀ b, s.h.length ≤ b → ρ b = none) {e : Env} (hstk : s.stk = [e]) (hE : RelEnv ρ w (Free N ρ s.h) e (rootVals ρ0 k))
    {r : AV} {hr : List Blk} (hc : canonR k v s = some (r, hr)) :
    ∃ ρ', Rel N base ρ' hr w ∧ RV ρ' w (Free N ρ' hr) r val ∧ (∀ b, hr.length ≤ b → ρ' b = none) ∧ k ≤ hr.length ∧ (∀ g, Free N ρ s.h g → Free N ρ' hr g) ∧ ∀ b r0, b < k → ρ0 b = some r0 → ∃ r1, ρ' b = some r1 ∧ r1.v = r0.v := by
  unfold canonR at hc
  simp only [hstk] at hc
  split at hc
  · rename_i hcond
    simp only [Bool.and_eq_true] at hcond
    obtain ⟨hcl, hndB⟩ := hcond
    obtain ⟨h1, h2⟩ := closedB_spec hcl
    have hnd0 : ((List.range k).map (rootNow s.h e)).Nodup := nodupB_iff.1 hndB
    have hnd := reach_nodup (h := s.h) 200 ((((List.range k).map (rootNow s.h e)).flatMap fun b => refsB (gt s.h b)) ++ refs (scrub s.h v)) ((List.range k).map (rootNow s.h e)) hnd0
    obtain ⟨more, hpre⟩ := reach_pre (h := s.h) 200 ((((List.range k).map (rootNow s.h e)).flatMap fun b => refsB (gt s.h b)) ++ refs (scrub s.h v)) ((List.range k).map (rootNow s.h e))
    generalize reach s.h 200 ((((List.range k).map (rootNow s.h e)).flatMap fun b => refsB (gt s.h b)) ++ refs (scrub s.h v)) ((List.range k).map (rootNow s.h e)) = ids at *
    cases hc
    have hat : ∀ i, i < k → ids[i]? = some (rootNow s.h e i) := by
      intro i hi
      rw [hpre, List.getElem?_append_left (by simpa using hi)]
      simp [hi]
    have hkl : k ≤ ids.length := by rw [hpre]; simp
    -- where a root handed over is
    have hroot : ∀ i r0, i < k → ρ0 i = some r0 → ρ (rootNow s.h e i) = none ∨ ∃ r1, ρ (rootNow s.h e i) = some r1 ∧ r1.v = r0.v := by
      intro i r0 hi hr0
      have hEi := (hE i).scrub (h := s.h)
      rw [rootVals_at hi hr0] at hEi
      unfold rootNow
      cases hx : scrub s.h (lk i e) with
      | ptr b off =>
        rw [hx] at hEi
        cases off with
        | zero =>
          right
          generalize hr0v : r0.v = x at hEi
          cases hEi with
          | ptr q1 q2 => exact ⟨_, q1, q2⟩
        | succ off => left; exact hdom _ (by simp)
      | own b =>
        rw [hx] at hEi
        right
        generalize hr0v : r0.v = x at hEi
        cases hEi with
        | own q1 q2 => exact ⟨_, q1, rfl⟩
      | _ => left; exact hdom _ (by simp)
    let ρ' : Map := fun b => if hb : b < k ∧ renM ρ ids b = none then ρ0 b else renM ρ ids b
    have hlive : ∀ b, gt (ids.map fun b => renB (fun b => idx b ids 0) (gt s.h b)) b ≠ .dead → ρ' b = renM ρ ids b := by
      intro b hb
      obtain ⟨r1, q1, _⟩ := (R.ren hnd h2).blk b hb
      show (if hb : b < k ∧ renM ρ ids b = none then ρ0 b else renM ρ ids b) = renM ρ ids b
      rw [dif_neg (by rw [q1]; simp)]
    have hsome : ∀ b r, renM ρ ids b = some r → ρ' b = some r := by
      intro b r hb
      show (if hb : b < k ∧ renM ρ ids b = none then ρ0 b else renM ρ ids b) = some r
      rw [dif_neg (by rw [hb]; simp)]
      exact hb
    have hFree : ∀ g, Free N (renM ρ ids) (ids.map fun b => renB (fun b => idx b ids 0) (gt s.h b)) g → Free N ρ' (ids.map fun b => renB (fun b => idx b ids 0) (gt s.h b)) g := by
      intro g hg
      refine ⟨hg.1, fun b r hb hd => ?_⟩
      rw [hlive b hd] at hb
      exact hg.2 b r hb hd
    have hKp : Keeps (renM ρ ids) w (Free N (renM ρ ids) (ids.map fun b => renB (fun b => idx b ids 0) (gt s.h b))) ρ' w (Free N ρ' (ids.map fun b => renB (fun b => idx b ids 0) (gt s.h b))) :=
      ⟨fun b r hb => ⟨r, hsome b r hb, rfl⟩, fun g _ hg => ⟨hFree g hg, rfl⟩⟩
    have R' := R.ren hnd h2
    refine ⟨ρ', ⟨R'.hb, R'.hN, ?_, ?_, ?_, ?_⟩, ?_, ?_, by simpa using hkl, fun g hg => hFree g (free_ren hg), ?_⟩
    · intro b r g hb hd
      rw [hlive b hd] at hb
      exact R'.hO b r g hb hd
    · intro b hd
      obtain ⟨r1, q1, q2⟩ := R'.blk b hd
      exact ⟨r1, hsome b r1 q1, q2.keep hKp fun _ _ => rfl⟩
    · intro b b' r1 r2 g hb hb' hd hd'
      rw [hlive b hd] at hb
      rw [hlive b' hd'] at hb'
      exact R'.inj b b' r1 r2 g hb hb' hd hd'
    · intro b b' r1 r2 g hb hb' hf hf'
      rw [hlive b (fresh_live hf)] at hb
      rw [hlive b' (fresh_live hf')] at hb'
      exact R'.apart b b' r1 r2 g hb hb' hf hf'
    · refine RV.keep hKp ((hv.scrub (h := s.h)).ren _ (fun b hb r hr => ?_) fun g _ hg => free_ren hg)
      rw [renM_idx (h1 b (List.mem_append.2 (.inr hb)))]
      exact hr
    · intro b hb
      simp only [List.length_map] at hb
      show (if hb : b < k ∧ renM ρ ids b = none then ρ0 b else renM ρ ids b) = none
      rw [dif_neg (by omega)]
      exact renM_none hb
    · intro b r0 hb hr0
      rcases hroot b r0 hb hr0 with hn | ⟨r1, q1, q2⟩
      · refine ⟨r0, ?_, rfl⟩
        show (if hb : b < k ∧ renM ρ ids b = none then ρ0 b else renM ρ ids b) = some r0
        rw [dif_pos ⟨hb, by simp [renM, hat b hb, hn]⟩]
        exact hr0
      · exact ⟨r1, hsome b r1 (by simp [renM, hat b hb, q1]), q2⟩
  · cases hc

def TblOK (P : Program) (tbl : Nat → Option MFun) : Prop := ∀ f m, tbl f = some m → ∃ fn ks inl, P.funcs[f]? = some fn ∧ compF P inl ks fn = some m ∧ callable P f = true

/-- **FROM THE ABSTRACT RUN TO THE CONTRACT.** -/
theorem sound_of {f : Nat} {fn : Func} {m : MFun} {ks : List (List Nat)} (hf : P.funcs[f]? = some fn) (hcl : callable P f = true) (hc : compF P inl ks fn = some m) {args : List AV} {h0 : List Blk} {r : AV} {hr : List Blk}
    (hW : FW (Sound P) m args h0 r hr) : Sound P f args h0 r hr := by
  refine ⟨hcl, ?_⟩
  intro N base w ρ vs hR hdom hv hz
  have hb := body_sound (N := N) (base := base) (ts := [rootVals ρ h0.length]) rfl hf hc hW.1 (s := { env := [], stk := [rootsE h0 0], h := h0 }) hW.2 hR ⟨roots_env hR, trivial⟩ hdom hv hz
  refine hb.mono ?_
  rintro e w' ⟨val, v, s', ρ1, rfl, hK, hv', hR', hst, hdom', hB, hkn, hfz⟩
  match hs : s'.stk, hst with
  | [e], hst =>
    obtain ⟨ρ2, h1, h2, h3, h4, h5, h6⟩ := canonR_sound hR' hv' hdom' hs hst.1 hK
    exact ⟨val, ρ2, rfl, hB, h1, h2, h3, h4, hkn, fun g hg hz' => ⟨h5 g (hfz g hg hz').1, (hfz g hg hz').2⟩, h6⟩

end
end Go.AM
