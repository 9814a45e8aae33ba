/-
  THE ABSTRACT MACHINE: functions and contracts.
-/
import Derived.Test.YtlnnmndebmkdhaaAMTop
namespace Go.AM
open Go.RowKit (Below)

section
variable {P : Program} {N : Nat → Prop} {base : Nat} {w0 : World} {nt : Nat} {ts : List (Array Value)} {inl : List Nat}

def resSem (tmps : Array Value) : ResultVar → Sem Value
  | .tmp t => pure (tmps.getD t undef)
  | .cell ad t => do loadVar t (← asAddr (tmps.getD ad undef))

theorem results_eq (fn : Func) (tmps : Array Value) : results fn tmps = (do let vs ← fn.results.mapM (resSem tmps); pure (if h : vs.size = 1 then vs[0] else .tuple vs)) := by
  unfold results
  congr 1

theorem resOne_sound {ρ : Map} {s : S} {a : Act} {w : World} (hS : RelS N base w0 nt ts ρ s a w) {rv : ResultVar} {r : Res} (hc : compRes P rv = some r) {v : AV} (hv : resOne s r = some v) :
    ∃ val, (resSem a.tmps rv).run P w = .ok val w ∧ RV ρ w (Free N ρ s.h) v val := by
  cases rv with
  | tmp t =>
    simp [compRes] at hc
    subst hc
    simp [resOne] at hv
    subst hv
    exact ⟨_, rfl, hS.env t⟩
  | cell ad t =>
    simp only [compRes] at hc
    obtain ⟨n, hn, rfl⟩ := Option.map_eq_some_iff.1 hc
    simp only [resOne] at hv
    split at hv
    · rename_i b off hb
      split at hv
      · rename_i cs hgb
        have hr := hS.env ad
        rw [hb] at hr
        obtain ⟨p, hp⟩ : ∃ g, a.tmps.getD ad undef = .pointer (some ⟨g, off, none⟩) ∧ ∃ r, ρ b = some r ∧ r.v = .pointer (some ⟨g, 0, none⟩) := by
          generalize a.tmps.getD ad undef = x at hr
          cases hr with
          | ptr h1 h2 => exact ⟨_, rfl, _, h1, h2⟩
        obtain ⟨hp1, r, hr1, hr2⟩ := hp
        obtain ⟨r', h1, h2⟩ := hS.rel.blk b (by rw [hgb]; intro hc; cases hc)
        rw [hr1] at h1
        cases h1
        rw [hgb] at h2
        obtain ⟨g', c, te, hv2, _, hh, hcs, hone⟩ := h2
        rw [hr2] at hv2
        cases hv2
        obtain ⟨val, h3, h4⟩ := loadA_sound (P := P) hn hh hcs hone hv
        exact ⟨val, by simp only [resSem, Sem.run_bind, hp1, asAddr, Sem.run_pure, Result.andThen_ok, h3], h4⟩
      · cases hv
    · cases hv

theorem resAll_sound {ρ : Map} {s : S} {a : Act} {w : World} (hS : RelS N base w0 nt ts ρ s a w) : ∀ (l : List ResultVar) (rs : List Res), mapO (compRes P) l = some rs → ∀ vs, resAll s rs = some vs →
    ∃ vals, (l.mapM (resSem a.tmps)).run P w = .ok vals w ∧ RVs ρ w (Free N ρ s.h) vs vals
  | [], rs, hm, vs, hv => by cases hm; simp [resAll] at hv; subst hv; exact ⟨[], by simp, .nil⟩
  | rv :: l, rs, hm, vs, hv => by
    obtain ⟨r, rs', h1, h2, rfl⟩ := mapO_cons hm
    simp only [resAll] at hv
    split at hv
    · rename_i v vs' h3 h4
      cases hv
      obtain ⟨val, h5, h6⟩ := resOne_sound hS h1 h3
      obtain ⟨vals, h7, h8⟩ := resAll_sound hS l rs' h2 vs' h4
      refine ⟨val :: vals, ?_, .cons h6 h8⟩
      simp only [List.mapM_cons, Sem.run_bind]
      rw [h5]
      simp only [Result.andThen_ok]
      rw [h7]
      simp
    · cases hv

theorem resAV_sound {ρ : Map} {s : S} {a : Act} {w : World} (hS : RelS N base w0 nt ts ρ s a w) {fn : Func} {rs : List Res} (hm : mapO (compRes P) fn.results.toList = some rs) {v : AV} (hv : resAV rs s = some v) :
    ∃ val, (results fn a.tmps).run P w = .ok val w ∧ RV ρ w (Free N ρ s.h) v val := by
  unfold resAV at hv
  have key : ∀ vs, resAll s rs = some vs → ∃ vals, (fn.results.mapM (resSem a.tmps)).run P w = .ok vals.toArray w ∧ RVs ρ w (Free N ρ s.h) vs vals := by
    intro vs hvs
    obtain ⟨vals, h1, h2⟩ := resAll_sound hS fn.results.toList rs hm vs hvs
    refine ⟨vals, ?_, h2⟩
    rw [Array.mapM_eq_mapM_toList]
    simp only [Sem.run_map]
    rw [h1]
    rfl
  split at hv
  · rename_i v' hvs
    cases hv
    obtain ⟨vals, h1, h2⟩ := key _ hvs
    have hl := h2.length
    match vals, hl, h1, h2 with
    | [val], _, h1, h2 =>
      cases h2 with
      | cons h3 _ =>
        refine ⟨val, ?_, h3⟩
        rw [results_eq, Sem.run_bind, h1]
        simp
  · rename_i vs hne hvs
    cases hv
    obtain ⟨vals, h1, h2⟩ := key _ hvs
    have hl := h2.length
    refine ⟨.tuple vals.toArray, ?_, .tup (by simpa using h2)⟩
    rw [results_eq, Sem.run_bind, h1]
    have hn1 : vals.length ≠ 1 := by
      intro hc
      rw [hc] at hl
      match vs, hl, hne with
      | [v0], _, hne => exact hne v0 rfl
    simp [hn1]
  · cases hv

theorem lk_initE (args : List AV) (k i : Nat) : lk (k + i) (initE args k) = (args[i]?).getD .top := by
  induction args generalizing k i with
  | nil => rfl
  | cons v args ih =>
    simp only [initE, lk]
    cases i with
    | zero => simp
    | succ i =>
      rw [if_neg (by omega)]
      have := ih (k + 1) i
      rw [show k + 1 + i = k + (i + 1) by omega] at this
      simpa using this

theorem init_env {ρ : Map} {w : World} {F : Nat → Prop} {args : List AV} {vs : Array Value} (hv : RVs ρ w F args vs.toList) (n : Nat) : RelEnv ρ w F (initE args 0) (vs ++ Array.replicate n undef) := by
  intro s
  have h1 := lk_initE args 0 s
  rw [Nat.zero_add] at h1
  rw [h1]
  cases hs : args[s]? with
  | none => exact .top _
  | some a =>
    obtain ⟨v, h2, h3⟩ := hv.at hs
    have h2' : vs[s]? = some v := by simpa using h2
    have hlt : s < vs.size := (Array.getElem?_eq_some_iff.1 h2').1
    have : (vs ++ Array.replicate n undef).getD s undef = v := by
      rw [Array.getD_eq_getD_getElem?, Array.getElem?_append_left hlt, h2']
      rfl
    rw [this]
    exact h3

def TblOK (P : Program) (tbl : Nat → Option MFun) : Prop := ∀ f m, tbl f = some m → ∃ fn ks inl, P.funcs[f]? = some fn ∧ compF P inl ks fn = some m ∧ callable P f = true

theorem compF_spec {ks : List (List Nat)} {fn : Func} {m : MFun} (hc : compF P inl ks fn = some m) : ∃ c, fn.body = some c ∧ comp P inl fn.ntmps c ks = some (m.body, []) ∧ mapO (compRes P) fn.results.toList = some m.res ∧ m.nt = fn.ntmps ∧ m.np ≤ m.nt := by
  unfold compF at hc
  split at hc
  · rename_i c hb
    split at hc
    · rename_i b rs h1 h2
      split at hc
      · rename_i hle
        cases hc
        exact ⟨c, hb, h1, h2, rfl, hle⟩
      · cases hc
    · cases hc
  · cases hc

theorem body_sound {Γ : Ctr} (hΓ : Γ = Sound P) {call : CallW} (hcall : CallSound P call) {f : Nat} {fn : Func} {m : MFun} {ks : List (List Nat)} (hf : P.funcs[f]? = some fn) (hc : compF P inl ks fn = some m) {args : List AV} (hl : args.length = m.np) {s : S} {K : AV → S → Prop}
    (hW : Wc Γ call m.body (bodyQ m.res K) { s with env := initE args 0 }) {vs : Array Value} {w : World} {ρ : Map} (hR : Rel N base ρ s.h w) (hst : StkRel ρ w (Free N ρ s.h) s.stk ts) (hdom : ∀ b, s.h.length ≤ b → ρ b = none)
    (hv : RVs ρ w (Free N ρ s.h) args vs.toList) (hB : Below base w0 w) :
    Calls P f vs w fun e w' => ∃ val v s' ρ', e = .returned val ∧ K v s' ∧ RV ρ' w' (Free N ρ' s'.h) v val ∧ Rel N base ρ' s'.h w' ∧ StkRel ρ' w' (Free N ρ' s'.h) s'.stk ts ∧ (∀ b, s'.h.length ≤ b → ρ' b = none) ∧ Below base w0 w' := by
  obtain ⟨c, hb, hcc, hres, hnt, hnp⟩ := compF_spec hc
  have hvl := hv.length
  simp only [Array.length_toList] at hvl
  refine calls_of_wp hf hb (wp_mono (Wc_sound (N := N) (base := base) (w0 := w0) (ts := ts) hΓ hcall c ks m.body [] hcc _ _ _ w ρ hW ⟨hR, init_env hv _, hst, hdom, rfl, by simp; omega, hB⟩) ?_)
  intro e a' w' hq
  have fin : ∀ s' ρ', bodyQ m.res K .n s' → RelS N base w0 fn.ntmps ts ρ' s' a' w' → a'.defers = [] ∧ ∃ v, (results fn a'.tmps).run P w' = .ok v w' ∧ ∃ val v_1 s' ρ', Ending.returned v = .returned val ∧ K v_1 s' ∧ RV ρ' w' (Free N ρ' s'.h) v_1 val ∧ Rel N base ρ' s'.h w' ∧
      StkRel ρ' w' (Free N ρ' s'.h) s'.stk ts ∧ (∀ b, s'.h.length ≤ b → ρ' b = none) ∧ Below base w0 w' := by
    intro s' ρ' hQ hS
    simp only [bodyQ] at hQ
    split at hQ
    · rename_i v hvr
      obtain ⟨val, h1, h2⟩ := resAV_sound hS hres hvr
      exact ⟨hS.defers, val, h1, val, v, s', ρ', rfl, hQ, h2, hS.rel, hS.stk, hS.dom, hS.below⟩
    · exact hQ.elim
  cases e with
  | normal => obtain ⟨s', ρ', h1, h2⟩ := hq; exact fin s' ρ' h1 h2
  | ret => obtain ⟨s', ρ', h1, h2⟩ := hq; exact fin s' ρ' h1 h2
  | exit id => obtain ⟨s', ρ', h1, h2⟩ := hq; exact h1.elim
  | goto l => exact hq.elim
  | panic ch => exact hq.elim
  | outgrown => exact hq.elim

theorem callW_sound {tbl : Nat → Option MFun} (hT : TblOK P tbl) : ∀ d, CallSound P (callW (Sound P) tbl d)
  | 0 => by intro N base w0 ts f args s K vs w ρ hc; exact hc.elim
  | d + 1 => by
    intro N base w0 ts f args s K vs w ρ hc hR hst hdom hv hB
    simp only [callW] at hc
    split at hc
    · rename_i m hm
      obtain ⟨fn, ks, inl, h1, h2, h3⟩ := hT f m hm
      exact ⟨h3, body_sound rfl (callW_sound hT d) h1 h2 hc.1 hc.2 hR hst hdom hv hB⟩
    · exact hc.elim

theorem canonR_sound {ρ : Map} {h : List Blk} {w : World} {v : AV} {val : Value} (R : Rel N base ρ h w) (hv : RV ρ w (Free N ρ h) v val) {r : AV} {hr : List Blk} (hc : canonR v h = (r, hr)) :
    ∃ ρ', Rel N base ρ' hr w ∧ RV ρ' w (Free N ρ' hr) r val ∧ ∀ b, hr.length ≤ b → ρ' b = none := by
  unfold canonR at hc
  simp only at hc
  split at hc
  · rename_i hcl
    obtain ⟨h1, h2⟩ := closedB_spec hcl
    have hnd : (reach h 200 (refs (scrub h v)) []).Nodup := reach_nodup _ _ _ List.nodup_nil
    generalize reach h 200 (refs (scrub h v)) [] = ids at *
    cases hc
    refine ⟨renM ρ ids, R.ren hnd h2, (hv.scrub (h := h)).ren _ (fun b hb r hr => by rw [renM_idx (h1 b hb)]; exact hr) fun g _ hg => free_ren hg, ?_⟩
    intro b hb
    exact renM_none (by simpa using hb)
  · cases hc
    exact ⟨noMap, ⟨R.hb, R.hN, fun b hb => absurd (by simp [gt]) hb, fun b b' r r' g hb => (by cases hb), fun b b' r r' g hb => (by cases hb)⟩, .top _, fun _ _ => rfl⟩

/-- **FROM THE ABSTRACT RUN TO THE CONTRACT.** -/
theorem sound_of {tbl : Nat → Option MFun} (hT : TblOK P tbl) {f : Nat} {fn : Func} {m : MFun} {ks : List (List Nat)} (hf : P.funcs[f]? = some fn) (hcl : callable P f = true) (hc : compF P inl ks fn = some m) {d : Nat} {args : List AV} {r : AV} {hr : List Blk}
    (hW : FW (Sound P) tbl d m args r hr) : Sound P f args r hr := by
  refine ⟨hcl, ?_⟩
  intro w A vs hv
  have hR : Rel (fun g => w.heap.size ≤ g ∨ A g) w.heap.size noMap [] w :=
    ⟨Nat.le_refl _, fun g hg => .inl hg, fun b hb => absurd (by simp [gt]) hb, fun b b' r r' g hb => (by cases hb), fun b b' r r' g hb => (by cases hb)⟩
  have hk : Keeps noMap w A noMap w (Free (fun g => w.heap.size ≤ g ∨ A g) noMap []) := ⟨fun b r hb => (by cases hb), fun g _ hg => ⟨⟨.inr hg, fun b r hb => (by cases hb)⟩, rfl⟩⟩
  have hb := body_sound (N := fun g => w.heap.size ≤ g ∨ A g) (base := w.heap.size) (w0 := w) (ts := []) rfl (callW_sound hT d) hf hc hW.1 (s := { env := [], stk := [], h := [] }) hW.2 hR trivial (fun _ _ => rfl) (hv.keep hk) (Below.refl _ _)
  refine hb.mono ?_
  rintro e w' ⟨val, v, s', ρ', rfl, hK, hv', hR', _, _, hB⟩
  obtain ⟨ρ2, h1, h2, h3⟩ := canonR_sound hR' hv' hK
  exact ⟨val, ρ2, rfl, hB, h1, h2, h3⟩

end
end Go.AM
