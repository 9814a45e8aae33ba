/-
  THE ABSTRACT MACHINE: every operation that is no call is sound.
-/
import Derived.Test.YtiniphmomjnocaaAMOps8
namespace Go.AM
open Go.RowKit (Below)

section
variable {P : Program} {N : Par} {base : Nat} {ρ : Map} {h : List Blk} {w : World} {e : Env} {a : Act} {inl : List Nat} {ops : Array Oper}

theorem ok_len (R : Rel N base ρ h w) {t ty el : TypeId} {x : AV} {xv : Value} (hx : RV ρ w (Free N ρ h) x xv) {n : Nat} (hl : lenAV h false x = some n) (hu : P.underlying t = some (.slice el)) :
    OpOK P N base ρ h w (do pure (.value (← Builtin.len_ #[t] ty #[xv]))) (.t (.int .i64 (n : Int))) [] := by
  refine .same R ?_ (.int_mk _ _)
  have hsl : ∃ c m, xv = .slice c n m := by
    cases hx with
    | t hT hf =>
      cases hT with
      | nil => simp [lenAV] at hl; subst hl; exact ⟨_, _, rfl⟩
      | lst0 => simp [lenAV] at hl; subst hl; exact ⟨_, _, rfl⟩
      | lst => simp [lenAV] at hl; subst hl; exact ⟨_, _, rfl⟩
      | _ => simp [lenAV] at hl
    | @own b r' hr' hone =>
      simp only [lenAV] at hl
      split at hl
      · rename_i el' sz fr es hb
        cases hl
        obtain ⟨r2, h1, h2⟩ := R.blk b (by rw [hb]; intro hc; cases hc)
        rw [hr'] at h1
        cases h1
        rw [hb] at h2
        obtain ⟨xs, ho, _⟩ := h2
        rcases ho.2 with ⟨hv', hz⟩ | ⟨g, cap, cur, hv', _⟩
        · rw [hv', hz]; exact ⟨_, _, rfl⟩
        · rw [hv']; exact ⟨_, _, rfl⟩
      · cases hl
    | bsl => simp [lenAV] at hl; subst hl; exact ⟨_, _, rfl⟩
    | _ => simp [lenAV] at hl
  obtain ⟨c, m, rfl⟩ := hsl
  simp [Builtin.len_, run_underlying hu, goInt]

theorem ok_lenS (R : Rel N base ρ h w) {t ty : TypeId} {x : AV} {xv : Value} (hx : RV ρ w (Free N ρ h) x xv) {n : Nat} (hl : lenAV h true x = some n) (hu : P.underlying t = some .string) :
    OpOK P N base ρ h w (do pure (.value (← Builtin.len_ #[t] ty #[xv]))) (.t (.int .i64 (n : Int))) [] := by
  refine .same R ?_ (.int_mk _ _)
  cases x <;> try (simp [lenAV] at hl; done)
  rename_i tx
  cases tx <;> try (simp [lenAV] at hl; done)
  simp [lenAV] at hl
  subst hl
  rw [hx.str_inv]
  simp [Builtin.len_, run_underlying hu, goInt]

set_option maxHeartbeats 1000000 in
theorem op_sound {o : Oper} {k : MOp} (hk : compK P inl ops o.op = some k) (hE : RelEnv ρ w (Free N ρ h) e a.tmps) (R : Rel N base ρ h w) {nx : Nat} (hn : ρ nx = none) {v : AV} {u : List (Nat × Blk)}
    (hev : evalOp h nx e k = some (v, u)) : OpOK P N base ρ h w (execOp a.eval o) v u := by
  unfold execOp
  cases hop : o.op with
  | move x =>
    rw [hop] at hk
    dsimp only
    simp only [compK] at hk
    obtain ⟨x', hx, rfl⟩ := Option.map_eq_some_iff.1 hk
    simp [evalOp] at hev
    obtain ⟨rfl, rfl⟩ := hev
    exact .same R rfl (opd_rel hE hx)
  | assign x =>
    rw [hop] at hk
    dsimp only
    simp only [compK] at hk
    obtain ⟨x', hx, rfl⟩ := Option.map_eq_some_iff.1 hk
    simp [evalOp] at hev
    obtain ⟨rfl, rfl⟩ := hev
    exact .same R rfl (opd_rel hE hx)
  | pick c x y =>
    rw [hop] at hk
    dsimp only
    simp only [compK] at hk
    split at hk
    · rename_i c' x' y' hc hx hy
      cases hk
      simp only [evalOp] at hev
      split at hev
      · rename_i hcv
        cases hev
        have h1 := opd_rel hE hc
        rw [hcv] at h1
        exact .same R (by simp [h1.bool_inv, asBool]) (opd_rel hE hx)
      · rename_i hcv
        cases hev
        have h1 := opd_rel hE hc
        rw [hcv] at h1
        exact .same R (by simp [h1.bool_inv, asBool]) (opd_rel hE hy)
      · cases hev
    · cases hk
  | alloc t =>
    rw [hop] at hk
    dsimp only
    simp only [compK] at hk
    obtain ⟨zs, hz, rfl⟩ := Option.map_eq_some_iff.1 hk
    simp [evalOp] at hev
    obtain ⟨rfl, rfl⟩ := hev
    exact ok_alloc R hn hz
  | box t x =>
    rw [hop] at hk
    dsimp only
    simp only [compK] at hk
    obtain ⟨x', hx, rfl⟩ := Option.map_eq_some_iff.1 hk
    simp only [evalOp] at hev
    split at hev
    · rename_i cs hcs
      cases hev
      exact ok_box R hn (opd_rel hE hx) hcs
    · cases hev
  | build t ps =>
    rw [hop] at hk
    dsimp only
    simp only [compK] at hk
    split at hk
    · rename_i fs zs hu hz
      split at hk
      · rename_i places hp
        obtain ⟨qs, hq, rfl⟩ := Option.map_eq_some_iff.1 hk
        simp only [evalOp] at hev
        split at hev
        · rename_i cs hcs
          cases hev
          exact ok_build R hE hu hz hp hq hcs
        · cases hev
      · cases hk
    · cases hk
  | buildSlice t n ps =>
    rw [hop] at hk
    dsimp only
    simp only [compK] at hk
    split at hk
    · rename_i el hu
      split at hk
      · rename_i i hi
        split at hk
        · rename_i hc
          split at hk
          · rename_i qs hq
            split at hk
            · rename_i zs hz
              split at hk
              · rename_i hzl
                cases hk
                simp only [evalOp] at hev
                split at hev
                · rename_i es fr ks hel
                  split at hev
                  · rename_i hnd
                    cases hev
                    exact ok_bslice R hE hn hu hi hc.1 hc.2 hz hzl hq hel hnd
                  · cases hev
                · cases hev
              · cases hk
            · rename_i hz
              split at hk
              · rename_i hzz
                split at hk
                · rename_i hs1
                  cases hk
                  simp only [evalOp] at hev
                  split at hev
                  · rename_i cs hcs
                    cases hev
                    exact ok_bptrs R hE hn hu hi hc.1 hs1 hzz hq hcs
                  · cases hev
                · cases hk
              · cases hk
          · cases hk
        · cases hk
      · cases hk
    · cases hk
  | load t x =>
    rw [hop] at hk
    dsimp only
    simp only [compK] at hk
    split at hk
    · rename_i n x' hnn hx
      cases hk
      simp only [evalOp] at hev
      exact ok_load R hnn hev (opd_rel hE hx)
    · cases hk
  | store t x y =>
    rw [hop] at hk
    dsimp only
    simp only [compK] at hk
    split at hk
    · rename_i i x' y' hi hx hy
      cases hk
      simp only [evalOp] at hev
      exact ok_store R hi (opd_rel hE hy) hev (opd_rel hE hx)
    · cases hk
  | nilCheck x =>
    rw [hop] at hk
    dsimp only
    simp only [compK] at hk
    obtain ⟨x', hx, rfl⟩ := Option.map_eq_some_iff.1 hk
    have hr := opd_rel hE hx
    simp only [evalOp] at hev
    split at hev
    · rename_i b off hv; cases hev; rw [hv] at hr; obtain ⟨p, hp⟩ := hr.ptr_val; exact .same R (val := a.eval x) (by simp [hp]) hr
    · rename_i b i sz off hv; cases hev; rw [hv] at hr; obtain ⟨p, hp⟩ := hr.eptr_val; exact .same R (val := a.eval x) (by simp [hp]) hr
    · rename_i cs off hv; cases hev; rw [hv] at hr; obtain ⟨p, hp⟩ := hr.iptr_val; exact .same R (val := a.eval x) (by simp [hp]) hr
    · rename_i f cs hv; cases hev; rw [hv] at hr; obtain ⟨p, hp, _⟩ := hr.fn_val; exact .same R (val := a.eval x) (by simp [hp]) hr
    · cases hev
  | binOp op t x y ty =>
    rw [hop] at hk
    dsimp only
    simp only [compK] at hk
    split at hk
    · rename_i x' y' hx hy
      have hrx := opd_rel hE hx
      have hry := opd_rel hE hy
      have hbin : ∀ z, z = MOp.bin op x' y' → evalOp h nx e z = some (v, u) → OpOK P N base ρ h w (do pure (.value (← (do eqGuard op t x y (a.eval x) (a.eval y); binOp op t (a.eval x) (a.eval y))))) v u := by
        intro z hz hev
        subst hz
        simp only [evalOp] at hev
        split at hev
        · rename_i p q hp hq
          obtain ⟨r, hr, he⟩ := Option.map_eq_some_iff.1 hev
          cases he
          rw [hp] at hrx
          rw [hq] at hry
          obtain ⟨z, hz1, hz2⟩ := bin_sound (P := P) (t := t) (x := x) (y := y) hrx hry hr
          exact .same R (by rw [Sem.run_bind, hz1]; rfl) hz2
        · cases hev
      split at hk
      · cases hk; exact hbin _ rfl hev
      · cases hk; exact hbin _ rfl hev
      · rename_i hu
        split at hk
        all_goals try (cases hk; done)
        all_goals
          cases hk
          simp only [evalOp] at hev
          split at hev
          · rename_i p q hp hq
            cases hev
            rw [hp] at hrx
            rw [hq] at hry
            rw [hrx.bool_inv, hry.bool_inv]
            refine .same R ?_ (.bool_mk _)
            simp [eqGuard, binOp, Op.equal, Op.maxDepth, run_equalIn_bool' w 9999 t p q hu]
          · cases hev
      · rename_i el hu
        split at hk
        · cases hk
          simp only [evalOp] at hev
          split at hev
          · rename_i r hr
            cases hev
            obtain ⟨c, n, m, hc, rfl⟩ := isNil_slice R hrx hr
            refine .same R ?_ (.bool_mk _)
            have hy0 : a.eval (.const (.slice none 0 0)) = .slice none 0 0 := rfl
            rw [hc, hy0]
            simp [eqGuard, binOp, Op.equal, Op.maxDepth, run_nil_slice hu 9999 c n m]
          · cases hev
        · cases hk
          simp only [evalOp] at hev
          split at hev
          · rename_i r hr
            cases hev
            obtain ⟨c, n, m, hc, rfl⟩ := isNil_slice R hrx hr
            refine .same R ?_ (.bool_mk _)
            have hy0 : a.eval (.const (.slice none 0 0)) = .slice none 0 0 := rfl
            rw [hc, hy0]
            simp [eqGuard, binOp, Op.equal, Op.maxDepth, run_nil_slice hu 9999 c n m]
          · cases hev
        · cases hk
      · rename_i el hu
        split at hk
        · cases hk
          simp only [evalOp] at hev
          split at hev
          · rename_i r hr
            cases hev
            obtain ⟨c, hc, rfl⟩ := isNil_pointer hrx hr
            refine .same R ?_ (.bool_mk _)
            have hy0 : a.eval (.const (.pointer none)) = .pointer none := rfl
            rw [hc, hy0]
            simp [eqGuard, binOp, Op.equal, Op.maxDepth, run_nil_pointer hu 9999 c]
          · cases hev
        · cases hk
          simp only [evalOp] at hev
          split at hev
          · rename_i r hr
            cases hev
            obtain ⟨c, hc, rfl⟩ := isNil_pointer hrx hr
            refine .same R ?_ (.bool_mk _)
            have hy0 : a.eval (.const (.pointer none)) = .pointer none := rfl
            rw [hc, hy0]
            simp [eqGuard, binOp, Op.equal, Op.maxDepth, run_nil_pointer hu 9999 c]
          · cases hev
        · cases hk
      · rename_i fs hu
        split at hk
        · rename_i ks hks
          split at hk
          · rename_i hcond
            have hfs : P.fieldsOf t = fs := by simp [Program.fieldsOf, hu]
            have hut : P.underlying t = some (.struct (P.fieldsOf t)) := by rw [hfs]; exact hu
            have key : ∀ xs ys r, ev e x' = .agg xs → ev e y' = .agg ys → eqAs ks xs ys = some r → ∃ cx cy, a.eval x = .agg cx ∧ a.eval y = .agg cy ∧ (Op.equalIn 10000 t (.agg cx) (.agg cy)).run P w = .ok r w := by
              intro xs ys r hxs hys hr
              rw [hxs] at hrx
              rw [hys] at hry
              obtain ⟨cx, hcx, hx1, _⟩ := hrx.agg_val
              obtain ⟨cy, hcy, hy1, _⟩ := hry.agg_val
              refine ⟨cx, cy, hcx, hcy, ?_⟩
              have h1 := run_equalIn_struct (P := P) w 9999 t cx cy hut hcond.1
              rw [h1, hfs]
              exact okEq_field (P := P) (ρ := ρ) (F := Free N ρ h) hks 9998 xs ys cx cy (by simpa using hx1) (by simpa using hy1) r hr
            split at hk
            · cases hk
              simp only [evalOp] at hev
              split at hev
              · rename_i xs ys hxs hys
                split at hev
                · rename_i r hr
                  cases hev
                  obtain ⟨cx, cy, h1, h2, h3⟩ := key xs ys r hxs hys hr
                  refine .same R ?_ (.bool_mk _)
                  rw [h1, h2]
                  simp [run_eqGuard_agg w .eql t x y cx cy hcond.2, run_eql_struct, h3]
                · cases hev
              · cases hev
            · cases hk
              simp only [evalOp] at hev
              split at hev
              · rename_i xs ys hxs hys
                split at hev
                · rename_i r hr
                  cases hev
                  obtain ⟨cx, cy, h1, h2, h3⟩ := key xs ys r hxs hys hr
                  refine .same R ?_ (.bool_mk _)
                  rw [h1, h2]
                  simp [run_eqGuard_agg w .neq t x y cx cy hcond.2, run_neq_struct, h3]
                · cases hev
              · cases hev
            · cases hk
          · cases hk
        · cases hk
      · cases hk
    · cases hk
  | unOp op t x =>
    rw [hop] at hk
    dsimp only
    simp only [compK] at hk
    obtain ⟨x', hx, rfl⟩ := Option.map_eq_some_iff.1 hk
    have hr := opd_rel hE hx
    simp only [evalOp] at hev
    split at hev
    · rename_i p hp
      obtain ⟨r, hrr, he⟩ := Option.map_eq_some_iff.1 hev
      cases he
      rw [hp] at hr
      obtain ⟨z, h1, h2⟩ := un_sound (P := P) hr hrr
      exact .same R (by simp [h1]) h2
    · cases hev
  | convert s d x =>
    rw [hop] at hk
    dsimp only
    simp only [compK] at hk
    split at hk
    · rename_i us k hs hd
      obtain ⟨x', hx, rfl⟩ := Option.map_eq_some_iff.1 hk
      have hr := opd_rel hE hx
      simp only [evalOp] at hev
      split at hev
      · rename_i k' n hv
        cases hev
        rw [hv] at hr
        refine .same R ?_ (.int_mk _ _)
        simp [hr.int_inv, convert, run_underlying hs, run_underlying hd, Conv.intToInt]
      · cases hev
    · cases hk
  | makeFunc fn first caps =>
    rw [hop] at hk
    dsimp only
    cases fn <;> try (simp [compK] at hk; done)
    simp only [compK] at hk
    split at hk
    · rename_i hfe
      obtain ⟨cs, hcs, rfl⟩ := Option.map_eq_some_iff.1 hk
      simp [evalOp] at hev
      obtain ⟨rfl, rfl⟩ := hev
      have hf0 : first = #[] := by simpa using hfe
      subst hf0
      refine .same R (val := .func (.func _) #[] (caps.map a.eval)) (by simp [Instr.makeFunc]) (.fn ?_)
      rw [Array.toList_map]
      exact mapO_opd hE hcs
    · cases hk
  | makeSlice t l c =>
    rw [hop] at hk
    dsimp only
    simp only [compK] at hk
    split at hk
    · rename_i el hu
      split at hk
      · rename_i i zs l' c' hi hz hl hc
        split at hk
        · rename_i hcond
          cases hk
          have hrl := opd_rel hE hl
          have hrc := opd_rel hE hc
          simp only [evalOp] at hev
          split at hev
          · rename_i kl lv kc cv hlv hcv
            split at hev
            · rename_i hb
              cases hev
              rw [hlv] at hrl
              rw [hcv] at hrc
              simp only [hrl.int_inv, hrc.int_inv]
              exact ok_mkslice R hn hu hi hz hcond.1 hcond.2 hb.1 hb.2.1 hb.2.2.1 hb.2.2.2
            · cases hev
          · cases hev
        · cases hk
      · cases hk
    · cases hk
  | slice t x lo hi mx =>
    rw [hop] at hk
    dsimp only
    cases mx with
    | some m => simp [compK] at hk
    | none =>
      simp only [compK] at hk
      split at hk
      · rename_i sz x' lo' hi' hsz hx hlo hhi
        cases hk
        simp only [evalOp] at hev
        exact ok_slice R hn hE hlo hhi hev hsz (opd_rel hE hx)
      · cases hk
  | fieldAddr t x f =>
    rw [hop] at hk
    dsimp only
    simp only [compK] at hk
    split at hk
    · rename_i off ut x' hf hx
      cases hk
      simp only [evalOp] at hev
      exact ok_faddr R hf hev (opd_rel hE hx)
    · cases hk
  | field t x f =>
    rw [hop] at hk
    dsimp only
    simp only [compK] at hk
    split at hk
    · rename_i off ut x' hf hx
      obtain ⟨n, hnn, rfl⟩ := Option.map_eq_some_iff.1 hk
      have hr := opd_rel hE hx
      simp only [evalOp] at hev
      split at hev
      · rename_i cs hcs
        obtain ⟨v', hv', he⟩ := Option.map_eq_some_iff.1 hev
        cases he
        rw [hcs] at hr
        exact ok_field R hf hnn hr hv'
      · cases hev
    · cases hk
  | indexAddr t x i =>
    rw [hop] at hk
    dsimp only
    simp only [compK] at hk
    split at hk
    · rename_i el hu
      split at hk
      · rename_i inf x' i' hinf hx hi
        cases hk
        have hri := opd_rel hE hi
        simp only [evalOp] at hev
        split at hev
        · rename_i k n hin
          rw [hin] at hri
          split at hev
          · rename_i h0
            simp only [hri.int_inv]
            exact ok_iaddr R hu hinf h0 hev (opd_rel hE hx)
          · cases hev
        · cases hev
      · cases hk
    · cases hk
  | index t x i =>
    rw [hop] at hk
    dsimp only
    simp only [compK] at hk
    split at hk
    · rename_i x' i' hu hx hi
      cases hk
      have hrx := opd_rel hE hx
      have hri := opd_rel hE hi
      simp only [evalOp] at hev
      split at hev
      · rename_i s k n hxs hin
        split at hev
        · rename_i h0
          split at hev
          · rename_i b hb
            cases hev
            rw [hxs] at hrx
            rw [hin] at hri
            refine .same R ?_ (.int_mk _ _)
            simp [hrx.str_inv, hri.int_inv, Instr.index, asIntOf, run_underlying hu, h0, hb]
          · cases hev
        · cases hev
      · cases hev
    · cases hk
  | extract x i =>
    rw [hop] at hk
    dsimp only
    simp only [compK] at hk
    obtain ⟨x', hx, rfl⟩ := Option.map_eq_some_iff.1 hk
    have hr := opd_rel hE hx
    simp only [evalOp] at hev
    split at hev
    · rename_i vs hvs
      obtain ⟨v', hv', he⟩ := Option.map_eq_some_iff.1 hev
      cases he
      rw [hvs] at hr
      obtain ⟨c, hc, hcs⟩ := hr.tup_val
      obtain ⟨val, h1, h2⟩ := hcs.at hv'
      have h1' : c[i]? = some val := by simpa using h1
      exact .same R (by simp [hc, Instr.extract, h1']) h2
    · cases hev
  | call c =>
    rw [hop] at hk
    dsimp only
    obtain ⟨callee, args, argTypes⟩ := c
    cases callee with
    | invoke r m => simp [compK] at hk
    | value f =>
      cases f <;> simp only [compK] at hk
      · split at hk
        · cases hk; simp [evalOp] at hev
        · cases hk
      · split at hk
        · cases hk; simp [evalOp] at hev
        · cases hk
      · split at hk
        · cases hk; simp [evalOp] at hev
        · cases hk
      · split at hk
        · obtain ⟨as, _, rfl⟩ := Option.map_eq_some_iff.1 hk
          split at hev
          · simp [evalOp] at hev
          · split at hev <;> simp [evalOp] at hev
        · cases hk
    | builtin b =>
      cases b <;> try (simp [compK] at hk; done)
      case len =>
        simp only [compK] at hk
        split at hk
        · rename_i x t hargs hts
          have hargs' : args = #[x] := by rw [← Array.toList_inj]; exact hargs
          have hts' : argTypes = #[t] := by rw [← Array.toList_inj]; exact hts
          subst hargs'
          subst hts'
          have hshape : (do let d ← resolve a.eval { callee := .builtin .len, args := #[x], argTypes := #[t] } o.type; invoke d.target d.args : Sem Next) = (do pure (.value (← Builtin.len_ #[t] o.type #[a.eval x]))) := by
            simp [resolve, invoke, builtin]
          rw [hshape]
          split at hk
          · rename_i el hu
            obtain ⟨x', hx, rfl⟩ := Option.map_eq_some_iff.1 hk
            simp only [evalOp] at hev
            split at hev
            · rename_i n hl
              cases hev
              exact ok_len R (opd_rel hE hx) hl hu
            · cases hev
          · rename_i hu
            obtain ⟨x', hx, rfl⟩ := Option.map_eq_some_iff.1 hk
            simp only [evalOp] at hev
            split at hev
            · rename_i n hl
              cases hev
              exact ok_lenS R (opd_rel hE hx) hl hu
            · cases hev
          · cases hk
        · cases hk
      case append =>
        simp only [compK] at hk
        split at hk
        · rename_i x y t t' hargs hts
          have hargs' : args = #[x, y] := by rw [← Array.toList_inj]; exact hargs
          have hts' : argTypes = #[t, t'] := by rw [← Array.toList_inj]; exact hts
          subst hargs'
          subst hts'
          split at hk
          · rename_i el el' hu hu'
            split at hk
            · rename_i i x' y' hi hx hy
              split at hk
              · rename_i z hz
                split at hk
                · rename_i hcond
                  obtain ⟨hsz, hzs, rfl⟩ := hcond
                  cases hk
                  simp only [evalOp] at hev
                  split at hev
                  · rename_i ys f ks hs
                    obtain ⟨h1, h2⟩ := ok_append (P := P) (ty := o.type) R hn hu hi hz hzs hsz (opd_rel hE hx) (opd_rel hE hy) hs
                    have hshape : (do let d ← resolve a.eval { callee := .builtin .append, args := #[x, y], argTypes := #[t, t] } o.type; invoke d.target d.args : Sem Next) =
                        (do pure (.value (← Builtin.append_ #[t, t] o.type #[a.eval x, a.eval y]))) := by
                      simp [resolve, invoke, builtin]
                    rw [hshape]
                    split at hev
                    · rename_i hxv
                      split at hev
                      · rename_i hb
                        cases hev
                        exact h1 hxv hb.1 hb.2
                      · cases hev
                    · rename_i b hxv
                      split at hev
                      · rename_i el2 sz2 fr es hgb
                        split at hev
                        · rename_i hb
                          obtain ⟨rfl, rfl, hb1, hb2, hb3⟩ := hb
                          cases hev
                          exact h2 b fr es hxv hgb hb1 hb2 hb3
                        · cases hev
                      · cases hev
                    · cases hev
                  · cases hev
                · cases hk
              · cases hk
            · cases hk
          · cases hk
        · cases hk
      case max =>
        simp only [compK] at hk
        split at hk
        · rename_i x y hargs
          have hargs' : args = #[x, y] := by rw [← Array.toList_inj]; exact hargs
          subst hargs'
          split at hk
          · rename_i x' y' hx hy
            cases hk
            have hrx := opd_rel hE hx
            have hry := opd_rel hE hy
            simp only [evalOp] at hev
            split at hev
            · rename_i k1 p k2 q hp hq
              cases hev
              rw [hp] at hrx
              rw [hq] at hry
              refine .same R ?_ (.int_mk _ _)
              simp [resolve, invoke, builtin, hrx.int_inv, hry.int_inv, run_max_int2]
            · cases hev
          · cases hk
        · cases hk
      case min =>
        simp only [compK] at hk
        split at hk
        · rename_i x y hargs
          have hargs' : args = #[x, y] := by rw [← Array.toList_inj]; exact hargs
          subst hargs'
          split at hk
          · rename_i x' y' hx hy
            cases hk
            have hrx := opd_rel hE hx
            have hry := opd_rel hE hy
            simp only [evalOp] at hev
            split at hev
            · rename_i k1 p k2 q hp hq
              cases hev
              rw [hp] at hrx
              rw [hq] at hry
              refine .same R ?_ (.int_mk _ _)
              simp [resolve, invoke, builtin, hrx.int_inv, hry.int_inv, run_min_int2]
            · cases hev
          · cases hk
        · cases hk
  | _ => rw [hop] at hk; simp [compK] at hk

end
end Go.AM
