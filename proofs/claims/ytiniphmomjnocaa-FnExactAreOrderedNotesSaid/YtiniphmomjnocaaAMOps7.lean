/-
  THE ABSTRACT MACHINE: every operation that is no call is sound.
-/
import Derived.Test.YtiniphmomjnocaaAMOps6
namespace Go.AM
open Go.RowKit (Below)

section
variable {P : Program} {N : Par} {base : Nat} {ρ : Map} {h : List Blk} {w w' : World} {F : Nat → Prop} {e : Env} {a : Act}

theorem bin_sound {op : BinOp} {t : TypeId} {x y : Operand} {p q r : T} {u v : Value} (hx : RV ρ w F (.t p) u) (hy : RV ρ w F (.t q) v) (hr : binT op p q = some r) :
    ∃ z, ((do eqGuard op t x y u v; binOp op t u v) : Sem Value).run P w = .ok z w ∧ RV ρ w F (.t r) z := by
  cases p <;> cases q <;> try (simp [binT] at hr; done)
  · rename_i k m k' n
    cases hx.int_inv
    cases hy.int_inv
    cases op <;> simp [binT] at hr
    case shl => obtain ⟨h0, rfl⟩ := hr; exact ⟨_, by simp [eqGuard, binOp, Op.shift, show ¬ n < 0 by omega], .int_mk _ _⟩
    case shr => obtain ⟨h0, rfl⟩ := hr; exact ⟨_, by simp [eqGuard, binOp, Op.shift, show ¬ n < 0 by omega], .int_mk _ _⟩
    case add => obtain ⟨rfl, rfl⟩ := hr; exact ⟨_, by simp [eqGuard, binOp, Op.intArith], .int_mk _ _⟩
    case sub => obtain ⟨rfl, rfl⟩ := hr; exact ⟨_, by simp [eqGuard, binOp, Op.intArith], .int_mk _ _⟩
    case mul => obtain ⟨rfl, rfl⟩ := hr; exact ⟨_, by simp [eqGuard, binOp, Op.intArith], .int_mk _ _⟩
    case quo => obtain ⟨rfl, h0, rfl⟩ := hr; exact ⟨_, by simp [eqGuard, binOp, Op.intDiv, h0], .int_mk _ _⟩
    case rem => obtain ⟨rfl, h0, rfl⟩ := hr; exact ⟨_, by simp [eqGuard, binOp, Op.intDiv, h0], .int_mk _ _⟩
    case and => obtain ⟨rfl, rfl⟩ := hr; exact ⟨_, by simp [eqGuard, binOp, Op.intBits], .int_mk _ _⟩
    case or => obtain ⟨rfl, rfl⟩ := hr; exact ⟨_, by simp [eqGuard, binOp, Op.intBits], .int_mk _ _⟩
    case xor => obtain ⟨rfl, rfl⟩ := hr; exact ⟨_, by simp [eqGuard, binOp, Op.intBits], .int_mk _ _⟩
    case andNot => obtain ⟨rfl, rfl⟩ := hr; exact ⟨_, by simp [eqGuard, binOp, Op.intBits], .int_mk _ _⟩
    case eql => obtain ⟨rfl, rfl⟩ := hr; exact ⟨_, by simp [eqGuard, binOp, Op.intCmp], .bool_mk _⟩
    case neq => obtain ⟨rfl, rfl⟩ := hr; exact ⟨_, by simp [eqGuard, binOp, Op.intCmp], .bool_mk _⟩
    case lss => obtain ⟨rfl, rfl⟩ := hr; exact ⟨_, by simp [eqGuard, binOp, Op.intCmp], .bool_mk _⟩
    case leq => obtain ⟨rfl, rfl⟩ := hr; exact ⟨_, by simp [eqGuard, binOp, Op.intCmp], .bool_mk _⟩
    case gtr => obtain ⟨rfl, rfl⟩ := hr; exact ⟨_, by simp [eqGuard, binOp, Op.intCmp], .bool_mk _⟩
    case geq => obtain ⟨rfl, rfl⟩ := hr; exact ⟨_, by simp [eqGuard, binOp, Op.intCmp], .bool_mk _⟩
  · rename_i s1 s2
    cases hx.str_inv
    cases hy.str_inv
    cases op <;> simp [binT] at hr
    case add =>
      obtain ⟨h0, rfl⟩ := hr
      refine ⟨_, ?_, .str_mk _⟩
      have : ¬ (9223372036854775807 < (s1.size : Int) + (s2.size : Int)) := by omega
      simp [eqGuard, binOp, Op.stringOp, this]
    case eql => subst hr; exact ⟨_, by simp [eqGuard, binOp, Op.stringOp], .bool_mk _⟩
    case neq => subst hr; exact ⟨_, by simp [eqGuard, binOp, Op.stringOp], .bool_mk _⟩
    case lss => subst hr; exact ⟨_, by simp [eqGuard, binOp, Op.stringOp], .bool_mk _⟩
    case leq => subst hr; exact ⟨_, by simp [eqGuard, binOp, Op.stringOp], .bool_mk _⟩
    case gtr => subst hr; exact ⟨_, by simp [eqGuard, binOp, Op.stringOp], .bool_mk _⟩
    case geq => subst hr; exact ⟨_, by simp [eqGuard, binOp, Op.stringOp], .bool_mk _⟩

theorem un_sound {op : UnOp} {p r : T} {u : Value} (hx : RV ρ w F (.t p) u) (hr : unT op p = some r) : ∃ z, (Op.unary op u).run P w = .ok z w ∧ RV ρ w F (.t r) z := by
  cases p <;> cases op <;> try (simp [unT] at hr; done)
  · cases hx.int_inv; simp [unT] at hr; subst hr; exact ⟨_, by simp [Op.unary, Op.intArith], .int_mk _ _⟩
  · cases hx.bool_inv; simp [unT] at hr; subst hr; exact ⟨_, by simp [Op.unary], .bool_mk _⟩

theorem isNil_slice (R : Rel N base ρ h w) {x : AV} {v : Value} (hx : RV ρ w (Free N ρ h) x v) {r : Bool} (hr : isNilAV h true x = some r) : ∃ c n m, v = .slice c n m ∧ c.isNone = r := by
  cases hx with
  | t hT hf =>
    cases hT with
    | nil => simp [isNilAV] at hr; subst hr; exact ⟨none, 0, 0, rfl, rfl⟩
    | lst0 => simp [isNilAV] at hr
    | @lst sz es g off cap c' te fz fp hne hsz hcap hg hlen hc =>
      cases es with
      | nil => exact absurd rfl hne
      | cons y ys => simp [isNilAV] at hr; subst hr; exact ⟨_, _, _, rfl, rfl⟩
    | _ => simp [isNilAV] at hr
  | @own b r' hr' hone =>
    simp only [isNilAV] at hr
    split at hr
    · rename_i el' sz fr y ys hb
      cases hr
      obtain ⟨r2, h1, h2⟩ := R.blk b (by rw [hb]; intro hc; cases hc)
      rw [hr'] at h1
      cases h1
      rw [hb] at h2
      obtain ⟨xs, ho, _⟩ := h2
      rcases ho.2 with ⟨_, hz⟩ | ⟨g, cap, cur, hv', _⟩
      · simp at hz
      · rw [hv']; exact ⟨_, _, _, rfl, rfl⟩
    · cases hr
  | _ => simp [isNilAV] at hr

theorem isNil_pointer {x : AV} {v : Value} (hx : RV ρ w F x v) {r : Bool} (hr : isNilAV h false x = some r) : ∃ c, v = .pointer c ∧ c.isNone = r := by
  cases hx with
  | nilp => simp [isNilAV] at hr; subst hr; exact ⟨none, rfl, rfl⟩
  | ptr => simp [isNilAV] at hr; subst hr; exact ⟨_, rfl, rfl⟩
  | eptr => simp [isNilAV] at hr; subst hr; exact ⟨_, rfl, rfl⟩
  | iptr => simp [isNilAV] at hr; subst hr; exact ⟨_, rfl, rfl⟩
  | _ => simp [isNilAV] at hr

theorem run_nil_slice {t el : TypeId} (hu : P.underlying t = some (.slice el)) (d : Nat) (c : Option Addr) (n m : Nat) : (Op.equalIn (d + 1) t (.slice c n m) (.slice none 0 0)).run P w = .ok c.isNone w := by
  cases c <;> simp [Op.equalIn, run_underlying hu]
theorem run_nil_pointer {t el : TypeId} (hu : P.underlying t = some (.pointer el)) (d : Nat) (c : Option Addr) : (Op.equalIn (d + 1) t (.pointer c) (.pointer none)).run P w = .ok c.isNone w := by
  cases c <;> simp [Op.equalIn, run_underlying hu]

theorem RV.ptr_val {b off : Nat} {v : Value} (hv : RV ρ w F (.ptr b off) v) : ∃ p, v = .pointer (some p) := by cases hv; exact ⟨_, rfl⟩
theorem RV.eptr_val {b i sz off : Nat} {v : Value} (hv : RV ρ w F (.eptr b i sz off) v) : ∃ p, v = .pointer (some p) := by cases hv; exact ⟨_, rfl⟩
theorem RV.iptr_val {cs : List T} {off : Nat} {v : Value} (hv : RV ρ w F (.iptr cs off) v) : ∃ p, v = .pointer (some p) := by cases hv; exact ⟨_, rfl⟩
theorem RV.fn_val {f : Nat} {cs : List AV} {v : Value} (hv : RV ρ w F (.fn f cs) v) : ∃ c : Array Value, v = .func (.func f) #[] c ∧ RVs ρ w F cs c.toList := by cases hv; exact ⟨_, rfl, by assumption⟩
theorem RV.tup_val {cs : List AV} {v : Value} (hv : RV ρ w F (.tup cs) v) : ∃ c : Array Value, v = .tuple c ∧ RVs ρ w F cs c.toList := by cases hv; exact ⟨_, rfl, by assumption⟩
theorem RV.agg_val {cs : List AV} {v : Value} (hv : RV ρ w F (.agg cs) v) : ∃ c : Array Value, v = .agg c ∧ RVs ρ w F cs c.toList ∧ ∀ v ∈ c.toList, v.oneCell' = true := by cases hv; exact ⟨_, rfl, by assumption, by assumption⟩

theorem mapO_bparts (hE : RelEnv ρ w F e a.tmps) : ∀ (ps : List (Nat × Operand)) (qs : List (Nat × Opd)) (cs : List AV) (cells : Array Value),
    mapO (fun p : Nat × Operand => (opd p.2).map fun x => (p.1, x)) ps = some qs → RVs ρ w F cs cells.toList → (∀ v ∈ cells.toList, v.oneCell' = true) →
    ∀ cs', bparts e cs qs = some cs' → ∃ cells', Instr.fill (fun i => some (i * 1, 1)) cells (ps.map fun p => (p.1, a.eval p.2)) = some cells' ∧ RVs ρ w F cs' cells'.toList ∧ ∀ v ∈ cells'.toList, v.oneCell' = true
  | [], qs, cs, cells, hm, hc, h1, cs', hp => by
    cases hm
    simp [bparts] at hp
    subst hp
    exact ⟨cells, by simp [Instr.fill], hc, h1⟩
  | (i, x) :: ps, qs, cs, cells, hm, hc, h1, cs', hp => by
    obtain ⟨q, qs', hq, hqs, rfl⟩ := mapO_cons hm
    obtain ⟨x', hx, rfl⟩ := Option.map_eq_some_iff.1 hq
    simp only [bparts] at hp
    split at hp
    · rename_i v hv
      split at hp
      · rename_i hlt
        obtain ⟨h2, h3⟩ := cellsOf_rel hv (opd_rel hE hx)
        have hl1 := h2.length
        have hl2 := hc.length
        simp only [Array.length_toList, List.length_cons, List.length_nil] at hl1 hl2
        obtain ⟨cells1, hf, hcl⟩ := fill_one (place := fun i => some (i * 1, 1)) (cells := cells) (i := i) (off := i * 1) (size := 1) (v := a.eval x) (rest := ps.map fun p => (p.1, a.eval p.2)) rfl (by omega) (by omega)
        have hR : RVs ρ w F (cs.set i v) cells1.toList := by
          rw [hcl, List.set_eq_take_append_cons_drop, if_pos hlt, Nat.mul_one]
          have := ((hc.take i).append h2).append (hc.drop (i + 1))
          simpa using this
        have ho : ∀ v ∈ cells1.toList, v.oneCell' = true := by
          rw [hcl]
          intro v hv
          rcases List.mem_append.1 hv with hv | hv
          · rcases List.mem_append.1 hv with hv | hv
            · exact h1 v (List.mem_of_mem_take hv)
            · exact h3 v hv
          · exact h1 v (List.mem_of_mem_drop hv)
        obtain ⟨cells', h4, h5, h6⟩ := mapO_bparts hE ps qs' _ cells1 hqs hR ho cs' hp
        exact ⟨cells', by simp only [List.map_cons]; rw [hf]; exact h4, h5, h6⟩
      · cases hp
    · cases hp

theorem ok_bptrs (R : Rel N base ρ h w) (hE : RelEnv ρ w (Free N ρ h) e a.tmps) {nx : Nat} (hn : ρ nx = none) {t el : TypeId} {n : Nat} {ps : Array (Nat × Operand)} {i : TypeInfo} {qs : List (Nat × Opd)}
    (hu : P.underlying t = some (.slice el)) (hi : P.info? el = some i) (hsmall : n * i.size ≤ 16777216) (hsz : i.size = 1) (hz : i.zero = some (.pointer none))
    (hm : mapO (fun p : Nat × Operand => (opd p.2).map fun x => (p.1, x)) ps.toList = some qs) {cs : List AV} (hc : bparts e (List.replicate n .nilp) qs = some cs) :
    OpOK P N base ρ h w (do pure (.value (← Instr.buildSlice t n (ps.map fun (i, x) => (i, a.eval x))))) (.bsl nx n) [(nx, .box cs)] := by
  have h0 : RVs ρ w (Free N ρ h) (List.replicate n .nilp) (madeCells #[.pointer none] n).toList := by
    have e1 : (madeCells #[.pointer none] n).toList = List.replicate n (.pointer none) := by
      apply List.ext_getElem
      · simp [madeCells]
      · intro k h1 h2
        simp [madeCells, Nat.mod_one]
    rw [e1]
    clear hc e1 hsmall
    induction n with
    | zero => exact .nil
    | succ n ih => rw [List.replicate_succ, List.replicate_succ]; exact .cons .nilp ih
  have h1 : ∀ v ∈ (madeCells #[.pointer none] n).toList, v.oneCell' = true := by
    intro v hv
    simp only [madeCells, Array.toList_map, List.mem_map] at hv
    obtain ⟨k, _, rfl⟩ := hv
    simp [Nat.mod_one, Value.oneCell']
  obtain ⟨cells', h2, h3, h4⟩ := mapO_bparts hE ps.toList qs _ _ hm h0 h1 cs hc
  have hrun : (Instr.buildSlice t n (ps.map fun (i, x) => (i, a.eval x))).run P w = .ok (.slice (some ⟨w.heap.size, 0, none⟩) n n) (w.alloc (.cells cells' el)) := by
    by_cases hn0 : n = 0
    · subst hn0
      have hcells : madeCells #[.pointer none] 0 = #[] := by simp [madeCells, Array.range_zero']
      rw [hcells] at h2
      simp only [Nat.mul_one] at h2
      simp [Instr.buildSlice, run_underlying hu, sizeOf, typeInfo, hi, hsz, h2, newRow, Array.range_zero']
    · refine run_buildSlice w t el n _ cells' i (.pointer none) hu hi hz (by omega) (by rw [hsz]; omega) ?_
      rw [Array.toList_map, hsz]
      rw [Nat.mul_one]
      exact h2
  have hp := put_rel R (n := nx) (ks := []) (x := .box cs) (r := ⟨.pointer (some ⟨w.heap.size, 0, none⟩), []⟩) (row := none) (w' := w.alloc (.cells cells' el))
    (by intro r0 h0; rw [hn] at h0; cases h0) (grownBy_none_alloc w _) (by intro g hg; cases hg) (by intro g hg; simp [blkOf] at hg; exact .inl (by omega))
    (fun hk => ⟨w.heap.size, cells', el, rfl, R.hb, heap_alloc_new w _, h3.keep hk, h4⟩) (by intro hf; cases hf)
  refine ⟨_, _, updM ρ nx ⟨.pointer (some ⟨w.heap.size, 0, none⟩), []⟩, .inl (by simp only [Sem.run_bind, hrun, Result.andThen_ok]; rfl), ?_, hp.1, hp.2.1, ?_, (Below.refl _ _).alloc R.hb _, hp.2.2⟩
  · exact .bsl (r := ⟨.pointer (some ⟨w.heap.size, 0, none⟩), []⟩) (by simp [updM]) rfl
  · intro b hb; simp at hb; simp [updM, hb]

end
end Go.AM
