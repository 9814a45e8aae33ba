/-
  THE ABSTRACT MACHINE: each operation is sound, first part.
-/
import Derived.Test.YtiniphmomjnocaaAMStep
import Derived.WalkKit
import Derived.Laws.MakeOwn
import Derived.Great.BuildSlice
namespace Go.AM
open Go.RowKit (Below)

def RelEnv (ρ : Map) (w : World) (F : Nat → Prop) (e : Env) (tmps : Array Value) : Prop := ∀ s, RV ρ w F (lk s e) (tmps.getD s undef)

/-- what is to be shown of an operation that is no call -/
def OpOK (P : Program) (N : Par) (base : Nat) (ρ : Map) (h : List Blk) (w : World) (s : Sem Next) (v : AV) (u : List (Nat × Blk)) : Prop :=
  ∃ val w' ρ', ((s.run P w = .ok (.value val) w') ∨ (s.run P w = .ok .skip w' ∧ val = undef)) ∧ RV ρ' w' (Free N ρ' (upd h u)) v val ∧ Rel N base ρ' (upd h u) w' ∧
    Keeps ρ w (Free N ρ h) ρ' w' (Free N ρ' (upd h u)) ∧ (∀ b, b ∉ u.map Prod.fst → ρ' b = ρ b) ∧ Below base w w' ∧ ∀ g, g < w.heap.size → ¬ N.a g → w'.heap[g]? = w.heap[g]?

section
variable {P : Program} {N : Par} {base : Nat} {ρ : Map} {h : List Blk} {w : World} {F : Nat → Prop} {e : Env} {a : Act}

theorem RV.bool_inv {b : Bool} {v : Value} (hv : RV ρ w F (.t (.bool b)) v) : v = .bool b := by
  cases hv with | t h hf => cases h; rfl
theorem RV.int_inv {k : IntKind} {n : Int} {v : Value} (hv : RV ρ w F (.t (.int k n)) v) : v = .int k n := by
  cases hv with | t h hf => cases h; rfl
theorem RV.str_inv {s : ByteArray} {v : Value} (hv : RV ρ w F (.t (.str s)) v) : v = .string s := by
  cases hv with | t h hf => cases h; rfl
theorem RV.nil_inv {v : Value} (hv : RV ρ w F (.t .nil) v) : v = .slice none 0 0 := by
  cases hv with | t h hf => cases h; rfl

theorem RV.int_mk (k : IntKind) (n : Int) : RV ρ w F (.t (.int k n)) (.int k n) := .t (.int k n) (by intro g hg; cases hg)
theorem RV.bool_mk (b : Bool) : RV ρ w F (.t (.bool b)) (.bool b) := .t (.bool b) (by intro g hg; cases hg)
theorem RV.str_mk (s : ByteArray) : RV ρ w F (.t (.str s)) (.string s) := .t (.str s) (by intro g hg; cases hg)

theorem valT_rel {v : Value} {x : T} (hv : valT v = some x) : TR w x v [] := by
  unfold valT at hv
  split at hv <;> cases hv
  · exact .int _ _
  · exact .bool _
  · exact .str _
  · exact .nil

theorem valC_rel {v : Value} {x : AV} (hv : valC v = some x) : RV ρ w F x v ∧ v.oneCell' = true := by
  unfold valC at hv
  split at hv
  · cases hv; exact ⟨.nilp, rfl⟩
  · obtain ⟨t, ht, rfl⟩ := Option.map_eq_some_iff.1 hv
    exact ⟨.t (valT_rel ht) (by intro g hg; cases hg), (valT_rel (w := w) ht).one⟩

theorem mapO_cons {α β : Type} {f : α → Option β} {x : α} {xs : List α} {ys : List β} (hm : mapO f (x :: xs) = some ys) : ∃ y zs, f x = some y ∧ mapO f xs = some zs ∧ ys = y :: zs := by
  unfold mapO at hm
  split at hm
  · rename_i y ys' h1 h2; cases hm; exact ⟨y, ys', h1, h2, rfl⟩
  · cases hm

theorem mapO_valC {cs : List Value} {zs : List AV} (hm : mapO valC cs = some zs) : RVs ρ w F zs cs ∧ ∀ v ∈ cs, v.oneCell' = true := by
  induction cs generalizing zs with
  | nil => cases hm; exact ⟨.nil, by intro v hv; cases hv⟩
  | cons c cs ih =>
    obtain ⟨y, ys, h1, h2, rfl⟩ := mapO_cons hm
    obtain ⟨ha, hb⟩ := valC_rel (ρ := ρ) (w := w) (F := F) h1
    obtain ⟨hc, hd⟩ := ih h2
    exact ⟨.cons ha hc, by intro v hv; cases hv with | head => exact hb | tail _ hv => exact hd v hv⟩

theorem mapO_valT {cs : List Value} {zs : List T} (hm : mapO valT cs = some zs) : TRs w zs cs [] := by
  induction cs generalizing zs with
  | nil => cases hm; exact .nil
  | cons c cs ih =>
    obtain ⟨y, ys, h1, h2, rfl⟩ := mapO_cons hm
    exact TRs.cons (valT_rel h1) (ih h2)

theorem valAV_rel {v : Value} {x : AV} (hv : valAV v = some x) : RV ρ w F x v := by
  unfold valAV at hv
  split at hv
  · rename_i cs
    cases hm : mapO valC cs.toList with
    | none => simp [hm] at hv
    | some zs =>
      simp [hm] at hv
      subst hv
      obtain ⟨h1, h2⟩ := mapO_valC (ρ := ρ) (w := w) (F := F) hm
      exact .agg h1 h2
  · exact (valC_rel hv).1

theorem opd_rel (hE : RelEnv ρ w F e a.tmps) {x : Operand} {o : Opd} (ho : opd x = some o) : RV ρ w F (ev e o) (a.eval x) := by
  cases x with
  | tmp t => simp [opd] at ho; subst ho; exact hE t
  | const v =>
    simp only [opd] at ho
    cases hv : valAV v with
    | none => simp [hv] at ho
    | some y => simp [hv] at ho; subst ho; exact valAV_rel hv
  | global g => simp [opd] at ho
  | func f => simp [opd] at ho; subst ho; exact .fn .nil

theorem mapO_opd (hE : RelEnv ρ w F e a.tmps) {xs : List Operand} {os : List Opd} (hm : mapO opd xs = some os) : RVs ρ w F (os.map (ev e)) (xs.map a.eval) := by
  induction xs generalizing os with
  | nil => cases hm; exact .nil
  | cons x xs ih =>
    obtain ⟨y, ys, h1, h2, rfl⟩ := mapO_cons hm
    exact .cons (opd_rel hE h1) (ih h2)

theorem cellsOf_rel {v : AV} {cs : List AV} {val : Value} (hc : cellsOf v = some cs) (hv : RV ρ w F v val) : RVs ρ w F cs val.cells.toList ∧ ∀ x ∈ val.cells.toList, x.oneCell' = true := by
  cases hv with
  | top v => simp [cellsOf] at hc
  | tup h => simp [cellsOf] at hc
  | agg h h1 => simp [cellsOf] at hc; subst hc; exact ⟨h, h1⟩
  | nilp => simp [cellsOf] at hc; subst hc; exact ⟨.cons .nilp .nil, by simp [Value.cells, Value.oneCell']⟩
  | t h hf =>
    simp [cellsOf] at hc
    subst hc
    have h1 := h.one
    have : val.cells = #[val] := by cases val <;> first | rfl | simp [Value.oneCell'] at h1
    rw [this]
    exact ⟨.cons (.t h hf) .nil, by simpa using h1⟩
  | ptr hr hv => simp [cellsOf] at hc; subst hc; exact ⟨.cons (.ptr hr hv) .nil, by simp [Value.cells, Value.oneCell']⟩
  | eptr hr hv => simp [cellsOf] at hc; subst hc; exact ⟨.cons (.eptr hr hv) .nil, by simp [Value.cells, Value.oneCell']⟩
  | iptr hg hF h2 hf => simp [cellsOf] at hc; subst hc; exact ⟨.cons (.iptr hg hF h2 hf) .nil, by simp [Value.cells, Value.oneCell']⟩
  | @own b r hr h1 =>
    simp [cellsOf] at hc
    subst hc
    have : r.v.cells = #[r.v] := by cases hh : r.v <;> first | rfl | (rw [hh] at h1; simp [Value.oneCell'] at h1)
    rw [this]
    exact ⟨.cons (.own hr h1) .nil, by simpa using h1⟩
  | bsl hr hv => simp [cellsOf] at hc; subst hc; exact ⟨.cons (.bsl hr hv) .nil, by simp [Value.cells, Value.oneCell']⟩
  | fn h => simp [cellsOf] at hc; subst hc; exact ⟨.cons (.fn h) .nil, by simp [Value.cells, Value.oneCell']⟩

/-- nothing changes -/
theorem OpOK.same (R : Rel N base ρ h w) {s : Sem Next} {v : AV} {val : Value} (hs : s.run P w = .ok (.value val) w) (hv : RV ρ w (Free N ρ h) v val) : OpOK P N base ρ h w s v [] :=
  ⟨val, w, ρ, .inl hs, hv, R, .refl, fun _ _ => rfl, Below.refl _ _, fun _ _ _ => rfl⟩

theorem grownBy_none_alloc (w : World) (o : Obj) : w.grownBy (w.alloc o) none := World.grownBy_alloc w o none

/-- a new box -/
theorem OpOK.newBox (R : Rel N base ρ h w) {nx : Nat} (hn : ρ nx = none) {s : Sem Next} {c : Array Value} {cs : List AV} {t : TypeId}
    (hs : s.run P w = .ok (.value (.pointer (some ⟨w.heap.size, 0, none⟩))) (w.alloc (.cells c t))) (hc : RVs ρ w (Free N ρ h) cs c.toList) (h1 : ∀ v ∈ c.toList, v.oneCell' = true) :
    OpOK P N base ρ h w s (.ptr nx 0) [(nx, .box cs)] := by
  have hp := put_rel R (n := nx) (ks := []) (x := .box cs) (r := ⟨.pointer (some ⟨w.heap.size, 0, none⟩), []⟩) (row := none) (w' := w.alloc (.cells c t))
    (by intro r0 h0; rw [hn] at h0; cases h0) (grownBy_none_alloc w _) (by intro g hg; cases hg) (by intro g hg; simp [blkOf] at hg; exact .inl (by omega))
    (fun hk => ⟨w.heap.size, c, t, rfl, R.hb, heap_alloc_new w _, hc.keep hk, h1⟩) (by intro hf; cases hf)
  refine ⟨_, _, updM ρ nx ⟨.pointer (some ⟨w.heap.size, 0, none⟩), []⟩, .inl hs, ?_, hp.1, hp.2.1, ?_, (Below.refl _ _).alloc R.hb _, hp.2.2⟩
  · exact .ptr (r := ⟨.pointer (some ⟨w.heap.size, 0, none⟩), []⟩) (by simp [updM]) rfl
  · intro b hb; simp at hb; simp [updM, hb]

theorem run_zero {t : TypeId} {i : TypeInfo} {z : Value} (hi : P.info? t = some i) (hz : i.zero = some z) (w : World) : (zeroValue t).run P w = .ok z w := by
  simp [zeroValue, typeInfo, hi, hz]

theorem ok_alloc (R : Rel N base ρ h w) {nx : Nat} (hn : ρ nx = none) {t : TypeId} {zs : List AV} (hz : zeroC P t = some zs) :
    OpOK P N base ρ h w (do pure (.value (← Instr.alloc t true (.tuple #[])))) (.ptr nx 0) [(nx, .box zs)] := by
  unfold zeroC at hz
  cases hi : P.info? t with
  | none => simp [hi] at hz
  | some i =>
    cases hzz : i.zero with
    | none => simp [hi, hzz] at hz
    | some z =>
      simp [hi, hzz] at hz
      obtain ⟨h1, h2⟩ := mapO_valC (ρ := ρ) (w := w) (F := Free N ρ h) hz
      exact .newBox R hn (c := z.cells) (t := t) (by simp [Instr.alloc, run_zero hi hzz, newVar, newRow]) h1 h2

theorem ok_box (R : Rel N base ρ h w) {nx : Nat} (hn : ρ nx = none) {t : TypeId} {v : AV} {cs : List AV} {val : Value} (hv : RV ρ w (Free N ρ h) v val) (hc : cellsOf v = some cs) :
    OpOK P N base ρ h w (do pure (.value (← Instr.box t val))) (.ptr nx 0) [(nx, .box cs)] := by
  obtain ⟨h1, h2⟩ := cellsOf_rel hc hv
  exact .newBox R hn (c := val.cells) (t := t) (by simp [Instr.box, newVar, newRow]) h1 h2

end
end Go.AM
