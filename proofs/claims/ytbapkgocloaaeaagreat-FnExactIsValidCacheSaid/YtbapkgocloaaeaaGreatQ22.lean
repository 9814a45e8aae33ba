/-
  PROVED: 'FnExactIsValidCache' returns true for every input, and its arguments read as they did. No condition.
-/
import Derived.Test.YtbapkgocloaaeaaGreatP15
namespace Go.Proofs.YtbapkgocloaaeaaGreat
open Go.AM
open Go.ChangeShapes Go.WideShapes Go.ChangeAt Go.RowKit

namespace fnExactIsValidCache
set_option maxRecDepth 100000 in
theorem contract (H : Type) (enc : TypeId × Value → H) (W : World) (base : Nat) (args : Array Value) (ds gs : List (DataW H)) (before : List MemPlace)
    (hval : ∀ (j : Nat) t v, Tryz.f7.params[j]? = some t → args[j]? = some v → Value.okWide Tryz.prog W .any base t v)
    (hW : DataW.Whole enc Tryz.prog Tryz.f7.params.toList Rows.fnExactIsValidCacheSpec.vars false W args.toList ds gs before) :
    Calls Tryz.prog 7 args W fun e W' => ∃ v, e = .returned v ∧ Rows.fnExactIsValidCacheSpec.post enc Tryz.prog Tryz.f7 false true false false W args v W' := by
  refine law_contract (P := Tryz.prog) (f := 7) (fn := Tryz.f7) (s := Rows.fnExactIsValidCacheSpec) laidOut (tb := t_bool) (l := [(true, [.int .i64, .int .i64, .int .i64, .int .i64, .int .i64, .slice [.int .i64, .int .i64], .int .i64, .int .i64, .int .i64, .int .i64, .int .i64, .slice [.int .i64, .int .i64], .int .i64, .int .i64, .int .i64, .int .i64, .int .i64, .slice [.int .i64, .int .i64], .int .i64, .int .i64, .int .i64, .int .i64, .int .i64, .slice [.int .i64, .int .i64], .int .i64, .int .i64, .int .i64, .int .i64, .int .i64, .slice [.int .i64, .int .i64]]), (true, [.int .i64, .slice [.int .i64, .slice [.str, .slice [.int .i64]], .slice [.int .i64, .int .i64, .int .i64], .slice [.int .i64], .slice [.int .i64], .int .i64, .int .i64, .int .i64]])]) (by kernel_rfl) (by kernel_rfl) (by kernel_rfl) (by kernel_rfl) rfl ?_ ?_ W base args ds gs before hval hW
  · intro H ds h
    match ds, h with
    | [d0, d1], _ => exact ⟨rfl, rfl, rfl⟩
  · intro xs h
    obtain ⟨a0, r0, rfl, p0, h⟩ := h
    obtain ⟨x0, rfl, h0⟩ := p0
    obtain ⟨v0, rfl, o0⟩ := Zd.dec _ h0
    obtain ⟨a1, r1, rfl, p1, h⟩ := h
    obtain ⟨x1, rfl, h1⟩ := p1
    obtain ⟨v1, rfl, o1⟩ := Zv.dec _ h1
    cases h
    exact ⟨_, sound (Z29 v0 v1 o0 o1)⟩

set_option maxRecDepth 100000 in
theorem lifted (os : Os) (started : os.Started) (H : Type) (enc : TypeId × Value → H) :
    ReturnsInHanded {} Tryz.checked os 7 .any (Rows.fnExactIsValidCacheSpec.pre6 enc Tryz.prog Tryz.f7 Rows.fnExactIsValidCacheRow.domain false) (Rows.fnExactIsValidCacheSpec.post enc Tryz.prog Tryz.f7 false true false false) := by
  refine returnsInHanded_of_change (C := Tryz.checked) own started (by kernel_rfl) Tryz.func7
    (ChangeSpec.witness6 (enc := enc) (C := Tryz.checked) false ⟨#[], #[.agg #[.int .i64 0, .int .i64 0, .int .i64 0, .int .i64 0, .int .i64 0, .slice none 0 0, .int .i64 0, .int .i64 0, .int .i64 0, .int .i64 0, .int .i64 0, .slice none 0 0, .int .i64 0, .int .i64 0, .int .i64 0, .int .i64 0, .int .i64 0, .slice none 0 0, .int .i64 0, .int .i64 0, .int .i64 0, .int .i64 0, .int .i64 0, .slice none 0 0, .int .i64 0, .int .i64 0, .int .i64 0, .int .i64 0, .int .i64 0, .slice none 0 0], .agg #[.int .i64 0, .slice none 0 0]], []⟩ 8 (by kernel_rfl) (by kernel_rfl) (by kernel_rfl) (by kernel_rfl)) ?_
  intro W base args ds gs before hval hW _ _
  exact contract H enc W base args ds gs before hval hW

theorem k1 : (Rows.fnExactIsValidCacheRow.inPlace == Tryz.prog.inPlace 7) = true := by kernel_rfl
theorem k2 : (Rows.fnExactIsValidCacheRow.unfollowed == Tryz.prog.unfollowed 7) = true := by kernel_rfl
theorem k3 : (Rows.fnExactIsValidCacheRow.recurses == Tryz.prog.recurses 7) = true := by kernel_rfl
theorem k4 : (Rows.fnExactIsValidCacheRow.named == Tryz.prog.varsNamed 7) = true := by kernel_rfl
theorem k5 : (Rows.fnExactIsValidCacheRow.lifted == Tryz.prog.liftsFinal) = true := by kernel_rfl
theorem k6 : (Tryz.prog.make == some Rows.fnExactIsValidCacheRow.make) = true := by kernel_rfl
theorem closed : joinedFacts Tryz.prog 7 Tryz.f7 Rows.fnExactIsValidCacheSpec Rows.fnExactIsValidCacheRow = true := by
  unfold joinedFacts
  rw [laidOut, k1, k2, k3, k4, k5, k6]
  kernel_rfl
theorem inst : Tryz.f7.isInstance Tryz.prog Rows.fnExactIsValidCacheRow.origin Rows.fnExactIsValidCacheRow.targs := of_decide_eq_true (by kernel_rfl)

theorem proved : Rows.FnExactIsValidCacheSaid :=
  OpenClaim.holds_of_wide 7 Tryz.f7 rfl rfl rfl rfl rfl rfl rfl ⟨rfl, rfl, rfl, rfl, rfl⟩ rfl rfl rfl rfl rfl (by kernel_rfl) Tryz.func7 closed
    inst (by unfold Func.isWrapper; first | (rw [if_pos (by decide +kernel)]; kernel_rfl) | (rw [if_neg (by decide +kernel)]; exact ⟨rfl, rfl⟩))
    (fun os started H enc _ => lifted os started H enc)
end fnExactIsValidCache

end Go.Proofs.YtbapkgocloaaeaaGreat
