/-
  PROVED: 'FnExactIsReadable' returns true for every input, and its arguments read as they did. No condition.
-/
import Derived.Test.YtlnnmndebmkdhaaW10
namespace Go.Proofs.Ytlnnmndebmkdhaa
open Go.AM
open Go.ChangeShapes Go.WideShapes Go.ChangeAt Go.RowKit
set_option linter.unusedVariables false

namespace fnExactIsReadable
set_option maxRecDepth 100000 in
theorem contract (H : Type) (enc : TypeId × Value → H) (W : World) (base : Nat) (args : Array Value) (ds gs : List (DataW H)) (before : List MemPlace)
    (hval : ∀ (j : Nat) t v, Try.f9.params[j]? = some t → args[j]? = some v → Value.okWide Try.prog W .any base t v)
    (hW : DataW.Whole enc Try.prog Try.f9.params.toList Rows.fnExactIsReadableSpec.vars false W args.toList ds gs before) :
    Calls Try.prog 9 args W fun e W' => ∃ v, e = .returned v ∧ Rows.fnExactIsReadableSpec.post enc Try.prog Try.f9 false true false false W args v W' := by
  refine law_contract (P := Try.prog) (f := 9) (fn := Try.f9) (s := Rows.fnExactIsReadableSpec) laidOut (tb := t_bool) (l := [(true, [.int .i64, .int .i64, .int .i64, .int .i64, .int .i64, .slice [.int .i64, .int .i64], .int .i64, .int .i64, .int .i64, .int .i64, .int .i64, .slice [.int .i64, .int .i64], .int .i64, .int .i64, .int .i64, .int .i64, .int .i64, .slice [.int .i64, .int .i64], .int .i64, .int .i64, .int .i64, .int .i64, .int .i64, .slice [.int .i64, .int .i64], .int .i64, .int .i64, .int .i64, .int .i64, .int .i64, .slice [.int .i64, .int .i64]]), (false, [.int .i64]), (false, [.int .i64])]) (by kernel_rfl) (by kernel_rfl) (by kernel_rfl) (by kernel_rfl) rfl ?_ ?_ W base args ds gs before hval hW
  · intro H ds h
    match ds, h with
    | [d0, d1, d2], _ => exact ⟨rfl, rfl, rfl⟩
  · intro xs h
    obtain ⟨a0, r0, rfl, p0, h⟩ := h
    obtain ⟨x0, rfl, h0⟩ := p0
    obtain ⟨v0, rfl, o0⟩ := Model.dec _ h0
    obtain ⟨a1, r1, rfl, p1, h⟩ := h
    obtain ⟨x1, rfl, h1⟩ := p1
    obtain ⟨t1, u1, e1, g1, -⟩ := dec_cons h1
    cases e1
    obtain ⟨v1, rfl, o1⟩ := dec_int g1
    obtain ⟨a2, r2, rfl, p2, h⟩ := h
    obtain ⟨x2, rfl, h2⟩ := p2
    obtain ⟨t2, u2, e2, g2, -⟩ := dec_cons h2
    cases e2
    obtain ⟨v2, rfl, o2⟩ := dec_int g2
    cases h
    exact ⟨_, sound (lawIsReadable v0 v1 v2 o0 o1 o2)⟩

set_option maxRecDepth 100000 in
theorem lifted (os : Os) (started : os.Started) (H : Type) (enc : TypeId × Value → H) :
    ReturnsInHanded {} Try.checked os 9 .any (Rows.fnExactIsReadableSpec.pre6 enc Try.prog Try.f9 Rows.fnExactIsReadableRow.domain false) (Rows.fnExactIsReadableSpec.post enc Try.prog Try.f9 false true false false) := by
  refine returnsInHanded_of_change (C := Try.checked) own started (by kernel_rfl) Try.func9
    (ChangeSpec.witness6 (enc := enc) (C := Try.checked) false ⟨#[], #[.agg #[.int .i64 0, .int .i64 0, .int .i64 0, .int .i64 0, .int .i64 0, .slice none 0 0, .int .i64 0, .int .i64 0, .int .i64 0, .int .i64 0, .int .i64 0, .slice none 0 0, .int .i64 0, .int .i64 0, .int .i64 0, .int .i64 0, .int .i64 0, .slice none 0 0, .int .i64 0, .int .i64 0, .int .i64 0, .int .i64 0, .int .i64 0, .slice none 0 0, .int .i64 0, .int .i64 0, .int .i64 0, .int .i64 0, .int .i64 0, .slice none 0 0], .int .i64 0, .int .i64 0], []⟩ 8 (by kernel_rfl) (by kernel_rfl) (by kernel_rfl) (by kernel_rfl)) ?_
  intro W base args ds gs before hval hW _ _
  exact contract H enc W base args ds gs before hval hW

theorem proved : Rows.FnExactIsReadableSaid :=
  OpenClaim.holds_of_wide 9 Try.f9 rfl rfl rfl rfl rfl rfl rfl ⟨rfl, rfl, rfl, rfl, rfl⟩ rfl rfl rfl rfl rfl (by kernel_rfl) Try.func9 (by kernel_rfl)
    (of_decide_eq_true (by kernel_rfl)) (by unfold Func.isWrapper; first | (rw [if_pos (by decide +kernel)]; kernel_rfl) | (rw [if_neg (by decide +kernel)]; exact ⟨rfl, rfl⟩))
    (fun os started H enc _ => lifted os started H enc)
end fnExactIsReadable

end Go.Proofs.Ytlnnmndebmkdhaa
