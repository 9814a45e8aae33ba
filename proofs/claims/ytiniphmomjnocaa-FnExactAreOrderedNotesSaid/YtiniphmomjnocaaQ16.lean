/-
  PROVED: 'FnExactAreOrderedNotes' returns true for every input, and its arguments read as they did. No condition.
-/
import Derived.Test.YtiniphmomjnocaaV9
namespace Go.Proofs.Ytiniphmomjnocaa
open Go.AM
open Go.ChangeShapes Go.WideShapes Go.ChangeAt Go.RowKit
set_option linter.unusedVariables false

namespace fnExactAreOrderedNotes
set_option maxRecDepth 100000 in
theorem contract (H : Type) (enc : TypeId × Value → H) (W : World) (base : Nat) (args : Array Value) (ds gs : List (DataW H)) (before : List MemPlace)
    (hval : ∀ (j : Nat) t v, Try.f6.params[j]? = some t → args[j]? = some v → Value.okWide Try.prog W .any base t v)
    (hW : DataW.Whole enc Try.prog Try.f6.params.toList Rows.fnExactAreOrderedNotesSpec.vars false W args.toList ds gs before) :
    Calls Try.prog 6 args W fun e W' => ∃ v, e = .returned v ∧ Rows.fnExactAreOrderedNotesSpec.post enc Try.prog Try.f6 false true false false W args v W' := by
  refine law_contract (P := Try.prog) (f := 6) (fn := Try.f6) (s := Rows.fnExactAreOrderedNotesSpec) laidOut (tb := t_bool) (l := [(true, [.int .i64, .slice [.str, .slice [.int .i64]]]), (true, [.int .i64, .int .i64, .int .i64, .slice [.int .i64], .slice [.int .i64], .slice [.int .i64], .slice [.slice [.int .i64, .int .i64, .int .i64]], .slice [.slice [.int .i64]]]), (false, [.slice [.int .i64, .int .i64, .int .i64, .int .i64, .bool]])]) (by kernel_rfl) (by kernel_rfl) (by kernel_rfl) (by kernel_rfl) rfl ?_ ?_ W base args ds gs before hval hW
  · intro H ds h
    match ds, h with
    | [d0, d1, d2], _ => exact ⟨rfl, rfl, rfl⟩
  · intro xs h
    obtain ⟨a0, r0, rfl, p0, h⟩ := h
    obtain ⟨x0, rfl, h0⟩ := p0
    obtain ⟨v0, rfl, o0⟩ := Query.dec _ h0
    obtain ⟨a1, r1, rfl, p1, h⟩ := h
    obtain ⟨x1, rfl, h1⟩ := p1
    obtain ⟨v1, rfl, o1⟩ := Bouquet.dec _ h1
    obtain ⟨a2, r2, rfl, p2, h⟩ := h
    obtain ⟨x2, rfl, h2⟩ := p2
    obtain ⟨t2, u2, e2, g2, -⟩ := dec_cons h2
    cases e2
    obtain ⟨v2, rfl, o2⟩ := dec_slice RunNote.dec g2
    cases h
    exact ⟨_, sound (lawAreOrderedNotes v0 v1 v2 o0 o1 o2)⟩

set_option maxRecDepth 100000 in
theorem lifted (os : Os) (started : os.Started) (H : Type) (enc : TypeId × Value → H) :
    ReturnsInHanded {} Try.checked os 6 .any (Rows.fnExactAreOrderedNotesSpec.pre6 enc Try.prog Try.f6 Rows.fnExactAreOrderedNotesRow.domain false) (Rows.fnExactAreOrderedNotesSpec.post enc Try.prog Try.f6 false true false false) := by
  refine returnsInHanded_of_change (C := Try.checked) own started (by kernel_rfl) Try.func6
    (ChangeSpec.witness6 (enc := enc) (C := Try.checked) false ⟨#[], #[.agg #[.int .i64 0, .slice none 0 0], .agg #[.int .i64 0, .int .i64 0, .int .i64 0, .slice none 0 0, .slice none 0 0, .slice none 0 0, .slice none 0 0, .slice none 0 0], .slice none 0 0], []⟩ 8 (by kernel_rfl) (by kernel_rfl) (by kernel_rfl) (by kernel_rfl)) ?_
  intro W base args ds gs before hval hW _ _
  exact contract H enc W base args ds gs before hval hW

theorem proved : Rows.FnExactAreOrderedNotesSaid :=
  OpenClaim.holds_of_wide 6 Try.f6 rfl rfl rfl rfl rfl rfl rfl ⟨rfl, rfl, rfl, rfl, rfl⟩ rfl rfl rfl rfl rfl (by kernel_rfl) Try.func6 (by kernel_rfl)
    (of_decide_eq_true (by kernel_rfl)) (by unfold Func.isWrapper; first | (rw [if_pos (by decide +kernel)]; kernel_rfl) | (rw [if_neg (by decide +kernel)]; exact ⟨rfl, rfl⟩))
    (fun os started H enc _ => lifted os started H enc)
end fnExactAreOrderedNotes

end Go.Proofs.Ytiniphmomjnocaa
