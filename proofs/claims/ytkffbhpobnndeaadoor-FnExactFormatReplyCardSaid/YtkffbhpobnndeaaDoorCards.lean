/-
  DERIVED. GIVEN WITH THE SEED: THE CARDS: each row of YtkffbhpobnndeaaDoorRows.lean that lists a variable, with what it lists TIED to the program's text (the seventh form; the later family's looks); each row that meets fmt, with fmt's text TOLD by the authors' own Lean function (tested against real Go, not proved from fmt's source: count such statements apart). THE CARD IS WHAT COUNTS. Prove the row's statement (the work); the ties are given (YtkffbhpobnndeaaDoorTie.lean); close each card by the builder's one call (the guide's Derived/Test/ToyasCard.lean, 'card_holds'). Laid BY PROGRAM, IN A SANDBOX (cutbox-door.mjs). By AI agents, Wed Nov 11 2026. No macro, syntax, notation, axiom, sorry.
-/
import Derived.Test.YtkffbhpobnndeaaDoorRows
import GoSem.ClaimSeven
namespace Go.Proofs.YtkffbhpobnndeaaDoor
namespace Rows

/-- THE TIED CARD OF 'laws.FnExactFormatReply'. -/
def fnExactFormatReplyCard : Claim7 := { stood := { row := fnExactFormatReplyRow, standIns := [], harness := (true, "f0fd1f8032c8a09f65d5836f144bd181b945b55ed0899f59f0a776e5f4189477"), looks := false }, kinds := [], alts := [], laidByText := true, laidKinds := [.data, .data, .data], laidTests := true, laidLooks := .later }
def FnExactFormatReplyCardSaid : Prop := Claim7.holds Tryd.pinned (.plain (OpenSpec.ofChange fnExactFormatReplySpec)) fnExactFormatReplyCard

/-- THE SECOND FORM's CARD OF 'laws.FnExactFormatReply'. -/
def fnExactFormatReplyUptoCard : Claim7 := { stood := { row := fnExactFormatReplyUptoRow, standIns := [], harness := (true, "f0fd1f8032c8a09f65d5836f144bd181b945b55ed0899f59f0a776e5f4189477"), looks := false }, kinds := [], alts := [], laidByText := true, laidKinds := [.data, .data, .data], laidTests := true, laidLooks := .later }
def FnExactFormatReplyUptoCardSaid : Prop := Claim7.holds Tryd.pinned (.plain (OpenSpec.upto fnExactFormatReplySpec)) fnExactFormatReplyUptoCard
end Rows
end Go.Proofs.YtkffbhpobnndeaaDoor
