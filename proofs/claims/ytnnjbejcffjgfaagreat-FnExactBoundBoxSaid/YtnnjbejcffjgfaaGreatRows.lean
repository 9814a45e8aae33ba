/-
  No cell of these rows narrows 'for every input' (looked for: loops, veiled, ifaces, maps, wideKeys, modest, calm, conditions, laid).
  DERIVED. THE GIVEN ROWS OF THIS SEAT. 4 by the template 'for every input the law returns true; each argument reads behind the call as it read before'; 0 by the template 'total and deterministic' (their statements: YtnnjbejcffjgfaaGreatTotals.lean).
  GIVEN WITH THE SEED: the statements are not yours to turn. If you find one false, say at which input.
  Laid BY PROGRAM, IN A SANDBOX (cutbox-rows.mjs): the forced cells as the released guide's own fill.sh prints them over the translation c3d93ff0e111c4b7… (all of the seat's roots in one cut). By AI agents, Wed Nov 11 2026. No macro, syntax, notation, axiom, sorry.
-/
import Derived.Test.YtnnjbejcffjgfaaGreatChecked
import GoSem.Claim
import GoSem.ClaimJoined
import GoSem.ClaimMapViews
import Derived.JoinedTies
import Derived.KernelRfl
namespace Go.Proofs.YtnnjbejcffjgfaaGreat
/- THE CELL 'sum', in the pinned program and in every row, IS THE sha256 OF THE DUMP (.gsa) THAT YtnnjbejcffjgfaaGreatProg.lean LOADS. Nothing in Lean hashes anything: it is a label: what it is worth is what the hold of that sum in a sandbox is worth. -/
noncomputable def Tryz.pinned : Pinned := { name := "ytnnjbejcffjgfaagreat", sum := "c3d93ff0e111c4b7fff346fb0646dc3b93a2d6796b3741f02ff465ef1ffcebc0", checked := Tryz.checked }
namespace Rows
def none {H : Type} : Left H := { results := [], args := [] }

/-- 'laws.FnExactUpperBound': WHATEVER THE INPUT: true; the input reads as it did. -/
def fnExactUpperBoundSpec : ChangeSpec := { name := "fnExactUpperBound", fn := fun _ => fun
  | [d1, d2, d3] => { results := [.lit (.bool true)], args := [d1, d2, d3] }
  | _ => none }
def fnExactUpperBoundRow : OpenClaim := { program := "ytnnjbejcffjgfaagreat", sum := "c3d93ff0e111c4b7fff346fb0646dc3b93a2d6796b3741f02ff465ef1ffcebc0", func := "loop.example/g01921/laws.FnExactUpperBound", spec := "fnExactUpperBound", unfollowed := true, recurses := true, apart := false }
def FnExactUpperBoundSaid : Prop := fnExactUpperBoundRow.holds Tryz.pinned (OpenSpec.ofChange fnExactUpperBoundSpec)

/-- ITS FALSE NEIGHBOUR: 'it returns false'. Refute it at one input. -/
def fnExactUpperBoundWrong : ChangeSpec := { name := "fnExactUpperBound", fn := fun _ => fun
  | [d1, d2, d3] => { results := [.lit (.bool false)], args := [d1, d2, d3] }
  | _ => none }
def FnExactUpperBoundWrongFalsely : Prop := fnExactUpperBoundRow.holds Tryz.pinned (OpenSpec.ofChange fnExactUpperBoundWrong)

/-- 'laws.FnExactUpperBoundRule': WHATEVER THE INPUT: true; the input reads as it did. -/
def fnExactUpperBoundRuleSpec : ChangeSpec := { name := "fnExactUpperBoundRule", fn := fun _ => fun
  | [d1, d2, d3] => { results := [.lit (.bool true)], args := [d1, d2, d3] }
  | _ => none }
def fnExactUpperBoundRuleRow : OpenClaim := { program := "ytnnjbejcffjgfaagreat", sum := "c3d93ff0e111c4b7fff346fb0646dc3b93a2d6796b3741f02ff465ef1ffcebc0", func := "loop.example/g01921/laws.FnExactUpperBoundRule", spec := "fnExactUpperBoundRule", unfollowed := true, recurses := true, apart := false }
def FnExactUpperBoundRuleSaid : Prop := fnExactUpperBoundRuleRow.holds Tryz.pinned (OpenSpec.ofChange fnExactUpperBoundRuleSpec)

/-- ITS FALSE NEIGHBOUR: 'it returns false'. Refute it at one input. -/
def fnExactUpperBoundRuleWrong : ChangeSpec := { name := "fnExactUpperBoundRule", fn := fun _ => fun
  | [d1, d2, d3] => { results := [.lit (.bool false)], args := [d1, d2, d3] }
  | _ => none }
def FnExactUpperBoundRuleWrongFalsely : Prop := fnExactUpperBoundRuleRow.holds Tryz.pinned (OpenSpec.ofChange fnExactUpperBoundRuleWrong)

/-- 'laws.FnExactUpperBounds': WHATEVER THE INPUT: true; the input reads as it did. -/
def fnExactUpperBoundsSpec : ChangeSpec := { name := "fnExactUpperBounds", fn := fun _ => fun
  | [d1, d2] => { results := [.lit (.bool true)], args := [d1, d2] }
  | _ => none }
def fnExactUpperBoundsRow : OpenClaim := { program := "ytnnjbejcffjgfaagreat", sum := "c3d93ff0e111c4b7fff346fb0646dc3b93a2d6796b3741f02ff465ef1ffcebc0", func := "loop.example/g01921/laws.FnExactUpperBounds", spec := "fnExactUpperBounds", unfollowed := true, recurses := true, apart := false }
def FnExactUpperBoundsSaid : Prop := fnExactUpperBoundsRow.holds Tryz.pinned (OpenSpec.ofChange fnExactUpperBoundsSpec)

/-- ITS FALSE NEIGHBOUR: 'it returns false'. Refute it at one input. -/
def fnExactUpperBoundsWrong : ChangeSpec := { name := "fnExactUpperBounds", fn := fun _ => fun
  | [d1, d2] => { results := [.lit (.bool false)], args := [d1, d2] }
  | _ => none }
def FnExactUpperBoundsWrongFalsely : Prop := fnExactUpperBoundsRow.holds Tryz.pinned (OpenSpec.ofChange fnExactUpperBoundsWrong)

/-- 'laws.FnExactBoundBox': WHATEVER THE INPUT: true; the input reads as it did. -/
def fnExactBoundBoxSpec : ChangeSpec := { name := "fnExactBoundBox", fn := fun _ => fun
  | [d1, d2] => { results := [.lit (.bool true)], args := [d1, d2] }
  | _ => none }
def fnExactBoundBoxRow : OpenClaim := { program := "ytnnjbejcffjgfaagreat", sum := "c3d93ff0e111c4b7fff346fb0646dc3b93a2d6796b3741f02ff465ef1ffcebc0", func := "loop.example/g01921/laws.FnExactBoundBox", spec := "fnExactBoundBox", unfollowed := true, recurses := true, apart := false }
def FnExactBoundBoxSaid : Prop := fnExactBoundBoxRow.holds Tryz.pinned (OpenSpec.ofChange fnExactBoundBoxSpec)

/-- ITS FALSE NEIGHBOUR: 'it returns false'. Refute it at one input. -/
def fnExactBoundBoxWrong : ChangeSpec := { name := "fnExactBoundBox", fn := fun _ => fun
  | [d1, d2] => { results := [.lit (.bool false)], args := [d1, d2] }
  | _ => none }
def FnExactBoundBoxWrongFalsely : Prop := fnExactBoundBoxRow.holds Tryz.pinned (OpenSpec.ofChange fnExactBoundBoxWrong)

/- THE SECOND FORM. 'bulk': how many values and letters a reading holds, each counted each time it is reached (what is shared counts as often as it is met; a slice's spare places count too). A statement '..UptoSaid' is the law's where the arguments, and the package variables that the reading takes, are together of bulk at most 1048576: NARROWER than '..Said'. Prove '..Said' where nothing that the law and all that it calls make is longer than what came in: it says more and counts as full. Else prove '..UptoSaid'. A law counts once. -/
mutual
def uptoBulk {H : Type} : DataW H → Nat
  | .lit (.string bytes) => bytes.length + 1
  | .lit _ => 1
  | .nil => 1
  | .ptr d => uptoBulk d + 1
  | .slice elems spare => uptoBulkAll elems + uptoBulkAll spare + 1
  | .agg parts => uptoBulkAll parts + 1
  | .iface _ d => uptoBulk d + 1
  | .map entries => uptoBulkEntries entries + 1
  | .held _ => 1
def uptoBulkAll {H : Type} : List (DataW H) → Nat
  | [] => 0
  | d :: r => uptoBulk d + uptoBulkAll r
def uptoBulkEntries {H : Type} : List (Lit × DataW H) → Nat
  | [] => 0
  | x :: r => uptoBulkEntry x + uptoBulkEntries r
def uptoBulkEntry {H : Type} : Lit × DataW H → Nat
  | (.string bytes, d) => bytes.length + uptoBulk d + 1
  | (_, d) => uptoBulk d + 1
 end
def uptoSmall : (H : Type) → List (DataW H) → Bool := fun _ ds => decide (uptoBulkAll ds ≤ 1048576)
def OpenSpec.upto (s : _root_.Go.ChangeSpec) : _root_.Go.OpenSpec := { _root_.Go.OpenSpec.ofChange s with cond := some uptoSmall }

/-- 'laws.FnExactUpperBound', WHERE WHAT IT READS IS OF BULK AT MOST 1048576: true; the input reads as it did. -/
def fnExactUpperBoundUptoRow : OpenClaim := { program := "ytnnjbejcffjgfaagreat", sum := "c3d93ff0e111c4b7fff346fb0646dc3b93a2d6796b3741f02ff465ef1ffcebc0", func := "loop.example/g01921/laws.FnExactUpperBound", spec := "fnExactUpperBound", unfollowed := true, recurses := true, apart := false, narrowed := true }
def FnExactUpperBoundUptoSaid : Prop := fnExactUpperBoundUptoRow.holds Tryz.pinned (OpenSpec.upto fnExactUpperBoundSpec)

/-- 'laws.FnExactUpperBoundRule', WHERE WHAT IT READS IS OF BULK AT MOST 1048576: true; the input reads as it did. -/
def fnExactUpperBoundRuleUptoRow : OpenClaim := { program := "ytnnjbejcffjgfaagreat", sum := "c3d93ff0e111c4b7fff346fb0646dc3b93a2d6796b3741f02ff465ef1ffcebc0", func := "loop.example/g01921/laws.FnExactUpperBoundRule", spec := "fnExactUpperBoundRule", unfollowed := true, recurses := true, apart := false, narrowed := true }
def FnExactUpperBoundRuleUptoSaid : Prop := fnExactUpperBoundRuleUptoRow.holds Tryz.pinned (OpenSpec.upto fnExactUpperBoundRuleSpec)

/-- 'laws.FnExactUpperBounds', WHERE WHAT IT READS IS OF BULK AT MOST 1048576: true; the input reads as it did. -/
def fnExactUpperBoundsUptoRow : OpenClaim := { program := "ytnnjbejcffjgfaagreat", sum := "c3d93ff0e111c4b7fff346fb0646dc3b93a2d6796b3741f02ff465ef1ffcebc0", func := "loop.example/g01921/laws.FnExactUpperBounds", spec := "fnExactUpperBounds", unfollowed := true, recurses := true, apart := false, narrowed := true }
def FnExactUpperBoundsUptoSaid : Prop := fnExactUpperBoundsUptoRow.holds Tryz.pinned (OpenSpec.upto fnExactUpperBoundsSpec)

/-- 'laws.FnExactBoundBox', WHERE WHAT IT READS IS OF BULK AT MOST 1048576: true; the input reads as it did. -/
def fnExactBoundBoxUptoRow : OpenClaim := { program := "ytnnjbejcffjgfaagreat", sum := "c3d93ff0e111c4b7fff346fb0646dc3b93a2d6796b3741f02ff465ef1ffcebc0", func := "loop.example/g01921/laws.FnExactBoundBox", spec := "fnExactBoundBox", unfollowed := true, recurses := true, apart := false, narrowed := true }
def FnExactBoundBoxUptoSaid : Prop := fnExactBoundBoxUptoRow.holds Tryz.pinned (OpenSpec.upto fnExactBoundBoxSpec)

end Rows
end Go.Proofs.YtnnjbejcffjgfaaGreat
