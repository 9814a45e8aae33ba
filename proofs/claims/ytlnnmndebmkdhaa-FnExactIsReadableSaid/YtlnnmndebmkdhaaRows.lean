/-
  No cell of these rows narrows 'for every input' (looked for: loops, veiled, ifaces, maps, wideKeys, modest, calm, conditions, laid).
  DERIVED. THE GIVEN ROWS OF THIS SEAT. 7 by the template 'for every input the law returns true; each argument reads behind the call as it read before'; 0 by the template 'total and deterministic' (their statements: YtlnnmndebmkdhaaTotals.lean).
  GIVEN WITH THE SEED: the statements are not yours to turn. If you find one false, say at which input.
  Laid BY PROGRAM, IN A SANDBOX (cutbox-rows.mjs): the forced cells as the released guide's own fill.sh prints them over the translation 3f61dbb669af24e9… (all of the seat's roots in one cut). By AI agents, Wed Nov 11 2026. No macro, syntax, notation, axiom, sorry.
-/
import Derived.Test.YtlnnmndebmkdhaaChecked
import GoSem.Claim
import GoSem.ClaimJoined
import GoSem.ClaimMapViews
import Derived.JoinedTies
import Derived.KernelRfl
namespace Go.Proofs.Ytlnnmndebmkdhaa
/- THE CELL 'sum', in the pinned program and in every row, IS THE sha256 OF THE DUMP (.gsa) THAT YtlnnmndebmkdhaaProg.lean LOADS. Nothing in Lean hashes anything: it is a label: what it is worth is what the hold of that sum in a sandbox is worth. -/
noncomputable def Try.pinned : Pinned := { name := "ytlnnmndebmkdhaa", sum := "3f61dbb669af24e9f59cf694f6968886b0eb8d2eeb05f96419a417cfb9275497", checked := Try.checked }
namespace Rows
def none {H : Type} : Left H := { results := [], args := [] }

/-- 'laws.FnExactAuditName': WHATEVER THE INPUT: true; the input reads as it did. -/
def fnExactAuditNameSpec : ChangeSpec := { name := "fnExactAuditName", fn := fun _ => fun
  | [d] => { results := [.lit (.bool true)], args := [d] }
  | _ => none }
def fnExactAuditNameRow : OpenClaim := { program := "ytlnnmndebmkdhaa", sum := "3f61dbb669af24e9f59cf694f6968886b0eb8d2eeb05f96419a417cfb9275497", func := "loop.example/g01921/laws.FnExactAuditName", spec := "fnExactAuditName", apart := false }
def FnExactAuditNameSaid : Prop := fnExactAuditNameRow.holds Try.pinned (OpenSpec.ofChange fnExactAuditNameSpec)

/-- ITS FALSE NEIGHBOUR: 'it returns false'. Refute it at one input. -/
def fnExactAuditNameWrong : ChangeSpec := { name := "fnExactAuditName", fn := fun _ => fun
  | [d] => { results := [.lit (.bool false)], args := [d] }
  | _ => none }
def FnExactAuditNameWrongFalsely : Prop := fnExactAuditNameRow.holds Try.pinned (OpenSpec.ofChange fnExactAuditNameWrong)

/-- 'laws.FnExactKeepResult': WHATEVER THE INPUT: true; the input reads as it did. -/
def fnExactKeepResultSpec : ChangeSpec := { name := "fnExactKeepResult", fn := fun _ => fun
  | [d1, d2] => { results := [.lit (.bool true)], args := [d1, d2] }
  | _ => none }
def fnExactKeepResultRow : OpenClaim := { program := "ytlnnmndebmkdhaa", sum := "3f61dbb669af24e9f59cf694f6968886b0eb8d2eeb05f96419a417cfb9275497", func := "loop.example/g01921/laws.FnExactKeepResult", spec := "fnExactKeepResult", apart := false }
def FnExactKeepResultSaid : Prop := fnExactKeepResultRow.holds Try.pinned (OpenSpec.ofChange fnExactKeepResultSpec)

/-- ITS FALSE NEIGHBOUR: 'it returns false'. Refute it at one input. -/
def fnExactKeepResultWrong : ChangeSpec := { name := "fnExactKeepResult", fn := fun _ => fun
  | [d1, d2] => { results := [.lit (.bool false)], args := [d1, d2] }
  | _ => none }
def FnExactKeepResultWrongFalsely : Prop := fnExactKeepResultRow.holds Try.pinned (OpenSpec.ofChange fnExactKeepResultWrong)

/-- 'laws.FnExactEqualReplies': WHATEVER THE INPUT: true; the input reads as it did. -/
def fnExactEqualRepliesSpec : ChangeSpec := { name := "fnExactEqualReplies", fn := fun _ => fun
  | [d1, d2] => { results := [.lit (.bool true)], args := [d1, d2] }
  | _ => none }
def fnExactEqualRepliesRow : OpenClaim := { program := "ytlnnmndebmkdhaa", sum := "3f61dbb669af24e9f59cf694f6968886b0eb8d2eeb05f96419a417cfb9275497", func := "loop.example/g01921/laws.FnExactEqualReplies", spec := "fnExactEqualReplies", unfollowed := true, recurses := true, apart := false }
def FnExactEqualRepliesSaid : Prop := fnExactEqualRepliesRow.holds Try.pinned (OpenSpec.ofChange fnExactEqualRepliesSpec)

/-- ITS FALSE NEIGHBOUR: 'it returns false'. Refute it at one input. -/
def fnExactEqualRepliesWrong : ChangeSpec := { name := "fnExactEqualReplies", fn := fun _ => fun
  | [d1, d2] => { results := [.lit (.bool false)], args := [d1, d2] }
  | _ => none }
def FnExactEqualRepliesWrongFalsely : Prop := fnExactEqualRepliesRow.holds Try.pinned (OpenSpec.ofChange fnExactEqualRepliesWrong)

/-- 'laws.FnExactEqualRegions': WHATEVER THE INPUT: true; the input reads as it did. -/
def fnExactEqualRegionsSpec : ChangeSpec := { name := "fnExactEqualRegions", fn := fun _ => fun
  | [d1, d2] => { results := [.lit (.bool true)], args := [d1, d2] }
  | _ => none }
def fnExactEqualRegionsRow : OpenClaim := { program := "ytlnnmndebmkdhaa", sum := "3f61dbb669af24e9f59cf694f6968886b0eb8d2eeb05f96419a417cfb9275497", func := "loop.example/g01921/laws.FnExactEqualRegions", spec := "fnExactEqualRegions", apart := false }
def FnExactEqualRegionsSaid : Prop := fnExactEqualRegionsRow.holds Try.pinned (OpenSpec.ofChange fnExactEqualRegionsSpec)

/-- ITS FALSE NEIGHBOUR: 'it returns false'. Refute it at one input. -/
def fnExactEqualRegionsWrong : ChangeSpec := { name := "fnExactEqualRegions", fn := fun _ => fun
  | [d1, d2] => { results := [.lit (.bool false)], args := [d1, d2] }
  | _ => none }
def FnExactEqualRegionsWrongFalsely : Prop := fnExactEqualRegionsRow.holds Try.pinned (OpenSpec.ofChange fnExactEqualRegionsWrong)

/-- 'laws.FnExactReadCost': WHATEVER THE INPUT: true; the input reads as it did. -/
def fnExactReadCostSpec : ChangeSpec := { name := "fnExactReadCost", fn := fun _ => fun
  | [d1, d2] => { results := [.lit (.bool true)], args := [d1, d2] }
  | _ => none }
def fnExactReadCostRow : OpenClaim := { program := "ytlnnmndebmkdhaa", sum := "3f61dbb669af24e9f59cf694f6968886b0eb8d2eeb05f96419a417cfb9275497", func := "loop.example/g01921/laws.FnExactReadCost", spec := "fnExactReadCost", apart := false }
def FnExactReadCostSaid : Prop := fnExactReadCostRow.holds Try.pinned (OpenSpec.ofChange fnExactReadCostSpec)

/-- ITS FALSE NEIGHBOUR: 'it returns false'. Refute it at one input. -/
def fnExactReadCostWrong : ChangeSpec := { name := "fnExactReadCost", fn := fun _ => fun
  | [d1, d2] => { results := [.lit (.bool false)], args := [d1, d2] }
  | _ => none }
def FnExactReadCostWrongFalsely : Prop := fnExactReadCostRow.holds Try.pinned (OpenSpec.ofChange fnExactReadCostWrong)

/-- 'laws.FnExactOldestEntry': WHATEVER THE INPUT: true; the input reads as it did. -/
def fnExactOldestEntrySpec : ChangeSpec := { name := "fnExactOldestEntry", fn := fun _ => fun
  | [d] => { results := [.lit (.bool true)], args := [d] }
  | _ => none }
def fnExactOldestEntryRow : OpenClaim := { program := "ytlnnmndebmkdhaa", sum := "3f61dbb669af24e9f59cf694f6968886b0eb8d2eeb05f96419a417cfb9275497", func := "loop.example/g01921/laws.FnExactOldestEntry", spec := "fnExactOldestEntry", apart := false }
def FnExactOldestEntrySaid : Prop := fnExactOldestEntryRow.holds Try.pinned (OpenSpec.ofChange fnExactOldestEntrySpec)

/-- ITS FALSE NEIGHBOUR: 'it returns false'. Refute it at one input. -/
def fnExactOldestEntryWrong : ChangeSpec := { name := "fnExactOldestEntry", fn := fun _ => fun
  | [d] => { results := [.lit (.bool false)], args := [d] }
  | _ => none }
def FnExactOldestEntryWrongFalsely : Prop := fnExactOldestEntryRow.holds Try.pinned (OpenSpec.ofChange fnExactOldestEntryWrong)

/-- 'laws.FnExactIsReadable': WHATEVER THE INPUT: true; the input reads as it did. -/
def fnExactIsReadableSpec : ChangeSpec := { name := "fnExactIsReadable", fn := fun _ => fun
  | [d1, d2, d3] => { results := [.lit (.bool true)], args := [d1, d2, d3] }
  | _ => none }
def fnExactIsReadableRow : OpenClaim := { program := "ytlnnmndebmkdhaa", sum := "3f61dbb669af24e9f59cf694f6968886b0eb8d2eeb05f96419a417cfb9275497", func := "loop.example/g01921/laws.FnExactIsReadable", spec := "fnExactIsReadable", apart := false }
def FnExactIsReadableSaid : Prop := fnExactIsReadableRow.holds Try.pinned (OpenSpec.ofChange fnExactIsReadableSpec)

/-- ITS FALSE NEIGHBOUR: 'it returns false'. Refute it at one input. -/
def fnExactIsReadableWrong : ChangeSpec := { name := "fnExactIsReadable", fn := fun _ => fun
  | [d1, d2, d3] => { results := [.lit (.bool false)], args := [d1, d2, d3] }
  | _ => none }
def FnExactIsReadableWrongFalsely : Prop := fnExactIsReadableRow.holds Try.pinned (OpenSpec.ofChange fnExactIsReadableWrong)

/- THE SECOND FORM. 'bulk': how many values and letters a reading holds, each counted each time it is reached (what is shared counts as often as it is met; a slice's spare places count too). A statement '..UptoSaid' is the law's where the arguments, and the package variables that the reading takes, are together of bulk at most 1048576: NARROWER than '..Said'. Prove '..Said' where nothing that the law and all that it calls make is longer than what came in: it says more and counts as full. Else prove '..UptoSaid'. A law counts once. -/
mutual
def uptoBulk {H : Type} : DataW H → Nat
  | .lit (.string bytes) => bytes.length + 1
  | .lit _ => 1
  | .nil => 1
  | .ptr d => uptoBulk d + 1
  | .slice elems spare => uptoBulkAll elems + uptoBulkAll spare + 1
  | .agg parts => uptoBulkAll parts + 1
  | .iface _ d => uptoBulk d + 1
  | .map entries => uptoBulkEntries entries + 1
  | .held _ => 1
def uptoBulkAll {H : Type} : List (DataW H) → Nat
  | [] => 0
  | d :: r => uptoBulk d + uptoBulkAll r
def uptoBulkEntries {H : Type} : List (Lit × DataW H) → Nat
  | [] => 0
  | x :: r => uptoBulkEntry x + uptoBulkEntries r
def uptoBulkEntry {H : Type} : Lit × DataW H → Nat
  | (.string bytes, d) => bytes.length + uptoBulk d + 1
  | (_, d) => uptoBulk d + 1
 end
def uptoSmall : (H : Type) → List (DataW H) → Bool := fun _ ds => decide (uptoBulkAll ds ≤ 1048576)
def OpenSpec.upto (s : _root_.Go.ChangeSpec) : _root_.Go.OpenSpec := { _root_.Go.OpenSpec.ofChange s with cond := some uptoSmall }

/-- 'laws.FnExactAuditName', WHERE WHAT IT READS IS OF BULK AT MOST 1048576: true; the input reads as it did. -/
def fnExactAuditNameUptoRow : OpenClaim := { program := "ytlnnmndebmkdhaa", sum := "3f61dbb669af24e9f59cf694f6968886b0eb8d2eeb05f96419a417cfb9275497", func := "loop.example/g01921/laws.FnExactAuditName", spec := "fnExactAuditName", apart := false, narrowed := true }
def FnExactAuditNameUptoSaid : Prop := fnExactAuditNameUptoRow.holds Try.pinned (OpenSpec.upto fnExactAuditNameSpec)

/-- 'laws.FnExactKeepResult', WHERE WHAT IT READS IS OF BULK AT MOST 1048576: true; the input reads as it did. -/
def fnExactKeepResultUptoRow : OpenClaim := { program := "ytlnnmndebmkdhaa", sum := "3f61dbb669af24e9f59cf694f6968886b0eb8d2eeb05f96419a417cfb9275497", func := "loop.example/g01921/laws.FnExactKeepResult", spec := "fnExactKeepResult", apart := false, narrowed := true }
def FnExactKeepResultUptoSaid : Prop := fnExactKeepResultUptoRow.holds Try.pinned (OpenSpec.upto fnExactKeepResultSpec)

/-- 'laws.FnExactEqualReplies', WHERE WHAT IT READS IS OF BULK AT MOST 1048576: true; the input reads as it did. -/
def fnExactEqualRepliesUptoRow : OpenClaim := { program := "ytlnnmndebmkdhaa", sum := "3f61dbb669af24e9f59cf694f6968886b0eb8d2eeb05f96419a417cfb9275497", func := "loop.example/g01921/laws.FnExactEqualReplies", spec := "fnExactEqualReplies", unfollowed := true, recurses := true, apart := false, narrowed := true }
def FnExactEqualRepliesUptoSaid : Prop := fnExactEqualRepliesUptoRow.holds Try.pinned (OpenSpec.upto fnExactEqualRepliesSpec)

/-- 'laws.FnExactEqualRegions', WHERE WHAT IT READS IS OF BULK AT MOST 1048576: true; the input reads as it did. -/
def fnExactEqualRegionsUptoRow : OpenClaim := { program := "ytlnnmndebmkdhaa", sum := "3f61dbb669af24e9f59cf694f6968886b0eb8d2eeb05f96419a417cfb9275497", func := "loop.example/g01921/laws.FnExactEqualRegions", spec := "fnExactEqualRegions", apart := false, narrowed := true }
def FnExactEqualRegionsUptoSaid : Prop := fnExactEqualRegionsUptoRow.holds Try.pinned (OpenSpec.upto fnExactEqualRegionsSpec)

/-- 'laws.FnExactReadCost', WHERE WHAT IT READS IS OF BULK AT MOST 1048576: true; the input reads as it did. -/
def fnExactReadCostUptoRow : OpenClaim := { program := "ytlnnmndebmkdhaa", sum := "3f61dbb669af24e9f59cf694f6968886b0eb8d2eeb05f96419a417cfb9275497", func := "loop.example/g01921/laws.FnExactReadCost", spec := "fnExactReadCost", apart := false, narrowed := true }
def FnExactReadCostUptoSaid : Prop := fnExactReadCostUptoRow.holds Try.pinned (OpenSpec.upto fnExactReadCostSpec)

/-- 'laws.FnExactOldestEntry', WHERE WHAT IT READS IS OF BULK AT MOST 1048576: true; the input reads as it did. -/
def fnExactOldestEntryUptoRow : OpenClaim := { program := "ytlnnmndebmkdhaa", sum := "3f61dbb669af24e9f59cf694f6968886b0eb8d2eeb05f96419a417cfb9275497", func := "loop.example/g01921/laws.FnExactOldestEntry", spec := "fnExactOldestEntry", apart := false, narrowed := true }
def FnExactOldestEntryUptoSaid : Prop := fnExactOldestEntryUptoRow.holds Try.pinned (OpenSpec.upto fnExactOldestEntrySpec)

/-- 'laws.FnExactIsReadable', WHERE WHAT IT READS IS OF BULK AT MOST 1048576: true; the input reads as it did. -/
def fnExactIsReadableUptoRow : OpenClaim := { program := "ytlnnmndebmkdhaa", sum := "3f61dbb669af24e9f59cf694f6968886b0eb8d2eeb05f96419a417cfb9275497", func := "loop.example/g01921/laws.FnExactIsReadable", spec := "fnExactIsReadable", apart := false, narrowed := true }
def FnExactIsReadableUptoSaid : Prop := fnExactIsReadableUptoRow.holds Try.pinned (OpenSpec.upto fnExactIsReadableSpec)

end Rows
end Go.Proofs.Ytlnnmndebmkdhaa
