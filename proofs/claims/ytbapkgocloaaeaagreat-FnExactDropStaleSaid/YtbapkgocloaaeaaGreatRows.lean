/-
  No cell of these rows narrows 'for every input' (looked for: loops, veiled, ifaces, maps, wideKeys, modest, calm, conditions, laid).
  DERIVED. THE GIVEN ROWS OF THIS SEAT. 10 by the template 'for every input the law returns true; each argument reads behind the call as it read before'; 0 by the template 'total and deterministic' (their statements: YtbapkgocloaaeaaGreatTotals.lean).
  GIVEN WITH THE SEED: the statements are not yours to turn. If you find one false, say at which input.
  Laid BY PROGRAM, IN A SANDBOX (cutbox-rows.mjs): the forced cells as the released guide's own fill.sh prints them over the translation 301a8078974edb12… (all of the seat's roots in one cut). By AI agents, Wed Nov 11 2026. No macro, syntax, notation, axiom, sorry.
-/
import Derived.Test.YtbapkgocloaaeaaGreatChecked
import GoSem.Claim
import GoSem.ClaimJoined
import GoSem.ClaimMapViews
import Derived.JoinedTies
import Derived.KernelRfl
namespace Go.Proofs.YtbapkgocloaaeaaGreat
/- THE CELL 'sum', in the pinned program and in every row, IS THE sha256 OF THE DUMP (.gsa) THAT YtbapkgocloaaeaaGreatProg.lean LOADS. Nothing in Lean hashes anything: it is a label: what it is worth is what the hold of that sum in a sandbox is worth. -/
noncomputable def Tryz.pinned : Pinned := { name := "ytbapkgocloaaeaagreat", sum := "301a8078974edb124ab7e49c4a912c3381c98ac979a825fa3a28d3dc17dddbaf", checked := Tryz.checked }
namespace Rows
def none {H : Type} : Left H := { results := [], args := [] }

/-- 'laws.FnExactReusedSteps': WHATEVER THE INPUT: true; the input reads as it did. -/
def fnExactReusedStepsSpec : ChangeSpec := { name := "fnExactReusedSteps", fn := fun _ => fun
  | [d1, d2, d3, d4] => { results := [.lit (.bool true)], args := [d1, d2, d3, d4] }
  | _ => none }
def fnExactReusedStepsRow : OpenClaim := { program := "ytbapkgocloaaeaagreat", sum := "301a8078974edb124ab7e49c4a912c3381c98ac979a825fa3a28d3dc17dddbaf", func := "loop.example/g01921/laws.FnExactReusedSteps", spec := "fnExactReusedSteps", unfollowed := true, recurses := true, apart := false }
def FnExactReusedStepsSaid : Prop := fnExactReusedStepsRow.holds Tryz.pinned (OpenSpec.ofChange fnExactReusedStepsSpec)

/-- ITS FALSE NEIGHBOUR: 'it returns false'. Refute it at one input. -/
def fnExactReusedStepsWrong : ChangeSpec := { name := "fnExactReusedSteps", fn := fun _ => fun
  | [d1, d2, d3, d4] => { results := [.lit (.bool false)], args := [d1, d2, d3, d4] }
  | _ => none }
def FnExactReusedStepsWrongFalsely : Prop := fnExactReusedStepsRow.holds Tryz.pinned (OpenSpec.ofChange fnExactReusedStepsWrong)

/-- 'laws.FnExactIsProvedRegion': WHATEVER THE INPUT: true; the input reads as it did. -/
def fnExactIsProvedRegionSpec : ChangeSpec := { name := "fnExactIsProvedRegion", fn := fun _ => fun
  | [d1, d2, d3] => { results := [.lit (.bool true)], args := [d1, d2, d3] }
  | _ => none }
def fnExactIsProvedRegionRow : OpenClaim := { program := "ytbapkgocloaaeaagreat", sum := "301a8078974edb124ab7e49c4a912c3381c98ac979a825fa3a28d3dc17dddbaf", func := "loop.example/g01921/laws.FnExactIsProvedRegion", spec := "fnExactIsProvedRegion", apart := false }
def FnExactIsProvedRegionSaid : Prop := fnExactIsProvedRegionRow.holds Tryz.pinned (OpenSpec.ofChange fnExactIsProvedRegionSpec)

/-- ITS FALSE NEIGHBOUR: 'it returns false'. Refute it at one input. -/
def fnExactIsProvedRegionWrong : ChangeSpec := { name := "fnExactIsProvedRegion", fn := fun _ => fun
  | [d1, d2, d3] => { results := [.lit (.bool false)], args := [d1, d2, d3] }
  | _ => none }
def FnExactIsProvedRegionWrongFalsely : Prop := fnExactIsProvedRegionRow.holds Tryz.pinned (OpenSpec.ofChange fnExactIsProvedRegionWrong)

/-- 'laws.FnExactRegionHolds': WHATEVER THE INPUT: true; the input reads as it did. -/
def fnExactRegionHoldsSpec : ChangeSpec := { name := "fnExactRegionHolds", fn := fun _ => fun
  | [d1, d2, d3] => { results := [.lit (.bool true)], args := [d1, d2, d3] }
  | _ => none }
def fnExactRegionHoldsRow : OpenClaim := { program := "ytbapkgocloaaeaagreat", sum := "301a8078974edb124ab7e49c4a912c3381c98ac979a825fa3a28d3dc17dddbaf", func := "loop.example/g01921/laws.FnExactRegionHolds", spec := "fnExactRegionHolds", apart := false }
def FnExactRegionHoldsSaid : Prop := fnExactRegionHoldsRow.holds Tryz.pinned (OpenSpec.ofChange fnExactRegionHoldsSpec)

/-- ITS FALSE NEIGHBOUR: 'it returns false'. Refute it at one input. -/
def fnExactRegionHoldsWrong : ChangeSpec := { name := "fnExactRegionHolds", fn := fun _ => fun
  | [d1, d2, d3] => { results := [.lit (.bool false)], args := [d1, d2, d3] }
  | _ => none }
def FnExactRegionHoldsWrongFalsely : Prop := fnExactRegionHoldsRow.holds Tryz.pinned (OpenSpec.ofChange fnExactRegionHoldsWrong)

/-- 'laws.FnRegions': WHATEVER THE INPUT: true; the input reads as it did. -/
def fnRegionsSpec : ChangeSpec := { name := "fnRegions", fn := fun _ => fun
  | [d] => { results := [.lit (.bool true)], args := [d] }
  | _ => none }
def fnRegionsRow : OpenClaim := { program := "ytbapkgocloaaeaagreat", sum := "301a8078974edb124ab7e49c4a912c3381c98ac979a825fa3a28d3dc17dddbaf", func := "loop.example/g01921/laws.FnRegions", spec := "fnRegions", recurses := true, apart := false }
def FnRegionsSaid : Prop := fnRegionsRow.holds Tryz.pinned (OpenSpec.ofChange fnRegionsSpec)

/-- ITS FALSE NEIGHBOUR: 'it returns false'. Refute it at one input. -/
def fnRegionsWrong : ChangeSpec := { name := "fnRegions", fn := fun _ => fun
  | [d] => { results := [.lit (.bool false)], args := [d] }
  | _ => none }
def FnRegionsWrongFalsely : Prop := fnRegionsRow.holds Tryz.pinned (OpenSpec.ofChange fnRegionsWrong)

/-- 'laws.FnExactIsValidCache': WHATEVER THE INPUT: true; the input reads as it did. -/
def fnExactIsValidCacheSpec : ChangeSpec := { name := "fnExactIsValidCache", fn := fun _ => fun
  | [d1, d2] => { results := [.lit (.bool true)], args := [d1, d2] }
  | _ => none }
def fnExactIsValidCacheRow : OpenClaim := { program := "ytbapkgocloaaeaagreat", sum := "301a8078974edb124ab7e49c4a912c3381c98ac979a825fa3a28d3dc17dddbaf", func := "loop.example/g01921/laws.FnExactIsValidCache", spec := "fnExactIsValidCache", unfollowed := true, recurses := true, apart := false }
def FnExactIsValidCacheSaid : Prop := fnExactIsValidCacheRow.holds Tryz.pinned (OpenSpec.ofChange fnExactIsValidCacheSpec)

/-- ITS FALSE NEIGHBOUR: 'it returns false'. Refute it at one input. -/
def fnExactIsValidCacheWrong : ChangeSpec := { name := "fnExactIsValidCache", fn := fun _ => fun
  | [d1, d2] => { results := [.lit (.bool false)], args := [d1, d2] }
  | _ => none }
def FnExactIsValidCacheWrongFalsely : Prop := fnExactIsValidCacheRow.holds Tryz.pinned (OpenSpec.ofChange fnExactIsValidCacheWrong)

/-- 'laws.FnExactGrowRegion': WHATEVER THE INPUT: true; the input reads as it did. -/
def fnExactGrowRegionSpec : ChangeSpec := { name := "fnExactGrowRegion", fn := fun _ => fun
  | [d1, d2, d3, d4, d5, d6] => { results := [.lit (.bool true)], args := [d1, d2, d3, d4, d5, d6] }
  | _ => none }
def fnExactGrowRegionRow : OpenClaim := { program := "ytbapkgocloaaeaagreat", sum := "301a8078974edb124ab7e49c4a912c3381c98ac979a825fa3a28d3dc17dddbaf", func := "loop.example/g01921/laws.FnExactGrowRegion", spec := "fnExactGrowRegion", apart := false }
def FnExactGrowRegionSaid : Prop := fnExactGrowRegionRow.holds Tryz.pinned (OpenSpec.ofChange fnExactGrowRegionSpec)

/-- ITS FALSE NEIGHBOUR: 'it returns false'. Refute it at one input. -/
def fnExactGrowRegionWrong : ChangeSpec := { name := "fnExactGrowRegion", fn := fun _ => fun
  | [d1, d2, d3, d4, d5, d6] => { results := [.lit (.bool false)], args := [d1, d2, d3, d4, d5, d6] }
  | _ => none }
def FnExactGrowRegionWrongFalsely : Prop := fnExactGrowRegionRow.holds Tryz.pinned (OpenSpec.ofChange fnExactGrowRegionWrong)

/-- 'laws.FnCache': WHATEVER THE INPUT: true; the input reads as it did. -/
def fnCacheSpec : ChangeSpec := { name := "fnCache", fn := fun _ => fun
  | [d] => { results := [.lit (.bool true)], args := [d] }
  | _ => none }
def fnCacheRow : OpenClaim := { program := "ytbapkgocloaaeaagreat", sum := "301a8078974edb124ab7e49c4a912c3381c98ac979a825fa3a28d3dc17dddbaf", func := "loop.example/g01921/laws.FnCache", spec := "fnCache", unfollowed := true, recurses := true, apart := false }
def FnCacheSaid : Prop := fnCacheRow.holds Tryz.pinned (OpenSpec.ofChange fnCacheSpec)

/-- ITS FALSE NEIGHBOUR: 'it returns false'. Refute it at one input. -/
def fnCacheWrong : ChangeSpec := { name := "fnCache", fn := fun _ => fun
  | [d] => { results := [.lit (.bool false)], args := [d] }
  | _ => none }
def FnCacheWrongFalsely : Prop := fnCacheRow.holds Tryz.pinned (OpenSpec.ofChange fnCacheWrong)

/-- 'laws.FnExactDropStale': WHATEVER THE INPUT: true; the input reads as it did. -/
def fnExactDropStaleSpec : ChangeSpec := { name := "fnExactDropStale", fn := fun _ => fun
  | [d1, d2, d3] => { results := [.lit (.bool true)], args := [d1, d2, d3] }
  | _ => none }
def fnExactDropStaleRow : OpenClaim := { program := "ytbapkgocloaaeaagreat", sum := "301a8078974edb124ab7e49c4a912c3381c98ac979a825fa3a28d3dc17dddbaf", func := "loop.example/g01921/laws.FnExactDropStale", spec := "fnExactDropStale", unfollowed := true, recurses := true, apart := false }
def FnExactDropStaleSaid : Prop := fnExactDropStaleRow.holds Tryz.pinned (OpenSpec.ofChange fnExactDropStaleSpec)

/-- ITS FALSE NEIGHBOUR: 'it returns false'. Refute it at one input. -/
def fnExactDropStaleWrong : ChangeSpec := { name := "fnExactDropStale", fn := fun _ => fun
  | [d1, d2, d3] => { results := [.lit (.bool false)], args := [d1, d2, d3] }
  | _ => none }
def FnExactDropStaleWrongFalsely : Prop := fnExactDropStaleRow.holds Tryz.pinned (OpenSpec.ofChange fnExactDropStaleWrong)

/-- 'laws.FnExactAddRegion': WHATEVER THE INPUT: true; the input reads as it did. -/
def fnExactAddRegionSpec : ChangeSpec := { name := "fnExactAddRegion", fn := fun _ => fun
  | [d1, d2, d3, d4, d5] => { results := [.lit (.bool true)], args := [d1, d2, d3, d4, d5] }
  | _ => none }
def fnExactAddRegionRow : OpenClaim := { program := "ytbapkgocloaaeaagreat", sum := "301a8078974edb124ab7e49c4a912c3381c98ac979a825fa3a28d3dc17dddbaf", func := "loop.example/g01921/laws.FnExactAddRegion", spec := "fnExactAddRegion", unfollowed := true, recurses := true, apart := false }
def FnExactAddRegionSaid : Prop := fnExactAddRegionRow.holds Tryz.pinned (OpenSpec.ofChange fnExactAddRegionSpec)

/-- ITS FALSE NEIGHBOUR: 'it returns false'. Refute it at one input. -/
def fnExactAddRegionWrong : ChangeSpec := { name := "fnExactAddRegion", fn := fun _ => fun
  | [d1, d2, d3, d4, d5] => { results := [.lit (.bool false)], args := [d1, d2, d3, d4, d5] }
  | _ => none }
def FnExactAddRegionWrongFalsely : Prop := fnExactAddRegionRow.holds Tryz.pinned (OpenSpec.ofChange fnExactAddRegionWrong)

/-- 'laws.FnExactLookupPlan': WHATEVER THE INPUT: true; the input reads as it did. -/
def fnExactLookupPlanSpec : ChangeSpec := { name := "fnExactLookupPlan", fn := fun _ => fun
  | [d1, d2, d3, d4, d5] => { results := [.lit (.bool true)], args := [d1, d2, d3, d4, d5] }
  | _ => none }
def fnExactLookupPlanRow : OpenClaim := { program := "ytbapkgocloaaeaagreat", sum := "301a8078974edb124ab7e49c4a912c3381c98ac979a825fa3a28d3dc17dddbaf", func := "loop.example/g01921/laws.FnExactLookupPlan", spec := "fnExactLookupPlan", unfollowed := true, recurses := true, apart := false }
def FnExactLookupPlanSaid : Prop := fnExactLookupPlanRow.holds Tryz.pinned (OpenSpec.ofChange fnExactLookupPlanSpec)

/-- ITS FALSE NEIGHBOUR: 'it returns false'. Refute it at one input. -/
def fnExactLookupPlanWrong : ChangeSpec := { name := "fnExactLookupPlan", fn := fun _ => fun
  | [d1, d2, d3, d4, d5] => { results := [.lit (.bool false)], args := [d1, d2, d3, d4, d5] }
  | _ => none }
def FnExactLookupPlanWrongFalsely : Prop := fnExactLookupPlanRow.holds Tryz.pinned (OpenSpec.ofChange fnExactLookupPlanWrong)

/- THE SECOND FORM. 'bulk': how many values and letters a reading holds, each counted each time it is reached (what is shared counts as often as it is met; a slice's spare places count too). A statement '..UptoSaid' is the law's where the arguments, and the package variables that the reading takes, are together of bulk at most 1048576: NARROWER than '..Said'. Prove '..Said' where nothing that the law and all that it calls make is longer than what came in: it says more and counts as full. Else prove '..UptoSaid'. A law counts once. -/
mutual
def uptoBulk {H : Type} : DataW H → Nat
  | .lit (.string bytes) => bytes.length + 1
  | .lit _ => 1
  | .nil => 1
  | .ptr d => uptoBulk d + 1
  | .slice elems spare => uptoBulkAll elems + uptoBulkAll spare + 1
  | .agg parts => uptoBulkAll parts + 1
  | .iface _ d => uptoBulk d + 1
  | .map entries => uptoBulkEntries entries + 1
  | .held _ => 1
def uptoBulkAll {H : Type} : List (DataW H) → Nat
  | [] => 0
  | d :: r => uptoBulk d + uptoBulkAll r
def uptoBulkEntries {H : Type} : List (Lit × DataW H) → Nat
  | [] => 0
  | x :: r => uptoBulkEntry x + uptoBulkEntries r
def uptoBulkEntry {H : Type} : Lit × DataW H → Nat
  | (.string bytes, d) => bytes.length + uptoBulk d + 1
  | (_, d) => uptoBulk d + 1
 end
def uptoSmall : (H : Type) → List (DataW H) → Bool := fun _ ds => decide (uptoBulkAll ds ≤ 1048576)
def OpenSpec.upto (s : _root_.Go.ChangeSpec) : _root_.Go.OpenSpec := { _root_.Go.OpenSpec.ofChange s with cond := some uptoSmall }

/-- 'laws.FnExactReusedSteps', WHERE WHAT IT READS IS OF BULK AT MOST 1048576: true; the input reads as it did. -/
def fnExactReusedStepsUptoRow : OpenClaim := { program := "ytbapkgocloaaeaagreat", sum := "301a8078974edb124ab7e49c4a912c3381c98ac979a825fa3a28d3dc17dddbaf", func := "loop.example/g01921/laws.FnExactReusedSteps", spec := "fnExactReusedSteps", unfollowed := true, recurses := true, apart := false, narrowed := true }
def FnExactReusedStepsUptoSaid : Prop := fnExactReusedStepsUptoRow.holds Tryz.pinned (OpenSpec.upto fnExactReusedStepsSpec)

/-- 'laws.FnExactIsProvedRegion', WHERE WHAT IT READS IS OF BULK AT MOST 1048576: true; the input reads as it did. -/
def fnExactIsProvedRegionUptoRow : OpenClaim := { program := "ytbapkgocloaaeaagreat", sum := "301a8078974edb124ab7e49c4a912c3381c98ac979a825fa3a28d3dc17dddbaf", func := "loop.example/g01921/laws.FnExactIsProvedRegion", spec := "fnExactIsProvedRegion", apart := false, narrowed := true }
def FnExactIsProvedRegionUptoSaid : Prop := fnExactIsProvedRegionUptoRow.holds Tryz.pinned (OpenSpec.upto fnExactIsProvedRegionSpec)

/-- 'laws.FnExactRegionHolds', WHERE WHAT IT READS IS OF BULK AT MOST 1048576: true; the input reads as it did. -/
def fnExactRegionHoldsUptoRow : OpenClaim := { program := "ytbapkgocloaaeaagreat", sum := "301a8078974edb124ab7e49c4a912c3381c98ac979a825fa3a28d3dc17dddbaf", func := "loop.example/g01921/laws.FnExactRegionHolds", spec := "fnExactRegionHolds", apart := false, narrowed := true }
def FnExactRegionHoldsUptoSaid : Prop := fnExactRegionHoldsUptoRow.holds Tryz.pinned (OpenSpec.upto fnExactRegionHoldsSpec)

/-- 'laws.FnRegions', WHERE WHAT IT READS IS OF BULK AT MOST 1048576: true; the input reads as it did. -/
def fnRegionsUptoRow : OpenClaim := { program := "ytbapkgocloaaeaagreat", sum := "301a8078974edb124ab7e49c4a912c3381c98ac979a825fa3a28d3dc17dddbaf", func := "loop.example/g01921/laws.FnRegions", spec := "fnRegions", recurses := true, apart := false, narrowed := true }
def FnRegionsUptoSaid : Prop := fnRegionsUptoRow.holds Tryz.pinned (OpenSpec.upto fnRegionsSpec)

/-- 'laws.FnExactIsValidCache', WHERE WHAT IT READS IS OF BULK AT MOST 1048576: true; the input reads as it did. -/
def fnExactIsValidCacheUptoRow : OpenClaim := { program := "ytbapkgocloaaeaagreat", sum := "301a8078974edb124ab7e49c4a912c3381c98ac979a825fa3a28d3dc17dddbaf", func := "loop.example/g01921/laws.FnExactIsValidCache", spec := "fnExactIsValidCache", unfollowed := true, recurses := true, apart := false, narrowed := true }
def FnExactIsValidCacheUptoSaid : Prop := fnExactIsValidCacheUptoRow.holds Tryz.pinned (OpenSpec.upto fnExactIsValidCacheSpec)

/-- 'laws.FnExactGrowRegion', WHERE WHAT IT READS IS OF BULK AT MOST 1048576: true; the input reads as it did. -/
def fnExactGrowRegionUptoRow : OpenClaim := { program := "ytbapkgocloaaeaagreat", sum := "301a8078974edb124ab7e49c4a912c3381c98ac979a825fa3a28d3dc17dddbaf", func := "loop.example/g01921/laws.FnExactGrowRegion", spec := "fnExactGrowRegion", apart := false, narrowed := true }
def FnExactGrowRegionUptoSaid : Prop := fnExactGrowRegionUptoRow.holds Tryz.pinned (OpenSpec.upto fnExactGrowRegionSpec)

/-- 'laws.FnCache', WHERE WHAT IT READS IS OF BULK AT MOST 1048576: true; the input reads as it did. -/
def fnCacheUptoRow : OpenClaim := { program := "ytbapkgocloaaeaagreat", sum := "301a8078974edb124ab7e49c4a912c3381c98ac979a825fa3a28d3dc17dddbaf", func := "loop.example/g01921/laws.FnCache", spec := "fnCache", unfollowed := true, recurses := true, apart := false, narrowed := true }
def FnCacheUptoSaid : Prop := fnCacheUptoRow.holds Tryz.pinned (OpenSpec.upto fnCacheSpec)

/-- 'laws.FnExactDropStale', WHERE WHAT IT READS IS OF BULK AT MOST 1048576: true; the input reads as it did. -/
def fnExactDropStaleUptoRow : OpenClaim := { program := "ytbapkgocloaaeaagreat", sum := "301a8078974edb124ab7e49c4a912c3381c98ac979a825fa3a28d3dc17dddbaf", func := "loop.example/g01921/laws.FnExactDropStale", spec := "fnExactDropStale", unfollowed := true, recurses := true, apart := false, narrowed := true }
def FnExactDropStaleUptoSaid : Prop := fnExactDropStaleUptoRow.holds Tryz.pinned (OpenSpec.upto fnExactDropStaleSpec)

/-- 'laws.FnExactAddRegion', WHERE WHAT IT READS IS OF BULK AT MOST 1048576: true; the input reads as it did. -/
def fnExactAddRegionUptoRow : OpenClaim := { program := "ytbapkgocloaaeaagreat", sum := "301a8078974edb124ab7e49c4a912c3381c98ac979a825fa3a28d3dc17dddbaf", func := "loop.example/g01921/laws.FnExactAddRegion", spec := "fnExactAddRegion", unfollowed := true, recurses := true, apart := false, narrowed := true }
def FnExactAddRegionUptoSaid : Prop := fnExactAddRegionUptoRow.holds Tryz.pinned (OpenSpec.upto fnExactAddRegionSpec)

/-- 'laws.FnExactLookupPlan', WHERE WHAT IT READS IS OF BULK AT MOST 1048576: true; the input reads as it did. -/
def fnExactLookupPlanUptoRow : OpenClaim := { program := "ytbapkgocloaaeaagreat", sum := "301a8078974edb124ab7e49c4a912c3381c98ac979a825fa3a28d3dc17dddbaf", func := "loop.example/g01921/laws.FnExactLookupPlan", spec := "fnExactLookupPlan", unfollowed := true, recurses := true, apart := false, narrowed := true }
def FnExactLookupPlanUptoSaid : Prop := fnExactLookupPlanUptoRow.holds Tryz.pinned (OpenSpec.upto fnExactLookupPlanSpec)

end Rows
end Go.Proofs.YtbapkgocloaaeaaGreat
