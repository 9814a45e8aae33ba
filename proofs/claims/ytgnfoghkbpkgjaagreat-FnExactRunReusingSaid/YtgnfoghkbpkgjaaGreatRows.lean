/-
  No cell of these rows narrows 'for every input' (looked for: loops, veiled, ifaces, maps, wideKeys, modest, calm, conditions, laid).
  DERIVED. THE GIVEN ROWS OF THIS SEAT. 8 by the template 'for every input the law returns true; each argument reads behind the call as it read before'; 0 by the template 'total and deterministic' (their statements: YtgnfoghkbpkgjaaGreatTotals.lean).
  GIVEN WITH THE SEED: the statements are not yours to turn. If you find one false, say at which input.
  Laid BY PROGRAM, IN A SANDBOX (cutbox-rows.mjs): the forced cells as the released guide's own fill.sh prints them over the translation 2c36c00973fe2693… (all of the seat's roots in one cut). By AI agents, Wed Nov 11 2026. No macro, syntax, notation, axiom, sorry.
-/
import Derived.Test.YtgnfoghkbpkgjaaGreatChecked
import GoSem.Claim
import GoSem.ClaimJoined
import GoSem.ClaimMapViews
import Derived.JoinedTies
import Derived.KernelRfl
namespace Go.Proofs.YtgnfoghkbpkgjaaGreat
/- THE CELL 'sum', in the pinned program and in every row, IS THE sha256 OF THE DUMP (.gsa) THAT YtgnfoghkbpkgjaaGreatProg.lean LOADS. Nothing in Lean hashes anything: it is a label: what it is worth is what the hold of that sum in a sandbox is worth. -/
noncomputable def Tryz.pinned : Pinned := { name := "ytgnfoghkbpkgjaagreat", sum := "2c36c00973fe26932ce1641766c7de328a25a8786d22f299bd0072366af23cf5", checked := Tryz.checked }
namespace Rows
def none {H : Type} : Left H := { results := [], args := [] }

/-- 'laws.FnExactWorstLocation': WHATEVER THE INPUT: true; the input reads as it did. -/
def fnExactWorstLocationSpec : ChangeSpec := { name := "fnExactWorstLocation", fn := fun _ => fun
  | [d1, d2, d3] => { results := [.lit (.bool true)], args := [d1, d2, d3] }
  | _ => none }
def fnExactWorstLocationRow : OpenClaim := { program := "ytgnfoghkbpkgjaagreat", sum := "2c36c00973fe26932ce1641766c7de328a25a8786d22f299bd0072366af23cf5", func := "loop.example/g01921/laws.FnExactWorstLocation", spec := "fnExactWorstLocation", unfollowed := true, recurses := true, apart := false }
def FnExactWorstLocationSaid : Prop := fnExactWorstLocationRow.holds Tryz.pinned (OpenSpec.ofChange fnExactWorstLocationSpec)

/-- ITS FALSE NEIGHBOUR: 'it returns false'. Refute it at one input. -/
def fnExactWorstLocationWrong : ChangeSpec := { name := "fnExactWorstLocation", fn := fun _ => fun
  | [d1, d2, d3] => { results := [.lit (.bool false)], args := [d1, d2, d3] }
  | _ => none }
def FnExactWorstLocationWrongFalsely : Prop := fnExactWorstLocationRow.holds Tryz.pinned (OpenSpec.ofChange fnExactWorstLocationWrong)

/-- 'laws.FnExactOracleCost': WHATEVER THE INPUT: true; the input reads as it did. -/
def fnExactOracleCostSpec : ChangeSpec := { name := "fnExactOracleCost", fn := fun _ => fun
  | [d1, d2, d3] => { results := [.lit (.bool true)], args := [d1, d2, d3] }
  | _ => none }
def fnExactOracleCostRow : OpenClaim := { program := "ytgnfoghkbpkgjaagreat", sum := "2c36c00973fe26932ce1641766c7de328a25a8786d22f299bd0072366af23cf5", func := "loop.example/g01921/laws.FnExactOracleCost", spec := "fnExactOracleCost", unfollowed := true, recurses := true, apart := false }
def FnExactOracleCostSaid : Prop := fnExactOracleCostRow.holds Tryz.pinned (OpenSpec.ofChange fnExactOracleCostSpec)

/-- ITS FALSE NEIGHBOUR: 'it returns false'. Refute it at one input. -/
def fnExactOracleCostWrong : ChangeSpec := { name := "fnExactOracleCost", fn := fun _ => fun
  | [d1, d2, d3] => { results := [.lit (.bool false)], args := [d1, d2, d3] }
  | _ => none }
def FnExactOracleCostWrongFalsely : Prop := fnExactOracleCostRow.holds Tryz.pinned (OpenSpec.ofChange fnExactOracleCostWrong)

/-- 'laws.FnExactOraclePlan': WHATEVER THE INPUT: true; the input reads as it did. -/
def fnExactOraclePlanSpec : ChangeSpec := { name := "fnExactOraclePlan", fn := fun _ => fun
  | [d1, d2, d3] => { results := [.lit (.bool true)], args := [d1, d2, d3] }
  | _ => none }
def fnExactOraclePlanRow : OpenClaim := { program := "ytgnfoghkbpkgjaagreat", sum := "2c36c00973fe26932ce1641766c7de328a25a8786d22f299bd0072366af23cf5", func := "loop.example/g01921/laws.FnExactOraclePlan", spec := "fnExactOraclePlan", unfollowed := true, recurses := true, apart := false }
def FnExactOraclePlanSaid : Prop := fnExactOraclePlanRow.holds Tryz.pinned (OpenSpec.ofChange fnExactOraclePlanSpec)

/-- ITS FALSE NEIGHBOUR: 'it returns false'. Refute it at one input. -/
def fnExactOraclePlanWrong : ChangeSpec := { name := "fnExactOraclePlan", fn := fun _ => fun
  | [d1, d2, d3] => { results := [.lit (.bool false)], args := [d1, d2, d3] }
  | _ => none }
def FnExactOraclePlanWrongFalsely : Prop := fnExactOraclePlanRow.holds Tryz.pinned (OpenSpec.ofChange fnExactOraclePlanWrong)

/-- 'laws.FnExactFirstWrongRun': WHATEVER THE INPUT: true; the input reads as it did. -/
def fnExactFirstWrongRunSpec : ChangeSpec := { name := "fnExactFirstWrongRun", fn := fun _ => fun
  | [d1, d2, d3, d4, d5] => { results := [.lit (.bool true)], args := [d1, d2, d3, d4, d5] }
  | _ => none }
def fnExactFirstWrongRunRow : OpenClaim := { program := "ytgnfoghkbpkgjaagreat", sum := "2c36c00973fe26932ce1641766c7de328a25a8786d22f299bd0072366af23cf5", func := "loop.example/g01921/laws.FnExactFirstWrongRun", spec := "fnExactFirstWrongRun", unfollowed := true, recurses := true, apart := false }
def FnExactFirstWrongRunSaid : Prop := fnExactFirstWrongRunRow.holds Tryz.pinned (OpenSpec.ofChange fnExactFirstWrongRunSpec)

/-- ITS FALSE NEIGHBOUR: 'it returns false'. Refute it at one input. -/
def fnExactFirstWrongRunWrong : ChangeSpec := { name := "fnExactFirstWrongRun", fn := fun _ => fun
  | [d1, d2, d3, d4, d5] => { results := [.lit (.bool false)], args := [d1, d2, d3, d4, d5] }
  | _ => none }
def FnExactFirstWrongRunWrongFalsely : Prop := fnExactFirstWrongRunRow.holds Tryz.pinned (OpenSpec.ofChange fnExactFirstWrongRunWrong)

/-- 'laws.FnKept': WHATEVER THE INPUT: true; the input reads as it did. -/
def fnKeptSpec : ChangeSpec := { name := "fnKept", fn := fun _ => fun
  | [d] => { results := [.lit (.bool true)], args := [d] }
  | _ => none }
def fnKeptRow : OpenClaim := { program := "ytgnfoghkbpkgjaagreat", sum := "2c36c00973fe26932ce1641766c7de328a25a8786d22f299bd0072366af23cf5", func := "loop.example/g01921/laws.FnKept", spec := "fnKept", unfollowed := true, recurses := true, apart := false }
def FnKeptSaid : Prop := fnKeptRow.holds Tryz.pinned (OpenSpec.ofChange fnKeptSpec)

/-- ITS FALSE NEIGHBOUR: 'it returns false'. Refute it at one input. -/
def fnKeptWrong : ChangeSpec := { name := "fnKept", fn := fun _ => fun
  | [d] => { results := [.lit (.bool false)], args := [d] }
  | _ => none }
def FnKeptWrongFalsely : Prop := fnKeptRow.holds Tryz.pinned (OpenSpec.ofChange fnKeptWrong)

/-- 'laws.FnExactRunSpill': WHATEVER THE INPUT: true; the input reads as it did. -/
def fnExactRunSpillSpec : ChangeSpec := { name := "fnExactRunSpill", fn := fun _ => fun
  | [d1, d2, d3, d4, d5, d6] => { results := [.lit (.bool true)], args := [d1, d2, d3, d4, d5, d6] }
  | _ => none }
def fnExactRunSpillRow : OpenClaim := { program := "ytgnfoghkbpkgjaagreat", sum := "2c36c00973fe26932ce1641766c7de328a25a8786d22f299bd0072366af23cf5", func := "loop.example/g01921/laws.FnExactRunSpill", spec := "fnExactRunSpill", unfollowed := true, recurses := true, apart := false }
def FnExactRunSpillSaid : Prop := fnExactRunSpillRow.holds Tryz.pinned (OpenSpec.ofChange fnExactRunSpillSpec)

/-- ITS FALSE NEIGHBOUR: 'it returns false'. Refute it at one input. -/
def fnExactRunSpillWrong : ChangeSpec := { name := "fnExactRunSpill", fn := fun _ => fun
  | [d1, d2, d3, d4, d5, d6] => { results := [.lit (.bool false)], args := [d1, d2, d3, d4, d5, d6] }
  | _ => none }
def FnExactRunSpillWrongFalsely : Prop := fnExactRunSpillRow.holds Tryz.pinned (OpenSpec.ofChange fnExactRunSpillWrong)

/-- 'laws.FnExactLearnBySpills': WHATEVER THE INPUT: true; the input reads as it did. -/
def fnExactLearnBySpillsSpec : ChangeSpec := { name := "fnExactLearnBySpills", fn := fun _ => fun
  | [d1, d2, d3, d4, d5, d6] => { results := [.lit (.bool true)], args := [d1, d2, d3, d4, d5, d6] }
  | _ => none }
def fnExactLearnBySpillsRow : OpenClaim := { program := "ytgnfoghkbpkgjaagreat", sum := "2c36c00973fe26932ce1641766c7de328a25a8786d22f299bd0072366af23cf5", func := "loop.example/g01921/laws.FnExactLearnBySpills", spec := "fnExactLearnBySpills", unfollowed := true, recurses := true, apart := false }
def FnExactLearnBySpillsSaid : Prop := fnExactLearnBySpillsRow.holds Tryz.pinned (OpenSpec.ofChange fnExactLearnBySpillsSpec)

/-- ITS FALSE NEIGHBOUR: 'it returns false'. Refute it at one input. -/
def fnExactLearnBySpillsWrong : ChangeSpec := { name := "fnExactLearnBySpills", fn := fun _ => fun
  | [d1, d2, d3, d4, d5, d6] => { results := [.lit (.bool false)], args := [d1, d2, d3, d4, d5, d6] }
  | _ => none }
def FnExactLearnBySpillsWrongFalsely : Prop := fnExactLearnBySpillsRow.holds Tryz.pinned (OpenSpec.ofChange fnExactLearnBySpillsWrong)

/-- 'laws.FnExactRunReusing': WHATEVER THE INPUT: true; the input reads as it did. -/
def fnExactRunReusingSpec : ChangeSpec := { name := "fnExactRunReusing", fn := fun _ => fun
  | [d1, d2, d3, d4, d5, d6] => { results := [.lit (.bool true)], args := [d1, d2, d3, d4, d5, d6] }
  | _ => none }
def fnExactRunReusingRow : OpenClaim := { program := "ytgnfoghkbpkgjaagreat", sum := "2c36c00973fe26932ce1641766c7de328a25a8786d22f299bd0072366af23cf5", func := "loop.example/g01921/laws.FnExactRunReusing", spec := "fnExactRunReusing", unfollowed := true, recurses := true, apart := false }
def FnExactRunReusingSaid : Prop := fnExactRunReusingRow.holds Tryz.pinned (OpenSpec.ofChange fnExactRunReusingSpec)

/-- ITS FALSE NEIGHBOUR: 'it returns false'. Refute it at one input. -/
def fnExactRunReusingWrong : ChangeSpec := { name := "fnExactRunReusing", fn := fun _ => fun
  | [d1, d2, d3, d4, d5, d6] => { results := [.lit (.bool false)], args := [d1, d2, d3, d4, d5, d6] }
  | _ => none }
def FnExactRunReusingWrongFalsely : Prop := fnExactRunReusingRow.holds Tryz.pinned (OpenSpec.ofChange fnExactRunReusingWrong)

/- THE SECOND FORM. 'bulk': how many values and letters a reading holds, each counted each time it is reached (what is shared counts as often as it is met; a slice's spare places count too). A statement '..UptoSaid' is the law's where the arguments, and the package variables that the reading takes, are together of bulk at most 1048576: NARROWER than '..Said'. Prove '..Said' where nothing that the law and all that it calls make is longer than what came in: it says more and counts as full. Else prove '..UptoSaid'. A law counts once. -/
mutual
def uptoBulk {H : Type} : DataW H → Nat
  | .lit (.string bytes) => bytes.length + 1
  | .lit _ => 1
  | .nil => 1
  | .ptr d => uptoBulk d + 1
  | .slice elems spare => uptoBulkAll elems + uptoBulkAll spare + 1
  | .agg parts => uptoBulkAll parts + 1
  | .iface _ d => uptoBulk d + 1
  | .map entries => uptoBulkEntries entries + 1
  | .held _ => 1
def uptoBulkAll {H : Type} : List (DataW H) → Nat
  | [] => 0
  | d :: r => uptoBulk d + uptoBulkAll r
def uptoBulkEntries {H : Type} : List (Lit × DataW H) → Nat
  | [] => 0
  | x :: r => uptoBulkEntry x + uptoBulkEntries r
def uptoBulkEntry {H : Type} : Lit × DataW H → Nat
  | (.string bytes, d) => bytes.length + uptoBulk d + 1
  | (_, d) => uptoBulk d + 1
 end
def uptoSmall : (H : Type) → List (DataW H) → Bool := fun _ ds => decide (uptoBulkAll ds ≤ 1048576)
def OpenSpec.upto (s : _root_.Go.ChangeSpec) : _root_.Go.OpenSpec := { _root_.Go.OpenSpec.ofChange s with cond := some uptoSmall }

/-- 'laws.FnExactWorstLocation', WHERE WHAT IT READS IS OF BULK AT MOST 1048576: true; the input reads as it did. -/
def fnExactWorstLocationUptoRow : OpenClaim := { program := "ytgnfoghkbpkgjaagreat", sum := "2c36c00973fe26932ce1641766c7de328a25a8786d22f299bd0072366af23cf5", func := "loop.example/g01921/laws.FnExactWorstLocation", spec := "fnExactWorstLocation", unfollowed := true, recurses := true, apart := false, narrowed := true }
def FnExactWorstLocationUptoSaid : Prop := fnExactWorstLocationUptoRow.holds Tryz.pinned (OpenSpec.upto fnExactWorstLocationSpec)

/-- 'laws.FnExactOracleCost', WHERE WHAT IT READS IS OF BULK AT MOST 1048576: true; the input reads as it did. -/
def fnExactOracleCostUptoRow : OpenClaim := { program := "ytgnfoghkbpkgjaagreat", sum := "2c36c00973fe26932ce1641766c7de328a25a8786d22f299bd0072366af23cf5", func := "loop.example/g01921/laws.FnExactOracleCost", spec := "fnExactOracleCost", unfollowed := true, recurses := true, apart := false, narrowed := true }
def FnExactOracleCostUptoSaid : Prop := fnExactOracleCostUptoRow.holds Tryz.pinned (OpenSpec.upto fnExactOracleCostSpec)

/-- 'laws.FnExactOraclePlan', WHERE WHAT IT READS IS OF BULK AT MOST 1048576: true; the input reads as it did. -/
def fnExactOraclePlanUptoRow : OpenClaim := { program := "ytgnfoghkbpkgjaagreat", sum := "2c36c00973fe26932ce1641766c7de328a25a8786d22f299bd0072366af23cf5", func := "loop.example/g01921/laws.FnExactOraclePlan", spec := "fnExactOraclePlan", unfollowed := true, recurses := true, apart := false, narrowed := true }
def FnExactOraclePlanUptoSaid : Prop := fnExactOraclePlanUptoRow.holds Tryz.pinned (OpenSpec.upto fnExactOraclePlanSpec)

/-- 'laws.FnExactFirstWrongRun', WHERE WHAT IT READS IS OF BULK AT MOST 1048576: true; the input reads as it did. -/
def fnExactFirstWrongRunUptoRow : OpenClaim := { program := "ytgnfoghkbpkgjaagreat", sum := "2c36c00973fe26932ce1641766c7de328a25a8786d22f299bd0072366af23cf5", func := "loop.example/g01921/laws.FnExactFirstWrongRun", spec := "fnExactFirstWrongRun", unfollowed := true, recurses := true, apart := false, narrowed := true }
def FnExactFirstWrongRunUptoSaid : Prop := fnExactFirstWrongRunUptoRow.holds Tryz.pinned (OpenSpec.upto fnExactFirstWrongRunSpec)

/-- 'laws.FnKept', WHERE WHAT IT READS IS OF BULK AT MOST 1048576: true; the input reads as it did. -/
def fnKeptUptoRow : OpenClaim := { program := "ytgnfoghkbpkgjaagreat", sum := "2c36c00973fe26932ce1641766c7de328a25a8786d22f299bd0072366af23cf5", func := "loop.example/g01921/laws.FnKept", spec := "fnKept", unfollowed := true, recurses := true, apart := false, narrowed := true }
def FnKeptUptoSaid : Prop := fnKeptUptoRow.holds Tryz.pinned (OpenSpec.upto fnKeptSpec)

/-- 'laws.FnExactRunSpill', WHERE WHAT IT READS IS OF BULK AT MOST 1048576: true; the input reads as it did. -/
def fnExactRunSpillUptoRow : OpenClaim := { program := "ytgnfoghkbpkgjaagreat", sum := "2c36c00973fe26932ce1641766c7de328a25a8786d22f299bd0072366af23cf5", func := "loop.example/g01921/laws.FnExactRunSpill", spec := "fnExactRunSpill", unfollowed := true, recurses := true, apart := false, narrowed := true }
def FnExactRunSpillUptoSaid : Prop := fnExactRunSpillUptoRow.holds Tryz.pinned (OpenSpec.upto fnExactRunSpillSpec)

/-- 'laws.FnExactLearnBySpills', WHERE WHAT IT READS IS OF BULK AT MOST 1048576: true; the input reads as it did. -/
def fnExactLearnBySpillsUptoRow : OpenClaim := { program := "ytgnfoghkbpkgjaagreat", sum := "2c36c00973fe26932ce1641766c7de328a25a8786d22f299bd0072366af23cf5", func := "loop.example/g01921/laws.FnExactLearnBySpills", spec := "fnExactLearnBySpills", unfollowed := true, recurses := true, apart := false, narrowed := true }
def FnExactLearnBySpillsUptoSaid : Prop := fnExactLearnBySpillsUptoRow.holds Tryz.pinned (OpenSpec.upto fnExactLearnBySpillsSpec)

/-- 'laws.FnExactRunReusing', WHERE WHAT IT READS IS OF BULK AT MOST 1048576: true; the input reads as it did. -/
def fnExactRunReusingUptoRow : OpenClaim := { program := "ytgnfoghkbpkgjaagreat", sum := "2c36c00973fe26932ce1641766c7de328a25a8786d22f299bd0072366af23cf5", func := "loop.example/g01921/laws.FnExactRunReusing", spec := "fnExactRunReusing", unfollowed := true, recurses := true, apart := false, narrowed := true }
def FnExactRunReusingUptoSaid : Prop := fnExactRunReusingUptoRow.holds Tryz.pinned (OpenSpec.upto fnExactRunReusingSpec)

end Rows
end Go.Proofs.YtgnfoghkbpkgjaaGreat
