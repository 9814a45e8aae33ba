/-
  Data types, as printed by program.
-/
import Derived.Test.YtiniphmomjnocaaTY
import Derived.Test.YtiniphmomjnocaaAMSx
namespace Go.Proofs.Ytiniphmomjnocaa
open Go.AM

@[simp] theorem Atom.map_inj (xs ys : List Atom) : xs.map Atom.c = ys.map Atom.c ↔ xs = ys := map_inj_of (by
  intro a b h
  simp at h
  simp [Atom.ext_iff, h])
@[simp] theorem Query.map_inj (xs ys : List Query) : xs.map Query.c = ys.map Query.c ↔ xs = ys := map_inj_of (by
  intro a b h
  simp at h
  simp [Query.ext_iff, h])
@[simp] theorem PlanStep.map_inj (xs ys : List PlanStep) : xs.map PlanStep.c = ys.map PlanStep.c ↔ xs = ys := map_inj_of (by
  intro a b h
  simp at h
  simp [PlanStep.ext_iff, h])
@[simp] theorem PlanStep.flat (xs : List PlanStep) : (xs.map PlanStep.c).all (fun x => x.all scalar) = true := flat_of (fun _ => rfl) xs
@[simp] theorem Plan.map_inj (xs ys : List Plan) : xs.map Plan.c = ys.map Plan.c ↔ xs = ys := map_inj_of (by
  intro a b h
  simp at h
  simp [Plan.ext_iff, h])
@[simp] theorem Box.map_inj (xs ys : List Box) : xs.map Box.c = ys.map Box.c ↔ xs = ys := map_inj_of (by
  intro a b h
  simp at h
  simp [Box.ext_iff, h])
@[simp] theorem Bouquet.map_inj (xs ys : List Bouquet) : xs.map Bouquet.c = ys.map Bouquet.c ↔ xs = ys := map_inj_of (by
  intro a b h
  simp at h
  simp [Bouquet.ext_iff, Box.ext_iff, h])
@[ext] structure StepInfo where
  Mask : Int
  Order : Int
  Left : Int
  Right : Int
  deriving DecidableEq
def StepInfo.c (x : StepInfo) : List T := [.int .i64 x.Mask, .int .i64 x.Order, .int .i64 x.Left, .int .i64 x.Right]
@[simp] theorem StepInfo.c_def (x : StepInfo) : x.c = [.int .i64 x.Mask, .int .i64 x.Order, .int .i64 x.Left, .int .i64 x.Right] := rfl
@[simp] theorem StepInfo.map_inj (xs ys : List StepInfo) : xs.map StepInfo.c = ys.map StepInfo.c ↔ xs = ys := map_inj_of (by
  intro a b h
  simp at h
  simp [StepInfo.ext_iff, h])
@[simp] theorem StepInfo.flat (xs : List StepInfo) : (xs.map StepInfo.c).all (fun x => x.all scalar) = true := flat_of (fun _ => rfl) xs
@[simp] theorem RunNote.map_inj (xs ys : List RunNote) : xs.map RunNote.c = ys.map RunNote.c ↔ xs = ys := map_inj_of (by
  intro a b h
  simp at h
  simp [RunNote.ext_iff, h])
@[simp] theorem RunNote.flat (xs : List RunNote) : (xs.map RunNote.c).all (fun x => x.all scalar) = true := flat_of (fun _ => rfl) xs
end Go.Proofs.Ytiniphmomjnocaa
