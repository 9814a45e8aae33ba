/-
  A part of the proofs for this seat: A1.
-/
import Derived.Test.YtlnnmndebmkdhaaAMRun
import Derived.Test.YtlnnmndebmkdhaaAMLaw2
import Derived.Test.YtlnnmndebmkdhaaRows
namespace Go.Proofs.Ytlnnmndebmkdhaa
open Go.AM

/-- loop.example/g01921/laws.FnExactAuditName -/
def K3 : List (List Nat) := [[0], [0, 3], [3, 4], [11], [2], [2]]
def M3 : MFun := ⟨1, 12, [.tmp 2],
  .seq (.reg [
    ⟨(some 2), none, .mov (.c (.t (.bool false)))⟩] [0])
  (.seq (.reg [
    ⟨(some 5), none, .mov (.s 0)⟩,
    ⟨(some 6), none, .call 10 [(.s 5)]⟩,
    ⟨(some 3), none, .mov (.s 6)⟩] [0, 3])
  (.seq (.reg [
    ⟨(some 7), none, .mov (.s 0)⟩,
    ⟨(some 8), none, .call 11 [(.s 7)]⟩,
    ⟨(some 4), none, .mov (.s 8)⟩] [3, 4])
  (.seq (.seq (.reg [
    ⟨(some 9), none, .mov (.s 4)⟩,
    ⟨(some 10), none, .mov (.s 3)⟩,
    ⟨(some 11), none, .bin .neq (.s 9) (.s 10)⟩] [11])
  (.cond (.s 11)
    (.seq (.reg [
      ⟨(some 2), none, .mov (.c (.t (.bool false)))⟩] [2])
    (.ret))
    (.skip)))
  (.seq (.reg [
    ⟨(some 2), none, .mov (.c (.t (.bool true)))⟩] [2])
  (.ret)))))⟩

/-- loop.example/g01921/spec.AuditName -/
def K10 : List (List Nat) := [[0], [0, 5], [2], [2]]
def M10 : MFun := ⟨1, 10, [.tmp 2],
  .seq (.reg [
    ⟨(some 2), none, .mov (.c (.t (.str ⟨#[]⟩)))⟩] [0])
  (.seq (.seq (.reg [
    ⟨(some 3), none, .mov (.s 0)⟩,
    ⟨(some 4), none, .call 42 [(.s 3), (.c (.t (.int .i64 0))), (.c (.t (.int .i64 6)))]⟩,
    ⟨(some 5), none, .un .not (.s 4)⟩] [0, 5])
  (.cond (.s 5)
    (.seq (.reg [
      ⟨(some 2), none, .mov (.c (.t (.str ⟨#[]⟩)))⟩] [2])
    (.ret))
    (.skip)))
  (.seq (.reg [
    ⟨(some 6), none, .bslice 9 1 7 [(.str ⟨#[]⟩)] [(0, (.c (.t (.str ⟨#[111, 107]⟩)))), (1, (.c (.t (.str ⟨#[105, 110, 118, 97, 108, 105, 100]⟩)))), (2, (.c (.t (.str ⟨#[97, 110, 115, 119, 101, 114]⟩)))), (3, (.c (.t (.str ⟨#[116, 111, 116, 97, 108]⟩)))), (4, (.c (.t (.str ⟨#[111, 114, 100, 101, 114]⟩)))), (5, (.c (.t (.str ⟨#[114, 117, 110]⟩)))), (6, (.c (.t (.str ⟨#[102, 97, 99, 116, 111, 114]⟩))))]⟩,
    ⟨(some 7), none, .mov (.s 0)⟩,
    ⟨(some 8), none, .iaddr 1 (.s 6) (.s 7)⟩,
    ⟨(some 9), none, .load none (.s 8)⟩,
    ⟨(some 2), none, .mov (.s 9)⟩] [2])
  (.ret)))⟩

/-- loop.example/g01921/impl.AuditName -/
def K11 : List (List Nat) := [[0], [0, 5], [2], [2]]
def M11 : MFun := ⟨1, 10, [.tmp 2],
  .seq (.reg [
    ⟨(some 2), none, .mov (.c (.t (.str ⟨#[]⟩)))⟩] [0])
  (.seq (.seq (.reg [
    ⟨(some 3), none, .mov (.s 0)⟩,
    ⟨(some 4), none, .call 43 [(.s 3), (.c (.t (.int .i64 0))), (.c (.t (.int .i64 6)))]⟩,
    ⟨(some 5), none, .un .not (.s 4)⟩] [0, 5])
  (.cond (.s 5)
    (.seq (.reg [
      ⟨(some 2), none, .mov (.c (.t (.str ⟨#[]⟩)))⟩] [2])
    (.ret))
    (.skip)))
  (.seq (.reg [
    ⟨(some 6), none, .bslice 9 1 7 [(.str ⟨#[]⟩)] [(0, (.c (.t (.str ⟨#[111, 107]⟩)))), (1, (.c (.t (.str ⟨#[105, 110, 118, 97, 108, 105, 100]⟩)))), (2, (.c (.t (.str ⟨#[97, 110, 115, 119, 101, 114]⟩)))), (3, (.c (.t (.str ⟨#[116, 111, 116, 97, 108]⟩)))), (4, (.c (.t (.str ⟨#[111, 114, 100, 101, 114]⟩)))), (5, (.c (.t (.str ⟨#[114, 117, 110]⟩)))), (6, (.c (.t (.str ⟨#[102, 97, 99, 116, 111, 114]⟩))))]⟩,
    ⟨(some 7), none, .mov (.s 0)⟩,
    ⟨(some 8), none, .iaddr 1 (.s 6) (.s 7)⟩,
    ⟨(some 9), none, .load none (.s 8)⟩,
    ⟨(some 2), none, .mov (.s 9)⟩] [2])
  (.ret)))⟩

/-- loop.example/g01921/spec.l1In -/
def K42 : List (List Nat) := [[0, 1, 2], [6]]
def M42 : MFun := ⟨3, 15, [.tmp 6],
  .seq (.reg [
    ⟨(some 6), none, .mov (.c (.t (.bool false)))⟩] [0, 1, 2])
  (.seq (.reg [
    ⟨(some 7), none, .mov (.s 0)⟩,
    ⟨(some 8), none, .mov (.s 1)⟩,
    ⟨(some 9), none, .bin .geq (.s 7) (.s 8)⟩,
    ⟨(some 10), none, .mov (.s 9)⟩,
    ⟨(some 11), (some (10, true)), .mov (.s 0)⟩,
    ⟨(some 12), (some (10, true)), .mov (.s 2)⟩,
    ⟨(some 13), (some (10, true)), .bin .leq (.s 11) (.s 12)⟩,
    ⟨(some 14), none, .pick (.s 10) (.s 13) (.c (.t (.bool false)))⟩,
    ⟨(some 6), none, .mov (.s 14)⟩] [6])
  (.ret))⟩

/-- loop.example/g01921/impl.within -/
def K43 : List (List Nat) := [[0, 1, 2], [6]]
def M43 : MFun := ⟨3, 15, [.tmp 6],
  .seq (.reg [
    ⟨(some 6), none, .mov (.c (.t (.bool false)))⟩] [0, 1, 2])
  (.seq (.reg [
    ⟨(some 7), none, .mov (.s 0)⟩,
    ⟨(some 8), none, .mov (.s 1)⟩,
    ⟨(some 9), none, .bin .geq (.s 7) (.s 8)⟩,
    ⟨(some 10), none, .mov (.s 9)⟩,
    ⟨(some 11), (some (10, true)), .mov (.s 0)⟩,
    ⟨(some 12), (some (10, true)), .mov (.s 2)⟩,
    ⟨(some 13), (some (10, true)), .bin .leq (.s 11) (.s 12)⟩,
    ⟨(some 14), none, .pick (.s 10) (.s 13) (.c (.t (.bool false)))⟩,
    ⟨(some 6), none, .mov (.s 14)⟩] [6])
  (.ret))⟩


theorem c42 : compF Try.prog [] K42 Try.f42 = some M42 := by kernel_rfl
theorem c10 : compF Try.prog [] K10 Try.f10 = some M10 := by kernel_rfl
theorem c3 : compF Try.prog [] K3 Try.f3 = some M3 := by kernel_rfl
end Go.Proofs.Ytlnnmndebmkdhaa
