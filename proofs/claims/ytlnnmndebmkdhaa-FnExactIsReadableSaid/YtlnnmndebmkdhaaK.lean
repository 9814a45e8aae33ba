/-
  The code of the functions, as printed by program.
-/
import Derived.Test.YtlnnmndebmkdhaaK1
namespace Go.Proofs.Ytlnnmndebmkdhaa
open Go.AM

/-- loop.example/g01921/impl.FindDecrease -/
def B_impl_FindDecrease_0 : MCode :=
  .seq (.reg [
    ⟨(some 21), none, .bin .lss (.s 20) (.s 19)⟩] [1, 6, 12, 13, 14, 19, 20, 21])
  (.seq (.cond (.s 21)
    (.skip)
    (.exit 2))
  (.seq (.block 3 (.seq (.reg [
    ⟨(some 22), none, .mov (.s 20)⟩,
    ⟨(some 7), none, .mov (.s 22)⟩] [1, 6, 7, 12, 13, 14, 19, 20])
  (.seq (.seq (.reg [
    ⟨(some 23), none, .mov (.s 6)⟩,
    ⟨(some 24), none, .mov (.s 7)⟩,
    ⟨(some 25), none, .iaddr 1 (.s 23) (.s 24)⟩,
    ⟨(some 26), none, .load none (.s 25)⟩,
    ⟨(some 27), none, .bin .eql (.s 26) (.c (.t (.int .i64 7)))⟩] [1, 6, 7, 12, 13, 14, 19, 20, 27])
  (.cond (.s 27)
    (.exit 3)
    (.skip)))
  (.seq (.reg [
    ⟨(some 28), none, .mov (.s 6)⟩,
    ⟨(some 29), none, .call 122 [(.s 28)]⟩,
    ⟨(some 8), none, .mov (.s 29)⟩] [1, 6, 7, 8, 12, 13, 14, 19, 20])
  (.seq (.reg [
    ⟨(some 30), none, .mov (.s 8)⟩,
    ⟨(some 31), none, .mov (.s 7)⟩,
    ⟨(some 32), none, .iaddr 1 (.s 30) (.s 31)⟩,
    ⟨(some 33), none, .load none (.s 32)⟩,
    ⟨(some 34), none, .bin .add (.s 33) (.c (.t (.int .i64 1)))⟩,
    ⟨(some 35), none, .iaddr 1 (.s 30) (.s 31)⟩,
    ⟨none, none, .store 1 (.s 35) (.s 34)⟩] [1, 6, 8, 12, 13, 14, 19, 20])
  (.seq (.drw [
    ⟨(some 36), none, .load (some 6) (.s 1)⟩,
    ⟨(some 37), none, .mov (.s 8)⟩,
    ⟨(some 38), none, .call 117 [(.s 36), (.s 37)]⟩,
    ⟨(some 39), none, .load (some 6) (.s 1)⟩,
    ⟨(some 40), none, .mov (.s 6)⟩,
    ⟨(some 41), none, .call 117 [(.s 39), (.s 40)]⟩,
    ⟨(some 42), none, .bin .lss (.s 38) (.s 41)⟩] [[], [], [0, 1], [], [], [3, 4, 2], [2, 5]] [1, 6, 8, 12, 13, 14, 19, 20, 42])
  (.cond (.s 42)
    (.seq (.reg [
      ⟨(some 43), none, .mov (.s 6)⟩,
      ⟨(some 44), none, .mov (.s 8)⟩,
      ⟨(some 2), none, .mov (.s 43)⟩,
      ⟨(some 3), none, .mov (.s 44)⟩,
      ⟨(some 4), none, .mov (.c (.t (.bool true)))⟩] [2, 3, 4])
    (.ret))
    (.skip))))))))
  (.reg [
    ⟨(some 45), none, .bin .add (.s 20) (.c (.t (.int .i64 1)))⟩,
    ⟨(some 20), none, .mov (.s 45)⟩] [1, 6, 12, 13, 14, 19, 20])))

def B_impl_FindDecrease_1 : MCode :=
  .seq (.reg [
    ⟨(some 15), none, .bin .lss (.s 14) (.s 13)⟩] [1, 12, 13, 14, 15])
  (.seq (.cond (.s 15)
    (.skip)
    (.exit 0))
  (.seq (.block 1 (.seq (.reg [
    ⟨(some 16), none, .iaddr 1 (.s 12) (.s 14)⟩,
    ⟨(some 17), none, .load none (.s 16)⟩,
    ⟨(some 6), none, .mov (.s 17)⟩] [1, 6, 12, 13, 14])
  (.seq (.reg [
    ⟨(some 18), none, .mov (.s 6)⟩,
    ⟨(some 19), none, .len false (.s 18)⟩,
    ⟨(some 20), none, .mov (.c (.t (.int .i64 0)))⟩] [1, 6, 12, 13, 14, 19, 20])
  (.block 2 (.loop [1, 6, 12, 13, 14, 19, 20] B_impl_FindDecrease_0)))))
  (.reg [
    ⟨(some 46), none, .bin .add (.s 14) (.c (.t (.int .i64 1)))⟩,
    ⟨(some 14), none, .mov (.s 46)⟩] [1, 12, 13, 14])))

def M_impl_FindDecrease : MFun := ⟨1, 47, [.tmp 2, .tmp 3, .tmp 4],
  .seq (.reg [
    ⟨(some 1), none, .box (.s 0)⟩,
    ⟨(some 2), none, .mov (.c (.t .nil))⟩,
    ⟨(some 3), none, .mov (.c (.t .nil))⟩,
    ⟨(some 4), none, .mov (.c (.t (.bool false)))⟩] [1])
  (.seq (.seq (.reg [
    ⟨(some 9), none, .load (some 6) (.s 1)⟩,
    ⟨(some 10), none, .call 94 [(.s 9)]⟩,
    ⟨(some 11), none, .un .not (.s 10)⟩] [1, 11])
  (.cond (.s 11)
    (.seq (.reg [
      ⟨(some 2), none, .mov (.c (.t .nil))⟩,
      ⟨(some 3), none, .mov (.c (.t .nil))⟩,
      ⟨(some 4), none, .mov (.c (.t (.bool false)))⟩] [2, 3, 4])
    (.ret))
    (.skip)))
  (.seq (.seq (.reg [
    ⟨(some 12), none, .call 116 []⟩,
    ⟨(some 13), none, .len false (.s 12)⟩,
    ⟨(some 14), none, .mov (.c (.t (.int .i64 0)))⟩] [1, 12, 13, 14])
  (.block 0 (.loop [1, 12, 13, 14] B_impl_FindDecrease_1)))
  (.seq (.reg [
    ⟨(some 2), none, .mov (.c (.t .nil))⟩,
    ⟨(some 3), none, .mov (.c (.t .nil))⟩,
    ⟨(some 4), none, .mov (.c (.t (.bool false)))⟩] [2, 3, 4])
  (.ret))))⟩
theorem t_impl_FindDecrease : tbl 115 = some M_impl_FindDecrease := tblOf_eq Try.func115 (by kernel_rfl) (by kernel_rfl)

/-- loop.example/g01921/impl.triples -/
def B_impl_triples_0 : MCode :=
  .seq (.seq (.reg [
    ⟨(some 14), none, .mov (.s 4)⟩,
    ⟨(some 15), none, .bin .leq (.s 14) (.c (.t (.int .i64 7)))⟩] [1, 2, 3, 4, 15])
  (.cond (.s 15)
    (.skip)
    (.exit 4)))
  (.seq (.block 5 (.reg [
    ⟨(some 18), none, .mov (.s 1)⟩,
    ⟨(some 19), none, .mov (.s 2)⟩,
    ⟨(some 20), none, .mov (.s 3)⟩,
    ⟨(some 21), none, .mov (.s 4)⟩,
    ⟨(some 22), none, .bslice 3 1 3 [(.int .i64 0)] [(0, (.s 19)), (1, (.s 20)), (2, (.s 21))]⟩,
    ⟨(some 23), none, .bslice 36 1 1 [.nil] [(0, (.s 22))]⟩,
    ⟨(some 24), none, .append 36 1 24 true (.s 18) (.s 23)⟩,
    ⟨(some 1), none, .mov (.s 24)⟩] [1, 2, 3, 4]))
  (.reg [
    ⟨(some 16), none, .mov (.s 4)⟩,
    ⟨(some 17), none, .bin .add (.s 16) (.c (.t (.int .i64 1)))⟩,
    ⟨(some 4), none, .mov (.s 17)⟩] [1, 2, 3, 4]))

def B_impl_triples_1 : MCode :=
  .seq (.seq (.reg [
    ⟨(some 10), none, .mov (.s 3)⟩,
    ⟨(some 11), none, .bin .leq (.s 10) (.c (.t (.int .i64 7)))⟩] [1, 2, 3, 11])
  (.cond (.s 11)
    (.skip)
    (.exit 2)))
  (.seq (.block 3 (.seq (.reg [
    ⟨(some 4), none, .mov (.c (.t (.int .i64 0)))⟩] [1, 2, 3, 4])
  (.block 4 (.loop [1, 2, 3, 4] B_impl_triples_0))))
  (.reg [
    ⟨(some 12), none, .mov (.s 3)⟩,
    ⟨(some 13), none, .bin .add (.s 12) (.c (.t (.int .i64 1)))⟩,
    ⟨(some 3), none, .mov (.s 13)⟩] [1, 2, 3]))

def B_impl_triples_2 : MCode :=
  .seq (.seq (.reg [
    ⟨(some 6), none, .mov (.s 2)⟩,
    ⟨(some 7), none, .bin .leq (.s 6) (.c (.t (.int .i64 7)))⟩] [1, 2, 7])
  (.cond (.s 7)
    (.skip)
    (.exit 0)))
  (.seq (.block 1 (.seq (.reg [
    ⟨(some 3), none, .mov (.c (.t (.int .i64 0)))⟩] [1, 2, 3])
  (.block 2 (.loop [1, 2, 3] B_impl_triples_1))))
  (.reg [
    ⟨(some 8), none, .mov (.s 2)⟩,
    ⟨(some 9), none, .bin .add (.s 8) (.c (.t (.int .i64 1)))⟩,
    ⟨(some 2), none, .mov (.s 9)⟩] [1, 2]))

def M_impl_triples : MFun := ⟨0, 26, [.tmp 0],
  .seq (.reg [
    ⟨(some 0), none, .mov (.c (.t .nil))⟩] [])
  (.seq (.reg [
    ⟨(some 5), none, .bslice 36 1 0 [.nil] []⟩,
    ⟨(some 1), none, .mov (.s 5)⟩] [1])
  (.seq (.seq (.reg [
    ⟨(some 2), none, .mov (.c (.t (.int .i64 0)))⟩] [1, 2])
  (.block 0 (.loop [1, 2] B_impl_triples_2)))
  (.seq (.reg [
    ⟨(some 25), none, .mov (.s 1)⟩,
    ⟨(some 0), none, .mov (.s 25)⟩] [0])
  (.ret))))⟩
theorem t_impl_triples : tbl 116 = some M_impl_triples := tblOf_eq Try.func116 (by kernel_rfl) (by kernel_rfl)

/-- loop.example/g01921/impl.tripleCost -/
def M_impl_tripleCost : MFun := ⟨2, 19, [.tmp 4],
  .seq (.reg [
    ⟨(some 2), none, .box (.s 0)⟩,
    ⟨(some 4), none, .mov (.c (.t (.int .i64 0)))⟩] [1, 2])
  (.seq (.drw [
    ⟨(some 5), none, .load (some 6) (.s 2)⟩,
    ⟨(some 6), none, .mov (.s 1)⟩,
    ⟨(some 7), none, .iaddr 1 (.s 6) (.c (.t (.int .i64 0)))⟩,
    ⟨(some 8), none, .load none (.s 7)⟩,
    ⟨(some 9), none, .call 92 [(.s 8)]⟩,
    ⟨(some 10), none, .mov (.s 1)⟩,
    ⟨(some 11), none, .iaddr 1 (.s 10) (.c (.t (.int .i64 1)))⟩,
    ⟨(some 12), none, .load none (.s 11)⟩,
    ⟨(some 13), none, .call 92 [(.s 12)]⟩,
    ⟨(some 14), none, .mov (.s 1)⟩,
    ⟨(some 15), none, .iaddr 1 (.s 14) (.c (.t (.int .i64 2)))⟩,
    ⟨(some 16), none, .load none (.s 15)⟩,
    ⟨(some 17), none, .call 92 [(.s 16)]⟩,
    ⟨(some 18), none, .call 95 [(.s 5), (.s 9), (.s 13), (.s 17)]⟩,
    ⟨(some 4), none, .mov (.s 18)⟩] [[], [], [1], [2], [3], [], [5], [6], [7, 4], [], [9], [10], [11, 8], [0, 4, 8, 12, 12], [13, 13, 0, 1, 2, 3, 4, 5, 6, 7, 8, 9, 10, 11, 12, 13]] [4])
  (.ret))⟩
theorem t_impl_tripleCost : tbl 117 = some M_impl_tripleCost := tblOf_eq Try.func117 (by kernel_rfl) (by kernel_rfl)

/-- loop.example/g01921/laws.szAtomS -/
def B_laws_szAtomS_0 : MCode :=
  .seq (.seq (.reg [
    ⟨(some 12), none, .mov (.s 5)⟩,
    ⟨(some 13), none, .mov (.s 0)⟩,
    ⟨(some 14), none, .len false (.s 13)⟩,
    ⟨(some 15), none, .bin .lss (.s 12) (.s 14)⟩] [0, 1, 5, 15])
  (.cond (.s 15)
    (.skip)
    (.exit 0)))
  (.seq (.block 1 (.seq (.reg [
    ⟨(some 18), none, .mov (.s 0)⟩,
    ⟨(some 19), none, .mov (.s 5)⟩,
    ⟨(some 20), none, .iaddr 2 (.s 18) (.s 19)⟩,
    ⟨(some 21), none, .load (some 2) (.s 20)⟩,
    ⟨(some 22), none, .mov (.s 1)⟩,
    ⟨(some 23), none, .call 123 [(.s 21), (.s 22)]⟩,
    ⟨(some 1), none, .mov (.s 23)⟩] [0, 1, 5])
  (.seq (.reg [
    ⟨(some 24), none, .mov (.s 1)⟩,
    ⟨(some 25), none, .bin .lss (.s 24) (.c (.t (.int .i64 0)))⟩] [0, 1, 5, 25])
  (.cond (.s 25)
    (.seq (.reg [
      ⟨(some 4), none, .mov (.c (.t (.int .i64 (-1))))⟩] [4])
    (.ret))
    (.skip)))))
  (.reg [
    ⟨(some 16), none, .mov (.s 5)⟩,
    ⟨(some 17), none, .bin .add (.s 16) (.c (.t (.int .i64 1)))⟩,
    ⟨(some 5), none, .mov (.s 17)⟩] [0, 1, 5]))

def M_laws_szAtomS : MFun := ⟨2, 27, [.tmp 4],
  .seq (.reg [
    ⟨(some 4), none, .mov (.c (.t (.int .i64 0)))⟩] [0, 1])
  (.seq (.reg [
    ⟨(some 6), none, .mov (.s 1)⟩,
    ⟨(some 7), none, .mov (.s 0)⟩,
    ⟨(some 8), none, .len false (.s 7)⟩,
    ⟨(some 9), none, .bin .sub (.s 6) (.s 8)⟩,
    ⟨(some 1), none, .mov (.s 9)⟩] [0, 1])
  (.seq (.seq (.reg [
    ⟨(some 10), none, .mov (.s 1)⟩,
    ⟨(some 11), none, .bin .lss (.s 10) (.c (.t (.int .i64 0)))⟩] [0, 1, 11])
  (.cond (.s 11)
    (.seq (.reg [
      ⟨(some 4), none, .mov (.c (.t (.int .i64 (-1))))⟩] [4])
    (.ret))
    (.skip)))
  (.seq (.seq (.reg [
    ⟨(some 5), none, .mov (.c (.t (.int .i64 0)))⟩] [0, 1, 5])
  (.block 0 (.loop [0, 1, 5] B_laws_szAtomS_0)))
  (.seq (.reg [
    ⟨(some 26), none, .mov (.s 1)⟩,
    ⟨(some 4), none, .mov (.s 26)⟩] [4])
  (.ret)))))⟩
theorem t_laws_szAtomS : tbl 118 = some M_laws_szAtomS := tblOf_eq Try.func118 (by kernel_rfl) (by kernel_rfl)

/-- loop.example/g01921/laws.toAtomS -/
def B_laws_toAtomS_0 : MCode :=
  .seq (.seq (.reg [
    ⟨(some 8), none, .mov (.s 4)⟩,
    ⟨(some 9), none, .mov (.s 0)⟩,
    ⟨(some 10), none, .len false (.s 9)⟩,
    ⟨(some 11), none, .bin .lss (.s 8) (.s 10)⟩] [0, 3, 4, 11])
  (.cond (.s 11)
    (.skip)
    (.exit 0)))
  (.seq (.block 1 (.reg [
    ⟨(some 14), none, .mov (.s 3)⟩,
    ⟨(some 15), none, .mov (.s 4)⟩,
    ⟨(some 16), none, .mov (.s 0)⟩,
    ⟨(some 17), none, .mov (.s 4)⟩,
    ⟨(some 18), none, .iaddr 2 (.s 16) (.s 17)⟩,
    ⟨(some 19), none, .load (some 2) (.s 18)⟩,
    ⟨(some 20), none, .call 124 [(.s 19)]⟩,
    ⟨(some 21), none, .iaddr 2 (.s 14) (.s 15)⟩,
    ⟨none, none, .store 2 (.s 21) (.s 20)⟩] [0, 3, 4]))
  (.reg [
    ⟨(some 12), none, .mov (.s 4)⟩,
    ⟨(some 13), none, .bin .add (.s 12) (.c (.t (.int .i64 1)))⟩,
    ⟨(some 4), none, .mov (.s 13)⟩] [0, 3, 4]))

def M_laws_toAtomS : MFun := ⟨1, 23, [.tmp 2],
  .seq (.reg [
    ⟨(some 2), none, .mov (.c (.t .nil))⟩] [0])
  (.seq (.reg [
    ⟨(some 5), none, .mov (.s 0)⟩,
    ⟨(some 6), none, .len false (.s 5)⟩,
    ⟨(some 7), none, .mkslice 177 2 40 [(.str ⟨#[]⟩), .nil] (.s 6) (.s 6)⟩,
    ⟨(some 3), none, .mov (.s 7)⟩] [0, 3])
  (.seq (.seq (.reg [
    ⟨(some 4), none, .mov (.c (.t (.int .i64 0)))⟩] [0, 3, 4])
  (.block 0 (.loop [0, 3, 4] B_laws_toAtomS_0)))
  (.seq (.reg [
    ⟨(some 22), none, .mov (.s 3)⟩,
    ⟨(some 2), none, .mov (.s 22)⟩] [2])
  (.ret))))⟩
theorem t_laws_toAtomS : tbl 119 = some M_laws_toAtomS := tblOf_eq Try.func119 (by kernel_rfl) (by kernel_rfl)

/-- loop.example/g01921/laws.eqAtomS -/
def B_laws_eqAtomS_0 : MCode :=
  .seq (.seq (.reg [
    ⟨(some 11), none, .mov (.s 5)⟩,
    ⟨(some 12), none, .mov (.s 0)⟩,
    ⟨(some 13), none, .len false (.s 12)⟩,
    ⟨(some 14), none, .bin .lss (.s 11) (.s 13)⟩] [0, 1, 5, 14])
  (.cond (.s 14)
    (.skip)
    (.exit 0)))
  (.seq (.block 1 (.seq (.drw [
    ⟨(some 17), none, .mov (.s 0)⟩,
    ⟨(some 18), none, .mov (.s 5)⟩,
    ⟨(some 19), none, .iaddr 2 (.s 17) (.s 18)⟩,
    ⟨(some 20), none, .load (some 2) (.s 19)⟩,
    ⟨(some 21), none, .mov (.s 1)⟩,
    ⟨(some 22), none, .mov (.s 5)⟩,
    ⟨(some 23), none, .iaddr 2 (.s 21) (.s 22)⟩,
    ⟨(some 24), none, .load (some 2) (.s 23)⟩,
    ⟨(some 25), none, .call 125 [(.s 20), (.s 24)]⟩,
    ⟨(some 26), none, .un .not (.s 25)⟩] [[], [], [0, 1], [2], [], [], [4, 5], [6], [3, 7], [8]] [0, 1, 5, 26])
  (.cond (.s 26)
    (.seq (.reg [
      ⟨(some 4), none, .mov (.c (.t (.bool false)))⟩] [4])
    (.ret))
    (.skip))))
  (.reg [
    ⟨(some 15), none, .mov (.s 5)⟩,
    ⟨(some 16), none, .bin .add (.s 15) (.c (.t (.int .i64 1)))⟩,
    ⟨(some 5), none, .mov (.s 16)⟩] [0, 1, 5]))

def M_laws_eqAtomS : MFun := ⟨2, 27, [.tmp 4],
  .seq (.reg [
    ⟨(some 4), none, .mov (.c (.t (.bool false)))⟩] [0, 1])
  (.seq (.seq (.reg [
    ⟨(some 6), none, .mov (.s 0)⟩,
    ⟨(some 7), none, .len false (.s 6)⟩,
    ⟨(some 8), none, .mov (.s 1)⟩,
    ⟨(some 9), none, .len false (.s 8)⟩,
    ⟨(some 10), none, .bin .neq (.s 7) (.s 9)⟩] [0, 1, 10])
  (.cond (.s 10)
    (.seq (.reg [
      ⟨(some 4), none, .mov (.c (.t (.bool false)))⟩] [4])
    (.ret))
    (.skip)))
  (.seq (.seq (.reg [
    ⟨(some 5), none, .mov (.c (.t (.int .i64 0)))⟩] [0, 1, 5])
  (.block 0 (.loop [0, 1, 5] B_laws_eqAtomS_0)))
  (.seq (.reg [
    ⟨(some 4), none, .mov (.c (.t (.bool true)))⟩] [4])
  (.ret))))⟩
theorem t_laws_eqAtomS : tbl 120 = some M_laws_eqAtomS := tblOf_eq Try.func120 (by kernel_rfl) (by kernel_rfl)

/-- loop.example/g01921/spec.l21At -/
def M_spec_l21At : MFun := ⟨2, 19, [.tmp 4],
  .seq (.reg [
    ⟨(some 2), none, .box (.s 0)⟩,
    ⟨(some 4), none, .mov (.c (.t (.int .i64 0)))⟩] [1, 2])
  (.seq (.drw [
    ⟨(some 5), none, .load (some 6) (.s 2)⟩,
    ⟨(some 6), none, .mov (.s 1)⟩,
    ⟨(some 7), none, .iaddr 1 (.s 6) (.c (.t (.int .i64 0)))⟩,
    ⟨(some 8), none, .load none (.s 7)⟩,
    ⟨(some 9), none, .call 89 [(.s 8)]⟩,
    ⟨(some 10), none, .mov (.s 1)⟩,
    ⟨(some 11), none, .iaddr 1 (.s 10) (.c (.t (.int .i64 1)))⟩,
    ⟨(some 12), none, .load none (.s 11)⟩,
    ⟨(some 13), none, .call 89 [(.s 12)]⟩,
    ⟨(some 14), none, .mov (.s 1)⟩,
    ⟨(some 15), none, .iaddr 1 (.s 14) (.c (.t (.int .i64 2)))⟩,
    ⟨(some 16), none, .load none (.s 15)⟩,
    ⟨(some 17), none, .call 89 [(.s 16)]⟩,
    ⟨(some 18), none, .call 61 [(.s 5), (.s 9), (.s 13), (.s 17)]⟩,
    ⟨(some 4), none, .mov (.s 18)⟩] [[], [], [1], [2], [3], [], [5], [6], [7, 4], [], [9], [10], [11, 8], [0, 4, 8, 12, 12], [13, 13, 0, 1, 2, 3, 4, 5, 6, 7, 8, 9, 10, 11, 12, 13]] [4])
  (.ret))⟩
theorem t_spec_l21At : tbl 121 = some M_spec_l21At := tblOf_eq Try.func121 (by kernel_rfl) (by kernel_rfl)

/-- loop.example/g01921/impl.copyInts -/
def M_impl_copyInts : MFun := ⟨1, 6, [.tmp 2],
  .seq (.reg [
    ⟨(some 2), none, .mov (.c (.t .nil))⟩] [0])
  (.seq (.reg [
    ⟨(some 3), none, .bslice 3 1 0 [(.int .i64 0)] []⟩,
    ⟨(some 4), none, .mov (.s 0)⟩,
    ⟨(some 5), none, .append 3 1 8 false (.s 3) (.s 4)⟩,
    ⟨(some 2), none, .mov (.s 5)⟩] [2])
  (.ret))⟩
theorem t_impl_copyInts : tbl 122 = some M_impl_copyInts := tblOf_eq Try.func122 (by kernel_rfl) (by kernel_rfl)

/-- loop.example/g01921/laws.szAtom -/
def M_laws_szAtom : MFun := ⟨2, 19, [.tmp 4],
  .seq (.reg [
    ⟨(some 2), none, .box (.s 0)⟩,
    ⟨(some 4), none, .mov (.c (.t (.int .i64 0)))⟩] [1, 2])
  (.seq (.reg [
    ⟨(some 5), none, .mov (.s 1)⟩,
    ⟨(some 6), none, .faddr 0 (.s 2)⟩,
    ⟨(some 7), none, .load none (.s 6)⟩,
    ⟨(some 8), none, .len true (.s 7)⟩,
    ⟨(some 9), none, .bin .sub (.s 5) (.s 8)⟩,
    ⟨(some 1), none, .mov (.s 9)⟩] [1, 2])
  (.seq (.seq (.reg [
    ⟨(some 10), none, .mov (.s 1)⟩,
    ⟨(some 11), none, .bin .lss (.s 10) (.c (.t (.int .i64 0)))⟩] [1, 2, 11])
  (.cond (.s 11)
    (.seq (.reg [
      ⟨(some 4), none, .mov (.c (.t (.int .i64 (-1))))⟩] [4])
    (.ret))
    (.skip)))
  (.seq (.reg [
    ⟨(some 12), none, .faddr 1 (.s 2)⟩,
    ⟨(some 13), none, .load none (.s 12)⟩,
    ⟨(some 14), none, .mov (.s 1)⟩,
    ⟨(some 15), none, .call 74 [(.s 13), (.s 14)]⟩,
    ⟨(some 1), none, .mov (.s 15)⟩] [1])
  (.seq (.seq (.reg [
    ⟨(some 16), none, .mov (.s 1)⟩,
    ⟨(some 17), none, .bin .lss (.s 16) (.c (.t (.int .i64 0)))⟩] [1, 17])
  (.cond (.s 17)
    (.seq (.reg [
      ⟨(some 4), none, .mov (.c (.t (.int .i64 (-1))))⟩] [4])
    (.ret))
    (.skip)))
  (.seq (.reg [
    ⟨(some 18), none, .mov (.s 1)⟩,
    ⟨(some 4), none, .mov (.s 18)⟩] [4])
  (.ret))))))⟩
theorem t_laws_szAtom : tbl 123 = some M_laws_szAtom := tblOf_eq Try.func123 (by kernel_rfl) (by kernel_rfl)

/-- loop.example/g01921/laws.toAtom -/
def M_laws_toAtom : MFun := ⟨1, 12, [.cell 2 (some 2)],
  .seq (.reg [
    ⟨(some 1), none, .box (.s 0)⟩,
    ⟨(some 2), none, .alloc [(.t (.str ⟨#[]⟩)), (.t .nil)]⟩] [1, 2])
  (.seq (.reg [
    ⟨(some 3), none, .alloc [(.t (.str ⟨#[]⟩)), (.t .nil)]⟩] [1, 2, 3])
  (.seq (.reg [
    ⟨(some 4), none, .faddr 0 (.s 1)⟩,
    ⟨(some 5), none, .load none (.s 4)⟩,
    ⟨(some 6), none, .faddr 0 (.s 3)⟩,
    ⟨none, none, .store 1 (.s 6) (.s 5)⟩] [1, 2, 3])
  (.seq (.reg [
    ⟨(some 7), none, .faddr 1 (.s 1)⟩,
    ⟨(some 8), none, .load none (.s 7)⟩,
    ⟨(some 9), none, .call 77 [(.s 8)]⟩,
    ⟨(some 10), none, .faddr 1 (.s 3)⟩,
    ⟨none, none, .store 1 (.s 10) (.s 9)⟩] [2, 3])
  (.seq (.reg [
    ⟨(some 11), none, .load (some 2) (.s 3)⟩,
    ⟨none, none, .store 2 (.s 2) (.s 11)⟩] [2])
  (.ret)))))⟩
theorem t_laws_toAtom : tbl 124 = some M_laws_toAtom := tblOf_eq Try.func124 (by kernel_rfl) (by kernel_rfl)

/-- loop.example/g01921/laws.eqAtom -/
def M_laws_eqAtom : MFun := ⟨2, 16, [.tmp 4],
  .seq (.reg [
    ⟨(some 2), none, .box (.s 0)⟩,
    ⟨(some 3), none, .box (.s 1)⟩,
    ⟨(some 4), none, .mov (.c (.t (.bool false)))⟩] [2, 3])
  (.seq (.seq (.reg [
    ⟨(some 5), none, .faddr 0 (.s 2)⟩,
    ⟨(some 6), none, .load none (.s 5)⟩,
    ⟨(some 7), none, .faddr 0 (.s 3)⟩,
    ⟨(some 8), none, .load none (.s 7)⟩,
    ⟨(some 9), none, .bin .neq (.s 6) (.s 8)⟩] [2, 3, 9])
  (.cond (.s 9)
    (.seq (.reg [
      ⟨(some 4), none, .mov (.c (.t (.bool false)))⟩] [4])
    (.ret))
    (.skip)))
  (.seq (.seq (.reg [
    ⟨(some 10), none, .faddr 1 (.s 2)⟩,
    ⟨(some 11), none, .load none (.s 10)⟩,
    ⟨(some 12), none, .faddr 1 (.s 3)⟩,
    ⟨(some 13), none, .load none (.s 12)⟩,
    ⟨(some 14), none, .call 81 [(.s 11), (.s 13)]⟩,
    ⟨(some 15), none, .un .not (.s 14)⟩] [15])
  (.cond (.s 15)
    (.seq (.reg [
      ⟨(some 4), none, .mov (.c (.t (.bool false)))⟩] [4])
    (.ret))
    (.skip)))
  (.seq (.reg [
    ⟨(some 4), none, .mov (.c (.t (.bool true)))⟩] [4])
  (.ret))))⟩
theorem t_laws_eqAtom : tbl 125 = some M_laws_eqAtom := tblOf_eq Try.func125 (by kernel_rfl) (by kernel_rfl)

end Go.Proofs.Ytlnnmndebmkdhaa
