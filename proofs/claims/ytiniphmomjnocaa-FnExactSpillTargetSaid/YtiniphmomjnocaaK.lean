/-
  The code of the functions, as printed by program.
-/
import Derived.Test.YtiniphmomjnocaaK2
namespace Go.Proofs.Ytiniphmomjnocaa
open Go.AM

/-- loop.example/g01921/spec.l23Plan -/
def M_spec_l23Plan : MFun := ⟨3, 92, [.cell 6 (some 1)],
  .seq (.reg [
    ⟨(some 4), none, .box (.s 1)⟩,
    ⟨(some 6), none, .alloc [(.t .nil)]⟩] [0, 2, 4, 6])
  (.seq (.reg [
    ⟨(some 14), none, .load (some 2) (.s 4)⟩,
    ⟨(some 15), none, .mov (.s 2)⟩,
    ⟨(some 16), none, .call 172 [(.s 14), (.s 15)]⟩,
    ⟨(some 7), none, .mov (.s 16)⟩] [0, 2, 4, 6, 7])
  (.seq (.seq (.reg [
    ⟨(some 17), none, .mov (.s 7)⟩,
    ⟨(some 18), none, .len false (.s 17)⟩,
    ⟨(some 19), none, .bin .eql (.s 18) (.c (.t (.int .i64 0)))⟩] [0, 2, 4, 6, 7, 19])
  (.cond (.s 19)
    (.seq (.reg [
      ⟨(some 20), none, .mov (.s 2)⟩,
      ⟨(some 21), none, .call 173 [(.s 20)]⟩,
      ⟨(some 8), none, .mov (.s 21)⟩] [6, 8])
    (.seq (.seq (.reg [
      ⟨(some 22), none, .mov (.s 8)⟩,
      ⟨(some 23), none, .len false (.s 22)⟩,
      ⟨(some 24), none, .bin .eql (.s 23) (.c (.t (.int .i64 0)))⟩] [6, 8, 24])
    (.cond (.s 24)
      (.seq (.reg [
        ⟨(some 25), none, .call 174 [(.c (.t (.int .i64 0)))]⟩,
        ⟨none, none, .store 1 (.s 6) (.s 25)⟩] [6])
      (.ret))
      (.skip)))
    (.seq (.reg [
      ⟨(some 26), none, .mov (.s 8)⟩,
      ⟨(some 27), none, .iaddr 1 (.s 26) (.c (.t (.int .i64 0)))⟩,
      ⟨(some 28), none, .load none (.s 27)⟩,
      ⟨(some 29), none, .call 174 [(.s 28)]⟩,
      ⟨none, none, .store 1 (.s 6) (.s 29)⟩] [6])
    (.ret))))
    (.skip)))
  (.seq (.reg [
    ⟨(some 30), none, .mov (.s 7)⟩,
    ⟨(some 31), none, .mov (.s 0)⟩,
    ⟨(some 32), none, .mov (.s 7)⟩,
    ⟨(some 33), none, .len false (.s 32)⟩,
    ⟨(some 34), none, .call 90 [(.s 31), (.s 33)]⟩,
    ⟨(some 35), none, .iaddr 1 (.s 30) (.s 34)⟩,
    ⟨(some 36), none, .load none (.s 35)⟩,
    ⟨(some 9), none, .mov (.s 36)⟩] [0, 2, 4, 6, 9])
  (.seq (.reg [
    ⟨(some 37), none, .mov (.s 0)⟩,
    ⟨(some 38), none, .load (some 2) (.s 4)⟩,
    ⟨(some 39), none, .mov (.s 9)⟩,
    ⟨(some 40), none, .call 164 [(.s 37), (.s 38), (.s 39)]⟩,
    ⟨(some 10), none, .alloc [(.t .nil)]⟩,
    ⟨none, none, .store 1 (.s 10) (.s 40)⟩] [0, 2, 4, 6, 9, 10])
  (.seq (.reg [
    ⟨(some 41), none, .mov (.s 0)⟩,
    ⟨(some 42), none, .load (some 2) (.s 4)⟩,
    ⟨(some 43), none, .mov (.s 2)⟩,
    ⟨(some 44), none, .mov (.s 9)⟩,
    ⟨(some 45), none, .bin .sub (.s 43) (.s 44)⟩,
    ⟨(some 46), none, .call 164 [(.s 41), (.s 42), (.s 45)]⟩,
    ⟨(some 11), none, .alloc [(.t .nil)]⟩,
    ⟨none, none, .store 1 (.s 11) (.s 46)⟩] [0, 2, 4, 6, 9, 10, 11])
  (.seq (.seq (.reg [
    ⟨(some 47), none, .mov (.s 0)⟩,
    ⟨(some 48), none, .call 90 [(.s 47), (.c (.t (.int .i64 3)))]⟩] [0, 2, 4, 6, 9, 10, 11, 48])
  (.block 0 (.seq (.reg [
    ⟨(some 50), none, .bin .eql (.s 48) (.c (.t (.int .i64 0)))⟩,
    ⟨(some 49), none, .mov (.s 50)⟩] [0, 2, 4, 6, 9, 10, 11, 48, 49])
  (.cond (.s 49)
    (.seq (.reg [
      ⟨(some 51), none, .load (some 1) (.s 10)⟩,
      ⟨(some 52), none, .load (some 1) (.s 11)⟩,
      ⟨(some 53), none, .call 175 [(.s 51), (.s 52), (.c (.t (.int .i64 3))), (.c (.t (.int .i64 0)))]⟩,
      ⟨none, none, .store 1 (.s 6) (.s 53)⟩] [6])
    (.ret))
    (.seq (.reg [
      ⟨(some 55), none, .bin .eql (.s 48) (.c (.t (.int .i64 1)))⟩,
      ⟨(some 54), none, .mov (.s 55)⟩] [0, 2, 4, 6, 9, 10, 11, 54])
    (.cond (.s 54)
      (.seq (.reg [
        ⟨(some 56), none, .load (some 1) (.s 10)⟩,
        ⟨(some 57), none, .load (some 1) (.s 11)⟩,
        ⟨(some 58), none, .call 175 [(.s 56), (.s 57), (.c (.t (.int .i64 5))), (.c (.t (.int .i64 0)))]⟩,
        ⟨none, none, .store 1 (.s 6) (.s 58)⟩] [6])
      (.ret))
      (.skip)))))))
  (.seq (.reg [
    ⟨(some 59), none, .load (some 2) (.s 4)⟩,
    ⟨(some 60), none, .mov (.s 9)⟩,
    ⟨(some 61), none, .mov (.s 2)⟩,
    ⟨(some 62), none, .mov (.s 9)⟩,
    ⟨(some 63), none, .bin .sub (.s 61) (.s 62)⟩,
    ⟨(some 64), none, .call 176 [(.s 59), (.s 60), (.s 63)]⟩,
    ⟨(some 12), none, .mov (.s 64)⟩] [0, 4, 6, 10, 11, 12])
  (.seq (.reg [
    ⟨(some 65), none, .mov (.s 12)⟩,
    ⟨(some 66), none, .mov (.s 0)⟩,
    ⟨(some 67), none, .mov (.s 12)⟩,
    ⟨(some 68), none, .len false (.s 67)⟩,
    ⟨(some 69), none, .call 90 [(.s 66), (.s 68)]⟩,
    ⟨(some 70), none, .iaddr 1 (.s 65) (.s 69)⟩,
    ⟨(some 71), none, .load none (.s 70)⟩,
    ⟨(some 13), none, .mov (.s 71)⟩] [4, 6, 10, 11, 13])
  (.seq (.seq (.reg [
    ⟨(some 72), none, .load (some 2) (.s 4)⟩,
    ⟨(some 73), none, .load (some 1) (.s 10)⟩,
    ⟨(some 74), none, .call 177 [(.s 72), (.s 73)]⟩,
    ⟨(some 75), none, .mov (.s 13)⟩,
    ⟨(some 76), none, .bin .neq (.s 74) (.s 75)⟩] [4, 6, 10, 11, 13, 76])
  (.cond (.s 76)
    (.reg [
      ⟨(some 77), none, .load (some 1) (.s 10)⟩,
      ⟨(some 78), none, .mov (.s 13)⟩,
      ⟨(some 79), none, .call 178 [(.s 77), (.s 78)]⟩,
      ⟨none, none, .store 1 (.s 10) (.s 79)⟩] [4, 6, 10, 11, 13])
    (.skip)))
  (.seq (.seq (.reg [
    ⟨(some 80), none, .load (some 2) (.s 4)⟩,
    ⟨(some 81), none, .load (some 1) (.s 11)⟩,
    ⟨(some 82), none, .call 177 [(.s 80), (.s 81)]⟩,
    ⟨(some 83), none, .mov (.s 13)⟩,
    ⟨(some 84), none, .bin .neq (.s 82) (.s 83)⟩] [6, 10, 11, 13, 84])
  (.cond (.s 84)
    (.reg [
      ⟨(some 85), none, .load (some 1) (.s 11)⟩,
      ⟨(some 86), none, .mov (.s 13)⟩,
      ⟨(some 87), none, .call 178 [(.s 85), (.s 86)]⟩,
      ⟨none, none, .store 1 (.s 11) (.s 87)⟩] [6, 10, 11, 13])
    (.skip)))
  (.seq (.reg [
    ⟨(some 88), none, .load (some 1) (.s 10)⟩,
    ⟨(some 89), none, .load (some 1) (.s 11)⟩,
    ⟨(some 90), none, .mov (.s 13)⟩,
    ⟨(some 91), none, .call 175 [(.s 88), (.s 89), (.c (.t (.int .i64 4))), (.s 90)]⟩,
    ⟨none, none, .store 1 (.s 6) (.s 91)⟩] [6])
  (.ret))))))))))))⟩
theorem t_spec_l23Plan : tbl 164 = some M_spec_l23Plan := tblOf_eq Try.func164 (by kernel_rfl) (by kernel_rfl)

/-- loop.example/g01921/spec.l7Any -/
def M_spec_l7Any : MFun := ⟨1, 47, [.cell 2 (some 2)],
  .seq (.reg [
    ⟨(some 2), none, .alloc [(.t (.int .i64 0)), (.t .nil)]⟩] [0, 2])
  (.seq (.reg [
    ⟨(some 4), none, .mov (.s 0)⟩,
    ⟨(some 5), none, .call 163 [(.s 4)]⟩,
    ⟨(some 3), none, .alloc [(.t (.int .i64 0)), (.t .nil)]⟩,
    ⟨none, none, .store 2 (.s 3) (.s 5)⟩] [0, 2, 3])
  (.seq (.seq (.reg [
    ⟨(some 6), none, .mov (.s 0)⟩,
    ⟨(some 7), none, .call 90 [(.s 6), (.c (.t (.int .i64 14)))]⟩] [0, 2, 3, 7])
  (.block 0 (.seq (.reg [
    ⟨(some 9), none, .bin .eql (.s 7) (.c (.t (.int .i64 0)))⟩,
    ⟨(some 8), none, .mov (.s 9)⟩] [0, 2, 3, 7, 8])
  (.cond (.s 8)
    (.reg [
      ⟨(some 10), none, .mov (.s 0)⟩,
      ⟨(some 11), none, .faddr 0 (.s 3)⟩,
      ⟨(some 12), none, .load none (.s 11)⟩,
      ⟨(some 13), none, .bin .add (.s 12) (.c (.t (.int .i64 1)))⟩,
      ⟨(some 14), none, .bslice 3 1 4 [(.int .i64 0)] [(0, (.c (.t (.int .i64 0)))), (1, (.c (.t (.int .i64 5)))), (2, (.s 13)), (3, (.c (.t (.int .i64 9223372036854775807))))]⟩,
      ⟨(some 15), none, .call 91 [(.s 10), (.s 14)]⟩,
      ⟨(some 16), none, .faddr 0 (.s 3)⟩,
      ⟨none, none, .store 1 (.s 16) (.s 15)⟩] [2, 3])
    (.seq (.reg [
      ⟨(some 18), none, .bin .eql (.s 7) (.c (.t (.int .i64 1)))⟩,
      ⟨(some 17), none, .mov (.s 18)⟩] [0, 2, 3, 7, 17])
    (.cond (.s 17)
      (.drw [
        ⟨(some 19), none, .faddr 1 (.s 3)⟩,
        ⟨(some 20), none, .load none (.s 19)⟩,
        ⟨(some 21), none, .mov (.s 0)⟩,
        ⟨(some 22), none, .bslice 9 1 3 [(.str ⟨#[]⟩)] [(0, (.c (.t (.str ⟨#[]⟩)))), (1, (.c (.t (.str ⟨#[119]⟩)))), (2, (.c (.t (.str ⟨#[114]⟩))))]⟩,
        ⟨(some 23), none, .call 171 [(.s 21), (.s 22)]⟩,
        ⟨(some 24), none, .bslice 3 1 1 [(.int .i64 0)] [(0, (.c (.t (.int .i64 0))))]⟩,
        ⟨(some 25), none, .build [(.t (.str ⟨#[]⟩)), (.t .nil)] [(0, 1, (.s 23)), (1, 1, (.s 24))]⟩,
        ⟨(some 26), none, .bslice 168 2 1 [(.str ⟨#[]⟩), .nil] [(0, (.s 25))]⟩,
        ⟨(some 27), none, .append 168 2 40 true (.s 20) (.s 26)⟩,
        ⟨(some 28), none, .faddr 1 (.s 3)⟩,
        ⟨none, none, .store 1 (.s 28) (.s 27)⟩] [[], [0], [], [], [2, 3], [], [4, 5], [6], [1, 7, 4], [0, 1, 2, 3, 4, 5, 6, 7, 8], [9, 8, 8, 0, 1, 2, 3, 4, 5, 6, 7, 8]] [2, 3])
      (.seq (.reg [
        ⟨(some 30), none, .bin .eql (.s 7) (.c (.t (.int .i64 2)))⟩,
        ⟨(some 29), none, .mov (.s 30)⟩] [0, 2, 3, 7, 29])
      (.cond (.s 29)
        (.reg [
          ⟨(some 31), none, .faddr 1 (.s 3)⟩,
          ⟨(some 32), none, .load none (.s 31)⟩,
          ⟨(some 33), none, .iaddr 2 (.s 32) (.c (.t (.int .i64 0)))⟩,
          ⟨(some 34), none, .faddr 1 (.s 33)⟩,
          ⟨none, none, .store 1 (.s 34) (.c (.t .nil))⟩] [2, 3])
        (.seq (.reg [
          ⟨(some 36), none, .bin .eql (.s 7) (.c (.t (.int .i64 3)))⟩,
          ⟨(some 35), none, .mov (.s 36)⟩] [0, 2, 3, 35])
        (.cond (.s 35)
          (.drw [
            ⟨(some 37), none, .faddr 1 (.s 3)⟩,
            ⟨(some 38), none, .load none (.s 37)⟩,
            ⟨(some 39), none, .iaddr 2 (.s 38) (.c (.t (.int .i64 0)))⟩,
            ⟨(some 40), none, .faddr 1 (.s 39)⟩,
            ⟨(some 41), none, .load none (.s 40)⟩,
            ⟨(some 42), none, .mov (.s 0)⟩,
            ⟨(some 43), none, .bslice 3 1 3 [(.int .i64 0)] [(0, (.c (.t (.int .i64 (-1))))), (1, (.c (.t (.int .i64 4)))), (2, (.c (.t (.int .i64 1))))]⟩,
            ⟨(some 44), none, .call 91 [(.s 42), (.s 43)]⟩,
            ⟨(some 45), none, .iaddr 1 (.s 41) (.c (.t (.int .i64 0)))⟩,
            ⟨none, none, .store 1 (.s 45) (.s 44)⟩] [[], [0], [1], [2], [3], [], [], [5, 6], [4, 0, 1, 2, 3, 4, 5, 6, 7], [8, 7, 7, 0, 1, 2, 3, 4, 5, 6, 7]] [2, 3])
          (.skip)))))))))))
  (.seq (.reg [
    ⟨(some 46), none, .load (some 2) (.s 3)⟩,
    ⟨none, none, .store 2 (.s 2) (.s 46)⟩] [2])
  (.ret))))⟩
theorem t_spec_l7Any : tbl 165 = some M_spec_l7Any := tblOf_eq Try.func165 (by kernel_rfl) (by kernel_rfl)

/-- loop.example/g01921/spec.EvaluateMask -/
def B_spec_EvaluateMask_0 : MCode :=
  .seq (.seq (.reg [
    ⟨(some 28), none, .mov (.s 10)⟩,
    ⟨(some 29), none, .faddr 1 (.s 4)⟩,
    ⟨(some 30), none, .load none (.s 29)⟩,
    ⟨(some 31), none, .len false (.s 30)⟩,
    ⟨(some 32), none, .bin .lss (.s 28) (.s 31)⟩] [2, 3, 4, 6, 8, 9, 10, 32])
  (.cond (.s 32)
    (.skip)
    (.exit 0)))
  (.seq (.block 1 (.seq (.reg [
    ⟨(some 35), none, .mov (.s 2)⟩,
    ⟨(some 36), none, .mov (.s 10)⟩,
    ⟨(some 37), none, .bin .shr (.s 35) (.s 36)⟩,
    ⟨(some 38), none, .bin .and (.s 37) (.c (.t (.int .i64 1)))⟩,
    ⟨(some 39), none, .bin .eql (.s 38) (.c (.t (.int .i64 1)))⟩] [2, 3, 4, 6, 8, 9, 10, 39])
  (.cond (.s 39)
    (.seq (.drw [
      ⟨(some 41), none, .load (some 1) (.s 3)⟩,
      ⟨(some 42), none, .faddr 1 (.s 4)⟩,
      ⟨(some 43), none, .load none (.s 42)⟩,
      ⟨(some 44), none, .mov (.s 10)⟩,
      ⟨(some 45), none, .iaddr 2 (.s 43) (.s 44)⟩,
      ⟨(some 46), none, .faddr 0 (.s 45)⟩,
      ⟨(some 47), none, .load none (.s 46)⟩,
      ⟨(some 48), none, .call 180 [(.s 41), (.s 47)]⟩,
      ⟨(some 40), none, .mov (.s 48)⟩,
      ⟨(some 49), none, .ext (.s 40) 0⟩,
      ⟨(some 50), none, .ext (.s 40) 1⟩,
      ⟨(some 11), none, .alloc [(.t (.str ⟨#[]⟩)), (.t (.int .i64 0)), (.t .nil)]⟩,
      ⟨none, none, .store 3 (.s 11) (.s 49)⟩,
      ⟨(some 12), none, .mov (.s 50)⟩] [[], [], [1], [], [2, 3], [4], [5], [0, 6], [7], [8], [8], [], [11, 9, 7, 0, 1, 2, 3, 4, 5, 6, 7, 8, 9, 11], [10, 12, 0, 1, 2, 3, 4, 5, 6, 7, 8, 9, 10, 11, 12]] [2, 3, 4, 6, 8, 9, 10, 11])
    (.seq (.reg [
      ⟨(some 51), none, .mov (.s 8)⟩,
      ⟨(some 52), none, .load (some 3) (.s 11)⟩,
      ⟨(some 53), none, .bslice 213 3 1 [(.str ⟨#[]⟩), (.int .i64 0), .nil] [(0, (.s 52))]⟩,
      ⟨(some 54), none, .append 213 3 48 true (.s 51) (.s 53)⟩,
      ⟨(some 8), none, .mov (.s 54)⟩] [2, 3, 4, 6, 8, 9, 10])
    (.reg [
      ⟨(some 55), none, .mov (.s 9)⟩,
      ⟨(some 56), none, .faddr 1 (.s 4)⟩,
      ⟨(some 57), none, .load none (.s 56)⟩,
      ⟨(some 58), none, .mov (.s 10)⟩,
      ⟨(some 59), none, .iaddr 2 (.s 57) (.s 58)⟩,
      ⟨(some 60), none, .load (some 2) (.s 59)⟩,
      ⟨(some 61), none, .bslice 168 2 1 [(.str ⟨#[]⟩), .nil] [(0, (.s 60))]⟩,
      ⟨(some 62), none, .append 168 2 40 true (.s 55) (.s 61)⟩,
      ⟨(some 9), none, .mov (.s 62)⟩] [2, 3, 4, 6, 8, 9, 10])))
    (.skip))))
  (.reg [
    ⟨(some 33), none, .mov (.s 10)⟩,
    ⟨(some 34), none, .bin .add (.s 33) (.c (.t (.int .i64 1)))⟩,
    ⟨(some 10), none, .mov (.s 34)⟩] [2, 3, 4, 6, 8, 9, 10]))

def M_spec_EvaluateMask : MFun := ⟨3, 73, [.cell 6 (some 2), .tmp 7],
  .seq (.reg [
    ⟨(some 3), none, .box (.s 0)⟩,
    ⟨(some 4), none, .box (.s 1)⟩,
    ⟨(some 6), none, .alloc [(.t .nil), (.t .nil)]⟩,
    ⟨(some 7), none, .mov (.c (.t (.bool false)))⟩] [2, 3, 4, 6])
  (.seq (.seq (.reg [
    ⟨(some 14), none, .load (some 1) (.s 3)⟩,
    ⟨(some 15), none, .load (some 2) (.s 4)⟩,
    ⟨(some 16), none, .call 179 [(.s 14), (.s 15)]⟩,
    ⟨(some 17), none, .un .not (.s 16)⟩,
    ⟨(some 18), none, .mov (.s 17)⟩,
    ⟨(some 19), (some (18, false)), .mov (.s 2)⟩,
    ⟨(some 20), (some (18, false)), .load (some 2) (.s 4)⟩,
    ⟨(some 21), (some (18, false)), .call 54 [(.s 20)]⟩,
    ⟨(some 22), (some (18, false)), .call 70 [(.s 19), (.c (.t (.int .i64 1))), (.s 21)]⟩,
    ⟨(some 23), (some (18, false)), .un .not (.s 22)⟩,
    ⟨(some 24), none, .pick (.s 18) (.c (.t (.bool true))) (.s 23)⟩] [2, 3, 4, 6, 24])
  (.cond (.s 24)
    (.seq (.reg [
      ⟨(some 25), none, .build [(.t .nil), (.t .nil)] []⟩,
      ⟨none, none, .store 2 (.s 6) (.s 25)⟩,
      ⟨(some 7), none, .mov (.c (.t (.bool false)))⟩] [6, 7])
    (.ret))
    (.skip)))
  (.seq (.reg [
    ⟨(some 26), none, .bslice 213 3 0 [(.str ⟨#[]⟩), (.int .i64 0), .nil] []⟩,
    ⟨(some 8), none, .mov (.s 26)⟩] [2, 3, 4, 6, 8])
  (.seq (.reg [
    ⟨(some 27), none, .bslice 168 2 0 [(.str ⟨#[]⟩), .nil] []⟩,
    ⟨(some 9), none, .mov (.s 27)⟩] [2, 3, 4, 6, 8, 9])
  (.seq (.seq (.reg [
    ⟨(some 10), none, .mov (.c (.t (.int .i64 0)))⟩] [2, 3, 4, 6, 8, 9, 10])
  (.block 0 (.loop [2, 3, 4, 6, 8, 9, 10] B_spec_EvaluateMask_0)))
  (.seq (.reg [
    ⟨(some 63), none, .load (some 2) (.s 4)⟩,
    ⟨(some 64), none, .mov (.s 2)⟩,
    ⟨(some 65), none, .call 181 [(.s 63), (.s 64)]⟩,
    ⟨(some 13), none, .mov (.s 65)⟩] [6, 8, 9, 13])
  (.seq (.reg [
    ⟨(some 66), none, .mov (.s 13)⟩,
    ⟨(some 67), none, .mov (.s 8)⟩,
    ⟨(some 68), none, .mov (.s 9)⟩,
    ⟨(some 69), none, .mov (.s 13)⟩,
    ⟨(some 70), none, .bslice 3 1 0 [(.int .i64 0)] []⟩,
    ⟨(some 71), none, .call 182 [(.s 67), (.s 68), (.s 69), (.s 70)]⟩,
    ⟨(some 72), none, .build [(.t .nil), (.t .nil)] [(0, 1, (.s 66)), (1, 1, (.s 71))]⟩,
    ⟨none, none, .store 2 (.s 6) (.s 72)⟩,
    ⟨(some 7), none, .mov (.c (.t (.bool true)))⟩] [6, 7])
  (.ret)))))))⟩
theorem t_spec_EvaluateMask : tbl 166 = some M_spec_EvaluateMask := tblOf_eq Try.func166 (by kernel_rfl) (by kernel_rfl)

/-- loop.example/g01921/impl.copyInts -/
def M_impl_copyInts : MFun := ⟨1, 6, [.tmp 2],
  .seq (.reg [
    ⟨(some 2), none, .mov (.c (.t .nil))⟩] [0])
  (.seq (.reg [
    ⟨(some 3), none, .bslice 3 1 0 [(.int .i64 0)] []⟩,
    ⟨(some 4), none, .mov (.s 0)⟩,
    ⟨(some 5), none, .append 3 1 8 false (.s 3) (.s 4)⟩,
    ⟨(some 2), none, .mov (.s 5)⟩] [2])
  (.ret))⟩
theorem t_impl_copyInts : tbl 167 = some M_impl_copyInts := tblOf_eq Try.func167 (by kernel_rfl) (by kernel_rfl)

/-- loop.example/g01921/spec.l21At -/
def M_spec_l21At : MFun := ⟨2, 19, [.tmp 4],
  .seq (.reg [
    ⟨(some 2), none, .box (.s 0)⟩,
    ⟨(some 4), none, .mov (.c (.t (.int .i64 0)))⟩] [1, 2])
  (.seq (.drw [
    ⟨(some 5), none, .load (some 6) (.s 2)⟩,
    ⟨(some 6), none, .mov (.s 1)⟩,
    ⟨(some 7), none, .iaddr 1 (.s 6) (.c (.t (.int .i64 0)))⟩,
    ⟨(some 8), none, .load none (.s 7)⟩,
    ⟨(some 9), none, .call 100 [(.s 8)]⟩,
    ⟨(some 10), none, .mov (.s 1)⟩,
    ⟨(some 11), none, .iaddr 1 (.s 10) (.c (.t (.int .i64 1)))⟩,
    ⟨(some 12), none, .load none (.s 11)⟩,
    ⟨(some 13), none, .call 100 [(.s 12)]⟩,
    ⟨(some 14), none, .mov (.s 1)⟩,
    ⟨(some 15), none, .iaddr 1 (.s 14) (.c (.t (.int .i64 2)))⟩,
    ⟨(some 16), none, .load none (.s 15)⟩,
    ⟨(some 17), none, .call 100 [(.s 16)]⟩,
    ⟨(some 18), none, .call 44 [(.s 5), (.s 9), (.s 13), (.s 17)]⟩,
    ⟨(some 4), none, .mov (.s 18)⟩] [[], [], [1], [2], [3], [], [5], [6], [7, 4], [], [9], [10], [11, 8], [0, 4, 8, 12, 12], [13, 13, 0, 1, 2, 3, 4, 5, 6, 7, 8, 9, 10, 11, 12, 13]] [4])
  (.ret))⟩
theorem t_spec_l21At : tbl 168 = some M_spec_l21At := tblOf_eq Try.func168 (by kernel_rfl) (by kernel_rfl)

/-- loop.example/g01921/spec.l4Put -/
def B_spec_l4Put_0 : MCode :=
  .seq (.seq (.reg [
    ⟨(some 10), none, .mov (.s 7)⟩,
    ⟨(some 11), none, .mov (.s 0)⟩,
    ⟨(some 12), none, .len false (.s 11)⟩,
    ⟨(some 13), none, .bin .lss (.s 10) (.s 12)⟩] [0, 1, 5, 6, 7, 13])
  (.cond (.s 13)
    (.skip)
    (.exit 0)))
  (.seq (.block 1 (.seq (.reg [
    ⟨(some 16), none, .mov (.s 0)⟩,
    ⟨(some 17), none, .mov (.s 7)⟩,
    ⟨(some 18), none, .iaddr 1 (.s 16) (.s 17)⟩,
    ⟨(some 19), none, .load none (.s 18)⟩,
    ⟨(some 20), none, .mov (.s 1)⟩,
    ⟨(some 21), none, .call 183 [(.s 19), (.s 20)]⟩,
    ⟨(some 8), none, .mov (.s 21)⟩] [0, 1, 5, 6, 7, 8])
  (.seq (.seq (.reg [
    ⟨(some 22), none, .mov (.s 8)⟩,
    ⟨(some 23), none, .bin .eql (.s 22) (.c (.t (.int .i64 0)))⟩] [0, 1, 5, 6, 7, 8, 23])
  (.cond (.s 23)
    (.reg [
      ⟨(some 6), none, .mov (.c (.t (.bool true)))⟩] [0, 1, 5, 6, 7, 8])
    (.skip)))
  (.seq (.seq (.reg [
    ⟨(some 24), none, .mov (.s 8)⟩,
    ⟨(some 25), none, .bin .gtr (.s 24) (.c (.t (.int .i64 0)))⟩,
    ⟨(some 26), none, .mov (.s 25)⟩,
    ⟨(some 27), (some (26, true)), .mov (.s 6)⟩,
    ⟨(some 28), (some (26, true)), .un .not (.s 27)⟩,
    ⟨(some 29), none, .pick (.s 26) (.s 28) (.c (.t (.bool false)))⟩] [0, 1, 5, 6, 7, 29])
  (.cond (.s 29)
    (.seq (.reg [
      ⟨(some 30), none, .mov (.s 5)⟩,
      ⟨(some 31), none, .bslice 3 1 0 [(.int .i64 0)] []⟩,
      ⟨(some 32), none, .mov (.s 1)⟩,
      ⟨(some 33), none, .append 3 1 8 false (.s 31) (.s 32)⟩,
      ⟨(some 34), none, .bslice 28 1 1 [.nil] [(0, (.s 33))]⟩,
      ⟨(some 35), none, .append 28 1 24 true (.s 30) (.s 34)⟩,
      ⟨(some 5), none, .mov (.s 35)⟩] [0, 1, 5, 7])
    (.reg [
      ⟨(some 6), none, .mov (.c (.t (.bool true)))⟩] [0, 1, 5, 6, 7]))
    (.skip)))
  (.reg [
    ⟨(some 36), none, .mov (.s 5)⟩,
    ⟨(some 37), none, .bslice 3 1 0 [(.int .i64 0)] []⟩,
    ⟨(some 38), none, .mov (.s 0)⟩,
    ⟨(some 39), none, .mov (.s 7)⟩,
    ⟨(some 40), none, .iaddr 1 (.s 38) (.s 39)⟩,
    ⟨(some 41), none, .load none (.s 40)⟩,
    ⟨(some 42), none, .append 3 1 8 false (.s 37) (.s 41)⟩,
    ⟨(some 43), none, .bslice 28 1 1 [.nil] [(0, (.s 42))]⟩,
    ⟨(some 44), none, .append 28 1 24 true (.s 36) (.s 43)⟩,
    ⟨(some 5), none, .mov (.s 44)⟩] [0, 1, 5, 6, 7])))))
  (.reg [
    ⟨(some 14), none, .mov (.s 7)⟩,
    ⟨(some 15), none, .bin .add (.s 14) (.c (.t (.int .i64 1)))⟩,
    ⟨(some 7), none, .mov (.s 15)⟩] [0, 1, 5, 6, 7]))

def M_spec_l4Put : MFun := ⟨2, 54, [.tmp 4],
  .seq (.reg [
    ⟨(some 4), none, .mov (.c (.t .nil))⟩] [0, 1])
  (.seq (.reg [
    ⟨(some 9), none, .bslice 28 1 0 [.nil] []⟩,
    ⟨(some 5), none, .mov (.s 9)⟩] [0, 1, 5])
  (.seq (.reg [
    ⟨(some 6), none, .mov (.c (.t (.bool false)))⟩] [0, 1, 5, 6])
  (.seq (.seq (.reg [
    ⟨(some 7), none, .mov (.c (.t (.int .i64 0)))⟩] [0, 1, 5, 6, 7])
  (.block 0 (.loop [0, 1, 5, 6, 7] B_spec_l4Put_0)))
  (.seq (.seq (.reg [
    ⟨(some 45), none, .mov (.s 6)⟩,
    ⟨(some 46), none, .un .not (.s 45)⟩] [1, 5, 46])
  (.cond (.s 46)
    (.reg [
      ⟨(some 47), none, .mov (.s 5)⟩,
      ⟨(some 48), none, .bslice 3 1 0 [(.int .i64 0)] []⟩,
      ⟨(some 49), none, .mov (.s 1)⟩,
      ⟨(some 50), none, .append 3 1 8 false (.s 48) (.s 49)⟩,
      ⟨(some 51), none, .bslice 28 1 1 [.nil] [(0, (.s 50))]⟩,
      ⟨(some 52), none, .append 28 1 24 true (.s 47) (.s 51)⟩,
      ⟨(some 5), none, .mov (.s 52)⟩] [5])
    (.skip)))
  (.seq (.reg [
    ⟨(some 53), none, .mov (.s 5)⟩,
    ⟨(some 4), none, .mov (.s 53)⟩] [4])
  (.ret))))))⟩
theorem t_spec_l4Put : tbl 169 = some M_spec_l4Put := tblOf_eq Try.func169 (by kernel_rfl) (by kernel_rfl)

/-- loop.example/g01921/spec.ParseQuery -/
def B_spec_ParseQuery_0 : MCode :=
  .seq (.seq (.reg [
    ⟨(some 54), none, .mov (.s 9)⟩,
    ⟨(some 55), none, .bin .lss (.s 54) (.c (.t (.int .i64 4)))⟩] [0, 2, 4, 5, 6, 7, 8, 9, 55])
  (.cond (.s 55)
    (.skip)
    (.exit 4)))
  (.seq (.block 5 (.seq (.drw [
    ⟨(some 58), none, .mov (.s 9)⟩,
    ⟨(some 59), none, .call 185 [(.s 58)]⟩,
    ⟨(some 60), none, .mov (.s 5)⟩,
    ⟨(some 61), none, .mov (.s 6)⟩,
    ⟨(some 62), none, .iaddr 1 (.s 60) (.s 61)⟩,
    ⟨(some 63), none, .load none (.s 62)⟩,
    ⟨(some 64), none, .mov (.s 8)⟩,
    ⟨(some 65), none, .mov (.s 8)⟩,
    ⟨(some 66), none, .bin .add (.s 65) (.c (.t (.int .i64 1)))⟩,
    ⟨(some 67), none, .slice none (.s 63) (some (.s 64)) (some (.s 66))⟩,
    ⟨(some 68), none, .bin .eql (.s 59) (.s 67)⟩] [[], [0], [], [], [2, 3], [4], [], [], [7], [5, 6, 8], [1, 9]] [0, 2, 4, 5, 6, 7, 8, 9, 68])
  (.cond (.s 68)
    (.seq (.reg [
      ⟨(some 69), none, .faddr 1 (.s 7)⟩,
      ⟨(some 70), none, .load none (.s 69)⟩,
      ⟨(some 71), none, .mov (.s 9)⟩,
      ⟨(some 72), none, .bslice 3 1 1 [(.int .i64 0)] [(0, (.s 71))]⟩,
      ⟨(some 73), none, .append 3 1 8 true (.s 70) (.s 72)⟩,
      ⟨(some 74), none, .faddr 1 (.s 7)⟩,
      ⟨none, none, .store 1 (.s 74) (.s 73)⟩] [0, 2, 4, 5, 6, 7, 8, 9])
    (.reg [
      ⟨(some 75), none, .faddr 0 (.s 4)⟩,
      ⟨(some 76), none, .load none (.s 75)⟩,
      ⟨(some 77), none, .mov (.s 9)⟩,
      ⟨(some 78), none, .bin .add (.s 77) (.c (.t (.int .i64 1)))⟩,
      ⟨(some 79), none, .mm true (.s 76) (.s 78)⟩,
      ⟨(some 80), none, .faddr 0 (.s 4)⟩,
      ⟨none, none, .store 1 (.s 80) (.s 79)⟩] [0, 2, 4, 5, 6, 7, 8, 9]))
    (.skip))))
  (.reg [
    ⟨(some 56), none, .mov (.s 9)⟩,
    ⟨(some 57), none, .bin .add (.s 56) (.c (.t (.int .i64 1)))⟩,
    ⟨(some 9), none, .mov (.s 57)⟩] [0, 2, 4, 5, 6, 7, 8, 9]))

def B_spec_ParseQuery_1 : MCode :=
  .seq (.seq (.reg [
    ⟨(some 44), none, .mov (.s 8)⟩,
    ⟨(some 45), none, .mov (.s 5)⟩,
    ⟨(some 46), none, .mov (.s 6)⟩,
    ⟨(some 47), none, .iaddr 1 (.s 45) (.s 46)⟩,
    ⟨(some 48), none, .load none (.s 47)⟩,
    ⟨(some 49), none, .len true (.s 48)⟩,
    ⟨(some 50), none, .bin .sub (.s 49) (.c (.t (.int .i64 1)))⟩,
    ⟨(some 51), none, .bin .lss (.s 44) (.s 50)⟩] [0, 2, 4, 5, 6, 7, 8, 51])
  (.cond (.s 51)
    (.skip)
    (.exit 2)))
  (.seq (.block 3 (.seq (.reg [
    ⟨(some 9), none, .mov (.c (.t (.int .i64 0)))⟩] [0, 2, 4, 5, 6, 7, 8, 9])
  (.block 4 (.loop [0, 2, 4, 5, 6, 7, 8, 9] B_spec_ParseQuery_0))))
  (.reg [
    ⟨(some 52), none, .mov (.s 8)⟩,
    ⟨(some 53), none, .bin .add (.s 52) (.c (.t (.int .i64 1)))⟩,
    ⟨(some 8), none, .mov (.s 53)⟩] [0, 2, 4, 5, 6, 7, 8]))

def B_spec_ParseQuery_2 : MCode :=
  .seq (.seq (.reg [
    ⟨(some 13), none, .mov (.s 6)⟩,
    ⟨(some 14), none, .mov (.s 5)⟩,
    ⟨(some 15), none, .len false (.s 14)⟩,
    ⟨(some 16), none, .bin .lss (.s 13) (.s 15)⟩,
    ⟨(some 17), none, .mov (.s 16)⟩,
    ⟨(some 18), (some (17, true)), .mov (.s 6)⟩,
    ⟨(some 19), (some (17, true)), .bin .leq (.s 18) (.c (.t (.int .i64 4)))⟩,
    ⟨(some 20), none, .pick (.s 17) (.s 19) (.c (.t (.bool false)))⟩] [0, 2, 4, 5, 6, 20])
  (.cond (.s 20)
    (.skip)
    (.exit 0)))
  (.seq (.block 1 (.seq (.seq (.reg [
    ⟨(some 23), none, .mov (.s 5)⟩,
    ⟨(some 24), none, .mov (.s 6)⟩,
    ⟨(some 25), none, .iaddr 1 (.s 23) (.s 24)⟩,
    ⟨(some 26), none, .load none (.s 25)⟩,
    ⟨(some 27), none, .len true (.s 26)⟩,
    ⟨(some 28), none, .bin .lss (.s 27) (.c (.t (.int .i64 4)))⟩,
    ⟨(some 29), none, .mov (.s 28)⟩,
    ⟨(some 30), (some (29, false)), .mov (.s 5)⟩,
    ⟨(some 31), (some (29, false)), .mov (.s 6)⟩,
    ⟨(some 32), (some (29, false)), .iaddr 1 (.s 30) (.s 31)⟩,
    ⟨(some 33), (some (29, false)), .load none (.s 32)⟩,
    ⟨(some 34), (some (29, false)), .len true (.s 33)⟩,
    ⟨(some 35), (some (29, false)), .bin .gtr (.s 34) (.c (.t (.int .i64 6)))⟩,
    ⟨(some 36), none, .pick (.s 29) (.c (.t (.bool true))) (.s 35)⟩] [0, 2, 4, 5, 6, 36])
  (.cond (.s 36)
    (.seq (.reg [
      ⟨(some 37), none, .build [(.t (.int .i64 0)), (.t .nil)] []⟩,
      ⟨none, none, .store 2 (.s 2) (.s 37)⟩,
      ⟨(some 3), none, .mov (.c (.t (.bool false)))⟩] [2, 3])
    (.ret))
    (.skip)))
  (.seq (.reg [
    ⟨(some 38), none, .mov (.s 5)⟩,
    ⟨(some 39), none, .mov (.s 6)⟩,
    ⟨(some 40), none, .iaddr 1 (.s 38) (.s 39)⟩,
    ⟨(some 41), none, .load none (.s 40)⟩,
    ⟨(some 42), none, .slice none (.s 41) none (some (.c (.t (.int .i64 1))))⟩,
    ⟨(some 43), none, .build [(.t (.str ⟨#[]⟩)), (.t .nil)] [(0, 1, (.s 42))]⟩,
    ⟨(some 7), none, .alloc [(.t (.str ⟨#[]⟩)), (.t .nil)]⟩,
    ⟨none, none, .store 2 (.s 7) (.s 43)⟩] [0, 2, 4, 5, 6, 7])
  (.seq (.seq (.reg [
    ⟨(some 8), none, .mov (.c (.t (.int .i64 2)))⟩] [0, 2, 4, 5, 6, 7, 8])
  (.block 2 (.loop [0, 2, 4, 5, 6, 7, 8] B_spec_ParseQuery_1)))
  (.reg [
    ⟨(some 81), none, .faddr 1 (.s 4)⟩,
    ⟨(some 82), none, .load none (.s 81)⟩,
    ⟨(some 83), none, .load (some 2) (.s 7)⟩,
    ⟨(some 84), none, .bslice 168 2 1 [(.str ⟨#[]⟩), .nil] [(0, (.s 83))]⟩,
    ⟨(some 85), none, .append 168 2 40 true (.s 82) (.s 84)⟩,
    ⟨(some 86), none, .faddr 1 (.s 4)⟩,
    ⟨none, none, .store 1 (.s 86) (.s 85)⟩] [0, 2, 4, 5, 6])))))
  (.reg [
    ⟨(some 21), none, .mov (.s 6)⟩,
    ⟨(some 22), none, .bin .add (.s 21) (.c (.t (.int .i64 1)))⟩,
    ⟨(some 6), none, .mov (.s 22)⟩] [0, 2, 4, 5, 6]))

def M_spec_ParseQuery : MFun := ⟨1, 98, [.cell 2 (some 2), .tmp 3],
  .seq (.reg [
    ⟨(some 2), none, .alloc [(.t (.int .i64 0)), (.t .nil)]⟩,
    ⟨(some 3), none, .mov (.c (.t (.bool false)))⟩] [0, 2])
  (.seq (.reg [
    ⟨(some 10), none, .build [(.t (.int .i64 0)), (.t .nil)] []⟩,
    ⟨(some 4), none, .alloc [(.t (.int .i64 0)), (.t .nil)]⟩,
    ⟨none, none, .store 2 (.s 4) (.s 10)⟩] [0, 2, 4])
  (.seq (.reg [
    ⟨(some 11), none, .mov (.s 0)⟩,
    ⟨(some 12), none, .call 184 [(.s 11), (.c (.t (.int .u8 32)))]⟩,
    ⟨(some 5), none, .mov (.s 12)⟩] [0, 2, 4, 5])
  (.seq (.seq (.reg [
    ⟨(some 6), none, .mov (.c (.t (.int .i64 0)))⟩] [0, 2, 4, 5, 6])
  (.block 0 (.loop [0, 2, 4, 5, 6] B_spec_ParseQuery_2)))
  (.seq (.seq (.reg [
    ⟨(some 87), none, .load (some 2) (.s 4)⟩,
    ⟨(some 88), none, .call 105 [(.s 87)]⟩,
    ⟨(some 89), none, .un .not (.s 88)⟩,
    ⟨(some 90), none, .mov (.s 89)⟩,
    ⟨(some 91), (some (90, false)), .load (some 2) (.s 4)⟩,
    ⟨(some 92), (some (90, false)), .call 186 [(.s 91)]⟩,
    ⟨(some 93), (some (90, false)), .mov (.s 0)⟩,
    ⟨(some 94), (some (90, false)), .bin .neq (.s 92) (.s 93)⟩,
    ⟨(some 95), none, .pick (.s 90) (.c (.t (.bool true))) (.s 94)⟩] [2, 4, 95])
  (.cond (.s 95)
    (.seq (.reg [
      ⟨(some 96), none, .build [(.t (.int .i64 0)), (.t .nil)] []⟩,
      ⟨none, none, .store 2 (.s 2) (.s 96)⟩,
      ⟨(some 3), none, .mov (.c (.t (.bool false)))⟩] [2, 3])
    (.ret))
    (.skip)))
  (.seq (.reg [
    ⟨(some 97), none, .load (some 2) (.s 4)⟩,
    ⟨none, none, .store 2 (.s 2) (.s 97)⟩,
    ⟨(some 3), none, .mov (.c (.t (.bool true)))⟩] [2, 3])
  (.ret))))))⟩
theorem t_spec_ParseQuery : tbl 170 = some M_spec_ParseQuery := tblOf_eq Try.func170 (by kernel_rfl) (by kernel_rfl)

/-- loop.example/g01921/spec.l1Pick -/
def M_spec_l1Pick : MFun := ⟨2, 12, [.tmp 4],
  .seq (.reg [
    ⟨(some 4), none, .mov (.c (.t (.str ⟨#[]⟩)))⟩] [0, 1])
  (.seq (.reg [
    ⟨(some 5), none, .mov (.s 1)⟩,
    ⟨(some 6), none, .mov (.s 0)⟩,
    ⟨(some 7), none, .mov (.s 1)⟩,
    ⟨(some 8), none, .len false (.s 7)⟩,
    ⟨(some 9), none, .call 90 [(.s 6), (.s 8)]⟩,
    ⟨(some 10), none, .iaddr 1 (.s 5) (.s 9)⟩,
    ⟨(some 11), none, .load none (.s 10)⟩,
    ⟨(some 4), none, .mov (.s 11)⟩] [4])
  (.ret))⟩
theorem t_spec_l1Pick : tbl 171 = some M_spec_l1Pick := tblOf_eq Try.func171 (by kernel_rfl) (by kernel_rfl)

/-- loop.example/g01921/spec.JoinSplits -/
def B_spec_JoinSplits_0 : MCode :=
  .seq (.seq (.reg [
    ⟨(some 13), none, .mov (.s 6)⟩,
    ⟨(some 14), none, .mov (.s 1)⟩,
    ⟨(some 15), none, .bin .lss (.s 13) (.s 14)⟩] [1, 2, 5, 6, 15])
  (.cond (.s 15)
    (.skip)
    (.exit 0)))
  (.seq (.block 1 (.seq (.reg [
    ⟨(some 18), none, .mov (.s 6)⟩,
    ⟨(some 19), none, .mov (.s 1)⟩,
    ⟨(some 20), none, .bin .and (.s 18) (.s 19)⟩,
    ⟨(some 21), none, .mov (.s 6)⟩,
    ⟨(some 22), none, .bin .eql (.s 20) (.s 21)⟩,
    ⟨(some 23), none, .mov (.s 22)⟩,
    ⟨(some 24), (some (23, true)), .load (some 2) (.s 2)⟩,
    ⟨(some 25), (some (23, true)), .mov (.s 6)⟩,
    ⟨(some 26), (some (23, true)), .call 188 [(.s 24), (.s 25)]⟩,
    ⟨(some 27), none, .pick (.s 23) (.s 26) (.c (.t (.bool false)))⟩,
    ⟨(some 28), none, .mov (.s 27)⟩,
    ⟨(some 29), (some (28, true)), .load (some 2) (.s 2)⟩,
    ⟨(some 30), (some (28, true)), .mov (.s 1)⟩,
    ⟨(some 31), (some (28, true)), .mov (.s 6)⟩,
    ⟨(some 32), (some (28, true)), .bin .sub (.s 30) (.s 31)⟩,
    ⟨(some 33), (some (28, true)), .call 188 [(.s 29), (.s 32)]⟩,
    ⟨(some 34), none, .pick (.s 28) (.s 33) (.c (.t (.bool false)))⟩] [1, 2, 5, 6, 34])
  (.cond (.s 34)
    (.reg [
      ⟨(some 35), none, .mov (.s 5)⟩,
      ⟨(some 36), none, .mov (.s 6)⟩,
      ⟨(some 37), none, .bslice 3 1 1 [(.int .i64 0)] [(0, (.s 36))]⟩,
      ⟨(some 38), none, .append 3 1 8 true (.s 35) (.s 37)⟩,
      ⟨(some 5), none, .mov (.s 38)⟩] [1, 2, 5, 6])
    (.skip))))
  (.reg [
    ⟨(some 16), none, .mov (.s 6)⟩,
    ⟨(some 17), none, .bin .add (.s 16) (.c (.t (.int .i64 1)))⟩,
    ⟨(some 6), none, .mov (.s 17)⟩] [1, 2, 5, 6]))

def M_spec_JoinSplits : MFun := ⟨2, 40, [.tmp 4],
  .seq (.reg [
    ⟨(some 2), none, .box (.s 0)⟩,
    ⟨(some 4), none, .mov (.c (.t .nil))⟩] [1, 2])
  (.seq (.reg [
    ⟨(some 7), none, .bslice 3 1 0 [(.int .i64 0)] []⟩,
    ⟨(some 5), none, .mov (.s 7)⟩] [1, 2, 5])
  (.seq (.seq (.reg [
    ⟨(some 8), none, .load (some 2) (.s 2)⟩,
    ⟨(some 9), none, .mov (.s 1)⟩,
    ⟨(some 10), none, .call 187 [(.s 8), (.s 9)]⟩,
    ⟨(some 11), none, .un .not (.s 10)⟩] [1, 2, 5, 11])
  (.cond (.s 11)
    (.seq (.reg [
      ⟨(some 12), none, .mov (.s 5)⟩,
      ⟨(some 4), none, .mov (.s 12)⟩] [4])
    (.ret))
    (.skip)))
  (.seq (.seq (.reg [
    ⟨(some 6), none, .mov (.c (.t (.int .i64 1)))⟩] [1, 2, 5, 6])
  (.block 0 (.loop [1, 2, 5, 6] B_spec_JoinSplits_0)))
  (.seq (.reg [
    ⟨(some 39), none, .mov (.s 5)⟩,
    ⟨(some 4), none, .mov (.s 39)⟩] [4])
  (.ret)))))⟩
theorem t_spec_JoinSplits : tbl 172 = some M_spec_JoinSplits := tblOf_eq Try.func172 (by kernel_rfl) (by kernel_rfl)

/-- loop.example/g01921/spec.MaskAtoms -/
def B_spec_MaskAtoms_0 : MCode :=
  .seq (.seq (.reg [
    ⟨(some 6), none, .mov (.s 4)⟩,
    ⟨(some 7), none, .bin .lss (.s 6) (.c (.t (.int .i64 4)))⟩,
    ⟨(some 8), none, .mov (.s 7)⟩,
    ⟨(some 9), (some (8, true)), .mov (.s 0)⟩,
    ⟨(some 10), (some (8, true)), .call 70 [(.s 9), (.c (.t (.int .i64 0))), (.c (.t (.int .i64 15)))]⟩,
    ⟨(some 11), none, .pick (.s 8) (.s 10) (.c (.t (.bool false)))⟩] [0, 3, 4, 11])
  (.cond (.s 11)
    (.skip)
    (.exit 0)))
  (.seq (.block 1 (.seq (.reg [
    ⟨(some 14), none, .mov (.s 0)⟩,
    ⟨(some 15), none, .mov (.s 4)⟩,
    ⟨(some 16), none, .bin .shr (.s 14) (.s 15)⟩,
    ⟨(some 17), none, .bin .and (.s 16) (.c (.t (.int .i64 1)))⟩,
    ⟨(some 18), none, .bin .eql (.s 17) (.c (.t (.int .i64 1)))⟩] [0, 3, 4, 18])
  (.cond (.s 18)
    (.reg [
      ⟨(some 19), none, .mov (.s 3)⟩,
      ⟨(some 20), none, .mov (.s 4)⟩,
      ⟨(some 21), none, .bslice 3 1 1 [(.int .i64 0)] [(0, (.s 20))]⟩,
      ⟨(some 22), none, .append 3 1 8 true (.s 19) (.s 21)⟩,
      ⟨(some 3), none, .mov (.s 22)⟩] [0, 3, 4])
    (.skip))))
  (.reg [
    ⟨(some 12), none, .mov (.s 4)⟩,
    ⟨(some 13), none, .bin .add (.s 12) (.c (.t (.int .i64 1)))⟩,
    ⟨(some 4), none, .mov (.s 13)⟩] [0, 3, 4]))

def M_spec_MaskAtoms : MFun := ⟨1, 24, [.tmp 2],
  .seq (.reg [
    ⟨(some 2), none, .mov (.c (.t .nil))⟩] [0])
  (.seq (.reg [
    ⟨(some 5), none, .bslice 3 1 0 [(.int .i64 0)] []⟩,
    ⟨(some 3), none, .mov (.s 5)⟩] [0, 3])
  (.seq (.seq (.reg [
    ⟨(some 4), none, .mov (.c (.t (.int .i64 0)))⟩] [0, 3, 4])
  (.block 0 (.loop [0, 3, 4] B_spec_MaskAtoms_0)))
  (.seq (.reg [
    ⟨(some 23), none, .mov (.s 3)⟩,
    ⟨(some 2), none, .mov (.s 23)⟩] [2])
  (.ret))))⟩
theorem t_spec_MaskAtoms : tbl 173 = some M_spec_MaskAtoms := tblOf_eq Try.func173 (by kernel_rfl) (by kernel_rfl)

/-- loop.example/g01921/spec.ScanPlan -/
def M_spec_ScanPlan : MFun := ⟨1, 7, [.cell 2 (some 1)],
  .seq (.reg [
    ⟨(some 2), none, .alloc [(.t .nil)]⟩] [0, 2])
  (.seq (.reg [
    ⟨(some 3), none, .mov (.s 0)⟩,
    ⟨(some 4), none, .build [(.t (.int .i64 0)), (.t (.int .i64 0)), (.t (.int .i64 0))] [(0, 1, (.c (.t (.int .i64 1)))), (1, 1, (.s 3))]⟩,
    ⟨(some 5), none, .bslice 166 3 1 [(.int .i64 0), (.int .i64 0), (.int .i64 0)] [(0, (.s 4))]⟩,
    ⟨(some 6), none, .build [(.t .nil)] [(0, 1, (.s 5))]⟩,
    ⟨none, none, .store 1 (.s 2) (.s 6)⟩] [2])
  (.ret))⟩
theorem t_spec_ScanPlan : tbl 174 = some M_spec_ScanPlan := tblOf_eq Try.func174 (by kernel_rfl) (by kernel_rfl)

/-- loop.example/g01921/spec.JoinPlans -/
def M_spec_JoinPlans : MFun := ⟨4, 30, [.cell 8 (some 1)],
  .seq (.reg [
    ⟨(some 4), none, .box (.s 0)⟩,
    ⟨(some 5), none, .box (.s 1)⟩,
    ⟨(some 8), none, .alloc [(.t .nil)]⟩] [2, 3, 4, 5, 8])
  (.seq (.reg [
    ⟨(some 10), none, .bslice 166 3 0 [(.int .i64 0), (.int .i64 0), (.int .i64 0)] []⟩,
    ⟨(some 11), none, .faddr 0 (.s 4)⟩,
    ⟨(some 12), none, .load none (.s 11)⟩,
    ⟨(some 13), none, .append 166 3 24 false (.s 10) (.s 12)⟩,
    ⟨(some 14), none, .build [(.t .nil)] [(0, 1, (.s 13))]⟩,
    ⟨(some 9), none, .alloc [(.t .nil)]⟩,
    ⟨none, none, .store 1 (.s 9) (.s 14)⟩] [2, 3, 5, 8, 9])
  (.seq (.reg [
    ⟨(some 15), none, .faddr 0 (.s 9)⟩,
    ⟨(some 16), none, .load none (.s 15)⟩,
    ⟨(some 17), none, .faddr 0 (.s 5)⟩,
    ⟨(some 18), none, .load none (.s 17)⟩,
    ⟨(some 19), none, .append 166 3 24 false (.s 16) (.s 18)⟩,
    ⟨(some 20), none, .faddr 0 (.s 9)⟩,
    ⟨none, none, .store 1 (.s 20) (.s 19)⟩] [2, 3, 8, 9])
  (.seq (.reg [
    ⟨(some 21), none, .faddr 0 (.s 9)⟩,
    ⟨(some 22), none, .load none (.s 21)⟩,
    ⟨(some 23), none, .mov (.s 2)⟩,
    ⟨(some 24), none, .mov (.s 3)⟩,
    ⟨(some 25), none, .build [(.t (.int .i64 0)), (.t (.int .i64 0)), (.t (.int .i64 0))] [(0, 1, (.s 23)), (2, 1, (.s 24))]⟩,
    ⟨(some 26), none, .bslice 166 3 1 [(.int .i64 0), (.int .i64 0), (.int .i64 0)] [(0, (.s 25))]⟩,
    ⟨(some 27), none, .append 166 3 24 true (.s 22) (.s 26)⟩,
    ⟨(some 28), none, .faddr 0 (.s 9)⟩,
    ⟨none, none, .store 1 (.s 28) (.s 27)⟩] [8, 9])
  (.seq (.reg [
    ⟨(some 29), none, .load (some 1) (.s 9)⟩,
    ⟨none, none, .store 1 (.s 8) (.s 29)⟩] [8])
  (.ret)))))⟩
theorem t_spec_JoinPlans : tbl 175 = some M_spec_JoinPlans := tblOf_eq Try.func175 (by kernel_rfl) (by kernel_rfl)

/-- loop.example/g01921/spec.SharedVariables -/
def B_spec_SharedVariables_0 : MCode :=
  .seq (.seq (.reg [
    ⟨(some 18), none, .mov (.s 10)⟩,
    ⟨(some 19), none, .mov (.s 8)⟩,
    ⟨(some 20), none, .len false (.s 19)⟩,
    ⟨(some 21), none, .bin .lss (.s 18) (.s 20)⟩] [7, 8, 9, 10, 21])
  (.cond (.s 21)
    (.skip)
    (.exit 0)))
  (.seq (.block 1 (.seq (.reg [
    ⟨(some 24), none, .mov (.s 9)⟩,
    ⟨(some 25), none, .mov (.s 8)⟩,
    ⟨(some 26), none, .mov (.s 10)⟩,
    ⟨(some 27), none, .iaddr 1 (.s 25) (.s 26)⟩,
    ⟨(some 28), none, .load none (.s 27)⟩,
    ⟨(some 29), none, .call 124 [(.s 24), (.s 28)]⟩] [7, 8, 9, 10, 29])
  (.cond (.s 29)
    (.reg [
      ⟨(some 30), none, .mov (.s 7)⟩,
      ⟨(some 31), none, .mov (.s 8)⟩,
      ⟨(some 32), none, .mov (.s 10)⟩,
      ⟨(some 33), none, .iaddr 1 (.s 31) (.s 32)⟩,
      ⟨(some 34), none, .load none (.s 33)⟩,
      ⟨(some 35), none, .bslice 3 1 1 [(.int .i64 0)] [(0, (.s 34))]⟩,
      ⟨(some 36), none, .append 3 1 8 true (.s 30) (.s 35)⟩,
      ⟨(some 7), none, .mov (.s 36)⟩] [7, 8, 9, 10])
    (.skip))))
  (.reg [
    ⟨(some 22), none, .mov (.s 10)⟩,
    ⟨(some 23), none, .bin .add (.s 22) (.c (.t (.int .i64 1)))⟩,
    ⟨(some 10), none, .mov (.s 23)⟩] [7, 8, 9, 10]))

def M_spec_SharedVariables : MFun := ⟨3, 38, [.tmp 6],
  .seq (.reg [
    ⟨(some 3), none, .box (.s 0)⟩,
    ⟨(some 6), none, .mov (.c (.t .nil))⟩] [1, 2, 3])
  (.seq (.reg [
    ⟨(some 11), none, .bslice 3 1 0 [(.int .i64 0)] []⟩,
    ⟨(some 7), none, .mov (.s 11)⟩] [1, 2, 3, 7])
  (.seq (.reg [
    ⟨(some 12), none, .load (some 2) (.s 3)⟩,
    ⟨(some 13), none, .mov (.s 1)⟩,
    ⟨(some 14), none, .call 181 [(.s 12), (.s 13)]⟩,
    ⟨(some 8), none, .mov (.s 14)⟩] [2, 3, 7, 8])
  (.seq (.reg [
    ⟨(some 15), none, .load (some 2) (.s 3)⟩,
    ⟨(some 16), none, .mov (.s 2)⟩,
    ⟨(some 17), none, .call 181 [(.s 15), (.s 16)]⟩,
    ⟨(some 9), none, .mov (.s 17)⟩] [7, 8, 9])
  (.seq (.seq (.reg [
    ⟨(some 10), none, .mov (.c (.t (.int .i64 0)))⟩] [7, 8, 9, 10])
  (.block 0 (.loop [7, 8, 9, 10] B_spec_SharedVariables_0)))
  (.seq (.reg [
    ⟨(some 37), none, .mov (.s 7)⟩,
    ⟨(some 6), none, .mov (.s 37)⟩] [6])
  (.ret))))))⟩
theorem t_spec_SharedVariables : tbl 176 = some M_spec_SharedVariables := tblOf_eq Try.func176 (by kernel_rfl) (by kernel_rfl)

/-- loop.example/g01921/spec.PlanOrder -/
def M_spec_PlanOrder : MFun := ⟨2, 22, [.tmp 4],
  .seq (.reg [
    ⟨(some 2), none, .box (.s 0)⟩,
    ⟨(some 3), none, .box (.s 1)⟩,
    ⟨(some 4), none, .mov (.c (.t (.int .i64 0)))⟩] [2, 3])
  (.seq (.reg [
    ⟨(some 8), none, .load (some 2) (.s 2)⟩,
    ⟨(some 9), none, .load (some 1) (.s 3)⟩,
    ⟨(some 10), none, .call 52 [(.s 8), (.s 9)]⟩,
    ⟨(some 7), none, .mov (.s 10)⟩,
    ⟨(some 11), none, .ext (.s 7) 0⟩,
    ⟨(some 12), none, .ext (.s 7) 1⟩,
    ⟨(some 5), none, .mov (.s 11)⟩,
    ⟨(some 6), none, .mov (.s 12)⟩] [5, 6])
  (.seq (.seq (.reg [
    ⟨(some 13), none, .mov (.s 6)⟩,
    ⟨(some 14), none, .un .not (.s 13)⟩] [5, 14])
  (.cond (.s 14)
    (.seq (.reg [
      ⟨(some 4), none, .mov (.c (.t (.int .i64 (-1))))⟩] [4])
    (.ret))
    (.skip)))
  (.seq (.reg [
    ⟨(some 15), none, .mov (.s 5)⟩,
    ⟨(some 16), none, .mov (.s 5)⟩,
    ⟨(some 17), none, .len false (.s 16)⟩,
    ⟨(some 18), none, .bin .sub (.s 17) (.c (.t (.int .i64 1)))⟩,
    ⟨(some 19), none, .iaddr 4 (.s 15) (.s 18)⟩,
    ⟨(some 20), none, .faddr 1 (.s 19)⟩,
    ⟨(some 21), none, .load none (.s 20)⟩,
    ⟨(some 4), none, .mov (.s 21)⟩] [4])
  (.ret))))⟩
theorem t_spec_PlanOrder : tbl 177 = some M_spec_PlanOrder := tblOf_eq Try.func177 (by kernel_rfl) (by kernel_rfl)

/-- loop.example/g01921/spec.SortPlan -/
def M_spec_SortPlan : MFun := ⟨2, 19, [.cell 4 (some 1)],
  .seq (.reg [
    ⟨(some 2), none, .box (.s 0)⟩,
    ⟨(some 4), none, .alloc [(.t .nil)]⟩] [1, 2, 4])
  (.seq (.reg [
    ⟨(some 6), none, .bslice 166 3 0 [(.int .i64 0), (.int .i64 0), (.int .i64 0)] []⟩,
    ⟨(some 7), none, .faddr 0 (.s 2)⟩,
    ⟨(some 8), none, .load none (.s 7)⟩,
    ⟨(some 9), none, .append 166 3 24 false (.s 6) (.s 8)⟩,
    ⟨(some 10), none, .build [(.t .nil)] [(0, 1, (.s 9))]⟩,
    ⟨(some 5), none, .alloc [(.t .nil)]⟩,
    ⟨none, none, .store 1 (.s 5) (.s 10)⟩] [1, 4, 5])
  (.seq (.reg [
    ⟨(some 11), none, .faddr 0 (.s 5)⟩,
    ⟨(some 12), none, .load none (.s 11)⟩,
    ⟨(some 13), none, .mov (.s 1)⟩,
    ⟨(some 14), none, .build [(.t (.int .i64 0)), (.t (.int .i64 0)), (.t (.int .i64 0))] [(0, 1, (.c (.t (.int .i64 2)))), (2, 1, (.s 13))]⟩,
    ⟨(some 15), none, .bslice 166 3 1 [(.int .i64 0), (.int .i64 0), (.int .i64 0)] [(0, (.s 14))]⟩,
    ⟨(some 16), none, .append 166 3 24 true (.s 12) (.s 15)⟩,
    ⟨(some 17), none, .faddr 0 (.s 5)⟩,
    ⟨none, none, .store 1 (.s 17) (.s 16)⟩] [4, 5])
  (.seq (.reg [
    ⟨(some 18), none, .load (some 1) (.s 5)⟩,
    ⟨none, none, .store 1 (.s 4) (.s 18)⟩] [4])
  (.ret))))⟩
theorem t_spec_SortPlan : tbl 178 = some M_spec_SortPlan := tblOf_eq Try.func178 (by kernel_rfl) (by kernel_rfl)

/-- loop.example/g01921/spec.IsQueryFor -/
def B_spec_IsQueryFor_0 : MCode :=
  .seq (.seq (.reg [
    ⟨(some 11), none, .mov (.s 5)⟩,
    ⟨(some 12), none, .faddr 1 (.s 3)⟩,
    ⟨(some 13), none, .load none (.s 12)⟩,
    ⟨(some 14), none, .len false (.s 13)⟩,
    ⟨(some 15), none, .bin .lss (.s 11) (.s 14)⟩] [2, 3, 5, 15])
  (.cond (.s 15)
    (.skip)
    (.exit 0)))
  (.seq (.block 1 (.seq (.drw [
    ⟨(some 19), none, .load (some 1) (.s 2)⟩,
    ⟨(some 20), none, .faddr 1 (.s 3)⟩,
    ⟨(some 21), none, .load none (.s 20)⟩,
    ⟨(some 22), none, .mov (.s 5)⟩,
    ⟨(some 23), none, .iaddr 2 (.s 21) (.s 22)⟩,
    ⟨(some 24), none, .faddr 0 (.s 23)⟩,
    ⟨(some 25), none, .load none (.s 24)⟩,
    ⟨(some 26), none, .call 180 [(.s 19), (.s 25)]⟩,
    ⟨(some 18), none, .mov (.s 26)⟩,
    ⟨(some 27), none, .ext (.s 18) 0⟩,
    ⟨(some 28), none, .ext (.s 18) 1⟩,
    ⟨(some 6), none, .alloc [(.t (.str ⟨#[]⟩)), (.t (.int .i64 0)), (.t .nil)]⟩,
    ⟨none, none, .store 3 (.s 6) (.s 27)⟩,
    ⟨(some 7), none, .mov (.s 28)⟩] [[], [], [1], [], [2, 3], [4], [5], [0, 6], [7], [8], [8], [], [11, 9, 7, 0, 1, 2, 3, 4, 5, 6, 7, 8, 9, 11], [10, 12, 0, 1, 2, 3, 4, 5, 6, 7, 8, 9, 10, 11, 12]] [2, 3, 5, 6, 7])
  (.seq (.drw [
    ⟨(some 29), none, .mov (.s 7)⟩,
    ⟨(some 30), none, .un .not (.s 29)⟩,
    ⟨(some 31), none, .mov (.s 30)⟩,
    ⟨(some 32), (some (31, false)), .faddr 1 (.s 6)⟩,
    ⟨(some 33), (some (31, false)), .load none (.s 32)⟩,
    ⟨(some 34), (some (31, false)), .faddr 1 (.s 3)⟩,
    ⟨(some 35), (some (31, false)), .load none (.s 34)⟩,
    ⟨(some 36), (some (31, false)), .mov (.s 5)⟩,
    ⟨(some 37), (some (31, false)), .iaddr 2 (.s 35) (.s 36)⟩,
    ⟨(some 38), (some (31, false)), .faddr 1 (.s 37)⟩,
    ⟨(some 39), (some (31, false)), .load none (.s 38)⟩,
    ⟨(some 40), (some (31, false)), .len false (.s 39)⟩,
    ⟨(some 41), (some (31, false)), .bin .neq (.s 33) (.s 40)⟩,
    ⟨(some 42), none, .pick (.s 31) (.c (.t (.bool true))) (.s 41)⟩] [[], [0], [1], [2], [3, 2], [2], [5, 2], [2], [6, 7, 2], [8, 2], [9, 2], [10, 2], [4, 11, 2], [2, 12]] [2, 3, 5, 42])
  (.cond (.s 42)
    (.seq (.reg [
      ⟨(some 4), none, .mov (.c (.t (.bool false)))⟩] [4])
    (.ret))
    (.skip)))))
  (.reg [
    ⟨(some 16), none, .mov (.s 5)⟩,
    ⟨(some 17), none, .bin .add (.s 16) (.c (.t (.int .i64 1)))⟩,
    ⟨(some 5), none, .mov (.s 17)⟩] [2, 3, 5]))

def M_spec_IsQueryFor : MFun := ⟨2, 43, [.tmp 4],
  .seq (.reg [
    ⟨(some 2), none, .box (.s 0)⟩,
    ⟨(some 3), none, .box (.s 1)⟩,
    ⟨(some 4), none, .mov (.c (.t (.bool false)))⟩] [2, 3])
  (.seq (.seq (.reg [
    ⟨(some 8), none, .load (some 2) (.s 3)⟩,
    ⟨(some 9), none, .call 105 [(.s 8)]⟩,
    ⟨(some 10), none, .un .not (.s 9)⟩] [2, 3, 10])
  (.cond (.s 10)
    (.seq (.reg [
      ⟨(some 4), none, .mov (.c (.t (.bool false)))⟩] [4])
    (.ret))
    (.skip)))
  (.seq (.seq (.reg [
    ⟨(some 5), none, .mov (.c (.t (.int .i64 0)))⟩] [2, 3, 5])
  (.block 0 (.loop [2, 3, 5] B_spec_IsQueryFor_0)))
  (.seq (.reg [
    ⟨(some 4), none, .mov (.c (.t (.bool true)))⟩] [4])
  (.ret))))⟩
theorem t_spec_IsQueryFor : tbl 179 = some M_spec_IsQueryFor := tblOf_eq Try.func179 (by kernel_rfl) (by kernel_rfl)

/-- loop.example/g01921/spec.LookupTable -/
def B_spec_LookupTable_0 : MCode :=
  .seq (.seq (.reg [
    ⟨(some 7), none, .mov (.s 6)⟩,
    ⟨(some 8), none, .faddr 0 (.s 2)⟩,
    ⟨(some 9), none, .load none (.s 8)⟩,
    ⟨(some 10), none, .len false (.s 9)⟩,
    ⟨(some 11), none, .bin .lss (.s 7) (.s 10)⟩,
    ⟨(some 12), none, .mov (.s 11)⟩,
    ⟨(some 13), (some (12, true)), .load (some 1) (.s 2)⟩,
    ⟨(some 14), (some (12, true)), .call 189 [(.s 13)]⟩,
    ⟨(some 15), none, .pick (.s 12) (.s 14) (.c (.t (.bool false)))⟩] [1, 2, 4, 6, 15])
  (.cond (.s 15)
    (.skip)
    (.exit 0)))
  (.seq (.block 1 (.seq (.reg [
    ⟨(some 18), none, .faddr 0 (.s 2)⟩,
    ⟨(some 19), none, .load none (.s 18)⟩,
    ⟨(some 20), none, .mov (.s 6)⟩,
    ⟨(some 21), none, .iaddr 3 (.s 19) (.s 20)⟩,
    ⟨(some 22), none, .faddr 0 (.s 21)⟩,
    ⟨(some 23), none, .load none (.s 22)⟩,
    ⟨(some 24), none, .mov (.s 1)⟩,
    ⟨(some 25), none, .bin .eql (.s 23) (.s 24)⟩] [1, 2, 4, 6, 25])
  (.cond (.s 25)
    (.seq (.reg [
      ⟨(some 26), none, .faddr 0 (.s 2)⟩,
      ⟨(some 27), none, .load none (.s 26)⟩,
      ⟨(some 28), none, .mov (.s 6)⟩,
      ⟨(some 29), none, .iaddr 3 (.s 27) (.s 28)⟩,
      ⟨(some 30), none, .load (some 3) (.s 29)⟩,
      ⟨(some 31), none, .call 190 [(.s 30)]⟩,
      ⟨none, none, .store 3 (.s 4) (.s 31)⟩,
      ⟨(some 5), none, .mov (.c (.t (.bool true)))⟩] [4, 5])
    (.ret))
    (.skip))))
  (.reg [
    ⟨(some 16), none, .mov (.s 6)⟩,
    ⟨(some 17), none, .bin .add (.s 16) (.c (.t (.int .i64 1)))⟩,
    ⟨(some 6), none, .mov (.s 17)⟩] [1, 2, 4, 6]))

def M_spec_LookupTable : MFun := ⟨2, 33, [.cell 4 (some 3), .tmp 5],
  .seq (.reg [
    ⟨(some 2), none, .box (.s 0)⟩,
    ⟨(some 4), none, .alloc [(.t (.str ⟨#[]⟩)), (.t (.int .i64 0)), (.t .nil)]⟩,
    ⟨(some 5), none, .mov (.c (.t (.bool false)))⟩] [1, 2, 4])
  (.seq (.seq (.reg [
    ⟨(some 6), none, .mov (.c (.t (.int .i64 0)))⟩] [1, 2, 4, 6])
  (.block 0 (.loop [1, 2, 4, 6] B_spec_LookupTable_0)))
  (.seq (.reg [
    ⟨(some 32), none, .build [(.t (.str ⟨#[]⟩)), (.t (.int .i64 0)), (.t .nil)] []⟩,
    ⟨none, none, .store 3 (.s 4) (.s 32)⟩,
    ⟨(some 5), none, .mov (.c (.t (.bool false)))⟩] [4, 5])
  (.ret)))⟩
theorem t_spec_LookupTable : tbl 180 = some M_spec_LookupTable := tblOf_eq Try.func180 (by kernel_rfl) (by kernel_rfl)

/-- loop.example/g01921/spec.MaskVariables -/
def M_spec_MaskVariables : MFun := ⟨2, 14, [.tmp 4],
  .seq (.reg [
    ⟨(some 2), none, .box (.s 0)⟩,
    ⟨(some 4), none, .mov (.c (.t .nil))⟩] [1, 2])
  (.seq (.seq (.reg [
    ⟨(some 5), none, .load (some 2) (.s 2)⟩,
    ⟨(some 6), none, .mov (.s 1)⟩,
    ⟨(some 7), none, .call 191 [(.s 5), (.s 6)]⟩,
    ⟨(some 8), none, .un .not (.s 7)⟩] [1, 2, 8])
  (.cond (.s 8)
    (.seq (.reg [
      ⟨(some 9), none, .bslice 3 1 0 [(.int .i64 0)] []⟩,
      ⟨(some 4), none, .mov (.s 9)⟩] [4])
    (.ret))
    (.skip)))
  (.seq (.reg [
    ⟨(some 10), none, .load (some 2) (.s 2)⟩,
    ⟨(some 11), none, .mov (.s 1)⟩,
    ⟨(some 12), none, .call 147 [(.s 10), (.s 11)]⟩,
    ⟨(some 13), none, .call 192 [(.s 12)]⟩,
    ⟨(some 4), none, .mov (.s 13)⟩] [4])
  (.ret)))⟩
theorem t_spec_MaskVariables : tbl 181 = some M_spec_MaskVariables := tblOf_eq Try.func181 (by kernel_rfl) (by kernel_rfl)

/-- loop.example/g01921/spec.l9Walk -/
def B_spec_l9Walk_0 : MCode :=
  .seq (.seq (.reg [
    ⟨(some 12), none, .mov (.s 9)⟩,
    ⟨(some 13), none, .mov (.s 0)⟩,
    ⟨(some 14), none, .len false (.s 13)⟩,
    ⟨(some 15), none, .bin .lss (.s 12) (.s 14)⟩] [0, 1, 2, 3, 9, 15])
  (.cond (.s 15)
    (.skip)
    (.exit 0)))
  (.seq (.block 1 (.seq (.drw [
    ⟨(some 18), none, .mov (.s 0)⟩,
    ⟨(some 19), none, .mov (.s 9)⟩,
    ⟨(some 20), none, .iaddr 3 (.s 18) (.s 19)⟩,
    ⟨(some 21), none, .load (some 3) (.s 20)⟩,
    ⟨(some 22), none, .mov (.s 1)⟩,
    ⟨(some 23), none, .mov (.s 9)⟩,
    ⟨(some 24), none, .iaddr 2 (.s 22) (.s 23)⟩,
    ⟨(some 25), none, .load (some 2) (.s 24)⟩,
    ⟨(some 26), none, .mov (.s 2)⟩,
    ⟨(some 27), none, .mov (.s 3)⟩,
    ⟨(some 28), none, .call 193 [(.s 21), (.s 25), (.s 26), (.s 27)]⟩,
    ⟨(some 29), none, .un .not (.s 28)⟩] [[], [], [0, 1], [2], [], [], [4, 5], [6], [], [], [3, 7, 8, 9], [10]] [0, 1, 2, 3, 9, 29])
  (.cond (.s 29)
    (.seq (.reg [
      ⟨(some 30), none, .bslice 28 1 0 [.nil] []⟩,
      ⟨(some 8), none, .mov (.s 30)⟩] [8])
    (.ret))
    (.skip))))
  (.reg [
    ⟨(some 16), none, .mov (.s 9)⟩,
    ⟨(some 17), none, .bin .add (.s 16) (.c (.t (.int .i64 1)))⟩,
    ⟨(some 9), none, .mov (.s 17)⟩] [0, 1, 2, 3, 9]))

def B_spec_l9Walk_1 : MCode :=
  .seq (.seq (.reg [
    ⟨(some 41), none, .mov (.s 11)⟩,
    ⟨(some 42), none, .bin .leq (.s 41) (.c (.t (.int .i64 9)))⟩] [0, 1, 2, 3, 10, 11, 42])
  (.cond (.s 42)
    (.skip)
    (.exit 2)))
  (.seq (.block 3 (.reg [
    ⟨(some 45), none, .mov (.s 10)⟩,
    ⟨(some 46), none, .mov (.s 0)⟩,
    ⟨(some 47), none, .mov (.s 1)⟩,
    ⟨(some 48), none, .mov (.s 2)⟩,
    ⟨(some 49), none, .bslice 3 1 0 [(.int .i64 0)] []⟩,
    ⟨(some 50), none, .mov (.s 3)⟩,
    ⟨(some 51), none, .append 3 1 8 false (.s 49) (.s 50)⟩,
    ⟨(some 52), none, .mov (.s 11)⟩,
    ⟨(some 53), none, .bslice 3 1 1 [(.int .i64 0)] [(0, (.s 52))]⟩,
    ⟨(some 54), none, .append 3 1 8 true (.s 51) (.s 53)⟩,
    ⟨(some 55), none, .call 182 [(.s 46), (.s 47), (.s 48), (.s 54)]⟩,
    ⟨(some 56), none, .append 28 1 24 false (.s 45) (.s 55)⟩,
    ⟨(some 10), none, .mov (.s 56)⟩] [0, 1, 2, 3, 10, 11]))
  (.reg [
    ⟨(some 43), none, .mov (.s 11)⟩,
    ⟨(some 44), none, .bin .add (.s 43) (.c (.t (.int .i64 1)))⟩,
    ⟨(some 11), none, .mov (.s 44)⟩] [0, 1, 2, 3, 10, 11]))

def M_spec_l9Walk : MFun := ⟨4, 58, [.tmp 8],
  .seq (.reg [
    ⟨(some 8), none, .mov (.c (.t .nil))⟩] [0, 1, 2, 3])
  (.seq (.seq (.reg [
    ⟨(some 9), none, .mov (.c (.t (.int .i64 0)))⟩] [0, 1, 2, 3, 9])
  (.block 0 (.loop [0, 1, 2, 3, 9] B_spec_l9Walk_0)))
  (.seq (.seq (.reg [
    ⟨(some 31), none, .mov (.s 3)⟩,
    ⟨(some 32), none, .len false (.s 31)⟩,
    ⟨(some 33), none, .mov (.s 2)⟩,
    ⟨(some 34), none, .len false (.s 33)⟩,
    ⟨(some 35), none, .bin .eql (.s 32) (.s 34)⟩] [0, 1, 2, 3, 35])
  (.cond (.s 35)
    (.seq (.reg [
      ⟨(some 36), none, .bslice 3 1 0 [(.int .i64 0)] []⟩,
      ⟨(some 37), none, .mov (.s 3)⟩,
      ⟨(some 38), none, .append 3 1 8 false (.s 36) (.s 37)⟩,
      ⟨(some 39), none, .bslice 28 1 1 [.nil] [(0, (.s 38))]⟩,
      ⟨(some 8), none, .mov (.s 39)⟩] [8])
    (.ret))
    (.skip)))
  (.seq (.reg [
    ⟨(some 40), none, .bslice 28 1 0 [.nil] []⟩,
    ⟨(some 10), none, .mov (.s 40)⟩] [0, 1, 2, 3, 10])
  (.seq (.seq (.reg [
    ⟨(some 11), none, .mov (.c (.t (.int .i64 0)))⟩] [0, 1, 2, 3, 10, 11])
  (.block 2 (.loop [0, 1, 2, 3, 10, 11] B_spec_l9Walk_1)))
  (.seq (.reg [
    ⟨(some 57), none, .mov (.s 10)⟩,
    ⟨(some 8), none, .mov (.s 57)⟩] [8])
  (.ret))))))⟩
theorem t_spec_l9Walk : tbl 182 = some M_spec_l9Walk := tblOf_eq Try.func182 (by kernel_rfl) (by kernel_rfl)

/-- loop.example/g01921/spec.CompareRows -/
def B_spec_CompareRows_0 : MCode :=
  .seq (.seq (.reg [
    ⟨(some 6), none, .mov (.s 5)⟩,
    ⟨(some 7), none, .mov (.s 0)⟩,
    ⟨(some 8), none, .len false (.s 7)⟩,
    ⟨(some 9), none, .bin .lss (.s 6) (.s 8)⟩,
    ⟨(some 10), none, .mov (.s 9)⟩,
    ⟨(some 11), (some (10, true)), .mov (.s 5)⟩,
    ⟨(some 12), (some (10, true)), .mov (.s 1)⟩,
    ⟨(some 13), (some (10, true)), .len false (.s 12)⟩,
    ⟨(some 14), (some (10, true)), .bin .lss (.s 11) (.s 13)⟩,
    ⟨(some 15), none, .pick (.s 10) (.s 14) (.c (.t (.bool false)))⟩] [0, 1, 5, 15])
  (.cond (.s 15)
    (.skip)
    (.exit 0)))
  (.seq (.block 1 (.seq (.seq (.drw [
    ⟨(some 18), none, .mov (.s 0)⟩,
    ⟨(some 19), none, .mov (.s 5)⟩,
    ⟨(some 20), none, .iaddr 1 (.s 18) (.s 19)⟩,
    ⟨(some 21), none, .load none (.s 20)⟩,
    ⟨(some 22), none, .mov (.s 1)⟩,
    ⟨(some 23), none, .mov (.s 5)⟩,
    ⟨(some 24), none, .iaddr 1 (.s 22) (.s 23)⟩,
    ⟨(some 25), none, .load none (.s 24)⟩,
    ⟨(some 26), none, .bin .lss (.s 21) (.s 25)⟩] [[], [], [0, 1], [2], [], [], [4, 5], [6], [3, 7]] [0, 1, 5, 26])
  (.cond (.s 26)
    (.seq (.reg [
      ⟨(some 4), none, .mov (.c (.t (.int .i64 (-1))))⟩] [4])
    (.ret))
    (.skip)))
  (.seq (.drw [
    ⟨(some 27), none, .mov (.s 0)⟩,
    ⟨(some 28), none, .mov (.s 5)⟩,
    ⟨(some 29), none, .iaddr 1 (.s 27) (.s 28)⟩,
    ⟨(some 30), none, .load none (.s 29)⟩,
    ⟨(some 31), none, .mov (.s 1)⟩,
    ⟨(some 32), none, .mov (.s 5)⟩,
    ⟨(some 33), none, .iaddr 1 (.s 31) (.s 32)⟩,
    ⟨(some 34), none, .load none (.s 33)⟩,
    ⟨(some 35), none, .bin .gtr (.s 30) (.s 34)⟩] [[], [], [0, 1], [2], [], [], [4, 5], [6], [3, 7]] [0, 1, 5, 35])
  (.cond (.s 35)
    (.seq (.reg [
      ⟨(some 4), none, .mov (.c (.t (.int .i64 1)))⟩] [4])
    (.ret))
    (.skip)))))
  (.reg [
    ⟨(some 16), none, .mov (.s 5)⟩,
    ⟨(some 17), none, .bin .add (.s 16) (.c (.t (.int .i64 1)))⟩,
    ⟨(some 5), none, .mov (.s 17)⟩] [0, 1, 5]))

def M_spec_CompareRows : MFun := ⟨2, 46, [.tmp 4],
  .seq (.reg [
    ⟨(some 4), none, .mov (.c (.t (.int .i64 0)))⟩] [0, 1])
  (.seq (.seq (.reg [
    ⟨(some 5), none, .mov (.c (.t (.int .i64 0)))⟩] [0, 1, 5])
  (.block 0 (.loop [0, 1, 5] B_spec_CompareRows_0)))
  (.seq (.seq (.reg [
    ⟨(some 36), none, .mov (.s 0)⟩,
    ⟨(some 37), none, .len false (.s 36)⟩,
    ⟨(some 38), none, .mov (.s 1)⟩,
    ⟨(some 39), none, .len false (.s 38)⟩,
    ⟨(some 40), none, .bin .lss (.s 37) (.s 39)⟩] [0, 1, 40])
  (.cond (.s 40)
    (.seq (.reg [
      ⟨(some 4), none, .mov (.c (.t (.int .i64 (-1))))⟩] [4])
    (.ret))
    (.skip)))
  (.seq (.seq (.reg [
    ⟨(some 41), none, .mov (.s 0)⟩,
    ⟨(some 42), none, .len false (.s 41)⟩,
    ⟨(some 43), none, .mov (.s 1)⟩,
    ⟨(some 44), none, .len false (.s 43)⟩,
    ⟨(some 45), none, .bin .gtr (.s 42) (.s 44)⟩] [45])
  (.cond (.s 45)
    (.seq (.reg [
      ⟨(some 4), none, .mov (.c (.t (.int .i64 1)))⟩] [4])
    (.ret))
    (.skip)))
  (.seq (.reg [
    ⟨(some 4), none, .mov (.c (.t (.int .i64 0)))⟩] [4])
  (.ret)))))⟩
theorem t_spec_CompareRows : tbl 183 = some M_spec_CompareRows := tblOf_eq Try.func183 (by kernel_rfl) (by kernel_rfl)

/-- loop.example/g01921/spec.l4Cut -/
def B_spec_l4Cut_0 : MCode :=
  .seq (.seq (.reg [
    ⟨(some 9), none, .mov (.s 7)⟩,
    ⟨(some 10), none, .mov (.s 0)⟩,
    ⟨(some 11), none, .len true (.s 10)⟩,
    ⟨(some 12), none, .bin .lss (.s 9) (.s 11)⟩] [0, 1, 5, 6, 7, 12])
  (.cond (.s 12)
    (.skip)
    (.exit 0)))
  (.seq (.block 1 (.seq (.reg [
    ⟨(some 15), none, .mov (.s 0)⟩,
    ⟨(some 16), none, .mov (.s 7)⟩,
    ⟨(some 17), none, .index (.s 15) (.s 16)⟩,
    ⟨(some 18), none, .mov (.s 1)⟩,
    ⟨(some 19), none, .bin .eql (.s 17) (.s 18)⟩] [0, 1, 5, 6, 7, 19])
  (.cond (.s 19)
    (.seq (.reg [
      ⟨(some 20), none, .mov (.s 5)⟩,
      ⟨(some 21), none, .mov (.s 0)⟩,
      ⟨(some 22), none, .mov (.s 6)⟩,
      ⟨(some 23), none, .mov (.s 7)⟩,
      ⟨(some 24), none, .slice none (.s 21) (some (.s 22)) (some (.s 23))⟩,
      ⟨(some 25), none, .bslice 9 1 1 [(.str ⟨#[]⟩)] [(0, (.s 24))]⟩,
      ⟨(some 26), none, .append 9 1 16 true (.s 20) (.s 25)⟩,
      ⟨(some 5), none, .mov (.s 26)⟩] [0, 1, 5, 7])
    (.reg [
      ⟨(some 27), none, .mov (.s 7)⟩,
      ⟨(some 28), none, .bin .add (.s 27) (.c (.t (.int .i64 1)))⟩,
      ⟨(some 6), none, .mov (.s 28)⟩] [0, 1, 5, 6, 7]))
    (.skip))))
  (.reg [
    ⟨(some 13), none, .mov (.s 7)⟩,
    ⟨(some 14), none, .bin .add (.s 13) (.c (.t (.int .i64 1)))⟩,
    ⟨(some 7), none, .mov (.s 14)⟩] [0, 1, 5, 6, 7]))

def M_spec_l4Cut : MFun := ⟨2, 35, [.tmp 4],
  .seq (.reg [
    ⟨(some 4), none, .mov (.c (.t .nil))⟩] [0, 1])
  (.seq (.reg [
    ⟨(some 8), none, .bslice 9 1 0 [(.str ⟨#[]⟩)] []⟩,
    ⟨(some 5), none, .mov (.s 8)⟩] [0, 1, 5])
  (.seq (.reg [
    ⟨(some 6), none, .mov (.c (.t (.int .i64 0)))⟩] [0, 1, 5, 6])
  (.seq (.seq (.reg [
    ⟨(some 7), none, .mov (.c (.t (.int .i64 0)))⟩] [0, 1, 5, 6, 7])
  (.block 0 (.loop [0, 1, 5, 6, 7] B_spec_l4Cut_0)))
  (.seq (.reg [
    ⟨(some 29), none, .mov (.s 5)⟩,
    ⟨(some 30), none, .mov (.s 0)⟩,
    ⟨(some 31), none, .mov (.s 6)⟩,
    ⟨(some 32), none, .slice none (.s 30) (some (.s 31)) none⟩,
    ⟨(some 33), none, .bslice 9 1 1 [(.str ⟨#[]⟩)] [(0, (.s 32))]⟩,
    ⟨(some 34), none, .append 9 1 16 true (.s 29) (.s 33)⟩,
    ⟨(some 4), none, .mov (.s 34)⟩] [4])
  (.ret)))))⟩
theorem t_spec_l4Cut : tbl 184 = some M_spec_l4Cut := tblOf_eq Try.func184 (by kernel_rfl) (by kernel_rfl)

/-- loop.example/g01921/spec.VariableName -/
def M_spec_VariableName : MFun := ⟨1, 10, [.tmp 2],
  .seq (.reg [
    ⟨(some 2), none, .mov (.c (.t (.str ⟨#[]⟩)))⟩] [0])
  (.seq (.seq (.reg [
    ⟨(some 3), none, .mov (.s 0)⟩,
    ⟨(some 4), none, .call 70 [(.s 3), (.c (.t (.int .i64 0))), (.c (.t (.int .i64 3)))]⟩,
    ⟨(some 5), none, .un .not (.s 4)⟩] [0, 5])
  (.cond (.s 5)
    (.seq (.reg [
      ⟨(some 2), none, .mov (.c (.t (.str ⟨#[]⟩)))⟩] [2])
    (.ret))
    (.skip)))
  (.seq (.reg [
    ⟨(some 6), none, .mov (.s 0)⟩,
    ⟨(some 7), none, .mov (.s 0)⟩,
    ⟨(some 8), none, .bin .add (.s 7) (.c (.t (.int .i64 1)))⟩,
    ⟨(some 9), none, .slice none (.c (.t (.str ⟨#[88, 89, 90, 85]⟩))) (some (.s 6)) (some (.s 8))⟩,
    ⟨(some 2), none, .mov (.s 9)⟩] [2])
  (.ret)))⟩
theorem t_spec_VariableName : tbl 185 = some M_spec_VariableName := tblOf_eq Try.func185 (by kernel_rfl) (by kernel_rfl)

/-- loop.example/g01921/spec.FormatQuery -/
def B_spec_FormatQuery_0 : MCode :=
  .seq (.seq (.reg [
    ⟨(some 5), none, .mov (.s 4)⟩,
    ⟨(some 6), none, .faddr 1 (.s 1)⟩,
    ⟨(some 7), none, .load none (.s 6)⟩,
    ⟨(some 8), none, .len false (.s 7)⟩,
    ⟨(some 9), none, .bin .lss (.s 5) (.s 8)⟩,
    ⟨(some 10), none, .mov (.s 9)⟩,
    ⟨(some 11), (some (10, true)), .load (some 2) (.s 1)⟩,
    ⟨(some 12), (some (10, true)), .call 105 [(.s 11)]⟩,
    ⟨(some 13), none, .pick (.s 10) (.s 12) (.c (.t (.bool false)))⟩] [1, 3, 4, 13])
  (.cond (.s 13)
    (.skip)
    (.exit 0)))
  (.seq (.block 1 (.seq (.seq (.reg [
    ⟨(some 16), none, .mov (.s 4)⟩,
    ⟨(some 17), none, .bin .gtr (.s 16) (.c (.t (.int .i64 0)))⟩] [1, 3, 4, 17])
  (.cond (.s 17)
    (.reg [
      ⟨(some 18), none, .mov (.s 3)⟩,
      ⟨(some 19), none, .bin .add (.s 18) (.c (.t (.str ⟨#[32]⟩)))⟩,
      ⟨(some 3), none, .mov (.s 19)⟩] [1, 3, 4])
    (.skip)))
  (.drw [
    ⟨(some 20), none, .mov (.s 3)⟩,
    ⟨(some 21), none, .faddr 1 (.s 1)⟩,
    ⟨(some 22), none, .load none (.s 21)⟩,
    ⟨(some 23), none, .mov (.s 4)⟩,
    ⟨(some 24), none, .iaddr 2 (.s 22) (.s 23)⟩,
    ⟨(some 25), none, .faddr 0 (.s 24)⟩,
    ⟨(some 26), none, .load none (.s 25)⟩,
    ⟨(some 27), none, .bin .add (.s 20) (.s 26)⟩,
    ⟨(some 28), none, .bin .add (.s 27) (.c (.t (.str ⟨#[40]⟩)))⟩,
    ⟨(some 29), none, .faddr 1 (.s 1)⟩,
    ⟨(some 30), none, .load none (.s 29)⟩,
    ⟨(some 31), none, .mov (.s 4)⟩,
    ⟨(some 32), none, .iaddr 2 (.s 30) (.s 31)⟩,
    ⟨(some 33), none, .faddr 1 (.s 32)⟩,
    ⟨(some 34), none, .load none (.s 33)⟩,
    ⟨(some 35), none, .call 194 [(.s 34)]⟩,
    ⟨(some 36), none, .bin .add (.s 28) (.s 35)⟩,
    ⟨(some 37), none, .bin .add (.s 36) (.c (.t (.str ⟨#[41]⟩)))⟩,
    ⟨(some 3), none, .mov (.s 37)⟩] [[], [], [1], [], [2, 3], [4], [5], [0, 6], [7], [], [9], [], [10, 11], [12], [13], [14], [8, 15], [16], [17, 15, 0, 1, 2, 3, 4, 5, 6, 7, 8, 9, 10, 11, 12, 13, 14, 15, 16, 17]] [1, 3, 4])))
  (.reg [
    ⟨(some 14), none, .mov (.s 4)⟩,
    ⟨(some 15), none, .bin .add (.s 14) (.c (.t (.int .i64 1)))⟩,
    ⟨(some 4), none, .mov (.s 15)⟩] [1, 3, 4]))

def M_spec_FormatQuery : MFun := ⟨1, 39, [.tmp 2],
  .seq (.reg [
    ⟨(some 1), none, .box (.s 0)⟩,
    ⟨(some 2), none, .mov (.c (.t (.str ⟨#[]⟩)))⟩] [1])
  (.seq (.reg [
    ⟨(some 3), none, .mov (.c (.t (.str ⟨#[]⟩)))⟩] [1, 3])
  (.seq (.seq (.reg [
    ⟨(some 4), none, .mov (.c (.t (.int .i64 0)))⟩] [1, 3, 4])
  (.block 0 (.loop [1, 3, 4] B_spec_FormatQuery_0)))
  (.seq (.reg [
    ⟨(some 38), none, .mov (.s 3)⟩,
    ⟨(some 2), none, .mov (.s 38)⟩] [2])
  (.ret))))⟩
theorem t_spec_FormatQuery : tbl 186 = some M_spec_FormatQuery := tblOf_eq Try.func186 (by kernel_rfl) (by kernel_rfl)

/-- loop.example/g01921/spec.IsConnected -/
def M_spec_IsConnected : MFun := ⟨2, 17, [.tmp 4],
  .seq (.reg [
    ⟨(some 2), none, .box (.s 0)⟩,
    ⟨(some 4), none, .mov (.c (.t (.bool false)))⟩] [1, 2])
  (.seq (.reg [
    ⟨(some 5), none, .load (some 2) (.s 2)⟩,
    ⟨(some 6), none, .mov (.s 1)⟩,
    ⟨(some 7), none, .call 191 [(.s 5), (.s 6)]⟩,
    ⟨(some 8), none, .mov (.s 7)⟩,
    ⟨(some 9), (some (8, true)), .mov (.s 1)⟩,
    ⟨(some 10), (some (8, true)), .bin .gtr (.s 9) (.c (.t (.int .i64 0)))⟩,
    ⟨(some 11), none, .pick (.s 8) (.s 10) (.c (.t (.bool false)))⟩,
    ⟨(some 12), none, .mov (.s 11)⟩,
    ⟨(some 13), (some (12, true)), .load (some 2) (.s 2)⟩,
    ⟨(some 14), (some (12, true)), .mov (.s 1)⟩,
    ⟨(some 15), (some (12, true)), .call 188 [(.s 13), (.s 14)]⟩,
    ⟨(some 16), none, .pick (.s 12) (.s 15) (.c (.t (.bool false)))⟩,
    ⟨(some 4), none, .mov (.s 16)⟩] [4])
  (.ret))⟩
theorem t_spec_IsConnected : tbl 187 = some M_spec_IsConnected := tblOf_eq Try.func187 (by kernel_rfl) (by kernel_rfl)

/-- loop.example/g01921/spec.l8Joined -/
def B_spec_l8Joined_0 : MCode :=
  .seq (.seq (.reg [
    ⟨(some 11), none, .mov (.s 6)⟩,
    ⟨(some 12), none, .faddr 1 (.s 2)⟩,
    ⟨(some 13), none, .load none (.s 12)⟩,
    ⟨(some 14), none, .len false (.s 13)⟩,
    ⟨(some 15), none, .bin .lss (.s 11) (.s 14)⟩] [1, 2, 5, 6, 15])
  (.cond (.s 15)
    (.skip)
    (.exit 0)))
  (.seq (.block 1 (.reg [
    ⟨(some 18), none, .mov (.s 5)⟩,
    ⟨(some 19), none, .load (some 2) (.s 2)⟩,
    ⟨(some 20), none, .mov (.s 5)⟩,
    ⟨(some 21), none, .call 195 [(.s 19), (.s 20)]⟩,
    ⟨(some 22), none, .mov (.s 1)⟩,
    ⟨(some 23), none, .bin .and (.s 21) (.s 22)⟩,
    ⟨(some 24), none, .bin .or (.s 18) (.s 23)⟩,
    ⟨(some 5), none, .mov (.s 24)⟩] [1, 2, 5, 6]))
  (.reg [
    ⟨(some 16), none, .mov (.s 6)⟩,
    ⟨(some 17), none, .bin .add (.s 16) (.c (.t (.int .i64 1)))⟩,
    ⟨(some 6), none, .mov (.s 17)⟩] [1, 2, 5, 6]))

def M_spec_l8Joined : MFun := ⟨2, 28, [.tmp 4],
  .seq (.reg [
    ⟨(some 2), none, .box (.s 0)⟩,
    ⟨(some 4), none, .mov (.c (.t (.bool false)))⟩] [1, 2])
  (.seq (.reg [
    ⟨(some 7), none, .mov (.s 1)⟩,
    ⟨(some 8), none, .mov (.s 1)⟩,
    ⟨(some 9), none, .un .neg (.s 8)⟩,
    ⟨(some 10), none, .bin .and (.s 7) (.s 9)⟩,
    ⟨(some 5), none, .mov (.s 10)⟩] [1, 2, 5])
  (.seq (.seq (.reg [
    ⟨(some 6), none, .mov (.c (.t (.int .i64 0)))⟩] [1, 2, 5, 6])
  (.block 0 (.loop [1, 2, 5, 6] B_spec_l8Joined_0)))
  (.seq (.reg [
    ⟨(some 25), none, .mov (.s 5)⟩,
    ⟨(some 26), none, .mov (.s 1)⟩,
    ⟨(some 27), none, .bin .eql (.s 25) (.s 26)⟩,
    ⟨(some 4), none, .mov (.s 27)⟩] [4])
  (.ret))))⟩
theorem t_spec_l8Joined : tbl 188 = some M_spec_l8Joined := tblOf_eq Try.func188 (by kernel_rfl) (by kernel_rfl)

/-- loop.example/g01921/spec.IsValidDatabase -/
def B_spec_IsValidDatabase_0 : MCode :=
  .seq (.seq (.reg [
    ⟨(some 4), none, .mov (.s 3)⟩,
    ⟨(some 5), none, .faddr 0 (.s 1)⟩,
    ⟨(some 6), none, .load none (.s 5)⟩,
    ⟨(some 7), none, .len false (.s 6)⟩,
    ⟨(some 8), none, .bin .lss (.s 4) (.s 7)⟩] [1, 3, 8])
  (.cond (.s 8)
    (.skip)
    (.exit 0)))
  (.seq (.block 1 (.seq (.drw [
    ⟨(some 11), none, .faddr 0 (.s 1)⟩,
    ⟨(some 12), none, .load none (.s 11)⟩,
    ⟨(some 13), none, .mov (.s 3)⟩,
    ⟨(some 14), none, .iaddr 3 (.s 12) (.s 13)⟩,
    ⟨(some 15), none, .load (some 3) (.s 14)⟩,
    ⟨(some 16), none, .call 196 [(.s 15)]⟩,
    ⟨(some 17), none, .un .not (.s 16)⟩,
    ⟨(some 18), none, .mov (.s 17)⟩,
    ⟨(some 19), (some (18, false)), .mov (.s 3)⟩,
    ⟨(some 20), (some (18, false)), .bin .gtr (.s 19) (.c (.t (.int .i64 0)))⟩,
    ⟨(some 21), (some (18, false)), .mov (.s 20)⟩,
    ⟨(some 22), (some (21, true)), .faddr 0 (.s 1)⟩,
    ⟨(some 23), (some (21, true)), .load none (.s 22)⟩,
    ⟨(some 24), (some (21, true)), .mov (.s 3)⟩,
    ⟨(some 25), (some (21, true)), .bin .sub (.s 24) (.c (.t (.int .i64 1)))⟩,
    ⟨(some 26), (some (21, true)), .iaddr 3 (.s 23) (.s 25)⟩,
    ⟨(some 27), (some (21, true)), .faddr 0 (.s 26)⟩,
    ⟨(some 28), (some (21, true)), .load none (.s 27)⟩,
    ⟨(some 29), (some (21, true)), .faddr 0 (.s 1)⟩,
    ⟨(some 30), (some (21, true)), .load none (.s 29)⟩,
    ⟨(some 31), (some (21, true)), .mov (.s 3)⟩,
    ⟨(some 32), (some (21, true)), .iaddr 3 (.s 30) (.s 31)⟩,
    ⟨(some 33), (some (21, true)), .faddr 0 (.s 32)⟩,
    ⟨(some 34), (some (21, true)), .load none (.s 33)⟩,
    ⟨(some 35), (some (21, true)), .bin .geq (.s 28) (.s 34)⟩,
    ⟨(some 36), (some (18, false)), .pick (.s 21) (.s 35) (.c (.t (.bool false)))⟩,
    ⟨(some 37), none, .pick (.s 18) (.c (.t (.bool true))) (.s 36)⟩] [[], [0], [], [1, 2], [3], [4], [5], [6, 5], [7], [8, 7], [9, 7, 7], [10], [11, 10], [10], [13, 10], [12, 14, 10], [15, 10], [16, 10], [10], [18, 10], [10], [19, 20, 10], [21, 10], [22, 10], [17, 23, 10], [10, 24, 7], [7, 25]] [1, 3, 37])
  (.cond (.s 37)
    (.seq (.reg [
      ⟨(some 2), none, .mov (.c (.t (.bool false)))⟩] [2])
    (.ret))
    (.skip))))
  (.reg [
    ⟨(some 9), none, .mov (.s 3)⟩,
    ⟨(some 10), none, .bin .add (.s 9) (.c (.t (.int .i64 1)))⟩,
    ⟨(some 3), none, .mov (.s 10)⟩] [1, 3]))

def M_spec_IsValidDatabase : MFun := ⟨1, 42, [.tmp 2],
  .seq (.reg [
    ⟨(some 1), none, .box (.s 0)⟩,
    ⟨(some 2), none, .mov (.c (.t (.bool false)))⟩] [1])
  (.seq (.seq (.reg [
    ⟨(some 3), none, .mov (.c (.t (.int .i64 0)))⟩] [1, 3])
  (.block 0 (.loop [1, 3] B_spec_IsValidDatabase_0)))
  (.seq (.reg [
    ⟨(some 38), none, .faddr 0 (.s 1)⟩,
    ⟨(some 39), none, .load none (.s 38)⟩,
    ⟨(some 40), none, .len false (.s 39)⟩,
    ⟨(some 41), none, .bin .leq (.s 40) (.c (.t (.int .i64 6)))⟩,
    ⟨(some 2), none, .mov (.s 41)⟩] [2])
  (.ret)))⟩
theorem t_spec_IsValidDatabase : tbl 189 = some M_spec_IsValidDatabase := tblOf_eq Try.func189 (by kernel_rfl) (by kernel_rfl)

/-- loop.example/g01921/spec.l4Copy -/
def B_spec_l4Copy_0 : MCode :=
  .seq (.seq (.reg [
    ⟨(some 10), none, .mov (.s 4)⟩,
    ⟨(some 11), none, .faddr 2 (.s 1)⟩,
    ⟨(some 12), none, .load none (.s 11)⟩,
    ⟨(some 13), none, .len false (.s 12)⟩,
    ⟨(some 14), none, .bin .lss (.s 10) (.s 13)⟩] [1, 2, 3, 4, 14])
  (.cond (.s 14)
    (.skip)
    (.exit 0)))
  (.seq (.block 1 (.drw [
    ⟨(some 17), none, .faddr 2 (.s 3)⟩,
    ⟨(some 18), none, .load none (.s 17)⟩,
    ⟨(some 19), none, .bslice 3 1 0 [(.int .i64 0)] []⟩,
    ⟨(some 20), none, .faddr 2 (.s 1)⟩,
    ⟨(some 21), none, .load none (.s 20)⟩,
    ⟨(some 22), none, .mov (.s 4)⟩,
    ⟨(some 23), none, .iaddr 1 (.s 21) (.s 22)⟩,
    ⟨(some 24), none, .load none (.s 23)⟩,
    ⟨(some 25), none, .append 3 1 8 false (.s 19) (.s 24)⟩,
    ⟨(some 26), none, .bslice 28 1 1 [.nil] [(0, (.s 25))]⟩,
    ⟨(some 27), none, .append 28 1 24 true (.s 18) (.s 26)⟩,
    ⟨(some 28), none, .faddr 2 (.s 3)⟩,
    ⟨none, none, .store 1 (.s 28) (.s 27)⟩] [[], [0], [], [], [3], [], [4, 5], [6], [2, 7], [8], [1, 9, 8], [0, 1, 2, 3, 4, 5, 6, 7, 8, 9, 10], [11, 10, 10, 0, 1, 2, 3, 4, 5, 6, 7, 8, 9, 10]] [1, 2, 3, 4]))
  (.reg [
    ⟨(some 15), none, .mov (.s 4)⟩,
    ⟨(some 16), none, .bin .add (.s 15) (.c (.t (.int .i64 1)))⟩,
    ⟨(some 4), none, .mov (.s 16)⟩] [1, 2, 3, 4]))

def M_spec_l4Copy : MFun := ⟨1, 30, [.cell 2 (some 3)],
  .seq (.reg [
    ⟨(some 1), none, .box (.s 0)⟩,
    ⟨(some 2), none, .alloc [(.t (.str ⟨#[]⟩)), (.t (.int .i64 0)), (.t .nil)]⟩] [1, 2])
  (.seq (.reg [
    ⟨(some 5), none, .faddr 0 (.s 1)⟩,
    ⟨(some 6), none, .load none (.s 5)⟩,
    ⟨(some 7), none, .faddr 1 (.s 1)⟩,
    ⟨(some 8), none, .load none (.s 7)⟩,
    ⟨(some 9), none, .build [(.t (.str ⟨#[]⟩)), (.t (.int .i64 0)), (.t .nil)] [(0, 1, (.s 6)), (1, 1, (.s 8))]⟩,
    ⟨(some 3), none, .alloc [(.t (.str ⟨#[]⟩)), (.t (.int .i64 0)), (.t .nil)]⟩,
    ⟨none, none, .store 3 (.s 3) (.s 9)⟩] [1, 2, 3])
  (.seq (.seq (.reg [
    ⟨(some 4), none, .mov (.c (.t (.int .i64 0)))⟩] [1, 2, 3, 4])
  (.block 0 (.loop [1, 2, 3, 4] B_spec_l4Copy_0)))
  (.seq (.reg [
    ⟨(some 29), none, .load (some 3) (.s 3)⟩,
    ⟨none, none, .store 3 (.s 2) (.s 29)⟩] [2])
  (.ret))))⟩
theorem t_spec_l4Copy : tbl 190 = some M_spec_l4Copy := tblOf_eq Try.func190 (by kernel_rfl) (by kernel_rfl)

/-- loop.example/g01921/spec.l7Mask -/
def M_spec_l7Mask : MFun := ⟨2, 16, [.tmp 4],
  .seq (.reg [
    ⟨(some 2), none, .box (.s 0)⟩,
    ⟨(some 4), none, .mov (.c (.t (.bool false)))⟩] [1, 2])
  (.seq (.reg [
    ⟨(some 5), none, .load (some 2) (.s 2)⟩,
    ⟨(some 6), none, .call 105 [(.s 5)]⟩,
    ⟨(some 7), none, .mov (.s 6)⟩,
    ⟨(some 8), (some (7, true)), .mov (.s 1)⟩,
    ⟨(some 9), (some (7, true)), .faddr 1 (.s 2)⟩,
    ⟨(some 10), (some (7, true)), .load none (.s 9)⟩,
    ⟨(some 11), (some (7, true)), .len false (.s 10)⟩,
    ⟨(some 12), (some (7, true)), .bin .shl (.c (.t (.int .i64 1))) (.s 11)⟩,
    ⟨(some 13), (some (7, true)), .bin .sub (.s 12) (.c (.t (.int .i64 1)))⟩,
    ⟨(some 14), (some (7, true)), .call 70 [(.s 8), (.c (.t (.int .i64 0))), (.s 13)]⟩,
    ⟨(some 15), none, .pick (.s 7) (.s 14) (.c (.t (.bool false)))⟩,
    ⟨(some 4), none, .mov (.s 15)⟩] [4])
  (.ret))⟩
theorem t_spec_l7Mask : tbl 191 = some M_spec_l7Mask := tblOf_eq Try.func191 (by kernel_rfl) (by kernel_rfl)

/-- loop.example/g01921/spec.l7List -/
def B_spec_l7List_0 : MCode :=
  .seq (.seq (.reg [
    ⟨(some 6), none, .mov (.s 4)⟩,
    ⟨(some 7), none, .bin .lss (.s 6) (.c (.t (.int .i64 4)))⟩] [0, 3, 4, 7])
  (.cond (.s 7)
    (.skip)
    (.exit 0)))
  (.seq (.block 1 (.seq (.reg [
    ⟨(some 10), none, .mov (.s 0)⟩,
    ⟨(some 11), none, .mov (.s 4)⟩,
    ⟨(some 12), none, .bin .shr (.s 10) (.s 11)⟩,
    ⟨(some 13), none, .bin .and (.s 12) (.c (.t (.int .i64 1)))⟩,
    ⟨(some 14), none, .bin .eql (.s 13) (.c (.t (.int .i64 1)))⟩] [0, 3, 4, 14])
  (.cond (.s 14)
    (.reg [
      ⟨(some 15), none, .mov (.s 3)⟩,
      ⟨(some 16), none, .mov (.s 4)⟩,
      ⟨(some 17), none, .bslice 3 1 1 [(.int .i64 0)] [(0, (.s 16))]⟩,
      ⟨(some 18), none, .append 3 1 8 true (.s 15) (.s 17)⟩,
      ⟨(some 3), none, .mov (.s 18)⟩] [0, 3, 4])
    (.skip))))
  (.reg [
    ⟨(some 8), none, .mov (.s 4)⟩,
    ⟨(some 9), none, .bin .add (.s 8) (.c (.t (.int .i64 1)))⟩,
    ⟨(some 4), none, .mov (.s 9)⟩] [0, 3, 4]))

def M_spec_l7List : MFun := ⟨1, 20, [.tmp 2],
  .seq (.reg [
    ⟨(some 2), none, .mov (.c (.t .nil))⟩] [0])
  (.seq (.reg [
    ⟨(some 5), none, .bslice 3 1 0 [(.int .i64 0)] []⟩,
    ⟨(some 3), none, .mov (.s 5)⟩] [0, 3])
  (.seq (.seq (.reg [
    ⟨(some 4), none, .mov (.c (.t (.int .i64 0)))⟩] [0, 3, 4])
  (.block 0 (.loop [0, 3, 4] B_spec_l7List_0)))
  (.seq (.reg [
    ⟨(some 19), none, .mov (.s 3)⟩,
    ⟨(some 2), none, .mov (.s 19)⟩] [2])
  (.ret))))⟩
theorem t_spec_l7List : tbl 192 = some M_spec_l7List := tblOf_eq Try.func192 (by kernel_rfl) (by kernel_rfl)

/-- loop.example/g01921/spec.l9Fits -/
def B_spec_l9Fits_0 : MCode :=
  .seq (.seq (.reg [
    ⟨(some 27), none, .mov (.s 12)⟩,
    ⟨(some 28), none, .mov (.s 3)⟩,
    ⟨(some 29), none, .len false (.s 28)⟩,
    ⟨(some 30), none, .bin .lss (.s 27) (.s 29)⟩] [2, 3, 4, 5, 9, 10, 11, 12, 30])
  (.cond (.s 30)
    (.skip)
    (.exit 4)))
  (.seq (.block 5 (.drw [
    ⟨(some 33), none, .mov (.s 10)⟩,
    ⟨(some 34), none, .mov (.s 33)⟩,
    ⟨(some 35), (some (34, true)), .mov (.s 2)⟩,
    ⟨(some 36), (some (34, true)), .mov (.s 12)⟩,
    ⟨(some 37), (some (34, true)), .iaddr 1 (.s 35) (.s 36)⟩,
    ⟨(some 38), (some (34, true)), .load none (.s 37)⟩,
    ⟨(some 39), (some (34, true)), .faddr 1 (.s 5)⟩,
    ⟨(some 40), (some (34, true)), .load none (.s 39)⟩,
    ⟨(some 41), (some (34, true)), .mov (.s 11)⟩,
    ⟨(some 42), (some (34, true)), .iaddr 1 (.s 40) (.s 41)⟩,
    ⟨(some 43), (some (34, true)), .load none (.s 42)⟩,
    ⟨(some 44), (some (34, true)), .bin .neq (.s 38) (.s 43)⟩,
    ⟨(some 45), (some (34, true)), .mov (.s 44)⟩,
    ⟨(some 46), (some (45, false)), .mov (.s 3)⟩,
    ⟨(some 47), (some (45, false)), .mov (.s 12)⟩,
    ⟨(some 48), (some (45, false)), .iaddr 1 (.s 46) (.s 47)⟩,
    ⟨(some 49), (some (45, false)), .load none (.s 48)⟩,
    ⟨(some 50), (some (45, false)), .faddr 2 (.s 4)⟩,
    ⟨(some 51), (some (45, false)), .load none (.s 50)⟩,
    ⟨(some 52), (some (45, false)), .mov (.s 9)⟩,
    ⟨(some 53), (some (45, false)), .iaddr 1 (.s 51) (.s 52)⟩,
    ⟨(some 54), (some (45, false)), .load none (.s 53)⟩,
    ⟨(some 55), (some (45, false)), .mov (.s 11)⟩,
    ⟨(some 56), (some (45, false)), .iaddr 1 (.s 54) (.s 55)⟩,
    ⟨(some 57), (some (45, false)), .load none (.s 56)⟩,
    ⟨(some 58), (some (45, false)), .bin .eql (.s 49) (.s 57)⟩,
    ⟨(some 59), (some (34, true)), .pick (.s 45) (.c (.t (.bool true))) (.s 58)⟩,
    ⟨(some 60), none, .pick (.s 34) (.s 59) (.c (.t (.bool false)))⟩,
    ⟨(some 10), none, .mov (.s 60)⟩] [[], [0], [1], [1], [2, 3, 1], [4, 1], [1], [6, 1], [1], [7, 8, 1], [9, 1], [5, 10, 1], [11, 1, 1], [12], [12], [13, 14, 12], [15, 12], [12], [17, 12], [12], [18, 19, 12], [20, 12], [12], [21, 22, 12], [23, 12], [16, 24, 12], [12, 25, 1], [1, 26], [27, 12, 0, 1, 2, 3, 4, 5, 6, 7, 8, 9, 10, 11, 12, 13, 14, 15, 16, 17, 18, 19, 20, 21, 22, 23, 24, 25, 26, 27]] [2, 3, 4, 5, 9, 10, 11, 12]))
  (.reg [
    ⟨(some 31), none, .mov (.s 12)⟩,
    ⟨(some 32), none, .bin .add (.s 31) (.c (.t (.int .i64 1)))⟩,
    ⟨(some 12), none, .mov (.s 32)⟩] [2, 3, 4, 5, 9, 10, 11, 12]))

def B_spec_l9Fits_1 : MCode :=
  .seq (.seq (.reg [
    ⟨(some 20), none, .mov (.s 11)⟩,
    ⟨(some 21), none, .faddr 1 (.s 5)⟩,
    ⟨(some 22), none, .load none (.s 21)⟩,
    ⟨(some 23), none, .len false (.s 22)⟩,
    ⟨(some 24), none, .bin .lss (.s 20) (.s 23)⟩] [2, 3, 4, 5, 9, 10, 11, 24])
  (.cond (.s 24)
    (.skip)
    (.exit 2)))
  (.seq (.block 3 (.seq (.reg [
    ⟨(some 12), none, .mov (.c (.t (.int .i64 0)))⟩] [2, 3, 4, 5, 9, 10, 11, 12])
  (.block 4 (.loop [2, 3, 4, 5, 9, 10, 11, 12] B_spec_l9Fits_0))))
  (.reg [
    ⟨(some 25), none, .mov (.s 11)⟩,
    ⟨(some 26), none, .bin .add (.s 25) (.c (.t (.int .i64 1)))⟩,
    ⟨(some 11), none, .mov (.s 26)⟩] [2, 3, 4, 5, 9, 10, 11]))

def B_spec_l9Fits_2 : MCode :=
  .seq (.seq (.reg [
    ⟨(some 13), none, .mov (.s 9)⟩,
    ⟨(some 14), none, .faddr 2 (.s 4)⟩,
    ⟨(some 15), none, .load none (.s 14)⟩,
    ⟨(some 16), none, .len false (.s 15)⟩,
    ⟨(some 17), none, .bin .lss (.s 13) (.s 16)⟩] [2, 3, 4, 5, 9, 17])
  (.cond (.s 17)
    (.skip)
    (.exit 0)))
  (.seq (.block 1 (.seq (.reg [
    ⟨(some 10), none, .mov (.c (.t (.bool true)))⟩] [2, 3, 4, 5, 9, 10])
  (.seq (.seq (.reg [
    ⟨(some 11), none, .mov (.c (.t (.int .i64 0)))⟩] [2, 3, 4, 5, 9, 10, 11])
  (.block 2 (.loop [2, 3, 4, 5, 9, 10, 11] B_spec_l9Fits_1)))
  (.seq (.reg [
    ⟨(some 61), none, .mov (.s 10)⟩] [2, 3, 4, 5, 9, 61])
  (.cond (.s 61)
    (.seq (.reg [
      ⟨(some 8), none, .mov (.c (.t (.bool true)))⟩] [8])
    (.ret))
    (.skip))))))
  (.reg [
    ⟨(some 18), none, .mov (.s 9)⟩,
    ⟨(some 19), none, .bin .add (.s 18) (.c (.t (.int .i64 1)))⟩,
    ⟨(some 9), none, .mov (.s 19)⟩] [2, 3, 4, 5, 9]))

def M_spec_l9Fits : MFun := ⟨4, 62, [.tmp 8],
  .seq (.reg [
    ⟨(some 4), none, .box (.s 0)⟩,
    ⟨(some 5), none, .box (.s 1)⟩,
    ⟨(some 8), none, .mov (.c (.t (.bool false)))⟩] [2, 3, 4, 5])
  (.seq (.seq (.reg [
    ⟨(some 9), none, .mov (.c (.t (.int .i64 0)))⟩] [2, 3, 4, 5, 9])
  (.block 0 (.loop [2, 3, 4, 5, 9] B_spec_l9Fits_2)))
  (.seq (.reg [
    ⟨(some 8), none, .mov (.c (.t (.bool false)))⟩] [8])
  (.ret)))⟩
theorem t_spec_l9Fits : tbl 193 = some M_spec_l9Fits := tblOf_eq Try.func193 (by kernel_rfl) (by kernel_rfl)

/-- loop.example/g01921/spec.l7Names -/
def B_spec_l7Names_0 : MCode :=
  .seq (.seq (.reg [
    ⟨(some 5), none, .mov (.s 4)⟩,
    ⟨(some 6), none, .mov (.s 0)⟩,
    ⟨(some 7), none, .len false (.s 6)⟩,
    ⟨(some 8), none, .bin .lss (.s 5) (.s 7)⟩] [0, 3, 4, 8])
  (.cond (.s 8)
    (.skip)
    (.exit 0)))
  (.seq (.block 1 (.reg [
    ⟨(some 11), none, .mov (.s 3)⟩,
    ⟨(some 12), none, .mov (.s 0)⟩,
    ⟨(some 13), none, .mov (.s 4)⟩,
    ⟨(some 14), none, .iaddr 1 (.s 12) (.s 13)⟩,
    ⟨(some 15), none, .load none (.s 14)⟩,
    ⟨(some 16), none, .call 185 [(.s 15)]⟩,
    ⟨(some 17), none, .bin .add (.s 11) (.s 16)⟩,
    ⟨(some 3), none, .mov (.s 17)⟩] [0, 3, 4]))
  (.reg [
    ⟨(some 9), none, .mov (.s 4)⟩,
    ⟨(some 10), none, .bin .add (.s 9) (.c (.t (.int .i64 1)))⟩,
    ⟨(some 4), none, .mov (.s 10)⟩] [0, 3, 4]))

def M_spec_l7Names : MFun := ⟨1, 19, [.tmp 2],
  .seq (.reg [
    ⟨(some 2), none, .mov (.c (.t (.str ⟨#[]⟩)))⟩] [0])
  (.seq (.reg [
    ⟨(some 3), none, .mov (.c (.t (.str ⟨#[]⟩)))⟩] [0, 3])
  (.seq (.seq (.reg [
    ⟨(some 4), none, .mov (.c (.t (.int .i64 0)))⟩] [0, 3, 4])
  (.block 0 (.loop [0, 3, 4] B_spec_l7Names_0)))
  (.seq (.reg [
    ⟨(some 18), none, .mov (.s 3)⟩,
    ⟨(some 2), none, .mov (.s 18)⟩] [2])
  (.ret))))⟩
theorem t_spec_l7Names : tbl 194 = some M_spec_l7Names := tblOf_eq Try.func194 (by kernel_rfl) (by kernel_rfl)

/-- loop.example/g01921/spec.l8Near -/
def B_spec_l8Near_0 : MCode :=
  .seq (.seq (.reg [
    ⟨(some 11), none, .mov (.s 7)⟩,
    ⟨(some 12), none, .faddr 1 (.s 2)⟩,
    ⟨(some 13), none, .load none (.s 12)⟩,
    ⟨(some 14), none, .len false (.s 13)⟩,
    ⟨(some 15), none, .bin .lss (.s 11) (.s 14)⟩] [1, 2, 5, 6, 7, 15])
  (.cond (.s 15)
    (.skip)
    (.exit 0)))
  (.seq (.block 1 (.seq (.drw [
    ⟨(some 18), none, .mov (.s 1)⟩,
    ⟨(some 19), none, .mov (.s 7)⟩,
    ⟨(some 20), none, .bin .shr (.s 18) (.s 19)⟩,
    ⟨(some 21), none, .bin .and (.s 20) (.c (.t (.int .i64 1)))⟩,
    ⟨(some 22), none, .bin .eql (.s 21) (.c (.t (.int .i64 0)))⟩,
    ⟨(some 23), none, .mov (.s 22)⟩,
    ⟨(some 24), (some (23, true)), .load (some 2) (.s 2)⟩,
    ⟨(some 25), (some (23, true)), .mov (.s 7)⟩,
    ⟨(some 26), (some (23, true)), .bin .shl (.c (.t (.int .i64 1))) (.s 25)⟩,
    ⟨(some 27), (some (23, true)), .call 147 [(.s 24), (.s 26)]⟩,
    ⟨(some 28), (some (23, true)), .mov (.s 6)⟩,
    ⟨(some 29), (some (23, true)), .bin .and (.s 27) (.s 28)⟩,
    ⟨(some 30), (some (23, true)), .bin .neq (.s 29) (.c (.t (.int .i64 0)))⟩,
    ⟨(some 31), none, .pick (.s 23) (.s 30) (.c (.t (.bool false)))⟩] [[], [], [0, 1], [2], [3], [4], [5], [5], [7, 5], [6, 8, 5, 5], [5], [9, 10, 5], [11, 5], [5, 12]] [1, 2, 5, 6, 7, 31])
  (.cond (.s 31)
    (.reg [
      ⟨(some 32), none, .mov (.s 5)⟩,
      ⟨(some 33), none, .mov (.s 7)⟩,
      ⟨(some 34), none, .bin .shl (.c (.t (.int .i64 1))) (.s 33)⟩,
      ⟨(some 35), none, .bin .or (.s 32) (.s 34)⟩,
      ⟨(some 5), none, .mov (.s 35)⟩] [1, 2, 5, 6, 7])
    (.skip))))
  (.reg [
    ⟨(some 16), none, .mov (.s 7)⟩,
    ⟨(some 17), none, .bin .add (.s 16) (.c (.t (.int .i64 1)))⟩,
    ⟨(some 7), none, .mov (.s 17)⟩] [1, 2, 5, 6, 7]))

def M_spec_l8Near : MFun := ⟨2, 37, [.tmp 4],
  .seq (.reg [
    ⟨(some 2), none, .box (.s 0)⟩,
    ⟨(some 4), none, .mov (.c (.t (.int .i64 0)))⟩] [1, 2])
  (.seq (.reg [
    ⟨(some 5), none, .mov (.c (.t (.int .i64 0)))⟩] [1, 2, 5])
  (.seq (.reg [
    ⟨(some 8), none, .load (some 2) (.s 2)⟩,
    ⟨(some 9), none, .mov (.s 1)⟩,
    ⟨(some 10), none, .call 147 [(.s 8), (.s 9)]⟩,
    ⟨(some 6), none, .mov (.s 10)⟩] [1, 2, 5, 6])
  (.seq (.seq (.reg [
    ⟨(some 7), none, .mov (.c (.t (.int .i64 0)))⟩] [1, 2, 5, 6, 7])
  (.block 0 (.loop [1, 2, 5, 6, 7] B_spec_l8Near_0)))
  (.seq (.reg [
    ⟨(some 36), none, .mov (.s 5)⟩,
    ⟨(some 4), none, .mov (.s 36)⟩] [4])
  (.ret)))))⟩
theorem t_spec_l8Near : tbl 195 = some M_spec_l8Near := tblOf_eq Try.func195 (by kernel_rfl) (by kernel_rfl)

/-- loop.example/g01921/spec.IsValidTable -/
def B_spec_IsValidTable_0 : MCode :=
  .seq (.seq (.reg [
    ⟨(some 20), none, .mov (.s 3)⟩,
    ⟨(some 21), none, .faddr 2 (.s 1)⟩,
    ⟨(some 22), none, .load none (.s 21)⟩,
    ⟨(some 23), none, .len false (.s 22)⟩,
    ⟨(some 24), none, .bin .lss (.s 20) (.s 23)⟩] [1, 3, 24])
  (.cond (.s 24)
    (.skip)
    (.exit 0)))
  (.seq (.block 1 (.seq (.drw [
    ⟨(some 27), none, .faddr 2 (.s 1)⟩,
    ⟨(some 28), none, .load none (.s 27)⟩,
    ⟨(some 29), none, .mov (.s 3)⟩,
    ⟨(some 30), none, .iaddr 1 (.s 28) (.s 29)⟩,
    ⟨(some 31), none, .load none (.s 30)⟩,
    ⟨(some 32), none, .faddr 1 (.s 1)⟩,
    ⟨(some 33), none, .load none (.s 32)⟩,
    ⟨(some 34), none, .call 197 [(.s 31), (.s 33)]⟩,
    ⟨(some 35), none, .un .not (.s 34)⟩,
    ⟨(some 36), none, .mov (.s 35)⟩,
    ⟨(some 37), (some (36, false)), .mov (.s 3)⟩,
    ⟨(some 38), (some (36, false)), .bin .gtr (.s 37) (.c (.t (.int .i64 0)))⟩,
    ⟨(some 39), (some (36, false)), .mov (.s 38)⟩,
    ⟨(some 40), (some (39, true)), .faddr 2 (.s 1)⟩,
    ⟨(some 41), (some (39, true)), .load none (.s 40)⟩,
    ⟨(some 42), (some (39, true)), .mov (.s 3)⟩,
    ⟨(some 43), (some (39, true)), .bin .sub (.s 42) (.c (.t (.int .i64 1)))⟩,
    ⟨(some 44), (some (39, true)), .iaddr 1 (.s 41) (.s 43)⟩,
    ⟨(some 45), (some (39, true)), .load none (.s 44)⟩,
    ⟨(some 46), (some (39, true)), .faddr 2 (.s 1)⟩,
    ⟨(some 47), (some (39, true)), .load none (.s 46)⟩,
    ⟨(some 48), (some (39, true)), .mov (.s 3)⟩,
    ⟨(some 49), (some (39, true)), .iaddr 1 (.s 47) (.s 48)⟩,
    ⟨(some 50), (some (39, true)), .load none (.s 49)⟩,
    ⟨(some 51), (some (39, true)), .call 183 [(.s 45), (.s 50)]⟩,
    ⟨(some 52), (some (39, true)), .bin .geq (.s 51) (.c (.t (.int .i64 0)))⟩,
    ⟨(some 53), (some (36, false)), .pick (.s 39) (.s 52) (.c (.t (.bool false)))⟩,
    ⟨(some 54), none, .pick (.s 36) (.c (.t (.bool true))) (.s 53)⟩] [[], [0], [], [1, 2], [3], [], [5], [4, 6], [7], [8, 7], [9], [10, 9], [11, 9, 9], [12], [13, 12], [12], [15, 12], [14, 16, 12], [17, 12], [12], [19, 12], [12], [20, 21, 12], [22, 12], [18, 23, 12, 12], [24, 12], [12, 25, 9], [9, 26]] [1, 3, 54])
  (.cond (.s 54)
    (.seq (.reg [
      ⟨(some 2), none, .mov (.c (.t (.bool false)))⟩] [2])
    (.ret))
    (.skip))))
  (.reg [
    ⟨(some 25), none, .mov (.s 3)⟩,
    ⟨(some 26), none, .bin .add (.s 25) (.c (.t (.int .i64 1)))⟩,
    ⟨(some 3), none, .mov (.s 26)⟩] [1, 3]))

def M_spec_IsValidTable : MFun := ⟨1, 55, [.tmp 2],
  .seq (.reg [
    ⟨(some 1), none, .box (.s 0)⟩,
    ⟨(some 2), none, .mov (.c (.t (.bool false)))⟩] [1])
  (.seq (.seq (.reg [
    ⟨(some 4), none, .faddr 0 (.s 1)⟩,
    ⟨(some 5), none, .load none (.s 4)⟩,
    ⟨(some 6), none, .call 145 [(.s 5)]⟩,
    ⟨(some 7), none, .un .not (.s 6)⟩,
    ⟨(some 8), none, .mov (.s 7)⟩,
    ⟨(some 9), (some (8, false)), .faddr 1 (.s 1)⟩,
    ⟨(some 10), (some (8, false)), .load none (.s 9)⟩,
    ⟨(some 11), (some (8, false)), .call 70 [(.s 10), (.c (.t (.int .i64 1))), (.c (.t (.int .i64 3)))]⟩,
    ⟨(some 12), (some (8, false)), .un .not (.s 11)⟩,
    ⟨(some 13), none, .pick (.s 8) (.c (.t (.bool true))) (.s 12)⟩,
    ⟨(some 14), none, .mov (.s 13)⟩,
    ⟨(some 15), (some (14, false)), .faddr 2 (.s 1)⟩,
    ⟨(some 16), (some (14, false)), .load none (.s 15)⟩,
    ⟨(some 17), (some (14, false)), .len false (.s 16)⟩,
    ⟨(some 18), (some (14, false)), .bin .gtr (.s 17) (.c (.t (.int .i64 8)))⟩,
    ⟨(some 19), none, .pick (.s 14) (.c (.t (.bool true))) (.s 18)⟩] [1, 19])
  (.cond (.s 19)
    (.seq (.reg [
      ⟨(some 2), none, .mov (.c (.t (.bool false)))⟩] [2])
    (.ret))
    (.skip)))
  (.seq (.seq (.reg [
    ⟨(some 3), none, .mov (.c (.t (.int .i64 0)))⟩] [1, 3])
  (.block 0 (.loop [1, 3] B_spec_IsValidTable_0)))
  (.seq (.reg [
    ⟨(some 2), none, .mov (.c (.t (.bool true)))⟩] [2])
  (.ret))))⟩
theorem t_spec_IsValidTable : tbl 196 = some M_spec_IsValidTable := tblOf_eq Try.func196 (by kernel_rfl) (by kernel_rfl)

/-- loop.example/g01921/spec.l4Row -/
def B_spec_l4Row_0 : MCode :=
  .seq (.seq (.reg [
    ⟨(some 6), none, .mov (.s 5)⟩,
    ⟨(some 7), none, .mov (.s 0)⟩,
    ⟨(some 8), none, .len false (.s 7)⟩,
    ⟨(some 9), none, .bin .lss (.s 6) (.s 8)⟩] [0, 1, 5, 9])
  (.cond (.s 9)
    (.skip)
    (.exit 0)))
  (.seq (.block 1 (.seq (.reg [
    ⟨(some 12), none, .mov (.s 0)⟩,
    ⟨(some 13), none, .mov (.s 5)⟩,
    ⟨(some 14), none, .iaddr 1 (.s 12) (.s 13)⟩,
    ⟨(some 15), none, .load none (.s 14)⟩,
    ⟨(some 16), none, .call 70 [(.s 15), (.c (.t (.int .i64 0))), (.c (.t (.int .i64 9)))]⟩,
    ⟨(some 17), none, .un .not (.s 16)⟩] [0, 1, 5, 17])
  (.cond (.s 17)
    (.seq (.reg [
      ⟨(some 4), none, .mov (.c (.t (.bool false)))⟩] [4])
    (.ret))
    (.skip))))
  (.reg [
    ⟨(some 10), none, .mov (.s 5)⟩,
    ⟨(some 11), none, .bin .add (.s 10) (.c (.t (.int .i64 1)))⟩,
    ⟨(some 5), none, .mov (.s 11)⟩] [0, 1, 5]))

def M_spec_l4Row : MFun := ⟨2, 22, [.tmp 4],
  .seq (.reg [
    ⟨(some 4), none, .mov (.c (.t (.bool false)))⟩] [0, 1])
  (.seq (.seq (.reg [
    ⟨(some 5), none, .mov (.c (.t (.int .i64 0)))⟩] [0, 1, 5])
  (.block 0 (.loop [0, 1, 5] B_spec_l4Row_0)))
  (.seq (.reg [
    ⟨(some 18), none, .mov (.s 0)⟩,
    ⟨(some 19), none, .len false (.s 18)⟩,
    ⟨(some 20), none, .mov (.s 1)⟩,
    ⟨(some 21), none, .bin .eql (.s 19) (.s 20)⟩,
    ⟨(some 4), none, .mov (.s 21)⟩] [4])
  (.ret)))⟩
theorem t_spec_l4Row : tbl 197 = some M_spec_l4Row := tblOf_eq Try.func197 (by kernel_rfl) (by kernel_rfl)

end Go.Proofs.Ytiniphmomjnocaa
