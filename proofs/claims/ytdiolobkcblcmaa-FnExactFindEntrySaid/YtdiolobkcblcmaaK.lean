/-
  The code of the functions, as printed by program.
-/
import Derived.Test.YtdiolobkcblcmaaK1
namespace Go.Proofs.Ytdiolobkcblcmaa
open Go.AM

/-- loop.example/g01921/impl.IsValidBouquet -/
def B_impl_IsValidBouquet_0 : MCode :=
  .seq (.reg [
    ⟨(some 53), none, .bin .lss (.s 52) (.s 51)⟩] [2, 3, 50, 51, 52, 53])
  (.seq (.cond (.s 53)
    (.skip)
    (.exit 0))
  (.seq (.block 1 (.seq (.reg [
    ⟨(some 54), none, .iaddr 1 (.s 50) (.s 52)⟩,
    ⟨(some 55), none, .load (some 1) (.s 54)⟩,
    ⟨(some 6), none, .alloc [(.t .nil)]⟩,
    ⟨none, none, .store 1 (.s 6) (.s 55)⟩] [2, 3, 6, 50, 51, 52])
  (.seq (.drw [
    ⟨(some 56), none, .load (some 2) (.s 2)⟩,
    ⟨(some 57), none, .load (some 1) (.s 6)⟩,
    ⟨(some 58), none, .call 80 [(.s 56), (.s 57)]⟩,
    ⟨(some 59), none, .load (some 2) (.s 2)⟩,
    ⟨(some 60), none, .call 81 [(.s 59)]⟩,
    ⟨(some 61), none, .bin .neq (.s 58) (.s 60)⟩] [[], [], [0, 1], [], [3, 2], [2, 4]] [2, 3, 50, 51, 52, 61])
  (.cond (.s 61)
    (.seq (.reg [
      ⟨(some 4), none, .mov (.c (.t (.bool false)))⟩] [4])
    (.ret))
    (.skip)))))
  (.reg [
    ⟨(some 62), none, .bin .add (.s 52) (.c (.t (.int .i64 1)))⟩,
    ⟨(some 52), none, .mov (.s 62)⟩] [2, 3, 50, 51, 52])))

def B_impl_IsValidBouquet_1 : MCode :=
  .seq (.reg [
    ⟨(some 67), none, .bin .lss (.s 66) (.s 65)⟩] [3, 64, 65, 66, 67])
  (.seq (.cond (.s 67)
    (.skip)
    (.exit 2))
  (.seq (.block 3 (.seq (.reg [
    ⟨(some 68), none, .mov (.s 66)⟩,
    ⟨(some 69), none, .iaddr 1 (.s 64) (.s 66)⟩,
    ⟨(some 70), none, .load none (.s 69)⟩,
    ⟨(some 7), none, .mov (.s 68)⟩,
    ⟨(some 8), none, .mov (.s 70)⟩] [3, 7, 8, 64, 65, 66])
  (.seq (.drw [
    ⟨(some 71), none, .mov (.s 8)⟩,
    ⟨(some 72), none, .call 82 [(.s 71), (.c (.t (.int .i64 1))), (.c (.t (.int .i64 500000000000)))]⟩,
    ⟨(some 73), none, .un .not (.s 72)⟩,
    ⟨(some 74), none, .mov (.s 73)⟩,
    ⟨(some 75), (some (74, false)), .mov (.s 7)⟩,
    ⟨(some 76), (some (74, false)), .bin .gtr (.s 75) (.c (.t (.int .i64 0)))⟩,
    ⟨(some 77), (some (74, false)), .mov (.s 76)⟩,
    ⟨(some 78), (some (77, true)), .mov (.s 8)⟩,
    ⟨(some 79), (some (77, true)), .faddr 1 (.s 3)⟩,
    ⟨(some 80), (some (77, true)), .load none (.s 79)⟩,
    ⟨(some 81), (some (77, true)), .faddr 5 (.s 3)⟩,
    ⟨(some 82), (some (77, true)), .load none (.s 81)⟩,
    ⟨(some 83), (some (77, true)), .mov (.s 7)⟩,
    ⟨(some 84), (some (77, true)), .bin .sub (.s 83) (.c (.t (.int .i64 1)))⟩,
    ⟨(some 85), (some (77, true)), .iaddr 1 (.s 82) (.s 84)⟩,
    ⟨(some 86), (some (77, true)), .load none (.s 85)⟩,
    ⟨(some 87), (some (77, true)), .bin .mul (.s 80) (.s 86)⟩,
    ⟨(some 88), (some (77, true)), .bin .neq (.s 78) (.s 87)⟩,
    ⟨(some 89), (some (74, false)), .pick (.s 77) (.s 88) (.c (.t (.bool false)))⟩,
    ⟨(some 90), none, .pick (.s 74) (.c (.t (.bool true))) (.s 89)⟩] [[], [0], [1], [2, 1], [3], [4, 3], [5, 3, 3], [6], [6], [8, 6], [6], [10, 6], [6], [12, 6], [11, 13, 6], [14, 6], [9, 15, 6], [7, 16, 6], [6, 17, 3], [3, 18]] [3, 64, 65, 66, 90])
  (.cond (.s 90)
    (.seq (.reg [
      ⟨(some 4), none, .mov (.c (.t (.bool false)))⟩] [4])
    (.ret))
    (.skip)))))
  (.reg [
    ⟨(some 91), none, .bin .add (.s 66) (.c (.t (.int .i64 1)))⟩,
    ⟨(some 66), none, .mov (.s 91)⟩] [3, 64, 65, 66])))

def B_impl_IsValidBouquet_2 : MCode :=
  .seq (.reg [
    ⟨(some 96), none, .bin .lss (.s 95) (.s 94)⟩] [3, 93, 94, 95, 96])
  (.seq (.cond (.s 96)
    (.skip)
    (.exit 4))
  (.seq (.block 5 (.seq (.reg [
    ⟨(some 97), none, .iaddr 1 (.s 93) (.s 95)⟩,
    ⟨(some 98), none, .load none (.s 97)⟩,
    ⟨(some 10), none, .mov (.s 98)⟩] [3, 10, 93, 94, 95])
  (.seq (.reg [
    ⟨(some 99), none, .mov (.s 10)⟩,
    ⟨(some 100), none, .faddr 6 (.s 3)⟩,
    ⟨(some 101), none, .load none (.s 100)⟩,
    ⟨(some 102), none, .len false (.s 101)⟩,
    ⟨(some 103), none, .call 128 [(.s 99), (.s 102)]⟩,
    ⟨(some 104), none, .un .not (.s 103)⟩] [3, 93, 94, 95, 104])
  (.cond (.s 104)
    (.seq (.reg [
      ⟨(some 4), none, .mov (.c (.t (.bool false)))⟩] [4])
    (.ret))
    (.skip)))))
  (.reg [
    ⟨(some 105), none, .bin .add (.s 95) (.c (.t (.int .i64 1)))⟩,
    ⟨(some 95), none, .mov (.s 105)⟩] [3, 93, 94, 95])))

def M_impl_IsValidBouquet : MFun := ⟨2, 119, [.tmp 4],
  .seq (.reg [
    ⟨(some 2), none, .box (.s 0)⟩,
    ⟨(some 3), none, .box (.s 1)⟩,
    ⟨(some 4), none, .mov (.c (.t (.bool false)))⟩] [2, 3])
  (.seq (.seq (.drw [
    ⟨(some 11), none, .load (some 2) (.s 2)⟩,
    ⟨(some 12), none, .call 79 [(.s 11)]⟩,
    ⟨(some 13), none, .un .not (.s 12)⟩,
    ⟨(some 14), none, .mov (.s 13)⟩,
    ⟨(some 15), (some (14, false)), .faddr 0 (.s 3)⟩,
    ⟨(some 16), (some (14, false)), .load none (.s 15)⟩,
    ⟨(some 17), (some (14, false)), .call 82 [(.s 16), (.c (.t (.int .i64 1))), (.c (.t (.int .i64 999)))]⟩,
    ⟨(some 18), (some (14, false)), .un .not (.s 17)⟩,
    ⟨(some 19), none, .pick (.s 14) (.c (.t (.bool true))) (.s 18)⟩,
    ⟨(some 20), none, .mov (.s 19)⟩,
    ⟨(some 21), (some (20, false)), .faddr 1 (.s 3)⟩,
    ⟨(some 22), (some (20, false)), .load none (.s 21)⟩,
    ⟨(some 23), (some (20, false)), .call 82 [(.s 22), (.c (.t (.int .i64 2))), (.c (.t (.int .i64 8)))]⟩,
    ⟨(some 24), (some (20, false)), .un .not (.s 23)⟩,
    ⟨(some 25), none, .pick (.s 20) (.c (.t (.bool true))) (.s 24)⟩,
    ⟨(some 26), none, .mov (.s 25)⟩,
    ⟨(some 27), (some (26, false)), .faddr 2 (.s 3)⟩,
    ⟨(some 28), (some (26, false)), .load none (.s 27)⟩,
    ⟨(some 29), (some (26, false)), .call 82 [(.s 28), (.c (.t (.int .i64 0))), (.c (.t (.int .i64 100)))]⟩,
    ⟨(some 30), (some (26, false)), .un .not (.s 29)⟩,
    ⟨(some 31), none, .pick (.s 26) (.c (.t (.bool true))) (.s 30)⟩,
    ⟨(some 32), none, .mov (.s 31)⟩,
    ⟨(some 33), (some (32, false)), .faddr 3 (.s 3)⟩,
    ⟨(some 34), (some (32, false)), .load (some 2) (.s 33)⟩,
    ⟨(some 35), (some (32, false)), .call 127 [(.s 34)]⟩,
    ⟨(some 36), (some (32, false)), .call 82 [(.s 35), (.c (.t (.int .i64 1))), (.c (.t (.int .i64 400)))]⟩,
    ⟨(some 37), (some (32, false)), .un .not (.s 36)⟩,
    ⟨(some 38), none, .pick (.s 32) (.c (.t (.bool true))) (.s 37)⟩,
    ⟨(some 39), none, .mov (.s 38)⟩,
    ⟨(some 40), (some (39, false)), .faddr 3 (.s 3)⟩,
    ⟨(some 41), (some (39, false)), .faddr 0 (.s 40)⟩,
    ⟨(some 42), (some (39, false)), .load none (.s 41)⟩,
    ⟨(some 43), (some (39, false)), .len false (.s 42)⟩,
    ⟨(some 44), (some (39, false)), .load (some 2) (.s 2)⟩,
    ⟨(some 45), (some (39, false)), .call 81 [(.s 44)]⟩,
    ⟨(some 46), (some (39, false)), .bin .add (.s 45) (.c (.t (.int .i64 1)))⟩,
    ⟨(some 47), (some (39, false)), .bin .neq (.s 43) (.s 46)⟩,
    ⟨(some 48), none, .pick (.s 39) (.c (.t (.bool true))) (.s 47)⟩] [[], [0], [1], [2, 1], [3], [4, 3], [5, 3, 3], [6, 3], [3, 7], [8, 6], [9], [10, 9], [11, 9, 9], [12, 9], [9, 13], [14, 12], [15], [16, 15], [17, 15, 15], [18, 15], [15, 19], [20, 18], [21], [22, 21], [23, 21, 21], [24, 24, 21], [25, 21], [21, 26], [27, 25], [28], [29, 28], [30, 28], [31, 28], [28], [33, 28, 28], [34, 28], [32, 35, 28], [28, 36]] [2, 3, 48])
  (.cond (.s 48)
    (.seq (.reg [
      ⟨(some 4), none, .mov (.c (.t (.bool false)))⟩] [4])
    (.ret))
    (.skip)))
  (.seq (.seq (.reg [
    ⟨(some 49), none, .faddr 6 (.s 3)⟩,
    ⟨(some 50), none, .load none (.s 49)⟩,
    ⟨(some 51), none, .len false (.s 50)⟩,
    ⟨(some 52), none, .mov (.c (.t (.int .i64 0)))⟩] [2, 3, 50, 51, 52])
  (.block 0 (.loop [2, 3, 50, 51, 52] B_impl_IsValidBouquet_0)))
  (.seq (.seq (.reg [
    ⟨(some 63), none, .faddr 5 (.s 3)⟩,
    ⟨(some 64), none, .load none (.s 63)⟩,
    ⟨(some 65), none, .len false (.s 64)⟩,
    ⟨(some 66), none, .mov (.c (.t (.int .i64 0)))⟩] [3, 64, 65, 66])
  (.block 2 (.loop [3, 64, 65, 66] B_impl_IsValidBouquet_1)))
  (.seq (.seq (.reg [
    ⟨(some 92), none, .faddr 7 (.s 3)⟩,
    ⟨(some 93), none, .load none (.s 92)⟩,
    ⟨(some 94), none, .len false (.s 93)⟩,
    ⟨(some 95), none, .mov (.c (.t (.int .i64 0)))⟩] [3, 93, 94, 95])
  (.block 4 (.loop [3, 93, 94, 95] B_impl_IsValidBouquet_2)))
  (.seq (.reg [
    ⟨(some 106), none, .faddr 5 (.s 3)⟩,
    ⟨(some 107), none, .load none (.s 106)⟩,
    ⟨(some 108), none, .len false (.s 107)⟩,
    ⟨(some 109), none, .bin .gtr (.s 108) (.c (.t (.int .i64 0)))⟩,
    ⟨(some 110), none, .mov (.s 109)⟩,
    ⟨(some 111), (some (110, true)), .faddr 7 (.s 3)⟩,
    ⟨(some 112), (some (110, true)), .load none (.s 111)⟩,
    ⟨(some 113), (some (110, true)), .len false (.s 112)⟩,
    ⟨(some 114), (some (110, true)), .faddr 5 (.s 3)⟩,
    ⟨(some 115), (some (110, true)), .load none (.s 114)⟩,
    ⟨(some 116), (some (110, true)), .len false (.s 115)⟩,
    ⟨(some 117), (some (110, true)), .bin .eql (.s 113) (.s 116)⟩,
    ⟨(some 118), none, .pick (.s 110) (.s 117) (.c (.t (.bool false)))⟩,
    ⟨(some 4), none, .mov (.s 118)⟩] [4])
  (.ret))))))⟩
theorem t_impl_IsValidBouquet : tbl 91 = some M_impl_IsValidBouquet := tblOf_eq Try.func91 (by kernel_rfl) (by kernel_rfl)

/-- loop.example/g01921/impl.orderedNote -/
def M_impl_orderedNote : MFun := ⟨3, 89, [.tmp 6],
  .seq (.reg [
    ⟨(some 3), none, .box (.s 0)⟩,
    ⟨(some 6), none, .mov (.c (.t (.bool false)))⟩] [1, 2, 3])
  (.seq (.reg [
    ⟨(some 10), none, .mov (.s 1)⟩,
    ⟨(some 11), none, .mov (.s 2)⟩,
    ⟨(some 12), none, .iaddr 5 (.s 10) (.s 11)⟩,
    ⟨(some 13), none, .load (some 5) (.s 12)⟩,
    ⟨(some 7), none, .alloc [(.t (.int .i64 0)), (.t (.int .i64 0)), (.t (.int .i64 0)), (.t (.int .i64 0)), (.t (.bool false))]⟩,
    ⟨none, none, .store 5 (.s 7) (.s 13)⟩] [1, 2, 3, 7])
  (.seq (.seq (.drw [
    ⟨(some 14), none, .faddr 0 (.s 7)⟩,
    ⟨(some 15), none, .load none (.s 14)⟩,
    ⟨(some 16), none, .faddr 7 (.s 3)⟩,
    ⟨(some 17), none, .load none (.s 16)⟩,
    ⟨(some 18), none, .len false (.s 17)⟩,
    ⟨(some 19), none, .bin .sub (.s 18) (.c (.t (.int .i64 1)))⟩,
    ⟨(some 20), none, .call 82 [(.s 15), (.c (.t (.int .i64 0))), (.s 19)]⟩,
    ⟨(some 21), none, .un .not (.s 20)⟩,
    ⟨(some 22), none, .mov (.s 21)⟩,
    ⟨(some 23), (some (22, false)), .faddr 2 (.s 7)⟩,
    ⟨(some 24), (some (22, false)), .load none (.s 23)⟩,
    ⟨(some 25), (some (22, false)), .faddr 5 (.s 3)⟩,
    ⟨(some 26), (some (22, false)), .load none (.s 25)⟩,
    ⟨(some 27), (some (22, false)), .faddr 0 (.s 7)⟩,
    ⟨(some 28), (some (22, false)), .load none (.s 27)⟩,
    ⟨(some 29), (some (22, false)), .iaddr 1 (.s 26) (.s 28)⟩,
    ⟨(some 30), (some (22, false)), .load none (.s 29)⟩,
    ⟨(some 31), (some (22, false)), .faddr 2 (.s 3)⟩,
    ⟨(some 32), (some (22, false)), .load none (.s 31)⟩,
    ⟨(some 33), (some (22, false)), .call 129 [(.s 30), (.s 32)]⟩,
    ⟨(some 34), (some (22, false)), .bin .neq (.s 24) (.s 33)⟩,
    ⟨(some 35), none, .pick (.s 22) (.c (.t (.bool true))) (.s 34)⟩,
    ⟨(some 36), none, .mov (.s 35)⟩,
    ⟨(some 37), (some (36, false)), .faddr 4 (.s 7)⟩,
    ⟨(some 38), (some (36, false)), .load none (.s 37)⟩,
    ⟨(some 39), (some (36, false)), .mov (.s 2)⟩,
    ⟨(some 40), (some (36, false)), .mov (.s 1)⟩,
    ⟨(some 41), (some (36, false)), .len false (.s 40)⟩,
    ⟨(some 42), (some (36, false)), .bin .sub (.s 41) (.c (.t (.int .i64 1)))⟩,
    ⟨(some 43), (some (36, false)), .bin .eql (.s 39) (.s 42)⟩,
    ⟨(some 44), (some (36, false)), .beq true (.s 38) (.s 43)⟩,
    ⟨(some 45), none, .pick (.s 36) (.c (.t (.bool true))) (.s 44)⟩] [[], [0], [], [2], [3], [4], [1, 5], [6], [7, 6], [8], [9, 8], [8], [11, 8], [8], [13, 8], [12, 14, 8], [15, 8], [8], [17, 8], [16, 18, 8, 8], [10, 19, 8], [8, 20], [21, 19], [22], [23, 22], [22], [22], [26, 22], [27, 22], [25, 28, 22], [24, 29, 22], [22, 30]] [1, 2, 3, 7, 45])
  (.cond (.s 45)
    (.seq (.reg [
      ⟨(some 6), none, .mov (.c (.t (.bool false)))⟩] [6])
    (.ret))
    (.skip)))
  (.seq (.drw [
    ⟨(some 46), none, .faddr 7 (.s 3)⟩,
    ⟨(some 47), none, .load none (.s 46)⟩,
    ⟨(some 48), none, .faddr 0 (.s 7)⟩,
    ⟨(some 49), none, .load none (.s 48)⟩,
    ⟨(some 50), none, .iaddr 1 (.s 47) (.s 49)⟩,
    ⟨(some 51), none, .load none (.s 50)⟩,
    ⟨(some 52), none, .faddr 1 (.s 7)⟩,
    ⟨(some 53), none, .load none (.s 52)⟩,
    ⟨(some 54), none, .call 130 [(.s 51), (.s 53)]⟩,
    ⟨(some 8), none, .mov (.s 54)⟩] [[], [0], [], [2], [1, 3], [4], [], [6], [5, 7], [8, 8, 0, 1, 2, 3, 4, 5, 6, 7, 8]] [1, 2, 3, 7, 8])
  (.seq (.seq (.reg [
    ⟨(some 55), none, .mov (.s 8)⟩,
    ⟨(some 56), none, .bin .lss (.s 55) (.c (.t (.int .i64 0)))⟩] [1, 2, 3, 7, 8, 56])
  (.cond (.s 56)
    (.seq (.reg [
      ⟨(some 6), none, .mov (.c (.t (.bool false)))⟩] [6])
    (.ret))
    (.skip)))
  (.seq (.seq (.reg [
    ⟨(some 57), none, .mov (.s 2)⟩,
    ⟨(some 58), none, .bin .eql (.s 57) (.c (.t (.int .i64 0)))⟩] [1, 2, 3, 7, 8, 58])
  (.cond (.s 58)
    (.seq (.reg [
      ⟨(some 6), none, .mov (.c (.t (.bool true)))⟩] [6])
    (.ret))
    (.skip)))
  (.seq (.reg [
    ⟨(some 59), none, .mov (.s 1)⟩,
    ⟨(some 60), none, .mov (.s 2)⟩,
    ⟨(some 61), none, .bin .sub (.s 60) (.c (.t (.int .i64 1)))⟩,
    ⟨(some 62), none, .iaddr 5 (.s 59) (.s 61)⟩,
    ⟨(some 63), none, .load (some 5) (.s 62)⟩,
    ⟨(some 9), none, .alloc [(.t (.int .i64 0)), (.t (.int .i64 0)), (.t (.int .i64 0)), (.t (.int .i64 0)), (.t (.bool false))]⟩,
    ⟨none, none, .store 5 (.s 9) (.s 63)⟩] [3, 7, 8, 9])
  (.seq (.drw [
    ⟨(some 64), none, .faddr 0 (.s 9)⟩,
    ⟨(some 65), none, .load none (.s 64)⟩,
    ⟨(some 66), none, .faddr 0 (.s 7)⟩,
    ⟨(some 67), none, .load none (.s 66)⟩,
    ⟨(some 68), none, .bin .lss (.s 65) (.s 67)⟩,
    ⟨(some 69), none, .mov (.s 68)⟩,
    ⟨(some 70), (some (69, false)), .faddr 0 (.s 9)⟩,
    ⟨(some 71), (some (69, false)), .load none (.s 70)⟩,
    ⟨(some 72), (some (69, false)), .faddr 0 (.s 7)⟩,
    ⟨(some 73), (some (69, false)), .load none (.s 72)⟩,
    ⟨(some 74), (some (69, false)), .bin .eql (.s 71) (.s 73)⟩,
    ⟨(some 75), (some (69, false)), .mov (.s 74)⟩,
    ⟨(some 76), (some (75, true)), .faddr 7 (.s 3)⟩,
    ⟨(some 77), (some (75, true)), .load none (.s 76)⟩,
    ⟨(some 78), (some (75, true)), .faddr 0 (.s 7)⟩,
    ⟨(some 79), (some (75, true)), .load none (.s 78)⟩,
    ⟨(some 80), (some (75, true)), .iaddr 1 (.s 77) (.s 79)⟩,
    ⟨(some 81), (some (75, true)), .load none (.s 80)⟩,
    ⟨(some 82), (some (75, true)), .faddr 1 (.s 9)⟩,
    ⟨(some 83), (some (75, true)), .load none (.s 82)⟩,
    ⟨(some 84), (some (75, true)), .call 130 [(.s 81), (.s 83)]⟩,
    ⟨(some 85), (some (75, true)), .mov (.s 8)⟩,
    ⟨(some 86), (some (75, true)), .bin .lss (.s 84) (.s 85)⟩,
    ⟨(some 87), (some (69, false)), .pick (.s 75) (.s 86) (.c (.t (.bool false)))⟩,
    ⟨(some 88), none, .pick (.s 69) (.c (.t (.bool true))) (.s 87)⟩,
    ⟨(some 6), none, .mov (.s 88)⟩] [[], [0], [], [2], [1, 3], [4], [5], [6, 5], [5], [8, 5], [7, 9, 5], [10, 5, 5], [11], [12, 11], [11], [14, 11], [13, 15, 11], [16, 11], [11], [18, 11], [17, 19, 11, 11], [11], [20, 21, 11], [11, 22, 5], [5, 23], [24, 20, 0, 1, 2, 3, 4, 5, 6, 7, 8, 9, 10, 11, 12, 13, 14, 15, 16, 17, 18, 19, 20, 21, 22, 23, 24]] [6])
  (.ret))))))))⟩
theorem t_impl_orderedNote : tbl 92 = some M_impl_orderedNote := tblOf_eq Try.func92 (by kernel_rfl) (by kernel_rfl)

/-- loop.example/g01921/laws.eqPlanS -/
def B_laws_eqPlanS_0 : MCode :=
  .seq (.seq (.reg [
    ⟨(some 11), none, .mov (.s 5)⟩,
    ⟨(some 12), none, .mov (.s 0)⟩,
    ⟨(some 13), none, .len false (.s 12)⟩,
    ⟨(some 14), none, .bin .lss (.s 11) (.s 13)⟩] [0, 1, 5, 14])
  (.cond (.s 14)
    (.skip)
    (.exit 0)))
  (.seq (.block 1 (.seq (.drw [
    ⟨(some 17), none, .mov (.s 0)⟩,
    ⟨(some 18), none, .mov (.s 5)⟩,
    ⟨(some 19), none, .iaddr 1 (.s 17) (.s 18)⟩,
    ⟨(some 20), none, .load (some 1) (.s 19)⟩,
    ⟨(some 21), none, .mov (.s 1)⟩,
    ⟨(some 22), none, .mov (.s 5)⟩,
    ⟨(some 23), none, .iaddr 1 (.s 21) (.s 22)⟩,
    ⟨(some 24), none, .load (some 1) (.s 23)⟩,
    ⟨(some 25), none, .call 27 [(.s 20), (.s 24)]⟩,
    ⟨(some 26), none, .un .not (.s 25)⟩] [[], [], [0, 1], [2], [], [], [4, 5], [6], [3, 7], [8]] [0, 1, 5, 26])
  (.cond (.s 26)
    (.seq (.reg [
      ⟨(some 4), none, .mov (.c (.t (.bool false)))⟩] [4])
    (.ret))
    (.skip))))
  (.reg [
    ⟨(some 15), none, .mov (.s 5)⟩,
    ⟨(some 16), none, .bin .add (.s 15) (.c (.t (.int .i64 1)))⟩,
    ⟨(some 5), none, .mov (.s 16)⟩] [0, 1, 5]))

def M_laws_eqPlanS : MFun := ⟨2, 27, [.tmp 4],
  .seq (.reg [
    ⟨(some 4), none, .mov (.c (.t (.bool false)))⟩] [0, 1])
  (.seq (.seq (.reg [
    ⟨(some 6), none, .mov (.s 0)⟩,
    ⟨(some 7), none, .len false (.s 6)⟩,
    ⟨(some 8), none, .mov (.s 1)⟩,
    ⟨(some 9), none, .len false (.s 8)⟩,
    ⟨(some 10), none, .bin .neq (.s 7) (.s 9)⟩] [0, 1, 10])
  (.cond (.s 10)
    (.seq (.reg [
      ⟨(some 4), none, .mov (.c (.t (.bool false)))⟩] [4])
    (.ret))
    (.skip)))
  (.seq (.seq (.reg [
    ⟨(some 5), none, .mov (.c (.t (.int .i64 0)))⟩] [0, 1, 5])
  (.block 0 (.loop [0, 1, 5] B_laws_eqPlanS_0)))
  (.seq (.reg [
    ⟨(some 4), none, .mov (.c (.t (.bool true)))⟩] [4])
  (.ret))))⟩
theorem t_laws_eqPlanS : tbl 93 = some M_laws_eqPlanS := tblOf_eq Try.func93 (by kernel_rfl) (by kernel_rfl)

/-- loop.example/g01921/laws.eqIntSS -/
def B_laws_eqIntSS_0 : MCode :=
  .seq (.seq (.reg [
    ⟨(some 11), none, .mov (.s 5)⟩,
    ⟨(some 12), none, .mov (.s 0)⟩,
    ⟨(some 13), none, .len false (.s 12)⟩,
    ⟨(some 14), none, .bin .lss (.s 11) (.s 13)⟩] [0, 1, 5, 14])
  (.cond (.s 14)
    (.skip)
    (.exit 0)))
  (.seq (.block 1 (.seq (.drw [
    ⟨(some 17), none, .mov (.s 0)⟩,
    ⟨(some 18), none, .mov (.s 5)⟩,
    ⟨(some 19), none, .iaddr 1 (.s 17) (.s 18)⟩,
    ⟨(some 20), none, .load none (.s 19)⟩,
    ⟨(some 21), none, .mov (.s 1)⟩,
    ⟨(some 22), none, .mov (.s 5)⟩,
    ⟨(some 23), none, .iaddr 1 (.s 21) (.s 22)⟩,
    ⟨(some 24), none, .load none (.s 23)⟩,
    ⟨(some 25), none, .call 20 [(.s 20), (.s 24)]⟩,
    ⟨(some 26), none, .un .not (.s 25)⟩] [[], [], [0, 1], [2], [], [], [4, 5], [6], [3, 7], [8]] [0, 1, 5, 26])
  (.cond (.s 26)
    (.seq (.reg [
      ⟨(some 4), none, .mov (.c (.t (.bool false)))⟩] [4])
    (.ret))
    (.skip))))
  (.reg [
    ⟨(some 15), none, .mov (.s 5)⟩,
    ⟨(some 16), none, .bin .add (.s 15) (.c (.t (.int .i64 1)))⟩,
    ⟨(some 5), none, .mov (.s 16)⟩] [0, 1, 5]))

def M_laws_eqIntSS : MFun := ⟨2, 27, [.tmp 4],
  .seq (.reg [
    ⟨(some 4), none, .mov (.c (.t (.bool false)))⟩] [0, 1])
  (.seq (.seq (.reg [
    ⟨(some 6), none, .mov (.s 0)⟩,
    ⟨(some 7), none, .len false (.s 6)⟩,
    ⟨(some 8), none, .mov (.s 1)⟩,
    ⟨(some 9), none, .len false (.s 8)⟩,
    ⟨(some 10), none, .bin .neq (.s 7) (.s 9)⟩] [0, 1, 10])
  (.cond (.s 10)
    (.seq (.reg [
      ⟨(some 4), none, .mov (.c (.t (.bool false)))⟩] [4])
    (.ret))
    (.skip)))
  (.seq (.seq (.reg [
    ⟨(some 5), none, .mov (.c (.t (.int .i64 0)))⟩] [0, 1, 5])
  (.block 0 (.loop [0, 1, 5] B_laws_eqIntSS_0)))
  (.seq (.reg [
    ⟨(some 4), none, .mov (.c (.t (.bool true)))⟩] [4])
  (.ret))))⟩
theorem t_laws_eqIntSS : tbl 94 = some M_laws_eqIntSS := tblOf_eq Try.func94 (by kernel_rfl) (by kernel_rfl)

/-- loop.example/g01921/laws.eqRunNote -/
def M_laws_eqRunNote : MFun := ⟨2, 30, [.tmp 4],
  .seq (.reg [
    ⟨(some 2), none, .box (.s 0)⟩,
    ⟨(some 3), none, .box (.s 1)⟩,
    ⟨(some 4), none, .mov (.c (.t (.bool false)))⟩] [2, 3])
  (.seq (.seq (.reg [
    ⟨(some 5), none, .faddr 0 (.s 2)⟩,
    ⟨(some 6), none, .load none (.s 5)⟩,
    ⟨(some 7), none, .faddr 0 (.s 3)⟩,
    ⟨(some 8), none, .load none (.s 7)⟩,
    ⟨(some 9), none, .bin .neq (.s 6) (.s 8)⟩] [2, 3, 9])
  (.cond (.s 9)
    (.seq (.reg [
      ⟨(some 4), none, .mov (.c (.t (.bool false)))⟩] [4])
    (.ret))
    (.skip)))
  (.seq (.seq (.reg [
    ⟨(some 10), none, .faddr 1 (.s 2)⟩,
    ⟨(some 11), none, .load none (.s 10)⟩,
    ⟨(some 12), none, .faddr 1 (.s 3)⟩,
    ⟨(some 13), none, .load none (.s 12)⟩,
    ⟨(some 14), none, .bin .neq (.s 11) (.s 13)⟩] [2, 3, 14])
  (.cond (.s 14)
    (.seq (.reg [
      ⟨(some 4), none, .mov (.c (.t (.bool false)))⟩] [4])
    (.ret))
    (.skip)))
  (.seq (.seq (.reg [
    ⟨(some 15), none, .faddr 2 (.s 2)⟩,
    ⟨(some 16), none, .load none (.s 15)⟩,
    ⟨(some 17), none, .faddr 2 (.s 3)⟩,
    ⟨(some 18), none, .load none (.s 17)⟩,
    ⟨(some 19), none, .bin .neq (.s 16) (.s 18)⟩] [2, 3, 19])
  (.cond (.s 19)
    (.seq (.reg [
      ⟨(some 4), none, .mov (.c (.t (.bool false)))⟩] [4])
    (.ret))
    (.skip)))
  (.seq (.seq (.reg [
    ⟨(some 20), none, .faddr 3 (.s 2)⟩,
    ⟨(some 21), none, .load none (.s 20)⟩,
    ⟨(some 22), none, .faddr 3 (.s 3)⟩,
    ⟨(some 23), none, .load none (.s 22)⟩,
    ⟨(some 24), none, .bin .neq (.s 21) (.s 23)⟩] [2, 3, 24])
  (.cond (.s 24)
    (.seq (.reg [
      ⟨(some 4), none, .mov (.c (.t (.bool false)))⟩] [4])
    (.ret))
    (.skip)))
  (.seq (.seq (.reg [
    ⟨(some 25), none, .faddr 4 (.s 2)⟩,
    ⟨(some 26), none, .load none (.s 25)⟩,
    ⟨(some 27), none, .faddr 4 (.s 3)⟩,
    ⟨(some 28), none, .load none (.s 27)⟩,
    ⟨(some 29), none, .beq true (.s 26) (.s 28)⟩] [29])
  (.cond (.s 29)
    (.seq (.reg [
      ⟨(some 4), none, .mov (.c (.t (.bool false)))⟩] [4])
    (.ret))
    (.skip)))
  (.seq (.reg [
    ⟨(some 4), none, .mov (.c (.t (.bool true)))⟩] [4])
  (.ret)))))))⟩
theorem t_laws_eqRunNote : tbl 95 = some M_laws_eqRunNote := tblOf_eq Try.func95 (by kernel_rfl) (by kernel_rfl)

/-- loop.example/g01921/laws.szCacheEntry -/
def M_laws_szCacheEntry : MFun := ⟨2, 18, [.tmp 4],
  .seq (.reg [
    ⟨(some 2), none, .box (.s 0)⟩,
    ⟨(some 4), none, .mov (.c (.t (.int .i64 0)))⟩] [1, 2])
  (.seq (.reg [
    ⟨(some 5), none, .faddr 0 (.s 2)⟩,
    ⟨(some 6), none, .load (some 2) (.s 5)⟩,
    ⟨(some 7), none, .mov (.s 1)⟩,
    ⟨(some 8), none, .call 14 [(.s 6), (.s 7)]⟩,
    ⟨(some 1), none, .mov (.s 8)⟩] [1, 2])
  (.seq (.seq (.reg [
    ⟨(some 9), none, .mov (.s 1)⟩,
    ⟨(some 10), none, .bin .lss (.s 9) (.c (.t (.int .i64 0)))⟩] [1, 2, 10])
  (.cond (.s 10)
    (.seq (.reg [
      ⟨(some 4), none, .mov (.c (.t (.int .i64 (-1))))⟩] [4])
    (.ret))
    (.skip)))
  (.seq (.reg [
    ⟨(some 11), none, .faddr 2 (.s 2)⟩,
    ⟨(some 12), none, .load (some 4) (.s 11)⟩,
    ⟨(some 13), none, .mov (.s 1)⟩,
    ⟨(some 14), none, .call 34 [(.s 12), (.s 13)]⟩,
    ⟨(some 1), none, .mov (.s 14)⟩] [1])
  (.seq (.seq (.reg [
    ⟨(some 15), none, .mov (.s 1)⟩,
    ⟨(some 16), none, .bin .lss (.s 15) (.c (.t (.int .i64 0)))⟩] [1, 16])
  (.cond (.s 16)
    (.seq (.reg [
      ⟨(some 4), none, .mov (.c (.t (.int .i64 (-1))))⟩] [4])
    (.ret))
    (.skip)))
  (.seq (.reg [
    ⟨(some 17), none, .mov (.s 1)⟩,
    ⟨(some 4), none, .mov (.s 17)⟩] [4])
  (.ret))))))⟩
theorem t_laws_szCacheEntry : tbl 96 = some M_laws_szCacheEntry := tblOf_eq Try.func96 (by kernel_rfl) (by kernel_rfl)

/-- loop.example/g01921/spec.CompareRows -/
def B_spec_CompareRows_0 : MCode :=
  .seq (.seq (.reg [
    ⟨(some 6), none, .mov (.s 5)⟩,
    ⟨(some 7), none, .mov (.s 0)⟩,
    ⟨(some 8), none, .len false (.s 7)⟩,
    ⟨(some 9), none, .bin .lss (.s 6) (.s 8)⟩,
    ⟨(some 10), none, .mov (.s 9)⟩,
    ⟨(some 11), (some (10, true)), .mov (.s 5)⟩,
    ⟨(some 12), (some (10, true)), .mov (.s 1)⟩,
    ⟨(some 13), (some (10, true)), .len false (.s 12)⟩,
    ⟨(some 14), (some (10, true)), .bin .lss (.s 11) (.s 13)⟩,
    ⟨(some 15), none, .pick (.s 10) (.s 14) (.c (.t (.bool false)))⟩] [0, 1, 5, 15])
  (.cond (.s 15)
    (.skip)
    (.exit 0)))
  (.seq (.block 1 (.seq (.seq (.drw [
    ⟨(some 18), none, .mov (.s 0)⟩,
    ⟨(some 19), none, .mov (.s 5)⟩,
    ⟨(some 20), none, .iaddr 1 (.s 18) (.s 19)⟩,
    ⟨(some 21), none, .load none (.s 20)⟩,
    ⟨(some 22), none, .mov (.s 1)⟩,
    ⟨(some 23), none, .mov (.s 5)⟩,
    ⟨(some 24), none, .iaddr 1 (.s 22) (.s 23)⟩,
    ⟨(some 25), none, .load none (.s 24)⟩,
    ⟨(some 26), none, .bin .lss (.s 21) (.s 25)⟩] [[], [], [0, 1], [2], [], [], [4, 5], [6], [3, 7]] [0, 1, 5, 26])
  (.cond (.s 26)
    (.seq (.reg [
      ⟨(some 4), none, .mov (.c (.t (.int .i64 (-1))))⟩] [4])
    (.ret))
    (.skip)))
  (.seq (.drw [
    ⟨(some 27), none, .mov (.s 0)⟩,
    ⟨(some 28), none, .mov (.s 5)⟩,
    ⟨(some 29), none, .iaddr 1 (.s 27) (.s 28)⟩,
    ⟨(some 30), none, .load none (.s 29)⟩,
    ⟨(some 31), none, .mov (.s 1)⟩,
    ⟨(some 32), none, .mov (.s 5)⟩,
    ⟨(some 33), none, .iaddr 1 (.s 31) (.s 32)⟩,
    ⟨(some 34), none, .load none (.s 33)⟩,
    ⟨(some 35), none, .bin .gtr (.s 30) (.s 34)⟩] [[], [], [0, 1], [2], [], [], [4, 5], [6], [3, 7]] [0, 1, 5, 35])
  (.cond (.s 35)
    (.seq (.reg [
      ⟨(some 4), none, .mov (.c (.t (.int .i64 1)))⟩] [4])
    (.ret))
    (.skip)))))
  (.reg [
    ⟨(some 16), none, .mov (.s 5)⟩,
    ⟨(some 17), none, .bin .add (.s 16) (.c (.t (.int .i64 1)))⟩,
    ⟨(some 5), none, .mov (.s 17)⟩] [0, 1, 5]))

def M_spec_CompareRows : MFun := ⟨2, 46, [.tmp 4],
  .seq (.reg [
    ⟨(some 4), none, .mov (.c (.t (.int .i64 0)))⟩] [0, 1])
  (.seq (.seq (.reg [
    ⟨(some 5), none, .mov (.c (.t (.int .i64 0)))⟩] [0, 1, 5])
  (.block 0 (.loop [0, 1, 5] B_spec_CompareRows_0)))
  (.seq (.seq (.reg [
    ⟨(some 36), none, .mov (.s 0)⟩,
    ⟨(some 37), none, .len false (.s 36)⟩,
    ⟨(some 38), none, .mov (.s 1)⟩,
    ⟨(some 39), none, .len false (.s 38)⟩,
    ⟨(some 40), none, .bin .lss (.s 37) (.s 39)⟩] [0, 1, 40])
  (.cond (.s 40)
    (.seq (.reg [
      ⟨(some 4), none, .mov (.c (.t (.int .i64 (-1))))⟩] [4])
    (.ret))
    (.skip)))
  (.seq (.seq (.reg [
    ⟨(some 41), none, .mov (.s 0)⟩,
    ⟨(some 42), none, .len false (.s 41)⟩,
    ⟨(some 43), none, .mov (.s 1)⟩,
    ⟨(some 44), none, .len false (.s 43)⟩,
    ⟨(some 45), none, .bin .gtr (.s 42) (.s 44)⟩] [45])
  (.cond (.s 45)
    (.seq (.reg [
      ⟨(some 4), none, .mov (.c (.t (.int .i64 1)))⟩] [4])
    (.ret))
    (.skip)))
  (.seq (.reg [
    ⟨(some 4), none, .mov (.c (.t (.int .i64 0)))⟩] [4])
  (.ret)))))⟩
theorem t_spec_CompareRows : tbl 97 = some M_spec_CompareRows := tblOf_eq Try.func97 (by kernel_rfl) (by kernel_rfl)

/-- loop.example/g01921/spec.EqualPlans -/
def B_spec_EqualPlans_0 : MCode :=
  .seq (.seq (.reg [
    ⟨(some 13), none, .mov (.s 5)⟩,
    ⟨(some 14), none, .faddr 0 (.s 2)⟩,
    ⟨(some 15), none, .load none (.s 14)⟩,
    ⟨(some 16), none, .len false (.s 15)⟩,
    ⟨(some 17), none, .bin .lss (.s 13) (.s 16)⟩] [2, 3, 5, 17])
  (.cond (.s 17)
    (.skip)
    (.exit 0)))
  (.seq (.block 1 (.seq (.drw [
    ⟨(some 20), none, .faddr 0 (.s 2)⟩,
    ⟨(some 21), none, .load none (.s 20)⟩,
    ⟨(some 22), none, .mov (.s 5)⟩,
    ⟨(some 23), none, .iaddr 3 (.s 21) (.s 22)⟩,
    ⟨(some 24), none, .load (some 3) (.s 23)⟩,
    ⟨(some 25), none, .faddr 0 (.s 3)⟩,
    ⟨(some 26), none, .load none (.s 25)⟩,
    ⟨(some 27), none, .mov (.s 5)⟩,
    ⟨(some 28), none, .iaddr 3 (.s 26) (.s 27)⟩,
    ⟨(some 29), none, .load (some 3) (.s 28)⟩,
    ⟨(some 30), none, .aeq true [1, 1, 1] (.s 24) (.s 29)⟩] [[], [0], [], [1, 2], [3], [], [5], [], [6, 7], [8], [4, 9]] [2, 3, 5, 30])
  (.cond (.s 30)
    (.seq (.reg [
      ⟨(some 4), none, .mov (.c (.t (.bool false)))⟩] [4])
    (.ret))
    (.skip))))
  (.reg [
    ⟨(some 18), none, .mov (.s 5)⟩,
    ⟨(some 19), none, .bin .add (.s 18) (.c (.t (.int .i64 1)))⟩,
    ⟨(some 5), none, .mov (.s 19)⟩] [2, 3, 5]))

def M_spec_EqualPlans : MFun := ⟨2, 31, [.tmp 4],
  .seq (.reg [
    ⟨(some 2), none, .box (.s 0)⟩,
    ⟨(some 3), none, .box (.s 1)⟩,
    ⟨(some 4), none, .mov (.c (.t (.bool false)))⟩] [2, 3])
  (.seq (.seq (.reg [
    ⟨(some 6), none, .faddr 0 (.s 2)⟩,
    ⟨(some 7), none, .load none (.s 6)⟩,
    ⟨(some 8), none, .len false (.s 7)⟩,
    ⟨(some 9), none, .faddr 0 (.s 3)⟩,
    ⟨(some 10), none, .load none (.s 9)⟩,
    ⟨(some 11), none, .len false (.s 10)⟩,
    ⟨(some 12), none, .bin .neq (.s 8) (.s 11)⟩] [2, 3, 12])
  (.cond (.s 12)
    (.seq (.reg [
      ⟨(some 4), none, .mov (.c (.t (.bool false)))⟩] [4])
    (.ret))
    (.skip)))
  (.seq (.seq (.reg [
    ⟨(some 5), none, .mov (.c (.t (.int .i64 0)))⟩] [2, 3, 5])
  (.block 0 (.loop [2, 3, 5] B_spec_EqualPlans_0)))
  (.seq (.reg [
    ⟨(some 4), none, .mov (.c (.t (.bool true)))⟩] [4])
  (.ret))))⟩
theorem t_spec_EqualPlans : tbl 98 = some M_spec_EqualPlans := tblOf_eq Try.func98 (by kernel_rfl) (by kernel_rfl)

/-- loop.example/g01921/spec.EqualBoxes -/
def M_spec_EqualBoxes : MFun := ⟨2, 19, [.tmp 4],
  .seq (.reg [
    ⟨(some 2), none, .box (.s 0)⟩,
    ⟨(some 3), none, .box (.s 1)⟩,
    ⟨(some 4), none, .mov (.c (.t (.bool false)))⟩] [2, 3])
  (.seq (.reg [
    ⟨(some 5), none, .faddr 0 (.s 2)⟩,
    ⟨(some 6), none, .load none (.s 5)⟩,
    ⟨(some 7), none, .faddr 0 (.s 3)⟩,
    ⟨(some 8), none, .load none (.s 7)⟩,
    ⟨(some 9), none, .call 97 [(.s 6), (.s 8)]⟩,
    ⟨(some 10), none, .bin .eql (.s 9) (.c (.t (.int .i64 0)))⟩,
    ⟨(some 11), none, .mov (.s 10)⟩,
    ⟨(some 12), (some (11, true)), .faddr 1 (.s 2)⟩,
    ⟨(some 13), (some (11, true)), .load none (.s 12)⟩,
    ⟨(some 14), (some (11, true)), .faddr 1 (.s 3)⟩,
    ⟨(some 15), (some (11, true)), .load none (.s 14)⟩,
    ⟨(some 16), (some (11, true)), .call 97 [(.s 13), (.s 15)]⟩,
    ⟨(some 17), (some (11, true)), .bin .eql (.s 16) (.c (.t (.int .i64 0)))⟩,
    ⟨(some 18), none, .pick (.s 11) (.s 17) (.c (.t (.bool false)))⟩,
    ⟨(some 4), none, .mov (.s 18)⟩] [4])
  (.ret))⟩
theorem t_spec_EqualBoxes : tbl 99 = some M_spec_EqualBoxes := tblOf_eq Try.func99 (by kernel_rfl) (by kernel_rfl)

/-- loop.example/g01921/laws.toCacheEntry -/
def M_laws_toCacheEntry : MFun := ⟨1, 19, [.cell 2 (some 8)],
  .seq (.reg [
    ⟨(some 1), none, .box (.s 0)⟩,
    ⟨(some 2), none, .alloc [(.t (.int .i64 0)), (.t .nil), (.t .nil), (.t .nil), (.t .nil), (.t (.int .i64 0)), (.t (.int .i64 0)), (.t (.int .i64 0))]⟩] [1, 2])
  (.seq (.reg [
    ⟨(some 3), none, .alloc [(.t (.int .i64 0)), (.t .nil), (.t .nil), (.t .nil), (.t .nil), (.t (.int .i64 0)), (.t (.int .i64 0)), (.t (.int .i64 0))]⟩] [1, 2, 3])
  (.seq (.reg [
    ⟨(some 4), none, .faddr 0 (.s 1)⟩,
    ⟨(some 5), none, .load (some 2) (.s 4)⟩,
    ⟨(some 6), none, .call 16 [(.s 5)]⟩,
    ⟨(some 7), none, .faddr 0 (.s 3)⟩,
    ⟨none, none, .store 2 (.s 7) (.s 6)⟩] [1, 2, 3])
  (.seq (.reg [
    ⟨(some 8), none, .faddr 2 (.s 1)⟩,
    ⟨(some 9), none, .load (some 4) (.s 8)⟩,
    ⟨(some 10), none, .call 36 [(.s 9)]⟩,
    ⟨(some 11), none, .faddr 2 (.s 3)⟩,
    ⟨none, none, .store 4 (.s 11) (.s 10)⟩] [1, 2, 3])
  (.seq (.reg [
    ⟨(some 12), none, .faddr 6 (.s 1)⟩,
    ⟨(some 13), none, .load none (.s 12)⟩,
    ⟨(some 14), none, .faddr 6 (.s 3)⟩,
    ⟨none, none, .store 1 (.s 14) (.s 13)⟩] [1, 2, 3])
  (.seq (.reg [
    ⟨(some 15), none, .faddr 7 (.s 1)⟩,
    ⟨(some 16), none, .load none (.s 15)⟩,
    ⟨(some 17), none, .faddr 7 (.s 3)⟩,
    ⟨none, none, .store 1 (.s 17) (.s 16)⟩] [2, 3])
  (.seq (.reg [
    ⟨(some 18), none, .load (some 8) (.s 3)⟩,
    ⟨none, none, .store 8 (.s 2) (.s 18)⟩] [2])
  (.ret)))))))⟩
theorem t_laws_toCacheEntry : tbl 100 = some M_laws_toCacheEntry := tblOf_eq Try.func100 (by kernel_rfl) (by kernel_rfl)

/-- loop.example/g01921/impl.EqualRegions -/
def M_impl_EqualRegions : MFun := ⟨2, 24, [.tmp 4],
  .seq (.reg [
    ⟨(some 2), none, .box (.s 0)⟩,
    ⟨(some 3), none, .box (.s 1)⟩,
    ⟨(some 4), none, .mov (.c (.t (.bool false)))⟩] [2, 3])
  (.seq (.reg [
    ⟨(some 5), none, .faddr 0 (.s 2)⟩,
    ⟨(some 6), none, .load (some 1) (.s 5)⟩,
    ⟨(some 7), none, .faddr 0 (.s 3)⟩,
    ⟨(some 8), none, .load (some 1) (.s 7)⟩,
    ⟨(some 9), none, .call 131 [(.s 6), (.s 8)]⟩,
    ⟨(some 10), none, .mov (.s 9)⟩,
    ⟨(some 11), (some (10, true)), .faddr 1 (.s 2)⟩,
    ⟨(some 12), (some (10, true)), .load (some 2) (.s 11)⟩,
    ⟨(some 13), (some (10, true)), .faddr 1 (.s 3)⟩,
    ⟨(some 14), (some (10, true)), .load (some 2) (.s 13)⟩,
    ⟨(some 15), (some (10, true)), .call 132 [(.s 12), (.s 14)]⟩,
    ⟨(some 16), none, .pick (.s 10) (.s 15) (.c (.t (.bool false)))⟩,
    ⟨(some 17), none, .mov (.s 16)⟩,
    ⟨(some 18), (some (17, true)), .faddr 3 (.s 2)⟩,
    ⟨(some 19), (some (17, true)), .load none (.s 18)⟩,
    ⟨(some 20), (some (17, true)), .faddr 3 (.s 3)⟩,
    ⟨(some 21), (some (17, true)), .load none (.s 20)⟩,
    ⟨(some 22), (some (17, true)), .bin .eql (.s 19) (.s 21)⟩,
    ⟨(some 23), none, .pick (.s 17) (.s 22) (.c (.t (.bool false)))⟩,
    ⟨(some 4), none, .mov (.s 23)⟩] [4])
  (.ret))⟩
theorem t_impl_EqualRegions : tbl 101 = some M_impl_EqualRegions := tblOf_eq Try.func101 (by kernel_rfl) (by kernel_rfl)

/-- loop.example/g01921/laws.eqCacheEntry -/
def M_laws_eqCacheEntry : MFun := ⟨2, 27, [.tmp 4],
  .seq (.reg [
    ⟨(some 2), none, .box (.s 0)⟩,
    ⟨(some 3), none, .box (.s 1)⟩,
    ⟨(some 4), none, .mov (.c (.t (.bool false)))⟩] [2, 3])
  (.seq (.seq (.reg [
    ⟨(some 5), none, .faddr 0 (.s 2)⟩,
    ⟨(some 6), none, .load (some 2) (.s 5)⟩,
    ⟨(some 7), none, .faddr 0 (.s 3)⟩,
    ⟨(some 8), none, .load (some 2) (.s 7)⟩,
    ⟨(some 9), none, .call 19 [(.s 6), (.s 8)]⟩,
    ⟨(some 10), none, .un .not (.s 9)⟩] [2, 3, 10])
  (.cond (.s 10)
    (.seq (.reg [
      ⟨(some 4), none, .mov (.c (.t (.bool false)))⟩] [4])
    (.ret))
    (.skip)))
  (.seq (.seq (.reg [
    ⟨(some 11), none, .faddr 2 (.s 2)⟩,
    ⟨(some 12), none, .load (some 4) (.s 11)⟩,
    ⟨(some 13), none, .faddr 2 (.s 3)⟩,
    ⟨(some 14), none, .load (some 4) (.s 13)⟩,
    ⟨(some 15), none, .call 38 [(.s 12), (.s 14)]⟩,
    ⟨(some 16), none, .un .not (.s 15)⟩] [2, 3, 16])
  (.cond (.s 16)
    (.seq (.reg [
      ⟨(some 4), none, .mov (.c (.t (.bool false)))⟩] [4])
    (.ret))
    (.skip)))
  (.seq (.seq (.reg [
    ⟨(some 17), none, .faddr 6 (.s 2)⟩,
    ⟨(some 18), none, .load none (.s 17)⟩,
    ⟨(some 19), none, .faddr 6 (.s 3)⟩,
    ⟨(some 20), none, .load none (.s 19)⟩,
    ⟨(some 21), none, .bin .neq (.s 18) (.s 20)⟩] [2, 3, 21])
  (.cond (.s 21)
    (.seq (.reg [
      ⟨(some 4), none, .mov (.c (.t (.bool false)))⟩] [4])
    (.ret))
    (.skip)))
  (.seq (.seq (.reg [
    ⟨(some 22), none, .faddr 7 (.s 2)⟩,
    ⟨(some 23), none, .load none (.s 22)⟩,
    ⟨(some 24), none, .faddr 7 (.s 3)⟩,
    ⟨(some 25), none, .load none (.s 24)⟩,
    ⟨(some 26), none, .bin .neq (.s 23) (.s 25)⟩] [26])
  (.cond (.s 26)
    (.seq (.reg [
      ⟨(some 4), none, .mov (.c (.t (.bool false)))⟩] [4])
    (.ret))
    (.skip)))
  (.seq (.reg [
    ⟨(some 4), none, .mov (.c (.t (.bool true)))⟩] [4])
  (.ret))))))⟩
theorem t_laws_eqCacheEntry : tbl 102 = some M_laws_eqCacheEntry := tblOf_eq Try.func102 (by kernel_rfl) (by kernel_rfl)

/-- loop.example/g01921/laws.szAtom -/
def M_laws_szAtom : MFun := ⟨2, 19, [.tmp 4],
  .seq (.reg [
    ⟨(some 2), none, .box (.s 0)⟩,
    ⟨(some 4), none, .mov (.c (.t (.int .i64 0)))⟩] [1, 2])
  (.seq (.reg [
    ⟨(some 5), none, .mov (.s 1)⟩,
    ⟨(some 6), none, .faddr 0 (.s 2)⟩,
    ⟨(some 7), none, .load none (.s 6)⟩,
    ⟨(some 8), none, .len true (.s 7)⟩,
    ⟨(some 9), none, .bin .sub (.s 5) (.s 8)⟩,
    ⟨(some 1), none, .mov (.s 9)⟩] [1, 2])
  (.seq (.seq (.reg [
    ⟨(some 10), none, .mov (.s 1)⟩,
    ⟨(some 11), none, .bin .lss (.s 10) (.c (.t (.int .i64 0)))⟩] [1, 2, 11])
  (.cond (.s 11)
    (.seq (.reg [
      ⟨(some 4), none, .mov (.c (.t (.int .i64 (-1))))⟩] [4])
    (.ret))
    (.skip)))
  (.seq (.reg [
    ⟨(some 12), none, .faddr 1 (.s 2)⟩,
    ⟨(some 13), none, .load none (.s 12)⟩,
    ⟨(some 14), none, .mov (.s 1)⟩,
    ⟨(some 15), none, .call 63 [(.s 13), (.s 14)]⟩,
    ⟨(some 1), none, .mov (.s 15)⟩] [1])
  (.seq (.seq (.reg [
    ⟨(some 16), none, .mov (.s 1)⟩,
    ⟨(some 17), none, .bin .lss (.s 16) (.c (.t (.int .i64 0)))⟩] [1, 17])
  (.cond (.s 17)
    (.seq (.reg [
      ⟨(some 4), none, .mov (.c (.t (.int .i64 (-1))))⟩] [4])
    (.ret))
    (.skip)))
  (.seq (.reg [
    ⟨(some 18), none, .mov (.s 1)⟩,
    ⟨(some 4), none, .mov (.s 18)⟩] [4])
  (.ret))))))⟩
theorem t_laws_szAtom : tbl 103 = some M_laws_szAtom := tblOf_eq Try.func103 (by kernel_rfl) (by kernel_rfl)

/-- loop.example/g01921/spec.DominatesLocation -/
def B_spec_DominatesLocation_0 : MCode :=
  .seq (.seq (.reg [
    ⟨(some 11), none, .mov (.s 5)⟩,
    ⟨(some 12), none, .mov (.s 0)⟩,
    ⟨(some 13), none, .len false (.s 12)⟩,
    ⟨(some 14), none, .bin .lss (.s 11) (.s 13)⟩] [0, 1, 5, 14])
  (.cond (.s 14)
    (.skip)
    (.exit 0)))
  (.seq (.block 1 (.seq (.drw [
    ⟨(some 17), none, .mov (.s 0)⟩,
    ⟨(some 18), none, .mov (.s 5)⟩,
    ⟨(some 19), none, .iaddr 1 (.s 17) (.s 18)⟩,
    ⟨(some 20), none, .load none (.s 19)⟩,
    ⟨(some 21), none, .mov (.s 1)⟩,
    ⟨(some 22), none, .mov (.s 5)⟩,
    ⟨(some 23), none, .iaddr 1 (.s 21) (.s 22)⟩,
    ⟨(some 24), none, .load none (.s 23)⟩,
    ⟨(some 25), none, .bin .lss (.s 20) (.s 24)⟩] [[], [], [0, 1], [2], [], [], [4, 5], [6], [3, 7]] [0, 1, 5, 25])
  (.cond (.s 25)
    (.seq (.reg [
      ⟨(some 4), none, .mov (.c (.t (.bool false)))⟩] [4])
    (.ret))
    (.skip))))
  (.reg [
    ⟨(some 15), none, .mov (.s 5)⟩,
    ⟨(some 16), none, .bin .add (.s 15) (.c (.t (.int .i64 1)))⟩,
    ⟨(some 5), none, .mov (.s 16)⟩] [0, 1, 5]))

def M_spec_DominatesLocation : MFun := ⟨2, 26, [.tmp 4],
  .seq (.reg [
    ⟨(some 4), none, .mov (.c (.t (.bool false)))⟩] [0, 1])
  (.seq (.seq (.reg [
    ⟨(some 6), none, .mov (.s 0)⟩,
    ⟨(some 7), none, .len false (.s 6)⟩,
    ⟨(some 8), none, .mov (.s 1)⟩,
    ⟨(some 9), none, .len false (.s 8)⟩,
    ⟨(some 10), none, .bin .neq (.s 7) (.s 9)⟩] [0, 1, 10])
  (.cond (.s 10)
    (.seq (.reg [
      ⟨(some 4), none, .mov (.c (.t (.bool false)))⟩] [4])
    (.ret))
    (.skip)))
  (.seq (.seq (.reg [
    ⟨(some 5), none, .mov (.c (.t (.int .i64 0)))⟩] [0, 1, 5])
  (.block 0 (.loop [0, 1, 5] B_spec_DominatesLocation_0)))
  (.seq (.reg [
    ⟨(some 4), none, .mov (.c (.t (.bool true)))⟩] [4])
  (.ret))))⟩
theorem t_spec_DominatesLocation : tbl 104 = some M_spec_DominatesLocation := tblOf_eq Try.func104 (by kernel_rfl) (by kernel_rfl)

/-- loop.example/g01921/laws.toAtom -/
def M_laws_toAtom : MFun := ⟨1, 12, [.cell 2 (some 2)],
  .seq (.reg [
    ⟨(some 1), none, .box (.s 0)⟩,
    ⟨(some 2), none, .alloc [(.t (.str ⟨#[]⟩)), (.t .nil)]⟩] [1, 2])
  (.seq (.reg [
    ⟨(some 3), none, .alloc [(.t (.str ⟨#[]⟩)), (.t .nil)]⟩] [1, 2, 3])
  (.seq (.reg [
    ⟨(some 4), none, .faddr 0 (.s 1)⟩,
    ⟨(some 5), none, .load none (.s 4)⟩,
    ⟨(some 6), none, .faddr 0 (.s 3)⟩,
    ⟨none, none, .store 1 (.s 6) (.s 5)⟩] [1, 2, 3])
  (.seq (.reg [
    ⟨(some 7), none, .faddr 1 (.s 1)⟩,
    ⟨(some 8), none, .load none (.s 7)⟩,
    ⟨(some 9), none, .call 17 [(.s 8)]⟩,
    ⟨(some 10), none, .faddr 1 (.s 3)⟩,
    ⟨none, none, .store 1 (.s 10) (.s 9)⟩] [2, 3])
  (.seq (.reg [
    ⟨(some 11), none, .load (some 2) (.s 3)⟩,
    ⟨none, none, .store 2 (.s 2) (.s 11)⟩] [2])
  (.ret)))))⟩
theorem t_laws_toAtom : tbl 105 = some M_laws_toAtom := tblOf_eq Try.func105 (by kernel_rfl) (by kernel_rfl)

/-- slices.EqualFunc[[]loop.example/g01921/impl.Atom,[]loop.example/g01921/impl.Atom,loop.example/g01921/impl.Atom,loop.example/g01921/impl.Atom] -/
def B_slices_EqualFunc___impl_Atom___impl_Atom_impl_Atom_impl_Atom__0 : MCode :=
  .seq (.reg [
    ⟨(some 18), none, .bin .lss (.s 17) (.s 16)⟩] [1, 2, 15, 16, 17, 18])
  (.seq (.cond (.s 18)
    (.skip)
    (.exit 0))
  (.seq (.block 1 (.seq (.reg [
    ⟨(some 19), none, .mov (.s 17)⟩,
    ⟨(some 20), none, .iaddr 2 (.s 15) (.s 17)⟩,
    ⟨(some 21), none, .load (some 2) (.s 20)⟩,
    ⟨(some 8), none, .alloc [(.t (.str ⟨#[]⟩)), (.t .nil)]⟩,
    ⟨(some 7), none, .mov (.s 19)⟩,
    ⟨none, none, .store 2 (.s 8) (.s 21)⟩] [1, 2, 7, 8, 15, 16, 17])
  (.seq (.reg [
    ⟨(some 22), none, .mov (.s 1)⟩,
    ⟨(some 23), none, .mov (.s 7)⟩,
    ⟨(some 24), none, .iaddr 2 (.s 22) (.s 23)⟩,
    ⟨(some 25), none, .load (some 2) (.s 24)⟩,
    ⟨(some 9), none, .alloc [(.t (.str ⟨#[]⟩)), (.t .nil)]⟩,
    ⟨none, none, .store 2 (.s 9) (.s 25)⟩] [1, 2, 8, 9, 15, 16, 17])
  (.seq (.reg [
    ⟨(some 26), none, .mov (.s 2)⟩,
    ⟨(some 27), none, .load (some 2) (.s 8)⟩,
    ⟨(some 28), none, .load (some 2) (.s 9)⟩,
    ⟨(some 29), none, .dcall (.s 26) [(.s 27), (.s 28)]⟩,
    ⟨(some 30), none, .un .not (.s 29)⟩] [1, 2, 15, 16, 17, 30])
  (.cond (.s 30)
    (.seq (.reg [
      ⟨(some 6), none, .mov (.c (.t (.bool false)))⟩] [6])
    (.ret))
    (.skip))))))
  (.reg [
    ⟨(some 31), none, .bin .add (.s 17) (.c (.t (.int .i64 1)))⟩,
    ⟨(some 17), none, .mov (.s 31)⟩] [1, 2, 15, 16, 17])))

def M_slices_EqualFunc___impl_Atom___impl_Atom_impl_Atom_impl_Atom_ : MFun := ⟨3, 32, [.tmp 6],
  .seq (.reg [
    ⟨(some 6), none, .mov (.c (.t (.bool false)))⟩] [0, 1, 2])
  (.seq (.seq (.reg [
    ⟨(some 10), none, .mov (.s 0)⟩,
    ⟨(some 11), none, .len false (.s 10)⟩,
    ⟨(some 12), none, .mov (.s 1)⟩,
    ⟨(some 13), none, .len false (.s 12)⟩,
    ⟨(some 14), none, .bin .neq (.s 11) (.s 13)⟩] [0, 1, 2, 14])
  (.cond (.s 14)
    (.seq (.reg [
      ⟨(some 6), none, .mov (.c (.t (.bool false)))⟩] [6])
    (.ret))
    (.skip)))
  (.seq (.seq (.reg [
    ⟨(some 15), none, .mov (.s 0)⟩,
    ⟨(some 16), none, .len false (.s 15)⟩,
    ⟨(some 17), none, .mov (.c (.t (.int .i64 0)))⟩] [1, 2, 15, 16, 17])
  (.block 0 (.loop [1, 2, 15, 16, 17] B_slices_EqualFunc___impl_Atom___impl_Atom_impl_Atom_impl_Atom__0)))
  (.seq (.reg [
    ⟨(some 6), none, .mov (.c (.t (.bool true)))⟩] [6])
  (.ret))))⟩
theorem t_slices_EqualFunc___impl_Atom___impl_Atom_impl_Atom_impl_Atom_ : tbl 106 = some M_slices_EqualFunc___impl_Atom___impl_Atom_impl_Atom_impl_Atom_ := tblOf_eq Try.func106 (by kernel_rfl) (by kernel_rfl)

/-- loop.example/g01921/impl.equalAtoms -/
def M_impl_equalAtoms : MFun := ⟨2, 17, [.tmp 4],
  .seq (.reg [
    ⟨(some 2), none, .box (.s 0)⟩,
    ⟨(some 3), none, .box (.s 1)⟩,
    ⟨(some 4), none, .mov (.c (.t (.bool false)))⟩] [2, 3])
  (.seq (.reg [
    ⟨(some 5), none, .faddr 0 (.s 2)⟩,
    ⟨(some 6), none, .load none (.s 5)⟩,
    ⟨(some 7), none, .faddr 0 (.s 3)⟩,
    ⟨(some 8), none, .load none (.s 7)⟩,
    ⟨(some 9), none, .bin .eql (.s 6) (.s 8)⟩,
    ⟨(some 10), none, .mov (.s 9)⟩,
    ⟨(some 11), (some (10, true)), .faddr 1 (.s 2)⟩,
    ⟨(some 12), (some (10, true)), .load none (.s 11)⟩,
    ⟨(some 13), (some (10, true)), .faddr 1 (.s 3)⟩,
    ⟨(some 14), (some (10, true)), .load none (.s 13)⟩,
    ⟨(some 15), (some (10, true)), .call 133 [(.s 12), (.s 14)]⟩,
    ⟨(some 16), none, .pick (.s 10) (.s 15) (.c (.t (.bool false)))⟩,
    ⟨(some 4), none, .mov (.s 16)⟩] [4])
  (.ret))⟩
theorem t_impl_equalAtoms : tbl 107 = some M_impl_equalAtoms := tblOf_eq Try.func107 (by kernel_rfl) (by kernel_rfl)

/-- loop.example/g01921/impl.IsValidBox -/
def M_impl_IsValidBox : MFun := ⟨1, 24, [.tmp 2],
  .seq (.reg [
    ⟨(some 1), none, .box (.s 0)⟩,
    ⟨(some 2), none, .mov (.c (.t (.bool false)))⟩] [1])
  (.seq (.reg [
    ⟨(some 3), none, .faddr 0 (.s 1)⟩,
    ⟨(some 4), none, .load none (.s 3)⟩,
    ⟨(some 5), none, .call 134 [(.s 4)]⟩,
    ⟨(some 6), none, .mov (.s 5)⟩,
    ⟨(some 7), (some (6, true)), .faddr 1 (.s 1)⟩,
    ⟨(some 8), (some (6, true)), .load none (.s 7)⟩,
    ⟨(some 9), (some (6, true)), .call 134 [(.s 8)]⟩,
    ⟨(some 10), none, .pick (.s 6) (.s 9) (.c (.t (.bool false)))⟩,
    ⟨(some 11), none, .mov (.s 10)⟩,
    ⟨(some 12), (some (11, true)), .faddr 0 (.s 1)⟩,
    ⟨(some 13), (some (11, true)), .load none (.s 12)⟩,
    ⟨(some 14), (some (11, true)), .len false (.s 13)⟩,
    ⟨(some 15), (some (11, true)), .bin .gtr (.s 14) (.c (.t (.int .i64 0)))⟩,
    ⟨(some 16), none, .pick (.s 11) (.s 15) (.c (.t (.bool false)))⟩,
    ⟨(some 17), none, .mov (.s 16)⟩,
    ⟨(some 18), (some (17, true)), .faddr 1 (.s 1)⟩,
    ⟨(some 19), (some (17, true)), .load none (.s 18)⟩,
    ⟨(some 20), (some (17, true)), .faddr 0 (.s 1)⟩,
    ⟨(some 21), (some (17, true)), .load none (.s 20)⟩,
    ⟨(some 22), (some (17, true)), .call 109 [(.s 19), (.s 21)]⟩,
    ⟨(some 23), none, .pick (.s 17) (.s 22) (.c (.t (.bool false)))⟩,
    ⟨(some 2), none, .mov (.s 23)⟩] [2])
  (.ret))⟩
theorem t_impl_IsValidBox : tbl 108 = some M_impl_IsValidBox := tblOf_eq Try.func108 (by kernel_rfl) (by kernel_rfl)

/-- loop.example/g01921/impl.DominatesLocation -/
def B_impl_DominatesLocation_0 : MCode :=
  .seq (.reg [
    ⟨(some 14), none, .bin .lss (.s 13) (.s 12)⟩] [0, 1, 12, 13, 14])
  (.seq (.cond (.s 14)
    (.skip)
    (.exit 0))
  (.seq (.block 1 (.seq (.reg [
    ⟨(some 15), none, .mov (.s 13)⟩,
    ⟨(some 5), none, .mov (.s 15)⟩] [0, 1, 5, 12, 13])
  (.seq (.drw [
    ⟨(some 16), none, .mov (.s 0)⟩,
    ⟨(some 17), none, .mov (.s 5)⟩,
    ⟨(some 18), none, .iaddr 1 (.s 16) (.s 17)⟩,
    ⟨(some 19), none, .load none (.s 18)⟩,
    ⟨(some 20), none, .mov (.s 1)⟩,
    ⟨(some 21), none, .mov (.s 5)⟩,
    ⟨(some 22), none, .iaddr 1 (.s 20) (.s 21)⟩,
    ⟨(some 23), none, .load none (.s 22)⟩,
    ⟨(some 24), none, .bin .lss (.s 19) (.s 23)⟩] [[], [], [0, 1], [2], [], [], [4, 5], [6], [3, 7]] [0, 1, 12, 13, 24])
  (.cond (.s 24)
    (.seq (.reg [
      ⟨(some 4), none, .mov (.c (.t (.bool false)))⟩] [4])
    (.ret))
    (.skip)))))
  (.reg [
    ⟨(some 25), none, .bin .add (.s 13) (.c (.t (.int .i64 1)))⟩,
    ⟨(some 13), none, .mov (.s 25)⟩] [0, 1, 12, 13])))

def M_impl_DominatesLocation : MFun := ⟨2, 26, [.tmp 4],
  .seq (.reg [
    ⟨(some 4), none, .mov (.c (.t (.bool false)))⟩] [0, 1])
  (.seq (.seq (.reg [
    ⟨(some 6), none, .mov (.s 0)⟩,
    ⟨(some 7), none, .len false (.s 6)⟩,
    ⟨(some 8), none, .mov (.s 1)⟩,
    ⟨(some 9), none, .len false (.s 8)⟩,
    ⟨(some 10), none, .bin .neq (.s 7) (.s 9)⟩] [0, 1, 10])
  (.cond (.s 10)
    (.seq (.reg [
      ⟨(some 4), none, .mov (.c (.t (.bool false)))⟩] [4])
    (.ret))
    (.skip)))
  (.seq (.seq (.reg [
    ⟨(some 11), none, .mov (.s 0)⟩,
    ⟨(some 12), none, .len false (.s 11)⟩,
    ⟨(some 13), none, .mov (.c (.t (.int .i64 0)))⟩] [0, 1, 12, 13])
  (.block 0 (.loop [0, 1, 12, 13] B_impl_DominatesLocation_0)))
  (.seq (.reg [
    ⟨(some 4), none, .mov (.c (.t (.bool true)))⟩] [4])
  (.ret))))⟩
theorem t_impl_DominatesLocation : tbl 109 = some M_impl_DominatesLocation := tblOf_eq Try.func109 (by kernel_rfl) (by kernel_rfl)

/-- loop.example/g01921/laws.eqAtom -/
def M_laws_eqAtom : MFun := ⟨2, 16, [.tmp 4],
  .seq (.reg [
    ⟨(some 2), none, .box (.s 0)⟩,
    ⟨(some 3), none, .box (.s 1)⟩,
    ⟨(some 4), none, .mov (.c (.t (.bool false)))⟩] [2, 3])
  (.seq (.seq (.reg [
    ⟨(some 5), none, .faddr 0 (.s 2)⟩,
    ⟨(some 6), none, .load none (.s 5)⟩,
    ⟨(some 7), none, .faddr 0 (.s 3)⟩,
    ⟨(some 8), none, .load none (.s 7)⟩,
    ⟨(some 9), none, .bin .neq (.s 6) (.s 8)⟩] [2, 3, 9])
  (.cond (.s 9)
    (.seq (.reg [
      ⟨(some 4), none, .mov (.c (.t (.bool false)))⟩] [4])
    (.ret))
    (.skip)))
  (.seq (.seq (.reg [
    ⟨(some 10), none, .faddr 1 (.s 2)⟩,
    ⟨(some 11), none, .load none (.s 10)⟩,
    ⟨(some 12), none, .faddr 1 (.s 3)⟩,
    ⟨(some 13), none, .load none (.s 12)⟩,
    ⟨(some 14), none, .call 20 [(.s 11), (.s 13)]⟩,
    ⟨(some 15), none, .un .not (.s 14)⟩] [15])
  (.cond (.s 15)
    (.seq (.reg [
      ⟨(some 4), none, .mov (.c (.t (.bool false)))⟩] [4])
    (.ret))
    (.skip)))
  (.seq (.reg [
    ⟨(some 4), none, .mov (.c (.t (.bool true)))⟩] [4])
  (.ret))))⟩
theorem t_laws_eqAtom : tbl 110 = some M_laws_eqAtom := tblOf_eq Try.func110 (by kernel_rfl) (by kernel_rfl)

/-- loop.example/g01921/spec.IsValidQuery -/
def B_spec_IsValidQuery_0 : MCode :=
  .seq (.seq (.reg [
    ⟨(some 41), none, .mov (.s 6)⟩,
    ⟨(some 42), none, .faddr 1 (.s 5)⟩,
    ⟨(some 43), none, .load none (.s 42)⟩,
    ⟨(some 44), none, .len false (.s 43)⟩,
    ⟨(some 45), none, .bin .lss (.s 41) (.s 44)⟩] [1, 3, 4, 5, 6, 45])
  (.cond (.s 45)
    (.skip)
    (.exit 2)))
  (.seq (.block 3 (.seq (.seq (.drw [
    ⟨(some 48), none, .faddr 1 (.s 5)⟩,
    ⟨(some 49), none, .load none (.s 48)⟩,
    ⟨(some 50), none, .mov (.s 6)⟩,
    ⟨(some 51), none, .iaddr 1 (.s 49) (.s 50)⟩,
    ⟨(some 52), none, .load none (.s 51)⟩,
    ⟨(some 53), none, .faddr 0 (.s 1)⟩,
    ⟨(some 54), none, .load none (.s 53)⟩,
    ⟨(some 55), none, .bin .sub (.s 54) (.c (.t (.int .i64 1)))⟩,
    ⟨(some 56), none, .call 78 [(.s 52), (.c (.t (.int .i64 0))), (.s 55)]⟩,
    ⟨(some 57), none, .un .not (.s 56)⟩,
    ⟨(some 58), none, .mov (.s 57)⟩,
    ⟨(some 59), (some (58, false)), .faddr 1 (.s 5)⟩,
    ⟨(some 60), (some (58, false)), .load none (.s 59)⟩,
    ⟨(some 61), (some (58, false)), .mov (.s 6)⟩,
    ⟨(some 62), (some (58, false)), .slice (some 1) (.s 60) none (some (.s 61))⟩,
    ⟨(some 63), (some (58, false)), .faddr 1 (.s 5)⟩,
    ⟨(some 64), (some (58, false)), .load none (.s 63)⟩,
    ⟨(some 65), (some (58, false)), .mov (.s 6)⟩,
    ⟨(some 66), (some (58, false)), .iaddr 1 (.s 64) (.s 65)⟩,
    ⟨(some 67), (some (58, false)), .load none (.s 66)⟩,
    ⟨(some 68), (some (58, false)), .call 126 [(.s 62), (.s 67)]⟩,
    ⟨(some 69), none, .pick (.s 58) (.c (.t (.bool true))) (.s 68)⟩] [[], [0], [], [1, 2], [3], [], [5], [6], [4, 7], [8], [9, 8], [10], [11, 10], [10], [12, 13, 10], [10], [15, 10], [10], [16, 17, 10], [18, 10], [14, 19, 10, 10], [10, 20]] [1, 3, 4, 5, 6, 69])
  (.cond (.s 69)
    (.seq (.reg [
      ⟨(some 2), none, .mov (.c (.t (.bool false)))⟩] [2])
    (.ret))
    (.skip)))
  (.reg [
    ⟨(some 70), none, .mov (.s 3)⟩,
    ⟨(some 71), none, .faddr 1 (.s 5)⟩,
    ⟨(some 72), none, .load none (.s 71)⟩,
    ⟨(some 73), none, .mov (.s 6)⟩,
    ⟨(some 74), none, .iaddr 1 (.s 72) (.s 73)⟩,
    ⟨(some 75), none, .load none (.s 74)⟩,
    ⟨(some 76), none, .bin .shl (.c (.t (.int .i64 1))) (.s 75)⟩,
    ⟨(some 77), none, .bin .or (.s 70) (.s 76)⟩,
    ⟨(some 3), none, .mov (.s 77)⟩] [1, 3, 4, 5, 6])))
  (.reg [
    ⟨(some 46), none, .mov (.s 6)⟩,
    ⟨(some 47), none, .bin .add (.s 46) (.c (.t (.int .i64 1)))⟩,
    ⟨(some 6), none, .mov (.s 47)⟩] [1, 3, 4, 5, 6]))

def B_spec_IsValidQuery_1 : MCode :=
  .seq (.seq (.reg [
    ⟨(some 18), none, .mov (.s 4)⟩,
    ⟨(some 19), none, .faddr 1 (.s 1)⟩,
    ⟨(some 20), none, .load none (.s 19)⟩,
    ⟨(some 21), none, .len false (.s 20)⟩,
    ⟨(some 22), none, .bin .lss (.s 18) (.s 21)⟩] [1, 3, 4, 22])
  (.cond (.s 22)
    (.skip)
    (.exit 0)))
  (.seq (.block 1 (.seq (.reg [
    ⟨(some 25), none, .faddr 1 (.s 1)⟩,
    ⟨(some 26), none, .load none (.s 25)⟩,
    ⟨(some 27), none, .mov (.s 4)⟩,
    ⟨(some 28), none, .iaddr 2 (.s 26) (.s 27)⟩,
    ⟨(some 29), none, .load (some 2) (.s 28)⟩,
    ⟨(some 5), none, .alloc [(.t (.str ⟨#[]⟩)), (.t .nil)]⟩,
    ⟨none, none, .store 2 (.s 5) (.s 29)⟩] [1, 3, 4, 5])
  (.seq (.seq (.reg [
    ⟨(some 30), none, .faddr 0 (.s 5)⟩,
    ⟨(some 31), none, .load none (.s 30)⟩,
    ⟨(some 32), none, .call 135 [(.s 31)]⟩,
    ⟨(some 33), none, .un .not (.s 32)⟩,
    ⟨(some 34), none, .mov (.s 33)⟩,
    ⟨(some 35), (some (34, false)), .faddr 1 (.s 5)⟩,
    ⟨(some 36), (some (34, false)), .load none (.s 35)⟩,
    ⟨(some 37), (some (34, false)), .len false (.s 36)⟩,
    ⟨(some 38), (some (34, false)), .call 78 [(.s 37), (.c (.t (.int .i64 1))), (.c (.t (.int .i64 3)))]⟩,
    ⟨(some 39), (some (34, false)), .un .not (.s 38)⟩,
    ⟨(some 40), none, .pick (.s 34) (.c (.t (.bool true))) (.s 39)⟩] [1, 3, 4, 5, 40])
  (.cond (.s 40)
    (.seq (.reg [
      ⟨(some 2), none, .mov (.c (.t (.bool false)))⟩] [2])
    (.ret))
    (.skip)))
  (.seq (.reg [
    ⟨(some 6), none, .mov (.c (.t (.int .i64 0)))⟩] [1, 3, 4, 5, 6])
  (.block 2 (.loop [1, 3, 4, 5, 6] B_spec_IsValidQuery_0))))))
  (.reg [
    ⟨(some 23), none, .mov (.s 4)⟩,
    ⟨(some 24), none, .bin .add (.s 23) (.c (.t (.int .i64 1)))⟩,
    ⟨(some 4), none, .mov (.s 24)⟩] [1, 3, 4]))

def M_spec_IsValidQuery : MFun := ⟨1, 84, [.tmp 2],
  .seq (.reg [
    ⟨(some 1), none, .box (.s 0)⟩,
    ⟨(some 2), none, .mov (.c (.t (.bool false)))⟩] [1])
  (.seq (.seq (.reg [
    ⟨(some 7), none, .faddr 0 (.s 1)⟩,
    ⟨(some 8), none, .load none (.s 7)⟩,
    ⟨(some 9), none, .call 78 [(.s 8), (.c (.t (.int .i64 1))), (.c (.t (.int .i64 4)))]⟩,
    ⟨(some 10), none, .un .not (.s 9)⟩,
    ⟨(some 11), none, .mov (.s 10)⟩,
    ⟨(some 12), (some (11, false)), .faddr 1 (.s 1)⟩,
    ⟨(some 13), (some (11, false)), .load none (.s 12)⟩,
    ⟨(some 14), (some (11, false)), .len false (.s 13)⟩,
    ⟨(some 15), (some (11, false)), .call 78 [(.s 14), (.c (.t (.int .i64 1))), (.c (.t (.int .i64 4)))]⟩,
    ⟨(some 16), (some (11, false)), .un .not (.s 15)⟩,
    ⟨(some 17), none, .pick (.s 11) (.c (.t (.bool true))) (.s 16)⟩] [1, 17])
  (.cond (.s 17)
    (.seq (.reg [
      ⟨(some 2), none, .mov (.c (.t (.bool false)))⟩] [2])
    (.ret))
    (.skip)))
  (.seq (.reg [
    ⟨(some 3), none, .mov (.c (.t (.int .i64 0)))⟩] [1, 3])
  (.seq (.seq (.reg [
    ⟨(some 4), none, .mov (.c (.t (.int .i64 0)))⟩] [1, 3, 4])
  (.block 0 (.loop [1, 3, 4] B_spec_IsValidQuery_1)))
  (.seq (.reg [
    ⟨(some 78), none, .mov (.s 3)⟩,
    ⟨(some 79), none, .faddr 0 (.s 1)⟩,
    ⟨(some 80), none, .load none (.s 79)⟩,
    ⟨(some 81), none, .bin .shl (.c (.t (.int .i64 1))) (.s 80)⟩,
    ⟨(some 82), none, .bin .sub (.s 81) (.c (.t (.int .i64 1)))⟩,
    ⟨(some 83), none, .bin .eql (.s 78) (.s 82)⟩,
    ⟨(some 2), none, .mov (.s 83)⟩] [2])
  (.ret)))))⟩
theorem t_spec_IsValidQuery : tbl 111 = some M_spec_IsValidQuery := tblOf_eq Try.func111 (by kernel_rfl) (by kernel_rfl)

/-- loop.example/g01921/spec.l23Step -/
def M_spec_l23Step : MFun := ⟨4, 214, [.cell 8 (some 4), .tmp 9],
  .seq (.reg [
    ⟨(some 4), none, .box (.s 0)⟩,
    ⟨(some 5), none, .box (.s 1)⟩,
    ⟨(some 8), none, .alloc [(.t (.int .i64 0)), (.t (.int .i64 0)), (.t (.int .i64 0)), (.t (.int .i64 0))]⟩,
    ⟨(some 9), none, .mov (.c (.t (.int .i64 0)))⟩] [2, 3, 4, 5, 8])
  (.seq (.reg [
    ⟨(some 15), none, .mov (.s 3)⟩,
    ⟨(some 16), none, .len false (.s 15)⟩,
    ⟨(some 10), none, .mov (.s 16)⟩] [2, 3, 4, 5, 8, 10])
  (.seq (.seq (.reg [
    ⟨(some 17), none, .faddr 0 (.s 5)⟩,
    ⟨(some 18), none, .load none (.s 17)⟩] [2, 3, 4, 5, 8, 10, 18])
  (.block 0 (.seq (.reg [
    ⟨(some 20), none, .bin .eql (.s 18) (.c (.t (.int .i64 1)))⟩,
    ⟨(some 19), none, .mov (.s 20)⟩] [2, 3, 4, 5, 8, 10, 18, 19])
  (.cond (.s 19)
    (.seq (.seq (.reg [
      ⟨(some 21), none, .faddr 1 (.s 5)⟩,
      ⟨(some 22), none, .load none (.s 21)⟩,
      ⟨(some 23), none, .faddr 1 (.s 4)⟩,
      ⟨(some 24), none, .load none (.s 23)⟩,
      ⟨(some 25), none, .len false (.s 24)⟩,
      ⟨(some 26), none, .bin .sub (.s 25) (.c (.t (.int .i64 1)))⟩,
      ⟨(some 27), none, .call 78 [(.s 22), (.c (.t (.int .i64 0))), (.s 26)]⟩,
      ⟨(some 28), none, .un .not (.s 27)⟩,
      ⟨(some 29), none, .mov (.s 28)⟩,
      ⟨(some 30), (some (29, false)), .faddr 2 (.s 5)⟩,
      ⟨(some 31), (some (29, false)), .load none (.s 30)⟩,
      ⟨(some 32), (some (29, false)), .bin .neq (.s 31) (.c (.t (.int .i64 0)))⟩,
      ⟨(some 33), none, .pick (.s 29) (.c (.t (.bool true))) (.s 32)⟩] [4, 5, 8, 33])
    (.cond (.s 33)
      (.seq (.reg [
        ⟨(some 34), none, .build [(.t (.int .i64 0)), (.t (.int .i64 0)), (.t (.int .i64 0)), (.t (.int .i64 0))] []⟩,
        ⟨none, none, .store 4 (.s 8) (.s 34)⟩,
        ⟨(some 9), none, .mov (.c (.t (.int .i64 (-1))))⟩] [8, 9])
      (.ret))
      (.skip)))
    (.seq (.drw [
      ⟨(some 35), none, .faddr 1 (.s 5)⟩,
      ⟨(some 36), none, .load none (.s 35)⟩,
      ⟨(some 37), none, .bin .shl (.c (.t (.int .i64 1))) (.s 36)⟩,
      ⟨(some 38), none, .faddr 1 (.s 4)⟩,
      ⟨(some 39), none, .load none (.s 38)⟩,
      ⟨(some 40), none, .faddr 1 (.s 5)⟩,
      ⟨(some 41), none, .load none (.s 40)⟩,
      ⟨(some 42), none, .iaddr 2 (.s 39) (.s 41)⟩,
      ⟨(some 43), none, .faddr 1 (.s 42)⟩,
      ⟨(some 44), none, .load none (.s 43)⟩,
      ⟨(some 45), none, .iaddr 1 (.s 44) (.c (.t (.int .i64 0)))⟩,
      ⟨(some 46), none, .load none (.s 45)⟩,
      ⟨(some 47), none, .build [(.t (.int .i64 0)), (.t (.int .i64 0)), (.t (.int .i64 0)), (.t (.int .i64 0))] [(0, 1, (.s 37)), (1, 1, (.s 46)), (2, 1, (.c (.t (.int .i64 (-1))))), (3, 1, (.c (.t (.int .i64 (-1)))))]⟩,
      ⟨none, none, .store 4 (.s 8) (.s 47)⟩,
      ⟨(some 9), none, .mov (.c (.t (.int .i64 0)))⟩] [[], [0], [1], [], [3], [], [5], [4, 6], [7], [8], [9], [10], [2, 11], [12, 0, 1, 2, 3, 4, 5, 6, 7, 8, 9, 10, 11, 12], [13, 0, 1, 2, 3, 4, 5, 6, 7, 8, 9, 10, 11, 12, 13]] [8, 9])
    (.ret)))
    (.seq (.reg [
      ⟨(some 49), none, .bin .eql (.s 18) (.c (.t (.int .i64 2)))⟩,
      ⟨(some 48), none, .mov (.s 49)⟩] [2, 3, 4, 5, 8, 10, 18, 48])
    (.cond (.s 48)
      (.seq (.seq (.drw [
        ⟨(some 50), none, .faddr 1 (.s 5)⟩,
        ⟨(some 51), none, .load none (.s 50)⟩,
        ⟨(some 52), none, .bin .neq (.s 51) (.c (.t (.int .i64 0)))⟩,
        ⟨(some 53), none, .mov (.s 52)⟩,
        ⟨(some 54), (some (53, false)), .mov (.s 10)⟩,
        ⟨(some 55), (some (53, false)), .bin .lss (.s 54) (.c (.t (.int .i64 1)))⟩,
        ⟨(some 56), none, .pick (.s 53) (.c (.t (.bool true))) (.s 55)⟩,
        ⟨(some 57), none, .mov (.s 56)⟩,
        ⟨(some 58), (some (57, false)), .mov (.s 2)⟩,
        ⟨(some 59), (some (57, false)), .mov (.s 3)⟩,
        ⟨(some 60), (some (57, false)), .mov (.s 10)⟩,
        ⟨(some 61), (some (57, false)), .bin .sub (.s 60) (.c (.t (.int .i64 1)))⟩,
        ⟨(some 62), (some (57, false)), .iaddr 1 (.s 59) (.s 61)⟩,
        ⟨(some 63), (some (57, false)), .load none (.s 62)⟩,
        ⟨(some 64), (some (57, false)), .iaddr 4 (.s 58) (.s 63)⟩,
        ⟨(some 65), (some (57, false)), .faddr 1 (.s 64)⟩,
        ⟨(some 66), (some (57, false)), .load none (.s 65)⟩,
        ⟨(some 67), (some (57, false)), .faddr 2 (.s 5)⟩,
        ⟨(some 68), (some (57, false)), .load none (.s 67)⟩,
        ⟨(some 69), (some (57, false)), .bin .eql (.s 66) (.s 68)⟩,
        ⟨(some 70), none, .pick (.s 57) (.c (.t (.bool true))) (.s 69)⟩,
        ⟨(some 71), none, .mov (.s 70)⟩,
        ⟨(some 72), (some (71, false)), .load (some 2) (.s 4)⟩,
        ⟨(some 73), (some (71, false)), .mov (.s 2)⟩,
        ⟨(some 74), (some (71, false)), .mov (.s 3)⟩,
        ⟨(some 75), (some (71, false)), .mov (.s 10)⟩,
        ⟨(some 76), (some (71, false)), .bin .sub (.s 75) (.c (.t (.int .i64 1)))⟩,
        ⟨(some 77), (some (71, false)), .iaddr 1 (.s 74) (.s 76)⟩,
        ⟨(some 78), (some (71, false)), .load none (.s 77)⟩,
        ⟨(some 79), (some (71, false)), .iaddr 4 (.s 73) (.s 78)⟩,
        ⟨(some 80), (some (71, false)), .faddr 0 (.s 79)⟩,
        ⟨(some 81), (some (71, false)), .load none (.s 80)⟩,
        ⟨(some 82), (some (71, false)), .call 137 [(.s 72), (.s 81)]⟩,
        ⟨(some 83), (some (71, false)), .faddr 2 (.s 5)⟩,
        ⟨(some 84), (some (71, false)), .load none (.s 83)⟩,
        ⟨(some 85), (some (71, false)), .call 136 [(.s 82), (.s 84)]⟩,
        ⟨(some 86), (some (71, false)), .un .not (.s 85)⟩,
        ⟨(some 87), none, .pick (.s 71) (.c (.t (.bool true))) (.s 86)⟩] [[], [0], [1], [2], [3], [4, 3], [3, 5], [6, 3], [7], [7], [7], [10, 7], [9, 11, 7], [12, 7], [8, 13, 7], [14, 7], [15, 7], [7], [17, 7], [16, 18, 7], [7, 19], [20, 7], [21], [21], [21], [21], [25, 21], [24, 26, 21], [27, 21], [23, 28, 21], [29, 21], [30, 21], [22, 31, 21, 21], [21], [33, 21], [32, 34, 32, 21], [35, 21], [21, 36]] [2, 3, 5, 8, 10, 87])
      (.cond (.s 87)
        (.seq (.reg [
          ⟨(some 88), none, .build [(.t (.int .i64 0)), (.t (.int .i64 0)), (.t (.int .i64 0)), (.t (.int .i64 0))] []⟩,
          ⟨none, none, .store 4 (.s 8) (.s 88)⟩,
          ⟨(some 9), none, .mov (.c (.t (.int .i64 (-1))))⟩] [8, 9])
        (.ret))
        (.skip)))
      (.seq (.drw [
        ⟨(some 89), none, .mov (.s 2)⟩,
        ⟨(some 90), none, .mov (.s 3)⟩,
        ⟨(some 91), none, .mov (.s 10)⟩,
        ⟨(some 92), none, .bin .sub (.s 91) (.c (.t (.int .i64 1)))⟩,
        ⟨(some 93), none, .iaddr 1 (.s 90) (.s 92)⟩,
        ⟨(some 94), none, .load none (.s 93)⟩,
        ⟨(some 95), none, .iaddr 4 (.s 89) (.s 94)⟩,
        ⟨(some 96), none, .faddr 0 (.s 95)⟩,
        ⟨(some 97), none, .load none (.s 96)⟩,
        ⟨(some 98), none, .faddr 2 (.s 5)⟩,
        ⟨(some 99), none, .load none (.s 98)⟩,
        ⟨(some 100), none, .mov (.s 3)⟩,
        ⟨(some 101), none, .mov (.s 10)⟩,
        ⟨(some 102), none, .bin .sub (.s 101) (.c (.t (.int .i64 1)))⟩,
        ⟨(some 103), none, .iaddr 1 (.s 100) (.s 102)⟩,
        ⟨(some 104), none, .load none (.s 103)⟩,
        ⟨(some 105), none, .build [(.t (.int .i64 0)), (.t (.int .i64 0)), (.t (.int .i64 0)), (.t (.int .i64 0))] [(0, 1, (.s 97)), (1, 1, (.s 99)), (2, 1, (.s 104)), (3, 1, (.c (.t (.int .i64 (-1)))))]⟩,
        ⟨none, none, .store 4 (.s 8) (.s 105)⟩,
        ⟨(some 9), none, .mov (.c (.t (.int .i64 1)))⟩] [[], [], [], [2], [1, 3], [4], [0, 5], [6], [7], [], [9], [], [], [12], [11, 13], [14], [8, 10, 15], [16, 0, 1, 2, 3, 4, 5, 6, 7, 8, 9, 10, 11, 12, 13, 14, 15, 16], [17, 0, 1, 2, 3, 4, 5, 6, 7, 8, 9, 10, 11, 12, 13, 14, 15, 16, 17]] [8, 9])
      (.ret)))
      (.seq (.seq (.reg [
        ⟨(some 107), none, .bin .eql (.s 18) (.c (.t (.int .i64 3)))⟩,
        ⟨(some 106), none, .mov (.s 107)⟩] [2, 3, 4, 5, 8, 10, 18, 106])
      (.cond (.s 106)
        (.skip)
        (.seq (.reg [
          ⟨(some 108), none, .bin .eql (.s 18) (.c (.t (.int .i64 4)))⟩,
          ⟨(some 106), none, .mov (.s 108)⟩] [2, 3, 4, 5, 8, 10, 18, 106])
        (.cond (.s 106)
          (.skip)
          (.reg [
            ⟨(some 109), none, .bin .eql (.s 18) (.c (.t (.int .i64 5)))⟩,
            ⟨(some 106), none, .mov (.s 109)⟩] [2, 3, 4, 5, 8, 10, 106])))))
      (.cond (.s 106)
        (.seq (.seq (.reg [
          ⟨(some 110), none, .faddr 1 (.s 5)⟩,
          ⟨(some 111), none, .load none (.s 110)⟩,
          ⟨(some 112), none, .bin .neq (.s 111) (.c (.t (.int .i64 0)))⟩,
          ⟨(some 113), none, .mov (.s 112)⟩,
          ⟨(some 114), (some (113, false)), .mov (.s 10)⟩,
          ⟨(some 115), (some (113, false)), .bin .lss (.s 114) (.c (.t (.int .i64 2)))⟩,
          ⟨(some 116), none, .pick (.s 113) (.c (.t (.bool true))) (.s 115)⟩] [2, 3, 4, 5, 8, 10, 116])
        (.cond (.s 116)
          (.seq (.reg [
            ⟨(some 117), none, .build [(.t (.int .i64 0)), (.t (.int .i64 0)), (.t (.int .i64 0)), (.t (.int .i64 0))] []⟩,
            ⟨none, none, .store 4 (.s 8) (.s 117)⟩,
            ⟨(some 9), none, .mov (.c (.t (.int .i64 (-1))))⟩] [8, 9])
          (.ret))
          (.skip)))
        (.seq (.reg [
          ⟨(some 118), none, .mov (.s 2)⟩,
          ⟨(some 119), none, .mov (.s 3)⟩,
          ⟨(some 120), none, .mov (.s 10)⟩,
          ⟨(some 121), none, .bin .sub (.s 120) (.c (.t (.int .i64 2)))⟩,
          ⟨(some 122), none, .iaddr 1 (.s 119) (.s 121)⟩,
          ⟨(some 123), none, .load none (.s 122)⟩,
          ⟨(some 124), none, .iaddr 4 (.s 118) (.s 123)⟩,
          ⟨(some 125), none, .load (some 4) (.s 124)⟩,
          ⟨(some 11), none, .alloc [(.t (.int .i64 0)), (.t (.int .i64 0)), (.t (.int .i64 0)), (.t (.int .i64 0))]⟩,
          ⟨none, none, .store 4 (.s 11) (.s 125)⟩] [2, 3, 4, 5, 8, 10, 11])
        (.seq (.reg [
          ⟨(some 126), none, .mov (.s 2)⟩,
          ⟨(some 127), none, .mov (.s 3)⟩,
          ⟨(some 128), none, .mov (.s 10)⟩,
          ⟨(some 129), none, .bin .sub (.s 128) (.c (.t (.int .i64 1)))⟩,
          ⟨(some 130), none, .iaddr 1 (.s 127) (.s 129)⟩,
          ⟨(some 131), none, .load none (.s 130)⟩,
          ⟨(some 132), none, .iaddr 4 (.s 126) (.s 131)⟩,
          ⟨(some 133), none, .load (some 4) (.s 132)⟩,
          ⟨(some 12), none, .alloc [(.t (.int .i64 0)), (.t (.int .i64 0)), (.t (.int .i64 0)), (.t (.int .i64 0))]⟩,
          ⟨none, none, .store 4 (.s 12) (.s 133)⟩] [3, 4, 5, 8, 10, 11, 12])
        (.seq (.drw [
          ⟨(some 134), none, .load (some 2) (.s 4)⟩,
          ⟨(some 135), none, .faddr 0 (.s 11)⟩,
          ⟨(some 136), none, .load none (.s 135)⟩,
          ⟨(some 137), none, .call 137 [(.s 134), (.s 136)]⟩,
          ⟨(some 138), none, .load (some 2) (.s 4)⟩,
          ⟨(some 139), none, .faddr 0 (.s 12)⟩,
          ⟨(some 140), none, .load none (.s 139)⟩,
          ⟨(some 141), none, .call 137 [(.s 138), (.s 140)]⟩,
          ⟨(some 142), none, .bin .and (.s 137) (.s 141)⟩,
          ⟨(some 13), none, .mov (.s 142)⟩] [[], [], [1], [0, 2], [], [], [5], [4, 6, 3], [3, 7], [8, 7, 0, 1, 2, 3, 4, 5, 6, 7, 8]] [3, 5, 8, 10, 11, 12, 13])
        (.seq (.seq (.reg [
          ⟨(some 143), none, .faddr 0 (.s 11)⟩,
          ⟨(some 144), none, .load none (.s 143)⟩,
          ⟨(some 145), none, .faddr 0 (.s 12)⟩,
          ⟨(some 146), none, .load none (.s 145)⟩,
          ⟨(some 147), none, .bin .and (.s 144) (.s 146)⟩,
          ⟨(some 148), none, .bin .neq (.s 147) (.c (.t (.int .i64 0)))⟩,
          ⟨(some 149), none, .mov (.s 148)⟩,
          ⟨(some 150), (some (149, false)), .mov (.s 13)⟩,
          ⟨(some 151), (some (149, false)), .bin .eql (.s 150) (.c (.t (.int .i64 0)))⟩,
          ⟨(some 152), none, .pick (.s 149) (.c (.t (.bool true))) (.s 151)⟩,
          ⟨(some 153), none, .mov (.s 152)⟩,
          ⟨(some 154), (some (153, false)), .faddr 0 (.s 5)⟩,
          ⟨(some 155), (some (153, false)), .load none (.s 154)⟩,
          ⟨(some 156), (some (153, false)), .bin .neq (.s 155) (.c (.t (.int .i64 4)))⟩,
          ⟨(some 157), (some (153, false)), .mov (.s 156)⟩,
          ⟨(some 158), (some (157, true)), .faddr 2 (.s 5)⟩,
          ⟨(some 159), (some (157, true)), .load none (.s 158)⟩,
          ⟨(some 160), (some (157, true)), .bin .neq (.s 159) (.c (.t (.int .i64 0)))⟩,
          ⟨(some 161), (some (153, false)), .pick (.s 157) (.s 160) (.c (.t (.bool false)))⟩,
          ⟨(some 162), none, .pick (.s 153) (.c (.t (.bool true))) (.s 161)⟩] [3, 5, 8, 10, 11, 12, 13, 162])
        (.cond (.s 162)
          (.seq (.reg [
            ⟨(some 163), none, .build [(.t (.int .i64 0)), (.t (.int .i64 0)), (.t (.int .i64 0)), (.t (.int .i64 0))] []⟩,
            ⟨none, none, .store 4 (.s 8) (.s 163)⟩,
            ⟨(some 9), none, .mov (.c (.t (.int .i64 (-1))))⟩] [8, 9])
          (.ret))
          (.skip)))
        (.seq (.drw [
          ⟨(some 164), none, .faddr 0 (.s 11)⟩,
          ⟨(some 165), none, .load none (.s 164)⟩,
          ⟨(some 166), none, .faddr 0 (.s 12)⟩,
          ⟨(some 167), none, .load none (.s 166)⟩,
          ⟨(some 168), none, .bin .or (.s 165) (.s 167)⟩,
          ⟨(some 169), none, .mov (.s 3)⟩,
          ⟨(some 170), none, .mov (.s 10)⟩,
          ⟨(some 171), none, .bin .sub (.s 170) (.c (.t (.int .i64 2)))⟩,
          ⟨(some 172), none, .iaddr 1 (.s 169) (.s 171)⟩,
          ⟨(some 173), none, .load none (.s 172)⟩,
          ⟨(some 174), none, .mov (.s 3)⟩,
          ⟨(some 175), none, .mov (.s 10)⟩,
          ⟨(some 176), none, .bin .sub (.s 175) (.c (.t (.int .i64 1)))⟩,
          ⟨(some 177), none, .iaddr 1 (.s 174) (.s 176)⟩,
          ⟨(some 178), none, .load none (.s 177)⟩,
          ⟨(some 179), none, .build [(.t (.int .i64 0)), (.t (.int .i64 0)), (.t (.int .i64 0)), (.t (.int .i64 0))] [(0, 1, (.s 168)), (1, 1, (.c (.t (.int .i64 (-1))))), (2, 1, (.s 173)), (3, 1, (.s 178))]⟩,
          ⟨(some 14), none, .alloc [(.t (.int .i64 0)), (.t (.int .i64 0)), (.t (.int .i64 0)), (.t (.int .i64 0))]⟩,
          ⟨none, none, .store 4 (.s 14) (.s 179)⟩] [[], [0], [], [2], [1, 3], [], [], [6], [5, 7], [8], [], [], [11], [10, 12], [13], [4, 9, 14], [], [16, 15, 0, 1, 2, 3, 4, 5, 6, 7, 8, 9, 10, 11, 12, 13, 14, 15, 16]] [5, 8, 11, 12, 13, 14])
        (.seq (.seq (.reg [
          ⟨(some 180), none, .faddr 0 (.s 5)⟩,
          ⟨(some 181), none, .load none (.s 180)⟩,
          ⟨(some 182), none, .bin .eql (.s 181) (.c (.t (.int .i64 5)))⟩] [5, 8, 11, 12, 13, 14, 182])
        (.cond (.s 182)
          (.reg [
            ⟨(some 183), none, .faddr 1 (.s 11)⟩,
            ⟨(some 184), none, .load none (.s 183)⟩,
            ⟨(some 185), none, .faddr 1 (.s 14)⟩,
            ⟨none, none, .store 1 (.s 185) (.s 184)⟩] [5, 8, 11, 12, 13, 14])
          (.skip)))
        (.seq (.seq (.reg [
          ⟨(some 186), none, .faddr 0 (.s 5)⟩,
          ⟨(some 187), none, .load none (.s 186)⟩,
          ⟨(some 188), none, .bin .eql (.s 187) (.c (.t (.int .i64 4)))⟩] [5, 8, 11, 12, 13, 14, 188])
        (.cond (.s 188)
          (.seq (.seq (.reg [
            ⟨(some 189), none, .mov (.s 13)⟩,
            ⟨(some 190), none, .faddr 2 (.s 5)⟩,
            ⟨(some 191), none, .load none (.s 190)⟩,
            ⟨(some 192), none, .call 136 [(.s 189), (.s 191)]⟩,
            ⟨(some 193), none, .un .not (.s 192)⟩,
            ⟨(some 194), none, .mov (.s 193)⟩,
            ⟨(some 195), (some (194, false)), .faddr 1 (.s 11)⟩,
            ⟨(some 196), (some (194, false)), .load none (.s 195)⟩,
            ⟨(some 197), (some (194, false)), .faddr 2 (.s 5)⟩,
            ⟨(some 198), (some (194, false)), .load none (.s 197)⟩,
            ⟨(some 199), (some (194, false)), .bin .neq (.s 196) (.s 198)⟩,
            ⟨(some 200), none, .pick (.s 194) (.c (.t (.bool true))) (.s 199)⟩,
            ⟨(some 201), none, .mov (.s 200)⟩,
            ⟨(some 202), (some (201, false)), .faddr 1 (.s 12)⟩,
            ⟨(some 203), (some (201, false)), .load none (.s 202)⟩,
            ⟨(some 204), (some (201, false)), .faddr 2 (.s 5)⟩,
            ⟨(some 205), (some (201, false)), .load none (.s 204)⟩,
            ⟨(some 206), (some (201, false)), .bin .neq (.s 203) (.s 205)⟩,
            ⟨(some 207), none, .pick (.s 201) (.c (.t (.bool true))) (.s 206)⟩] [5, 8, 14, 207])
          (.cond (.s 207)
            (.seq (.reg [
              ⟨(some 208), none, .build [(.t (.int .i64 0)), (.t (.int .i64 0)), (.t (.int .i64 0)), (.t (.int .i64 0))] []⟩,
              ⟨none, none, .store 4 (.s 8) (.s 208)⟩,
              ⟨(some 9), none, .mov (.c (.t (.int .i64 (-1))))⟩] [8, 9])
            (.ret))
            (.skip)))
          (.reg [
            ⟨(some 209), none, .faddr 2 (.s 5)⟩,
            ⟨(some 210), none, .load none (.s 209)⟩,
            ⟨(some 211), none, .faddr 1 (.s 14)⟩,
            ⟨none, none, .store 1 (.s 211) (.s 210)⟩] [8, 14]))
          (.skip)))
        (.seq (.reg [
          ⟨(some 212), none, .load (some 4) (.s 14)⟩,
          ⟨none, none, .store 4 (.s 8) (.s 212)⟩,
          ⟨(some 9), none, .mov (.c (.t (.int .i64 2)))⟩] [8, 9])
        (.ret))))))))))
        (.skip)))))))))
  (.seq (.reg [
    ⟨(some 213), none, .build [(.t (.int .i64 0)), (.t (.int .i64 0)), (.t (.int .i64 0)), (.t (.int .i64 0))] []⟩,
    ⟨none, none, .store 4 (.s 8) (.s 213)⟩,
    ⟨(some 9), none, .mov (.c (.t (.int .i64 (-1))))⟩] [8, 9])
  (.ret))))⟩
theorem t_spec_l23Step : tbl 112 = some M_spec_l23Step := tblOf_eq Try.func112 (by kernel_rfl) (by kernel_rfl)

/-- loop.example/g01921/spec.IsLocation -/
def B_spec_IsLocation_0 : MCode :=
  .seq (.seq (.reg [
    ⟨(some 4), none, .mov (.s 3)⟩,
    ⟨(some 5), none, .mov (.s 0)⟩,
    ⟨(some 6), none, .len false (.s 5)⟩,
    ⟨(some 7), none, .bin .lss (.s 4) (.s 6)⟩] [0, 3, 7])
  (.cond (.s 7)
    (.skip)
    (.exit 0)))
  (.seq (.block 1 (.seq (.reg [
    ⟨(some 10), none, .mov (.s 0)⟩,
    ⟨(some 11), none, .mov (.s 3)⟩,
    ⟨(some 12), none, .iaddr 1 (.s 10) (.s 11)⟩,
    ⟨(some 13), none, .load none (.s 12)⟩,
    ⟨(some 14), none, .call 78 [(.s 13), (.c (.t (.int .i64 0))), (.c (.t (.int .i64 7)))]⟩,
    ⟨(some 15), none, .un .not (.s 14)⟩] [0, 3, 15])
  (.cond (.s 15)
    (.seq (.reg [
      ⟨(some 2), none, .mov (.c (.t (.bool false)))⟩] [2])
    (.ret))
    (.skip))))
  (.reg [
    ⟨(some 8), none, .mov (.s 3)⟩,
    ⟨(some 9), none, .bin .add (.s 8) (.c (.t (.int .i64 1)))⟩,
    ⟨(some 3), none, .mov (.s 9)⟩] [0, 3]))

def M_spec_IsLocation : MFun := ⟨1, 19, [.tmp 2],
  .seq (.reg [
    ⟨(some 2), none, .mov (.c (.t (.bool false)))⟩] [0])
  (.seq (.seq (.reg [
    ⟨(some 3), none, .mov (.c (.t (.int .i64 0)))⟩] [0, 3])
  (.block 0 (.loop [0, 3] B_spec_IsLocation_0)))
  (.seq (.reg [
    ⟨(some 16), none, .mov (.s 0)⟩,
    ⟨(some 17), none, .len false (.s 16)⟩,
    ⟨(some 18), none, .bin .leq (.s 17) (.c (.t (.int .i64 16)))⟩,
    ⟨(some 2), none, .mov (.s 18)⟩] [2])
  (.ret)))⟩
theorem t_spec_IsLocation : tbl 113 = some M_spec_IsLocation := tblOf_eq Try.func113 (by kernel_rfl) (by kernel_rfl)

/-- loop.example/g01921/laws.toPlanStep -/
def M_laws_toPlanStep : MFun := ⟨1, 14, [.cell 2 (some 3)],
  .seq (.reg [
    ⟨(some 1), none, .box (.s 0)⟩,
    ⟨(some 2), none, .alloc [(.t (.int .i64 0)), (.t (.int .i64 0)), (.t (.int .i64 0))]⟩] [1, 2])
  (.seq (.reg [
    ⟨(some 3), none, .alloc [(.t (.int .i64 0)), (.t (.int .i64 0)), (.t (.int .i64 0))]⟩] [1, 2, 3])
  (.seq (.reg [
    ⟨(some 4), none, .faddr 0 (.s 1)⟩,
    ⟨(some 5), none, .load none (.s 4)⟩,
    ⟨(some 6), none, .faddr 0 (.s 3)⟩,
    ⟨none, none, .store 1 (.s 6) (.s 5)⟩] [1, 2, 3])
  (.seq (.reg [
    ⟨(some 7), none, .faddr 1 (.s 1)⟩,
    ⟨(some 8), none, .load none (.s 7)⟩,
    ⟨(some 9), none, .faddr 1 (.s 3)⟩,
    ⟨none, none, .store 1 (.s 9) (.s 8)⟩] [1, 2, 3])
  (.seq (.reg [
    ⟨(some 10), none, .faddr 2 (.s 1)⟩,
    ⟨(some 11), none, .load none (.s 10)⟩,
    ⟨(some 12), none, .faddr 2 (.s 3)⟩,
    ⟨none, none, .store 1 (.s 12) (.s 11)⟩] [2, 3])
  (.seq (.reg [
    ⟨(some 13), none, .load (some 3) (.s 3)⟩,
    ⟨none, none, .store 3 (.s 2) (.s 13)⟩] [2])
  (.ret))))))⟩
theorem t_laws_toPlanStep : tbl 114 = some M_laws_toPlanStep := tblOf_eq Try.func114 (by kernel_rfl) (by kernel_rfl)

/-- loop.example/g01921/impl.stepInfo -/
def M_impl_stepInfo : MFun := ⟨4, 202, [.cell 8 (some 4), .tmp 9],
  .seq (.reg [
    ⟨(some 4), none, .box (.s 0)⟩,
    ⟨(some 5), none, .box (.s 1)⟩,
    ⟨(some 8), none, .alloc [(.t (.int .i64 0)), (.t (.int .i64 0)), (.t (.int .i64 0)), (.t (.int .i64 0))]⟩,
    ⟨(some 9), none, .mov (.c (.t (.bool false)))⟩] [2, 3, 4, 5, 8])
  (.seq (.reg [
    ⟨(some 15), none, .build [(.t (.int .i64 0)), (.t (.int .i64 0)), (.t (.int .i64 0)), (.t (.int .i64 0))] [(1, 1, (.c (.t (.int .i64 (-1))))), (2, 1, (.c (.t (.int .i64 (-1))))), (3, 1, (.c (.t (.int .i64 (-1)))))]⟩,
    ⟨(some 10), none, .alloc [(.t (.int .i64 0)), (.t (.int .i64 0)), (.t (.int .i64 0)), (.t (.int .i64 0))]⟩,
    ⟨none, none, .store 4 (.s 10) (.s 15)⟩] [2, 3, 4, 5, 8, 10])
  (.seq (.seq (.reg [
    ⟨(some 16), none, .faddr 0 (.s 5)⟩,
    ⟨(some 17), none, .load none (.s 16)⟩,
    ⟨(some 18), none, .bin .eql (.s 17) (.c (.t (.int .i64 1)))⟩] [2, 3, 4, 5, 8, 10, 18])
  (.cond (.s 18)
    (.seq (.seq (.reg [
      ⟨(some 19), none, .faddr 1 (.s 5)⟩,
      ⟨(some 20), none, .load none (.s 19)⟩,
      ⟨(some 21), none, .faddr 1 (.s 4)⟩,
      ⟨(some 22), none, .load none (.s 21)⟩,
      ⟨(some 23), none, .len false (.s 22)⟩,
      ⟨(some 24), none, .bin .sub (.s 23) (.c (.t (.int .i64 1)))⟩,
      ⟨(some 25), none, .call 82 [(.s 20), (.c (.t (.int .i64 0))), (.s 24)]⟩,
      ⟨(some 26), none, .un .not (.s 25)⟩,
      ⟨(some 27), none, .mov (.s 26)⟩,
      ⟨(some 28), (some (27, false)), .faddr 2 (.s 5)⟩,
      ⟨(some 29), (some (27, false)), .load none (.s 28)⟩,
      ⟨(some 30), (some (27, false)), .bin .neq (.s 29) (.c (.t (.int .i64 0)))⟩,
      ⟨(some 31), none, .pick (.s 27) (.c (.t (.bool true))) (.s 30)⟩] [4, 5, 8, 10, 31])
    (.cond (.s 31)
      (.seq (.reg [
        ⟨(some 32), none, .load (some 4) (.s 10)⟩,
        ⟨none, none, .store 4 (.s 8) (.s 32)⟩,
        ⟨(some 9), none, .mov (.c (.t (.bool false)))⟩] [8, 9])
      (.ret))
      (.skip)))
    (.seq (.reg [
      ⟨(some 33), none, .faddr 1 (.s 5)⟩,
      ⟨(some 34), none, .load none (.s 33)⟩,
      ⟨(some 35), none, .bin .shl (.c (.t (.int .i64 1))) (.s 34)⟩,
      ⟨(some 36), none, .faddr 0 (.s 10)⟩,
      ⟨none, none, .store 1 (.s 36) (.s 35)⟩] [4, 5, 8, 10])
    (.seq (.reg [
      ⟨(some 37), none, .faddr 1 (.s 4)⟩,
      ⟨(some 38), none, .load none (.s 37)⟩,
      ⟨(some 39), none, .faddr 1 (.s 5)⟩,
      ⟨(some 40), none, .load none (.s 39)⟩,
      ⟨(some 41), none, .iaddr 2 (.s 38) (.s 40)⟩,
      ⟨(some 42), none, .faddr 1 (.s 41)⟩,
      ⟨(some 43), none, .load none (.s 42)⟩,
      ⟨(some 44), none, .iaddr 1 (.s 43) (.c (.t (.int .i64 0)))⟩,
      ⟨(some 45), none, .load none (.s 44)⟩,
      ⟨(some 46), none, .faddr 1 (.s 10)⟩,
      ⟨none, none, .store 1 (.s 46) (.s 45)⟩] [8, 10])
    (.seq (.reg [
      ⟨(some 47), none, .load (some 4) (.s 10)⟩,
      ⟨none, none, .store 4 (.s 8) (.s 47)⟩,
      ⟨(some 9), none, .mov (.c (.t (.bool true)))⟩] [8, 9])
    (.ret)))))
    (.skip)))
  (.seq (.reg [
    ⟨(some 48), none, .mov (.s 3)⟩,
    ⟨(some 49), none, .len false (.s 48)⟩,
    ⟨(some 11), none, .mov (.s 49)⟩] [2, 3, 4, 5, 8, 10, 11])
  (.seq (.seq (.reg [
    ⟨(some 50), none, .faddr 1 (.s 5)⟩,
    ⟨(some 51), none, .load none (.s 50)⟩,
    ⟨(some 52), none, .bin .neq (.s 51) (.c (.t (.int .i64 0)))⟩] [2, 3, 4, 5, 8, 10, 11, 52])
  (.cond (.s 52)
    (.seq (.reg [
      ⟨(some 53), none, .load (some 4) (.s 10)⟩,
      ⟨none, none, .store 4 (.s 8) (.s 53)⟩,
      ⟨(some 9), none, .mov (.c (.t (.bool false)))⟩] [8, 9])
    (.ret))
    (.skip)))
  (.seq (.seq (.reg [
    ⟨(some 54), none, .faddr 0 (.s 5)⟩,
    ⟨(some 55), none, .load none (.s 54)⟩,
    ⟨(some 56), none, .bin .eql (.s 55) (.c (.t (.int .i64 2)))⟩] [2, 3, 4, 5, 8, 10, 11, 56])
  (.cond (.s 56)
    (.seq (.seq (.drw [
      ⟨(some 57), none, .mov (.s 11)⟩,
      ⟨(some 58), none, .bin .lss (.s 57) (.c (.t (.int .i64 1)))⟩,
      ⟨(some 59), none, .mov (.s 58)⟩,
      ⟨(some 60), (some (59, false)), .load (some 2) (.s 4)⟩,
      ⟨(some 61), (some (59, false)), .mov (.s 2)⟩,
      ⟨(some 62), (some (59, false)), .mov (.s 3)⟩,
      ⟨(some 63), (some (59, false)), .mov (.s 11)⟩,
      ⟨(some 64), (some (59, false)), .bin .sub (.s 63) (.c (.t (.int .i64 1)))⟩,
      ⟨(some 65), (some (59, false)), .iaddr 1 (.s 62) (.s 64)⟩,
      ⟨(some 66), (some (59, false)), .load none (.s 65)⟩,
      ⟨(some 67), (some (59, false)), .iaddr 4 (.s 61) (.s 66)⟩,
      ⟨(some 68), (some (59, false)), .faddr 0 (.s 67)⟩,
      ⟨(some 69), (some (59, false)), .load none (.s 68)⟩,
      ⟨(some 70), (some (59, false)), .call 138 [(.s 60), (.s 69)]⟩,
      ⟨(some 71), (some (59, false)), .faddr 2 (.s 5)⟩,
      ⟨(some 72), (some (59, false)), .load none (.s 71)⟩,
      ⟨(some 73), (some (59, false)), .call 123 [(.s 70), (.s 72)]⟩,
      ⟨(some 74), (some (59, false)), .un .not (.s 73)⟩,
      ⟨(some 75), none, .pick (.s 59) (.c (.t (.bool true))) (.s 74)⟩,
      ⟨(some 76), none, .mov (.s 75)⟩,
      ⟨(some 77), (some (76, false)), .mov (.s 2)⟩,
      ⟨(some 78), (some (76, false)), .mov (.s 3)⟩,
      ⟨(some 79), (some (76, false)), .mov (.s 11)⟩,
      ⟨(some 80), (some (76, false)), .bin .sub (.s 79) (.c (.t (.int .i64 1)))⟩,
      ⟨(some 81), (some (76, false)), .iaddr 1 (.s 78) (.s 80)⟩,
      ⟨(some 82), (some (76, false)), .load none (.s 81)⟩,
      ⟨(some 83), (some (76, false)), .iaddr 4 (.s 77) (.s 82)⟩,
      ⟨(some 84), (some (76, false)), .faddr 1 (.s 83)⟩,
      ⟨(some 85), (some (76, false)), .load none (.s 84)⟩,
      ⟨(some 86), (some (76, false)), .faddr 2 (.s 5)⟩,
      ⟨(some 87), (some (76, false)), .load none (.s 86)⟩,
      ⟨(some 88), (some (76, false)), .bin .eql (.s 85) (.s 87)⟩,
      ⟨(some 89), none, .pick (.s 76) (.c (.t (.bool true))) (.s 88)⟩] [[], [0], [1], [2], [2], [2], [2], [6, 2], [5, 7, 2], [8, 2], [4, 9, 2], [10, 2], [11, 2], [3, 12, 2, 2], [2], [14, 2], [13, 15, 13, 2], [16, 2], [2, 17], [18, 16], [19], [19], [19], [22, 19], [21, 23, 19], [24, 19], [20, 25, 19], [26, 19], [27, 19], [19], [29, 19], [28, 30, 19], [19, 31]] [2, 3, 5, 8, 10, 11, 89])
    (.cond (.s 89)
      (.seq (.reg [
        ⟨(some 90), none, .load (some 4) (.s 10)⟩,
        ⟨none, none, .store 4 (.s 8) (.s 90)⟩,
        ⟨(some 9), none, .mov (.c (.t (.bool false)))⟩] [8, 9])
      (.ret))
      (.skip)))
    (.seq (.reg [
      ⟨(some 91), none, .mov (.s 3)⟩,
      ⟨(some 92), none, .mov (.s 11)⟩,
      ⟨(some 93), none, .bin .sub (.s 92) (.c (.t (.int .i64 1)))⟩,
      ⟨(some 94), none, .iaddr 1 (.s 91) (.s 93)⟩,
      ⟨(some 95), none, .load none (.s 94)⟩,
      ⟨(some 96), none, .faddr 2 (.s 10)⟩,
      ⟨none, none, .store 1 (.s 96) (.s 95)⟩] [2, 5, 8, 10])
    (.seq (.reg [
      ⟨(some 97), none, .mov (.s 2)⟩,
      ⟨(some 98), none, .faddr 2 (.s 10)⟩,
      ⟨(some 99), none, .load none (.s 98)⟩,
      ⟨(some 100), none, .iaddr 4 (.s 97) (.s 99)⟩,
      ⟨(some 101), none, .faddr 0 (.s 100)⟩,
      ⟨(some 102), none, .load none (.s 101)⟩,
      ⟨(some 103), none, .faddr 0 (.s 10)⟩,
      ⟨none, none, .store 1 (.s 103) (.s 102)⟩] [5, 8, 10])
    (.seq (.reg [
      ⟨(some 104), none, .faddr 2 (.s 5)⟩,
      ⟨(some 105), none, .load none (.s 104)⟩,
      ⟨(some 106), none, .faddr 1 (.s 10)⟩,
      ⟨none, none, .store 1 (.s 106) (.s 105)⟩] [8, 10])
    (.seq (.reg [
      ⟨(some 107), none, .load (some 4) (.s 10)⟩,
      ⟨none, none, .store 4 (.s 8) (.s 107)⟩,
      ⟨(some 9), none, .mov (.c (.t (.bool true)))⟩] [8, 9])
    (.ret))))))
    (.skip)))
  (.seq (.seq (.reg [
    ⟨(some 108), none, .mov (.s 11)⟩,
    ⟨(some 109), none, .bin .lss (.s 108) (.c (.t (.int .i64 2)))⟩] [2, 3, 4, 5, 8, 10, 11, 109])
  (.cond (.s 109)
    (.seq (.reg [
      ⟨(some 110), none, .load (some 4) (.s 10)⟩,
      ⟨none, none, .store 4 (.s 8) (.s 110)⟩,
      ⟨(some 9), none, .mov (.c (.t (.bool false)))⟩] [8, 9])
    (.ret))
    (.skip)))
  (.seq (.drw [
    ⟨(some 111), none, .mov (.s 3)⟩,
    ⟨(some 112), none, .mov (.s 11)⟩,
    ⟨(some 113), none, .bin .sub (.s 112) (.c (.t (.int .i64 2)))⟩,
    ⟨(some 114), none, .iaddr 1 (.s 111) (.s 113)⟩,
    ⟨(some 115), none, .load none (.s 114)⟩,
    ⟨(some 116), none, .mov (.s 3)⟩,
    ⟨(some 117), none, .mov (.s 11)⟩,
    ⟨(some 118), none, .bin .sub (.s 117) (.c (.t (.int .i64 1)))⟩,
    ⟨(some 119), none, .iaddr 1 (.s 116) (.s 118)⟩,
    ⟨(some 120), none, .load none (.s 119)⟩,
    ⟨(some 121), none, .faddr 2 (.s 10)⟩,
    ⟨none, none, .store 1 (.s 121) (.s 115)⟩,
    ⟨(some 122), none, .faddr 3 (.s 10)⟩,
    ⟨none, none, .store 1 (.s 122) (.s 120)⟩] [[], [], [1], [0, 2], [3], [], [], [6], [5, 7], [8], [0, 1, 2, 3, 4], [10, 4, 0, 1, 2, 3, 4], [0, 1, 2, 3, 4, 5, 6, 7, 8, 9, 10, 11], [12, 9, 11, 0, 1, 2, 3, 4, 5, 6, 7, 8, 9, 10, 11]] [2, 4, 5, 8, 10])
  (.seq (.drw [
    ⟨(some 123), none, .mov (.s 2)⟩,
    ⟨(some 124), none, .faddr 2 (.s 10)⟩,
    ⟨(some 125), none, .load none (.s 124)⟩,
    ⟨(some 126), none, .iaddr 4 (.s 123) (.s 125)⟩,
    ⟨(some 127), none, .load (some 4) (.s 126)⟩,
    ⟨(some 128), none, .mov (.s 2)⟩,
    ⟨(some 129), none, .faddr 3 (.s 10)⟩,
    ⟨(some 130), none, .load none (.s 129)⟩,
    ⟨(some 131), none, .iaddr 4 (.s 128) (.s 130)⟩,
    ⟨(some 132), none, .load (some 4) (.s 131)⟩,
    ⟨(some 12), none, .alloc [(.t (.int .i64 0)), (.t (.int .i64 0)), (.t (.int .i64 0)), (.t (.int .i64 0))]⟩,
    ⟨(some 13), none, .alloc [(.t (.int .i64 0)), (.t (.int .i64 0)), (.t (.int .i64 0)), (.t (.int .i64 0))]⟩,
    ⟨none, none, .store 4 (.s 12) (.s 127)⟩,
    ⟨none, none, .store 4 (.s 13) (.s 132)⟩] [[], [], [1], [0, 2], [3], [], [], [6], [5, 7], [8], [], [], [10, 4, 0, 1, 2, 3, 4, 10, 11], [11, 9, 12, 0, 1, 2, 3, 4, 5, 6, 7, 8, 9, 10, 11, 12]] [4, 5, 8, 10, 12, 13])
  (.seq (.drw [
    ⟨(some 133), none, .load (some 2) (.s 4)⟩,
    ⟨(some 134), none, .faddr 0 (.s 12)⟩,
    ⟨(some 135), none, .load none (.s 134)⟩,
    ⟨(some 136), none, .call 138 [(.s 133), (.s 135)]⟩,
    ⟨(some 137), none, .load (some 2) (.s 4)⟩,
    ⟨(some 138), none, .faddr 0 (.s 13)⟩,
    ⟨(some 139), none, .load none (.s 138)⟩,
    ⟨(some 140), none, .call 138 [(.s 137), (.s 139)]⟩,
    ⟨(some 141), none, .call 139 [(.s 136), (.s 140)]⟩,
    ⟨(some 14), none, .mov (.s 141)⟩] [[], [], [1], [0, 2], [], [], [5], [4, 6, 3], [3, 7, 7], [8, 8, 0, 1, 2, 3, 4, 5, 6, 7, 8]] [5, 8, 10, 12, 13, 14])
  (.seq (.reg [
    ⟨(some 142), none, .faddr 0 (.s 12)⟩,
    ⟨(some 143), none, .load none (.s 142)⟩,
    ⟨(some 144), none, .faddr 0 (.s 13)⟩,
    ⟨(some 145), none, .load none (.s 144)⟩,
    ⟨(some 146), none, .bin .or (.s 143) (.s 145)⟩,
    ⟨(some 147), none, .faddr 0 (.s 10)⟩,
    ⟨none, none, .store 1 (.s 147) (.s 146)⟩] [5, 8, 10, 12, 13, 14])
  (.seq (.seq (.reg [
    ⟨(some 148), none, .faddr 0 (.s 12)⟩,
    ⟨(some 149), none, .load none (.s 148)⟩,
    ⟨(some 150), none, .faddr 0 (.s 13)⟩,
    ⟨(some 151), none, .load none (.s 150)⟩,
    ⟨(some 152), none, .bin .and (.s 149) (.s 151)⟩,
    ⟨(some 153), none, .bin .neq (.s 152) (.c (.t (.int .i64 0)))⟩,
    ⟨(some 154), none, .mov (.s 153)⟩,
    ⟨(some 155), (some (154, false)), .mov (.s 14)⟩,
    ⟨(some 156), (some (154, false)), .len false (.s 155)⟩,
    ⟨(some 157), (some (154, false)), .bin .eql (.s 156) (.c (.t (.int .i64 0)))⟩,
    ⟨(some 158), none, .pick (.s 154) (.c (.t (.bool true))) (.s 157)⟩] [5, 8, 10, 12, 13, 14, 158])
  (.cond (.s 158)
    (.seq (.reg [
      ⟨(some 159), none, .load (some 4) (.s 10)⟩,
      ⟨none, none, .store 4 (.s 8) (.s 159)⟩,
      ⟨(some 9), none, .mov (.c (.t (.bool false)))⟩] [8, 9])
    (.ret))
    (.skip)))
  (.seq (.seq (.reg [
    ⟨(some 160), none, .faddr 0 (.s 5)⟩,
    ⟨(some 161), none, .load none (.s 160)⟩] [5, 8, 10, 12, 13, 14, 161])
  (.block 0 (.seq (.reg [
    ⟨(some 163), none, .bin .eql (.s 161) (.c (.t (.int .i64 3)))⟩,
    ⟨(some 162), none, .mov (.s 163)⟩] [5, 8, 10, 12, 13, 14, 161, 162])
  (.cond (.s 162)
    (.seq (.drw [
      ⟨(some 164), none, .load (some 4) (.s 10)⟩,
      ⟨(some 165), none, .faddr 2 (.s 5)⟩,
      ⟨(some 166), none, .load none (.s 165)⟩,
      ⟨(some 167), none, .bin .eql (.s 166) (.c (.t (.int .i64 0)))⟩,
      ⟨none, none, .store 4 (.s 8) (.s 164)⟩,
      ⟨(some 9), none, .mov (.s 167)⟩] [[], [], [1], [2], [0, 0], [3, 4, 0, 1, 2, 3, 4]] [8, 9])
    (.ret))
    (.seq (.reg [
      ⟨(some 169), none, .bin .eql (.s 161) (.c (.t (.int .i64 5)))⟩,
      ⟨(some 168), none, .mov (.s 169)⟩] [5, 8, 10, 12, 13, 14, 161, 168])
    (.cond (.s 168)
      (.seq (.reg [
        ⟨(some 170), none, .faddr 1 (.s 12)⟩,
        ⟨(some 171), none, .load none (.s 170)⟩,
        ⟨(some 172), none, .faddr 1 (.s 10)⟩,
        ⟨none, none, .store 1 (.s 172) (.s 171)⟩] [5, 8, 10])
      (.seq (.drw [
        ⟨(some 173), none, .load (some 4) (.s 10)⟩,
        ⟨(some 174), none, .faddr 2 (.s 5)⟩,
        ⟨(some 175), none, .load none (.s 174)⟩,
        ⟨(some 176), none, .bin .eql (.s 175) (.c (.t (.int .i64 0)))⟩,
        ⟨none, none, .store 4 (.s 8) (.s 173)⟩,
        ⟨(some 9), none, .mov (.s 176)⟩] [[], [], [1], [2], [0, 0], [3, 4, 0, 1, 2, 3, 4]] [8, 9])
      (.ret)))
      (.seq (.reg [
        ⟨(some 178), none, .bin .eql (.s 161) (.c (.t (.int .i64 4)))⟩,
        ⟨(some 177), none, .mov (.s 178)⟩] [5, 8, 10, 12, 13, 14, 177])
      (.cond (.s 177)
        (.seq (.reg [
          ⟨(some 179), none, .faddr 2 (.s 5)⟩,
          ⟨(some 180), none, .load none (.s 179)⟩,
          ⟨(some 181), none, .faddr 1 (.s 10)⟩,
          ⟨none, none, .store 1 (.s 181) (.s 180)⟩] [5, 8, 10, 12, 13, 14])
        (.seq (.drw [
          ⟨(some 182), none, .load (some 4) (.s 10)⟩,
          ⟨(some 183), none, .mov (.s 14)⟩,
          ⟨(some 184), none, .faddr 2 (.s 5)⟩,
          ⟨(some 185), none, .load none (.s 184)⟩,
          ⟨(some 186), none, .call 123 [(.s 183), (.s 185)]⟩,
          ⟨(some 187), none, .mov (.s 186)⟩,
          ⟨(some 188), (some (187, true)), .faddr 1 (.s 12)⟩,
          ⟨(some 189), (some (187, true)), .load none (.s 188)⟩,
          ⟨(some 190), (some (187, true)), .faddr 2 (.s 5)⟩,
          ⟨(some 191), (some (187, true)), .load none (.s 190)⟩,
          ⟨(some 192), (some (187, true)), .bin .eql (.s 189) (.s 191)⟩,
          ⟨(some 193), none, .pick (.s 187) (.s 192) (.c (.t (.bool false)))⟩,
          ⟨(some 194), none, .mov (.s 193)⟩,
          ⟨(some 195), (some (194, true)), .faddr 1 (.s 13)⟩,
          ⟨(some 196), (some (194, true)), .load none (.s 195)⟩,
          ⟨(some 197), (some (194, true)), .faddr 2 (.s 5)⟩,
          ⟨(some 198), (some (194, true)), .load none (.s 197)⟩,
          ⟨(some 199), (some (194, true)), .bin .eql (.s 196) (.s 198)⟩,
          ⟨(some 200), none, .pick (.s 194) (.s 199) (.c (.t (.bool false)))⟩,
          ⟨none, none, .store 4 (.s 8) (.s 182)⟩,
          ⟨(some 9), none, .mov (.s 200)⟩] [[], [], [], [2], [1, 3], [4, 4], [5], [6, 5], [5], [8, 5], [7, 9, 5], [5, 10], [11, 5], [12], [13, 12], [12], [15, 12], [14, 16, 12], [12, 17], [0, 12, 0], [18, 19, 0, 1, 2, 3, 4, 5, 6, 7, 8, 9, 10, 11, 12, 13, 14, 15, 16, 17, 18, 19]] [8, 9])
        (.ret)))
        (.skip)))))))))
  (.seq (.reg [
    ⟨(some 201), none, .load (some 4) (.s 10)⟩,
    ⟨none, none, .store 4 (.s 8) (.s 201)⟩,
    ⟨(some 9), none, .mov (.c (.t (.bool false)))⟩] [8, 9])
  (.ret))))))))))))))⟩
theorem t_impl_stepInfo : tbl 115 = some M_impl_stepInfo := tblOf_eq Try.func115 (by kernel_rfl) (by kernel_rfl)

/-- loop.example/g01921/laws.eqPlanStep -/
def M_laws_eqPlanStep : MFun := ⟨2, 20, [.tmp 4],
  .seq (.reg [
    ⟨(some 2), none, .box (.s 0)⟩,
    ⟨(some 3), none, .box (.s 1)⟩,
    ⟨(some 4), none, .mov (.c (.t (.bool false)))⟩] [2, 3])
  (.seq (.seq (.reg [
    ⟨(some 5), none, .faddr 0 (.s 2)⟩,
    ⟨(some 6), none, .load none (.s 5)⟩,
    ⟨(some 7), none, .faddr 0 (.s 3)⟩,
    ⟨(some 8), none, .load none (.s 7)⟩,
    ⟨(some 9), none, .bin .neq (.s 6) (.s 8)⟩] [2, 3, 9])
  (.cond (.s 9)
    (.seq (.reg [
      ⟨(some 4), none, .mov (.c (.t (.bool false)))⟩] [4])
    (.ret))
    (.skip)))
  (.seq (.seq (.reg [
    ⟨(some 10), none, .faddr 1 (.s 2)⟩,
    ⟨(some 11), none, .load none (.s 10)⟩,
    ⟨(some 12), none, .faddr 1 (.s 3)⟩,
    ⟨(some 13), none, .load none (.s 12)⟩,
    ⟨(some 14), none, .bin .neq (.s 11) (.s 13)⟩] [2, 3, 14])
  (.cond (.s 14)
    (.seq (.reg [
      ⟨(some 4), none, .mov (.c (.t (.bool false)))⟩] [4])
    (.ret))
    (.skip)))
  (.seq (.seq (.reg [
    ⟨(some 15), none, .faddr 2 (.s 2)⟩,
    ⟨(some 16), none, .load none (.s 15)⟩,
    ⟨(some 17), none, .faddr 2 (.s 3)⟩,
    ⟨(some 18), none, .load none (.s 17)⟩,
    ⟨(some 19), none, .bin .neq (.s 16) (.s 18)⟩] [19])
  (.cond (.s 19)
    (.seq (.reg [
      ⟨(some 4), none, .mov (.c (.t (.bool false)))⟩] [4])
    (.ret))
    (.skip)))
  (.seq (.reg [
    ⟨(some 4), none, .mov (.c (.t (.bool true)))⟩] [4])
  (.ret)))))⟩
theorem t_laws_eqPlanStep : tbl 116 = some M_laws_eqPlanStep := tblOf_eq Try.func116 (by kernel_rfl) (by kernel_rfl)

/-- loop.example/g01921/spec.l23First -/
def B_spec_l23First_0 : MCode :=
  .seq (.seq (.reg [
    ⟨(some 5), none, .mov (.s 0)⟩,
    ⟨(some 6), none, .mov (.s 1)⟩,
    ⟨(some 7), none, .iaddr 4 (.s 5) (.s 6)⟩,
    ⟨(some 8), none, .faddr 2 (.s 7)⟩,
    ⟨(some 9), none, .load none (.s 8)⟩,
    ⟨(some 10), none, .bin .geq (.s 9) (.c (.t (.int .i64 0)))⟩] [0, 1, 10])
  (.cond (.s 10)
    (.skip)
    (.exit 0)))
  (.block 1 (.reg [
    ⟨(some 11), none, .mov (.s 0)⟩,
    ⟨(some 12), none, .mov (.s 1)⟩,
    ⟨(some 13), none, .iaddr 4 (.s 11) (.s 12)⟩,
    ⟨(some 14), none, .faddr 2 (.s 13)⟩,
    ⟨(some 15), none, .load none (.s 14)⟩,
    ⟨(some 1), none, .mov (.s 15)⟩] [0, 1]))

def M_spec_l23First : MFun := ⟨2, 17, [.tmp 4],
  .seq (.reg [
    ⟨(some 4), none, .mov (.c (.t (.int .i64 0)))⟩] [0, 1])
  (.seq (.block 0 (.loop [0, 1] B_spec_l23First_0))
  (.seq (.reg [
    ⟨(some 16), none, .mov (.s 1)⟩,
    ⟨(some 4), none, .mov (.s 16)⟩] [4])
  (.ret)))⟩
theorem t_spec_l23First : tbl 117 = some M_spec_l23First := tblOf_eq Try.func117 (by kernel_rfl) (by kernel_rfl)

/-- loop.example/g01921/impl.copyPlan -/
def M_impl_copyPlan : MFun := ⟨1, 8, [.cell 2 (some 1)],
  .seq (.reg [
    ⟨(some 1), none, .box (.s 0)⟩,
    ⟨(some 2), none, .alloc [(.t .nil)]⟩] [1, 2])
  (.seq (.reg [
    ⟨(some 3), none, .bslice 154 3 0 [(.int .i64 0), (.int .i64 0), (.int .i64 0)] []⟩,
    ⟨(some 4), none, .faddr 0 (.s 1)⟩,
    ⟨(some 5), none, .load none (.s 4)⟩,
    ⟨(some 6), none, .append 154 3 24 false (.s 3) (.s 5)⟩,
    ⟨(some 7), none, .build [(.t .nil)] [(0, 1, (.s 6))]⟩,
    ⟨none, none, .store 1 (.s 2) (.s 7)⟩] [2])
  (.ret))⟩
theorem t_impl_copyPlan : tbl 118 = some M_impl_copyPlan := tblOf_eq Try.func118 (by kernel_rfl) (by kernel_rfl)

/-- loop.example/g01921/impl.begins -/
def B_impl_begins_0 : MCode :=
  .seq (.seq (.reg [
    ⟨(some 5), none, .mov (.s 0)⟩,
    ⟨(some 6), none, .mov (.s 1)⟩,
    ⟨(some 7), none, .iaddr 4 (.s 5) (.s 6)⟩,
    ⟨(some 8), none, .faddr 2 (.s 7)⟩,
    ⟨(some 9), none, .load none (.s 8)⟩,
    ⟨(some 10), none, .bin .geq (.s 9) (.c (.t (.int .i64 0)))⟩] [0, 1, 10])
  (.cond (.s 10)
    (.skip)
    (.exit 0)))
  (.block 1 (.reg [
    ⟨(some 11), none, .mov (.s 0)⟩,
    ⟨(some 12), none, .mov (.s 1)⟩,
    ⟨(some 13), none, .iaddr 4 (.s 11) (.s 12)⟩,
    ⟨(some 14), none, .faddr 2 (.s 13)⟩,
    ⟨(some 15), none, .load none (.s 14)⟩,
    ⟨(some 1), none, .mov (.s 15)⟩] [0, 1]))

def M_impl_begins : MFun := ⟨2, 17, [.tmp 4],
  .seq (.reg [
    ⟨(some 4), none, .mov (.c (.t (.int .i64 0)))⟩] [0, 1])
  (.seq (.block 0 (.loop [0, 1] B_impl_begins_0))
  (.seq (.reg [
    ⟨(some 16), none, .mov (.s 1)⟩,
    ⟨(some 4), none, .mov (.s 16)⟩] [4])
  (.ret)))⟩
theorem t_impl_begins : tbl 119 = some M_impl_begins := tblOf_eq Try.func119 (by kernel_rfl) (by kernel_rfl)

-- FAIL 120 loop.example/g01921/laws.markText: [convert 172 9]
/-- loop.example/g01921/laws.markIntS -/
def B_laws_markIntS_0 : MCode :=
  .seq (.seq (.reg [
    ⟨(some 6), none, .mov (.s 5)⟩,
    ⟨(some 7), none, .mov (.s 0)⟩,
    ⟨(some 8), none, .len false (.s 7)⟩,
    ⟨(some 9), none, .bin .lss (.s 6) (.s 8)⟩] [0, 1, 5, 9])
  (.cond (.s 9)
    (.skip)
    (.exit 0)))
  (.seq (.block 1 (.seq (.reg [
    ⟨(some 12), none, .mov (.s 0)⟩,
    ⟨(some 13), none, .mov (.s 5)⟩,
    ⟨(some 14), none, .mov (.s 1)⟩,
    ⟨(some 15), none, .iaddr 1 (.s 12) (.s 13)⟩,
    ⟨none, none, .store 1 (.s 15) (.s 14)⟩] [0, 1, 5])
  (.reg [
    ⟨(some 16), none, .mov (.s 1)⟩,
    ⟨(some 17), none, .bin .add (.s 16) (.c (.t (.int .i64 1)))⟩,
    ⟨(some 1), none, .mov (.s 17)⟩] [0, 1, 5])))
  (.reg [
    ⟨(some 10), none, .mov (.s 5)⟩,
    ⟨(some 11), none, .bin .add (.s 10) (.c (.t (.int .i64 1)))⟩,
    ⟨(some 5), none, .mov (.s 11)⟩] [0, 1, 5]))

def M_laws_markIntS : MFun := ⟨2, 19, [.tmp 4],
  .seq (.reg [
    ⟨(some 4), none, .mov (.c (.t (.int .i64 0)))⟩] [0, 1])
  (.seq (.seq (.reg [
    ⟨(some 5), none, .mov (.c (.t (.int .i64 0)))⟩] [0, 1, 5])
  (.block 0 (.loop [0, 1, 5] B_laws_markIntS_0)))
  (.seq (.reg [
    ⟨(some 18), none, .mov (.s 1)⟩,
    ⟨(some 4), none, .mov (.s 18)⟩] [4])
  (.ret)))⟩
theorem t_laws_markIntS : tbl 121 = some M_laws_markIntS := tblOf_eq Try.func121 (by kernel_rfl) (by kernel_rfl)

/-- loop.example/g01921/impl.nameOk -/
def M_impl_nameOk : MFun := ⟨1, 16, [.tmp 2],
  .seq (.reg [
    ⟨(some 2), none, .mov (.c (.t (.bool false)))⟩] [0])
  (.seq (.reg [
    ⟨(some 3), none, .mov (.s 0)⟩,
    ⟨(some 4), none, .len true (.s 3)⟩,
    ⟨(some 5), none, .bin .eql (.s 4) (.c (.t (.int .i64 1)))⟩,
    ⟨(some 6), none, .mov (.s 5)⟩,
    ⟨(some 7), (some (6, true)), .mov (.s 0)⟩,
    ⟨(some 8), (some (6, true)), .index (.s 7) (.c (.t (.int .i64 0)))⟩,
    ⟨(some 9), (some (6, true)), .bin .geq (.s 8) (.c (.t (.int .u8 97)))⟩,
    ⟨(some 10), none, .pick (.s 6) (.s 9) (.c (.t (.bool false)))⟩,
    ⟨(some 11), none, .mov (.s 10)⟩,
    ⟨(some 12), (some (11, true)), .mov (.s 0)⟩,
    ⟨(some 13), (some (11, true)), .index (.s 12) (.c (.t (.int .i64 0)))⟩,
    ⟨(some 14), (some (11, true)), .bin .leq (.s 13) (.c (.t (.int .u8 122)))⟩,
    ⟨(some 15), none, .pick (.s 11) (.s 14) (.c (.t (.bool false)))⟩,
    ⟨(some 2), none, .mov (.s 15)⟩] [2])
  (.ret))⟩
theorem t_impl_nameOk : tbl 122 = some M_impl_nameOk := tblOf_eq Try.func122 (by kernel_rfl) (by kernel_rfl)

/-- slices.Contains[[]int,int] -/
def M_slices_Contains___int_int_ : MFun := ⟨2, 9, [.tmp 4],
  .seq (.reg [
    ⟨(some 4), none, .mov (.c (.t (.bool false)))⟩] [0, 1])
  (.seq (.reg [
    ⟨(some 5), none, .mov (.s 0)⟩,
    ⟨(some 6), none, .mov (.s 1)⟩,
    ⟨(some 7), none, .call 130 [(.s 5), (.s 6)]⟩,
    ⟨(some 8), none, .bin .geq (.s 7) (.c (.t (.int .i64 0)))⟩,
    ⟨(some 4), none, .mov (.s 8)⟩] [4])
  (.ret))⟩
theorem t_slices_Contains___int_int_ : tbl 123 = some M_slices_Contains___int_int_ := tblOf_eq Try.func123 (by kernel_rfl) (by kernel_rfl)

/-- slices.Contains[[]bool,bool] -/
def M_slices_Contains___bool_bool_ : MFun := ⟨2, 9, [.tmp 4],
  .seq (.reg [
    ⟨(some 4), none, .mov (.c (.t (.bool false)))⟩] [0, 1])
  (.seq (.reg [
    ⟨(some 5), none, .mov (.s 0)⟩,
    ⟨(some 6), none, .mov (.s 1)⟩,
    ⟨(some 7), none, .call 140 [(.s 5), (.s 6)]⟩,
    ⟨(some 8), none, .bin .geq (.s 7) (.c (.t (.int .i64 0)))⟩,
    ⟨(some 4), none, .mov (.s 8)⟩] [4])
  (.ret))⟩
theorem t_slices_Contains___bool_bool_ : tbl 124 = some M_slices_Contains___bool_bool_ := tblOf_eq Try.func124 (by kernel_rfl) (by kernel_rfl)

/-- loop.example/g01921/spec.BoxVolume -/
def B_spec_BoxVolume_0 : MCode :=
  .seq (.seq (.reg [
    ⟨(some 8), none, .mov (.s 4)⟩,
    ⟨(some 9), none, .faddr 0 (.s 1)⟩,
    ⟨(some 10), none, .load none (.s 9)⟩,
    ⟨(some 11), none, .len false (.s 10)⟩,
    ⟨(some 12), none, .bin .lss (.s 8) (.s 11)⟩] [1, 3, 4, 12])
  (.cond (.s 12)
    (.skip)
    (.exit 0)))
  (.seq (.block 1 (.drw [
    ⟨(some 15), none, .mov (.s 3)⟩,
    ⟨(some 16), none, .faddr 1 (.s 1)⟩,
    ⟨(some 17), none, .load none (.s 16)⟩,
    ⟨(some 18), none, .mov (.s 4)⟩,
    ⟨(some 19), none, .iaddr 1 (.s 17) (.s 18)⟩,
    ⟨(some 20), none, .load none (.s 19)⟩,
    ⟨(some 21), none, .faddr 0 (.s 1)⟩,
    ⟨(some 22), none, .load none (.s 21)⟩,
    ⟨(some 23), none, .mov (.s 4)⟩,
    ⟨(some 24), none, .iaddr 1 (.s 22) (.s 23)⟩,
    ⟨(some 25), none, .load none (.s 24)⟩,
    ⟨(some 26), none, .bin .sub (.s 20) (.s 25)⟩,
    ⟨(some 27), none, .bin .add (.s 26) (.c (.t (.int .i64 1)))⟩,
    ⟨(some 28), none, .bin .mul (.s 15) (.s 27)⟩,
    ⟨(some 29), none, .mm false (.c (.t (.int .i64 401))) (.s 28)⟩,
    ⟨(some 3), none, .mov (.s 29)⟩] [[], [], [1], [], [2, 3], [4], [], [6], [], [7, 8], [9], [5, 10], [11], [0, 12], [13], [14, 0, 1, 2, 3, 4, 5, 6, 7, 8, 9, 10, 11, 12, 13, 14]] [1, 3, 4]))
  (.reg [
    ⟨(some 13), none, .mov (.s 4)⟩,
    ⟨(some 14), none, .bin .add (.s 13) (.c (.t (.int .i64 1)))⟩,
    ⟨(some 4), none, .mov (.s 14)⟩] [1, 3, 4]))

def M_spec_BoxVolume : MFun := ⟨1, 31, [.tmp 2],
  .seq (.reg [
    ⟨(some 1), none, .box (.s 0)⟩,
    ⟨(some 2), none, .mov (.c (.t (.int .i64 0)))⟩] [1])
  (.seq (.seq (.reg [
    ⟨(some 5), none, .load (some 2) (.s 1)⟩,
    ⟨(some 6), none, .call 65 [(.s 5)]⟩,
    ⟨(some 7), none, .un .not (.s 6)⟩] [1, 7])
  (.cond (.s 7)
    (.seq (.reg [
      ⟨(some 2), none, .mov (.c (.t (.int .i64 0)))⟩] [2])
    (.ret))
    (.skip)))
  (.seq (.reg [
    ⟨(some 3), none, .mov (.c (.t (.int .i64 1)))⟩] [1, 3])
  (.seq (.seq (.reg [
    ⟨(some 4), none, .mov (.c (.t (.int .i64 0)))⟩] [1, 3, 4])
  (.block 0 (.loop [1, 3, 4] B_spec_BoxVolume_0)))
  (.seq (.reg [
    ⟨(some 30), none, .mov (.s 3)⟩,
    ⟨(some 2), none, .mov (.s 30)⟩] [2])
  (.ret)))))⟩
theorem t_spec_BoxVolume : tbl 125 = some M_spec_BoxVolume := tblOf_eq Try.func125 (by kernel_rfl) (by kernel_rfl)

/-- loop.example/g01921/spec.l7Has -/
def B_spec_l7Has_0 : MCode :=
  .seq (.seq (.reg [
    ⟨(some 6), none, .mov (.s 5)⟩,
    ⟨(some 7), none, .mov (.s 0)⟩,
    ⟨(some 8), none, .len false (.s 7)⟩,
    ⟨(some 9), none, .bin .lss (.s 6) (.s 8)⟩] [0, 1, 5, 9])
  (.cond (.s 9)
    (.skip)
    (.exit 0)))
  (.seq (.block 1 (.seq (.reg [
    ⟨(some 12), none, .mov (.s 0)⟩,
    ⟨(some 13), none, .mov (.s 5)⟩,
    ⟨(some 14), none, .iaddr 1 (.s 12) (.s 13)⟩,
    ⟨(some 15), none, .load none (.s 14)⟩,
    ⟨(some 16), none, .mov (.s 1)⟩,
    ⟨(some 17), none, .bin .eql (.s 15) (.s 16)⟩] [0, 1, 5, 17])
  (.cond (.s 17)
    (.seq (.reg [
      ⟨(some 4), none, .mov (.c (.t (.bool true)))⟩] [4])
    (.ret))
    (.skip))))
  (.reg [
    ⟨(some 10), none, .mov (.s 5)⟩,
    ⟨(some 11), none, .bin .add (.s 10) (.c (.t (.int .i64 1)))⟩,
    ⟨(some 5), none, .mov (.s 11)⟩] [0, 1, 5]))

def M_spec_l7Has : MFun := ⟨2, 18, [.tmp 4],
  .seq (.reg [
    ⟨(some 4), none, .mov (.c (.t (.bool false)))⟩] [0, 1])
  (.seq (.seq (.reg [
    ⟨(some 5), none, .mov (.c (.t (.int .i64 0)))⟩] [0, 1, 5])
  (.block 0 (.loop [0, 1, 5] B_spec_l7Has_0)))
  (.seq (.reg [
    ⟨(some 4), none, .mov (.c (.t (.bool false)))⟩] [4])
  (.ret)))⟩
theorem t_spec_l7Has : tbl 126 = some M_spec_l7Has := tblOf_eq Try.func126 (by kernel_rfl) (by kernel_rfl)

/-- loop.example/g01921/impl.BoxVolume -/
def M_impl_BoxVolume : MFun := ⟨1, 9, [.tmp 2],
  .seq (.reg [
    ⟨(some 1), none, .box (.s 0)⟩,
    ⟨(some 2), none, .mov (.c (.t (.int .i64 0)))⟩] [1])
  (.seq (.seq (.reg [
    ⟨(some 3), none, .load (some 2) (.s 1)⟩,
    ⟨(some 4), none, .call 108 [(.s 3)]⟩,
    ⟨(some 5), none, .un .not (.s 4)⟩] [1, 5])
  (.cond (.s 5)
    (.seq (.reg [
      ⟨(some 2), none, .mov (.c (.t (.int .i64 0)))⟩] [2])
    (.ret))
    (.skip)))
  (.seq (.reg [
    ⟨(some 6), none, .load (some 2) (.s 1)⟩,
    ⟨(some 7), none, .call 141 [(.s 6)]⟩,
    ⟨(some 8), none, .mm false (.s 7) (.c (.t (.int .i64 401)))⟩,
    ⟨(some 2), none, .mov (.s 8)⟩] [2])
  (.ret)))⟩
theorem t_impl_BoxVolume : tbl 127 = some M_impl_BoxVolume := tblOf_eq Try.func127 (by kernel_rfl) (by kernel_rfl)

/-- loop.example/g01921/impl.differentIndices -/
def B_impl_differentIndices_0 : MCode :=
  .seq (.reg [
    ⟨(some 10), none, .bin .lss (.s 9) (.s 8)⟩] [0, 1, 7, 8, 9, 10])
  (.seq (.cond (.s 10)
    (.skip)
    (.exit 0))
  (.seq (.block 1 (.seq (.reg [
    ⟨(some 11), none, .mov (.s 9)⟩,
    ⟨(some 12), none, .iaddr 1 (.s 7) (.s 9)⟩,
    ⟨(some 13), none, .load none (.s 12)⟩,
    ⟨(some 5), none, .mov (.s 11)⟩,
    ⟨(some 6), none, .mov (.s 13)⟩] [0, 1, 5, 6, 7, 8, 9])
  (.seq (.reg [
    ⟨(some 14), none, .mov (.s 6)⟩,
    ⟨(some 15), none, .mov (.s 1)⟩,
    ⟨(some 16), none, .bin .sub (.s 15) (.c (.t (.int .i64 1)))⟩,
    ⟨(some 17), none, .call 82 [(.s 14), (.c (.t (.int .i64 0))), (.s 16)]⟩,
    ⟨(some 18), none, .un .not (.s 17)⟩,
    ⟨(some 19), none, .mov (.s 18)⟩,
    ⟨(some 20), (some (19, false)), .mov (.s 0)⟩,
    ⟨(some 21), (some (19, false)), .mov (.s 5)⟩,
    ⟨(some 22), (some (19, false)), .slice (some 1) (.s 20) none (some (.s 21))⟩,
    ⟨(some 23), (some (19, false)), .mov (.s 6)⟩,
    ⟨(some 24), (some (19, false)), .call 123 [(.s 22), (.s 23)]⟩,
    ⟨(some 25), none, .pick (.s 19) (.c (.t (.bool true))) (.s 24)⟩] [0, 1, 7, 8, 9, 25])
  (.cond (.s 25)
    (.seq (.reg [
      ⟨(some 4), none, .mov (.c (.t (.bool false)))⟩] [4])
    (.ret))
    (.skip)))))
  (.reg [
    ⟨(some 26), none, .bin .add (.s 9) (.c (.t (.int .i64 1)))⟩,
    ⟨(some 9), none, .mov (.s 26)⟩] [0, 1, 7, 8, 9])))

def M_impl_differentIndices : MFun := ⟨2, 30, [.tmp 4],
  .seq (.reg [
    ⟨(some 4), none, .mov (.c (.t (.bool false)))⟩] [0, 1])
  (.seq (.seq (.reg [
    ⟨(some 7), none, .mov (.s 0)⟩,
    ⟨(some 8), none, .len false (.s 7)⟩,
    ⟨(some 9), none, .mov (.c (.t (.int .i64 0)))⟩] [0, 1, 7, 8, 9])
  (.block 0 (.loop [0, 1, 7, 8, 9] B_impl_differentIndices_0)))
  (.seq (.reg [
    ⟨(some 27), none, .mov (.s 0)⟩,
    ⟨(some 28), none, .len false (.s 27)⟩,
    ⟨(some 29), none, .bin .gtr (.s 28) (.c (.t (.int .i64 0)))⟩,
    ⟨(some 4), none, .mov (.s 29)⟩] [4])
  (.ret)))⟩
theorem t_impl_differentIndices : tbl 128 = some M_impl_differentIndices := tblOf_eq Try.func128 (by kernel_rfl) (by kernel_rfl)

/-- loop.example/g01921/impl.SlackBudget -/
def M_impl_SlackBudget : MFun := ⟨2, 18, [.tmp 4],
  .seq (.reg [
    ⟨(some 4), none, .mov (.c (.t (.int .i64 0)))⟩] [0, 1])
  (.seq (.seq (.reg [
    ⟨(some 5), none, .mov (.s 0)⟩,
    ⟨(some 6), none, .call 82 [(.s 5), (.c (.t (.int .i64 0))), (.c (.t (.int .i64 1000000000000)))]⟩,
    ⟨(some 7), none, .un .not (.s 6)⟩,
    ⟨(some 8), none, .mov (.s 7)⟩,
    ⟨(some 9), (some (8, false)), .mov (.s 1)⟩,
    ⟨(some 10), (some (8, false)), .call 82 [(.s 9), (.c (.t (.int .i64 0))), (.c (.t (.int .i64 100)))]⟩,
    ⟨(some 11), (some (8, false)), .un .not (.s 10)⟩,
    ⟨(some 12), none, .pick (.s 8) (.c (.t (.bool true))) (.s 11)⟩] [0, 1, 12])
  (.cond (.s 12)
    (.seq (.reg [
      ⟨(some 4), none, .mov (.c (.t (.int .i64 (-1))))⟩] [4])
    (.ret))
    (.skip)))
  (.seq (.reg [
    ⟨(some 13), none, .mov (.s 0)⟩,
    ⟨(some 14), none, .mov (.s 1)⟩,
    ⟨(some 15), none, .bin .add (.c (.t (.int .i64 100))) (.s 14)⟩,
    ⟨(some 16), none, .bin .mul (.s 13) (.s 15)⟩,
    ⟨(some 17), none, .bin .quo (.s 16) (.c (.t (.int .i64 100)))⟩,
    ⟨(some 4), none, .mov (.s 17)⟩] [4])
  (.ret)))⟩
theorem t_impl_SlackBudget : tbl 129 = some M_impl_SlackBudget := tblOf_eq Try.func129 (by kernel_rfl) (by kernel_rfl)

/-- slices.Index[[]int,int] -/
def B_slices_Index___int_int__0 : MCode :=
  .seq (.reg [
    ⟨(some 9), none, .bin .lss (.s 8) (.s 7)⟩] [0, 1, 7, 8, 9])
  (.seq (.cond (.s 9)
    (.skip)
    (.exit 0))
  (.seq (.block 1 (.seq (.reg [
    ⟨(some 10), none, .mov (.s 8)⟩,
    ⟨(some 5), none, .mov (.s 10)⟩] [0, 1, 5, 7, 8])
  (.seq (.reg [
    ⟨(some 11), none, .mov (.s 1)⟩,
    ⟨(some 12), none, .mov (.s 0)⟩,
    ⟨(some 13), none, .mov (.s 5)⟩,
    ⟨(some 14), none, .iaddr 1 (.s 12) (.s 13)⟩,
    ⟨(some 15), none, .load none (.s 14)⟩,
    ⟨(some 16), none, .bin .eql (.s 11) (.s 15)⟩] [0, 1, 5, 7, 8, 16])
  (.cond (.s 16)
    (.seq (.reg [
      ⟨(some 17), none, .mov (.s 5)⟩,
      ⟨(some 4), none, .mov (.s 17)⟩] [4])
    (.ret))
    (.skip)))))
  (.reg [
    ⟨(some 18), none, .bin .add (.s 8) (.c (.t (.int .i64 1)))⟩,
    ⟨(some 8), none, .mov (.s 18)⟩] [0, 1, 7, 8])))

def M_slices_Index___int_int_ : MFun := ⟨2, 19, [.tmp 4],
  .seq (.reg [
    ⟨(some 4), none, .mov (.c (.t (.int .i64 0)))⟩] [0, 1])
  (.seq (.seq (.reg [
    ⟨(some 6), none, .mov (.s 0)⟩,
    ⟨(some 7), none, .len false (.s 6)⟩,
    ⟨(some 8), none, .mov (.c (.t (.int .i64 0)))⟩] [0, 1, 7, 8])
  (.block 0 (.loop [0, 1, 7, 8] B_slices_Index___int_int__0)))
  (.seq (.reg [
    ⟨(some 4), none, .mov (.c (.t (.int .i64 (-1))))⟩] [4])
  (.ret)))⟩
theorem t_slices_Index___int_int_ : tbl 130 = some M_slices_Index___int_int_ := tblOf_eq Try.func130 (by kernel_rfl) (by kernel_rfl)

/-- loop.example/g01921/impl.EqualPlans -/
def M_impl_EqualPlans : MFun := ⟨2, 10, [.tmp 4],
  .seq (.reg [
    ⟨(some 2), none, .box (.s 0)⟩,
    ⟨(some 3), none, .box (.s 1)⟩,
    ⟨(some 4), none, .mov (.c (.t (.bool false)))⟩] [2, 3])
  (.seq (.reg [
    ⟨(some 5), none, .faddr 0 (.s 2)⟩,
    ⟨(some 6), none, .load none (.s 5)⟩,
    ⟨(some 7), none, .faddr 0 (.s 3)⟩,
    ⟨(some 8), none, .load none (.s 7)⟩,
    ⟨(some 9), none, .call 142 [(.s 6), (.s 8)]⟩,
    ⟨(some 4), none, .mov (.s 9)⟩] [4])
  (.ret))⟩
theorem t_impl_EqualPlans : tbl 131 = some M_impl_EqualPlans := tblOf_eq Try.func131 (by kernel_rfl) (by kernel_rfl)

/-- loop.example/g01921/impl.EqualBoxes -/
def M_impl_EqualBoxes : MFun := ⟨2, 17, [.tmp 4],
  .seq (.reg [
    ⟨(some 2), none, .box (.s 0)⟩,
    ⟨(some 3), none, .box (.s 1)⟩,
    ⟨(some 4), none, .mov (.c (.t (.bool false)))⟩] [2, 3])
  (.seq (.reg [
    ⟨(some 5), none, .faddr 0 (.s 2)⟩,
    ⟨(some 6), none, .load none (.s 5)⟩,
    ⟨(some 7), none, .faddr 0 (.s 3)⟩,
    ⟨(some 8), none, .load none (.s 7)⟩,
    ⟨(some 9), none, .call 133 [(.s 6), (.s 8)]⟩,
    ⟨(some 10), none, .mov (.s 9)⟩,
    ⟨(some 11), (some (10, true)), .faddr 1 (.s 2)⟩,
    ⟨(some 12), (some (10, true)), .load none (.s 11)⟩,
    ⟨(some 13), (some (10, true)), .faddr 1 (.s 3)⟩,
    ⟨(some 14), (some (10, true)), .load none (.s 13)⟩,
    ⟨(some 15), (some (10, true)), .call 133 [(.s 12), (.s 14)]⟩,
    ⟨(some 16), none, .pick (.s 10) (.s 15) (.c (.t (.bool false)))⟩,
    ⟨(some 4), none, .mov (.s 16)⟩] [4])
  (.ret))⟩
theorem t_impl_EqualBoxes : tbl 132 = some M_impl_EqualBoxes := tblOf_eq Try.func132 (by kernel_rfl) (by kernel_rfl)

/-- slices.Equal[[]int,int] -/
def B_slices_Equal___int_int__0 : MCode :=
  .seq (.reg [
    ⟨(some 14), none, .bin .lss (.s 13) (.s 12)⟩] [0, 1, 12, 13, 14])
  (.seq (.cond (.s 14)
    (.skip)
    (.exit 0))
  (.seq (.block 1 (.seq (.reg [
    ⟨(some 15), none, .mov (.s 13)⟩,
    ⟨(some 5), none, .mov (.s 15)⟩] [0, 1, 5, 12, 13])
  (.seq (.drw [
    ⟨(some 16), none, .mov (.s 0)⟩,
    ⟨(some 17), none, .mov (.s 5)⟩,
    ⟨(some 18), none, .iaddr 1 (.s 16) (.s 17)⟩,
    ⟨(some 19), none, .load none (.s 18)⟩,
    ⟨(some 20), none, .mov (.s 1)⟩,
    ⟨(some 21), none, .mov (.s 5)⟩,
    ⟨(some 22), none, .iaddr 1 (.s 20) (.s 21)⟩,
    ⟨(some 23), none, .load none (.s 22)⟩,
    ⟨(some 24), none, .bin .neq (.s 19) (.s 23)⟩] [[], [], [0, 1], [2], [], [], [4, 5], [6], [3, 7]] [0, 1, 12, 13, 24])
  (.cond (.s 24)
    (.seq (.reg [
      ⟨(some 4), none, .mov (.c (.t (.bool false)))⟩] [4])
    (.ret))
    (.skip)))))
  (.reg [
    ⟨(some 25), none, .bin .add (.s 13) (.c (.t (.int .i64 1)))⟩,
    ⟨(some 13), none, .mov (.s 25)⟩] [0, 1, 12, 13])))

def M_slices_Equal___int_int_ : MFun := ⟨2, 26, [.tmp 4],
  .seq (.reg [
    ⟨(some 4), none, .mov (.c (.t (.bool false)))⟩] [0, 1])
  (.seq (.seq (.reg [
    ⟨(some 6), none, .mov (.s 0)⟩,
    ⟨(some 7), none, .len false (.s 6)⟩,
    ⟨(some 8), none, .mov (.s 1)⟩,
    ⟨(some 9), none, .len false (.s 8)⟩,
    ⟨(some 10), none, .bin .neq (.s 7) (.s 9)⟩] [0, 1, 10])
  (.cond (.s 10)
    (.seq (.reg [
      ⟨(some 4), none, .mov (.c (.t (.bool false)))⟩] [4])
    (.ret))
    (.skip)))
  (.seq (.seq (.reg [
    ⟨(some 11), none, .mov (.s 0)⟩,
    ⟨(some 12), none, .len false (.s 11)⟩,
    ⟨(some 13), none, .mov (.c (.t (.int .i64 0)))⟩] [0, 1, 12, 13])
  (.block 0 (.loop [0, 1, 12, 13] B_slices_Equal___int_int__0)))
  (.seq (.reg [
    ⟨(some 4), none, .mov (.c (.t (.bool true)))⟩] [4])
  (.ret))))⟩
theorem t_slices_Equal___int_int_ : tbl 133 = some M_slices_Equal___int_int_ := tblOf_eq Try.func133 (by kernel_rfl) (by kernel_rfl)

/-- loop.example/g01921/impl.IsLocation -/
def B_impl_IsLocation_0 : MCode :=
  .seq (.reg [
    ⟨(some 8), none, .bin .lss (.s 7) (.s 6)⟩] [0, 5, 6, 7, 8])
  (.seq (.cond (.s 8)
    (.skip)
    (.exit 0))
  (.seq (.block 1 (.seq (.reg [
    ⟨(some 9), none, .iaddr 1 (.s 5) (.s 7)⟩,
    ⟨(some 10), none, .load none (.s 9)⟩,
    ⟨(some 4), none, .mov (.s 10)⟩] [0, 4, 5, 6, 7])
  (.seq (.reg [
    ⟨(some 11), none, .mov (.s 4)⟩,
    ⟨(some 12), none, .call 82 [(.s 11), (.c (.t (.int .i64 0))), (.c (.t (.int .i64 7)))]⟩,
    ⟨(some 13), none, .un .not (.s 12)⟩] [0, 5, 6, 7, 13])
  (.cond (.s 13)
    (.seq (.reg [
      ⟨(some 2), none, .mov (.c (.t (.bool false)))⟩] [2])
    (.ret))
    (.skip)))))
  (.reg [
    ⟨(some 14), none, .bin .add (.s 7) (.c (.t (.int .i64 1)))⟩,
    ⟨(some 7), none, .mov (.s 14)⟩] [0, 5, 6, 7])))

def M_impl_IsLocation : MFun := ⟨1, 18, [.tmp 2],
  .seq (.reg [
    ⟨(some 2), none, .mov (.c (.t (.bool false)))⟩] [0])
  (.seq (.seq (.reg [
    ⟨(some 5), none, .mov (.s 0)⟩,
    ⟨(some 6), none, .len false (.s 5)⟩,
    ⟨(some 7), none, .mov (.c (.t (.int .i64 0)))⟩] [0, 5, 6, 7])
  (.block 0 (.loop [0, 5, 6, 7] B_impl_IsLocation_0)))
  (.seq (.reg [
    ⟨(some 15), none, .mov (.s 0)⟩,
    ⟨(some 16), none, .len false (.s 15)⟩,
    ⟨(some 17), none, .bin .leq (.s 16) (.c (.t (.int .i64 16)))⟩,
    ⟨(some 2), none, .mov (.s 17)⟩] [2])
  (.ret)))⟩
theorem t_impl_IsLocation : tbl 134 = some M_impl_IsLocation := tblOf_eq Try.func134 (by kernel_rfl) (by kernel_rfl)

/-- loop.example/g01921/spec.l4Name -/
def M_spec_l4Name : MFun := ⟨1, 16, [.tmp 2],
  .seq (.reg [
    ⟨(some 2), none, .mov (.c (.t (.bool false)))⟩] [0])
  (.seq (.reg [
    ⟨(some 3), none, .mov (.s 0)⟩,
    ⟨(some 4), none, .len true (.s 3)⟩,
    ⟨(some 5), none, .bin .eql (.s 4) (.c (.t (.int .i64 1)))⟩,
    ⟨(some 6), none, .mov (.s 5)⟩,
    ⟨(some 7), (some (6, true)), .mov (.s 0)⟩,
    ⟨(some 8), (some (6, true)), .index (.s 7) (.c (.t (.int .i64 0)))⟩,
    ⟨(some 9), (some (6, true)), .bin .geq (.s 8) (.c (.t (.int .u8 97)))⟩,
    ⟨(some 10), none, .pick (.s 6) (.s 9) (.c (.t (.bool false)))⟩,
    ⟨(some 11), none, .mov (.s 10)⟩,
    ⟨(some 12), (some (11, true)), .mov (.s 0)⟩,
    ⟨(some 13), (some (11, true)), .index (.s 12) (.c (.t (.int .i64 0)))⟩,
    ⟨(some 14), (some (11, true)), .bin .leq (.s 13) (.c (.t (.int .u8 122)))⟩,
    ⟨(some 15), none, .pick (.s 11) (.s 14) (.c (.t (.bool false)))⟩,
    ⟨(some 2), none, .mov (.s 15)⟩] [2])
  (.ret))⟩
theorem t_spec_l4Name : tbl 135 = some M_spec_l4Name := tblOf_eq Try.func135 (by kernel_rfl) (by kernel_rfl)

/-- loop.example/g01921/spec.l23In -/
def M_spec_l23In : MFun := ⟨2, 14, [.tmp 4],
  .seq (.reg [
    ⟨(some 4), none, .mov (.c (.t (.bool false)))⟩] [0, 1])
  (.seq (.reg [
    ⟨(some 5), none, .mov (.s 1)⟩,
    ⟨(some 6), none, .call 78 [(.s 5), (.c (.t (.int .i64 0))), (.c (.t (.int .i64 3)))]⟩,
    ⟨(some 7), none, .mov (.s 6)⟩,
    ⟨(some 8), (some (7, true)), .mov (.s 0)⟩,
    ⟨(some 9), (some (7, true)), .mov (.s 1)⟩,
    ⟨(some 10), (some (7, true)), .bin .shr (.s 8) (.s 9)⟩,
    ⟨(some 11), (some (7, true)), .bin .and (.s 10) (.c (.t (.int .i64 1)))⟩,
    ⟨(some 12), (some (7, true)), .bin .eql (.s 11) (.c (.t (.int .i64 1)))⟩,
    ⟨(some 13), none, .pick (.s 7) (.s 12) (.c (.t (.bool false)))⟩,
    ⟨(some 4), none, .mov (.s 13)⟩] [4])
  (.ret))⟩
theorem t_spec_l23In : tbl 136 = some M_spec_l23In := tblOf_eq Try.func136 (by kernel_rfl) (by kernel_rfl)

/-- loop.example/g01921/spec.l7Bits -/
def B_spec_l7Bits_0 : MCode :=
  .seq (.seq (.reg [
    ⟨(some 15), none, .mov (.s 7)⟩,
    ⟨(some 16), none, .faddr 1 (.s 2)⟩,
    ⟨(some 17), none, .load none (.s 16)⟩,
    ⟨(some 18), none, .mov (.s 6)⟩,
    ⟨(some 19), none, .iaddr 2 (.s 17) (.s 18)⟩,
    ⟨(some 20), none, .faddr 1 (.s 19)⟩,
    ⟨(some 21), none, .load none (.s 20)⟩,
    ⟨(some 22), none, .len false (.s 21)⟩,
    ⟨(some 23), none, .bin .lss (.s 15) (.s 22)⟩,
    ⟨(some 24), none, .mov (.s 23)⟩,
    ⟨(some 25), (some (24, true)), .mov (.s 1)⟩,
    ⟨(some 26), (some (24, true)), .mov (.s 6)⟩,
    ⟨(some 27), (some (24, true)), .bin .shr (.s 25) (.s 26)⟩,
    ⟨(some 28), (some (24, true)), .bin .and (.s 27) (.c (.t (.int .i64 1)))⟩,
    ⟨(some 29), (some (24, true)), .bin .eql (.s 28) (.c (.t (.int .i64 1)))⟩,
    ⟨(some 30), none, .pick (.s 24) (.s 29) (.c (.t (.bool false)))⟩] [1, 2, 5, 6, 7, 30])
  (.cond (.s 30)
    (.skip)
    (.exit 2)))
  (.seq (.block 3 (.reg [
    ⟨(some 33), none, .mov (.s 5)⟩,
    ⟨(some 34), none, .faddr 1 (.s 2)⟩,
    ⟨(some 35), none, .load none (.s 34)⟩,
    ⟨(some 36), none, .mov (.s 6)⟩,
    ⟨(some 37), none, .iaddr 2 (.s 35) (.s 36)⟩,
    ⟨(some 38), none, .faddr 1 (.s 37)⟩,
    ⟨(some 39), none, .load none (.s 38)⟩,
    ⟨(some 40), none, .mov (.s 7)⟩,
    ⟨(some 41), none, .iaddr 1 (.s 39) (.s 40)⟩,
    ⟨(some 42), none, .load none (.s 41)⟩,
    ⟨(some 43), none, .bin .shl (.c (.t (.int .i64 1))) (.s 42)⟩,
    ⟨(some 44), none, .bin .or (.s 33) (.s 43)⟩,
    ⟨(some 5), none, .mov (.s 44)⟩] [1, 2, 5, 6, 7]))
  (.reg [
    ⟨(some 31), none, .mov (.s 7)⟩,
    ⟨(some 32), none, .bin .add (.s 31) (.c (.t (.int .i64 1)))⟩,
    ⟨(some 7), none, .mov (.s 32)⟩] [1, 2, 5, 6, 7]))

def B_spec_l7Bits_1 : MCode :=
  .seq (.seq (.reg [
    ⟨(some 8), none, .mov (.s 6)⟩,
    ⟨(some 9), none, .faddr 1 (.s 2)⟩,
    ⟨(some 10), none, .load none (.s 9)⟩,
    ⟨(some 11), none, .len false (.s 10)⟩,
    ⟨(some 12), none, .bin .lss (.s 8) (.s 11)⟩] [1, 2, 5, 6, 12])
  (.cond (.s 12)
    (.skip)
    (.exit 0)))
  (.seq (.block 1 (.seq (.reg [
    ⟨(some 7), none, .mov (.c (.t (.int .i64 0)))⟩] [1, 2, 5, 6, 7])
  (.block 2 (.loop [1, 2, 5, 6, 7] B_spec_l7Bits_0))))
  (.reg [
    ⟨(some 13), none, .mov (.s 6)⟩,
    ⟨(some 14), none, .bin .add (.s 13) (.c (.t (.int .i64 1)))⟩,
    ⟨(some 6), none, .mov (.s 14)⟩] [1, 2, 5, 6]))

def M_spec_l7Bits : MFun := ⟨2, 46, [.tmp 4],
  .seq (.reg [
    ⟨(some 2), none, .box (.s 0)⟩,
    ⟨(some 4), none, .mov (.c (.t (.int .i64 0)))⟩] [1, 2])
  (.seq (.reg [
    ⟨(some 5), none, .mov (.c (.t (.int .i64 0)))⟩] [1, 2, 5])
  (.seq (.seq (.reg [
    ⟨(some 6), none, .mov (.c (.t (.int .i64 0)))⟩] [1, 2, 5, 6])
  (.block 0 (.loop [1, 2, 5, 6] B_spec_l7Bits_1)))
  (.seq (.reg [
    ⟨(some 45), none, .mov (.s 5)⟩,
    ⟨(some 4), none, .mov (.s 45)⟩] [4])
  (.ret))))⟩
theorem t_spec_l7Bits : tbl 137 = some M_spec_l7Bits := tblOf_eq Try.func137 (by kernel_rfl) (by kernel_rfl)

/-- loop.example/g01921/impl.variables -/
def B_impl_variables_0 : MCode :=
  .seq (.reg [
    ⟨(some 20), none, .bin .lss (.s 19) (.s 18)⟩] [1, 2, 5, 6, 17, 18, 19, 20])
  (.seq (.cond (.s 20)
    (.skip)
    (.exit 2))
  (.seq (.block 3 (.seq (.reg [
    ⟨(some 21), none, .mov (.s 19)⟩,
    ⟨(some 22), none, .iaddr 2 (.s 17) (.s 19)⟩,
    ⟨(some 23), none, .load (some 2) (.s 22)⟩,
    ⟨(some 8), none, .alloc [(.t (.str ⟨#[]⟩)), (.t .nil)]⟩,
    ⟨(some 7), none, .mov (.s 21)⟩,
    ⟨none, none, .store 2 (.s 8) (.s 23)⟩] [1, 2, 5, 6, 7, 8, 17, 18, 19])
  (.seq (.reg [
    ⟨(some 24), none, .mov (.s 1)⟩,
    ⟨(some 25), none, .mov (.s 7)⟩,
    ⟨(some 26), none, .bin .shr (.s 24) (.s 25)⟩,
    ⟨(some 27), none, .bin .and (.s 26) (.c (.t (.int .i64 1)))⟩,
    ⟨(some 28), none, .bin .eql (.s 27) (.c (.t (.int .i64 1)))⟩,
    ⟨(some 29), none, .mov (.s 28)⟩,
    ⟨(some 30), (some (29, true)), .faddr 1 (.s 8)⟩,
    ⟨(some 31), (some (29, true)), .load none (.s 30)⟩,
    ⟨(some 32), (some (29, true)), .mov (.s 6)⟩,
    ⟨(some 33), (some (29, true)), .call 123 [(.s 31), (.s 32)]⟩,
    ⟨(some 34), none, .pick (.s 29) (.s 33) (.c (.t (.bool false)))⟩] [1, 2, 5, 6, 17, 18, 19, 34])
  (.cond (.s 34)
    (.seq (.reg [
      ⟨(some 35), none, .mov (.s 5)⟩,
      ⟨(some 36), none, .mov (.s 6)⟩,
      ⟨(some 37), none, .bslice 3 1 1 [(.int .i64 0)] [(0, (.s 36))]⟩,
      ⟨(some 38), none, .append 3 1 8 true (.s 35) (.s 37)⟩,
      ⟨(some 5), none, .mov (.s 38)⟩] [1, 2, 5, 6])
    (.exit 2))
    (.skip)))))
  (.reg [
    ⟨(some 39), none, .bin .add (.s 19) (.c (.t (.int .i64 1)))⟩,
    ⟨(some 19), none, .mov (.s 39)⟩] [1, 2, 5, 6, 17, 18, 19])))

def B_impl_variables_1 : MCode :=
  .seq (.seq (.reg [
    ⟨(some 10), none, .mov (.s 6)⟩,
    ⟨(some 11), none, .faddr 0 (.s 2)⟩,
    ⟨(some 12), none, .load none (.s 11)⟩,
    ⟨(some 13), none, .bin .lss (.s 10) (.s 12)⟩] [1, 2, 5, 6, 13])
  (.cond (.s 13)
    (.skip)
    (.exit 0)))
  (.seq (.block 1 (.seq (.reg [
    ⟨(some 16), none, .faddr 1 (.s 2)⟩,
    ⟨(some 17), none, .load none (.s 16)⟩,
    ⟨(some 18), none, .len false (.s 17)⟩,
    ⟨(some 19), none, .mov (.c (.t (.int .i64 0)))⟩] [1, 2, 5, 6, 17, 18, 19])
  (.block 2 (.loop [1, 2, 5, 6, 17, 18, 19] B_impl_variables_0))))
  (.reg [
    ⟨(some 14), none, .mov (.s 6)⟩,
    ⟨(some 15), none, .bin .add (.s 14) (.c (.t (.int .i64 1)))⟩,
    ⟨(some 6), none, .mov (.s 15)⟩] [1, 2, 5, 6]))

def M_impl_variables : MFun := ⟨2, 41, [.tmp 4],
  .seq (.reg [
    ⟨(some 2), none, .box (.s 0)⟩,
    ⟨(some 4), none, .mov (.c (.t .nil))⟩] [1, 2])
  (.seq (.reg [
    ⟨(some 9), none, .bslice 3 1 0 [(.int .i64 0)] []⟩,
    ⟨(some 5), none, .mov (.s 9)⟩] [1, 2, 5])
  (.seq (.seq (.reg [
    ⟨(some 6), none, .mov (.c (.t (.int .i64 0)))⟩] [1, 2, 5, 6])
  (.block 0 (.loop [1, 2, 5, 6] B_impl_variables_1)))
  (.seq (.reg [
    ⟨(some 40), none, .mov (.s 5)⟩,
    ⟨(some 4), none, .mov (.s 40)⟩] [4])
  (.ret))))⟩
theorem t_impl_variables : tbl 138 = some M_impl_variables := tblOf_eq Try.func138 (by kernel_rfl) (by kernel_rfl)

/-- loop.example/g01921/impl.both -/
def B_impl_both_0 : MCode :=
  .seq (.reg [
    ⟨(some 12), none, .bin .lss (.s 11) (.s 10)⟩] [1, 5, 9, 10, 11, 12])
  (.seq (.cond (.s 12)
    (.skip)
    (.exit 0))
  (.seq (.block 1 (.seq (.reg [
    ⟨(some 13), none, .iaddr 1 (.s 9) (.s 11)⟩,
    ⟨(some 14), none, .load none (.s 13)⟩,
    ⟨(some 7), none, .mov (.s 14)⟩] [1, 5, 7, 9, 10, 11])
  (.seq (.reg [
    ⟨(some 15), none, .mov (.s 1)⟩,
    ⟨(some 16), none, .mov (.s 7)⟩,
    ⟨(some 17), none, .call 123 [(.s 15), (.s 16)]⟩] [1, 5, 7, 9, 10, 11, 17])
  (.cond (.s 17)
    (.reg [
      ⟨(some 18), none, .mov (.s 5)⟩,
      ⟨(some 19), none, .mov (.s 7)⟩,
      ⟨(some 20), none, .bslice 3 1 1 [(.int .i64 0)] [(0, (.s 19))]⟩,
      ⟨(some 21), none, .append 3 1 8 true (.s 18) (.s 20)⟩,
      ⟨(some 5), none, .mov (.s 21)⟩] [1, 5, 9, 10, 11])
    (.skip)))))
  (.reg [
    ⟨(some 22), none, .bin .add (.s 11) (.c (.t (.int .i64 1)))⟩,
    ⟨(some 11), none, .mov (.s 22)⟩] [1, 5, 9, 10, 11])))

def M_impl_both : MFun := ⟨2, 24, [.tmp 4],
  .seq (.reg [
    ⟨(some 4), none, .mov (.c (.t .nil))⟩] [0, 1])
  (.seq (.reg [
    ⟨(some 8), none, .bslice 3 1 0 [(.int .i64 0)] []⟩,
    ⟨(some 5), none, .mov (.s 8)⟩] [0, 1, 5])
  (.seq (.seq (.reg [
    ⟨(some 9), none, .mov (.s 0)⟩,
    ⟨(some 10), none, .len false (.s 9)⟩,
    ⟨(some 11), none, .mov (.c (.t (.int .i64 0)))⟩] [1, 5, 9, 10, 11])
  (.block 0 (.loop [1, 5, 9, 10, 11] B_impl_both_0)))
  (.seq (.reg [
    ⟨(some 23), none, .mov (.s 5)⟩,
    ⟨(some 4), none, .mov (.s 23)⟩] [4])
  (.ret))))⟩
theorem t_impl_both : tbl 139 = some M_impl_both := tblOf_eq Try.func139 (by kernel_rfl) (by kernel_rfl)

/-- slices.Index[[]bool,bool] -/
def B_slices_Index___bool_bool__0 : MCode :=
  .seq (.reg [
    ⟨(some 9), none, .bin .lss (.s 8) (.s 7)⟩] [0, 1, 7, 8, 9])
  (.seq (.cond (.s 9)
    (.skip)
    (.exit 0))
  (.seq (.block 1 (.seq (.reg [
    ⟨(some 10), none, .mov (.s 8)⟩,
    ⟨(some 5), none, .mov (.s 10)⟩] [0, 1, 5, 7, 8])
  (.seq (.reg [
    ⟨(some 11), none, .mov (.s 1)⟩,
    ⟨(some 12), none, .mov (.s 0)⟩,
    ⟨(some 13), none, .mov (.s 5)⟩,
    ⟨(some 14), none, .iaddr 1 (.s 12) (.s 13)⟩,
    ⟨(some 15), none, .load none (.s 14)⟩,
    ⟨(some 16), none, .beq false (.s 11) (.s 15)⟩] [0, 1, 5, 7, 8, 16])
  (.cond (.s 16)
    (.seq (.reg [
      ⟨(some 17), none, .mov (.s 5)⟩,
      ⟨(some 4), none, .mov (.s 17)⟩] [4])
    (.ret))
    (.skip)))))
  (.reg [
    ⟨(some 18), none, .bin .add (.s 8) (.c (.t (.int .i64 1)))⟩,
    ⟨(some 8), none, .mov (.s 18)⟩] [0, 1, 7, 8])))

def M_slices_Index___bool_bool_ : MFun := ⟨2, 19, [.tmp 4],
  .seq (.reg [
    ⟨(some 4), none, .mov (.c (.t (.int .i64 0)))⟩] [0, 1])
  (.seq (.seq (.reg [
    ⟨(some 6), none, .mov (.s 0)⟩,
    ⟨(some 7), none, .len false (.s 6)⟩,
    ⟨(some 8), none, .mov (.c (.t (.int .i64 0)))⟩] [0, 1, 7, 8])
  (.block 0 (.loop [0, 1, 7, 8] B_slices_Index___bool_bool__0)))
  (.seq (.reg [
    ⟨(some 4), none, .mov (.c (.t (.int .i64 (-1))))⟩] [4])
  (.ret)))⟩
theorem t_slices_Index___bool_bool_ : tbl 140 = some M_slices_Index___bool_bool_ := tblOf_eq Try.func140 (by kernel_rfl) (by kernel_rfl)

/-- loop.example/g01921/impl.volume -/
def B_impl_volume_0 : MCode :=
  .seq (.reg [
    ⟨(some 9), none, .bin .lss (.s 8) (.s 7)⟩] [1, 3, 7, 8, 9])
  (.seq (.cond (.s 9)
    (.skip)
    (.exit 0))
  (.seq (.block 1 (.seq (.reg [
    ⟨(some 10), none, .mov (.s 8)⟩,
    ⟨(some 4), none, .mov (.s 10)⟩] [1, 3, 4, 7, 8])
  (.drw [
    ⟨(some 11), none, .mov (.s 3)⟩,
    ⟨(some 12), none, .faddr 1 (.s 1)⟩,
    ⟨(some 13), none, .load none (.s 12)⟩,
    ⟨(some 14), none, .mov (.s 4)⟩,
    ⟨(some 15), none, .iaddr 1 (.s 13) (.s 14)⟩,
    ⟨(some 16), none, .load none (.s 15)⟩,
    ⟨(some 17), none, .faddr 0 (.s 1)⟩,
    ⟨(some 18), none, .load none (.s 17)⟩,
    ⟨(some 19), none, .mov (.s 4)⟩,
    ⟨(some 20), none, .iaddr 1 (.s 18) (.s 19)⟩,
    ⟨(some 21), none, .load none (.s 20)⟩,
    ⟨(some 22), none, .bin .sub (.s 16) (.s 21)⟩,
    ⟨(some 23), none, .bin .add (.s 22) (.c (.t (.int .i64 1)))⟩,
    ⟨(some 24), none, .bin .mul (.s 11) (.s 23)⟩,
    ⟨(some 3), none, .mov (.s 24)⟩] [[], [], [1], [], [2, 3], [4], [], [6], [], [7, 8], [9], [5, 10], [11], [0, 12], [13, 0, 1, 2, 3, 4, 5, 6, 7, 8, 9, 10, 11, 12, 13]] [1, 3, 7, 8])))
  (.reg [
    ⟨(some 25), none, .bin .add (.s 8) (.c (.t (.int .i64 1)))⟩,
    ⟨(some 8), none, .mov (.s 25)⟩] [1, 3, 7, 8])))

def M_impl_volume : MFun := ⟨1, 27, [.tmp 2],
  .seq (.reg [
    ⟨(some 1), none, .box (.s 0)⟩,
    ⟨(some 2), none, .mov (.c (.t (.int .i64 0)))⟩] [1])
  (.seq (.reg [
    ⟨(some 3), none, .mov (.c (.t (.int .i64 1)))⟩] [1, 3])
  (.seq (.seq (.reg [
    ⟨(some 5), none, .faddr 0 (.s 1)⟩,
    ⟨(some 6), none, .load none (.s 5)⟩,
    ⟨(some 7), none, .len false (.s 6)⟩,
    ⟨(some 8), none, .mov (.c (.t (.int .i64 0)))⟩] [1, 3, 7, 8])
  (.block 0 (.loop [1, 3, 7, 8] B_impl_volume_0)))
  (.seq (.reg [
    ⟨(some 26), none, .mov (.s 3)⟩,
    ⟨(some 2), none, .mov (.s 26)⟩] [2])
  (.ret))))⟩
theorem t_impl_volume : tbl 141 = some M_impl_volume := tblOf_eq Try.func141 (by kernel_rfl) (by kernel_rfl)

/-- slices.Equal[[]loop.example/g01921/impl.PlanStep,loop.example/g01921/impl.PlanStep] -/
def B_slices_Equal___impl_PlanStep_impl_PlanStep__0 : MCode :=
  .seq (.reg [
    ⟨(some 14), none, .bin .lss (.s 13) (.s 12)⟩] [0, 1, 12, 13, 14])
  (.seq (.cond (.s 14)
    (.skip)
    (.exit 0))
  (.seq (.block 1 (.seq (.reg [
    ⟨(some 15), none, .mov (.s 13)⟩,
    ⟨(some 5), none, .mov (.s 15)⟩] [0, 1, 5, 12, 13])
  (.seq (.drw [
    ⟨(some 16), none, .mov (.s 0)⟩,
    ⟨(some 17), none, .mov (.s 5)⟩,
    ⟨(some 18), none, .iaddr 3 (.s 16) (.s 17)⟩,
    ⟨(some 19), none, .load (some 3) (.s 18)⟩,
    ⟨(some 20), none, .mov (.s 1)⟩,
    ⟨(some 21), none, .mov (.s 5)⟩,
    ⟨(some 22), none, .iaddr 3 (.s 20) (.s 21)⟩,
    ⟨(some 23), none, .load (some 3) (.s 22)⟩,
    ⟨(some 24), none, .aeq true [1, 1, 1] (.s 19) (.s 23)⟩] [[], [], [0, 1], [2], [], [], [4, 5], [6], [3, 7]] [0, 1, 12, 13, 24])
  (.cond (.s 24)
    (.seq (.reg [
      ⟨(some 4), none, .mov (.c (.t (.bool false)))⟩] [4])
    (.ret))
    (.skip)))))
  (.reg [
    ⟨(some 25), none, .bin .add (.s 13) (.c (.t (.int .i64 1)))⟩,
    ⟨(some 13), none, .mov (.s 25)⟩] [0, 1, 12, 13])))

def M_slices_Equal___impl_PlanStep_impl_PlanStep_ : MFun := ⟨2, 26, [.tmp 4],
  .seq (.reg [
    ⟨(some 4), none, .mov (.c (.t (.bool false)))⟩] [0, 1])
  (.seq (.seq (.reg [
    ⟨(some 6), none, .mov (.s 0)⟩,
    ⟨(some 7), none, .len false (.s 6)⟩,
    ⟨(some 8), none, .mov (.s 1)⟩,
    ⟨(some 9), none, .len false (.s 8)⟩,
    ⟨(some 10), none, .bin .neq (.s 7) (.s 9)⟩] [0, 1, 10])
  (.cond (.s 10)
    (.seq (.reg [
      ⟨(some 4), none, .mov (.c (.t (.bool false)))⟩] [4])
    (.ret))
    (.skip)))
  (.seq (.seq (.reg [
    ⟨(some 11), none, .mov (.s 0)⟩,
    ⟨(some 12), none, .len false (.s 11)⟩,
    ⟨(some 13), none, .mov (.c (.t (.int .i64 0)))⟩] [0, 1, 12, 13])
  (.block 0 (.loop [0, 1, 12, 13] B_slices_Equal___impl_PlanStep_impl_PlanStep__0)))
  (.seq (.reg [
    ⟨(some 4), none, .mov (.c (.t (.bool true)))⟩] [4])
  (.ret))))⟩
theorem t_slices_Equal___impl_PlanStep_impl_PlanStep_ : tbl 142 = some M_slices_Equal___impl_PlanStep_impl_PlanStep_ := tblOf_eq Try.func142 (by kernel_rfl) (by kernel_rfl)

end Go.Proofs.Ytdiolobkcblcmaa
