/-
  The code of the functions, as printed by program.
-/
import Derived.Test.YtiniphmomjnocaaH
namespace Go.Proofs.Ytiniphmomjnocaa
open Go.AM

/-- loop.example/g01921/laws.FnExactSpillTarget -/
def M_laws_FnExactSpillTarget : MFun := ⟨3, 63, [.tmp 6],
  .seq (.reg [
    ⟨(some 3), none, .box (.s 0)⟩,
    ⟨(some 4), none, .box (.s 1)⟩,
    ⟨(some 5), none, .box (.s 2)⟩,
    ⟨(some 6), none, .mov (.c (.t (.bool false)))⟩] [3, 4, 5])
  (.seq (.reg [
    ⟨(some 7), none, .mov (.c (.t (.int .i64 1048576)))⟩] [3, 4, 5, 7])
  (.seq (.reg [
    ⟨(some 13), none, .load (some 2) (.s 3)⟩,
    ⟨(some 14), none, .mov (.s 7)⟩,
    ⟨(some 15), none, .call 8 [(.s 13), (.s 14)]⟩,
    ⟨(some 7), none, .mov (.s 15)⟩] [3, 4, 5, 7])
  (.seq (.seq (.reg [
    ⟨(some 16), none, .mov (.s 7)⟩,
    ⟨(some 17), none, .bin .lss (.s 16) (.c (.t (.int .i64 0)))⟩] [3, 4, 5, 7, 17])
  (.cond (.s 17)
    (.seq (.reg [
      ⟨(some 6), none, .mov (.c (.t (.bool true)))⟩] [6])
    (.ret))
    (.skip)))
  (.seq (.reg [
    ⟨(some 18), none, .load (some 1) (.s 4)⟩,
    ⟨(some 19), none, .mov (.s 7)⟩,
    ⟨(some 20), none, .call 9 [(.s 18), (.s 19)]⟩,
    ⟨(some 7), none, .mov (.s 20)⟩] [3, 4, 5, 7])
  (.seq (.seq (.reg [
    ⟨(some 21), none, .mov (.s 7)⟩,
    ⟨(some 22), none, .bin .lss (.s 21) (.c (.t (.int .i64 0)))⟩] [3, 4, 5, 7, 22])
  (.cond (.s 22)
    (.seq (.reg [
      ⟨(some 6), none, .mov (.c (.t (.bool true)))⟩] [6])
    (.ret))
    (.skip)))
  (.seq (.reg [
    ⟨(some 23), none, .load (some 2) (.s 5)⟩,
    ⟨(some 24), none, .mov (.s 7)⟩,
    ⟨(some 25), none, .call 10 [(.s 23), (.s 24)]⟩,
    ⟨(some 7), none, .mov (.s 25)⟩] [3, 4, 5, 7])
  (.seq (.seq (.reg [
    ⟨(some 26), none, .mov (.s 7)⟩,
    ⟨(some 27), none, .bin .lss (.s 26) (.c (.t (.int .i64 0)))⟩] [3, 4, 5, 27])
  (.cond (.s 27)
    (.seq (.reg [
      ⟨(some 6), none, .mov (.c (.t (.bool true)))⟩] [6])
    (.ret))
    (.skip)))
  (.seq (.drw [
    ⟨(some 28), none, .load (some 2) (.s 3)⟩,
    ⟨(some 29), none, .call 12 [(.s 28)]⟩,
    ⟨(some 30), none, .load (some 1) (.s 4)⟩,
    ⟨(some 31), none, .call 13 [(.s 30)]⟩,
    ⟨(some 32), none, .load (some 2) (.s 5)⟩,
    ⟨(some 33), none, .call 14 [(.s 32)]⟩,
    ⟨(some 34), none, .call 11 [(.s 29), (.s 31), (.s 33)]⟩,
    ⟨(some 8), none, .mov (.s 34)⟩] [[], [0], [], [2, 1], [], [4, 3], [1, 3, 5, 5], [6, 6, 0, 1, 2, 3, 4, 5, 6]] [3, 4, 5, 8])
  (.seq (.reg [
    ⟨(some 35), none, .load (some 2) (.s 3)⟩,
    ⟨(some 36), none, .call 12 [(.s 35)]⟩,
    ⟨(some 9), none, .alloc [(.t (.int .i64 0)), (.t .nil)]⟩,
    ⟨none, none, .store 2 (.s 9) (.s 36)⟩] [3, 4, 5, 8, 9])
  (.seq (.reg [
    ⟨(some 37), none, .load (some 1) (.s 4)⟩,
    ⟨(some 38), none, .call 13 [(.s 37)]⟩,
    ⟨(some 10), none, .alloc [(.t .nil)]⟩,
    ⟨none, none, .store 1 (.s 10) (.s 38)⟩] [3, 4, 5, 8, 9, 10])
  (.seq (.reg [
    ⟨(some 39), none, .load (some 2) (.s 5)⟩,
    ⟨(some 40), none, .call 14 [(.s 39)]⟩,
    ⟨(some 11), none, .alloc [(.t .nil), (.t .nil)]⟩,
    ⟨none, none, .store 2 (.s 11) (.s 40)⟩] [3, 4, 5, 8, 9, 10, 11])
  (.seq (.reg [
    ⟨(some 41), none, .load (some 2) (.s 9)⟩,
    ⟨(some 42), none, .load (some 1) (.s 10)⟩,
    ⟨(some 43), none, .load (some 2) (.s 11)⟩,
    ⟨(some 44), none, .call 15 [(.s 41), (.s 42), (.s 43)]⟩,
    ⟨(some 12), none, .mov (.s 44)⟩] [3, 4, 5, 8, 9, 10, 11, 12])
  (.seq (.seq (.reg [
    ⟨(some 45), none, .mov (.s 12)⟩,
    ⟨(some 46), none, .mov (.s 8)⟩,
    ⟨(some 47), none, .bin .neq (.s 45) (.s 46)⟩] [3, 4, 5, 9, 10, 11, 47])
  (.cond (.s 47)
    (.seq (.reg [
      ⟨(some 6), none, .mov (.c (.t (.bool false)))⟩] [6])
    (.ret))
    (.skip)))
  (.seq (.seq (.drw [
    ⟨(some 48), none, .load (some 2) (.s 9)⟩,
    ⟨(some 49), none, .load (some 2) (.s 3)⟩,
    ⟨(some 50), none, .call 12 [(.s 49)]⟩,
    ⟨(some 51), none, .call 16 [(.s 48), (.s 50)]⟩,
    ⟨(some 52), none, .un .not (.s 51)⟩] [[], [], [1], [0, 2, 2], [3]] [4, 5, 10, 11, 52])
  (.cond (.s 52)
    (.seq (.reg [
      ⟨(some 6), none, .mov (.c (.t (.bool false)))⟩] [6])
    (.ret))
    (.skip)))
  (.seq (.seq (.drw [
    ⟨(some 53), none, .load (some 1) (.s 10)⟩,
    ⟨(some 54), none, .load (some 1) (.s 4)⟩,
    ⟨(some 55), none, .call 13 [(.s 54)]⟩,
    ⟨(some 56), none, .call 17 [(.s 53), (.s 55)]⟩,
    ⟨(some 57), none, .un .not (.s 56)⟩] [[], [], [1], [0, 2, 2], [3]] [5, 11, 57])
  (.cond (.s 57)
    (.seq (.reg [
      ⟨(some 6), none, .mov (.c (.t (.bool false)))⟩] [6])
    (.ret))
    (.skip)))
  (.seq (.seq (.drw [
    ⟨(some 58), none, .load (some 2) (.s 11)⟩,
    ⟨(some 59), none, .load (some 2) (.s 5)⟩,
    ⟨(some 60), none, .call 14 [(.s 59)]⟩,
    ⟨(some 61), none, .call 18 [(.s 58), (.s 60)]⟩,
    ⟨(some 62), none, .un .not (.s 61)⟩] [[], [], [1], [0, 2, 2], [3]] [62])
  (.cond (.s 62)
    (.seq (.reg [
      ⟨(some 6), none, .mov (.c (.t (.bool false)))⟩] [6])
    (.ret))
    (.skip)))
  (.seq (.reg [
    ⟨(some 6), none, .mov (.c (.t (.bool true)))⟩] [6])
  (.ret))))))))))))))))))⟩
theorem t_laws_FnExactSpillTarget : tbl 3 = some M_laws_FnExactSpillTarget := tblOf_eq Try.func3 (by kernel_rfl) (by kernel_rfl)

/-- loop.example/g01921/laws.FnExactSpillPlan -/
def M_laws_FnExactSpillPlan : MFun := ⟨3, 124, [.tmp 6],
  .seq (.reg [
    ⟨(some 3), none, .box (.s 0)⟩,
    ⟨(some 4), none, .box (.s 1)⟩,
    ⟨(some 6), none, .mov (.c (.t (.bool false)))⟩] [2, 3, 4])
  (.seq (.reg [
    ⟨(some 7), none, .mov (.c (.t (.int .i64 1048576)))⟩] [2, 3, 4, 7])
  (.seq (.reg [
    ⟨(some 19), none, .load (some 2) (.s 3)⟩,
    ⟨(some 20), none, .mov (.s 7)⟩,
    ⟨(some 21), none, .call 8 [(.s 19), (.s 20)]⟩,
    ⟨(some 7), none, .mov (.s 21)⟩] [2, 3, 4, 7])
  (.seq (.seq (.reg [
    ⟨(some 22), none, .mov (.s 7)⟩,
    ⟨(some 23), none, .bin .lss (.s 22) (.c (.t (.int .i64 0)))⟩] [2, 3, 4, 7, 23])
  (.cond (.s 23)
    (.seq (.reg [
      ⟨(some 6), none, .mov (.c (.t (.bool true)))⟩] [6])
    (.ret))
    (.skip)))
  (.seq (.reg [
    ⟨(some 24), none, .load (some 1) (.s 4)⟩,
    ⟨(some 25), none, .mov (.s 7)⟩,
    ⟨(some 26), none, .call 9 [(.s 24), (.s 25)]⟩,
    ⟨(some 7), none, .mov (.s 26)⟩] [2, 3, 4, 7])
  (.seq (.seq (.reg [
    ⟨(some 27), none, .mov (.s 7)⟩,
    ⟨(some 28), none, .bin .lss (.s 27) (.c (.t (.int .i64 0)))⟩] [2, 3, 4, 28])
  (.cond (.s 28)
    (.seq (.reg [
      ⟨(some 6), none, .mov (.c (.t (.bool true)))⟩] [6])
    (.ret))
    (.skip)))
  (.seq (.drw [
    ⟨(some 30), none, .load (some 2) (.s 3)⟩,
    ⟨(some 31), none, .call 12 [(.s 30)]⟩,
    ⟨(some 32), none, .load (some 1) (.s 4)⟩,
    ⟨(some 33), none, .call 13 [(.s 32)]⟩,
    ⟨(some 34), none, .mov (.s 2)⟩,
    ⟨(some 35), none, .call 19 [(.s 31), (.s 33), (.s 34)]⟩,
    ⟨(some 29), none, .mov (.s 35)⟩,
    ⟨(some 36), none, .ext (.s 29) 0⟩,
    ⟨(some 37), none, .ext (.s 29) 1⟩,
    ⟨(some 8), none, .alloc [(.t .nil)]⟩,
    ⟨none, none, .store 1 (.s 8) (.s 36)⟩,
    ⟨(some 9), none, .mov (.s 37)⟩] [[], [0], [], [2, 1], [], [1, 3, 4, 3], [5], [6], [6], [], [9, 7, 5, 0, 1, 2, 3, 4, 5, 6, 7, 9], [8, 10, 0, 1, 2, 3, 4, 5, 6, 7, 8, 9, 10]] [2, 3, 4, 8, 9])
  (.seq (.reg [
    ⟨(some 38), none, .load (some 2) (.s 3)⟩,
    ⟨(some 39), none, .call 12 [(.s 38)]⟩,
    ⟨(some 10), none, .alloc [(.t (.int .i64 0)), (.t .nil)]⟩,
    ⟨none, none, .store 2 (.s 10) (.s 39)⟩] [2, 3, 4, 8, 9, 10])
  (.seq (.reg [
    ⟨(some 40), none, .load (some 1) (.s 4)⟩,
    ⟨(some 41), none, .call 13 [(.s 40)]⟩,
    ⟨(some 11), none, .alloc [(.t .nil)]⟩,
    ⟨none, none, .store 1 (.s 11) (.s 41)⟩] [2, 3, 4, 8, 9, 10, 11])
  (.seq (.reg [
    ⟨(some 43), none, .load (some 2) (.s 10)⟩,
    ⟨(some 44), none, .load (some 1) (.s 11)⟩,
    ⟨(some 45), none, .mov (.s 2)⟩,
    ⟨(some 46), none, .call 20 [(.s 43), (.s 44), (.s 45)]⟩,
    ⟨(some 42), none, .mov (.s 46)⟩,
    ⟨(some 47), none, .ext (.s 42) 0⟩,
    ⟨(some 48), none, .ext (.s 42) 1⟩,
    ⟨(some 12), none, .alloc [(.t .nil)]⟩,
    ⟨none, none, .store 1 (.s 12) (.s 47)⟩,
    ⟨(some 13), none, .mov (.s 48)⟩] [2, 3, 4, 8, 9, 10, 11, 12, 13])
  (.seq (.seq (.reg [
    ⟨(some 49), none, .load (some 1) (.s 12)⟩,
    ⟨(some 50), none, .load (some 1) (.s 8)⟩,
    ⟨(some 51), none, .call 17 [(.s 49), (.s 50)]⟩,
    ⟨(some 52), none, .un .not (.s 51)⟩,
    ⟨(some 53), none, .mov (.s 52)⟩,
    ⟨(some 54), (some (53, false)), .mov (.s 13)⟩,
    ⟨(some 55), (some (53, false)), .mov (.s 9)⟩,
    ⟨(some 56), (some (53, false)), .beq true (.s 54) (.s 55)⟩,
    ⟨(some 57), none, .pick (.s 53) (.c (.t (.bool true))) (.s 56)⟩] [2, 3, 4, 8, 9, 10, 11, 12, 13, 57])
  (.cond (.s 57)
    (.seq (.reg [
      ⟨(some 6), none, .mov (.c (.t (.bool false)))⟩] [6])
    (.ret))
    (.skip)))
  (.seq (.seq (.drw [
    ⟨(some 58), none, .load (some 2) (.s 10)⟩,
    ⟨(some 59), none, .load (some 2) (.s 3)⟩,
    ⟨(some 60), none, .call 12 [(.s 59)]⟩,
    ⟨(some 61), none, .call 16 [(.s 58), (.s 60)]⟩,
    ⟨(some 62), none, .un .not (.s 61)⟩] [[], [], [1], [0, 2, 2], [3]] [2, 3, 4, 8, 9, 10, 11, 12, 13, 62])
  (.cond (.s 62)
    (.seq (.reg [
      ⟨(some 6), none, .mov (.c (.t (.bool false)))⟩] [6])
    (.ret))
    (.skip)))
  (.seq (.seq (.drw [
    ⟨(some 63), none, .load (some 1) (.s 11)⟩,
    ⟨(some 64), none, .load (some 1) (.s 4)⟩,
    ⟨(some 65), none, .call 13 [(.s 64)]⟩,
    ⟨(some 66), none, .call 17 [(.s 63), (.s 65)]⟩,
    ⟨(some 67), none, .un .not (.s 66)⟩] [[], [], [1], [0, 2, 2], [3]] [2, 3, 4, 8, 9, 10, 11, 12, 13, 67])
  (.cond (.s 67)
    (.seq (.reg [
      ⟨(some 6), none, .mov (.c (.t (.bool false)))⟩] [6])
    (.ret))
    (.skip)))
  (.seq (.reg [
    ⟨(some 14), none, .mov (.c (.t (.int .i64 1)))⟩] [2, 3, 4, 8, 9, 10, 11, 12, 13, 14])
  (.seq (.reg [
    ⟨(some 68), none, .load (some 2) (.s 10)⟩,
    ⟨(some 69), none, .mov (.s 14)⟩,
    ⟨(some 70), none, .icall 21 [(.s 68), (.s 69)]⟩,
    ⟨(some 14), none, .mov (.s 70)⟩] [2, 3, 4, 8, 9, 11, 12, 13, 14])
  (.seq (.reg [
    ⟨(some 71), none, .load (some 1) (.s 11)⟩,
    ⟨(some 72), none, .mov (.s 14)⟩,
    ⟨(some 73), none, .icall 22 [(.s 71), (.s 72)]⟩,
    ⟨(some 14), none, .mov (.s 73)⟩] [2, 3, 4, 8, 9, 12, 13, 14])
  (.seq (.seq (.reg [
    ⟨(some 74), none, .mov (.s 14)⟩,
    ⟨(some 75), none, .bin .lss (.s 74) (.c (.t (.int .i64 0)))⟩,
    ⟨(some 76), none, .mov (.s 75)⟩,
    ⟨(some 77), (some (76, false)), .load (some 1) (.s 12)⟩,
    ⟨(some 78), (some (76, false)), .load (some 1) (.s 8)⟩,
    ⟨(some 79), (some (76, false)), .call 17 [(.s 77), (.s 78)]⟩,
    ⟨(some 80), (some (76, false)), .un .not (.s 79)⟩,
    ⟨(some 81), none, .pick (.s 76) (.c (.t (.bool true))) (.s 80)⟩,
    ⟨(some 82), none, .mov (.s 81)⟩,
    ⟨(some 83), (some (82, false)), .mov (.s 13)⟩,
    ⟨(some 84), (some (82, false)), .mov (.s 9)⟩,
    ⟨(some 85), (some (82, false)), .beq true (.s 83) (.s 84)⟩,
    ⟨(some 86), none, .pick (.s 82) (.c (.t (.bool true))) (.s 85)⟩] [2, 3, 4, 8, 9, 12, 86])
  (.cond (.s 86)
    (.seq (.reg [
      ⟨(some 6), none, .mov (.c (.t (.bool false)))⟩] [6])
    (.ret))
    (.skip)))
  (.seq (.reg [
    ⟨(some 15), none, .mov (.c (.t (.int .i64 1)))⟩] [2, 3, 4, 8, 9, 12, 15])
  (.seq (.reg [
    ⟨(some 87), none, .load (some 1) (.s 12)⟩,
    ⟨(some 88), none, .mov (.s 15)⟩,
    ⟨(some 89), none, .icall 22 [(.s 87), (.s 88)]⟩,
    ⟨(some 15), none, .mov (.s 89)⟩] [2, 3, 4, 8, 9, 12, 15])
  (.seq (.reg [
    ⟨(some 16), none, .mov (.c (.t (.int .i64 1)))⟩] [2, 3, 4, 8, 9, 12, 15, 16])
  (.seq (.reg [
    ⟨(some 90), none, .load (some 1) (.s 12)⟩,
    ⟨(some 91), none, .mov (.s 16)⟩,
    ⟨(some 92), none, .call 23 [(.s 90), (.s 91)]⟩,
    ⟨(some 16), none, .mov (.s 92)⟩] [2, 3, 4, 8, 9, 12, 15, 16])
  (.seq (.seq (.reg [
    ⟨(some 93), none, .mov (.s 16)⟩,
    ⟨(some 94), none, .bin .lss (.s 93) (.c (.t (.int .i64 0)))⟩] [2, 3, 4, 8, 9, 12, 15, 16, 94])
  (.cond (.s 94)
    (.seq (.reg [
      ⟨(some 6), none, .mov (.c (.t (.bool false)))⟩] [6])
    (.ret))
    (.skip)))
  (.seq (.seq (.reg [
    ⟨(some 95), none, .mov (.s 16)⟩,
    ⟨(some 96), none, .mov (.s 15)⟩,
    ⟨(some 97), none, .bin .neq (.s 95) (.s 96)⟩] [2, 3, 4, 8, 9, 12, 15, 97])
  (.cond (.s 97)
    (.seq (.reg [
      ⟨(some 6), none, .mov (.c (.t (.bool false)))⟩] [6])
    (.ret))
    (.skip)))
  (.seq (.drw [
    ⟨(some 99), none, .load (some 2) (.s 3)⟩,
    ⟨(some 100), none, .call 12 [(.s 99)]⟩,
    ⟨(some 101), none, .load (some 1) (.s 4)⟩,
    ⟨(some 102), none, .call 13 [(.s 101)]⟩,
    ⟨(some 103), none, .mov (.s 2)⟩,
    ⟨(some 104), none, .call 20 [(.s 100), (.s 102), (.s 103)]⟩,
    ⟨(some 98), none, .mov (.s 104)⟩,
    ⟨(some 105), none, .ext (.s 98) 0⟩,
    ⟨(some 106), none, .ext (.s 98) 1⟩,
    ⟨(some 17), none, .alloc [(.t .nil)]⟩,
    ⟨none, none, .store 1 (.s 17) (.s 105)⟩,
    ⟨(some 18), none, .mov (.s 106)⟩] [[], [0], [], [2, 1], [], [1, 3, 4, 3], [5], [6], [6], [], [9, 7, 5, 0, 1, 2, 3, 4, 5, 6, 7, 9], [8, 10, 0, 1, 2, 3, 4, 5, 6, 7, 8, 9, 10]] [8, 9, 12, 15, 17, 18])
  (.seq (.seq (.reg [
    ⟨(some 107), none, .load (some 1) (.s 17)⟩,
    ⟨(some 108), none, .load (some 1) (.s 8)⟩,
    ⟨(some 109), none, .call 17 [(.s 107), (.s 108)]⟩,
    ⟨(some 110), none, .un .not (.s 109)⟩,
    ⟨(some 111), none, .mov (.s 110)⟩,
    ⟨(some 112), (some (111, false)), .mov (.s 18)⟩,
    ⟨(some 113), (some (111, false)), .mov (.s 9)⟩,
    ⟨(some 114), (some (111, false)), .beq true (.s 112) (.s 113)⟩,
    ⟨(some 115), none, .pick (.s 111) (.c (.t (.bool true))) (.s 114)⟩] [12, 15, 115])
  (.cond (.s 115)
    (.seq (.reg [
      ⟨(some 6), none, .mov (.c (.t (.bool false)))⟩] [6])
    (.ret))
    (.skip)))
  (.seq (.reg [
    ⟨(some 16), none, .mov (.c (.t (.int .i64 1)))⟩] [12, 15, 16])
  (.seq (.reg [
    ⟨(some 116), none, .load (some 1) (.s 12)⟩,
    ⟨(some 117), none, .mov (.s 16)⟩,
    ⟨(some 118), none, .call 23 [(.s 116), (.s 117)]⟩,
    ⟨(some 16), none, .mov (.s 118)⟩] [15, 16])
  (.seq (.seq (.reg [
    ⟨(some 119), none, .mov (.s 16)⟩,
    ⟨(some 120), none, .bin .lss (.s 119) (.c (.t (.int .i64 0)))⟩] [15, 16, 120])
  (.cond (.s 120)
    (.seq (.reg [
      ⟨(some 6), none, .mov (.c (.t (.bool false)))⟩] [6])
    (.ret))
    (.skip)))
  (.seq (.seq (.reg [
    ⟨(some 121), none, .mov (.s 16)⟩,
    ⟨(some 122), none, .mov (.s 15)⟩,
    ⟨(some 123), none, .bin .neq (.s 121) (.s 122)⟩] [123])
  (.cond (.s 123)
    (.seq (.reg [
      ⟨(some 6), none, .mov (.c (.t (.bool false)))⟩] [6])
    (.ret))
    (.skip)))
  (.seq (.reg [
    ⟨(some 6), none, .mov (.c (.t (.bool true)))⟩] [6])
  (.ret))))))))))))))))))))))))))))))⟩
theorem t_laws_FnExactSpillPlan : tbl 4 = some M_laws_FnExactSpillPlan := tblOf_eq Try.func4 (by kernel_rfl) (by kernel_rfl)

/-- loop.example/g01921/laws.FnExactIsValidRegion -/
def M_laws_FnExactIsValidRegion : MFun := ⟨2, 45, [.tmp 4],
  .seq (.reg [
    ⟨(some 2), none, .box (.s 0)⟩,
    ⟨(some 3), none, .box (.s 1)⟩,
    ⟨(some 4), none, .mov (.c (.t (.bool false)))⟩] [2, 3])
  (.seq (.reg [
    ⟨(some 5), none, .mov (.c (.t (.int .i64 1048576)))⟩] [2, 3, 5])
  (.seq (.reg [
    ⟨(some 10), none, .load (some 2) (.s 2)⟩,
    ⟨(some 11), none, .mov (.s 5)⟩,
    ⟨(some 12), none, .call 8 [(.s 10), (.s 11)]⟩,
    ⟨(some 5), none, .mov (.s 12)⟩] [2, 3, 5])
  (.seq (.seq (.reg [
    ⟨(some 13), none, .mov (.s 5)⟩,
    ⟨(some 14), none, .bin .lss (.s 13) (.c (.t (.int .i64 0)))⟩] [2, 3, 5, 14])
  (.cond (.s 14)
    (.seq (.reg [
      ⟨(some 4), none, .mov (.c (.t (.bool true)))⟩] [4])
    (.ret))
    (.skip)))
  (.seq (.reg [
    ⟨(some 15), none, .load (some 4) (.s 3)⟩,
    ⟨(some 16), none, .mov (.s 5)⟩,
    ⟨(some 17), none, .call 24 [(.s 15), (.s 16)]⟩,
    ⟨(some 5), none, .mov (.s 17)⟩] [2, 3, 5])
  (.seq (.seq (.reg [
    ⟨(some 18), none, .mov (.s 5)⟩,
    ⟨(some 19), none, .bin .lss (.s 18) (.c (.t (.int .i64 0)))⟩] [2, 3, 19])
  (.cond (.s 19)
    (.seq (.reg [
      ⟨(some 4), none, .mov (.c (.t (.bool true)))⟩] [4])
    (.ret))
    (.skip)))
  (.seq (.drw [
    ⟨(some 20), none, .load (some 2) (.s 2)⟩,
    ⟨(some 21), none, .call 12 [(.s 20)]⟩,
    ⟨(some 22), none, .load (some 4) (.s 3)⟩,
    ⟨(some 23), none, .call 26 [(.s 22)]⟩,
    ⟨(some 24), none, .call 25 [(.s 21), (.s 23)]⟩,
    ⟨(some 6), none, .mov (.s 24)⟩] [[], [0], [], [2, 1], [1, 3, 3], [4, 4, 0, 1, 2, 3, 4]] [2, 3, 6])
  (.seq (.reg [
    ⟨(some 25), none, .load (some 2) (.s 2)⟩,
    ⟨(some 26), none, .call 12 [(.s 25)]⟩,
    ⟨(some 7), none, .alloc [(.t (.int .i64 0)), (.t .nil)]⟩,
    ⟨none, none, .store 2 (.s 7) (.s 26)⟩] [2, 3, 6, 7])
  (.seq (.reg [
    ⟨(some 27), none, .load (some 4) (.s 3)⟩,
    ⟨(some 28), none, .call 26 [(.s 27)]⟩,
    ⟨(some 8), none, .alloc [(.t .nil), (.t .nil), (.t .nil), (.t (.int .i64 0))]⟩,
    ⟨none, none, .store 4 (.s 8) (.s 28)⟩] [2, 3, 6, 7, 8])
  (.seq (.reg [
    ⟨(some 29), none, .load (some 2) (.s 7)⟩,
    ⟨(some 30), none, .load (some 4) (.s 8)⟩,
    ⟨(some 31), none, .call 27 [(.s 29), (.s 30)]⟩,
    ⟨(some 9), none, .mov (.s 31)⟩] [2, 3, 6, 7, 8, 9])
  (.seq (.seq (.reg [
    ⟨(some 32), none, .mov (.s 9)⟩,
    ⟨(some 33), none, .mov (.s 6)⟩,
    ⟨(some 34), none, .beq true (.s 32) (.s 33)⟩] [2, 3, 7, 8, 34])
  (.cond (.s 34)
    (.seq (.reg [
      ⟨(some 4), none, .mov (.c (.t (.bool false)))⟩] [4])
    (.ret))
    (.skip)))
  (.seq (.seq (.drw [
    ⟨(some 35), none, .load (some 2) (.s 7)⟩,
    ⟨(some 36), none, .load (some 2) (.s 2)⟩,
    ⟨(some 37), none, .call 12 [(.s 36)]⟩,
    ⟨(some 38), none, .call 16 [(.s 35), (.s 37)]⟩,
    ⟨(some 39), none, .un .not (.s 38)⟩] [[], [], [1], [0, 2, 2], [3]] [3, 8, 39])
  (.cond (.s 39)
    (.seq (.reg [
      ⟨(some 4), none, .mov (.c (.t (.bool false)))⟩] [4])
    (.ret))
    (.skip)))
  (.seq (.seq (.drw [
    ⟨(some 40), none, .load (some 4) (.s 8)⟩,
    ⟨(some 41), none, .load (some 4) (.s 3)⟩,
    ⟨(some 42), none, .call 26 [(.s 41)]⟩,
    ⟨(some 43), none, .call 28 [(.s 40), (.s 42)]⟩,
    ⟨(some 44), none, .un .not (.s 43)⟩] [[], [], [1], [0, 2, 2], [3]] [44])
  (.cond (.s 44)
    (.seq (.reg [
      ⟨(some 4), none, .mov (.c (.t (.bool false)))⟩] [4])
    (.ret))
    (.skip)))
  (.seq (.reg [
    ⟨(some 4), none, .mov (.c (.t (.bool true)))⟩] [4])
  (.ret))))))))))))))⟩
theorem t_laws_FnExactIsValidRegion : tbl 5 = some M_laws_FnExactIsValidRegion := tblOf_eq Try.func5 (by kernel_rfl) (by kernel_rfl)

/-- loop.example/g01921/laws.FnExactAreOrderedNotes -/
def M_laws_FnExactAreOrderedNotes : MFun := ⟨3, 63, [.tmp 6],
  .seq (.reg [
    ⟨(some 3), none, .box (.s 0)⟩,
    ⟨(some 4), none, .box (.s 1)⟩,
    ⟨(some 6), none, .mov (.c (.t (.bool false)))⟩] [2, 3, 4])
  (.seq (.reg [
    ⟨(some 7), none, .mov (.c (.t (.int .i64 1048576)))⟩] [2, 3, 4, 7])
  (.seq (.reg [
    ⟨(some 13), none, .load (some 2) (.s 3)⟩,
    ⟨(some 14), none, .mov (.s 7)⟩,
    ⟨(some 15), none, .call 8 [(.s 13), (.s 14)]⟩,
    ⟨(some 7), none, .mov (.s 15)⟩] [2, 3, 4, 7])
  (.seq (.seq (.reg [
    ⟨(some 16), none, .mov (.s 7)⟩,
    ⟨(some 17), none, .bin .lss (.s 16) (.c (.t (.int .i64 0)))⟩] [2, 3, 4, 7, 17])
  (.cond (.s 17)
    (.seq (.reg [
      ⟨(some 6), none, .mov (.c (.t (.bool true)))⟩] [6])
    (.ret))
    (.skip)))
  (.seq (.reg [
    ⟨(some 18), none, .load (some 8) (.s 4)⟩,
    ⟨(some 19), none, .mov (.s 7)⟩,
    ⟨(some 20), none, .call 29 [(.s 18), (.s 19)]⟩,
    ⟨(some 7), none, .mov (.s 20)⟩] [2, 3, 4, 7])
  (.seq (.seq (.reg [
    ⟨(some 21), none, .mov (.s 7)⟩,
    ⟨(some 22), none, .bin .lss (.s 21) (.c (.t (.int .i64 0)))⟩] [2, 3, 4, 7, 22])
  (.cond (.s 22)
    (.seq (.reg [
      ⟨(some 6), none, .mov (.c (.t (.bool true)))⟩] [6])
    (.ret))
    (.skip)))
  (.seq (.reg [
    ⟨(some 23), none, .mov (.s 2)⟩,
    ⟨(some 24), none, .mov (.s 7)⟩,
    ⟨(some 25), none, .call 30 [(.s 23), (.s 24)]⟩,
    ⟨(some 7), none, .mov (.s 25)⟩] [2, 3, 4, 7])
  (.seq (.seq (.reg [
    ⟨(some 26), none, .mov (.s 7)⟩,
    ⟨(some 27), none, .bin .lss (.s 26) (.c (.t (.int .i64 0)))⟩] [2, 3, 4, 27])
  (.cond (.s 27)
    (.seq (.reg [
      ⟨(some 6), none, .mov (.c (.t (.bool true)))⟩] [6])
    (.ret))
    (.skip)))
  (.seq (.drw [
    ⟨(some 28), none, .load (some 2) (.s 3)⟩,
    ⟨(some 29), none, .call 12 [(.s 28)]⟩,
    ⟨(some 30), none, .load (some 8) (.s 4)⟩,
    ⟨(some 31), none, .call 32 [(.s 30)]⟩,
    ⟨(some 32), none, .mov (.s 2)⟩,
    ⟨(some 33), none, .call 33 [(.s 32)]⟩,
    ⟨(some 34), none, .call 31 [(.s 29), (.s 31), (.s 33)]⟩,
    ⟨(some 8), none, .mov (.s 34)⟩] [[], [0], [], [2, 1], [], [4, 3], [1, 3, 5, 5], [6, 6, 0, 1, 2, 3, 4, 5, 6]] [2, 3, 4, 8])
  (.seq (.reg [
    ⟨(some 35), none, .load (some 2) (.s 3)⟩,
    ⟨(some 36), none, .call 12 [(.s 35)]⟩,
    ⟨(some 9), none, .alloc [(.t (.int .i64 0)), (.t .nil)]⟩,
    ⟨none, none, .store 2 (.s 9) (.s 36)⟩] [2, 3, 4, 8, 9])
  (.seq (.reg [
    ⟨(some 37), none, .load (some 8) (.s 4)⟩,
    ⟨(some 38), none, .call 32 [(.s 37)]⟩,
    ⟨(some 10), none, .alloc [(.t (.int .i64 0)), (.t (.int .i64 0)), (.t (.int .i64 0)), (.t .nil), (.t .nil), (.t .nil), (.t .nil), (.t .nil)]⟩,
    ⟨none, none, .store 8 (.s 10) (.s 38)⟩] [2, 3, 4, 8, 9, 10])
  (.seq (.reg [
    ⟨(some 39), none, .mov (.s 2)⟩,
    ⟨(some 40), none, .call 33 [(.s 39)]⟩,
    ⟨(some 11), none, .mov (.s 40)⟩] [2, 3, 4, 8, 9, 10, 11])
  (.seq (.reg [
    ⟨(some 41), none, .load (some 2) (.s 9)⟩,
    ⟨(some 42), none, .load (some 8) (.s 10)⟩,
    ⟨(some 43), none, .mov (.s 11)⟩,
    ⟨(some 44), none, .call 34 [(.s 41), (.s 42), (.s 43)]⟩,
    ⟨(some 12), none, .mov (.s 44)⟩] [2, 3, 4, 8, 9, 10, 11, 12])
  (.seq (.seq (.reg [
    ⟨(some 45), none, .mov (.s 12)⟩,
    ⟨(some 46), none, .mov (.s 8)⟩,
    ⟨(some 47), none, .beq true (.s 45) (.s 46)⟩] [2, 3, 4, 9, 10, 11, 47])
  (.cond (.s 47)
    (.seq (.reg [
      ⟨(some 6), none, .mov (.c (.t (.bool false)))⟩] [6])
    (.ret))
    (.skip)))
  (.seq (.seq (.drw [
    ⟨(some 48), none, .load (some 2) (.s 9)⟩,
    ⟨(some 49), none, .load (some 2) (.s 3)⟩,
    ⟨(some 50), none, .call 12 [(.s 49)]⟩,
    ⟨(some 51), none, .call 16 [(.s 48), (.s 50)]⟩,
    ⟨(some 52), none, .un .not (.s 51)⟩] [[], [], [1], [0, 2, 2], [3]] [2, 4, 10, 11, 52])
  (.cond (.s 52)
    (.seq (.reg [
      ⟨(some 6), none, .mov (.c (.t (.bool false)))⟩] [6])
    (.ret))
    (.skip)))
  (.seq (.seq (.drw [
    ⟨(some 53), none, .load (some 8) (.s 10)⟩,
    ⟨(some 54), none, .load (some 8) (.s 4)⟩,
    ⟨(some 55), none, .call 32 [(.s 54)]⟩,
    ⟨(some 56), none, .call 35 [(.s 53), (.s 55)]⟩,
    ⟨(some 57), none, .un .not (.s 56)⟩] [[], [], [1], [0, 2, 2], [3]] [2, 11, 57])
  (.cond (.s 57)
    (.seq (.reg [
      ⟨(some 6), none, .mov (.c (.t (.bool false)))⟩] [6])
    (.ret))
    (.skip)))
  (.seq (.seq (.reg [
    ⟨(some 58), none, .mov (.s 11)⟩,
    ⟨(some 59), none, .mov (.s 2)⟩,
    ⟨(some 60), none, .call 33 [(.s 59)]⟩,
    ⟨(some 61), none, .call 36 [(.s 58), (.s 60)]⟩,
    ⟨(some 62), none, .un .not (.s 61)⟩] [62])
  (.cond (.s 62)
    (.seq (.reg [
      ⟨(some 6), none, .mov (.c (.t (.bool false)))⟩] [6])
    (.ret))
    (.skip)))
  (.seq (.reg [
    ⟨(some 6), none, .mov (.c (.t (.bool true)))⟩] [6])
  (.ret))))))))))))))))))⟩
theorem t_laws_FnExactAreOrderedNotes : tbl 6 = some M_laws_FnExactAreOrderedNotes := tblOf_eq Try.func6 (by kernel_rfl) (by kernel_rfl)

/-- loop.example/g01921/laws.szQuery -/
def M_laws_szQuery : MFun := ⟨2, 12, [.tmp 4],
  .seq (.reg [
    ⟨(some 2), none, .box (.s 0)⟩,
    ⟨(some 4), none, .mov (.c (.t (.int .i64 0)))⟩] [1, 2])
  (.seq (.reg [
    ⟨(some 5), none, .faddr 1 (.s 2)⟩,
    ⟨(some 6), none, .load none (.s 5)⟩,
    ⟨(some 7), none, .mov (.s 1)⟩,
    ⟨(some 8), none, .call 49 [(.s 6), (.s 7)]⟩,
    ⟨(some 1), none, .mov (.s 8)⟩] [1])
  (.seq (.seq (.reg [
    ⟨(some 9), none, .mov (.s 1)⟩,
    ⟨(some 10), none, .bin .lss (.s 9) (.c (.t (.int .i64 0)))⟩] [1, 10])
  (.cond (.s 10)
    (.seq (.reg [
      ⟨(some 4), none, .mov (.c (.t (.int .i64 (-1))))⟩] [4])
    (.ret))
    (.skip)))
  (.seq (.reg [
    ⟨(some 11), none, .mov (.s 1)⟩,
    ⟨(some 4), none, .mov (.s 11)⟩] [4])
  (.ret))))⟩
theorem t_laws_szQuery : tbl 8 = some M_laws_szQuery := tblOf_eq Try.func8 (by kernel_rfl) (by kernel_rfl)

/-- loop.example/g01921/laws.szPlan -/
def M_laws_szPlan : MFun := ⟨2, 12, [.tmp 4],
  .seq (.reg [
    ⟨(some 2), none, .box (.s 0)⟩,
    ⟨(some 4), none, .mov (.c (.t (.int .i64 0)))⟩] [1, 2])
  (.seq (.reg [
    ⟨(some 5), none, .faddr 0 (.s 2)⟩,
    ⟨(some 6), none, .load none (.s 5)⟩,
    ⟨(some 7), none, .mov (.s 1)⟩,
    ⟨(some 8), none, .call 50 [(.s 6), (.s 7)]⟩,
    ⟨(some 1), none, .mov (.s 8)⟩] [1])
  (.seq (.seq (.reg [
    ⟨(some 9), none, .mov (.s 1)⟩,
    ⟨(some 10), none, .bin .lss (.s 9) (.c (.t (.int .i64 0)))⟩] [1, 10])
  (.cond (.s 10)
    (.seq (.reg [
      ⟨(some 4), none, .mov (.c (.t (.int .i64 (-1))))⟩] [4])
    (.ret))
    (.skip)))
  (.seq (.reg [
    ⟨(some 11), none, .mov (.s 1)⟩,
    ⟨(some 4), none, .mov (.s 11)⟩] [4])
  (.ret))))⟩
theorem t_laws_szPlan : tbl 9 = some M_laws_szPlan := tblOf_eq Try.func9 (by kernel_rfl) (by kernel_rfl)

/-- loop.example/g01921/laws.szBox -/
def M_laws_szBox : MFun := ⟨2, 18, [.tmp 4],
  .seq (.reg [
    ⟨(some 2), none, .box (.s 0)⟩,
    ⟨(some 4), none, .mov (.c (.t (.int .i64 0)))⟩] [1, 2])
  (.seq (.reg [
    ⟨(some 5), none, .faddr 0 (.s 2)⟩,
    ⟨(some 6), none, .load none (.s 5)⟩,
    ⟨(some 7), none, .mov (.s 1)⟩,
    ⟨(some 8), none, .call 51 [(.s 6), (.s 7)]⟩,
    ⟨(some 1), none, .mov (.s 8)⟩] [1, 2])
  (.seq (.seq (.reg [
    ⟨(some 9), none, .mov (.s 1)⟩,
    ⟨(some 10), none, .bin .lss (.s 9) (.c (.t (.int .i64 0)))⟩] [1, 2, 10])
  (.cond (.s 10)
    (.seq (.reg [
      ⟨(some 4), none, .mov (.c (.t (.int .i64 (-1))))⟩] [4])
    (.ret))
    (.skip)))
  (.seq (.reg [
    ⟨(some 11), none, .faddr 1 (.s 2)⟩,
    ⟨(some 12), none, .load none (.s 11)⟩,
    ⟨(some 13), none, .mov (.s 1)⟩,
    ⟨(some 14), none, .call 51 [(.s 12), (.s 13)]⟩,
    ⟨(some 1), none, .mov (.s 14)⟩] [1])
  (.seq (.seq (.reg [
    ⟨(some 15), none, .mov (.s 1)⟩,
    ⟨(some 16), none, .bin .lss (.s 15) (.c (.t (.int .i64 0)))⟩] [1, 16])
  (.cond (.s 16)
    (.seq (.reg [
      ⟨(some 4), none, .mov (.c (.t (.int .i64 (-1))))⟩] [4])
    (.ret))
    (.skip)))
  (.seq (.reg [
    ⟨(some 17), none, .mov (.s 1)⟩,
    ⟨(some 4), none, .mov (.s 17)⟩] [4])
  (.ret))))))⟩
theorem t_laws_szBox : tbl 10 = some M_laws_szBox := tblOf_eq Try.func10 (by kernel_rfl) (by kernel_rfl)

/-- loop.example/g01921/laws.toQuery -/
def M_laws_toQuery : MFun := ⟨1, 12, [.cell 2 (some 2)],
  .seq (.reg [
    ⟨(some 1), none, .box (.s 0)⟩,
    ⟨(some 2), none, .alloc [(.t (.int .i64 0)), (.t .nil)]⟩] [1, 2])
  (.seq (.reg [
    ⟨(some 3), none, .alloc [(.t (.int .i64 0)), (.t .nil)]⟩] [1, 2, 3])
  (.seq (.reg [
    ⟨(some 4), none, .faddr 0 (.s 1)⟩,
    ⟨(some 5), none, .load none (.s 4)⟩,
    ⟨(some 6), none, .faddr 0 (.s 3)⟩,
    ⟨none, none, .store 1 (.s 6) (.s 5)⟩] [1, 2, 3])
  (.seq (.reg [
    ⟨(some 7), none, .faddr 1 (.s 1)⟩,
    ⟨(some 8), none, .load none (.s 7)⟩,
    ⟨(some 9), none, .call 55 [(.s 8)]⟩,
    ⟨(some 10), none, .faddr 1 (.s 3)⟩,
    ⟨none, none, .store 1 (.s 10) (.s 9)⟩] [2, 3])
  (.seq (.reg [
    ⟨(some 11), none, .load (some 2) (.s 3)⟩,
    ⟨none, none, .store 2 (.s 2) (.s 11)⟩] [2])
  (.ret)))))⟩
theorem t_laws_toQuery : tbl 12 = some M_laws_toQuery := tblOf_eq Try.func12 (by kernel_rfl) (by kernel_rfl)

/-- loop.example/g01921/laws.toPlan -/
def M_laws_toPlan : MFun := ⟨1, 9, [.cell 2 (some 1)],
  .seq (.reg [
    ⟨(some 1), none, .box (.s 0)⟩,
    ⟨(some 2), none, .alloc [(.t .nil)]⟩] [1, 2])
  (.seq (.reg [
    ⟨(some 3), none, .alloc [(.t .nil)]⟩] [1, 2, 3])
  (.seq (.reg [
    ⟨(some 4), none, .faddr 0 (.s 1)⟩,
    ⟨(some 5), none, .load none (.s 4)⟩,
    ⟨(some 6), none, .call 56 [(.s 5)]⟩,
    ⟨(some 7), none, .faddr 0 (.s 3)⟩,
    ⟨none, none, .store 1 (.s 7) (.s 6)⟩] [2, 3])
  (.seq (.reg [
    ⟨(some 8), none, .load (some 1) (.s 3)⟩,
    ⟨none, none, .store 1 (.s 2) (.s 8)⟩] [2])
  (.ret))))⟩
theorem t_laws_toPlan : tbl 13 = some M_laws_toPlan := tblOf_eq Try.func13 (by kernel_rfl) (by kernel_rfl)

/-- loop.example/g01921/laws.toBox -/
def M_laws_toBox : MFun := ⟨1, 13, [.cell 2 (some 2)],
  .seq (.reg [
    ⟨(some 1), none, .box (.s 0)⟩,
    ⟨(some 2), none, .alloc [(.t .nil), (.t .nil)]⟩] [1, 2])
  (.seq (.reg [
    ⟨(some 3), none, .alloc [(.t .nil), (.t .nil)]⟩] [1, 2, 3])
  (.seq (.reg [
    ⟨(some 4), none, .faddr 0 (.s 1)⟩,
    ⟨(some 5), none, .load none (.s 4)⟩,
    ⟨(some 6), none, .call 57 [(.s 5)]⟩,
    ⟨(some 7), none, .faddr 0 (.s 3)⟩,
    ⟨none, none, .store 1 (.s 7) (.s 6)⟩] [1, 2, 3])
  (.seq (.reg [
    ⟨(some 8), none, .faddr 1 (.s 1)⟩,
    ⟨(some 9), none, .load none (.s 8)⟩,
    ⟨(some 10), none, .call 57 [(.s 9)]⟩,
    ⟨(some 11), none, .faddr 1 (.s 3)⟩,
    ⟨none, none, .store 1 (.s 11) (.s 10)⟩] [2, 3])
  (.seq (.reg [
    ⟨(some 12), none, .load (some 2) (.s 3)⟩,
    ⟨none, none, .store 2 (.s 2) (.s 12)⟩] [2])
  (.ret)))))⟩
theorem t_laws_toBox : tbl 14 = some M_laws_toBox := tblOf_eq Try.func14 (by kernel_rfl) (by kernel_rfl)

/-- loop.example/g01921/laws.eqQuery -/
def M_laws_eqQuery : MFun := ⟨2, 16, [.tmp 4],
  .seq (.reg [
    ⟨(some 2), none, .box (.s 0)⟩,
    ⟨(some 3), none, .box (.s 1)⟩,
    ⟨(some 4), none, .mov (.c (.t (.bool false)))⟩] [2, 3])
  (.seq (.seq (.reg [
    ⟨(some 5), none, .faddr 0 (.s 2)⟩,
    ⟨(some 6), none, .load none (.s 5)⟩,
    ⟨(some 7), none, .faddr 0 (.s 3)⟩,
    ⟨(some 8), none, .load none (.s 7)⟩,
    ⟨(some 9), none, .bin .neq (.s 6) (.s 8)⟩] [2, 3, 9])
  (.cond (.s 9)
    (.seq (.reg [
      ⟨(some 4), none, .mov (.c (.t (.bool false)))⟩] [4])
    (.ret))
    (.skip)))
  (.seq (.seq (.reg [
    ⟨(some 10), none, .faddr 1 (.s 2)⟩,
    ⟨(some 11), none, .load none (.s 10)⟩,
    ⟨(some 12), none, .faddr 1 (.s 3)⟩,
    ⟨(some 13), none, .load none (.s 12)⟩,
    ⟨(some 14), none, .call 61 [(.s 11), (.s 13)]⟩,
    ⟨(some 15), none, .un .not (.s 14)⟩] [15])
  (.cond (.s 15)
    (.seq (.reg [
      ⟨(some 4), none, .mov (.c (.t (.bool false)))⟩] [4])
    (.ret))
    (.skip)))
  (.seq (.reg [
    ⟨(some 4), none, .mov (.c (.t (.bool true)))⟩] [4])
  (.ret))))⟩
theorem t_laws_eqQuery : tbl 16 = some M_laws_eqQuery := tblOf_eq Try.func16 (by kernel_rfl) (by kernel_rfl)

/-- loop.example/g01921/laws.eqPlan -/
def M_laws_eqPlan : MFun := ⟨2, 11, [.tmp 4],
  .seq (.reg [
    ⟨(some 2), none, .box (.s 0)⟩,
    ⟨(some 3), none, .box (.s 1)⟩,
    ⟨(some 4), none, .mov (.c (.t (.bool false)))⟩] [2, 3])
  (.seq (.seq (.reg [
    ⟨(some 5), none, .faddr 0 (.s 2)⟩,
    ⟨(some 6), none, .load none (.s 5)⟩,
    ⟨(some 7), none, .faddr 0 (.s 3)⟩,
    ⟨(some 8), none, .load none (.s 7)⟩,
    ⟨(some 9), none, .call 62 [(.s 6), (.s 8)]⟩,
    ⟨(some 10), none, .un .not (.s 9)⟩] [10])
  (.cond (.s 10)
    (.seq (.reg [
      ⟨(some 4), none, .mov (.c (.t (.bool false)))⟩] [4])
    (.ret))
    (.skip)))
  (.seq (.reg [
    ⟨(some 4), none, .mov (.c (.t (.bool true)))⟩] [4])
  (.ret)))⟩
theorem t_laws_eqPlan : tbl 17 = some M_laws_eqPlan := tblOf_eq Try.func17 (by kernel_rfl) (by kernel_rfl)

/-- loop.example/g01921/laws.eqBox -/
def M_laws_eqBox : MFun := ⟨2, 17, [.tmp 4],
  .seq (.reg [
    ⟨(some 2), none, .box (.s 0)⟩,
    ⟨(some 3), none, .box (.s 1)⟩,
    ⟨(some 4), none, .mov (.c (.t (.bool false)))⟩] [2, 3])
  (.seq (.seq (.reg [
    ⟨(some 5), none, .faddr 0 (.s 2)⟩,
    ⟨(some 6), none, .load none (.s 5)⟩,
    ⟨(some 7), none, .faddr 0 (.s 3)⟩,
    ⟨(some 8), none, .load none (.s 7)⟩,
    ⟨(some 9), none, .call 63 [(.s 6), (.s 8)]⟩,
    ⟨(some 10), none, .un .not (.s 9)⟩] [2, 3, 10])
  (.cond (.s 10)
    (.seq (.reg [
      ⟨(some 4), none, .mov (.c (.t (.bool false)))⟩] [4])
    (.ret))
    (.skip)))
  (.seq (.seq (.reg [
    ⟨(some 11), none, .faddr 1 (.s 2)⟩,
    ⟨(some 12), none, .load none (.s 11)⟩,
    ⟨(some 13), none, .faddr 1 (.s 3)⟩,
    ⟨(some 14), none, .load none (.s 13)⟩,
    ⟨(some 15), none, .call 63 [(.s 12), (.s 14)]⟩,
    ⟨(some 16), none, .un .not (.s 15)⟩] [16])
  (.cond (.s 16)
    (.seq (.reg [
      ⟨(some 4), none, .mov (.c (.t (.bool false)))⟩] [4])
    (.ret))
    (.skip)))
  (.seq (.reg [
    ⟨(some 4), none, .mov (.c (.t (.bool true)))⟩] [4])
  (.ret))))⟩
theorem t_laws_eqBox : tbl 18 = some M_laws_eqBox := tblOf_eq Try.func18 (by kernel_rfl) (by kernel_rfl)

/-- loop.example/g01921/laws.markQuery -/
def M_laws_markQuery : MFun := ⟨2, 10, [.tmp 4],
  .seq (.reg [
    ⟨(some 2), none, .box (.s 0)⟩,
    ⟨(some 4), none, .mov (.c (.t (.int .i64 0)))⟩] [1, 2])
  (.seq (.reg [
    ⟨(some 5), none, .faddr 1 (.s 2)⟩,
    ⟨(some 6), none, .load none (.s 5)⟩,
    ⟨(some 7), none, .mov (.s 1)⟩,
    ⟨(some 8), none, .icall 66 [(.s 6), (.s 7)]⟩,
    ⟨(some 1), none, .mov (.s 8)⟩] [1])
  (.seq (.reg [
    ⟨(some 9), none, .mov (.s 1)⟩,
    ⟨(some 4), none, .mov (.s 9)⟩] [4])
  (.ret)))⟩
theorem t_laws_markQuery : tbl 21 = some M_laws_markQuery := tblOf_eq Try.func21 (by kernel_rfl) (by kernel_rfl)

/-- loop.example/g01921/laws.markPlan -/
def M_laws_markPlan : MFun := ⟨2, 10, [.tmp 4],
  .seq (.reg [
    ⟨(some 2), none, .box (.s 0)⟩,
    ⟨(some 4), none, .mov (.c (.t (.int .i64 0)))⟩] [1, 2])
  (.seq (.reg [
    ⟨(some 5), none, .faddr 0 (.s 2)⟩,
    ⟨(some 6), none, .load none (.s 5)⟩,
    ⟨(some 7), none, .mov (.s 1)⟩,
    ⟨(some 8), none, .icall 67 [(.s 6), (.s 7)]⟩,
    ⟨(some 1), none, .mov (.s 8)⟩] [1])
  (.seq (.reg [
    ⟨(some 9), none, .mov (.s 1)⟩,
    ⟨(some 4), none, .mov (.s 9)⟩] [4])
  (.ret)))⟩
theorem t_laws_markPlan : tbl 22 = some M_laws_markPlan := tblOf_eq Try.func22 (by kernel_rfl) (by kernel_rfl)

/-- loop.example/g01921/laws.heldPlan -/
def M_laws_heldPlan : MFun := ⟨2, 12, [.tmp 4],
  .seq (.reg [
    ⟨(some 2), none, .box (.s 0)⟩,
    ⟨(some 4), none, .mov (.c (.t (.int .i64 0)))⟩] [1, 2])
  (.seq (.reg [
    ⟨(some 5), none, .faddr 0 (.s 2)⟩,
    ⟨(some 6), none, .load none (.s 5)⟩,
    ⟨(some 7), none, .mov (.s 1)⟩,
    ⟨(some 8), none, .call 68 [(.s 6), (.s 7)]⟩,
    ⟨(some 1), none, .mov (.s 8)⟩] [1])
  (.seq (.seq (.reg [
    ⟨(some 9), none, .mov (.s 1)⟩,
    ⟨(some 10), none, .bin .lss (.s 9) (.c (.t (.int .i64 0)))⟩] [1, 10])
  (.cond (.s 10)
    (.seq (.reg [
      ⟨(some 4), none, .mov (.c (.t (.int .i64 (-1))))⟩] [4])
    (.ret))
    (.skip)))
  (.seq (.reg [
    ⟨(some 11), none, .mov (.s 1)⟩,
    ⟨(some 4), none, .mov (.s 11)⟩] [4])
  (.ret))))⟩
theorem t_laws_heldPlan : tbl 23 = some M_laws_heldPlan := tblOf_eq Try.func23 (by kernel_rfl) (by kernel_rfl)

/-- loop.example/g01921/laws.szRegion -/
def M_laws_szRegion : MFun := ⟨2, 18, [.tmp 4],
  .seq (.reg [
    ⟨(some 2), none, .box (.s 0)⟩,
    ⟨(some 4), none, .mov (.c (.t (.int .i64 0)))⟩] [1, 2])
  (.seq (.reg [
    ⟨(some 5), none, .faddr 0 (.s 2)⟩,
    ⟨(some 6), none, .load (some 1) (.s 5)⟩,
    ⟨(some 7), none, .mov (.s 1)⟩,
    ⟨(some 8), none, .call 9 [(.s 6), (.s 7)]⟩,
    ⟨(some 1), none, .mov (.s 8)⟩] [1, 2])
  (.seq (.seq (.reg [
    ⟨(some 9), none, .mov (.s 1)⟩,
    ⟨(some 10), none, .bin .lss (.s 9) (.c (.t (.int .i64 0)))⟩] [1, 2, 10])
  (.cond (.s 10)
    (.seq (.reg [
      ⟨(some 4), none, .mov (.c (.t (.int .i64 (-1))))⟩] [4])
    (.ret))
    (.skip)))
  (.seq (.reg [
    ⟨(some 11), none, .faddr 1 (.s 2)⟩,
    ⟨(some 12), none, .load (some 2) (.s 11)⟩,
    ⟨(some 13), none, .mov (.s 1)⟩,
    ⟨(some 14), none, .call 10 [(.s 12), (.s 13)]⟩,
    ⟨(some 1), none, .mov (.s 14)⟩] [1])
  (.seq (.seq (.reg [
    ⟨(some 15), none, .mov (.s 1)⟩,
    ⟨(some 16), none, .bin .lss (.s 15) (.c (.t (.int .i64 0)))⟩] [1, 16])
  (.cond (.s 16)
    (.seq (.reg [
      ⟨(some 4), none, .mov (.c (.t (.int .i64 (-1))))⟩] [4])
    (.ret))
    (.skip)))
  (.seq (.reg [
    ⟨(some 17), none, .mov (.s 1)⟩,
    ⟨(some 4), none, .mov (.s 17)⟩] [4])
  (.ret))))))⟩
theorem t_laws_szRegion : tbl 24 = some M_laws_szRegion := tblOf_eq Try.func24 (by kernel_rfl) (by kernel_rfl)

/-- loop.example/g01921/laws.toRegion -/
def M_laws_toRegion : MFun := ⟨1, 16, [.cell 2 (some 4)],
  .seq (.reg [
    ⟨(some 1), none, .box (.s 0)⟩,
    ⟨(some 2), none, .alloc [(.t .nil), (.t .nil), (.t .nil), (.t (.int .i64 0))]⟩] [1, 2])
  (.seq (.reg [
    ⟨(some 3), none, .alloc [(.t .nil), (.t .nil), (.t .nil), (.t (.int .i64 0))]⟩] [1, 2, 3])
  (.seq (.reg [
    ⟨(some 4), none, .faddr 0 (.s 1)⟩,
    ⟨(some 5), none, .load (some 1) (.s 4)⟩,
    ⟨(some 6), none, .call 13 [(.s 5)]⟩,
    ⟨(some 7), none, .faddr 0 (.s 3)⟩,
    ⟨none, none, .store 1 (.s 7) (.s 6)⟩] [1, 2, 3])
  (.seq (.reg [
    ⟨(some 8), none, .faddr 1 (.s 1)⟩,
    ⟨(some 9), none, .load (some 2) (.s 8)⟩,
    ⟨(some 10), none, .call 14 [(.s 9)]⟩,
    ⟨(some 11), none, .faddr 1 (.s 3)⟩,
    ⟨none, none, .store 2 (.s 11) (.s 10)⟩] [1, 2, 3])
  (.seq (.reg [
    ⟨(some 12), none, .faddr 3 (.s 1)⟩,
    ⟨(some 13), none, .load none (.s 12)⟩,
    ⟨(some 14), none, .faddr 3 (.s 3)⟩,
    ⟨none, none, .store 1 (.s 14) (.s 13)⟩] [2, 3])
  (.seq (.reg [
    ⟨(some 15), none, .load (some 4) (.s 3)⟩,
    ⟨none, none, .store 4 (.s 2) (.s 15)⟩] [2])
  (.ret))))))⟩
theorem t_laws_toRegion : tbl 26 = some M_laws_toRegion := tblOf_eq Try.func26 (by kernel_rfl) (by kernel_rfl)

/-- loop.example/g01921/laws.eqRegion -/
def M_laws_eqRegion : MFun := ⟨2, 22, [.tmp 4],
  .seq (.reg [
    ⟨(some 2), none, .box (.s 0)⟩,
    ⟨(some 3), none, .box (.s 1)⟩,
    ⟨(some 4), none, .mov (.c (.t (.bool false)))⟩] [2, 3])
  (.seq (.seq (.reg [
    ⟨(some 5), none, .faddr 0 (.s 2)⟩,
    ⟨(some 6), none, .load (some 1) (.s 5)⟩,
    ⟨(some 7), none, .faddr 0 (.s 3)⟩,
    ⟨(some 8), none, .load (some 1) (.s 7)⟩,
    ⟨(some 9), none, .call 17 [(.s 6), (.s 8)]⟩,
    ⟨(some 10), none, .un .not (.s 9)⟩] [2, 3, 10])
  (.cond (.s 10)
    (.seq (.reg [
      ⟨(some 4), none, .mov (.c (.t (.bool false)))⟩] [4])
    (.ret))
    (.skip)))
  (.seq (.seq (.reg [
    ⟨(some 11), none, .faddr 1 (.s 2)⟩,
    ⟨(some 12), none, .load (some 2) (.s 11)⟩,
    ⟨(some 13), none, .faddr 1 (.s 3)⟩,
    ⟨(some 14), none, .load (some 2) (.s 13)⟩,
    ⟨(some 15), none, .call 18 [(.s 12), (.s 14)]⟩,
    ⟨(some 16), none, .un .not (.s 15)⟩] [2, 3, 16])
  (.cond (.s 16)
    (.seq (.reg [
      ⟨(some 4), none, .mov (.c (.t (.bool false)))⟩] [4])
    (.ret))
    (.skip)))
  (.seq (.seq (.reg [
    ⟨(some 17), none, .faddr 3 (.s 2)⟩,
    ⟨(some 18), none, .load none (.s 17)⟩,
    ⟨(some 19), none, .faddr 3 (.s 3)⟩,
    ⟨(some 20), none, .load none (.s 19)⟩,
    ⟨(some 21), none, .bin .neq (.s 18) (.s 20)⟩] [21])
  (.cond (.s 21)
    (.seq (.reg [
      ⟨(some 4), none, .mov (.c (.t (.bool false)))⟩] [4])
    (.ret))
    (.skip)))
  (.seq (.reg [
    ⟨(some 4), none, .mov (.c (.t (.bool true)))⟩] [4])
  (.ret)))))⟩
theorem t_laws_eqRegion : tbl 28 = some M_laws_eqRegion := tblOf_eq Try.func28 (by kernel_rfl) (by kernel_rfl)

/-- loop.example/g01921/laws.szBouquet -/
def M_laws_szBouquet : MFun := ⟨2, 30, [.tmp 4],
  .seq (.reg [
    ⟨(some 2), none, .box (.s 0)⟩,
    ⟨(some 4), none, .mov (.c (.t (.int .i64 0)))⟩] [1, 2])
  (.seq (.reg [
    ⟨(some 5), none, .faddr 3 (.s 2)⟩,
    ⟨(some 6), none, .load (some 2) (.s 5)⟩,
    ⟨(some 7), none, .mov (.s 1)⟩,
    ⟨(some 8), none, .call 10 [(.s 6), (.s 7)]⟩,
    ⟨(some 1), none, .mov (.s 8)⟩] [1, 2])
  (.seq (.seq (.reg [
    ⟨(some 9), none, .mov (.s 1)⟩,
    ⟨(some 10), none, .bin .lss (.s 9) (.c (.t (.int .i64 0)))⟩] [1, 2, 10])
  (.cond (.s 10)
    (.seq (.reg [
      ⟨(some 4), none, .mov (.c (.t (.int .i64 (-1))))⟩] [4])
    (.ret))
    (.skip)))
  (.seq (.reg [
    ⟨(some 11), none, .faddr 5 (.s 2)⟩,
    ⟨(some 12), none, .load none (.s 11)⟩,
    ⟨(some 13), none, .mov (.s 1)⟩,
    ⟨(some 14), none, .call 51 [(.s 12), (.s 13)]⟩,
    ⟨(some 1), none, .mov (.s 14)⟩] [1, 2])
  (.seq (.seq (.reg [
    ⟨(some 15), none, .mov (.s 1)⟩,
    ⟨(some 16), none, .bin .lss (.s 15) (.c (.t (.int .i64 0)))⟩] [1, 2, 16])
  (.cond (.s 16)
    (.seq (.reg [
      ⟨(some 4), none, .mov (.c (.t (.int .i64 (-1))))⟩] [4])
    (.ret))
    (.skip)))
  (.seq (.reg [
    ⟨(some 17), none, .faddr 6 (.s 2)⟩,
    ⟨(some 18), none, .load none (.s 17)⟩,
    ⟨(some 19), none, .mov (.s 1)⟩,
    ⟨(some 20), none, .call 75 [(.s 18), (.s 19)]⟩,
    ⟨(some 1), none, .mov (.s 20)⟩] [1, 2])
  (.seq (.seq (.reg [
    ⟨(some 21), none, .mov (.s 1)⟩,
    ⟨(some 22), none, .bin .lss (.s 21) (.c (.t (.int .i64 0)))⟩] [1, 2, 22])
  (.cond (.s 22)
    (.seq (.reg [
      ⟨(some 4), none, .mov (.c (.t (.int .i64 (-1))))⟩] [4])
    (.ret))
    (.skip)))
  (.seq (.reg [
    ⟨(some 23), none, .faddr 7 (.s 2)⟩,
    ⟨(some 24), none, .load none (.s 23)⟩,
    ⟨(some 25), none, .mov (.s 1)⟩,
    ⟨(some 26), none, .call 76 [(.s 24), (.s 25)]⟩,
    ⟨(some 1), none, .mov (.s 26)⟩] [1])
  (.seq (.seq (.reg [
    ⟨(some 27), none, .mov (.s 1)⟩,
    ⟨(some 28), none, .bin .lss (.s 27) (.c (.t (.int .i64 0)))⟩] [1, 28])
  (.cond (.s 28)
    (.seq (.reg [
      ⟨(some 4), none, .mov (.c (.t (.int .i64 (-1))))⟩] [4])
    (.ret))
    (.skip)))
  (.seq (.reg [
    ⟨(some 29), none, .mov (.s 1)⟩,
    ⟨(some 4), none, .mov (.s 29)⟩] [4])
  (.ret))))))))))⟩
theorem t_laws_szBouquet : tbl 29 = some M_laws_szBouquet := tblOf_eq Try.func29 (by kernel_rfl) (by kernel_rfl)

/-- loop.example/g01921/laws.szRunNoteS -/
def M_laws_szRunNoteS : MFun := ⟨2, 12, [.tmp 4],
  .seq (.reg [
    ⟨(some 4), none, .mov (.c (.t (.int .i64 0)))⟩] [0, 1])
  (.seq (.reg [
    ⟨(some 5), none, .mov (.s 1)⟩,
    ⟨(some 6), none, .mov (.s 0)⟩,
    ⟨(some 7), none, .len false (.s 6)⟩,
    ⟨(some 8), none, .bin .sub (.s 5) (.s 7)⟩,
    ⟨(some 1), none, .mov (.s 8)⟩] [1])
  (.seq (.seq (.reg [
    ⟨(some 9), none, .mov (.s 1)⟩,
    ⟨(some 10), none, .bin .lss (.s 9) (.c (.t (.int .i64 0)))⟩] [1, 10])
  (.cond (.s 10)
    (.seq (.reg [
      ⟨(some 4), none, .mov (.c (.t (.int .i64 (-1))))⟩] [4])
    (.ret))
    (.skip)))
  (.seq (.reg [
    ⟨(some 11), none, .mov (.s 1)⟩,
    ⟨(some 4), none, .mov (.s 11)⟩] [4])
  (.ret))))⟩
theorem t_laws_szRunNoteS : tbl 30 = some M_laws_szRunNoteS := tblOf_eq Try.func30 (by kernel_rfl) (by kernel_rfl)

/-- loop.example/g01921/laws.toBouquet -/
def M_laws_toBouquet : MFun := ⟨1, 30, [.cell 2 (some 8)],
  .seq (.reg [
    ⟨(some 1), none, .box (.s 0)⟩,
    ⟨(some 2), none, .alloc [(.t (.int .i64 0)), (.t (.int .i64 0)), (.t (.int .i64 0)), (.t .nil), (.t .nil), (.t .nil), (.t .nil), (.t .nil)]⟩] [1, 2])
  (.seq (.reg [
    ⟨(some 3), none, .alloc [(.t (.int .i64 0)), (.t (.int .i64 0)), (.t (.int .i64 0)), (.t .nil), (.t .nil), (.t .nil), (.t .nil), (.t .nil)]⟩] [1, 2, 3])
  (.seq (.reg [
    ⟨(some 4), none, .faddr 0 (.s 1)⟩,
    ⟨(some 5), none, .load none (.s 4)⟩,
    ⟨(some 6), none, .faddr 0 (.s 3)⟩,
    ⟨none, none, .store 1 (.s 6) (.s 5)⟩] [1, 2, 3])
  (.seq (.reg [
    ⟨(some 7), none, .faddr 1 (.s 1)⟩,
    ⟨(some 8), none, .load none (.s 7)⟩,
    ⟨(some 9), none, .faddr 1 (.s 3)⟩,
    ⟨none, none, .store 1 (.s 9) (.s 8)⟩] [1, 2, 3])
  (.seq (.reg [
    ⟨(some 10), none, .faddr 2 (.s 1)⟩,
    ⟨(some 11), none, .load none (.s 10)⟩,
    ⟨(some 12), none, .faddr 2 (.s 3)⟩,
    ⟨none, none, .store 1 (.s 12) (.s 11)⟩] [1, 2, 3])
  (.seq (.reg [
    ⟨(some 13), none, .faddr 3 (.s 1)⟩,
    ⟨(some 14), none, .load (some 2) (.s 13)⟩,
    ⟨(some 15), none, .call 14 [(.s 14)]⟩,
    ⟨(some 16), none, .faddr 3 (.s 3)⟩,
    ⟨none, none, .store 2 (.s 16) (.s 15)⟩] [1, 2, 3])
  (.seq (.reg [
    ⟨(some 17), none, .faddr 5 (.s 1)⟩,
    ⟨(some 18), none, .load none (.s 17)⟩,
    ⟨(some 19), none, .call 57 [(.s 18)]⟩,
    ⟨(some 20), none, .faddr 5 (.s 3)⟩,
    ⟨none, none, .store 1 (.s 20) (.s 19)⟩] [1, 2, 3])
  (.seq (.reg [
    ⟨(some 21), none, .faddr 6 (.s 1)⟩,
    ⟨(some 22), none, .load none (.s 21)⟩,
    ⟨(some 23), none, .call 80 [(.s 22)]⟩,
    ⟨(some 24), none, .faddr 6 (.s 3)⟩,
    ⟨none, none, .store 1 (.s 24) (.s 23)⟩] [1, 2, 3])
  (.seq (.reg [
    ⟨(some 25), none, .faddr 7 (.s 1)⟩,
    ⟨(some 26), none, .load none (.s 25)⟩,
    ⟨(some 27), none, .call 81 [(.s 26)]⟩,
    ⟨(some 28), none, .faddr 7 (.s 3)⟩,
    ⟨none, none, .store 1 (.s 28) (.s 27)⟩] [2, 3])
  (.seq (.reg [
    ⟨(some 29), none, .load (some 8) (.s 3)⟩,
    ⟨none, none, .store 8 (.s 2) (.s 29)⟩] [2])
  (.ret))))))))))⟩
theorem t_laws_toBouquet : tbl 32 = some M_laws_toBouquet := tblOf_eq Try.func32 (by kernel_rfl) (by kernel_rfl)

/-- loop.example/g01921/laws.toRunNoteS -/
def B_laws_toRunNoteS_0 : MCode :=
  .seq (.seq (.reg [
    ⟨(some 8), none, .mov (.s 4)⟩,
    ⟨(some 9), none, .mov (.s 0)⟩,
    ⟨(some 10), none, .len false (.s 9)⟩,
    ⟨(some 11), none, .bin .lss (.s 8) (.s 10)⟩] [0, 3, 4, 11])
  (.cond (.s 11)
    (.skip)
    (.exit 0)))
  (.seq (.block 1 (.reg [
    ⟨(some 14), none, .mov (.s 3)⟩,
    ⟨(some 15), none, .mov (.s 4)⟩,
    ⟨(some 16), none, .mov (.s 0)⟩,
    ⟨(some 17), none, .mov (.s 4)⟩,
    ⟨(some 18), none, .iaddr 5 (.s 16) (.s 17)⟩,
    ⟨(some 19), none, .load (some 5) (.s 18)⟩,
    ⟨(some 20), none, .call 82 [(.s 19)]⟩,
    ⟨(some 21), none, .iaddr 5 (.s 14) (.s 15)⟩,
    ⟨none, none, .store 5 (.s 21) (.s 20)⟩] [0, 3, 4]))
  (.reg [
    ⟨(some 12), none, .mov (.s 4)⟩,
    ⟨(some 13), none, .bin .add (.s 12) (.c (.t (.int .i64 1)))⟩,
    ⟨(some 4), none, .mov (.s 13)⟩] [0, 3, 4]))

def M_laws_toRunNoteS : MFun := ⟨1, 23, [.tmp 2],
  .seq (.reg [
    ⟨(some 2), none, .mov (.c (.t .nil))⟩] [0])
  (.seq (.reg [
    ⟨(some 5), none, .mov (.s 0)⟩,
    ⟨(some 6), none, .len false (.s 5)⟩,
    ⟨(some 7), none, .mkslice 129 5 40 [(.int .i64 0), (.int .i64 0), (.int .i64 0), (.int .i64 0), (.bool false)] (.s 6) (.s 6)⟩,
    ⟨(some 3), none, .mov (.s 7)⟩] [0, 3])
  (.seq (.seq (.reg [
    ⟨(some 4), none, .mov (.c (.t (.int .i64 0)))⟩] [0, 3, 4])
  (.block 0 (.loop [0, 3, 4] B_laws_toRunNoteS_0)))
  (.seq (.reg [
    ⟨(some 22), none, .mov (.s 3)⟩,
    ⟨(some 2), none, .mov (.s 22)⟩] [2])
  (.ret))))⟩
theorem t_laws_toRunNoteS : tbl 33 = some M_laws_toRunNoteS := tblOf_eq Try.func33 (by kernel_rfl) (by kernel_rfl)

/-- loop.example/g01921/laws.eqBouquet -/
def M_laws_eqBouquet : MFun := ⟨2, 44, [.tmp 4],
  .seq (.reg [
    ⟨(some 2), none, .box (.s 0)⟩,
    ⟨(some 3), none, .box (.s 1)⟩,
    ⟨(some 4), none, .mov (.c (.t (.bool false)))⟩] [2, 3])
  (.seq (.seq (.reg [
    ⟨(some 5), none, .faddr 0 (.s 2)⟩,
    ⟨(some 6), none, .load none (.s 5)⟩,
    ⟨(some 7), none, .faddr 0 (.s 3)⟩,
    ⟨(some 8), none, .load none (.s 7)⟩,
    ⟨(some 9), none, .bin .neq (.s 6) (.s 8)⟩] [2, 3, 9])
  (.cond (.s 9)
    (.seq (.reg [
      ⟨(some 4), none, .mov (.c (.t (.bool false)))⟩] [4])
    (.ret))
    (.skip)))
  (.seq (.seq (.reg [
    ⟨(some 10), none, .faddr 1 (.s 2)⟩,
    ⟨(some 11), none, .load none (.s 10)⟩,
    ⟨(some 12), none, .faddr 1 (.s 3)⟩,
    ⟨(some 13), none, .load none (.s 12)⟩,
    ⟨(some 14), none, .bin .neq (.s 11) (.s 13)⟩] [2, 3, 14])
  (.cond (.s 14)
    (.seq (.reg [
      ⟨(some 4), none, .mov (.c (.t (.bool false)))⟩] [4])
    (.ret))
    (.skip)))
  (.seq (.seq (.reg [
    ⟨(some 15), none, .faddr 2 (.s 2)⟩,
    ⟨(some 16), none, .load none (.s 15)⟩,
    ⟨(some 17), none, .faddr 2 (.s 3)⟩,
    ⟨(some 18), none, .load none (.s 17)⟩,
    ⟨(some 19), none, .bin .neq (.s 16) (.s 18)⟩] [2, 3, 19])
  (.cond (.s 19)
    (.seq (.reg [
      ⟨(some 4), none, .mov (.c (.t (.bool false)))⟩] [4])
    (.ret))
    (.skip)))
  (.seq (.seq (.reg [
    ⟨(some 20), none, .faddr 3 (.s 2)⟩,
    ⟨(some 21), none, .load (some 2) (.s 20)⟩,
    ⟨(some 22), none, .faddr 3 (.s 3)⟩,
    ⟨(some 23), none, .load (some 2) (.s 22)⟩,
    ⟨(some 24), none, .call 18 [(.s 21), (.s 23)]⟩,
    ⟨(some 25), none, .un .not (.s 24)⟩] [2, 3, 25])
  (.cond (.s 25)
    (.seq (.reg [
      ⟨(some 4), none, .mov (.c (.t (.bool false)))⟩] [4])
    (.ret))
    (.skip)))
  (.seq (.seq (.reg [
    ⟨(some 26), none, .faddr 5 (.s 2)⟩,
    ⟨(some 27), none, .load none (.s 26)⟩,
    ⟨(some 28), none, .faddr 5 (.s 3)⟩,
    ⟨(some 29), none, .load none (.s 28)⟩,
    ⟨(some 30), none, .call 63 [(.s 27), (.s 29)]⟩,
    ⟨(some 31), none, .un .not (.s 30)⟩] [2, 3, 31])
  (.cond (.s 31)
    (.seq (.reg [
      ⟨(some 4), none, .mov (.c (.t (.bool false)))⟩] [4])
    (.ret))
    (.skip)))
  (.seq (.seq (.reg [
    ⟨(some 32), none, .faddr 6 (.s 2)⟩,
    ⟨(some 33), none, .load none (.s 32)⟩,
    ⟨(some 34), none, .faddr 6 (.s 3)⟩,
    ⟨(some 35), none, .load none (.s 34)⟩,
    ⟨(some 36), none, .call 85 [(.s 33), (.s 35)]⟩,
    ⟨(some 37), none, .un .not (.s 36)⟩] [2, 3, 37])
  (.cond (.s 37)
    (.seq (.reg [
      ⟨(some 4), none, .mov (.c (.t (.bool false)))⟩] [4])
    (.ret))
    (.skip)))
  (.seq (.seq (.reg [
    ⟨(some 38), none, .faddr 7 (.s 2)⟩,
    ⟨(some 39), none, .load none (.s 38)⟩,
    ⟨(some 40), none, .faddr 7 (.s 3)⟩,
    ⟨(some 41), none, .load none (.s 40)⟩,
    ⟨(some 42), none, .call 86 [(.s 39), (.s 41)]⟩,
    ⟨(some 43), none, .un .not (.s 42)⟩] [43])
  (.cond (.s 43)
    (.seq (.reg [
      ⟨(some 4), none, .mov (.c (.t (.bool false)))⟩] [4])
    (.ret))
    (.skip)))
  (.seq (.reg [
    ⟨(some 4), none, .mov (.c (.t (.bool true)))⟩] [4])
  (.ret)))))))))⟩
theorem t_laws_eqBouquet : tbl 35 = some M_laws_eqBouquet := tblOf_eq Try.func35 (by kernel_rfl) (by kernel_rfl)

/-- loop.example/g01921/laws.eqRunNoteS -/
def B_laws_eqRunNoteS_0 : MCode :=
  .seq (.seq (.reg [
    ⟨(some 11), none, .mov (.s 5)⟩,
    ⟨(some 12), none, .mov (.s 0)⟩,
    ⟨(some 13), none, .len false (.s 12)⟩,
    ⟨(some 14), none, .bin .lss (.s 11) (.s 13)⟩] [0, 1, 5, 14])
  (.cond (.s 14)
    (.skip)
    (.exit 0)))
  (.seq (.block 1 (.seq (.drw [
    ⟨(some 17), none, .mov (.s 0)⟩,
    ⟨(some 18), none, .mov (.s 5)⟩,
    ⟨(some 19), none, .iaddr 5 (.s 17) (.s 18)⟩,
    ⟨(some 20), none, .load (some 5) (.s 19)⟩,
    ⟨(some 21), none, .mov (.s 1)⟩,
    ⟨(some 22), none, .mov (.s 5)⟩,
    ⟨(some 23), none, .iaddr 5 (.s 21) (.s 22)⟩,
    ⟨(some 24), none, .load (some 5) (.s 23)⟩,
    ⟨(some 25), none, .call 87 [(.s 20), (.s 24)]⟩,
    ⟨(some 26), none, .un .not (.s 25)⟩] [[], [], [0, 1], [2], [], [], [4, 5], [6], [3, 7], [8]] [0, 1, 5, 26])
  (.cond (.s 26)
    (.seq (.reg [
      ⟨(some 4), none, .mov (.c (.t (.bool false)))⟩] [4])
    (.ret))
    (.skip))))
  (.reg [
    ⟨(some 15), none, .mov (.s 5)⟩,
    ⟨(some 16), none, .bin .add (.s 15) (.c (.t (.int .i64 1)))⟩,
    ⟨(some 5), none, .mov (.s 16)⟩] [0, 1, 5]))

def M_laws_eqRunNoteS : MFun := ⟨2, 27, [.tmp 4],
  .seq (.reg [
    ⟨(some 4), none, .mov (.c (.t (.bool false)))⟩] [0, 1])
  (.seq (.seq (.reg [
    ⟨(some 6), none, .mov (.s 0)⟩,
    ⟨(some 7), none, .len false (.s 6)⟩,
    ⟨(some 8), none, .mov (.s 1)⟩,
    ⟨(some 9), none, .len false (.s 8)⟩,
    ⟨(some 10), none, .bin .neq (.s 7) (.s 9)⟩] [0, 1, 10])
  (.cond (.s 10)
    (.seq (.reg [
      ⟨(some 4), none, .mov (.c (.t (.bool false)))⟩] [4])
    (.ret))
    (.skip)))
  (.seq (.seq (.reg [
    ⟨(some 5), none, .mov (.c (.t (.int .i64 0)))⟩] [0, 1, 5])
  (.block 0 (.loop [0, 1, 5] B_laws_eqRunNoteS_0)))
  (.seq (.reg [
    ⟨(some 4), none, .mov (.c (.t (.bool true)))⟩] [4])
  (.ret))))⟩
theorem t_laws_eqRunNoteS : tbl 36 = some M_laws_eqRunNoteS := tblOf_eq Try.func36 (by kernel_rfl) (by kernel_rfl)

/-- loop.example/g01921/laws.szAtomS -/
def B_laws_szAtomS_0 : MCode :=
  .seq (.seq (.reg [
    ⟨(some 12), none, .mov (.s 5)⟩,
    ⟨(some 13), none, .mov (.s 0)⟩,
    ⟨(some 14), none, .len false (.s 13)⟩,
    ⟨(some 15), none, .bin .lss (.s 12) (.s 14)⟩] [0, 1, 5, 15])
  (.cond (.s 15)
    (.skip)
    (.exit 0)))
  (.seq (.block 1 (.seq (.reg [
    ⟨(some 18), none, .mov (.s 0)⟩,
    ⟨(some 19), none, .mov (.s 5)⟩,
    ⟨(some 20), none, .iaddr 2 (.s 18) (.s 19)⟩,
    ⟨(some 21), none, .load (some 2) (.s 20)⟩,
    ⟨(some 22), none, .mov (.s 1)⟩,
    ⟨(some 23), none, .call 104 [(.s 21), (.s 22)]⟩,
    ⟨(some 1), none, .mov (.s 23)⟩] [0, 1, 5])
  (.seq (.reg [
    ⟨(some 24), none, .mov (.s 1)⟩,
    ⟨(some 25), none, .bin .lss (.s 24) (.c (.t (.int .i64 0)))⟩] [0, 1, 5, 25])
  (.cond (.s 25)
    (.seq (.reg [
      ⟨(some 4), none, .mov (.c (.t (.int .i64 (-1))))⟩] [4])
    (.ret))
    (.skip)))))
  (.reg [
    ⟨(some 16), none, .mov (.s 5)⟩,
    ⟨(some 17), none, .bin .add (.s 16) (.c (.t (.int .i64 1)))⟩,
    ⟨(some 5), none, .mov (.s 17)⟩] [0, 1, 5]))

def M_laws_szAtomS : MFun := ⟨2, 27, [.tmp 4],
  .seq (.reg [
    ⟨(some 4), none, .mov (.c (.t (.int .i64 0)))⟩] [0, 1])
  (.seq (.reg [
    ⟨(some 6), none, .mov (.s 1)⟩,
    ⟨(some 7), none, .mov (.s 0)⟩,
    ⟨(some 8), none, .len false (.s 7)⟩,
    ⟨(some 9), none, .bin .sub (.s 6) (.s 8)⟩,
    ⟨(some 1), none, .mov (.s 9)⟩] [0, 1])
  (.seq (.seq (.reg [
    ⟨(some 10), none, .mov (.s 1)⟩,
    ⟨(some 11), none, .bin .lss (.s 10) (.c (.t (.int .i64 0)))⟩] [0, 1, 11])
  (.cond (.s 11)
    (.seq (.reg [
      ⟨(some 4), none, .mov (.c (.t (.int .i64 (-1))))⟩] [4])
    (.ret))
    (.skip)))
  (.seq (.seq (.reg [
    ⟨(some 5), none, .mov (.c (.t (.int .i64 0)))⟩] [0, 1, 5])
  (.block 0 (.loop [0, 1, 5] B_laws_szAtomS_0)))
  (.seq (.reg [
    ⟨(some 26), none, .mov (.s 1)⟩,
    ⟨(some 4), none, .mov (.s 26)⟩] [4])
  (.ret)))))⟩
theorem t_laws_szAtomS : tbl 49 = some M_laws_szAtomS := tblOf_eq Try.func49 (by kernel_rfl) (by kernel_rfl)

/-- loop.example/g01921/laws.szPlanStepS -/
def M_laws_szPlanStepS : MFun := ⟨2, 12, [.tmp 4],
  .seq (.reg [
    ⟨(some 4), none, .mov (.c (.t (.int .i64 0)))⟩] [0, 1])
  (.seq (.reg [
    ⟨(some 5), none, .mov (.s 1)⟩,
    ⟨(some 6), none, .mov (.s 0)⟩,
    ⟨(some 7), none, .len false (.s 6)⟩,
    ⟨(some 8), none, .bin .sub (.s 5) (.s 7)⟩,
    ⟨(some 1), none, .mov (.s 8)⟩] [1])
  (.seq (.seq (.reg [
    ⟨(some 9), none, .mov (.s 1)⟩,
    ⟨(some 10), none, .bin .lss (.s 9) (.c (.t (.int .i64 0)))⟩] [1, 10])
  (.cond (.s 10)
    (.seq (.reg [
      ⟨(some 4), none, .mov (.c (.t (.int .i64 (-1))))⟩] [4])
    (.ret))
    (.skip)))
  (.seq (.reg [
    ⟨(some 11), none, .mov (.s 1)⟩,
    ⟨(some 4), none, .mov (.s 11)⟩] [4])
  (.ret))))⟩
theorem t_laws_szPlanStepS : tbl 50 = some M_laws_szPlanStepS := tblOf_eq Try.func50 (by kernel_rfl) (by kernel_rfl)

/-- loop.example/g01921/laws.szIntS -/
def M_laws_szIntS : MFun := ⟨2, 12, [.tmp 4],
  .seq (.reg [
    ⟨(some 4), none, .mov (.c (.t (.int .i64 0)))⟩] [0, 1])
  (.seq (.reg [
    ⟨(some 5), none, .mov (.s 1)⟩,
    ⟨(some 6), none, .mov (.s 0)⟩,
    ⟨(some 7), none, .len false (.s 6)⟩,
    ⟨(some 8), none, .bin .sub (.s 5) (.s 7)⟩,
    ⟨(some 1), none, .mov (.s 8)⟩] [1])
  (.seq (.seq (.reg [
    ⟨(some 9), none, .mov (.s 1)⟩,
    ⟨(some 10), none, .bin .lss (.s 9) (.c (.t (.int .i64 0)))⟩] [1, 10])
  (.cond (.s 10)
    (.seq (.reg [
      ⟨(some 4), none, .mov (.c (.t (.int .i64 (-1))))⟩] [4])
    (.ret))
    (.skip)))
  (.seq (.reg [
    ⟨(some 11), none, .mov (.s 1)⟩,
    ⟨(some 4), none, .mov (.s 11)⟩] [4])
  (.ret))))⟩
theorem t_laws_szIntS : tbl 51 = some M_laws_szIntS := tblOf_eq Try.func51 (by kernel_rfl) (by kernel_rfl)

/-- loop.example/g01921/laws.toAtomS -/
def B_laws_toAtomS_0 : MCode :=
  .seq (.seq (.reg [
    ⟨(some 8), none, .mov (.s 4)⟩,
    ⟨(some 9), none, .mov (.s 0)⟩,
    ⟨(some 10), none, .len false (.s 9)⟩,
    ⟨(some 11), none, .bin .lss (.s 8) (.s 10)⟩] [0, 3, 4, 11])
  (.cond (.s 11)
    (.skip)
    (.exit 0)))
  (.seq (.block 1 (.reg [
    ⟨(some 14), none, .mov (.s 3)⟩,
    ⟨(some 15), none, .mov (.s 4)⟩,
    ⟨(some 16), none, .mov (.s 0)⟩,
    ⟨(some 17), none, .mov (.s 4)⟩,
    ⟨(some 18), none, .iaddr 2 (.s 16) (.s 17)⟩,
    ⟨(some 19), none, .load (some 2) (.s 18)⟩,
    ⟨(some 20), none, .call 109 [(.s 19)]⟩,
    ⟨(some 21), none, .iaddr 2 (.s 14) (.s 15)⟩,
    ⟨none, none, .store 2 (.s 21) (.s 20)⟩] [0, 3, 4]))
  (.reg [
    ⟨(some 12), none, .mov (.s 4)⟩,
    ⟨(some 13), none, .bin .add (.s 12) (.c (.t (.int .i64 1)))⟩,
    ⟨(some 4), none, .mov (.s 13)⟩] [0, 3, 4]))

def M_laws_toAtomS : MFun := ⟨1, 23, [.tmp 2],
  .seq (.reg [
    ⟨(some 2), none, .mov (.c (.t .nil))⟩] [0])
  (.seq (.reg [
    ⟨(some 5), none, .mov (.s 0)⟩,
    ⟨(some 6), none, .len false (.s 5)⟩,
    ⟨(some 7), none, .mkslice 168 2 40 [(.str ⟨#[]⟩), .nil] (.s 6) (.s 6)⟩,
    ⟨(some 3), none, .mov (.s 7)⟩] [0, 3])
  (.seq (.seq (.reg [
    ⟨(some 4), none, .mov (.c (.t (.int .i64 0)))⟩] [0, 3, 4])
  (.block 0 (.loop [0, 3, 4] B_laws_toAtomS_0)))
  (.seq (.reg [
    ⟨(some 22), none, .mov (.s 3)⟩,
    ⟨(some 2), none, .mov (.s 22)⟩] [2])
  (.ret))))⟩
theorem t_laws_toAtomS : tbl 55 = some M_laws_toAtomS := tblOf_eq Try.func55 (by kernel_rfl) (by kernel_rfl)

/-- loop.example/g01921/laws.toPlanStepS -/
def B_laws_toPlanStepS_0 : MCode :=
  .seq (.seq (.reg [
    ⟨(some 8), none, .mov (.s 4)⟩,
    ⟨(some 9), none, .mov (.s 0)⟩,
    ⟨(some 10), none, .len false (.s 9)⟩,
    ⟨(some 11), none, .bin .lss (.s 8) (.s 10)⟩] [0, 3, 4, 11])
  (.cond (.s 11)
    (.skip)
    (.exit 0)))
  (.seq (.block 1 (.reg [
    ⟨(some 14), none, .mov (.s 3)⟩,
    ⟨(some 15), none, .mov (.s 4)⟩,
    ⟨(some 16), none, .mov (.s 0)⟩,
    ⟨(some 17), none, .mov (.s 4)⟩,
    ⟨(some 18), none, .iaddr 3 (.s 16) (.s 17)⟩,
    ⟨(some 19), none, .load (some 3) (.s 18)⟩,
    ⟨(some 20), none, .call 110 [(.s 19)]⟩,
    ⟨(some 21), none, .iaddr 3 (.s 14) (.s 15)⟩,
    ⟨none, none, .store 3 (.s 21) (.s 20)⟩] [0, 3, 4]))
  (.reg [
    ⟨(some 12), none, .mov (.s 4)⟩,
    ⟨(some 13), none, .bin .add (.s 12) (.c (.t (.int .i64 1)))⟩,
    ⟨(some 4), none, .mov (.s 13)⟩] [0, 3, 4]))

def M_laws_toPlanStepS : MFun := ⟨1, 23, [.tmp 2],
  .seq (.reg [
    ⟨(some 2), none, .mov (.c (.t .nil))⟩] [0])
  (.seq (.reg [
    ⟨(some 5), none, .mov (.s 0)⟩,
    ⟨(some 6), none, .len false (.s 5)⟩,
    ⟨(some 7), none, .mkslice 166 3 24 [(.int .i64 0), (.int .i64 0), (.int .i64 0)] (.s 6) (.s 6)⟩,
    ⟨(some 3), none, .mov (.s 7)⟩] [0, 3])
  (.seq (.seq (.reg [
    ⟨(some 4), none, .mov (.c (.t (.int .i64 0)))⟩] [0, 3, 4])
  (.block 0 (.loop [0, 3, 4] B_laws_toPlanStepS_0)))
  (.seq (.reg [
    ⟨(some 22), none, .mov (.s 3)⟩,
    ⟨(some 2), none, .mov (.s 22)⟩] [2])
  (.ret))))⟩
theorem t_laws_toPlanStepS : tbl 56 = some M_laws_toPlanStepS := tblOf_eq Try.func56 (by kernel_rfl) (by kernel_rfl)

/-- loop.example/g01921/laws.toIntS -/
def B_laws_toIntS_0 : MCode :=
  .seq (.seq (.reg [
    ⟨(some 8), none, .mov (.s 4)⟩,
    ⟨(some 9), none, .mov (.s 0)⟩,
    ⟨(some 10), none, .len false (.s 9)⟩,
    ⟨(some 11), none, .bin .lss (.s 8) (.s 10)⟩] [0, 3, 4, 11])
  (.cond (.s 11)
    (.skip)
    (.exit 0)))
  (.seq (.block 1 (.reg [
    ⟨(some 14), none, .mov (.s 3)⟩,
    ⟨(some 15), none, .mov (.s 4)⟩,
    ⟨(some 16), none, .mov (.s 0)⟩,
    ⟨(some 17), none, .mov (.s 4)⟩,
    ⟨(some 18), none, .iaddr 1 (.s 16) (.s 17)⟩,
    ⟨(some 19), none, .load none (.s 18)⟩,
    ⟨(some 20), none, .iaddr 1 (.s 14) (.s 15)⟩,
    ⟨none, none, .store 1 (.s 20) (.s 19)⟩] [0, 3, 4]))
  (.reg [
    ⟨(some 12), none, .mov (.s 4)⟩,
    ⟨(some 13), none, .bin .add (.s 12) (.c (.t (.int .i64 1)))⟩,
    ⟨(some 4), none, .mov (.s 13)⟩] [0, 3, 4]))

def M_laws_toIntS : MFun := ⟨1, 22, [.tmp 2],
  .seq (.reg [
    ⟨(some 2), none, .mov (.c (.t .nil))⟩] [0])
  (.seq (.reg [
    ⟨(some 5), none, .mov (.s 0)⟩,
    ⟨(some 6), none, .len false (.s 5)⟩,
    ⟨(some 7), none, .mkslice 3 1 8 [(.int .i64 0)] (.s 6) (.s 6)⟩,
    ⟨(some 3), none, .mov (.s 7)⟩] [0, 3])
  (.seq (.seq (.reg [
    ⟨(some 4), none, .mov (.c (.t (.int .i64 0)))⟩] [0, 3, 4])
  (.block 0 (.loop [0, 3, 4] B_laws_toIntS_0)))
  (.seq (.reg [
    ⟨(some 21), none, .mov (.s 3)⟩,
    ⟨(some 2), none, .mov (.s 21)⟩] [2])
  (.ret))))⟩
theorem t_laws_toIntS : tbl 57 = some M_laws_toIntS := tblOf_eq Try.func57 (by kernel_rfl) (by kernel_rfl)

/-- loop.example/g01921/laws.eqAtomS -/
def B_laws_eqAtomS_0 : MCode :=
  .seq (.seq (.reg [
    ⟨(some 11), none, .mov (.s 5)⟩,
    ⟨(some 12), none, .mov (.s 0)⟩,
    ⟨(some 13), none, .len false (.s 12)⟩,
    ⟨(some 14), none, .bin .lss (.s 11) (.s 13)⟩] [0, 1, 5, 14])
  (.cond (.s 14)
    (.skip)
    (.exit 0)))
  (.seq (.block 1 (.seq (.drw [
    ⟨(some 17), none, .mov (.s 0)⟩,
    ⟨(some 18), none, .mov (.s 5)⟩,
    ⟨(some 19), none, .iaddr 2 (.s 17) (.s 18)⟩,
    ⟨(some 20), none, .load (some 2) (.s 19)⟩,
    ⟨(some 21), none, .mov (.s 1)⟩,
    ⟨(some 22), none, .mov (.s 5)⟩,
    ⟨(some 23), none, .iaddr 2 (.s 21) (.s 22)⟩,
    ⟨(some 24), none, .load (some 2) (.s 23)⟩,
    ⟨(some 25), none, .call 113 [(.s 20), (.s 24)]⟩,
    ⟨(some 26), none, .un .not (.s 25)⟩] [[], [], [0, 1], [2], [], [], [4, 5], [6], [3, 7], [8]] [0, 1, 5, 26])
  (.cond (.s 26)
    (.seq (.reg [
      ⟨(some 4), none, .mov (.c (.t (.bool false)))⟩] [4])
    (.ret))
    (.skip))))
  (.reg [
    ⟨(some 15), none, .mov (.s 5)⟩,
    ⟨(some 16), none, .bin .add (.s 15) (.c (.t (.int .i64 1)))⟩,
    ⟨(some 5), none, .mov (.s 16)⟩] [0, 1, 5]))

def M_laws_eqAtomS : MFun := ⟨2, 27, [.tmp 4],
  .seq (.reg [
    ⟨(some 4), none, .mov (.c (.t (.bool false)))⟩] [0, 1])
  (.seq (.seq (.reg [
    ⟨(some 6), none, .mov (.s 0)⟩,
    ⟨(some 7), none, .len false (.s 6)⟩,
    ⟨(some 8), none, .mov (.s 1)⟩,
    ⟨(some 9), none, .len false (.s 8)⟩,
    ⟨(some 10), none, .bin .neq (.s 7) (.s 9)⟩] [0, 1, 10])
  (.cond (.s 10)
    (.seq (.reg [
      ⟨(some 4), none, .mov (.c (.t (.bool false)))⟩] [4])
    (.ret))
    (.skip)))
  (.seq (.seq (.reg [
    ⟨(some 5), none, .mov (.c (.t (.int .i64 0)))⟩] [0, 1, 5])
  (.block 0 (.loop [0, 1, 5] B_laws_eqAtomS_0)))
  (.seq (.reg [
    ⟨(some 4), none, .mov (.c (.t (.bool true)))⟩] [4])
  (.ret))))⟩
theorem t_laws_eqAtomS : tbl 61 = some M_laws_eqAtomS := tblOf_eq Try.func61 (by kernel_rfl) (by kernel_rfl)

/-- loop.example/g01921/laws.eqPlanStepS -/
def B_laws_eqPlanStepS_0 : MCode :=
  .seq (.seq (.reg [
    ⟨(some 11), none, .mov (.s 5)⟩,
    ⟨(some 12), none, .mov (.s 0)⟩,
    ⟨(some 13), none, .len false (.s 12)⟩,
    ⟨(some 14), none, .bin .lss (.s 11) (.s 13)⟩] [0, 1, 5, 14])
  (.cond (.s 14)
    (.skip)
    (.exit 0)))
  (.seq (.block 1 (.seq (.drw [
    ⟨(some 17), none, .mov (.s 0)⟩,
    ⟨(some 18), none, .mov (.s 5)⟩,
    ⟨(some 19), none, .iaddr 3 (.s 17) (.s 18)⟩,
    ⟨(some 20), none, .load (some 3) (.s 19)⟩,
    ⟨(some 21), none, .mov (.s 1)⟩,
    ⟨(some 22), none, .mov (.s 5)⟩,
    ⟨(some 23), none, .iaddr 3 (.s 21) (.s 22)⟩,
    ⟨(some 24), none, .load (some 3) (.s 23)⟩,
    ⟨(some 25), none, .call 114 [(.s 20), (.s 24)]⟩,
    ⟨(some 26), none, .un .not (.s 25)⟩] [[], [], [0, 1], [2], [], [], [4, 5], [6], [3, 7], [8]] [0, 1, 5, 26])
  (.cond (.s 26)
    (.seq (.reg [
      ⟨(some 4), none, .mov (.c (.t (.bool false)))⟩] [4])
    (.ret))
    (.skip))))
  (.reg [
    ⟨(some 15), none, .mov (.s 5)⟩,
    ⟨(some 16), none, .bin .add (.s 15) (.c (.t (.int .i64 1)))⟩,
    ⟨(some 5), none, .mov (.s 16)⟩] [0, 1, 5]))

def M_laws_eqPlanStepS : MFun := ⟨2, 27, [.tmp 4],
  .seq (.reg [
    ⟨(some 4), none, .mov (.c (.t (.bool false)))⟩] [0, 1])
  (.seq (.seq (.reg [
    ⟨(some 6), none, .mov (.s 0)⟩,
    ⟨(some 7), none, .len false (.s 6)⟩,
    ⟨(some 8), none, .mov (.s 1)⟩,
    ⟨(some 9), none, .len false (.s 8)⟩,
    ⟨(some 10), none, .bin .neq (.s 7) (.s 9)⟩] [0, 1, 10])
  (.cond (.s 10)
    (.seq (.reg [
      ⟨(some 4), none, .mov (.c (.t (.bool false)))⟩] [4])
    (.ret))
    (.skip)))
  (.seq (.seq (.reg [
    ⟨(some 5), none, .mov (.c (.t (.int .i64 0)))⟩] [0, 1, 5])
  (.block 0 (.loop [0, 1, 5] B_laws_eqPlanStepS_0)))
  (.seq (.reg [
    ⟨(some 4), none, .mov (.c (.t (.bool true)))⟩] [4])
  (.ret))))⟩
theorem t_laws_eqPlanStepS : tbl 62 = some M_laws_eqPlanStepS := tblOf_eq Try.func62 (by kernel_rfl) (by kernel_rfl)

/-- loop.example/g01921/laws.eqIntS -/
def B_laws_eqIntS_0 : MCode :=
  .seq (.seq (.reg [
    ⟨(some 11), none, .mov (.s 5)⟩,
    ⟨(some 12), none, .mov (.s 0)⟩,
    ⟨(some 13), none, .len false (.s 12)⟩,
    ⟨(some 14), none, .bin .lss (.s 11) (.s 13)⟩] [0, 1, 5, 14])
  (.cond (.s 14)
    (.skip)
    (.exit 0)))
  (.seq (.block 1 (.seq (.drw [
    ⟨(some 17), none, .mov (.s 0)⟩,
    ⟨(some 18), none, .mov (.s 5)⟩,
    ⟨(some 19), none, .iaddr 1 (.s 17) (.s 18)⟩,
    ⟨(some 20), none, .load none (.s 19)⟩,
    ⟨(some 21), none, .mov (.s 1)⟩,
    ⟨(some 22), none, .mov (.s 5)⟩,
    ⟨(some 23), none, .iaddr 1 (.s 21) (.s 22)⟩,
    ⟨(some 24), none, .load none (.s 23)⟩,
    ⟨(some 25), none, .bin .neq (.s 20) (.s 24)⟩] [[], [], [0, 1], [2], [], [], [4, 5], [6], [3, 7]] [0, 1, 5, 25])
  (.cond (.s 25)
    (.seq (.reg [
      ⟨(some 4), none, .mov (.c (.t (.bool false)))⟩] [4])
    (.ret))
    (.skip))))
  (.reg [
    ⟨(some 15), none, .mov (.s 5)⟩,
    ⟨(some 16), none, .bin .add (.s 15) (.c (.t (.int .i64 1)))⟩,
    ⟨(some 5), none, .mov (.s 16)⟩] [0, 1, 5]))

def M_laws_eqIntS : MFun := ⟨2, 26, [.tmp 4],
  .seq (.reg [
    ⟨(some 4), none, .mov (.c (.t (.bool false)))⟩] [0, 1])
  (.seq (.seq (.reg [
    ⟨(some 6), none, .mov (.s 0)⟩,
    ⟨(some 7), none, .len false (.s 6)⟩,
    ⟨(some 8), none, .mov (.s 1)⟩,
    ⟨(some 9), none, .len false (.s 8)⟩,
    ⟨(some 10), none, .bin .neq (.s 7) (.s 9)⟩] [0, 1, 10])
  (.cond (.s 10)
    (.seq (.reg [
      ⟨(some 4), none, .mov (.c (.t (.bool false)))⟩] [4])
    (.ret))
    (.skip)))
  (.seq (.seq (.reg [
    ⟨(some 5), none, .mov (.c (.t (.int .i64 0)))⟩] [0, 1, 5])
  (.block 0 (.loop [0, 1, 5] B_laws_eqIntS_0)))
  (.seq (.reg [
    ⟨(some 4), none, .mov (.c (.t (.bool true)))⟩] [4])
  (.ret))))⟩
theorem t_laws_eqIntS : tbl 63 = some M_laws_eqIntS := tblOf_eq Try.func63 (by kernel_rfl) (by kernel_rfl)

/-- loop.example/g01921/laws.markAtomS -/
def B_laws_markAtomS_0 : MCode :=
  .seq (.seq (.reg [
    ⟨(some 6), none, .mov (.s 5)⟩,
    ⟨(some 7), none, .mov (.s 0)⟩,
    ⟨(some 8), none, .len false (.s 7)⟩,
    ⟨(some 9), none, .bin .lss (.s 6) (.s 8)⟩] [0, 1, 5, 9])
  (.cond (.s 9)
    (.skip)
    (.exit 0)))
  (.seq (.block 1 (.seq (.reg [
    ⟨(some 12), none, .mov (.s 0)⟩,
    ⟨(some 13), none, .mov (.s 5)⟩,
    ⟨(some 14), none, .mov (.s 1)⟩,
    ⟨(some 15), none, .icall 118 [(.s 14)]⟩,
    ⟨(some 16), none, .iaddr 2 (.s 12) (.s 13)⟩,
    ⟨(some 17), none, .faddr 0 (.s 16)⟩,
    ⟨none, none, .store 1 (.s 17) (.s 15)⟩] [0, 1, 5])
  (.seq (.reg [
    ⟨(some 18), none, .mov (.s 1)⟩,
    ⟨(some 19), none, .bin .add (.s 18) (.c (.t (.int .i64 1)))⟩,
    ⟨(some 1), none, .mov (.s 19)⟩] [0, 1, 5])
  (.reg [
    ⟨(some 20), none, .mov (.s 0)⟩,
    ⟨(some 21), none, .mov (.s 5)⟩,
    ⟨(some 22), none, .iaddr 2 (.s 20) (.s 21)⟩,
    ⟨(some 23), none, .faddr 1 (.s 22)⟩,
    ⟨(some 24), none, .load none (.s 23)⟩,
    ⟨(some 25), none, .mov (.s 1)⟩,
    ⟨(some 26), none, .icall 119 [(.s 24), (.s 25)]⟩,
    ⟨(some 1), none, .mov (.s 26)⟩] [0, 1, 5]))))
  (.reg [
    ⟨(some 10), none, .mov (.s 5)⟩,
    ⟨(some 11), none, .bin .add (.s 10) (.c (.t (.int .i64 1)))⟩,
    ⟨(some 5), none, .mov (.s 11)⟩] [0, 1, 5]))

def M_laws_markAtomS : MFun := ⟨2, 28, [.tmp 4],
  .seq (.reg [
    ⟨(some 4), none, .mov (.c (.t (.int .i64 0)))⟩] [0, 1])
  (.seq (.seq (.reg [
    ⟨(some 5), none, .mov (.c (.t (.int .i64 0)))⟩] [0, 1, 5])
  (.block 0 (.loop [0, 1, 5] B_laws_markAtomS_0)))
  (.seq (.reg [
    ⟨(some 27), none, .mov (.s 1)⟩,
    ⟨(some 4), none, .mov (.s 27)⟩] [4])
  (.ret)))⟩
theorem t_laws_markAtomS : tbl 66 = some M_laws_markAtomS := tblOf_eq Try.func66 (by kernel_rfl) (by kernel_rfl)

/-- loop.example/g01921/laws.markPlanStepS -/
def B_laws_markPlanStepS_0 : MCode :=
  .seq (.seq (.reg [
    ⟨(some 6), none, .mov (.s 5)⟩,
    ⟨(some 7), none, .mov (.s 0)⟩,
    ⟨(some 8), none, .len false (.s 7)⟩,
    ⟨(some 9), none, .bin .lss (.s 6) (.s 8)⟩] [0, 1, 5, 9])
  (.cond (.s 9)
    (.skip)
    (.exit 0)))
  (.seq (.block 1 (.seq (.reg [
    ⟨(some 12), none, .mov (.s 0)⟩,
    ⟨(some 13), none, .mov (.s 5)⟩,
    ⟨(some 14), none, .mov (.s 1)⟩,
    ⟨(some 15), none, .iaddr 3 (.s 12) (.s 13)⟩,
    ⟨(some 16), none, .faddr 0 (.s 15)⟩,
    ⟨none, none, .store 1 (.s 16) (.s 14)⟩] [0, 1, 5])
  (.seq (.reg [
    ⟨(some 17), none, .mov (.s 1)⟩,
    ⟨(some 18), none, .bin .add (.s 17) (.c (.t (.int .i64 1)))⟩,
    ⟨(some 1), none, .mov (.s 18)⟩] [0, 1, 5])
  (.seq (.reg [
    ⟨(some 19), none, .mov (.s 0)⟩,
    ⟨(some 20), none, .mov (.s 5)⟩,
    ⟨(some 21), none, .mov (.s 1)⟩,
    ⟨(some 22), none, .iaddr 3 (.s 19) (.s 20)⟩,
    ⟨(some 23), none, .faddr 1 (.s 22)⟩,
    ⟨none, none, .store 1 (.s 23) (.s 21)⟩] [0, 1, 5])
  (.seq (.reg [
    ⟨(some 24), none, .mov (.s 1)⟩,
    ⟨(some 25), none, .bin .add (.s 24) (.c (.t (.int .i64 1)))⟩,
    ⟨(some 1), none, .mov (.s 25)⟩] [0, 1, 5])
  (.seq (.reg [
    ⟨(some 26), none, .mov (.s 0)⟩,
    ⟨(some 27), none, .mov (.s 5)⟩,
    ⟨(some 28), none, .mov (.s 1)⟩,
    ⟨(some 29), none, .iaddr 3 (.s 26) (.s 27)⟩,
    ⟨(some 30), none, .faddr 2 (.s 29)⟩,
    ⟨none, none, .store 1 (.s 30) (.s 28)⟩] [0, 1, 5])
  (.reg [
    ⟨(some 31), none, .mov (.s 1)⟩,
    ⟨(some 32), none, .bin .add (.s 31) (.c (.t (.int .i64 1)))⟩,
    ⟨(some 1), none, .mov (.s 32)⟩] [0, 1, 5])))))))
  (.reg [
    ⟨(some 10), none, .mov (.s 5)⟩,
    ⟨(some 11), none, .bin .add (.s 10) (.c (.t (.int .i64 1)))⟩,
    ⟨(some 5), none, .mov (.s 11)⟩] [0, 1, 5]))

def M_laws_markPlanStepS : MFun := ⟨2, 34, [.tmp 4],
  .seq (.reg [
    ⟨(some 4), none, .mov (.c (.t (.int .i64 0)))⟩] [0, 1])
  (.seq (.seq (.reg [
    ⟨(some 5), none, .mov (.c (.t (.int .i64 0)))⟩] [0, 1, 5])
  (.block 0 (.loop [0, 1, 5] B_laws_markPlanStepS_0)))
  (.seq (.reg [
    ⟨(some 33), none, .mov (.s 1)⟩,
    ⟨(some 4), none, .mov (.s 33)⟩] [4])
  (.ret)))⟩
theorem t_laws_markPlanStepS : tbl 67 = some M_laws_markPlanStepS := tblOf_eq Try.func67 (by kernel_rfl) (by kernel_rfl)

/-- loop.example/g01921/laws.heldPlanStepS -/
def B_laws_heldPlanStepS_0 : MCode :=
  .seq (.seq (.reg [
    ⟨(some 6), none, .mov (.s 5)⟩,
    ⟨(some 7), none, .mov (.s 0)⟩,
    ⟨(some 8), none, .len false (.s 7)⟩,
    ⟨(some 9), none, .bin .lss (.s 6) (.s 8)⟩] [0, 1, 5, 9])
  (.cond (.s 9)
    (.skip)
    (.exit 0)))
  (.seq (.block 1 (.seq (.seq (.reg [
    ⟨(some 12), none, .mov (.s 0)⟩,
    ⟨(some 13), none, .mov (.s 5)⟩,
    ⟨(some 14), none, .iaddr 3 (.s 12) (.s 13)⟩,
    ⟨(some 15), none, .faddr 0 (.s 14)⟩,
    ⟨(some 16), none, .load none (.s 15)⟩,
    ⟨(some 17), none, .mov (.s 1)⟩,
    ⟨(some 18), none, .bin .neq (.s 16) (.s 17)⟩] [0, 1, 5, 18])
  (.cond (.s 18)
    (.seq (.reg [
      ⟨(some 4), none, .mov (.c (.t (.int .i64 (-1))))⟩] [4])
    (.ret))
    (.skip)))
  (.seq (.reg [
    ⟨(some 19), none, .mov (.s 1)⟩,
    ⟨(some 20), none, .bin .add (.s 19) (.c (.t (.int .i64 1)))⟩,
    ⟨(some 1), none, .mov (.s 20)⟩] [0, 1, 5])
  (.seq (.seq (.reg [
    ⟨(some 21), none, .mov (.s 0)⟩,
    ⟨(some 22), none, .mov (.s 5)⟩,
    ⟨(some 23), none, .iaddr 3 (.s 21) (.s 22)⟩,
    ⟨(some 24), none, .faddr 1 (.s 23)⟩,
    ⟨(some 25), none, .load none (.s 24)⟩,
    ⟨(some 26), none, .mov (.s 1)⟩,
    ⟨(some 27), none, .bin .neq (.s 25) (.s 26)⟩] [0, 1, 5, 27])
  (.cond (.s 27)
    (.seq (.reg [
      ⟨(some 4), none, .mov (.c (.t (.int .i64 (-1))))⟩] [4])
    (.ret))
    (.skip)))
  (.seq (.reg [
    ⟨(some 28), none, .mov (.s 1)⟩,
    ⟨(some 29), none, .bin .add (.s 28) (.c (.t (.int .i64 1)))⟩,
    ⟨(some 1), none, .mov (.s 29)⟩] [0, 1, 5])
  (.seq (.seq (.reg [
    ⟨(some 30), none, .mov (.s 0)⟩,
    ⟨(some 31), none, .mov (.s 5)⟩,
    ⟨(some 32), none, .iaddr 3 (.s 30) (.s 31)⟩,
    ⟨(some 33), none, .faddr 2 (.s 32)⟩,
    ⟨(some 34), none, .load none (.s 33)⟩,
    ⟨(some 35), none, .mov (.s 1)⟩,
    ⟨(some 36), none, .bin .neq (.s 34) (.s 35)⟩] [0, 1, 5, 36])
  (.cond (.s 36)
    (.seq (.reg [
      ⟨(some 4), none, .mov (.c (.t (.int .i64 (-1))))⟩] [4])
    (.ret))
    (.skip)))
  (.reg [
    ⟨(some 37), none, .mov (.s 1)⟩,
    ⟨(some 38), none, .bin .add (.s 37) (.c (.t (.int .i64 1)))⟩,
    ⟨(some 1), none, .mov (.s 38)⟩] [0, 1, 5])))))))
  (.reg [
    ⟨(some 10), none, .mov (.s 5)⟩,
    ⟨(some 11), none, .bin .add (.s 10) (.c (.t (.int .i64 1)))⟩,
    ⟨(some 5), none, .mov (.s 11)⟩] [0, 1, 5]))

def M_laws_heldPlanStepS : MFun := ⟨2, 40, [.tmp 4],
  .seq (.reg [
    ⟨(some 4), none, .mov (.c (.t (.int .i64 0)))⟩] [0, 1])
  (.seq (.seq (.reg [
    ⟨(some 5), none, .mov (.c (.t (.int .i64 0)))⟩] [0, 1, 5])
  (.block 0 (.loop [0, 1, 5] B_laws_heldPlanStepS_0)))
  (.seq (.reg [
    ⟨(some 39), none, .mov (.s 1)⟩,
    ⟨(some 4), none, .mov (.s 39)⟩] [4])
  (.ret)))⟩
theorem t_laws_heldPlanStepS : tbl 68 = some M_laws_heldPlanStepS := tblOf_eq Try.func68 (by kernel_rfl) (by kernel_rfl)

/-- loop.example/g01921/laws.szPlanS -/
def B_laws_szPlanS_0 : MCode :=
  .seq (.seq (.reg [
    ⟨(some 12), none, .mov (.s 5)⟩,
    ⟨(some 13), none, .mov (.s 0)⟩,
    ⟨(some 14), none, .len false (.s 13)⟩,
    ⟨(some 15), none, .bin .lss (.s 12) (.s 14)⟩] [0, 1, 5, 15])
  (.cond (.s 15)
    (.skip)
    (.exit 0)))
  (.seq (.block 1 (.seq (.reg [
    ⟨(some 18), none, .mov (.s 0)⟩,
    ⟨(some 19), none, .mov (.s 5)⟩,
    ⟨(some 20), none, .iaddr 1 (.s 18) (.s 19)⟩,
    ⟨(some 21), none, .load (some 1) (.s 20)⟩,
    ⟨(some 22), none, .mov (.s 1)⟩,
    ⟨(some 23), none, .call 9 [(.s 21), (.s 22)]⟩,
    ⟨(some 1), none, .mov (.s 23)⟩] [0, 1, 5])
  (.seq (.reg [
    ⟨(some 24), none, .mov (.s 1)⟩,
    ⟨(some 25), none, .bin .lss (.s 24) (.c (.t (.int .i64 0)))⟩] [0, 1, 5, 25])
  (.cond (.s 25)
    (.seq (.reg [
      ⟨(some 4), none, .mov (.c (.t (.int .i64 (-1))))⟩] [4])
    (.ret))
    (.skip)))))
  (.reg [
    ⟨(some 16), none, .mov (.s 5)⟩,
    ⟨(some 17), none, .bin .add (.s 16) (.c (.t (.int .i64 1)))⟩,
    ⟨(some 5), none, .mov (.s 17)⟩] [0, 1, 5]))

def M_laws_szPlanS : MFun := ⟨2, 27, [.tmp 4],
  .seq (.reg [
    ⟨(some 4), none, .mov (.c (.t (.int .i64 0)))⟩] [0, 1])
  (.seq (.reg [
    ⟨(some 6), none, .mov (.s 1)⟩,
    ⟨(some 7), none, .mov (.s 0)⟩,
    ⟨(some 8), none, .len false (.s 7)⟩,
    ⟨(some 9), none, .bin .sub (.s 6) (.s 8)⟩,
    ⟨(some 1), none, .mov (.s 9)⟩] [0, 1])
  (.seq (.seq (.reg [
    ⟨(some 10), none, .mov (.s 1)⟩,
    ⟨(some 11), none, .bin .lss (.s 10) (.c (.t (.int .i64 0)))⟩] [0, 1, 11])
  (.cond (.s 11)
    (.seq (.reg [
      ⟨(some 4), none, .mov (.c (.t (.int .i64 (-1))))⟩] [4])
    (.ret))
    (.skip)))
  (.seq (.seq (.reg [
    ⟨(some 5), none, .mov (.c (.t (.int .i64 0)))⟩] [0, 1, 5])
  (.block 0 (.loop [0, 1, 5] B_laws_szPlanS_0)))
  (.seq (.reg [
    ⟨(some 26), none, .mov (.s 1)⟩,
    ⟨(some 4), none, .mov (.s 26)⟩] [4])
  (.ret)))))⟩
theorem t_laws_szPlanS : tbl 75 = some M_laws_szPlanS := tblOf_eq Try.func75 (by kernel_rfl) (by kernel_rfl)

/-- loop.example/g01921/laws.szIntSS -/
def B_laws_szIntSS_0 : MCode :=
  .seq (.seq (.reg [
    ⟨(some 12), none, .mov (.s 5)⟩,
    ⟨(some 13), none, .mov (.s 0)⟩,
    ⟨(some 14), none, .len false (.s 13)⟩,
    ⟨(some 15), none, .bin .lss (.s 12) (.s 14)⟩] [0, 1, 5, 15])
  (.cond (.s 15)
    (.skip)
    (.exit 0)))
  (.seq (.block 1 (.seq (.reg [
    ⟨(some 18), none, .mov (.s 0)⟩,
    ⟨(some 19), none, .mov (.s 5)⟩,
    ⟨(some 20), none, .iaddr 1 (.s 18) (.s 19)⟩,
    ⟨(some 21), none, .load none (.s 20)⟩,
    ⟨(some 22), none, .mov (.s 1)⟩,
    ⟨(some 23), none, .call 51 [(.s 21), (.s 22)]⟩,
    ⟨(some 1), none, .mov (.s 23)⟩] [0, 1, 5])
  (.seq (.reg [
    ⟨(some 24), none, .mov (.s 1)⟩,
    ⟨(some 25), none, .bin .lss (.s 24) (.c (.t (.int .i64 0)))⟩] [0, 1, 5, 25])
  (.cond (.s 25)
    (.seq (.reg [
      ⟨(some 4), none, .mov (.c (.t (.int .i64 (-1))))⟩] [4])
    (.ret))
    (.skip)))))
  (.reg [
    ⟨(some 16), none, .mov (.s 5)⟩,
    ⟨(some 17), none, .bin .add (.s 16) (.c (.t (.int .i64 1)))⟩,
    ⟨(some 5), none, .mov (.s 17)⟩] [0, 1, 5]))

def M_laws_szIntSS : MFun := ⟨2, 27, [.tmp 4],
  .seq (.reg [
    ⟨(some 4), none, .mov (.c (.t (.int .i64 0)))⟩] [0, 1])
  (.seq (.reg [
    ⟨(some 6), none, .mov (.s 1)⟩,
    ⟨(some 7), none, .mov (.s 0)⟩,
    ⟨(some 8), none, .len false (.s 7)⟩,
    ⟨(some 9), none, .bin .sub (.s 6) (.s 8)⟩,
    ⟨(some 1), none, .mov (.s 9)⟩] [0, 1])
  (.seq (.seq (.reg [
    ⟨(some 10), none, .mov (.s 1)⟩,
    ⟨(some 11), none, .bin .lss (.s 10) (.c (.t (.int .i64 0)))⟩] [0, 1, 11])
  (.cond (.s 11)
    (.seq (.reg [
      ⟨(some 4), none, .mov (.c (.t (.int .i64 (-1))))⟩] [4])
    (.ret))
    (.skip)))
  (.seq (.seq (.reg [
    ⟨(some 5), none, .mov (.c (.t (.int .i64 0)))⟩] [0, 1, 5])
  (.block 0 (.loop [0, 1, 5] B_laws_szIntSS_0)))
  (.seq (.reg [
    ⟨(some 26), none, .mov (.s 1)⟩,
    ⟨(some 4), none, .mov (.s 26)⟩] [4])
  (.ret)))))⟩
theorem t_laws_szIntSS : tbl 76 = some M_laws_szIntSS := tblOf_eq Try.func76 (by kernel_rfl) (by kernel_rfl)

/-- loop.example/g01921/laws.toPlanS -/
def B_laws_toPlanS_0 : MCode :=
  .seq (.seq (.reg [
    ⟨(some 8), none, .mov (.s 4)⟩,
    ⟨(some 9), none, .mov (.s 0)⟩,
    ⟨(some 10), none, .len false (.s 9)⟩,
    ⟨(some 11), none, .bin .lss (.s 8) (.s 10)⟩] [0, 3, 4, 11])
  (.cond (.s 11)
    (.skip)
    (.exit 0)))
  (.seq (.block 1 (.reg [
    ⟨(some 14), none, .mov (.s 3)⟩,
    ⟨(some 15), none, .mov (.s 4)⟩,
    ⟨(some 16), none, .mov (.s 0)⟩,
    ⟨(some 17), none, .mov (.s 4)⟩,
    ⟨(some 18), none, .iaddr 1 (.s 16) (.s 17)⟩,
    ⟨(some 19), none, .load (some 1) (.s 18)⟩,
    ⟨(some 20), none, .call 13 [(.s 19)]⟩,
    ⟨(some 21), none, .iaddr 1 (.s 14) (.s 15)⟩,
    ⟨none, none, .store 1 (.s 21) (.s 20)⟩] [0, 3, 4]))
  (.reg [
    ⟨(some 12), none, .mov (.s 4)⟩,
    ⟨(some 13), none, .bin .add (.s 12) (.c (.t (.int .i64 1)))⟩,
    ⟨(some 4), none, .mov (.s 13)⟩] [0, 3, 4]))

def M_laws_toPlanS : MFun := ⟨1, 23, [.tmp 2],
  .seq (.reg [
    ⟨(some 2), none, .mov (.c (.t .nil))⟩] [0])
  (.seq (.reg [
    ⟨(some 5), none, .mov (.s 0)⟩,
    ⟨(some 6), none, .len false (.s 5)⟩,
    ⟨(some 7), none, .mkslice 41 1 24 [.nil] (.s 6) (.s 6)⟩,
    ⟨(some 3), none, .mov (.s 7)⟩] [0, 3])
  (.seq (.seq (.reg [
    ⟨(some 4), none, .mov (.c (.t (.int .i64 0)))⟩] [0, 3, 4])
  (.block 0 (.loop [0, 3, 4] B_laws_toPlanS_0)))
  (.seq (.reg [
    ⟨(some 22), none, .mov (.s 3)⟩,
    ⟨(some 2), none, .mov (.s 22)⟩] [2])
  (.ret))))⟩
theorem t_laws_toPlanS : tbl 80 = some M_laws_toPlanS := tblOf_eq Try.func80 (by kernel_rfl) (by kernel_rfl)

/-- loop.example/g01921/laws.toIntSS -/
def B_laws_toIntSS_0 : MCode :=
  .seq (.seq (.reg [
    ⟨(some 8), none, .mov (.s 4)⟩,
    ⟨(some 9), none, .mov (.s 0)⟩,
    ⟨(some 10), none, .len false (.s 9)⟩,
    ⟨(some 11), none, .bin .lss (.s 8) (.s 10)⟩] [0, 3, 4, 11])
  (.cond (.s 11)
    (.skip)
    (.exit 0)))
  (.seq (.block 1 (.reg [
    ⟨(some 14), none, .mov (.s 3)⟩,
    ⟨(some 15), none, .mov (.s 4)⟩,
    ⟨(some 16), none, .mov (.s 0)⟩,
    ⟨(some 17), none, .mov (.s 4)⟩,
    ⟨(some 18), none, .iaddr 1 (.s 16) (.s 17)⟩,
    ⟨(some 19), none, .load none (.s 18)⟩,
    ⟨(some 20), none, .call 57 [(.s 19)]⟩,
    ⟨(some 21), none, .iaddr 1 (.s 14) (.s 15)⟩,
    ⟨none, none, .store 1 (.s 21) (.s 20)⟩] [0, 3, 4]))
  (.reg [
    ⟨(some 12), none, .mov (.s 4)⟩,
    ⟨(some 13), none, .bin .add (.s 12) (.c (.t (.int .i64 1)))⟩,
    ⟨(some 4), none, .mov (.s 13)⟩] [0, 3, 4]))

def M_laws_toIntSS : MFun := ⟨1, 23, [.tmp 2],
  .seq (.reg [
    ⟨(some 2), none, .mov (.c (.t .nil))⟩] [0])
  (.seq (.reg [
    ⟨(some 5), none, .mov (.s 0)⟩,
    ⟨(some 6), none, .len false (.s 5)⟩,
    ⟨(some 7), none, .mkslice 28 1 24 [.nil] (.s 6) (.s 6)⟩,
    ⟨(some 3), none, .mov (.s 7)⟩] [0, 3])
  (.seq (.seq (.reg [
    ⟨(some 4), none, .mov (.c (.t (.int .i64 0)))⟩] [0, 3, 4])
  (.block 0 (.loop [0, 3, 4] B_laws_toIntSS_0)))
  (.seq (.reg [
    ⟨(some 22), none, .mov (.s 3)⟩,
    ⟨(some 2), none, .mov (.s 22)⟩] [2])
  (.ret))))⟩
theorem t_laws_toIntSS : tbl 81 = some M_laws_toIntSS := tblOf_eq Try.func81 (by kernel_rfl) (by kernel_rfl)

/-- loop.example/g01921/laws.toRunNote -/
def M_laws_toRunNote : MFun := ⟨1, 20, [.cell 2 (some 5)],
  .seq (.reg [
    ⟨(some 1), none, .box (.s 0)⟩,
    ⟨(some 2), none, .alloc [(.t (.int .i64 0)), (.t (.int .i64 0)), (.t (.int .i64 0)), (.t (.int .i64 0)), (.t (.bool false))]⟩] [1, 2])
  (.seq (.reg [
    ⟨(some 3), none, .alloc [(.t (.int .i64 0)), (.t (.int .i64 0)), (.t (.int .i64 0)), (.t (.int .i64 0)), (.t (.bool false))]⟩] [1, 2, 3])
  (.seq (.reg [
    ⟨(some 4), none, .faddr 0 (.s 1)⟩,
    ⟨(some 5), none, .load none (.s 4)⟩,
    ⟨(some 6), none, .faddr 0 (.s 3)⟩,
    ⟨none, none, .store 1 (.s 6) (.s 5)⟩] [1, 2, 3])
  (.seq (.reg [
    ⟨(some 7), none, .faddr 1 (.s 1)⟩,
    ⟨(some 8), none, .load none (.s 7)⟩,
    ⟨(some 9), none, .faddr 1 (.s 3)⟩,
    ⟨none, none, .store 1 (.s 9) (.s 8)⟩] [1, 2, 3])
  (.seq (.reg [
    ⟨(some 10), none, .faddr 2 (.s 1)⟩,
    ⟨(some 11), none, .load none (.s 10)⟩,
    ⟨(some 12), none, .faddr 2 (.s 3)⟩,
    ⟨none, none, .store 1 (.s 12) (.s 11)⟩] [1, 2, 3])
  (.seq (.reg [
    ⟨(some 13), none, .faddr 3 (.s 1)⟩,
    ⟨(some 14), none, .load none (.s 13)⟩,
    ⟨(some 15), none, .faddr 3 (.s 3)⟩,
    ⟨none, none, .store 1 (.s 15) (.s 14)⟩] [1, 2, 3])
  (.seq (.reg [
    ⟨(some 16), none, .faddr 4 (.s 1)⟩,
    ⟨(some 17), none, .load none (.s 16)⟩,
    ⟨(some 18), none, .faddr 4 (.s 3)⟩,
    ⟨none, none, .store 1 (.s 18) (.s 17)⟩] [2, 3])
  (.seq (.reg [
    ⟨(some 19), none, .load (some 5) (.s 3)⟩,
    ⟨none, none, .store 5 (.s 2) (.s 19)⟩] [2])
  (.ret))))))))⟩
theorem t_laws_toRunNote : tbl 82 = some M_laws_toRunNote := tblOf_eq Try.func82 (by kernel_rfl) (by kernel_rfl)

/-- loop.example/g01921/laws.eqPlanS -/
def B_laws_eqPlanS_0 : MCode :=
  .seq (.seq (.reg [
    ⟨(some 11), none, .mov (.s 5)⟩,
    ⟨(some 12), none, .mov (.s 0)⟩,
    ⟨(some 13), none, .len false (.s 12)⟩,
    ⟨(some 14), none, .bin .lss (.s 11) (.s 13)⟩] [0, 1, 5, 14])
  (.cond (.s 14)
    (.skip)
    (.exit 0)))
  (.seq (.block 1 (.seq (.drw [
    ⟨(some 17), none, .mov (.s 0)⟩,
    ⟨(some 18), none, .mov (.s 5)⟩,
    ⟨(some 19), none, .iaddr 1 (.s 17) (.s 18)⟩,
    ⟨(some 20), none, .load (some 1) (.s 19)⟩,
    ⟨(some 21), none, .mov (.s 1)⟩,
    ⟨(some 22), none, .mov (.s 5)⟩,
    ⟨(some 23), none, .iaddr 1 (.s 21) (.s 22)⟩,
    ⟨(some 24), none, .load (some 1) (.s 23)⟩,
    ⟨(some 25), none, .call 17 [(.s 20), (.s 24)]⟩,
    ⟨(some 26), none, .un .not (.s 25)⟩] [[], [], [0, 1], [2], [], [], [4, 5], [6], [3, 7], [8]] [0, 1, 5, 26])
  (.cond (.s 26)
    (.seq (.reg [
      ⟨(some 4), none, .mov (.c (.t (.bool false)))⟩] [4])
    (.ret))
    (.skip))))
  (.reg [
    ⟨(some 15), none, .mov (.s 5)⟩,
    ⟨(some 16), none, .bin .add (.s 15) (.c (.t (.int .i64 1)))⟩,
    ⟨(some 5), none, .mov (.s 16)⟩] [0, 1, 5]))

def M_laws_eqPlanS : MFun := ⟨2, 27, [.tmp 4],
  .seq (.reg [
    ⟨(some 4), none, .mov (.c (.t (.bool false)))⟩] [0, 1])
  (.seq (.seq (.reg [
    ⟨(some 6), none, .mov (.s 0)⟩,
    ⟨(some 7), none, .len false (.s 6)⟩,
    ⟨(some 8), none, .mov (.s 1)⟩,
    ⟨(some 9), none, .len false (.s 8)⟩,
    ⟨(some 10), none, .bin .neq (.s 7) (.s 9)⟩] [0, 1, 10])
  (.cond (.s 10)
    (.seq (.reg [
      ⟨(some 4), none, .mov (.c (.t (.bool false)))⟩] [4])
    (.ret))
    (.skip)))
  (.seq (.seq (.reg [
    ⟨(some 5), none, .mov (.c (.t (.int .i64 0)))⟩] [0, 1, 5])
  (.block 0 (.loop [0, 1, 5] B_laws_eqPlanS_0)))
  (.seq (.reg [
    ⟨(some 4), none, .mov (.c (.t (.bool true)))⟩] [4])
  (.ret))))⟩
theorem t_laws_eqPlanS : tbl 85 = some M_laws_eqPlanS := tblOf_eq Try.func85 (by kernel_rfl) (by kernel_rfl)

/-- loop.example/g01921/laws.eqIntSS -/
def B_laws_eqIntSS_0 : MCode :=
  .seq (.seq (.reg [
    ⟨(some 11), none, .mov (.s 5)⟩,
    ⟨(some 12), none, .mov (.s 0)⟩,
    ⟨(some 13), none, .len false (.s 12)⟩,
    ⟨(some 14), none, .bin .lss (.s 11) (.s 13)⟩] [0, 1, 5, 14])
  (.cond (.s 14)
    (.skip)
    (.exit 0)))
  (.seq (.block 1 (.seq (.drw [
    ⟨(some 17), none, .mov (.s 0)⟩,
    ⟨(some 18), none, .mov (.s 5)⟩,
    ⟨(some 19), none, .iaddr 1 (.s 17) (.s 18)⟩,
    ⟨(some 20), none, .load none (.s 19)⟩,
    ⟨(some 21), none, .mov (.s 1)⟩,
    ⟨(some 22), none, .mov (.s 5)⟩,
    ⟨(some 23), none, .iaddr 1 (.s 21) (.s 22)⟩,
    ⟨(some 24), none, .load none (.s 23)⟩,
    ⟨(some 25), none, .call 63 [(.s 20), (.s 24)]⟩,
    ⟨(some 26), none, .un .not (.s 25)⟩] [[], [], [0, 1], [2], [], [], [4, 5], [6], [3, 7], [8]] [0, 1, 5, 26])
  (.cond (.s 26)
    (.seq (.reg [
      ⟨(some 4), none, .mov (.c (.t (.bool false)))⟩] [4])
    (.ret))
    (.skip))))
  (.reg [
    ⟨(some 15), none, .mov (.s 5)⟩,
    ⟨(some 16), none, .bin .add (.s 15) (.c (.t (.int .i64 1)))⟩,
    ⟨(some 5), none, .mov (.s 16)⟩] [0, 1, 5]))

def M_laws_eqIntSS : MFun := ⟨2, 27, [.tmp 4],
  .seq (.reg [
    ⟨(some 4), none, .mov (.c (.t (.bool false)))⟩] [0, 1])
  (.seq (.seq (.reg [
    ⟨(some 6), none, .mov (.s 0)⟩,
    ⟨(some 7), none, .len false (.s 6)⟩,
    ⟨(some 8), none, .mov (.s 1)⟩,
    ⟨(some 9), none, .len false (.s 8)⟩,
    ⟨(some 10), none, .bin .neq (.s 7) (.s 9)⟩] [0, 1, 10])
  (.cond (.s 10)
    (.seq (.reg [
      ⟨(some 4), none, .mov (.c (.t (.bool false)))⟩] [4])
    (.ret))
    (.skip)))
  (.seq (.seq (.reg [
    ⟨(some 5), none, .mov (.c (.t (.int .i64 0)))⟩] [0, 1, 5])
  (.block 0 (.loop [0, 1, 5] B_laws_eqIntSS_0)))
  (.seq (.reg [
    ⟨(some 4), none, .mov (.c (.t (.bool true)))⟩] [4])
  (.ret))))⟩
theorem t_laws_eqIntSS : tbl 86 = some M_laws_eqIntSS := tblOf_eq Try.func86 (by kernel_rfl) (by kernel_rfl)

/-- loop.example/g01921/laws.eqRunNote -/
def M_laws_eqRunNote : MFun := ⟨2, 30, [.tmp 4],
  .seq (.reg [
    ⟨(some 2), none, .box (.s 0)⟩,
    ⟨(some 3), none, .box (.s 1)⟩,
    ⟨(some 4), none, .mov (.c (.t (.bool false)))⟩] [2, 3])
  (.seq (.seq (.reg [
    ⟨(some 5), none, .faddr 0 (.s 2)⟩,
    ⟨(some 6), none, .load none (.s 5)⟩,
    ⟨(some 7), none, .faddr 0 (.s 3)⟩,
    ⟨(some 8), none, .load none (.s 7)⟩,
    ⟨(some 9), none, .bin .neq (.s 6) (.s 8)⟩] [2, 3, 9])
  (.cond (.s 9)
    (.seq (.reg [
      ⟨(some 4), none, .mov (.c (.t (.bool false)))⟩] [4])
    (.ret))
    (.skip)))
  (.seq (.seq (.reg [
    ⟨(some 10), none, .faddr 1 (.s 2)⟩,
    ⟨(some 11), none, .load none (.s 10)⟩,
    ⟨(some 12), none, .faddr 1 (.s 3)⟩,
    ⟨(some 13), none, .load none (.s 12)⟩,
    ⟨(some 14), none, .bin .neq (.s 11) (.s 13)⟩] [2, 3, 14])
  (.cond (.s 14)
    (.seq (.reg [
      ⟨(some 4), none, .mov (.c (.t (.bool false)))⟩] [4])
    (.ret))
    (.skip)))
  (.seq (.seq (.reg [
    ⟨(some 15), none, .faddr 2 (.s 2)⟩,
    ⟨(some 16), none, .load none (.s 15)⟩,
    ⟨(some 17), none, .faddr 2 (.s 3)⟩,
    ⟨(some 18), none, .load none (.s 17)⟩,
    ⟨(some 19), none, .bin .neq (.s 16) (.s 18)⟩] [2, 3, 19])
  (.cond (.s 19)
    (.seq (.reg [
      ⟨(some 4), none, .mov (.c (.t (.bool false)))⟩] [4])
    (.ret))
    (.skip)))
  (.seq (.seq (.reg [
    ⟨(some 20), none, .faddr 3 (.s 2)⟩,
    ⟨(some 21), none, .load none (.s 20)⟩,
    ⟨(some 22), none, .faddr 3 (.s 3)⟩,
    ⟨(some 23), none, .load none (.s 22)⟩,
    ⟨(some 24), none, .bin .neq (.s 21) (.s 23)⟩] [2, 3, 24])
  (.cond (.s 24)
    (.seq (.reg [
      ⟨(some 4), none, .mov (.c (.t (.bool false)))⟩] [4])
    (.ret))
    (.skip)))
  (.seq (.seq (.reg [
    ⟨(some 25), none, .faddr 4 (.s 2)⟩,
    ⟨(some 26), none, .load none (.s 25)⟩,
    ⟨(some 27), none, .faddr 4 (.s 3)⟩,
    ⟨(some 28), none, .load none (.s 27)⟩,
    ⟨(some 29), none, .beq true (.s 26) (.s 28)⟩] [29])
  (.cond (.s 29)
    (.seq (.reg [
      ⟨(some 4), none, .mov (.c (.t (.bool false)))⟩] [4])
    (.ret))
    (.skip)))
  (.seq (.reg [
    ⟨(some 4), none, .mov (.c (.t (.bool true)))⟩] [4])
  (.ret)))))))⟩
theorem t_laws_eqRunNote : tbl 87 = some M_laws_eqRunNote := tblOf_eq Try.func87 (by kernel_rfl) (by kernel_rfl)

/-- loop.example/g01921/laws.szAtom -/
def M_laws_szAtom : MFun := ⟨2, 19, [.tmp 4],
  .seq (.reg [
    ⟨(some 2), none, .box (.s 0)⟩,
    ⟨(some 4), none, .mov (.c (.t (.int .i64 0)))⟩] [1, 2])
  (.seq (.reg [
    ⟨(some 5), none, .mov (.s 1)⟩,
    ⟨(some 6), none, .faddr 0 (.s 2)⟩,
    ⟨(some 7), none, .load none (.s 6)⟩,
    ⟨(some 8), none, .len true (.s 7)⟩,
    ⟨(some 9), none, .bin .sub (.s 5) (.s 8)⟩,
    ⟨(some 1), none, .mov (.s 9)⟩] [1, 2])
  (.seq (.seq (.reg [
    ⟨(some 10), none, .mov (.s 1)⟩,
    ⟨(some 11), none, .bin .lss (.s 10) (.c (.t (.int .i64 0)))⟩] [1, 2, 11])
  (.cond (.s 11)
    (.seq (.reg [
      ⟨(some 4), none, .mov (.c (.t (.int .i64 (-1))))⟩] [4])
    (.ret))
    (.skip)))
  (.seq (.reg [
    ⟨(some 12), none, .faddr 1 (.s 2)⟩,
    ⟨(some 13), none, .load none (.s 12)⟩,
    ⟨(some 14), none, .mov (.s 1)⟩,
    ⟨(some 15), none, .call 51 [(.s 13), (.s 14)]⟩,
    ⟨(some 1), none, .mov (.s 15)⟩] [1])
  (.seq (.seq (.reg [
    ⟨(some 16), none, .mov (.s 1)⟩,
    ⟨(some 17), none, .bin .lss (.s 16) (.c (.t (.int .i64 0)))⟩] [1, 17])
  (.cond (.s 17)
    (.seq (.reg [
      ⟨(some 4), none, .mov (.c (.t (.int .i64 (-1))))⟩] [4])
    (.ret))
    (.skip)))
  (.seq (.reg [
    ⟨(some 18), none, .mov (.s 1)⟩,
    ⟨(some 4), none, .mov (.s 18)⟩] [4])
  (.ret))))))⟩
theorem t_laws_szAtom : tbl 104 = some M_laws_szAtom := tblOf_eq Try.func104 (by kernel_rfl) (by kernel_rfl)

/-- loop.example/g01921/laws.toAtom -/
def M_laws_toAtom : MFun := ⟨1, 12, [.cell 2 (some 2)],
  .seq (.reg [
    ⟨(some 1), none, .box (.s 0)⟩,
    ⟨(some 2), none, .alloc [(.t (.str ⟨#[]⟩)), (.t .nil)]⟩] [1, 2])
  (.seq (.reg [
    ⟨(some 3), none, .alloc [(.t (.str ⟨#[]⟩)), (.t .nil)]⟩] [1, 2, 3])
  (.seq (.reg [
    ⟨(some 4), none, .faddr 0 (.s 1)⟩,
    ⟨(some 5), none, .load none (.s 4)⟩,
    ⟨(some 6), none, .faddr 0 (.s 3)⟩,
    ⟨none, none, .store 1 (.s 6) (.s 5)⟩] [1, 2, 3])
  (.seq (.reg [
    ⟨(some 7), none, .faddr 1 (.s 1)⟩,
    ⟨(some 8), none, .load none (.s 7)⟩,
    ⟨(some 9), none, .call 57 [(.s 8)]⟩,
    ⟨(some 10), none, .faddr 1 (.s 3)⟩,
    ⟨none, none, .store 1 (.s 10) (.s 9)⟩] [2, 3])
  (.seq (.reg [
    ⟨(some 11), none, .load (some 2) (.s 3)⟩,
    ⟨none, none, .store 2 (.s 2) (.s 11)⟩] [2])
  (.ret)))))⟩
theorem t_laws_toAtom : tbl 109 = some M_laws_toAtom := tblOf_eq Try.func109 (by kernel_rfl) (by kernel_rfl)

/-- loop.example/g01921/laws.toPlanStep -/
def M_laws_toPlanStep : MFun := ⟨1, 14, [.cell 2 (some 3)],
  .seq (.reg [
    ⟨(some 1), none, .box (.s 0)⟩,
    ⟨(some 2), none, .alloc [(.t (.int .i64 0)), (.t (.int .i64 0)), (.t (.int .i64 0))]⟩] [1, 2])
  (.seq (.reg [
    ⟨(some 3), none, .alloc [(.t (.int .i64 0)), (.t (.int .i64 0)), (.t (.int .i64 0))]⟩] [1, 2, 3])
  (.seq (.reg [
    ⟨(some 4), none, .faddr 0 (.s 1)⟩,
    ⟨(some 5), none, .load none (.s 4)⟩,
    ⟨(some 6), none, .faddr 0 (.s 3)⟩,
    ⟨none, none, .store 1 (.s 6) (.s 5)⟩] [1, 2, 3])
  (.seq (.reg [
    ⟨(some 7), none, .faddr 1 (.s 1)⟩,
    ⟨(some 8), none, .load none (.s 7)⟩,
    ⟨(some 9), none, .faddr 1 (.s 3)⟩,
    ⟨none, none, .store 1 (.s 9) (.s 8)⟩] [1, 2, 3])
  (.seq (.reg [
    ⟨(some 10), none, .faddr 2 (.s 1)⟩,
    ⟨(some 11), none, .load none (.s 10)⟩,
    ⟨(some 12), none, .faddr 2 (.s 3)⟩,
    ⟨none, none, .store 1 (.s 12) (.s 11)⟩] [2, 3])
  (.seq (.reg [
    ⟨(some 13), none, .load (some 3) (.s 3)⟩,
    ⟨none, none, .store 3 (.s 2) (.s 13)⟩] [2])
  (.ret))))))⟩
theorem t_laws_toPlanStep : tbl 110 = some M_laws_toPlanStep := tblOf_eq Try.func110 (by kernel_rfl) (by kernel_rfl)

/-- loop.example/g01921/laws.eqAtom -/
def M_laws_eqAtom : MFun := ⟨2, 16, [.tmp 4],
  .seq (.reg [
    ⟨(some 2), none, .box (.s 0)⟩,
    ⟨(some 3), none, .box (.s 1)⟩,
    ⟨(some 4), none, .mov (.c (.t (.bool false)))⟩] [2, 3])
  (.seq (.seq (.reg [
    ⟨(some 5), none, .faddr 0 (.s 2)⟩,
    ⟨(some 6), none, .load none (.s 5)⟩,
    ⟨(some 7), none, .faddr 0 (.s 3)⟩,
    ⟨(some 8), none, .load none (.s 7)⟩,
    ⟨(some 9), none, .bin .neq (.s 6) (.s 8)⟩] [2, 3, 9])
  (.cond (.s 9)
    (.seq (.reg [
      ⟨(some 4), none, .mov (.c (.t (.bool false)))⟩] [4])
    (.ret))
    (.skip)))
  (.seq (.seq (.reg [
    ⟨(some 10), none, .faddr 1 (.s 2)⟩,
    ⟨(some 11), none, .load none (.s 10)⟩,
    ⟨(some 12), none, .faddr 1 (.s 3)⟩,
    ⟨(some 13), none, .load none (.s 12)⟩,
    ⟨(some 14), none, .call 63 [(.s 11), (.s 13)]⟩,
    ⟨(some 15), none, .un .not (.s 14)⟩] [15])
  (.cond (.s 15)
    (.seq (.reg [
      ⟨(some 4), none, .mov (.c (.t (.bool false)))⟩] [4])
    (.ret))
    (.skip)))
  (.seq (.reg [
    ⟨(some 4), none, .mov (.c (.t (.bool true)))⟩] [4])
  (.ret))))⟩
theorem t_laws_eqAtom : tbl 113 = some M_laws_eqAtom := tblOf_eq Try.func113 (by kernel_rfl) (by kernel_rfl)

/-- loop.example/g01921/laws.eqPlanStep -/
def M_laws_eqPlanStep : MFun := ⟨2, 20, [.tmp 4],
  .seq (.reg [
    ⟨(some 2), none, .box (.s 0)⟩,
    ⟨(some 3), none, .box (.s 1)⟩,
    ⟨(some 4), none, .mov (.c (.t (.bool false)))⟩] [2, 3])
  (.seq (.seq (.reg [
    ⟨(some 5), none, .faddr 0 (.s 2)⟩,
    ⟨(some 6), none, .load none (.s 5)⟩,
    ⟨(some 7), none, .faddr 0 (.s 3)⟩,
    ⟨(some 8), none, .load none (.s 7)⟩,
    ⟨(some 9), none, .bin .neq (.s 6) (.s 8)⟩] [2, 3, 9])
  (.cond (.s 9)
    (.seq (.reg [
      ⟨(some 4), none, .mov (.c (.t (.bool false)))⟩] [4])
    (.ret))
    (.skip)))
  (.seq (.seq (.reg [
    ⟨(some 10), none, .faddr 1 (.s 2)⟩,
    ⟨(some 11), none, .load none (.s 10)⟩,
    ⟨(some 12), none, .faddr 1 (.s 3)⟩,
    ⟨(some 13), none, .load none (.s 12)⟩,
    ⟨(some 14), none, .bin .neq (.s 11) (.s 13)⟩] [2, 3, 14])
  (.cond (.s 14)
    (.seq (.reg [
      ⟨(some 4), none, .mov (.c (.t (.bool false)))⟩] [4])
    (.ret))
    (.skip)))
  (.seq (.seq (.reg [
    ⟨(some 15), none, .faddr 2 (.s 2)⟩,
    ⟨(some 16), none, .load none (.s 15)⟩,
    ⟨(some 17), none, .faddr 2 (.s 3)⟩,
    ⟨(some 18), none, .load none (.s 17)⟩,
    ⟨(some 19), none, .bin .neq (.s 16) (.s 18)⟩] [19])
  (.cond (.s 19)
    (.seq (.reg [
      ⟨(some 4), none, .mov (.c (.t (.bool false)))⟩] [4])
    (.ret))
    (.skip)))
  (.seq (.reg [
    ⟨(some 4), none, .mov (.c (.t (.bool true)))⟩] [4])
  (.ret)))))⟩
theorem t_laws_eqPlanStep : tbl 114 = some M_laws_eqPlanStep := tblOf_eq Try.func114 (by kernel_rfl) (by kernel_rfl)

/-- loop.example/g01921/laws.markIntS -/
def B_laws_markIntS_0 : MCode :=
  .seq (.seq (.reg [
    ⟨(some 6), none, .mov (.s 5)⟩,
    ⟨(some 7), none, .mov (.s 0)⟩,
    ⟨(some 8), none, .len false (.s 7)⟩,
    ⟨(some 9), none, .bin .lss (.s 6) (.s 8)⟩] [0, 1, 5, 9])
  (.cond (.s 9)
    (.skip)
    (.exit 0)))
  (.seq (.block 1 (.seq (.reg [
    ⟨(some 12), none, .mov (.s 0)⟩,
    ⟨(some 13), none, .mov (.s 5)⟩,
    ⟨(some 14), none, .mov (.s 1)⟩,
    ⟨(some 15), none, .iaddr 1 (.s 12) (.s 13)⟩,
    ⟨none, none, .store 1 (.s 15) (.s 14)⟩] [0, 1, 5])
  (.reg [
    ⟨(some 16), none, .mov (.s 1)⟩,
    ⟨(some 17), none, .bin .add (.s 16) (.c (.t (.int .i64 1)))⟩,
    ⟨(some 1), none, .mov (.s 17)⟩] [0, 1, 5])))
  (.reg [
    ⟨(some 10), none, .mov (.s 5)⟩,
    ⟨(some 11), none, .bin .add (.s 10) (.c (.t (.int .i64 1)))⟩,
    ⟨(some 5), none, .mov (.s 11)⟩] [0, 1, 5]))

def M_laws_markIntS : MFun := ⟨2, 19, [.tmp 4],
  .seq (.reg [
    ⟨(some 4), none, .mov (.c (.t (.int .i64 0)))⟩] [0, 1])
  (.seq (.seq (.reg [
    ⟨(some 5), none, .mov (.c (.t (.int .i64 0)))⟩] [0, 1, 5])
  (.block 0 (.loop [0, 1, 5] B_laws_markIntS_0)))
  (.seq (.reg [
    ⟨(some 18), none, .mov (.s 1)⟩,
    ⟨(some 4), none, .mov (.s 18)⟩] [4])
  (.ret)))⟩
theorem t_laws_markIntS : tbl 119 = some M_laws_markIntS := tblOf_eq Try.func119 (by kernel_rfl) (by kernel_rfl)

end Go.Proofs.Ytiniphmomjnocaa
