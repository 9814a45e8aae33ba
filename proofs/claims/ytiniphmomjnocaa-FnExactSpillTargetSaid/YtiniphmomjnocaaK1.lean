/-
  The code of the functions, as printed by program.
-/
import Derived.Test.YtiniphmomjnocaaH
namespace Go.Proofs.Ytiniphmomjnocaa
open Go.AM

/-- loop.example/g01921/laws.FnExactSpillTarget -/
def M_laws_FnExactSpillTarget : MFun := ⟨3, 63, [.tmp 6],
  .seq (.reg [
    ⟨(some 3), none, .box (.s 0)⟩,
    ⟨(some 4), none, .box (.s 1)⟩,
    ⟨(some 5), none, .box (.s 2)⟩,
    ⟨(some 6), none, .mov (.c (.t (.bool false)))⟩] [3, 4, 5])
  (.seq (.reg [
    ⟨(some 7), none, .mov (.c (.t (.int .i64 1048576)))⟩] [3, 4, 5, 7])
  (.seq (.reg [
    ⟨(some 13), none, .load (some 2) (.s 3)⟩,
    ⟨(some 14), none, .mov (.s 7)⟩,
    ⟨(some 15), none, .call 8 [(.s 13), (.s 14)]⟩,
    ⟨(some 7), none, .mov (.s 15)⟩] [3, 4, 5, 7])
  (.seq (.seq (.reg [
    ⟨(some 16), none, .mov (.s 7)⟩,
    ⟨(some 17), none, .bin .lss (.s 16) (.c (.t (.int .i64 0)))⟩] [3, 4, 5, 7, 17])
  (.cond (.s 17)
    (.seq (.reg [
      ⟨(some 6), none, .mov (.c (.t (.bool true)))⟩] [6])
    (.ret))
    (.skip)))
  (.seq (.reg [
    ⟨(some 18), none, .load (some 1) (.s 4)⟩,
    ⟨(some 19), none, .mov (.s 7)⟩,
    ⟨(some 20), none, .call 9 [(.s 18), (.s 19)]⟩,
    ⟨(some 7), none, .mov (.s 20)⟩] [3, 4, 5, 7])
  (.seq (.seq (.reg [
    ⟨(some 21), none, .mov (.s 7)⟩,
    ⟨(some 22), none, .bin .lss (.s 21) (.c (.t (.int .i64 0)))⟩] [3, 4, 5, 7, 22])
  (.cond (.s 22)
    (.seq (.reg [
      ⟨(some 6), none, .mov (.c (.t (.bool true)))⟩] [6])
    (.ret))
    (.skip)))
  (.seq (.reg [
    ⟨(some 23), none, .load (some 2) (.s 5)⟩,
    ⟨(some 24), none, .mov (.s 7)⟩,
    ⟨(some 25), none, .call 10 [(.s 23), (.s 24)]⟩,
    ⟨(some 7), none, .mov (.s 25)⟩] [3, 4, 5, 7])
  (.seq (.seq (.reg [
    ⟨(some 26), none, .mov (.s 7)⟩,
    ⟨(some 27), none, .bin .lss (.s 26) (.c (.t (.int .i64 0)))⟩] [3, 4, 5, 27])
  (.cond (.s 27)
    (.seq (.reg [
      ⟨(some 6), none, .mov (.c (.t (.bool true)))⟩] [6])
    (.ret))
    (.skip)))
  (.seq (.drw [
    ⟨(some 28), none, .load (some 2) (.s 3)⟩,
    ⟨(some 29), none, .call 12 [(.s 28)]⟩,
    ⟨(some 30), none, .load (some 1) (.s 4)⟩,
    ⟨(some 31), none, .call 13 [(.s 30)]⟩,
    ⟨(some 32), none, .load (some 2) (.s 5)⟩,
    ⟨(some 33), none, .call 14 [(.s 32)]⟩,
    ⟨(some 34), none, .call 11 [(.s 29), (.s 31), (.s 33)]⟩,
    ⟨(some 8), none, .mov (.s 34)⟩] [[], [0], [], [2, 1], [], [4, 3], [1, 3, 5, 5], [6, 6, 0, 1, 2, 3, 4, 5, 6]] [3, 4, 5, 8])
  (.seq (.reg [
    ⟨(some 35), none, .load (some 2) (.s 3)⟩,
    ⟨(some 36), none, .call 12 [(.s 35)]⟩,
    ⟨(some 9), none, .alloc [(.t (.int .i64 0)), (.t .nil)]⟩,
    ⟨none, none, .store 2 (.s 9) (.s 36)⟩] [3, 4, 5, 8, 9])
  (.seq (.reg [
    ⟨(some 37), none, .load (some 1) (.s 4)⟩,
    ⟨(some 38), none, .call 13 [(.s 37)]⟩,
    ⟨(some 10), none, .alloc [(.t .nil)]⟩,
    ⟨none, none, .store 1 (.s 10) (.s 38)⟩] [3, 4, 5, 8, 9, 10])
  (.seq (.reg [
    ⟨(some 39), none, .load (some 2) (.s 5)⟩,
    ⟨(some 40), none, .call 14 [(.s 39)]⟩,
    ⟨(some 11), none, .alloc [(.t .nil), (.t .nil)]⟩,
    ⟨none, none, .store 2 (.s 11) (.s 40)⟩] [3, 4, 5, 8, 9, 10, 11])
  (.seq (.reg [
    ⟨(some 41), none, .load (some 2) (.s 9)⟩,
    ⟨(some 42), none, .load (some 1) (.s 10)⟩,
    ⟨(some 43), none, .load (some 2) (.s 11)⟩,
    ⟨(some 44), none, .call 15 [(.s 41), (.s 42), (.s 43)]⟩,
    ⟨(some 12), none, .mov (.s 44)⟩] [3, 4, 5, 8, 9, 10, 11, 12])
  (.seq (.seq (.reg [
    ⟨(some 45), none, .mov (.s 12)⟩,
    ⟨(some 46), none, .mov (.s 8)⟩,
    ⟨(some 47), none, .bin .neq (.s 45) (.s 46)⟩] [3, 4, 5, 9, 10, 11, 47])
  (.cond (.s 47)
    (.seq (.reg [
      ⟨(some 6), none, .mov (.c (.t (.bool false)))⟩] [6])
    (.ret))
    (.skip)))
  (.seq (.seq (.drw [
    ⟨(some 48), none, .load (some 2) (.s 9)⟩,
    ⟨(some 49), none, .load (some 2) (.s 3)⟩,
    ⟨(some 50), none, .call 12 [(.s 49)]⟩,
    ⟨(some 51), none, .call 16 [(.s 48), (.s 50)]⟩,
    ⟨(some 52), none, .un .not (.s 51)⟩] [[], [], [1], [0, 2, 2], [3]] [4, 5, 10, 11, 52])
  (.cond (.s 52)
    (.seq (.reg [
      ⟨(some 6), none, .mov (.c (.t (.bool false)))⟩] [6])
    (.ret))
    (.skip)))
  (.seq (.seq (.drw [
    ⟨(some 53), none, .load (some 1) (.s 10)⟩,
    ⟨(some 54), none, .load (some 1) (.s 4)⟩,
    ⟨(some 55), none, .call 13 [(.s 54)]⟩,
    ⟨(some 56), none, .call 17 [(.s 53), (.s 55)]⟩,
    ⟨(some 57), none, .un .not (.s 56)⟩] [[], [], [1], [0, 2, 2], [3]] [5, 11, 57])
  (.cond (.s 57)
    (.seq (.reg [
      ⟨(some 6), none, .mov (.c (.t (.bool false)))⟩] [6])
    (.ret))
    (.skip)))
  (.seq (.seq (.drw [
    ⟨(some 58), none, .load (some 2) (.s 11)⟩,
    ⟨(some 59), none, .load (some 2) (.s 5)⟩,
    ⟨(some 60), none, .call 14 [(.s 59)]⟩,
    ⟨(some 61), none, .call 18 [(.s 58), (.s 60)]⟩,
    ⟨(some 62), none, .un .not (.s 61)⟩] [[], [], [1], [0, 2, 2], [3]] [62])
  (.cond (.s 62)
    (.seq (.reg [
      ⟨(some 6), none, .mov (.c (.t (.bool false)))⟩] [6])
    (.ret))
    (.skip)))
  (.seq (.reg [
    ⟨(some 6), none, .mov (.c (.t (.bool true)))⟩] [6])
  (.ret))))))))))))))))))⟩
theorem t_laws_FnExactSpillTarget : tbl 3 = some M_laws_FnExactSpillTarget := tblOf_eq Try.func3 (by kernel_rfl) (by kernel_rfl)

/-- loop.example/g01921/laws.FnExactSpillPlan -/
def M_laws_FnExactSpillPlan : MFun := ⟨3, 124, [.tmp 6],
  .seq (.reg [
    ⟨(some 3), none, .box (.s 0)⟩,
    ⟨(some 4), none, .box (.s 1)⟩,
    ⟨(some 6), none, .mov (.c (.t (.bool false)))⟩] [2, 3, 4])
  (.seq (.reg [
    ⟨(some 7), none, .mov (.c (.t (.int .i64 1048576)))⟩] [2, 3, 4, 7])
  (.seq (.reg [
    ⟨(some 19), none, .load (some 2) (.s 3)⟩,
    ⟨(some 20), none, .mov (.s 7)⟩,
    ⟨(some 21), none, .call 8 [(.s 19), (.s 20)]⟩,
    ⟨(some 7), none, .mov (.s 21)⟩] [2, 3, 4, 7])
  (.seq (.seq (.reg [
    ⟨(some 22), none, .mov (.s 7)⟩,
    ⟨(some 23), none, .bin .lss (.s 22) (.c (.t (.int .i64 0)))⟩] [2, 3, 4, 7, 23])
  (.cond (.s 23)
    (.seq (.reg [
      ⟨(some 6), none, .mov (.c (.t (.bool true)))⟩] [6])
    (.ret))
    (.skip)))
  (.seq (.reg [
    ⟨(some 24), none, .load (some 1) (.s 4)⟩,
    ⟨(some 25), none, .mov (.s 7)⟩,
    ⟨(some 26), none, .call 9 [(.s 24), (.s 25)]⟩,
    ⟨(some 7), none, .mov (.s 26)⟩] [2, 3, 4, 7])
  (.seq (.seq (.reg [
    ⟨(some 27), none, .mov (.s 7)⟩,
    ⟨(some 28), none, .bin .lss (.s 27) (.c (.t (.int .i64 0)))⟩] [2, 3, 4, 28])
  (.cond (.s 28)
    (.seq (.reg [
      ⟨(some 6), none, .mov (.c (.t (.bool true)))⟩] [6])
    (.ret))
    (.skip)))
  (.seq (.drw [
    ⟨(some 30), none, .load (some 2) (.s 3)⟩,
    ⟨(some 31), none, .call 12 [(.s 30)]⟩,
    ⟨(some 32), none, .load (some 1) (.s 4)⟩,
    ⟨(some 33), none, .call 13 [(.s 32)]⟩,
    ⟨(some 34), none, .mov (.s 2)⟩,
    ⟨(some 35), none, .call 19 [(.s 31), (.s 33), (.s 34)]⟩,
    ⟨(some 29), none, .mov (.s 35)⟩,
    ⟨(some 36), none, .ext (.s 29) 0⟩,
    ⟨(some 37), none, .ext (.s 29) 1⟩,
    ⟨(some 8), none, .alloc [(.t .nil)]⟩,
    ⟨none, none, .store 1 (.s 8) (.s 36)⟩,
    ⟨(some 9), none, .mov (.s 37)⟩] [[], [0], [], [2, 1], [], [1, 3, 4, 3], [5], [6], [6], [], [9, 7, 5, 0, 1, 2, 3, 4, 5, 6, 7, 9], [8, 10, 0, 1, 2, 3, 4, 5, 6, 7, 8, 9, 10]] [2, 3, 4, 8, 9])
  (.seq (.reg [
    ⟨(some 38), none, .load (some 2) (.s 3)⟩,
    ⟨(some 39), none, .call 12 [(.s 38)]⟩,
    ⟨(some 10), none, .alloc [(.t (.int .i64 0)), (.t .nil)]⟩,
    ⟨none, none, .store 2 (.s 10) (.s 39)⟩] [2, 3, 4, 8, 9, 10])
  (.seq (.reg [
    ⟨(some 40), none, .load (some 1) (.s 4)⟩,
    ⟨(some 41), none, .call 13 [(.s 40)]⟩,
    ⟨(some 11), none, .alloc [(.t .nil)]⟩,
    ⟨none, none, .store 1 (.s 11) (.s 41)⟩] [2, 3, 4, 8, 9, 10, 11])
  (.seq (.reg [
    ⟨(some 43), none, .load (some 2) (.s 10)⟩,
    ⟨(some 44), none, .load (some 1) (.s 11)⟩,
    ⟨(some 45), none, .mov (.s 2)⟩,
    ⟨(some 46), none, .call 20 [(.s 43), (.s 44), (.s 45)]⟩,
    ⟨(some 42), none, .mov (.s 46)⟩,
    ⟨(some 47), none, .ext (.s 42) 0⟩,
    ⟨(some 48), none, .ext (.s 42) 1⟩,
    ⟨(some 12), none, .alloc [(.t .nil)]⟩,
    ⟨none, none, .store 1 (.s 12) (.s 47)⟩,
    ⟨(some 13), none, .mov (.s 48)⟩] [2, 3, 4, 8, 9, 10, 11, 12, 13])
  (.seq (.seq (.reg [
    ⟨(some 49), none, .load (some 1) (.s 12)⟩,
    ⟨(some 50), none, .load (some 1) (.s 8)⟩,
    ⟨(some 51), none, .call 17 [(.s 49), (.s 50)]⟩,
    ⟨(some 52), none, .un .not (.s 51)⟩,
    ⟨(some 53), none, .mov (.s 52)⟩,
    ⟨(some 54), (some (53, false)), .mov (.s 13)⟩,
    ⟨(some 55), (some (53, false)), .mov (.s 9)⟩,
    ⟨(some 56), (some (53, false)), .beq true (.s 54) (.s 55)⟩,
    ⟨(some 57), none, .pick (.s 53) (.c (.t (.bool true))) (.s 56)⟩] [2, 3, 4, 8, 9, 10, 11, 12, 13, 57])
  (.cond (.s 57)
    (.seq (.reg [
      ⟨(some 6), none, .mov (.c (.t (.bool false)))⟩] [6])
    (.ret))
    (.skip)))
  (.seq (.seq (.drw [
    ⟨(some 58), none, .load (some 2) (.s 10)⟩,
    ⟨(some 59), none, .load (some 2) (.s 3)⟩,
    ⟨(some 60), none, .call 12 [(.s 59)]⟩,
    ⟨(some 61), none, .call 16 [(.s 58), (.s 60)]⟩,
    ⟨(some 62), none, .un .not (.s 61)⟩] [[], [], [1], [0, 2, 2], [3]] [2, 3, 4, 8, 9, 10, 11, 12, 13, 62])
  (.cond (.s 62)
    (.seq (.reg [
      ⟨(some 6), none, .mov (.c (.t (.bool false)))⟩] [6])
    (.ret))
    (.skip)))
  (.seq (.seq (.drw [
    ⟨(some 63), none, .load (some 1) (.s 11)⟩,
    ⟨(some 64), none, .load (some 1) (.s 4)⟩,
    ⟨(some 65), none, .call 13 [(.s 64)]⟩,
    ⟨(some 66), none, .call 17 [(.s 63), (.s 65)]⟩,
    ⟨(some 67), none, .un .not (.s 66)⟩] [[], [], [1], [0, 2, 2], [3]] [2, 3, 4, 8, 9, 10, 11, 12, 13, 67])
  (.cond (.s 67)
    (.seq (.reg [
      ⟨(some 6), none, .mov (.c (.t (.bool false)))⟩] [6])
    (.ret))
    (.skip)))
  (.seq (.reg [
    ⟨(some 14), none, .mov (.c (.t (.int .i64 1)))⟩] [2, 3, 4, 8, 9, 10, 11, 12, 13, 14])
  (.seq (.reg [
    ⟨(some 68), none, .load (some 2) (.s 10)⟩,
    ⟨(some 69), none, .mov (.s 14)⟩,
    ⟨(some 70), none, .icall 21 [(.s 68), (.s 69)]⟩,
    ⟨(some 14), none, .mov (.s 70)⟩] [2, 3, 4, 8, 9, 11, 12, 13, 14])
  (.seq (.reg [
    ⟨(some 71), none, .load (some 1) (.s 11)⟩,
    ⟨(some 72), none, .mov (.s 14)⟩,
    ⟨(some 73), none, .icall 22 [(.s 71), (.s 72)]⟩,
    ⟨(some 14), none, .mov (.s 73)⟩] [2, 3, 4, 8, 9, 12, 13, 14])
  (.seq (.seq (.reg [
    ⟨(some 74), none, .mov (.s 14)⟩,
    ⟨(some 75), none, .bin .lss (.s 74) (.c (.t (.int .i64 0)))⟩,
    ⟨(some 76), none, .mov (.s 75)⟩,
    ⟨(some 77), (some (76, false)), .load (some 1) (.s 12)⟩,
    ⟨(some 78), (some (76, false)), .load (some 1) (.s 8)⟩,
    ⟨(some 79), (some (76, false)), .call 17 [(.s 77), (.s 78)]⟩,
    ⟨(some 80), (some (76, false)), .un .not (.s 79)⟩,
    ⟨(some 81), none, .pick (.s 76) (.c (.t (.bool true))) (.s 80)⟩,
    ⟨(some 82), none, .mov (.s 81)⟩,
    ⟨(some 83), (some (82, false)), .mov (.s 13)⟩,
    ⟨(some 84), (some (82, false)), .mov (.s 9)⟩,
    ⟨(some 85), (some (82, false)), .beq true (.s 83) (.s 84)⟩,
    ⟨(some 86), none, .pick (.s 82) (.c (.t (.bool true))) (.s 85)⟩] [2, 3, 4, 8, 9, 12, 86])
  (.cond (.s 86)
    (.seq (.reg [
      ⟨(some 6), none, .mov (.c (.t (.bool false)))⟩] [6])
    (.ret))
    (.skip)))
  (.seq (.reg [
    ⟨(some 15), none, .mov (.c (.t (.int .i64 1)))⟩] [2, 3, 4, 8, 9, 12, 15])
  (.seq (.reg [
    ⟨(some 87), none, .load (some 1) (.s 12)⟩,
    ⟨(some 88), none, .mov (.s 15)⟩,
    ⟨(some 89), none, .icall 22 [(.s 87), (.s 88)]⟩,
    ⟨(some 15), none, .mov (.s 89)⟩] [2, 3, 4, 8, 9, 12, 15])
  (.seq (.reg [
    ⟨(some 16), none, .mov (.c (.t (.int .i64 1)))⟩] [2, 3, 4, 8, 9, 12, 15, 16])
  (.seq (.reg [
    ⟨(some 90), none, .load (some 1) (.s 12)⟩,
    ⟨(some 91), none, .mov (.s 16)⟩,
    ⟨(some 92), none, .call 23 [(.s 90), (.s 91)]⟩,
    ⟨(some 16), none, .mov (.s 92)⟩] [2, 3, 4, 8, 9, 12, 15, 16])
  (.seq (.seq (.reg [
    ⟨(some 93), none, .mov (.s 16)⟩,
    ⟨(some 94), none, .bin .lss (.s 93) (.c (.t (.int .i64 0)))⟩] [2, 3, 4, 8, 9, 12, 15, 16, 94])
  (.cond (.s 94)
    (.seq (.reg [
      ⟨(some 6), none, .mov (.c (.t (.bool false)))⟩] [6])
    (.ret))
    (.skip)))
  (.seq (.seq (.reg [
    ⟨(some 95), none, .mov (.s 16)⟩,
    ⟨(some 96), none, .mov (.s 15)⟩,
    ⟨(some 97), none, .bin .neq (.s 95) (.s 96)⟩] [2, 3, 4, 8, 9, 12, 15, 97])
  (.cond (.s 97)
    (.seq (.reg [
      ⟨(some 6), none, .mov (.c (.t (.bool false)))⟩] [6])
    (.ret))
    (.skip)))
  (.seq (.drw [
    ⟨(some 99), none, .load (some 2) (.s 3)⟩,
    ⟨(some 100), none, .call 12 [(.s 99)]⟩,
    ⟨(some 101), none, .load (some 1) (.s 4)⟩,
    ⟨(some 102), none, .call 13 [(.s 101)]⟩,
    ⟨(some 103), none, .mov (.s 2)⟩,
    ⟨(some 104), none, .call 20 [(.s 100), (.s 102), (.s 103)]⟩,
    ⟨(some 98), none, .mov (.s 104)⟩,
    ⟨(some 105), none, .ext (.s 98) 0⟩,
    ⟨(some 106), none, .ext (.s 98) 1⟩,
    ⟨(some 17), none, .alloc [(.t .nil)]⟩,
    ⟨none, none, .store 1 (.s 17) (.s 105)⟩,
    ⟨(some 18), none, .mov (.s 106)⟩] [[], [0], [], [2, 1], [], [1, 3, 4, 3], [5], [6], [6], [], [9, 7, 5, 0, 1, 2, 3, 4, 5, 6, 7, 9], [8, 10, 0, 1, 2, 3, 4, 5, 6, 7, 8, 9, 10]] [8, 9, 12, 15, 17, 18])
  (.seq (.seq (.reg [
    ⟨(some 107), none, .load (some 1) (.s 17)⟩,
    ⟨(some 108), none, .load (some 1) (.s 8)⟩,
    ⟨(some 109), none, .call 17 [(.s 107), (.s 108)]⟩,
    ⟨(some 110), none, .un .not (.s 109)⟩,
    ⟨(some 111), none, .mov (.s 110)⟩,
    ⟨(some 112), (some (111, false)), .mov (.s 18)⟩,
    ⟨(some 113), (some (111, false)), .mov (.s 9)⟩,
    ⟨(some 114), (some (111, false)), .beq true (.s 112) (.s 113)⟩,
    ⟨(some 115), none, .pick (.s 111) (.c (.t (.bool true))) (.s 114)⟩] [12, 15, 115])
  (.cond (.s 115)
    (.seq (.reg [
      ⟨(some 6), none, .mov (.c (.t (.bool false)))⟩] [6])
    (.ret))
    (.skip)))
  (.seq (.reg [
    ⟨(some 16), none, .mov (.c (.t (.int .i64 1)))⟩] [12, 15, 16])
  (.seq (.reg [
    ⟨(some 116), none, .load (some 1) (.s 12)⟩,
    ⟨(some 117), none, .mov (.s 16)⟩,
    ⟨(some 118), none, .call 23 [(.s 116), (.s 117)]⟩,
    ⟨(some 16), none, .mov (.s 118)⟩] [15, 16])
  (.seq (.seq (.reg [
    ⟨(some 119), none, .mov (.s 16)⟩,
    ⟨(some 120), none, .bin .lss (.s 119) (.c (.t (.int .i64 0)))⟩] [15, 16, 120])
  (.cond (.s 120)
    (.seq (.reg [
      ⟨(some 6), none, .mov (.c (.t (.bool false)))⟩] [6])
    (.ret))
    (.skip)))
  (.seq (.seq (.reg [
    ⟨(some 121), none, .mov (.s 16)⟩,
    ⟨(some 122), none, .mov (.s 15)⟩,
    ⟨(some 123), none, .bin .neq (.s 121) (.s 122)⟩] [123])
  (.cond (.s 123)
    (.seq (.reg [
      ⟨(some 6), none, .mov (.c (.t (.bool false)))⟩] [6])
    (.ret))
    (.skip)))
  (.seq (.reg [
    ⟨(some 6), none, .mov (.c (.t (.bool true)))⟩] [6])
  (.ret))))))))))))))))))))))))))))))⟩
theorem t_laws_FnExactSpillPlan : tbl 4 = some M_laws_FnExactSpillPlan := tblOf_eq Try.func4 (by kernel_rfl) (by kernel_rfl)

/-- loop.example/g01921/laws.FnExactIsValidRegion -/
def M_laws_FnExactIsValidRegion : MFun := ⟨2, 45, [.tmp 4],
  .seq (.reg [
    ⟨(some 2), none, .box (.s 0)⟩,
    ⟨(some 3), none, .box (.s 1)⟩,
    ⟨(some 4), none, .mov (.c (.t (.bool false)))⟩] [2, 3])
  (.seq (.reg [
    ⟨(some 5), none, .mov (.c (.t (.int .i64 1048576)))⟩] [2, 3, 5])
  (.seq (.reg [
    ⟨(some 10), none, .load (some 2) (.s 2)⟩,
    ⟨(some 11), none, .mov (.s 5)⟩,
    ⟨(some 12), none, .call 8 [(.s 10), (.s 11)]⟩,
    ⟨(some 5), none, .mov (.s 12)⟩] [2, 3, 5])
  (.seq (.seq (.reg [
    ⟨(some 13), none, .mov (.s 5)⟩,
    ⟨(some 14), none, .bin .lss (.s 13) (.c (.t (.int .i64 0)))⟩] [2, 3, 5, 14])
  (.cond (.s 14)
    (.seq (.reg [
      ⟨(some 4), none, .mov (.c (.t (.bool true)))⟩] [4])
    (.ret))
    (.skip)))
  (.seq (.reg [
    ⟨(some 15), none, .load (some 4) (.s 3)⟩,
    ⟨(some 16), none, .mov (.s 5)⟩,
    ⟨(some 17), none, .call 24 [(.s 15), (.s 16)]⟩,
    ⟨(some 5), none, .mov (.s 17)⟩] [2, 3, 5])
  (.seq (.seq (.reg [
    ⟨(some 18), none, .mov (.s 5)⟩,
    ⟨(some 19), none, .bin .lss (.s 18) (.c (.t (.int .i64 0)))⟩] [2, 3, 19])
  (.cond (.s 19)
    (.seq (.reg [
      ⟨(some 4), none, .mov (.c (.t (.bool true)))⟩] [4])
    (.ret))
    (.skip)))
  (.seq (.drw [
    ⟨(some 20), none, .load (some 2) (.s 2)⟩,
    ⟨(some 21), none, .call 12 [(.s 20)]⟩,
    ⟨(some 22), none, .load (some 4) (.s 3)⟩,
    ⟨(some 23), none, .call 26 [(.s 22)]⟩,
    ⟨(some 24), none, .call 25 [(.s 21), (.s 23)]⟩,
    ⟨(some 6), none, .mov (.s 24)⟩] [[], [0], [], [2, 1], [1, 3, 3], [4, 4, 0, 1, 2, 3, 4]] [2, 3, 6])
  (.seq (.reg [
    ⟨(some 25), none, .load (some 2) (.s 2)⟩,
    ⟨(some 26), none, .call 12 [(.s 25)]⟩,
    ⟨(some 7), none, .alloc [(.t (.int .i64 0)), (.t .nil)]⟩,
    ⟨none, none, .store 2 (.s 7) (.s 26)⟩] [2, 3, 6, 7])
  (.seq (.reg [
    ⟨(some 27), none, .load (some 4) (.s 3)⟩,
    ⟨(some 28), none, .call 26 [(.s 27)]⟩,
    ⟨(some 8), none, .alloc [(.t .nil), (.t .nil), (.t .nil), (.t (.int .i64 0))]⟩,
    ⟨none, none, .store 4 (.s 8) (.s 28)⟩] [2, 3, 6, 7, 8])
  (.seq (.reg [
    ⟨(some 29), none, .load (some 2) (.s 7)⟩,
    ⟨(some 30), none, .load (some 4) (.s 8)⟩,
    ⟨(some 31), none, .call 27 [(.s 29), (.s 30)]⟩,
    ⟨(some 9), none, .mov (.s 31)⟩] [2, 3, 6, 7, 8, 9])
  (.seq (.seq (.reg [
    ⟨(some 32), none, .mov (.s 9)⟩,
    ⟨(some 33), none, .mov (.s 6)⟩,
    ⟨(some 34), none, .beq true (.s 32) (.s 33)⟩] [2, 3, 7, 8, 34])
  (.cond (.s 34)
    (.seq (.reg [
      ⟨(some 4), none, .mov (.c (.t (.bool false)))⟩] [4])
    (.ret))
    (.skip)))
  (.seq (.seq (.drw [
    ⟨(some 35), none, .load (some 2) (.s 7)⟩,
    ⟨(some 36), none, .load (some 2) (.s 2)⟩,
    ⟨(some 37), none, .call 12 [(.s 36)]⟩,
    ⟨(some 38), none, .call 16 [(.s 35), (.s 37)]⟩,
    ⟨(some 39), none, .un .not (.s 38)⟩] [[], [], [1], [0, 2, 2], [3]] [3, 8, 39])
  (.cond (.s 39)
    (.seq (.reg [
      ⟨(some 4), none, .mov (.c (.t (.bool false)))⟩] [4])
    (.ret))
    (.skip)))
  (.seq (.seq (.drw [
    ⟨(some 40), none, .load (some 4) (.s 8)⟩,
    ⟨(some 41), none, .load (some 4) (.s 3)⟩,
    ⟨(some 42), none, .call 26 [(.s 41)]⟩,
    ⟨(some 43), none, .call 28 [(.s 40), (.s 42)]⟩,
    ⟨(some 44), none, .un .not (.s 43)⟩] [[], [], [1], [0, 2, 2], [3]] [44])
  (.cond (.s 44)
    (.seq (.reg [
      ⟨(some 4), none, .mov (.c (.t (.bool false)))⟩] [4])
    (.ret))
    (.skip)))
  (.seq (.reg [
    ⟨(some 4), none, .mov (.c (.t (.bool true)))⟩] [4])
  (.ret))))))))))))))⟩
theorem t_laws_FnExactIsValidRegion : tbl 5 = some M_laws_FnExactIsValidRegion := tblOf_eq Try.func5 (by kernel_rfl) (by kernel_rfl)

/-- loop.example/g01921/laws.FnExactAreOrderedNotes -/
def M_laws_FnExactAreOrderedNotes : MFun := ⟨3, 63, [.tmp 6],
  .seq (.reg [
    ⟨(some 3), none, .box (.s 0)⟩,
    ⟨(some 4), none, .box (.s 1)⟩,
    ⟨(some 6), none, .mov (.c (.t (.bool false)))⟩] [2, 3, 4])
  (.seq (.reg [
    ⟨(some 7), none, .mov (.c (.t (.int .i64 1048576)))⟩] [2, 3, 4, 7])
  (.seq (.reg [
    ⟨(some 13), none, .load (some 2) (.s 3)⟩,
    ⟨(some 14), none, .mov (.s 7)⟩,
    ⟨(some 15), none, .call 8 [(.s 13), (.s 14)]⟩,
    ⟨(some 7), none, .mov (.s 15)⟩] [2, 3, 4, 7])
  (.seq (.seq (.reg [
    ⟨(some 16), none, .mov (.s 7)⟩,
    ⟨(some 17), none, .bin .lss (.s 16) (.c (.t (.int .i64 0)))⟩] [2, 3, 4, 7, 17])
  (.cond (.s 17)
    (.seq (.reg [
      ⟨(some 6), none, .mov (.c (.t (.bool true)))⟩] [6])
    (.ret))
    (.skip)))
  (.seq (.reg [
    ⟨(some 18), none, .load (some 8) (.s 4)⟩,
    ⟨(some 19), none, .mov (.s 7)⟩,
    ⟨(some 20), none, .call 29 [(.s 18), (.s 19)]⟩,
    ⟨(some 7), none, .mov (.s 20)⟩] [2, 3, 4, 7])
  (.seq (.seq (.reg [
    ⟨(some 21), none, .mov (.s 7)⟩,
    ⟨(some 22), none, .bin .lss (.s 21) (.c (.t (.int .i64 0)))⟩] [2, 3, 4, 7, 22])
  (.cond (.s 22)
    (.seq (.reg [
      ⟨(some 6), none, .mov (.c (.t (.bool true)))⟩] [6])
    (.ret))
    (.skip)))
  (.seq (.reg [
    ⟨(some 23), none, .mov (.s 2)⟩,
    ⟨(some 24), none, .mov (.s 7)⟩,
    ⟨(some 25), none, .call 30 [(.s 23), (.s 24)]⟩,
    ⟨(some 7), none, .mov (.s 25)⟩] [2, 3, 4, 7])
  (.seq (.seq (.reg [
    ⟨(some 26), none, .mov (.s 7)⟩,
    ⟨(some 27), none, .bin .lss (.s 26) (.c (.t (.int .i64 0)))⟩] [2, 3, 4, 27])
  (.cond (.s 27)
    (.seq (.reg [
      ⟨(some 6), none, .mov (.c (.t (.bool true)))⟩] [6])
    (.ret))
    (.skip)))
  (.seq (.drw [
    ⟨(some 28), none, .load (some 2) (.s 3)⟩,
    ⟨(some 29), none, .call 12 [(.s 28)]⟩,
    ⟨(some 30), none, .load (some 8) (.s 4)⟩,
    ⟨(some 31), none, .call 32 [(.s 30)]⟩,
    ⟨(some 32), none, .mov (.s 2)⟩,
    ⟨(some 33), none, .call 33 [(.s 32)]⟩,
    ⟨(some 34), none, .call 31 [(.s 29), (.s 31), (.s 33)]⟩,
    ⟨(some 8), none, .mov (.s 34)⟩] [[], [0], [], [2, 1], [], [4, 3], [1, 3, 5, 5], [6, 6, 0, 1, 2, 3, 4, 5, 6]] [2, 3, 4, 8])
  (.seq (.reg [
    ⟨(some 35), none, .load (some 2) (.s 3)⟩,
    ⟨(some 36), none, .call 12 [(.s 35)]⟩,
    ⟨(some 9), none, .alloc [(.t (.int .i64 0)), (.t .nil)]⟩,
    ⟨none, none, .store 2 (.s 9) (.s 36)⟩] [2, 3, 4, 8, 9])
  (.seq (.reg [
    ⟨(some 37), none, .load (some 8) (.s 4)⟩,
    ⟨(some 38), none, .call 32 [(.s 37)]⟩,
    ⟨(some 10), none, .alloc [(.t (.int .i64 0)), (.t (.int .i64 0)), (.t (.int .i64 0)), (.t .nil), (.t .nil), (.t .nil), (.t .nil), (.t .nil)]⟩,
    ⟨none, none, .store 8 (.s 10) (.s 38)⟩] [2, 3, 4, 8, 9, 10])
  (.seq (.reg [
    ⟨(some 39), none, .mov (.s 2)⟩,
    ⟨(some 40), none, .call 33 [(.s 39)]⟩,
    ⟨(some 11), none, .mov (.s 40)⟩] [2, 3, 4, 8, 9, 10, 11])
  (.seq (.reg [
    ⟨(some 41), none, .load (some 2) (.s 9)⟩,
    ⟨(some 42), none, .load (some 8) (.s 10)⟩,
    ⟨(some 43), none, .mov (.s 11)⟩,
    ⟨(some 44), none, .call 34 [(.s 41), (.s 42), (.s 43)]⟩,
    ⟨(some 12), none, .mov (.s 44)⟩] [2, 3, 4, 8, 9, 10, 11, 12])
  (.seq (.seq (.reg [
    ⟨(some 45), none, .mov (.s 12)⟩,
    ⟨(some 46), none, .mov (.s 8)⟩,
    ⟨(some 47), none, .beq true (.s 45) (.s 46)⟩] [2, 3, 4, 9, 10, 11, 47])
  (.cond (.s 47)
    (.seq (.reg [
      ⟨(some 6), none, .mov (.c (.t (.bool false)))⟩] [6])
    (.ret))
    (.skip)))
  (.seq (.seq (.drw [
    ⟨(some 48), none, .load (some 2) (.s 9)⟩,
    ⟨(some 49), none, .load (some 2) (.s 3)⟩,
    ⟨(some 50), none, .call 12 [(.s 49)]⟩,
    ⟨(some 51), none, .call 16 [(.s 48), (.s 50)]⟩,
    ⟨(some 52), none, .un .not (.s 51)⟩] [[], [], [1], [0, 2, 2], [3]] [2, 4, 10, 11, 52])
  (.cond (.s 52)
    (.seq (.reg [
      ⟨(some 6), none, .mov (.c (.t (.bool false)))⟩] [6])
    (.ret))
    (.skip)))
  (.seq (.seq (.drw [
    ⟨(some 53), none, .load (some 8) (.s 10)⟩,
    ⟨(some 54), none, .load (some 8) (.s 4)⟩,
    ⟨(some 55), none, .call 32 [(.s 54)]⟩,
    ⟨(some 56), none, .call 35 [(.s 53), (.s 55)]⟩,
    ⟨(some 57), none, .un .not (.s 56)⟩] [[], [], [1], [0, 2, 2], [3]] [2, 11, 57])
  (.cond (.s 57)
    (.seq (.reg [
      ⟨(some 6), none, .mov (.c (.t (.bool false)))⟩] [6])
    (.ret))
    (.skip)))
  (.seq (.seq (.reg [
    ⟨(some 58), none, .mov (.s 11)⟩,
    ⟨(some 59), none, .mov (.s 2)⟩,
    ⟨(some 60), none, .call 33 [(.s 59)]⟩,
    ⟨(some 61), none, .call 36 [(.s 58), (.s 60)]⟩,
    ⟨(some 62), none, .un .not (.s 61)⟩] [62])
  (.cond (.s 62)
    (.seq (.reg [
      ⟨(some 6), none, .mov (.c (.t (.bool false)))⟩] [6])
    (.ret))
    (.skip)))
  (.seq (.reg [
    ⟨(some 6), none, .mov (.c (.t (.bool true)))⟩] [6])
  (.ret))))))))))))))))))⟩
theorem t_laws_FnExactAreOrderedNotes : tbl 6 = some M_laws_FnExactAreOrderedNotes := tblOf_eq Try.func6 (by kernel_rfl) (by kernel_rfl)

/-- loop.example/g01921/laws.FnReading -/
def B_laws_FnReading_0 : MCode :=
  .seq (.seq (.reg [
    ⟨(some 72), none, .mov (.s 13)⟩,
    ⟨(some 73), none, .mov (.s 11)⟩,
    ⟨(some 74), none, .len false (.s 73)⟩,
    ⟨(some 75), none, .bin .lss (.s 72) (.s 74)⟩] [10, 11, 12, 13, 75])
  (.cond (.s 75)
    (.skip)
    (.exit 0)))
  (.seq (.block 1 (.seq (.seq (.drw [
    ⟨(some 78), none, .mov (.s 13)⟩,
    ⟨(some 79), none, .bin .gtr (.s 78) (.c (.t (.int .i64 0)))⟩,
    ⟨(some 80), none, .mov (.s 79)⟩,
    ⟨(some 81), (some (80, true)), .mov (.s 11)⟩,
    ⟨(some 82), (some (80, true)), .mov (.s 13)⟩,
    ⟨(some 83), (some (80, true)), .bin .sub (.s 82) (.c (.t (.int .i64 1)))⟩,
    ⟨(some 84), (some (80, true)), .iaddr 2 (.s 81) (.s 83)⟩,
    ⟨(some 85), (some (80, true)), .faddr 0 (.s 84)⟩,
    ⟨(some 86), (some (80, true)), .load none (.s 85)⟩,
    ⟨(some 87), (some (80, true)), .mov (.s 11)⟩,
    ⟨(some 88), (some (80, true)), .mov (.s 13)⟩,
    ⟨(some 89), (some (80, true)), .iaddr 2 (.s 87) (.s 88)⟩,
    ⟨(some 90), (some (80, true)), .faddr 0 (.s 89)⟩,
    ⟨(some 91), (some (80, true)), .load none (.s 90)⟩,
    ⟨(some 92), (some (80, true)), .bin .geq (.s 86) (.s 91)⟩,
    ⟨(some 93), none, .pick (.s 80) (.s 92) (.c (.t (.bool false)))⟩] [[], [0], [1], [2], [2], [4, 2], [3, 5, 2], [6, 2], [7, 2], [2], [2], [9, 10, 2], [11, 2], [12, 2], [8, 13, 2], [2, 14]] [10, 11, 12, 13, 93])
  (.cond (.s 93)
    (.seq (.reg [
      ⟨(some 2), none, .mov (.c (.t (.bool false)))⟩] [2])
    (.ret))
    (.skip)))
  (.drw [
    ⟨(some 94), none, .mov (.s 12)⟩,
    ⟨(some 95), none, .mov (.s 94)⟩,
    ⟨(some 96), (some (95, false)), .mov (.s 11)⟩,
    ⟨(some 97), (some (95, false)), .mov (.s 13)⟩,
    ⟨(some 98), (some (95, false)), .iaddr 2 (.s 96) (.s 97)⟩,
    ⟨(some 99), (some (95, false)), .load (some 2) (.s 98)⟩,
    ⟨(some 100), (some (95, false)), .load (some 2) (.s 10)⟩,
    ⟨(some 101), (some (95, false)), .aeq false [1, 1] (.s 99) (.s 100)⟩,
    ⟨(some 102), none, .pick (.s 95) (.c (.t (.bool true))) (.s 101)⟩,
    ⟨(some 12), none, .mov (.s 102)⟩] [[], [0], [1], [1], [2, 3, 1], [4, 1], [1], [5, 6, 1], [1, 7], [8, 1, 0, 1, 2, 3, 4, 5, 6, 7, 8]] [10, 11, 12, 13])))
  (.reg [
    ⟨(some 76), none, .mov (.s 13)⟩,
    ⟨(some 77), none, .bin .add (.s 76) (.c (.t (.int .i64 1)))⟩,
    ⟨(some 13), none, .mov (.s 77)⟩] [10, 11, 12, 13]))

def M_laws_FnReading : MFun := ⟨1, 104, [.tmp 2],
  .seq (.reg [
    ⟨(some 2), none, .mov (.c (.t (.bool false)))⟩] [0])
  (.seq (.seq (.reg [
    ⟨(some 14), none, .mov (.s 0)⟩,
    ⟨(some 15), none, .call 37 [(.s 14)]⟩] [0, 15])
  (.cond (.s 15)
    (.seq (.reg [
      ⟨(some 2), none, .mov (.c (.t (.bool true)))⟩] [2])
    (.ret))
    (.skip)))
  (.seq (.reg [
    ⟨(some 17), none, .mov (.s 0)⟩,
    ⟨(some 18), none, .call 38 [(.s 17)]⟩,
    ⟨(some 16), none, .mov (.s 18)⟩,
    ⟨(some 19), none, .ext (.s 16) 0⟩,
    ⟨(some 20), none, .ext (.s 16) 1⟩,
    ⟨(some 21), none, .ext (.s 16) 2⟩,
    ⟨(some 3), none, .alloc [(.t (.int .i64 0)), (.t (.int .i64 0)), (.t (.int .i64 0)), (.t (.int .i64 0)), (.t (.int .i64 0)), (.t .nil), (.t (.int .i64 0)), (.t (.int .i64 0)), (.t (.int .i64 0)), (.t (.int .i64 0)), (.t (.int .i64 0)), (.t .nil), (.t (.int .i64 0)), (.t (.int .i64 0)), (.t (.int .i64 0)), (.t (.int .i64 0)), (.t (.int .i64 0)), (.t .nil), (.t (.int .i64 0)), (.t (.int .i64 0)), (.t (.int .i64 0)), (.t (.int .i64 0)), (.t (.int .i64 0)), (.t .nil), (.t (.int .i64 0)), (.t (.int .i64 0)), (.t (.int .i64 0)), (.t (.int .i64 0)), (.t (.int .i64 0)), (.t .nil)]⟩,
    ⟨none, none, .store 30 (.s 3) (.s 19)⟩,
    ⟨(some 4), none, .mov (.s 20)⟩,
    ⟨(some 5), none, .mov (.s 21)⟩] [0, 3, 4, 5])
  (.seq (.reg [
    ⟨(some 22), none, .load (some 30) (.s 3)⟩,
    ⟨(some 23), none, .mov (.s 4)⟩,
    ⟨(some 24), none, .mov (.s 5)⟩,
    ⟨(some 25), none, .call 39 [(.s 22), (.s 23), (.s 24)]⟩,
    ⟨(some 6), none, .mov (.s 25)⟩] [0, 3, 4, 5, 6])
  (.seq (.seq (.drw [
    ⟨(some 26), none, .mov (.s 6)⟩,
    ⟨(some 27), none, .load (some 30) (.s 3)⟩,
    ⟨(some 28), none, .mov (.s 4)⟩,
    ⟨(some 29), none, .mov (.s 5)⟩,
    ⟨(some 30), none, .call 40 [(.s 27), (.s 28), (.s 29)]⟩,
    ⟨(some 31), none, .beq true (.s 26) (.s 30)⟩,
    ⟨(some 32), none, .mov (.s 31)⟩,
    ⟨(some 33), (some (32, false)), .load (some 30) (.s 3)⟩,
    ⟨(some 34), (some (32, false)), .mov (.s 5)⟩,
    ⟨(some 35), (some (32, false)), .call 41 [(.s 33), (.s 34)]⟩,
    ⟨(some 36), (some (32, false)), .load (some 30) (.s 3)⟩,
    ⟨(some 37), (some (32, false)), .mov (.s 5)⟩,
    ⟨(some 38), (some (32, false)), .call 42 [(.s 36), (.s 37)]⟩,
    ⟨(some 39), (some (32, false)), .bin .neq (.s 35) (.s 38)⟩,
    ⟨(some 40), none, .pick (.s 32) (.c (.t (.bool true))) (.s 39)⟩] [[], [], [], [], [1, 2, 3], [0, 4], [5, 4], [6], [6], [7, 8, 6, 6], [6], [6], [10, 11, 9, 6], [9, 12, 6], [6, 13]] [0, 3, 4, 5, 6, 40])
  (.cond (.s 40)
    (.seq (.reg [
      ⟨(some 2), none, .mov (.c (.t (.bool false)))⟩] [2])
    (.ret))
    (.skip)))
  (.seq (.seq (.reg [
    ⟨(some 41), none, .mov (.s 6)⟩] [0, 3, 4, 5, 41])
  (.cond (.s 41)
    (.seq (.reg [
      ⟨(some 43), none, .load (some 30) (.s 3)⟩,
      ⟨(some 44), none, .mov (.s 4)⟩,
      ⟨(some 45), none, .call 43 [(.s 43), (.s 44)]⟩,
      ⟨(some 42), none, .mov (.s 45)⟩,
      ⟨(some 46), none, .ext (.s 42) 0⟩,
      ⟨(some 47), none, .ext (.s 42) 1⟩,
      ⟨(some 7), none, .alloc [(.t (.int .i64 0)), (.t (.int .i64 0)), (.t (.int .i64 0)), (.t (.int .i64 0)), (.t (.int .i64 0)), (.t .nil)]⟩,
      ⟨none, none, .store 6 (.s 7) (.s 46)⟩,
      ⟨(some 8), none, .mov (.s 47)⟩] [0, 3, 5, 7])
    (.seq (.drw [
      ⟨(some 48), none, .load (some 30) (.s 3)⟩,
      ⟨(some 49), none, .mov (.s 5)⟩,
      ⟨(some 50), none, .call 41 [(.s 48), (.s 49)]⟩,
      ⟨(some 51), none, .load (some 6) (.s 7)⟩,
      ⟨(some 52), none, .mov (.s 0)⟩,
      ⟨(some 53), none, .call 46 [(.s 52), (.c (.t (.int .i64 0)))]⟩,
      ⟨(some 54), none, .bin .rem (.s 53) (.c (.t (.int .i64 9)))⟩,
      ⟨(some 55), none, .call 45 [(.s 54)]⟩,
      ⟨(some 56), none, .mov (.s 0)⟩,
      ⟨(some 57), none, .call 46 [(.s 56), (.c (.t (.int .i64 1)))]⟩,
      ⟨(some 58), none, .bin .rem (.s 57) (.c (.t (.int .i64 9)))⟩,
      ⟨(some 59), none, .call 45 [(.s 58)]⟩,
      ⟨(some 60), none, .mov (.s 5)⟩,
      ⟨(some 61), none, .call 45 [(.s 60)]⟩,
      ⟨(some 62), none, .call 44 [(.s 51), (.s 55), (.s 59), (.s 61)]⟩,
      ⟨(some 63), none, .bin .gtr (.s 50) (.s 62)⟩] [[], [], [0, 1], [], [], [4, 2], [5], [6, 5], [], [8, 7], [9], [10, 9], [], [12, 11], [3, 7, 11, 13, 13], [2, 14]] [0, 63])
    (.cond (.s 63)
      (.seq (.reg [
        ⟨(some 2), none, .mov (.c (.t (.bool false)))⟩] [2])
      (.ret))
      (.skip))))
    (.skip)))
  (.seq (.reg [
    ⟨(some 65), none, .mov (.s 0)⟩,
    ⟨(some 66), none, .call 47 [(.s 65)]⟩,
    ⟨(some 64), none, .mov (.s 66)⟩,
    ⟨(some 67), none, .ext (.s 64) 0⟩,
    ⟨(some 68), none, .ext (.s 64) 1⟩,
    ⟨(some 10), none, .alloc [(.t (.int .i64 0)), (.t (.int .i64 0))]⟩,
    ⟨(some 9), none, .mov (.s 67)⟩,
    ⟨none, none, .store 2 (.s 10) (.s 68)⟩] [9, 10])
  (.seq (.reg [
    ⟨(some 69), none, .mov (.s 9)⟩,
    ⟨(some 70), none, .load (some 2) (.s 10)⟩,
    ⟨(some 71), none, .call 48 [(.s 69), (.s 70)]⟩,
    ⟨(some 11), none, .mov (.s 71)⟩] [10, 11])
  (.seq (.reg [
    ⟨(some 12), none, .mov (.c (.t (.bool false)))⟩] [10, 11, 12])
  (.seq (.seq (.reg [
    ⟨(some 13), none, .mov (.c (.t (.int .i64 0)))⟩] [10, 11, 12, 13])
  (.block 0 (.loop [10, 11, 12, 13] B_laws_FnReading_0)))
  (.seq (.reg [
    ⟨(some 103), none, .mov (.s 12)⟩,
    ⟨(some 2), none, .mov (.s 103)⟩] [2])
  (.ret)))))))))))⟩
theorem t_laws_FnReading : tbl 7 = some M_laws_FnReading := tblOf_eq Try.func7 (by kernel_rfl) (by kernel_rfl)

/-- loop.example/g01921/laws.szQuery -/
def M_laws_szQuery : MFun := ⟨2, 12, [.tmp 4],
  .seq (.reg [
    ⟨(some 2), none, .box (.s 0)⟩,
    ⟨(some 4), none, .mov (.c (.t (.int .i64 0)))⟩] [1, 2])
  (.seq (.reg [
    ⟨(some 5), none, .faddr 1 (.s 2)⟩,
    ⟨(some 6), none, .load none (.s 5)⟩,
    ⟨(some 7), none, .mov (.s 1)⟩,
    ⟨(some 8), none, .call 49 [(.s 6), (.s 7)]⟩,
    ⟨(some 1), none, .mov (.s 8)⟩] [1])
  (.seq (.seq (.reg [
    ⟨(some 9), none, .mov (.s 1)⟩,
    ⟨(some 10), none, .bin .lss (.s 9) (.c (.t (.int .i64 0)))⟩] [1, 10])
  (.cond (.s 10)
    (.seq (.reg [
      ⟨(some 4), none, .mov (.c (.t (.int .i64 (-1))))⟩] [4])
    (.ret))
    (.skip)))
  (.seq (.reg [
    ⟨(some 11), none, .mov (.s 1)⟩,
    ⟨(some 4), none, .mov (.s 11)⟩] [4])
  (.ret))))⟩
theorem t_laws_szQuery : tbl 8 = some M_laws_szQuery := tblOf_eq Try.func8 (by kernel_rfl) (by kernel_rfl)

/-- loop.example/g01921/laws.szPlan -/
def M_laws_szPlan : MFun := ⟨2, 12, [.tmp 4],
  .seq (.reg [
    ⟨(some 2), none, .box (.s 0)⟩,
    ⟨(some 4), none, .mov (.c (.t (.int .i64 0)))⟩] [1, 2])
  (.seq (.reg [
    ⟨(some 5), none, .faddr 0 (.s 2)⟩,
    ⟨(some 6), none, .load none (.s 5)⟩,
    ⟨(some 7), none, .mov (.s 1)⟩,
    ⟨(some 8), none, .call 50 [(.s 6), (.s 7)]⟩,
    ⟨(some 1), none, .mov (.s 8)⟩] [1])
  (.seq (.seq (.reg [
    ⟨(some 9), none, .mov (.s 1)⟩,
    ⟨(some 10), none, .bin .lss (.s 9) (.c (.t (.int .i64 0)))⟩] [1, 10])
  (.cond (.s 10)
    (.seq (.reg [
      ⟨(some 4), none, .mov (.c (.t (.int .i64 (-1))))⟩] [4])
    (.ret))
    (.skip)))
  (.seq (.reg [
    ⟨(some 11), none, .mov (.s 1)⟩,
    ⟨(some 4), none, .mov (.s 11)⟩] [4])
  (.ret))))⟩
theorem t_laws_szPlan : tbl 9 = some M_laws_szPlan := tblOf_eq Try.func9 (by kernel_rfl) (by kernel_rfl)

/-- loop.example/g01921/laws.szBox -/
def M_laws_szBox : MFun := ⟨2, 18, [.tmp 4],
  .seq (.reg [
    ⟨(some 2), none, .box (.s 0)⟩,
    ⟨(some 4), none, .mov (.c (.t (.int .i64 0)))⟩] [1, 2])
  (.seq (.reg [
    ⟨(some 5), none, .faddr 0 (.s 2)⟩,
    ⟨(some 6), none, .load none (.s 5)⟩,
    ⟨(some 7), none, .mov (.s 1)⟩,
    ⟨(some 8), none, .call 51 [(.s 6), (.s 7)]⟩,
    ⟨(some 1), none, .mov (.s 8)⟩] [1, 2])
  (.seq (.seq (.reg [
    ⟨(some 9), none, .mov (.s 1)⟩,
    ⟨(some 10), none, .bin .lss (.s 9) (.c (.t (.int .i64 0)))⟩] [1, 2, 10])
  (.cond (.s 10)
    (.seq (.reg [
      ⟨(some 4), none, .mov (.c (.t (.int .i64 (-1))))⟩] [4])
    (.ret))
    (.skip)))
  (.seq (.reg [
    ⟨(some 11), none, .faddr 1 (.s 2)⟩,
    ⟨(some 12), none, .load none (.s 11)⟩,
    ⟨(some 13), none, .mov (.s 1)⟩,
    ⟨(some 14), none, .call 51 [(.s 12), (.s 13)]⟩,
    ⟨(some 1), none, .mov (.s 14)⟩] [1])
  (.seq (.seq (.reg [
    ⟨(some 15), none, .mov (.s 1)⟩,
    ⟨(some 16), none, .bin .lss (.s 15) (.c (.t (.int .i64 0)))⟩] [1, 16])
  (.cond (.s 16)
    (.seq (.reg [
      ⟨(some 4), none, .mov (.c (.t (.int .i64 (-1))))⟩] [4])
    (.ret))
    (.skip)))
  (.seq (.reg [
    ⟨(some 17), none, .mov (.s 1)⟩,
    ⟨(some 4), none, .mov (.s 17)⟩] [4])
  (.ret))))))⟩
theorem t_laws_szBox : tbl 10 = some M_laws_szBox := tblOf_eq Try.func10 (by kernel_rfl) (by kernel_rfl)

/-- loop.example/g01921/spec.SpillTarget -/
def B_spec_SpillTarget_0 : MCode :=
  .seq (.seq (.reg [
    ⟨(some 32), none, .mov (.s 9)⟩,
    ⟨(some 33), none, .mov (.s 7)⟩,
    ⟨(some 34), none, .len false (.s 33)⟩,
    ⟨(some 35), none, .bin .lss (.s 32) (.s 34)⟩] [5, 7, 9, 35])
  (.cond (.s 35)
    (.skip)
    (.exit 0)))
  (.seq (.block 1 (.seq (.drw [
    ⟨(some 38), none, .mov (.s 7)⟩,
    ⟨(some 39), none, .mov (.s 9)⟩,
    ⟨(some 40), none, .iaddr 4 (.s 38) (.s 39)⟩,
    ⟨(some 41), none, .faddr 3 (.s 40)⟩,
    ⟨(some 42), none, .load none (.s 41)⟩,
    ⟨(some 43), none, .bin .geq (.s 42) (.c (.t (.int .i64 0)))⟩,
    ⟨(some 44), none, .mov (.s 43)⟩,
    ⟨(some 45), (some (44, true)), .faddr 0 (.s 5)⟩,
    ⟨(some 46), (some (44, true)), .load none (.s 45)⟩,
    ⟨(some 47), (some (44, true)), .mov (.s 7)⟩,
    ⟨(some 48), (some (44, true)), .mov (.s 9)⟩,
    ⟨(some 49), (some (44, true)), .iaddr 4 (.s 47) (.s 48)⟩,
    ⟨(some 50), (some (44, true)), .faddr 0 (.s 49)⟩,
    ⟨(some 51), (some (44, true)), .load none (.s 50)⟩,
    ⟨(some 52), (some (44, true)), .iaddr 1 (.s 46) (.s 51)⟩,
    ⟨(some 53), (some (44, true)), .load none (.s 52)⟩,
    ⟨(some 54), (some (44, true)), .faddr 1 (.s 5)⟩,
    ⟨(some 55), (some (44, true)), .load none (.s 54)⟩,
    ⟨(some 56), (some (44, true)), .mov (.s 7)⟩,
    ⟨(some 57), (some (44, true)), .mov (.s 9)⟩,
    ⟨(some 58), (some (44, true)), .iaddr 4 (.s 56) (.s 57)⟩,
    ⟨(some 59), (some (44, true)), .faddr 0 (.s 58)⟩,
    ⟨(some 60), (some (44, true)), .load none (.s 59)⟩,
    ⟨(some 61), (some (44, true)), .iaddr 1 (.s 55) (.s 60)⟩,
    ⟨(some 62), (some (44, true)), .load none (.s 61)⟩,
    ⟨(some 63), (some (44, true)), .bin .lss (.s 53) (.s 62)⟩,
    ⟨(some 64), none, .pick (.s 44) (.s 63) (.c (.t (.bool false)))⟩] [[], [], [0, 1], [2], [3], [4], [5], [6], [7, 6], [6], [6], [9, 10, 6], [11, 6], [12, 6], [8, 13, 6], [14, 6], [6], [16, 6], [6], [6], [18, 19, 6], [20, 6], [21, 6], [17, 22, 6], [23, 6], [15, 24, 6], [6, 25]] [5, 7, 9, 64])
  (.cond (.s 64)
    (.seq (.reg [
      ⟨(some 65), none, .mov (.s 7)⟩,
      ⟨(some 66), none, .mov (.s 9)⟩,
      ⟨(some 67), none, .iaddr 4 (.s 65) (.s 66)⟩,
      ⟨(some 68), none, .faddr 0 (.s 67)⟩,
      ⟨(some 69), none, .load none (.s 68)⟩,
      ⟨(some 6), none, .mov (.s 69)⟩] [6])
    (.ret))
    (.skip))))
  (.reg [
    ⟨(some 36), none, .mov (.s 9)⟩,
    ⟨(some 37), none, .bin .add (.s 36) (.c (.t (.int .i64 1)))⟩,
    ⟨(some 9), none, .mov (.s 37)⟩] [5, 7, 9]))

def M_spec_SpillTarget : MFun := ⟨3, 70, [.tmp 6],
  .seq (.reg [
    ⟨(some 3), none, .box (.s 0)⟩,
    ⟨(some 4), none, .box (.s 1)⟩,
    ⟨(some 5), none, .box (.s 2)⟩,
    ⟨(some 6), none, .mov (.c (.t (.int .i64 0)))⟩] [3, 4, 5])
  (.seq (.reg [
    ⟨(some 11), none, .load (some 2) (.s 3)⟩,
    ⟨(some 12), none, .load (some 1) (.s 4)⟩,
    ⟨(some 13), none, .call 52 [(.s 11), (.s 12)]⟩,
    ⟨(some 10), none, .mov (.s 13)⟩,
    ⟨(some 14), none, .ext (.s 10) 0⟩,
    ⟨(some 15), none, .ext (.s 10) 1⟩,
    ⟨(some 7), none, .mov (.s 14)⟩,
    ⟨(some 8), none, .mov (.s 15)⟩] [3, 5, 7, 8])
  (.seq (.seq (.drw [
    ⟨(some 16), none, .mov (.s 8)⟩,
    ⟨(some 17), none, .un .not (.s 16)⟩,
    ⟨(some 18), none, .mov (.s 17)⟩,
    ⟨(some 19), (some (18, false)), .load (some 2) (.s 5)⟩,
    ⟨(some 20), (some (18, false)), .call 53 [(.s 19)]⟩,
    ⟨(some 21), (some (18, false)), .un .not (.s 20)⟩,
    ⟨(some 22), none, .pick (.s 18) (.c (.t (.bool true))) (.s 21)⟩,
    ⟨(some 23), none, .mov (.s 22)⟩,
    ⟨(some 24), (some (23, false)), .faddr 0 (.s 5)⟩,
    ⟨(some 25), (some (23, false)), .load none (.s 24)⟩,
    ⟨(some 26), (some (23, false)), .len false (.s 25)⟩,
    ⟨(some 27), (some (23, false)), .load (some 2) (.s 3)⟩,
    ⟨(some 28), (some (23, false)), .call 54 [(.s 27)]⟩,
    ⟨(some 29), (some (23, false)), .bin .add (.s 28) (.c (.t (.int .i64 1)))⟩,
    ⟨(some 30), (some (23, false)), .bin .neq (.s 26) (.s 29)⟩,
    ⟨(some 31), none, .pick (.s 23) (.c (.t (.bool true))) (.s 30)⟩] [[], [0], [1], [2], [3, 2, 2], [4, 2], [2, 5], [6, 4], [7], [8, 7], [9, 7], [7], [11, 7, 7], [12, 7], [10, 13, 7], [7, 14]] [5, 7, 31])
  (.cond (.s 31)
    (.seq (.reg [
      ⟨(some 6), none, .mov (.c (.t (.int .i64 0)))⟩] [6])
    (.ret))
    (.skip)))
  (.seq (.seq (.reg [
    ⟨(some 9), none, .mov (.c (.t (.int .i64 0)))⟩] [5, 7, 9])
  (.block 0 (.loop [5, 7, 9] B_spec_SpillTarget_0)))
  (.seq (.reg [
    ⟨(some 6), none, .mov (.c (.t (.int .i64 0)))⟩] [6])
  (.ret)))))⟩
theorem t_spec_SpillTarget : tbl 11 = some M_spec_SpillTarget := tblOf_eq Try.func11 (by kernel_rfl) (by kernel_rfl)

/-- loop.example/g01921/laws.toQuery -/
def M_laws_toQuery : MFun := ⟨1, 12, [.cell 2 (some 2)],
  .seq (.reg [
    ⟨(some 1), none, .box (.s 0)⟩,
    ⟨(some 2), none, .alloc [(.t (.int .i64 0)), (.t .nil)]⟩] [1, 2])
  (.seq (.reg [
    ⟨(some 3), none, .alloc [(.t (.int .i64 0)), (.t .nil)]⟩] [1, 2, 3])
  (.seq (.reg [
    ⟨(some 4), none, .faddr 0 (.s 1)⟩,
    ⟨(some 5), none, .load none (.s 4)⟩,
    ⟨(some 6), none, .faddr 0 (.s 3)⟩,
    ⟨none, none, .store 1 (.s 6) (.s 5)⟩] [1, 2, 3])
  (.seq (.reg [
    ⟨(some 7), none, .faddr 1 (.s 1)⟩,
    ⟨(some 8), none, .load none (.s 7)⟩,
    ⟨(some 9), none, .call 55 [(.s 8)]⟩,
    ⟨(some 10), none, .faddr 1 (.s 3)⟩,
    ⟨none, none, .store 1 (.s 10) (.s 9)⟩] [2, 3])
  (.seq (.reg [
    ⟨(some 11), none, .load (some 2) (.s 3)⟩,
    ⟨none, none, .store 2 (.s 2) (.s 11)⟩] [2])
  (.ret)))))⟩
theorem t_laws_toQuery : tbl 12 = some M_laws_toQuery := tblOf_eq Try.func12 (by kernel_rfl) (by kernel_rfl)

/-- loop.example/g01921/laws.toPlan -/
def M_laws_toPlan : MFun := ⟨1, 9, [.cell 2 (some 1)],
  .seq (.reg [
    ⟨(some 1), none, .box (.s 0)⟩,
    ⟨(some 2), none, .alloc [(.t .nil)]⟩] [1, 2])
  (.seq (.reg [
    ⟨(some 3), none, .alloc [(.t .nil)]⟩] [1, 2, 3])
  (.seq (.reg [
    ⟨(some 4), none, .faddr 0 (.s 1)⟩,
    ⟨(some 5), none, .load none (.s 4)⟩,
    ⟨(some 6), none, .call 56 [(.s 5)]⟩,
    ⟨(some 7), none, .faddr 0 (.s 3)⟩,
    ⟨none, none, .store 1 (.s 7) (.s 6)⟩] [2, 3])
  (.seq (.reg [
    ⟨(some 8), none, .load (some 1) (.s 3)⟩,
    ⟨none, none, .store 1 (.s 2) (.s 8)⟩] [2])
  (.ret))))⟩
theorem t_laws_toPlan : tbl 13 = some M_laws_toPlan := tblOf_eq Try.func13 (by kernel_rfl) (by kernel_rfl)

/-- loop.example/g01921/laws.toBox -/
def M_laws_toBox : MFun := ⟨1, 13, [.cell 2 (some 2)],
  .seq (.reg [
    ⟨(some 1), none, .box (.s 0)⟩,
    ⟨(some 2), none, .alloc [(.t .nil), (.t .nil)]⟩] [1, 2])
  (.seq (.reg [
    ⟨(some 3), none, .alloc [(.t .nil), (.t .nil)]⟩] [1, 2, 3])
  (.seq (.reg [
    ⟨(some 4), none, .faddr 0 (.s 1)⟩,
    ⟨(some 5), none, .load none (.s 4)⟩,
    ⟨(some 6), none, .call 57 [(.s 5)]⟩,
    ⟨(some 7), none, .faddr 0 (.s 3)⟩,
    ⟨none, none, .store 1 (.s 7) (.s 6)⟩] [1, 2, 3])
  (.seq (.reg [
    ⟨(some 8), none, .faddr 1 (.s 1)⟩,
    ⟨(some 9), none, .load none (.s 8)⟩,
    ⟨(some 10), none, .call 57 [(.s 9)]⟩,
    ⟨(some 11), none, .faddr 1 (.s 3)⟩,
    ⟨none, none, .store 1 (.s 11) (.s 10)⟩] [2, 3])
  (.seq (.reg [
    ⟨(some 12), none, .load (some 2) (.s 3)⟩,
    ⟨none, none, .store 2 (.s 2) (.s 12)⟩] [2])
  (.ret)))))⟩
theorem t_laws_toBox : tbl 14 = some M_laws_toBox := tblOf_eq Try.func14 (by kernel_rfl) (by kernel_rfl)

/-- loop.example/g01921/impl.SpillTarget -/
def B_impl_SpillTarget_0 : MCode :=
  .seq (.reg [
    ⟨(some 30), none, .bin .lss (.s 29) (.s 28)⟩] [5, 7, 27, 28, 29, 30])
  (.seq (.cond (.s 30)
    (.skip)
    (.exit 0))
  (.seq (.block 1 (.seq (.reg [
    ⟨(some 31), none, .iaddr 1 (.s 27) (.s 29)⟩,
    ⟨(some 32), none, .load none (.s 31)⟩,
    ⟨(some 10), none, .mov (.s 32)⟩] [5, 7, 10, 27, 28, 29])
  (.seq (.reg [
    ⟨(some 33), none, .mov (.s 7)⟩,
    ⟨(some 34), none, .mov (.s 10)⟩,
    ⟨(some 35), none, .iaddr 4 (.s 33) (.s 34)⟩,
    ⟨(some 36), none, .faddr 0 (.s 35)⟩,
    ⟨(some 37), none, .load none (.s 36)⟩,
    ⟨(some 11), none, .mov (.s 37)⟩] [5, 7, 11, 27, 28, 29])
  (.seq (.drw [
    ⟨(some 38), none, .faddr 0 (.s 5)⟩,
    ⟨(some 39), none, .load none (.s 38)⟩,
    ⟨(some 40), none, .mov (.s 11)⟩,
    ⟨(some 41), none, .iaddr 1 (.s 39) (.s 40)⟩,
    ⟨(some 42), none, .load none (.s 41)⟩,
    ⟨(some 43), none, .faddr 1 (.s 5)⟩,
    ⟨(some 44), none, .load none (.s 43)⟩,
    ⟨(some 45), none, .mov (.s 11)⟩,
    ⟨(some 46), none, .iaddr 1 (.s 44) (.s 45)⟩,
    ⟨(some 47), none, .load none (.s 46)⟩,
    ⟨(some 48), none, .bin .lss (.s 42) (.s 47)⟩] [[], [0], [], [1, 2], [3], [], [5], [], [6, 7], [8], [4, 9]] [5, 7, 11, 27, 28, 29, 48])
  (.cond (.s 48)
    (.seq (.reg [
      ⟨(some 49), none, .mov (.s 11)⟩,
      ⟨(some 6), none, .mov (.s 49)⟩] [6])
    (.ret))
    (.skip))))))
  (.reg [
    ⟨(some 50), none, .bin .add (.s 29) (.c (.t (.int .i64 1)))⟩,
    ⟨(some 29), none, .mov (.s 50)⟩] [5, 7, 27, 28, 29])))

def M_impl_SpillTarget : MFun := ⟨3, 51, [.tmp 6],
  .seq (.reg [
    ⟨(some 3), none, .box (.s 0)⟩,
    ⟨(some 4), none, .box (.s 1)⟩,
    ⟨(some 5), none, .box (.s 2)⟩,
    ⟨(some 6), none, .mov (.c (.t (.int .i64 0)))⟩] [3, 4, 5])
  (.seq (.reg [
    ⟨(some 13), none, .load (some 2) (.s 3)⟩,
    ⟨(some 14), none, .load (some 1) (.s 4)⟩,
    ⟨(some 15), none, .call 58 [(.s 13), (.s 14)]⟩,
    ⟨(some 12), none, .mov (.s 15)⟩,
    ⟨(some 16), none, .ext (.s 12) 0⟩,
    ⟨(some 17), none, .ext (.s 12) 1⟩,
    ⟨(some 7), none, .mov (.s 16)⟩,
    ⟨(some 8), none, .mov (.s 17)⟩] [3, 4, 5, 7, 8])
  (.seq (.seq (.reg [
    ⟨(some 18), none, .mov (.s 8)⟩,
    ⟨(some 19), none, .un .not (.s 18)⟩,
    ⟨(some 20), none, .mov (.s 19)⟩,
    ⟨(some 21), (some (20, false)), .load (some 2) (.s 3)⟩,
    ⟨(some 22), (some (20, false)), .load (some 2) (.s 5)⟩,
    ⟨(some 23), (some (20, false)), .call 59 [(.s 21), (.s 22)]⟩,
    ⟨(some 24), (some (20, false)), .un .not (.s 23)⟩,
    ⟨(some 25), none, .pick (.s 20) (.c (.t (.bool true))) (.s 24)⟩] [4, 5, 7, 25])
  (.cond (.s 25)
    (.seq (.reg [
      ⟨(some 6), none, .mov (.c (.t (.int .i64 0)))⟩] [6])
    (.ret))
    (.skip)))
  (.seq (.seq (.reg [
    ⟨(some 26), none, .load (some 1) (.s 4)⟩,
    ⟨(some 27), none, .call 60 [(.s 26)]⟩,
    ⟨(some 28), none, .len false (.s 27)⟩,
    ⟨(some 29), none, .mov (.c (.t (.int .i64 0)))⟩] [5, 7, 27, 28, 29])
  (.block 0 (.loop [5, 7, 27, 28, 29] B_impl_SpillTarget_0)))
  (.seq (.reg [
    ⟨(some 6), none, .mov (.c (.t (.int .i64 0)))⟩] [6])
  (.ret)))))⟩
theorem t_impl_SpillTarget : tbl 15 = some M_impl_SpillTarget := tblOf_eq Try.func15 (by kernel_rfl) (by kernel_rfl)

/-- loop.example/g01921/laws.eqQuery -/
def M_laws_eqQuery : MFun := ⟨2, 16, [.tmp 4],
  .seq (.reg [
    ⟨(some 2), none, .box (.s 0)⟩,
    ⟨(some 3), none, .box (.s 1)⟩,
    ⟨(some 4), none, .mov (.c (.t (.bool false)))⟩] [2, 3])
  (.seq (.seq (.reg [
    ⟨(some 5), none, .faddr 0 (.s 2)⟩,
    ⟨(some 6), none, .load none (.s 5)⟩,
    ⟨(some 7), none, .faddr 0 (.s 3)⟩,
    ⟨(some 8), none, .load none (.s 7)⟩,
    ⟨(some 9), none, .bin .neq (.s 6) (.s 8)⟩] [2, 3, 9])
  (.cond (.s 9)
    (.seq (.reg [
      ⟨(some 4), none, .mov (.c (.t (.bool false)))⟩] [4])
    (.ret))
    (.skip)))
  (.seq (.seq (.reg [
    ⟨(some 10), none, .faddr 1 (.s 2)⟩,
    ⟨(some 11), none, .load none (.s 10)⟩,
    ⟨(some 12), none, .faddr 1 (.s 3)⟩,
    ⟨(some 13), none, .load none (.s 12)⟩,
    ⟨(some 14), none, .call 61 [(.s 11), (.s 13)]⟩,
    ⟨(some 15), none, .un .not (.s 14)⟩] [15])
  (.cond (.s 15)
    (.seq (.reg [
      ⟨(some 4), none, .mov (.c (.t (.bool false)))⟩] [4])
    (.ret))
    (.skip)))
  (.seq (.reg [
    ⟨(some 4), none, .mov (.c (.t (.bool true)))⟩] [4])
  (.ret))))⟩
theorem t_laws_eqQuery : tbl 16 = some M_laws_eqQuery := tblOf_eq Try.func16 (by kernel_rfl) (by kernel_rfl)

/-- loop.example/g01921/laws.eqPlan -/
def M_laws_eqPlan : MFun := ⟨2, 11, [.tmp 4],
  .seq (.reg [
    ⟨(some 2), none, .box (.s 0)⟩,
    ⟨(some 3), none, .box (.s 1)⟩,
    ⟨(some 4), none, .mov (.c (.t (.bool false)))⟩] [2, 3])
  (.seq (.seq (.reg [
    ⟨(some 5), none, .faddr 0 (.s 2)⟩,
    ⟨(some 6), none, .load none (.s 5)⟩,
    ⟨(some 7), none, .faddr 0 (.s 3)⟩,
    ⟨(some 8), none, .load none (.s 7)⟩,
    ⟨(some 9), none, .call 62 [(.s 6), (.s 8)]⟩,
    ⟨(some 10), none, .un .not (.s 9)⟩] [10])
  (.cond (.s 10)
    (.seq (.reg [
      ⟨(some 4), none, .mov (.c (.t (.bool false)))⟩] [4])
    (.ret))
    (.skip)))
  (.seq (.reg [
    ⟨(some 4), none, .mov (.c (.t (.bool true)))⟩] [4])
  (.ret)))⟩
theorem t_laws_eqPlan : tbl 17 = some M_laws_eqPlan := tblOf_eq Try.func17 (by kernel_rfl) (by kernel_rfl)

/-- loop.example/g01921/laws.eqBox -/
def M_laws_eqBox : MFun := ⟨2, 17, [.tmp 4],
  .seq (.reg [
    ⟨(some 2), none, .box (.s 0)⟩,
    ⟨(some 3), none, .box (.s 1)⟩,
    ⟨(some 4), none, .mov (.c (.t (.bool false)))⟩] [2, 3])
  (.seq (.seq (.reg [
    ⟨(some 5), none, .faddr 0 (.s 2)⟩,
    ⟨(some 6), none, .load none (.s 5)⟩,
    ⟨(some 7), none, .faddr 0 (.s 3)⟩,
    ⟨(some 8), none, .load none (.s 7)⟩,
    ⟨(some 9), none, .call 63 [(.s 6), (.s 8)]⟩,
    ⟨(some 10), none, .un .not (.s 9)⟩] [2, 3, 10])
  (.cond (.s 10)
    (.seq (.reg [
      ⟨(some 4), none, .mov (.c (.t (.bool false)))⟩] [4])
    (.ret))
    (.skip)))
  (.seq (.seq (.reg [
    ⟨(some 11), none, .faddr 1 (.s 2)⟩,
    ⟨(some 12), none, .load none (.s 11)⟩,
    ⟨(some 13), none, .faddr 1 (.s 3)⟩,
    ⟨(some 14), none, .load none (.s 13)⟩,
    ⟨(some 15), none, .call 63 [(.s 12), (.s 14)]⟩,
    ⟨(some 16), none, .un .not (.s 15)⟩] [16])
  (.cond (.s 16)
    (.seq (.reg [
      ⟨(some 4), none, .mov (.c (.t (.bool false)))⟩] [4])
    (.ret))
    (.skip)))
  (.seq (.reg [
    ⟨(some 4), none, .mov (.c (.t (.bool true)))⟩] [4])
  (.ret))))⟩
theorem t_laws_eqBox : tbl 18 = some M_laws_eqBox := tblOf_eq Try.func18 (by kernel_rfl) (by kernel_rfl)

/-- loop.example/g01921/spec.SpillPlan -/
def B_spec_SpillPlan_0 : MCode :=
  .seq (.seq (.reg [
    ⟨(some 19), none, .mov (.s 10)⟩,
    ⟨(some 20), none, .mov (.s 8)⟩,
    ⟨(some 21), none, .len false (.s 20)⟩,
    ⟨(some 22), none, .bin .lss (.s 19) (.s 21)⟩,
    ⟨(some 23), none, .mov (.s 22)⟩,
    ⟨(some 24), (some (23, true)), .mov (.s 9)⟩,
    ⟨(some 25), none, .pick (.s 23) (.s 24) (.c (.t (.bool false)))⟩] [2, 3, 4, 6, 8, 9, 10, 25])
  (.cond (.s 25)
    (.skip)
    (.exit 0)))
  (.seq (.block 1 (.seq (.reg [
    ⟨(some 28), none, .mov (.s 8)⟩,
    ⟨(some 29), none, .mov (.s 10)⟩,
    ⟨(some 30), none, .iaddr 4 (.s 28) (.s 29)⟩,
    ⟨(some 31), none, .faddr 3 (.s 30)⟩,
    ⟨(some 32), none, .load none (.s 31)⟩,
    ⟨(some 33), none, .bin .geq (.s 32) (.c (.t (.int .i64 0)))⟩,
    ⟨(some 34), none, .mov (.s 33)⟩,
    ⟨(some 35), (some (34, true)), .mov (.s 8)⟩,
    ⟨(some 36), (some (34, true)), .mov (.s 10)⟩,
    ⟨(some 37), (some (34, true)), .iaddr 4 (.s 35) (.s 36)⟩,
    ⟨(some 38), (some (34, true)), .faddr 0 (.s 37)⟩,
    ⟨(some 39), (some (34, true)), .load none (.s 38)⟩,
    ⟨(some 40), (some (34, true)), .mov (.s 2)⟩,
    ⟨(some 41), (some (34, true)), .bin .eql (.s 39) (.s 40)⟩,
    ⟨(some 42), none, .pick (.s 34) (.s 41) (.c (.t (.bool false)))⟩] [2, 3, 4, 6, 8, 9, 10, 42])
  (.cond (.s 42)
    (.seq (.reg [
      ⟨(some 44), none, .load (some 2) (.s 3)⟩,
      ⟨(some 45), none, .load (some 1) (.s 4)⟩,
      ⟨(some 46), none, .mov (.s 10)⟩,
      ⟨(some 47), none, .call 64 [(.s 44), (.s 45), (.s 46)]⟩,
      ⟨(some 43), none, .mov (.s 47)⟩,
      ⟨(some 48), none, .ext (.s 43) 0⟩,
      ⟨(some 49), none, .ext (.s 43) 1⟩,
      ⟨(some 11), none, .alloc [(.t .nil)]⟩,
      ⟨none, none, .store 1 (.s 11) (.s 48)⟩,
      ⟨(some 12), none, .mov (.s 49)⟩] [6, 11, 12])
    (.seq (.reg [
      ⟨(some 50), none, .load (some 1) (.s 11)⟩,
      ⟨(some 51), none, .mov (.s 12)⟩,
      ⟨none, none, .store 1 (.s 6) (.s 50)⟩,
      ⟨(some 7), none, .mov (.s 51)⟩] [6, 7])
    (.ret)))
    (.skip))))
  (.reg [
    ⟨(some 26), none, .mov (.s 10)⟩,
    ⟨(some 27), none, .bin .add (.s 26) (.c (.t (.int .i64 1)))⟩,
    ⟨(some 10), none, .mov (.s 27)⟩] [2, 3, 4, 6, 8, 9, 10]))

def M_spec_SpillPlan : MFun := ⟨3, 53, [.cell 6 (some 1), .tmp 7],
  .seq (.reg [
    ⟨(some 3), none, .box (.s 0)⟩,
    ⟨(some 4), none, .box (.s 1)⟩,
    ⟨(some 6), none, .alloc [(.t .nil)]⟩,
    ⟨(some 7), none, .mov (.c (.t (.bool false)))⟩] [2, 3, 4, 6])
  (.seq (.reg [
    ⟨(some 14), none, .load (some 2) (.s 3)⟩,
    ⟨(some 15), none, .load (some 1) (.s 4)⟩,
    ⟨(some 16), none, .call 52 [(.s 14), (.s 15)]⟩,
    ⟨(some 13), none, .mov (.s 16)⟩,
    ⟨(some 17), none, .ext (.s 13) 0⟩,
    ⟨(some 18), none, .ext (.s 13) 1⟩,
    ⟨(some 8), none, .mov (.s 17)⟩,
    ⟨(some 9), none, .mov (.s 18)⟩] [2, 3, 4, 6, 8, 9])
  (.seq (.seq (.reg [
    ⟨(some 10), none, .mov (.c (.t (.int .i64 0)))⟩] [2, 3, 4, 6, 8, 9, 10])
  (.block 0 (.loop [2, 3, 4, 6, 8, 9, 10] B_spec_SpillPlan_0)))
  (.seq (.reg [
    ⟨(some 52), none, .build [(.t .nil)] []⟩,
    ⟨none, none, .store 1 (.s 6) (.s 52)⟩,
    ⟨(some 7), none, .mov (.c (.t (.bool false)))⟩] [6, 7])
  (.ret))))⟩
theorem t_spec_SpillPlan : tbl 19 = some M_spec_SpillPlan := tblOf_eq Try.func19 (by kernel_rfl) (by kernel_rfl)

/-- loop.example/g01921/impl.SpillPlan -/
def B_impl_SpillPlan_0 : MCode :=
  .seq (.reg [
    ⟨(some 25), none, .bin .lss (.s 24) (.s 23)⟩] [2, 3, 4, 6, 8, 22, 23, 24, 25])
  (.seq (.cond (.s 25)
    (.skip)
    (.exit 0))
  (.seq (.block 1 (.seq (.reg [
    ⟨(some 26), none, .iaddr 1 (.s 22) (.s 24)⟩,
    ⟨(some 27), none, .load none (.s 26)⟩,
    ⟨(some 11), none, .mov (.s 27)⟩] [2, 3, 4, 6, 8, 11, 22, 23, 24])
  (.seq (.reg [
    ⟨(some 28), none, .mov (.s 8)⟩,
    ⟨(some 29), none, .mov (.s 11)⟩,
    ⟨(some 30), none, .iaddr 4 (.s 28) (.s 29)⟩,
    ⟨(some 31), none, .faddr 0 (.s 30)⟩,
    ⟨(some 32), none, .load none (.s 31)⟩,
    ⟨(some 33), none, .mov (.s 2)⟩,
    ⟨(some 34), none, .bin .eql (.s 32) (.s 33)⟩] [2, 3, 4, 6, 8, 11, 22, 23, 24, 34])
  (.cond (.s 34)
    (.seq (.reg [
      ⟨(some 35), none, .load (some 2) (.s 3)⟩,
      ⟨(some 36), none, .load (some 1) (.s 4)⟩,
      ⟨(some 37), none, .mov (.s 11)⟩,
      ⟨(some 38), none, .call 65 [(.s 35), (.s 36), (.s 37)]⟩,
      ⟨(some 39), none, .ext (.s 38) 0⟩,
      ⟨(some 40), none, .ext (.s 38) 1⟩,
      ⟨none, none, .store 1 (.s 6) (.s 39)⟩,
      ⟨(some 7), none, .mov (.s 40)⟩] [6, 7])
    (.ret))
    (.skip)))))
  (.reg [
    ⟨(some 41), none, .bin .add (.s 24) (.c (.t (.int .i64 1)))⟩,
    ⟨(some 24), none, .mov (.s 41)⟩] [2, 3, 4, 6, 8, 22, 23, 24])))

def M_impl_SpillPlan : MFun := ⟨3, 43, [.cell 6 (some 1), .tmp 7],
  .seq (.reg [
    ⟨(some 3), none, .box (.s 0)⟩,
    ⟨(some 4), none, .box (.s 1)⟩,
    ⟨(some 6), none, .alloc [(.t .nil)]⟩,
    ⟨(some 7), none, .mov (.c (.t (.bool false)))⟩] [2, 3, 4, 6])
  (.seq (.reg [
    ⟨(some 13), none, .load (some 2) (.s 3)⟩,
    ⟨(some 14), none, .load (some 1) (.s 4)⟩,
    ⟨(some 15), none, .call 58 [(.s 13), (.s 14)]⟩,
    ⟨(some 12), none, .mov (.s 15)⟩,
    ⟨(some 16), none, .ext (.s 12) 0⟩,
    ⟨(some 17), none, .ext (.s 12) 1⟩,
    ⟨(some 8), none, .mov (.s 16)⟩,
    ⟨(some 9), none, .mov (.s 17)⟩] [2, 3, 4, 6, 8, 9])
  (.seq (.seq (.reg [
    ⟨(some 18), none, .mov (.s 9)⟩,
    ⟨(some 19), none, .un .not (.s 18)⟩] [2, 3, 4, 6, 8, 19])
  (.cond (.s 19)
    (.seq (.reg [
      ⟨(some 20), none, .build [(.t .nil)] []⟩,
      ⟨none, none, .store 1 (.s 6) (.s 20)⟩,
      ⟨(some 7), none, .mov (.c (.t (.bool false)))⟩] [6, 7])
    (.ret))
    (.skip)))
  (.seq (.seq (.reg [
    ⟨(some 21), none, .load (some 1) (.s 4)⟩,
    ⟨(some 22), none, .call 60 [(.s 21)]⟩,
    ⟨(some 23), none, .len false (.s 22)⟩,
    ⟨(some 24), none, .mov (.c (.t (.int .i64 0)))⟩] [2, 3, 4, 6, 8, 22, 23, 24])
  (.block 0 (.loop [2, 3, 4, 6, 8, 22, 23, 24] B_impl_SpillPlan_0)))
  (.seq (.reg [
    ⟨(some 42), none, .build [(.t .nil)] []⟩,
    ⟨none, none, .store 1 (.s 6) (.s 42)⟩,
    ⟨(some 7), none, .mov (.c (.t (.bool false)))⟩] [6, 7])
  (.ret)))))⟩
theorem t_impl_SpillPlan : tbl 20 = some M_impl_SpillPlan := tblOf_eq Try.func20 (by kernel_rfl) (by kernel_rfl)

/-- loop.example/g01921/laws.markQuery -/
def M_laws_markQuery : MFun := ⟨2, 10, [.tmp 4],
  .seq (.reg [
    ⟨(some 2), none, .box (.s 0)⟩,
    ⟨(some 4), none, .mov (.c (.t (.int .i64 0)))⟩] [1, 2])
  (.seq (.reg [
    ⟨(some 5), none, .faddr 1 (.s 2)⟩,
    ⟨(some 6), none, .load none (.s 5)⟩,
    ⟨(some 7), none, .mov (.s 1)⟩,
    ⟨(some 8), none, .icall 66 [(.s 6), (.s 7)]⟩,
    ⟨(some 1), none, .mov (.s 8)⟩] [1])
  (.seq (.reg [
    ⟨(some 9), none, .mov (.s 1)⟩,
    ⟨(some 4), none, .mov (.s 9)⟩] [4])
  (.ret)))⟩
theorem t_laws_markQuery : tbl 21 = some M_laws_markQuery := tblOf_eq Try.func21 (by kernel_rfl) (by kernel_rfl)

/-- loop.example/g01921/laws.markPlan -/
def M_laws_markPlan : MFun := ⟨2, 10, [.tmp 4],
  .seq (.reg [
    ⟨(some 2), none, .box (.s 0)⟩,
    ⟨(some 4), none, .mov (.c (.t (.int .i64 0)))⟩] [1, 2])
  (.seq (.reg [
    ⟨(some 5), none, .faddr 0 (.s 2)⟩,
    ⟨(some 6), none, .load none (.s 5)⟩,
    ⟨(some 7), none, .mov (.s 1)⟩,
    ⟨(some 8), none, .icall 67 [(.s 6), (.s 7)]⟩,
    ⟨(some 1), none, .mov (.s 8)⟩] [1])
  (.seq (.reg [
    ⟨(some 9), none, .mov (.s 1)⟩,
    ⟨(some 4), none, .mov (.s 9)⟩] [4])
  (.ret)))⟩
theorem t_laws_markPlan : tbl 22 = some M_laws_markPlan := tblOf_eq Try.func22 (by kernel_rfl) (by kernel_rfl)

/-- loop.example/g01921/laws.heldPlan -/
def M_laws_heldPlan : MFun := ⟨2, 12, [.tmp 4],
  .seq (.reg [
    ⟨(some 2), none, .box (.s 0)⟩,
    ⟨(some 4), none, .mov (.c (.t (.int .i64 0)))⟩] [1, 2])
  (.seq (.reg [
    ⟨(some 5), none, .faddr 0 (.s 2)⟩,
    ⟨(some 6), none, .load none (.s 5)⟩,
    ⟨(some 7), none, .mov (.s 1)⟩,
    ⟨(some 8), none, .call 68 [(.s 6), (.s 7)]⟩,
    ⟨(some 1), none, .mov (.s 8)⟩] [1])
  (.seq (.seq (.reg [
    ⟨(some 9), none, .mov (.s 1)⟩,
    ⟨(some 10), none, .bin .lss (.s 9) (.c (.t (.int .i64 0)))⟩] [1, 10])
  (.cond (.s 10)
    (.seq (.reg [
      ⟨(some 4), none, .mov (.c (.t (.int .i64 (-1))))⟩] [4])
    (.ret))
    (.skip)))
  (.seq (.reg [
    ⟨(some 11), none, .mov (.s 1)⟩,
    ⟨(some 4), none, .mov (.s 11)⟩] [4])
  (.ret))))⟩
theorem t_laws_heldPlan : tbl 23 = some M_laws_heldPlan := tblOf_eq Try.func23 (by kernel_rfl) (by kernel_rfl)

/-- loop.example/g01921/laws.szRegion -/
def M_laws_szRegion : MFun := ⟨2, 18, [.tmp 4],
  .seq (.reg [
    ⟨(some 2), none, .box (.s 0)⟩,
    ⟨(some 4), none, .mov (.c (.t (.int .i64 0)))⟩] [1, 2])
  (.seq (.reg [
    ⟨(some 5), none, .faddr 0 (.s 2)⟩,
    ⟨(some 6), none, .load (some 1) (.s 5)⟩,
    ⟨(some 7), none, .mov (.s 1)⟩,
    ⟨(some 8), none, .call 9 [(.s 6), (.s 7)]⟩,
    ⟨(some 1), none, .mov (.s 8)⟩] [1, 2])
  (.seq (.seq (.reg [
    ⟨(some 9), none, .mov (.s 1)⟩,
    ⟨(some 10), none, .bin .lss (.s 9) (.c (.t (.int .i64 0)))⟩] [1, 2, 10])
  (.cond (.s 10)
    (.seq (.reg [
      ⟨(some 4), none, .mov (.c (.t (.int .i64 (-1))))⟩] [4])
    (.ret))
    (.skip)))
  (.seq (.reg [
    ⟨(some 11), none, .faddr 1 (.s 2)⟩,
    ⟨(some 12), none, .load (some 2) (.s 11)⟩,
    ⟨(some 13), none, .mov (.s 1)⟩,
    ⟨(some 14), none, .call 10 [(.s 12), (.s 13)]⟩,
    ⟨(some 1), none, .mov (.s 14)⟩] [1])
  (.seq (.seq (.reg [
    ⟨(some 15), none, .mov (.s 1)⟩,
    ⟨(some 16), none, .bin .lss (.s 15) (.c (.t (.int .i64 0)))⟩] [1, 16])
  (.cond (.s 16)
    (.seq (.reg [
      ⟨(some 4), none, .mov (.c (.t (.int .i64 (-1))))⟩] [4])
    (.ret))
    (.skip)))
  (.seq (.reg [
    ⟨(some 17), none, .mov (.s 1)⟩,
    ⟨(some 4), none, .mov (.s 17)⟩] [4])
  (.ret))))))⟩
theorem t_laws_szRegion : tbl 24 = some M_laws_szRegion := tblOf_eq Try.func24 (by kernel_rfl) (by kernel_rfl)

/-- loop.example/g01921/spec.IsValidRegion -/
def M_spec_IsValidRegion : MFun := ⟨2, 37, [.tmp 4],
  .seq (.reg [
    ⟨(some 2), none, .box (.s 0)⟩,
    ⟨(some 3), none, .box (.s 1)⟩,
    ⟨(some 4), none, .mov (.c (.t (.bool false)))⟩] [2, 3])
  (.seq (.drw [
    ⟨(some 5), none, .faddr 1 (.s 3)⟩,
    ⟨(some 6), none, .load (some 2) (.s 5)⟩,
    ⟨(some 7), none, .call 53 [(.s 6)]⟩,
    ⟨(some 8), none, .mov (.s 7)⟩,
    ⟨(some 9), (some (8, true)), .faddr 1 (.s 3)⟩,
    ⟨(some 10), (some (8, true)), .faddr 0 (.s 9)⟩,
    ⟨(some 11), (some (8, true)), .load none (.s 10)⟩,
    ⟨(some 12), (some (8, true)), .len false (.s 11)⟩,
    ⟨(some 13), (some (8, true)), .load (some 2) (.s 2)⟩,
    ⟨(some 14), (some (8, true)), .call 54 [(.s 13)]⟩,
    ⟨(some 15), (some (8, true)), .bin .add (.s 14) (.c (.t (.int .i64 1)))⟩,
    ⟨(some 16), (some (8, true)), .bin .eql (.s 12) (.s 15)⟩,
    ⟨(some 17), none, .pick (.s 8) (.s 16) (.c (.t (.bool false)))⟩,
    ⟨(some 18), none, .mov (.s 17)⟩,
    ⟨(some 19), (some (18, true)), .load (some 2) (.s 2)⟩,
    ⟨(some 20), (some (18, true)), .faddr 0 (.s 3)⟩,
    ⟨(some 21), (some (18, true)), .load (some 1) (.s 20)⟩,
    ⟨(some 22), (some (18, true)), .call 69 [(.s 19), (.s 21)]⟩,
    ⟨(some 23), (some (18, true)), .load (some 2) (.s 2)⟩,
    ⟨(some 24), (some (18, true)), .call 54 [(.s 23)]⟩,
    ⟨(some 25), (some (18, true)), .bin .eql (.s 22) (.s 24)⟩,
    ⟨(some 26), none, .pick (.s 18) (.s 25) (.c (.t (.bool false)))⟩,
    ⟨(some 27), none, .mov (.s 26)⟩,
    ⟨(some 28), (some (27, true)), .load (some 2) (.s 2)⟩,
    ⟨(some 29), (some (27, true)), .call 54 [(.s 28)]⟩,
    ⟨(some 30), (some (27, true)), .bin .gtr (.s 29) (.c (.t (.int .i64 0)))⟩,
    ⟨(some 31), none, .pick (.s 27) (.s 30) (.c (.t (.bool false)))⟩,
    ⟨(some 32), none, .mov (.s 31)⟩,
    ⟨(some 33), (some (32, true)), .faddr 3 (.s 3)⟩,
    ⟨(some 34), (some (32, true)), .load none (.s 33)⟩,
    ⟨(some 35), (some (32, true)), .call 70 [(.s 34), (.c (.t (.int .i64 100))), (.c (.t (.int .i64 1000)))]⟩,
    ⟨(some 36), none, .pick (.s 32) (.s 35) (.c (.t (.bool false)))⟩,
    ⟨(some 4), none, .mov (.s 36)⟩] [[], [0], [1], [2, 2], [3], [4, 3], [5, 3], [6, 3], [3], [8, 3, 3], [9, 3], [7, 10, 3], [3, 11], [12, 9], [13], [13], [15, 13], [14, 16, 13, 13], [13], [18, 17, 13], [17, 19, 13], [13, 20], [21, 19], [22], [23, 22, 22], [24, 22], [22, 25], [26, 24], [27], [28, 27], [29, 27, 27], [27, 30], [31, 30, 0, 1, 2, 3, 4, 5, 6, 7, 8, 9, 10, 11, 12, 13, 14, 15, 16, 17, 18, 19, 20, 21, 22, 23, 24, 25, 26, 27, 28, 29, 30, 31]] [4])
  (.ret))⟩
theorem t_spec_IsValidRegion : tbl 25 = some M_spec_IsValidRegion := tblOf_eq Try.func25 (by kernel_rfl) (by kernel_rfl)

/-- loop.example/g01921/laws.toRegion -/
def M_laws_toRegion : MFun := ⟨1, 16, [.cell 2 (some 4)],
  .seq (.reg [
    ⟨(some 1), none, .box (.s 0)⟩,
    ⟨(some 2), none, .alloc [(.t .nil), (.t .nil), (.t .nil), (.t (.int .i64 0))]⟩] [1, 2])
  (.seq (.reg [
    ⟨(some 3), none, .alloc [(.t .nil), (.t .nil), (.t .nil), (.t (.int .i64 0))]⟩] [1, 2, 3])
  (.seq (.reg [
    ⟨(some 4), none, .faddr 0 (.s 1)⟩,
    ⟨(some 5), none, .load (some 1) (.s 4)⟩,
    ⟨(some 6), none, .call 13 [(.s 5)]⟩,
    ⟨(some 7), none, .faddr 0 (.s 3)⟩,
    ⟨none, none, .store 1 (.s 7) (.s 6)⟩] [1, 2, 3])
  (.seq (.reg [
    ⟨(some 8), none, .faddr 1 (.s 1)⟩,
    ⟨(some 9), none, .load (some 2) (.s 8)⟩,
    ⟨(some 10), none, .call 14 [(.s 9)]⟩,
    ⟨(some 11), none, .faddr 1 (.s 3)⟩,
    ⟨none, none, .store 2 (.s 11) (.s 10)⟩] [1, 2, 3])
  (.seq (.reg [
    ⟨(some 12), none, .faddr 3 (.s 1)⟩,
    ⟨(some 13), none, .load none (.s 12)⟩,
    ⟨(some 14), none, .faddr 3 (.s 3)⟩,
    ⟨none, none, .store 1 (.s 14) (.s 13)⟩] [2, 3])
  (.seq (.reg [
    ⟨(some 15), none, .load (some 4) (.s 3)⟩,
    ⟨none, none, .store 4 (.s 2) (.s 15)⟩] [2])
  (.ret))))))⟩
theorem t_laws_toRegion : tbl 26 = some M_laws_toRegion := tblOf_eq Try.func26 (by kernel_rfl) (by kernel_rfl)

/-- loop.example/g01921/impl.IsValidRegion -/
def M_impl_IsValidRegion : MFun := ⟨2, 27, [.tmp 4],
  .seq (.reg [
    ⟨(some 2), none, .box (.s 0)⟩,
    ⟨(some 3), none, .box (.s 1)⟩,
    ⟨(some 4), none, .mov (.c (.t (.bool false)))⟩] [2, 3])
  (.seq (.drw [
    ⟨(some 5), none, .load (some 2) (.s 2)⟩,
    ⟨(some 6), none, .call 71 [(.s 5)]⟩,
    ⟨(some 7), none, .mov (.s 6)⟩,
    ⟨(some 8), (some (7, true)), .load (some 2) (.s 2)⟩,
    ⟨(some 9), (some (7, true)), .faddr 1 (.s 3)⟩,
    ⟨(some 10), (some (7, true)), .load (some 2) (.s 9)⟩,
    ⟨(some 11), (some (7, true)), .call 59 [(.s 8), (.s 10)]⟩,
    ⟨(some 12), none, .pick (.s 7) (.s 11) (.c (.t (.bool false)))⟩,
    ⟨(some 13), none, .mov (.s 12)⟩,
    ⟨(some 14), (some (13, true)), .load (some 2) (.s 2)⟩,
    ⟨(some 15), (some (13, true)), .faddr 0 (.s 3)⟩,
    ⟨(some 16), (some (13, true)), .load (some 1) (.s 15)⟩,
    ⟨(some 17), (some (13, true)), .call 72 [(.s 14), (.s 16)]⟩,
    ⟨(some 18), (some (13, true)), .load (some 2) (.s 2)⟩,
    ⟨(some 19), (some (13, true)), .call 73 [(.s 18)]⟩,
    ⟨(some 20), (some (13, true)), .bin .eql (.s 17) (.s 19)⟩,
    ⟨(some 21), none, .pick (.s 13) (.s 20) (.c (.t (.bool false)))⟩,
    ⟨(some 22), none, .mov (.s 21)⟩,
    ⟨(some 23), (some (22, true)), .faddr 3 (.s 3)⟩,
    ⟨(some 24), (some (22, true)), .load none (.s 23)⟩,
    ⟨(some 25), (some (22, true)), .call 74 [(.s 24), (.c (.t (.int .i64 100))), (.c (.t (.int .i64 1000)))]⟩,
    ⟨(some 26), none, .pick (.s 22) (.s 25) (.c (.t (.bool false)))⟩,
    ⟨(some 4), none, .mov (.s 26)⟩] [[], [0], [1, 1], [2], [2], [4, 2], [3, 5, 2, 2], [2, 6], [7, 6], [8], [8], [10, 8], [9, 11, 8, 8], [8], [13, 12, 8], [12, 14, 8], [8, 15], [16, 14], [17], [18, 17], [19, 17, 17], [17, 20], [21, 20, 0, 1, 2, 3, 4, 5, 6, 7, 8, 9, 10, 11, 12, 13, 14, 15, 16, 17, 18, 19, 20, 21]] [4])
  (.ret))⟩
theorem t_impl_IsValidRegion : tbl 27 = some M_impl_IsValidRegion := tblOf_eq Try.func27 (by kernel_rfl) (by kernel_rfl)

/-- loop.example/g01921/laws.eqRegion -/
def M_laws_eqRegion : MFun := ⟨2, 22, [.tmp 4],
  .seq (.reg [
    ⟨(some 2), none, .box (.s 0)⟩,
    ⟨(some 3), none, .box (.s 1)⟩,
    ⟨(some 4), none, .mov (.c (.t (.bool false)))⟩] [2, 3])
  (.seq (.seq (.reg [
    ⟨(some 5), none, .faddr 0 (.s 2)⟩,
    ⟨(some 6), none, .load (some 1) (.s 5)⟩,
    ⟨(some 7), none, .faddr 0 (.s 3)⟩,
    ⟨(some 8), none, .load (some 1) (.s 7)⟩,
    ⟨(some 9), none, .call 17 [(.s 6), (.s 8)]⟩,
    ⟨(some 10), none, .un .not (.s 9)⟩] [2, 3, 10])
  (.cond (.s 10)
    (.seq (.reg [
      ⟨(some 4), none, .mov (.c (.t (.bool false)))⟩] [4])
    (.ret))
    (.skip)))
  (.seq (.seq (.reg [
    ⟨(some 11), none, .faddr 1 (.s 2)⟩,
    ⟨(some 12), none, .load (some 2) (.s 11)⟩,
    ⟨(some 13), none, .faddr 1 (.s 3)⟩,
    ⟨(some 14), none, .load (some 2) (.s 13)⟩,
    ⟨(some 15), none, .call 18 [(.s 12), (.s 14)]⟩,
    ⟨(some 16), none, .un .not (.s 15)⟩] [2, 3, 16])
  (.cond (.s 16)
    (.seq (.reg [
      ⟨(some 4), none, .mov (.c (.t (.bool false)))⟩] [4])
    (.ret))
    (.skip)))
  (.seq (.seq (.reg [
    ⟨(some 17), none, .faddr 3 (.s 2)⟩,
    ⟨(some 18), none, .load none (.s 17)⟩,
    ⟨(some 19), none, .faddr 3 (.s 3)⟩,
    ⟨(some 20), none, .load none (.s 19)⟩,
    ⟨(some 21), none, .bin .neq (.s 18) (.s 20)⟩] [21])
  (.cond (.s 21)
    (.seq (.reg [
      ⟨(some 4), none, .mov (.c (.t (.bool false)))⟩] [4])
    (.ret))
    (.skip)))
  (.seq (.reg [
    ⟨(some 4), none, .mov (.c (.t (.bool true)))⟩] [4])
  (.ret)))))⟩
theorem t_laws_eqRegion : tbl 28 = some M_laws_eqRegion := tblOf_eq Try.func28 (by kernel_rfl) (by kernel_rfl)

/-- loop.example/g01921/laws.szBouquet -/
def M_laws_szBouquet : MFun := ⟨2, 30, [.tmp 4],
  .seq (.reg [
    ⟨(some 2), none, .box (.s 0)⟩,
    ⟨(some 4), none, .mov (.c (.t (.int .i64 0)))⟩] [1, 2])
  (.seq (.reg [
    ⟨(some 5), none, .faddr 3 (.s 2)⟩,
    ⟨(some 6), none, .load (some 2) (.s 5)⟩,
    ⟨(some 7), none, .mov (.s 1)⟩,
    ⟨(some 8), none, .call 10 [(.s 6), (.s 7)]⟩,
    ⟨(some 1), none, .mov (.s 8)⟩] [1, 2])
  (.seq (.seq (.reg [
    ⟨(some 9), none, .mov (.s 1)⟩,
    ⟨(some 10), none, .bin .lss (.s 9) (.c (.t (.int .i64 0)))⟩] [1, 2, 10])
  (.cond (.s 10)
    (.seq (.reg [
      ⟨(some 4), none, .mov (.c (.t (.int .i64 (-1))))⟩] [4])
    (.ret))
    (.skip)))
  (.seq (.reg [
    ⟨(some 11), none, .faddr 5 (.s 2)⟩,
    ⟨(some 12), none, .load none (.s 11)⟩,
    ⟨(some 13), none, .mov (.s 1)⟩,
    ⟨(some 14), none, .call 51 [(.s 12), (.s 13)]⟩,
    ⟨(some 1), none, .mov (.s 14)⟩] [1, 2])
  (.seq (.seq (.reg [
    ⟨(some 15), none, .mov (.s 1)⟩,
    ⟨(some 16), none, .bin .lss (.s 15) (.c (.t (.int .i64 0)))⟩] [1, 2, 16])
  (.cond (.s 16)
    (.seq (.reg [
      ⟨(some 4), none, .mov (.c (.t (.int .i64 (-1))))⟩] [4])
    (.ret))
    (.skip)))
  (.seq (.reg [
    ⟨(some 17), none, .faddr 6 (.s 2)⟩,
    ⟨(some 18), none, .load none (.s 17)⟩,
    ⟨(some 19), none, .mov (.s 1)⟩,
    ⟨(some 20), none, .call 75 [(.s 18), (.s 19)]⟩,
    ⟨(some 1), none, .mov (.s 20)⟩] [1, 2])
  (.seq (.seq (.reg [
    ⟨(some 21), none, .mov (.s 1)⟩,
    ⟨(some 22), none, .bin .lss (.s 21) (.c (.t (.int .i64 0)))⟩] [1, 2, 22])
  (.cond (.s 22)
    (.seq (.reg [
      ⟨(some 4), none, .mov (.c (.t (.int .i64 (-1))))⟩] [4])
    (.ret))
    (.skip)))
  (.seq (.reg [
    ⟨(some 23), none, .faddr 7 (.s 2)⟩,
    ⟨(some 24), none, .load none (.s 23)⟩,
    ⟨(some 25), none, .mov (.s 1)⟩,
    ⟨(some 26), none, .call 76 [(.s 24), (.s 25)]⟩,
    ⟨(some 1), none, .mov (.s 26)⟩] [1])
  (.seq (.seq (.reg [
    ⟨(some 27), none, .mov (.s 1)⟩,
    ⟨(some 28), none, .bin .lss (.s 27) (.c (.t (.int .i64 0)))⟩] [1, 28])
  (.cond (.s 28)
    (.seq (.reg [
      ⟨(some 4), none, .mov (.c (.t (.int .i64 (-1))))⟩] [4])
    (.ret))
    (.skip)))
  (.seq (.reg [
    ⟨(some 29), none, .mov (.s 1)⟩,
    ⟨(some 4), none, .mov (.s 29)⟩] [4])
  (.ret))))))))))⟩
theorem t_laws_szBouquet : tbl 29 = some M_laws_szBouquet := tblOf_eq Try.func29 (by kernel_rfl) (by kernel_rfl)

/-- loop.example/g01921/laws.szRunNoteS -/
def M_laws_szRunNoteS : MFun := ⟨2, 12, [.tmp 4],
  .seq (.reg [
    ⟨(some 4), none, .mov (.c (.t (.int .i64 0)))⟩] [0, 1])
  (.seq (.reg [
    ⟨(some 5), none, .mov (.s 1)⟩,
    ⟨(some 6), none, .mov (.s 0)⟩,
    ⟨(some 7), none, .len false (.s 6)⟩,
    ⟨(some 8), none, .bin .sub (.s 5) (.s 7)⟩,
    ⟨(some 1), none, .mov (.s 8)⟩] [1])
  (.seq (.seq (.reg [
    ⟨(some 9), none, .mov (.s 1)⟩,
    ⟨(some 10), none, .bin .lss (.s 9) (.c (.t (.int .i64 0)))⟩] [1, 10])
  (.cond (.s 10)
    (.seq (.reg [
      ⟨(some 4), none, .mov (.c (.t (.int .i64 (-1))))⟩] [4])
    (.ret))
    (.skip)))
  (.seq (.reg [
    ⟨(some 11), none, .mov (.s 1)⟩,
    ⟨(some 4), none, .mov (.s 11)⟩] [4])
  (.ret))))⟩
theorem t_laws_szRunNoteS : tbl 30 = some M_laws_szRunNoteS := tblOf_eq Try.func30 (by kernel_rfl) (by kernel_rfl)

/-- loop.example/g01921/spec.AreOrderedNotes -/
def B_spec_AreOrderedNotes_0 : MCode :=
  .seq (.seq (.reg [
    ⟨(some 15), none, .mov (.s 9)⟩,
    ⟨(some 16), none, .mov (.s 2)⟩,
    ⟨(some 17), none, .len false (.s 16)⟩,
    ⟨(some 18), none, .bin .lss (.s 15) (.s 17)⟩] [2, 4, 7, 8, 9, 18])
  (.cond (.s 18)
    (.skip)
    (.exit 0)))
  (.seq (.block 1 (.seq (.seq (.drw [
    ⟨(some 21), none, .mov (.s 2)⟩,
    ⟨(some 22), none, .mov (.s 9)⟩,
    ⟨(some 23), none, .iaddr 5 (.s 21) (.s 22)⟩,
    ⟨(some 24), none, .faddr 0 (.s 23)⟩,
    ⟨(some 25), none, .load none (.s 24)⟩,
    ⟨(some 26), none, .mov (.s 7)⟩,
    ⟨(some 27), none, .faddr 5 (.s 4)⟩,
    ⟨(some 28), none, .load none (.s 27)⟩,
    ⟨(some 29), none, .len false (.s 28)⟩,
    ⟨(some 30), none, .bin .sub (.s 29) (.c (.t (.int .i64 1)))⟩,
    ⟨(some 31), none, .call 70 [(.s 25), (.s 26), (.s 30)]⟩,
    ⟨(some 32), none, .un .not (.s 31)⟩,
    ⟨(some 33), none, .mov (.s 32)⟩,
    ⟨(some 34), (some (33, false)), .mov (.s 2)⟩,
    ⟨(some 35), (some (33, false)), .mov (.s 9)⟩,
    ⟨(some 36), (some (33, false)), .iaddr 5 (.s 34) (.s 35)⟩,
    ⟨(some 37), (some (33, false)), .faddr 2 (.s 36)⟩,
    ⟨(some 38), (some (33, false)), .load none (.s 37)⟩,
    ⟨(some 39), (some (33, false)), .faddr 5 (.s 4)⟩,
    ⟨(some 40), (some (33, false)), .load none (.s 39)⟩,
    ⟨(some 41), (some (33, false)), .mov (.s 2)⟩,
    ⟨(some 42), (some (33, false)), .mov (.s 9)⟩,
    ⟨(some 43), (some (33, false)), .iaddr 5 (.s 41) (.s 42)⟩,
    ⟨(some 44), (some (33, false)), .faddr 0 (.s 43)⟩,
    ⟨(some 45), (some (33, false)), .load none (.s 44)⟩,
    ⟨(some 46), (some (33, false)), .iaddr 1 (.s 40) (.s 45)⟩,
    ⟨(some 47), (some (33, false)), .load none (.s 46)⟩,
    ⟨(some 48), (some (33, false)), .faddr 2 (.s 4)⟩,
    ⟨(some 49), (some (33, false)), .load none (.s 48)⟩,
    ⟨(some 50), (some (33, false)), .call 78 [(.s 47), (.s 49)]⟩,
    ⟨(some 51), (some (33, false)), .bin .neq (.s 38) (.s 50)⟩,
    ⟨(some 52), none, .pick (.s 33) (.c (.t (.bool true))) (.s 51)⟩,
    ⟨(some 53), none, .mov (.s 52)⟩,
    ⟨(some 54), (some (53, false)), .mov (.s 2)⟩,
    ⟨(some 55), (some (53, false)), .mov (.s 9)⟩,
    ⟨(some 56), (some (53, false)), .iaddr 5 (.s 54) (.s 55)⟩,
    ⟨(some 57), (some (53, false)), .faddr 4 (.s 56)⟩,
    ⟨(some 58), (some (53, false)), .load none (.s 57)⟩,
    ⟨(some 59), (some (53, false)), .mov (.s 9)⟩,
    ⟨(some 60), (some (53, false)), .mov (.s 2)⟩,
    ⟨(some 61), (some (53, false)), .len false (.s 60)⟩,
    ⟨(some 62), (some (53, false)), .bin .sub (.s 61) (.c (.t (.int .i64 1)))⟩,
    ⟨(some 63), (some (53, false)), .bin .eql (.s 59) (.s 62)⟩,
    ⟨(some 64), (some (53, false)), .beq true (.s 58) (.s 63)⟩,
    ⟨(some 65), none, .pick (.s 53) (.c (.t (.bool true))) (.s 64)⟩] [[], [], [0, 1], [2], [3], [], [], [6], [7], [8], [4, 5, 9], [10], [11, 10], [12], [12], [13, 14, 12], [15, 12], [16, 12], [12], [18, 12], [12], [12], [20, 21, 12], [22, 12], [23, 12], [19, 24, 12], [25, 12], [12], [27, 12], [26, 28, 12, 12], [17, 29, 12], [12, 30], [31, 29], [32], [32], [33, 34, 32], [35, 32], [36, 32], [32], [32], [39, 32], [40, 32], [38, 41, 32], [37, 42, 32], [32, 43]] [2, 4, 7, 8, 9, 65])
  (.cond (.s 65)
    (.seq (.reg [
      ⟨(some 6), none, .mov (.c (.t (.bool false)))⟩] [6])
    (.ret))
    (.skip)))
  (.seq (.drw [
    ⟨(some 66), none, .faddr 7 (.s 4)⟩,
    ⟨(some 67), none, .load none (.s 66)⟩,
    ⟨(some 68), none, .mov (.s 2)⟩,
    ⟨(some 69), none, .mov (.s 9)⟩,
    ⟨(some 70), none, .iaddr 5 (.s 68) (.s 69)⟩,
    ⟨(some 71), none, .faddr 0 (.s 70)⟩,
    ⟨(some 72), none, .load none (.s 71)⟩,
    ⟨(some 73), none, .iaddr 1 (.s 67) (.s 72)⟩,
    ⟨(some 74), none, .load none (.s 73)⟩,
    ⟨(some 75), none, .mov (.s 2)⟩,
    ⟨(some 76), none, .mov (.s 9)⟩,
    ⟨(some 77), none, .iaddr 5 (.s 75) (.s 76)⟩,
    ⟨(some 78), none, .faddr 1 (.s 77)⟩,
    ⟨(some 79), none, .load none (.s 78)⟩,
    ⟨(some 80), none, .call 79 [(.s 74), (.s 79)]⟩,
    ⟨(some 10), none, .mov (.s 80)⟩] [[], [0], [], [], [2, 3], [4], [5], [1, 6], [7], [], [], [9, 10], [11], [12], [8, 13], [14, 14, 0, 1, 2, 3, 4, 5, 6, 7, 8, 9, 10, 11, 12, 13, 14]] [2, 4, 7, 8, 9, 10])
  (.seq (.seq (.reg [
    ⟨(some 81), none, .mov (.s 10)⟩,
    ⟨(some 82), none, .bin .lss (.s 81) (.c (.t (.int .i64 0)))⟩,
    ⟨(some 83), none, .mov (.s 82)⟩,
    ⟨(some 84), (some (83, false)), .mov (.s 2)⟩,
    ⟨(some 85), (some (83, false)), .mov (.s 9)⟩,
    ⟨(some 86), (some (83, false)), .iaddr 5 (.s 84) (.s 85)⟩,
    ⟨(some 87), (some (83, false)), .faddr 0 (.s 86)⟩,
    ⟨(some 88), (some (83, false)), .load none (.s 87)⟩,
    ⟨(some 89), (some (83, false)), .mov (.s 7)⟩,
    ⟨(some 90), (some (83, false)), .bin .eql (.s 88) (.s 89)⟩,
    ⟨(some 91), (some (83, false)), .mov (.s 90)⟩,
    ⟨(some 92), (some (91, true)), .mov (.s 10)⟩,
    ⟨(some 93), (some (91, true)), .mov (.s 8)⟩,
    ⟨(some 94), (some (91, true)), .bin .leq (.s 92) (.s 93)⟩,
    ⟨(some 95), (some (83, false)), .pick (.s 91) (.s 94) (.c (.t (.bool false)))⟩,
    ⟨(some 96), none, .pick (.s 83) (.c (.t (.bool true))) (.s 95)⟩] [2, 4, 9, 10, 96])
  (.cond (.s 96)
    (.seq (.reg [
      ⟨(some 6), none, .mov (.c (.t (.bool false)))⟩] [6])
    (.ret))
    (.skip)))
  (.seq (.reg [
    ⟨(some 97), none, .mov (.s 2)⟩,
    ⟨(some 98), none, .mov (.s 9)⟩,
    ⟨(some 99), none, .iaddr 5 (.s 97) (.s 98)⟩,
    ⟨(some 100), none, .faddr 0 (.s 99)⟩,
    ⟨(some 101), none, .load none (.s 100)⟩,
    ⟨(some 7), none, .mov (.s 101)⟩] [2, 4, 7, 9, 10])
  (.reg [
    ⟨(some 102), none, .mov (.s 10)⟩,
    ⟨(some 8), none, .mov (.s 102)⟩] [2, 4, 7, 8, 9]))))))
  (.reg [
    ⟨(some 19), none, .mov (.s 9)⟩,
    ⟨(some 20), none, .bin .add (.s 19) (.c (.t (.int .i64 1)))⟩,
    ⟨(some 9), none, .mov (.s 20)⟩] [2, 4, 7, 8, 9]))

def M_spec_AreOrderedNotes : MFun := ⟨3, 106, [.tmp 6],
  .seq (.reg [
    ⟨(some 3), none, .box (.s 0)⟩,
    ⟨(some 4), none, .box (.s 1)⟩,
    ⟨(some 6), none, .mov (.c (.t (.bool false)))⟩] [2, 3, 4])
  (.seq (.seq (.reg [
    ⟨(some 11), none, .load (some 2) (.s 3)⟩,
    ⟨(some 12), none, .load (some 8) (.s 4)⟩,
    ⟨(some 13), none, .call 77 [(.s 11), (.s 12)]⟩,
    ⟨(some 14), none, .un .not (.s 13)⟩] [2, 4, 14])
  (.cond (.s 14)
    (.seq (.reg [
      ⟨(some 6), none, .mov (.c (.t (.bool false)))⟩] [6])
    (.ret))
    (.skip)))
  (.seq (.reg [
    ⟨(some 7), none, .mov (.c (.t (.int .i64 0)))⟩] [2, 4, 7])
  (.seq (.reg [
    ⟨(some 8), none, .mov (.c (.t (.int .i64 (-1))))⟩] [2, 4, 7, 8])
  (.seq (.seq (.reg [
    ⟨(some 9), none, .mov (.c (.t (.int .i64 0)))⟩] [2, 4, 7, 8, 9])
  (.block 0 (.loop [2, 4, 7, 8, 9] B_spec_AreOrderedNotes_0)))
  (.seq (.reg [
    ⟨(some 103), none, .mov (.s 2)⟩,
    ⟨(some 104), none, .len false (.s 103)⟩,
    ⟨(some 105), none, .bin .gtr (.s 104) (.c (.t (.int .i64 0)))⟩,
    ⟨(some 6), none, .mov (.s 105)⟩] [6])
  (.ret))))))⟩
theorem t_spec_AreOrderedNotes : tbl 31 = some M_spec_AreOrderedNotes := tblOf_eq Try.func31 (by kernel_rfl) (by kernel_rfl)

/-- loop.example/g01921/laws.toBouquet -/
def M_laws_toBouquet : MFun := ⟨1, 30, [.cell 2 (some 8)],
  .seq (.reg [
    ⟨(some 1), none, .box (.s 0)⟩,
    ⟨(some 2), none, .alloc [(.t (.int .i64 0)), (.t (.int .i64 0)), (.t (.int .i64 0)), (.t .nil), (.t .nil), (.t .nil), (.t .nil), (.t .nil)]⟩] [1, 2])
  (.seq (.reg [
    ⟨(some 3), none, .alloc [(.t (.int .i64 0)), (.t (.int .i64 0)), (.t (.int .i64 0)), (.t .nil), (.t .nil), (.t .nil), (.t .nil), (.t .nil)]⟩] [1, 2, 3])
  (.seq (.reg [
    ⟨(some 4), none, .faddr 0 (.s 1)⟩,
    ⟨(some 5), none, .load none (.s 4)⟩,
    ⟨(some 6), none, .faddr 0 (.s 3)⟩,
    ⟨none, none, .store 1 (.s 6) (.s 5)⟩] [1, 2, 3])
  (.seq (.reg [
    ⟨(some 7), none, .faddr 1 (.s 1)⟩,
    ⟨(some 8), none, .load none (.s 7)⟩,
    ⟨(some 9), none, .faddr 1 (.s 3)⟩,
    ⟨none, none, .store 1 (.s 9) (.s 8)⟩] [1, 2, 3])
  (.seq (.reg [
    ⟨(some 10), none, .faddr 2 (.s 1)⟩,
    ⟨(some 11), none, .load none (.s 10)⟩,
    ⟨(some 12), none, .faddr 2 (.s 3)⟩,
    ⟨none, none, .store 1 (.s 12) (.s 11)⟩] [1, 2, 3])
  (.seq (.reg [
    ⟨(some 13), none, .faddr 3 (.s 1)⟩,
    ⟨(some 14), none, .load (some 2) (.s 13)⟩,
    ⟨(some 15), none, .call 14 [(.s 14)]⟩,
    ⟨(some 16), none, .faddr 3 (.s 3)⟩,
    ⟨none, none, .store 2 (.s 16) (.s 15)⟩] [1, 2, 3])
  (.seq (.reg [
    ⟨(some 17), none, .faddr 5 (.s 1)⟩,
    ⟨(some 18), none, .load none (.s 17)⟩,
    ⟨(some 19), none, .call 57 [(.s 18)]⟩,
    ⟨(some 20), none, .faddr 5 (.s 3)⟩,
    ⟨none, none, .store 1 (.s 20) (.s 19)⟩] [1, 2, 3])
  (.seq (.reg [
    ⟨(some 21), none, .faddr 6 (.s 1)⟩,
    ⟨(some 22), none, .load none (.s 21)⟩,
    ⟨(some 23), none, .call 80 [(.s 22)]⟩,
    ⟨(some 24), none, .faddr 6 (.s 3)⟩,
    ⟨none, none, .store 1 (.s 24) (.s 23)⟩] [1, 2, 3])
  (.seq (.reg [
    ⟨(some 25), none, .faddr 7 (.s 1)⟩,
    ⟨(some 26), none, .load none (.s 25)⟩,
    ⟨(some 27), none, .call 81 [(.s 26)]⟩,
    ⟨(some 28), none, .faddr 7 (.s 3)⟩,
    ⟨none, none, .store 1 (.s 28) (.s 27)⟩] [2, 3])
  (.seq (.reg [
    ⟨(some 29), none, .load (some 8) (.s 3)⟩,
    ⟨none, none, .store 8 (.s 2) (.s 29)⟩] [2])
  (.ret))))))))))⟩
theorem t_laws_toBouquet : tbl 32 = some M_laws_toBouquet := tblOf_eq Try.func32 (by kernel_rfl) (by kernel_rfl)

/-- loop.example/g01921/laws.toRunNoteS -/
def B_laws_toRunNoteS_0 : MCode :=
  .seq (.seq (.reg [
    ⟨(some 8), none, .mov (.s 4)⟩,
    ⟨(some 9), none, .mov (.s 0)⟩,
    ⟨(some 10), none, .len false (.s 9)⟩,
    ⟨(some 11), none, .bin .lss (.s 8) (.s 10)⟩] [0, 3, 4, 11])
  (.cond (.s 11)
    (.skip)
    (.exit 0)))
  (.seq (.block 1 (.reg [
    ⟨(some 14), none, .mov (.s 3)⟩,
    ⟨(some 15), none, .mov (.s 4)⟩,
    ⟨(some 16), none, .mov (.s 0)⟩,
    ⟨(some 17), none, .mov (.s 4)⟩,
    ⟨(some 18), none, .iaddr 5 (.s 16) (.s 17)⟩,
    ⟨(some 19), none, .load (some 5) (.s 18)⟩,
    ⟨(some 20), none, .call 82 [(.s 19)]⟩,
    ⟨(some 21), none, .iaddr 5 (.s 14) (.s 15)⟩,
    ⟨none, none, .store 5 (.s 21) (.s 20)⟩] [0, 3, 4]))
  (.reg [
    ⟨(some 12), none, .mov (.s 4)⟩,
    ⟨(some 13), none, .bin .add (.s 12) (.c (.t (.int .i64 1)))⟩,
    ⟨(some 4), none, .mov (.s 13)⟩] [0, 3, 4]))

def M_laws_toRunNoteS : MFun := ⟨1, 23, [.tmp 2],
  .seq (.reg [
    ⟨(some 2), none, .mov (.c (.t .nil))⟩] [0])
  (.seq (.reg [
    ⟨(some 5), none, .mov (.s 0)⟩,
    ⟨(some 6), none, .len false (.s 5)⟩,
    ⟨(some 7), none, .mkslice 129 5 40 [(.int .i64 0), (.int .i64 0), (.int .i64 0), (.int .i64 0), (.bool false)] (.s 6) (.s 6)⟩,
    ⟨(some 3), none, .mov (.s 7)⟩] [0, 3])
  (.seq (.seq (.reg [
    ⟨(some 4), none, .mov (.c (.t (.int .i64 0)))⟩] [0, 3, 4])
  (.block 0 (.loop [0, 3, 4] B_laws_toRunNoteS_0)))
  (.seq (.reg [
    ⟨(some 22), none, .mov (.s 3)⟩,
    ⟨(some 2), none, .mov (.s 22)⟩] [2])
  (.ret))))⟩
theorem t_laws_toRunNoteS : tbl 33 = some M_laws_toRunNoteS := tblOf_eq Try.func33 (by kernel_rfl) (by kernel_rfl)

/-- loop.example/g01921/impl.AreOrderedNotes -/
def B_impl_AreOrderedNotes_0 : MCode :=
  .seq (.reg [
    ⟨(some 20), none, .bin .lss (.s 19) (.s 18)⟩] [2, 4, 18, 19, 20])
  (.seq (.cond (.s 20)
    (.skip)
    (.exit 0))
  (.seq (.block 1 (.seq (.reg [
    ⟨(some 21), none, .mov (.s 19)⟩,
    ⟨(some 7), none, .mov (.s 21)⟩] [2, 4, 7, 18, 19])
  (.seq (.reg [
    ⟨(some 22), none, .load (some 8) (.s 4)⟩,
    ⟨(some 23), none, .mov (.s 2)⟩,
    ⟨(some 24), none, .mov (.s 7)⟩,
    ⟨(some 25), none, .call 84 [(.s 22), (.s 23), (.s 24)]⟩,
    ⟨(some 26), none, .un .not (.s 25)⟩] [2, 4, 18, 19, 26])
  (.cond (.s 26)
    (.seq (.reg [
      ⟨(some 6), none, .mov (.c (.t (.bool false)))⟩] [6])
    (.ret))
    (.skip)))))
  (.reg [
    ⟨(some 27), none, .bin .add (.s 19) (.c (.t (.int .i64 1)))⟩,
    ⟨(some 19), none, .mov (.s 27)⟩] [2, 4, 18, 19])))

def M_impl_AreOrderedNotes : MFun := ⟨3, 28, [.tmp 6],
  .seq (.reg [
    ⟨(some 3), none, .box (.s 0)⟩,
    ⟨(some 4), none, .box (.s 1)⟩,
    ⟨(some 6), none, .mov (.c (.t (.bool false)))⟩] [2, 3, 4])
  (.seq (.seq (.reg [
    ⟨(some 8), none, .load (some 2) (.s 3)⟩,
    ⟨(some 9), none, .load (some 8) (.s 4)⟩,
    ⟨(some 10), none, .call 83 [(.s 8), (.s 9)]⟩,
    ⟨(some 11), none, .un .not (.s 10)⟩,
    ⟨(some 12), none, .mov (.s 11)⟩,
    ⟨(some 13), (some (12, false)), .mov (.s 2)⟩,
    ⟨(some 14), (some (12, false)), .len false (.s 13)⟩,
    ⟨(some 15), (some (12, false)), .bin .eql (.s 14) (.c (.t (.int .i64 0)))⟩,
    ⟨(some 16), none, .pick (.s 12) (.c (.t (.bool true))) (.s 15)⟩] [2, 4, 16])
  (.cond (.s 16)
    (.seq (.reg [
      ⟨(some 6), none, .mov (.c (.t (.bool false)))⟩] [6])
    (.ret))
    (.skip)))
  (.seq (.seq (.reg [
    ⟨(some 17), none, .mov (.s 2)⟩,
    ⟨(some 18), none, .len false (.s 17)⟩,
    ⟨(some 19), none, .mov (.c (.t (.int .i64 0)))⟩] [2, 4, 18, 19])
  (.block 0 (.loop [2, 4, 18, 19] B_impl_AreOrderedNotes_0)))
  (.seq (.reg [
    ⟨(some 6), none, .mov (.c (.t (.bool true)))⟩] [6])
  (.ret))))⟩
theorem t_impl_AreOrderedNotes : tbl 34 = some M_impl_AreOrderedNotes := tblOf_eq Try.func34 (by kernel_rfl) (by kernel_rfl)

/-- loop.example/g01921/laws.eqBouquet -/
def M_laws_eqBouquet : MFun := ⟨2, 44, [.tmp 4],
  .seq (.reg [
    ⟨(some 2), none, .box (.s 0)⟩,
    ⟨(some 3), none, .box (.s 1)⟩,
    ⟨(some 4), none, .mov (.c (.t (.bool false)))⟩] [2, 3])
  (.seq (.seq (.reg [
    ⟨(some 5), none, .faddr 0 (.s 2)⟩,
    ⟨(some 6), none, .load none (.s 5)⟩,
    ⟨(some 7), none, .faddr 0 (.s 3)⟩,
    ⟨(some 8), none, .load none (.s 7)⟩,
    ⟨(some 9), none, .bin .neq (.s 6) (.s 8)⟩] [2, 3, 9])
  (.cond (.s 9)
    (.seq (.reg [
      ⟨(some 4), none, .mov (.c (.t (.bool false)))⟩] [4])
    (.ret))
    (.skip)))
  (.seq (.seq (.reg [
    ⟨(some 10), none, .faddr 1 (.s 2)⟩,
    ⟨(some 11), none, .load none (.s 10)⟩,
    ⟨(some 12), none, .faddr 1 (.s 3)⟩,
    ⟨(some 13), none, .load none (.s 12)⟩,
    ⟨(some 14), none, .bin .neq (.s 11) (.s 13)⟩] [2, 3, 14])
  (.cond (.s 14)
    (.seq (.reg [
      ⟨(some 4), none, .mov (.c (.t (.bool false)))⟩] [4])
    (.ret))
    (.skip)))
  (.seq (.seq (.reg [
    ⟨(some 15), none, .faddr 2 (.s 2)⟩,
    ⟨(some 16), none, .load none (.s 15)⟩,
    ⟨(some 17), none, .faddr 2 (.s 3)⟩,
    ⟨(some 18), none, .load none (.s 17)⟩,
    ⟨(some 19), none, .bin .neq (.s 16) (.s 18)⟩] [2, 3, 19])
  (.cond (.s 19)
    (.seq (.reg [
      ⟨(some 4), none, .mov (.c (.t (.bool false)))⟩] [4])
    (.ret))
    (.skip)))
  (.seq (.seq (.reg [
    ⟨(some 20), none, .faddr 3 (.s 2)⟩,
    ⟨(some 21), none, .load (some 2) (.s 20)⟩,
    ⟨(some 22), none, .faddr 3 (.s 3)⟩,
    ⟨(some 23), none, .load (some 2) (.s 22)⟩,
    ⟨(some 24), none, .call 18 [(.s 21), (.s 23)]⟩,
    ⟨(some 25), none, .un .not (.s 24)⟩] [2, 3, 25])
  (.cond (.s 25)
    (.seq (.reg [
      ⟨(some 4), none, .mov (.c (.t (.bool false)))⟩] [4])
    (.ret))
    (.skip)))
  (.seq (.seq (.reg [
    ⟨(some 26), none, .faddr 5 (.s 2)⟩,
    ⟨(some 27), none, .load none (.s 26)⟩,
    ⟨(some 28), none, .faddr 5 (.s 3)⟩,
    ⟨(some 29), none, .load none (.s 28)⟩,
    ⟨(some 30), none, .call 63 [(.s 27), (.s 29)]⟩,
    ⟨(some 31), none, .un .not (.s 30)⟩] [2, 3, 31])
  (.cond (.s 31)
    (.seq (.reg [
      ⟨(some 4), none, .mov (.c (.t (.bool false)))⟩] [4])
    (.ret))
    (.skip)))
  (.seq (.seq (.reg [
    ⟨(some 32), none, .faddr 6 (.s 2)⟩,
    ⟨(some 33), none, .load none (.s 32)⟩,
    ⟨(some 34), none, .faddr 6 (.s 3)⟩,
    ⟨(some 35), none, .load none (.s 34)⟩,
    ⟨(some 36), none, .call 85 [(.s 33), (.s 35)]⟩,
    ⟨(some 37), none, .un .not (.s 36)⟩] [2, 3, 37])
  (.cond (.s 37)
    (.seq (.reg [
      ⟨(some 4), none, .mov (.c (.t (.bool false)))⟩] [4])
    (.ret))
    (.skip)))
  (.seq (.seq (.reg [
    ⟨(some 38), none, .faddr 7 (.s 2)⟩,
    ⟨(some 39), none, .load none (.s 38)⟩,
    ⟨(some 40), none, .faddr 7 (.s 3)⟩,
    ⟨(some 41), none, .load none (.s 40)⟩,
    ⟨(some 42), none, .call 86 [(.s 39), (.s 41)]⟩,
    ⟨(some 43), none, .un .not (.s 42)⟩] [43])
  (.cond (.s 43)
    (.seq (.reg [
      ⟨(some 4), none, .mov (.c (.t (.bool false)))⟩] [4])
    (.ret))
    (.skip)))
  (.seq (.reg [
    ⟨(some 4), none, .mov (.c (.t (.bool true)))⟩] [4])
  (.ret)))))))))⟩
theorem t_laws_eqBouquet : tbl 35 = some M_laws_eqBouquet := tblOf_eq Try.func35 (by kernel_rfl) (by kernel_rfl)

/-- loop.example/g01921/laws.eqRunNoteS -/
def B_laws_eqRunNoteS_0 : MCode :=
  .seq (.seq (.reg [
    ⟨(some 11), none, .mov (.s 5)⟩,
    ⟨(some 12), none, .mov (.s 0)⟩,
    ⟨(some 13), none, .len false (.s 12)⟩,
    ⟨(some 14), none, .bin .lss (.s 11) (.s 13)⟩] [0, 1, 5, 14])
  (.cond (.s 14)
    (.skip)
    (.exit 0)))
  (.seq (.block 1 (.seq (.drw [
    ⟨(some 17), none, .mov (.s 0)⟩,
    ⟨(some 18), none, .mov (.s 5)⟩,
    ⟨(some 19), none, .iaddr 5 (.s 17) (.s 18)⟩,
    ⟨(some 20), none, .load (some 5) (.s 19)⟩,
    ⟨(some 21), none, .mov (.s 1)⟩,
    ⟨(some 22), none, .mov (.s 5)⟩,
    ⟨(some 23), none, .iaddr 5 (.s 21) (.s 22)⟩,
    ⟨(some 24), none, .load (some 5) (.s 23)⟩,
    ⟨(some 25), none, .call 87 [(.s 20), (.s 24)]⟩,
    ⟨(some 26), none, .un .not (.s 25)⟩] [[], [], [0, 1], [2], [], [], [4, 5], [6], [3, 7], [8]] [0, 1, 5, 26])
  (.cond (.s 26)
    (.seq (.reg [
      ⟨(some 4), none, .mov (.c (.t (.bool false)))⟩] [4])
    (.ret))
    (.skip))))
  (.reg [
    ⟨(some 15), none, .mov (.s 5)⟩,
    ⟨(some 16), none, .bin .add (.s 15) (.c (.t (.int .i64 1)))⟩,
    ⟨(some 5), none, .mov (.s 16)⟩] [0, 1, 5]))

def M_laws_eqRunNoteS : MFun := ⟨2, 27, [.tmp 4],
  .seq (.reg [
    ⟨(some 4), none, .mov (.c (.t (.bool false)))⟩] [0, 1])
  (.seq (.seq (.reg [
    ⟨(some 6), none, .mov (.s 0)⟩,
    ⟨(some 7), none, .len false (.s 6)⟩,
    ⟨(some 8), none, .mov (.s 1)⟩,
    ⟨(some 9), none, .len false (.s 8)⟩,
    ⟨(some 10), none, .bin .neq (.s 7) (.s 9)⟩] [0, 1, 10])
  (.cond (.s 10)
    (.seq (.reg [
      ⟨(some 4), none, .mov (.c (.t (.bool false)))⟩] [4])
    (.ret))
    (.skip)))
  (.seq (.seq (.reg [
    ⟨(some 5), none, .mov (.c (.t (.int .i64 0)))⟩] [0, 1, 5])
  (.block 0 (.loop [0, 1, 5] B_laws_eqRunNoteS_0)))
  (.seq (.reg [
    ⟨(some 4), none, .mov (.c (.t (.bool true)))⟩] [4])
  (.ret))))⟩
theorem t_laws_eqRunNoteS : tbl 36 = some M_laws_eqRunNoteS := tblOf_eq Try.func36 (by kernel_rfl) (by kernel_rfl)

/-- loop.example/g01921/laws.big -/
def M_laws_big : MFun := ⟨1, 6, [.tmp 2],
  .seq (.reg [
    ⟨(some 2), none, .mov (.c (.t (.bool false)))⟩] [0])
  (.seq (.reg [
    ⟨(some 3), none, .mov (.s 0)⟩,
    ⟨(some 4), none, .len false (.s 3)⟩,
    ⟨(some 5), none, .bin .gtr (.s 4) (.c (.t (.int .i64 1048576)))⟩,
    ⟨(some 2), none, .mov (.s 5)⟩] [2])
  (.ret))⟩
theorem t_laws_big : tbl 37 = some M_laws_big := tblOf_eq Try.func37 (by kernel_rfl) (by kernel_rfl)

/-- loop.example/g01921/spec.DrawIsReadable -/
def M_spec_DrawIsReadable : MFun := ⟨1, 18, [.cell 2 (some 30), .tmp 3, .tmp 4],
  .seq (.reg [
    ⟨(some 2), none, .alloc [(.t (.int .i64 0)), (.t (.int .i64 0)), (.t (.int .i64 0)), (.t (.int .i64 0)), (.t (.int .i64 0)), (.t .nil), (.t (.int .i64 0)), (.t (.int .i64 0)), (.t (.int .i64 0)), (.t (.int .i64 0)), (.t (.int .i64 0)), (.t .nil), (.t (.int .i64 0)), (.t (.int .i64 0)), (.t (.int .i64 0)), (.t (.int .i64 0)), (.t (.int .i64 0)), (.t .nil), (.t (.int .i64 0)), (.t (.int .i64 0)), (.t (.int .i64 0)), (.t (.int .i64 0)), (.t (.int .i64 0)), (.t .nil), (.t (.int .i64 0)), (.t (.int .i64 0)), (.t (.int .i64 0)), (.t (.int .i64 0)), (.t (.int .i64 0)), (.t .nil)]⟩,
    ⟨(some 3), none, .mov (.c (.t (.int .i64 0)))⟩,
    ⟨(some 4), none, .mov (.c (.t (.int .i64 0)))⟩] [0, 2])
  (.seq (.reg [
    ⟨(some 7), none, .mov (.s 0)⟩,
    ⟨(some 8), none, .call 88 [(.s 7)]⟩,
    ⟨(some 5), none, .mov (.s 8)⟩] [2, 5])
  (.seq (.reg [
    ⟨(some 9), none, .mov (.s 5)⟩,
    ⟨(some 10), none, .call 89 [(.s 9)]⟩,
    ⟨(some 6), none, .alloc [(.t (.int .i64 0)), (.t (.int .i64 0)), (.t (.int .i64 0)), (.t (.int .i64 0)), (.t (.int .i64 0)), (.t .nil), (.t (.int .i64 0)), (.t (.int .i64 0)), (.t (.int .i64 0)), (.t (.int .i64 0)), (.t (.int .i64 0)), (.t .nil), (.t (.int .i64 0)), (.t (.int .i64 0)), (.t (.int .i64 0)), (.t (.int .i64 0)), (.t (.int .i64 0)), (.t .nil), (.t (.int .i64 0)), (.t (.int .i64 0)), (.t (.int .i64 0)), (.t (.int .i64 0)), (.t (.int .i64 0)), (.t .nil), (.t (.int .i64 0)), (.t (.int .i64 0)), (.t (.int .i64 0)), (.t (.int .i64 0)), (.t (.int .i64 0)), (.t .nil)]⟩,
    ⟨none, none, .store 30 (.s 6) (.s 10)⟩] [2, 5, 6])
  (.seq (.drw [
    ⟨(some 11), none, .load (some 30) (.s 6)⟩,
    ⟨(some 12), none, .mov (.s 5)⟩,
    ⟨(some 13), none, .call 90 [(.s 12), (.c (.t (.int .i64 8)))]⟩,
    ⟨(some 14), none, .bin .sub (.s 13) (.c (.t (.int .i64 1)))⟩,
    ⟨(some 15), none, .mov (.s 5)⟩,
    ⟨(some 16), none, .bslice 3 1 8 [(.int .i64 0)] [(0, (.c (.t (.int .i64 (-1))))), (1, (.c (.t (.int .i64 0)))), (2, (.c (.t (.int .i64 1)))), (3, (.c (.t (.int .i64 3)))), (4, (.c (.t (.int .i64 17)))), (5, (.c (.t (.int .i64 64)))), (6, (.c (.t (.int .i64 4096)))), (7, (.c (.t (.int .i64 4097))))]⟩,
    ⟨(some 17), none, .call 91 [(.s 15), (.s 16)]⟩,
    ⟨none, none, .store 30 (.s 2) (.s 11)⟩,
    ⟨(some 3), none, .mov (.s 14)⟩,
    ⟨(some 4), none, .mov (.s 17)⟩] [[], [], [1], [2], [], [], [4, 5, 2], [0, 6, 0], [3, 7, 0, 1, 2, 3, 7], [6, 8, 0, 1, 2, 3, 4, 5, 6, 7, 8]] [2, 3, 4])
  (.ret))))⟩
theorem t_spec_DrawIsReadable : tbl 38 = some M_spec_DrawIsReadable := tblOf_eq Try.func38 (by kernel_rfl) (by kernel_rfl)

/-- loop.example/g01921/impl.IsReadable -/
def M_impl_IsReadable : MFun := ⟨3, 34, [.tmp 6],
  .seq (.reg [
    ⟨(some 3), none, .box (.s 0)⟩,
    ⟨(some 6), none, .mov (.c (.t (.bool false)))⟩] [1, 2, 3])
  (.seq (.seq (.reg [
    ⟨(some 7), none, .mov (.s 1)⟩,
    ⟨(some 8), none, .call 74 [(.s 7), (.c (.t (.int .i64 3))), (.c (.t (.int .i64 5)))]⟩,
    ⟨(some 9), none, .un .not (.s 8)⟩,
    ⟨(some 10), none, .mov (.s 9)⟩,
    ⟨(some 11), (some (10, false)), .mov (.s 2)⟩,
    ⟨(some 12), (some (10, false)), .call 74 [(.s 11), (.c (.t (.int .i64 0))), (.c (.t (.int .i64 4096)))]⟩,
    ⟨(some 13), (some (10, false)), .un .not (.s 12)⟩,
    ⟨(some 14), none, .pick (.s 10) (.c (.t (.bool true))) (.s 13)⟩,
    ⟨(some 15), none, .mov (.s 14)⟩,
    ⟨(some 16), (some (15, false)), .load (some 30) (.s 3)⟩,
    ⟨(some 17), (some (15, false)), .call 92 [(.s 16)]⟩,
    ⟨(some 18), (some (15, false)), .un .not (.s 17)⟩,
    ⟨(some 19), none, .pick (.s 15) (.c (.t (.bool true))) (.s 18)⟩] [1, 2, 3, 19])
  (.cond (.s 19)
    (.seq (.reg [
      ⟨(some 6), none, .mov (.c (.t (.bool false)))⟩] [6])
    (.ret))
    (.skip)))
  (.seq (.drw [
    ⟨(some 20), none, .load (some 30) (.s 3)⟩,
    ⟨(some 21), none, .mov (.s 2)⟩,
    ⟨(some 22), none, .call 41 [(.s 20), (.s 21)]⟩,
    ⟨(some 23), none, .pcall 94 [(.s 3)]⟩,
    ⟨(some 24), none, .mov (.s 1)⟩,
    ⟨(some 25), none, .bin .sub (.s 24) (.c (.t (.int .i64 1)))⟩,
    ⟨(some 26), none, .iaddr 1 (.s 23) (.s 25)⟩,
    ⟨(some 27), none, .load none (.s 26)⟩,
    ⟨(some 28), none, .nilchk (.s 27)⟩,
    ⟨(some 29), none, .load (some 6) (.s 28)⟩,
    ⟨(some 30), none, .mov (.s 2)⟩,
    ⟨(some 31), none, .call 95 [(.s 30)]⟩,
    ⟨(some 32), none, .call 93 [(.s 29), (.c (.t (.int .i64 0))), (.c (.t (.int .i64 0))), (.s 31)]⟩,
    ⟨(some 33), none, .bin .leq (.s 22) (.s 32)⟩,
    ⟨(some 6), none, .mov (.s 33)⟩] [[], [], [0, 1], [2], [], [4], [3, 5], [6], [7], [8], [], [10, 3], [9, 11, 11], [2, 12], [13, 12, 0, 1, 2, 3, 4, 5, 6, 7, 8, 9, 10, 11, 12, 13]] [6])
  (.ret)))⟩
theorem t_impl_IsReadable : tbl 39 = some M_impl_IsReadable := tblOf_eq Try.func39 (by kernel_rfl) (by kernel_rfl)

/-- loop.example/g01921/spec.IsReadable -/
def M_spec_IsReadable : MFun := ⟨3, 30, [.tmp 6],
  .seq (.reg [
    ⟨(some 3), none, .box (.s 0)⟩,
    ⟨(some 6), none, .mov (.c (.t (.bool false)))⟩] [1, 2, 3])
  (.seq (.seq (.reg [
    ⟨(some 7), none, .load (some 30) (.s 3)⟩,
    ⟨(some 8), none, .call 96 [(.s 7)]⟩,
    ⟨(some 9), none, .un .not (.s 8)⟩,
    ⟨(some 10), none, .mov (.s 9)⟩,
    ⟨(some 11), (some (10, false)), .mov (.s 1)⟩,
    ⟨(some 12), (some (10, false)), .call 70 [(.s 11), (.c (.t (.int .i64 3))), (.c (.t (.int .i64 5)))]⟩,
    ⟨(some 13), (some (10, false)), .un .not (.s 12)⟩,
    ⟨(some 14), none, .pick (.s 10) (.c (.t (.bool true))) (.s 13)⟩,
    ⟨(some 15), none, .mov (.s 14)⟩,
    ⟨(some 16), (some (15, false)), .mov (.s 2)⟩,
    ⟨(some 17), (some (15, false)), .call 70 [(.s 16), (.c (.t (.int .i64 0))), (.c (.t (.int .i64 4096)))]⟩,
    ⟨(some 18), (some (15, false)), .un .not (.s 17)⟩,
    ⟨(some 19), none, .pick (.s 15) (.c (.t (.bool true))) (.s 18)⟩] [1, 2, 3, 19])
  (.cond (.s 19)
    (.seq (.reg [
      ⟨(some 6), none, .mov (.c (.t (.bool false)))⟩] [6])
    (.ret))
    (.skip)))
  (.seq (.drw [
    ⟨(some 20), none, .load (some 30) (.s 3)⟩,
    ⟨(some 21), none, .mov (.s 2)⟩,
    ⟨(some 22), none, .call 42 [(.s 20), (.s 21)]⟩,
    ⟨(some 23), none, .load (some 30) (.s 3)⟩,
    ⟨(some 24), none, .mov (.s 1)⟩,
    ⟨(some 25), none, .call 97 [(.s 23), (.s 24)]⟩,
    ⟨(some 26), none, .mov (.s 2)⟩,
    ⟨(some 27), none, .call 45 [(.s 26)]⟩,
    ⟨(some 28), none, .call 44 [(.s 25), (.c (.t (.int .i64 0))), (.c (.t (.int .i64 0))), (.s 27)]⟩,
    ⟨(some 29), none, .bin .leq (.s 22) (.s 28)⟩,
    ⟨(some 6), none, .mov (.s 29)⟩] [[], [], [0, 1], [], [], [3, 4, 2], [], [6, 5], [5, 7, 7], [2, 8], [9, 8, 0, 1, 2, 3, 4, 5, 6, 7, 8, 9]] [6])
  (.ret)))⟩
theorem t_spec_IsReadable : tbl 40 = some M_spec_IsReadable := tblOf_eq Try.func40 (by kernel_rfl) (by kernel_rfl)

/-- loop.example/g01921/impl.ReadCost -/
def M_impl_ReadCost : MFun := ⟨2, 15, [.tmp 4],
  .seq (.reg [
    ⟨(some 2), none, .box (.s 0)⟩,
    ⟨(some 4), none, .mov (.c (.t (.int .i64 0)))⟩] [1, 2])
  (.seq (.reg [
    ⟨(some 6), none, .mov (.s 1)⟩,
    ⟨(some 7), none, .call 95 [(.s 6)]⟩,
    ⟨(some 5), none, .mov (.s 7)⟩] [2, 5])
  (.seq (.seq (.reg [
    ⟨(some 8), none, .mov (.s 5)⟩,
    ⟨(some 9), none, .bin .lss (.s 8) (.c (.t (.int .i64 0)))⟩] [2, 5, 9])
  (.cond (.s 9)
    (.seq (.reg [
      ⟨(some 4), none, .mov (.c (.t (.int .i64 (-1))))⟩] [4])
    (.ret))
    (.skip)))
  (.seq (.reg [
    ⟨(some 10), none, .faddr 0 (.s 2)⟩,
    ⟨(some 11), none, .load (some 6) (.s 10)⟩,
    ⟨(some 12), none, .mov (.s 5)⟩,
    ⟨(some 13), none, .mov (.s 5)⟩,
    ⟨(some 14), none, .call 93 [(.s 11), (.s 12), (.c (.t (.int .i64 0))), (.s 13)]⟩,
    ⟨(some 4), none, .mov (.s 14)⟩] [4])
  (.ret))))⟩
theorem t_impl_ReadCost : tbl 41 = some M_impl_ReadCost := tblOf_eq Try.func41 (by kernel_rfl) (by kernel_rfl)

/-- loop.example/g01921/spec.ReadCost -/
def M_spec_ReadCost : MFun := ⟨2, 15, [.tmp 4],
  .seq (.reg [
    ⟨(some 2), none, .box (.s 0)⟩,
    ⟨(some 4), none, .mov (.c (.t (.int .i64 0)))⟩] [1, 2])
  (.seq (.seq (.reg [
    ⟨(some 5), none, .mov (.s 1)⟩,
    ⟨(some 6), none, .call 70 [(.s 5), (.c (.t (.int .i64 0))), (.c (.t (.int .i64 4096)))]⟩,
    ⟨(some 7), none, .un .not (.s 6)⟩] [1, 2, 7])
  (.cond (.s 7)
    (.seq (.reg [
      ⟨(some 4), none, .mov (.c (.t (.int .i64 (-1))))⟩] [4])
    (.ret))
    (.skip)))
  (.seq (.drw [
    ⟨(some 8), none, .faddr 0 (.s 2)⟩,
    ⟨(some 9), none, .load (some 6) (.s 8)⟩,
    ⟨(some 10), none, .mov (.s 1)⟩,
    ⟨(some 11), none, .call 45 [(.s 10)]⟩,
    ⟨(some 12), none, .mov (.s 1)⟩,
    ⟨(some 13), none, .call 45 [(.s 12)]⟩,
    ⟨(some 14), none, .call 44 [(.s 9), (.s 11), (.c (.t (.int .i64 0))), (.s 13)]⟩,
    ⟨(some 4), none, .mov (.s 14)⟩] [[], [0], [], [2], [], [4, 3], [1, 3, 5, 5], [6, 6, 0, 1, 2, 3, 4, 5, 6]] [4])
  (.ret)))⟩
theorem t_spec_ReadCost : tbl 42 = some M_spec_ReadCost := tblOf_eq Try.func42 (by kernel_rfl) (by kernel_rfl)

/-- loop.example/g01921/spec.ModelOperator -/
def M_spec_ModelOperator : MFun := ⟨2, 14, [.cell 4 (some 6), .tmp 5],
  .seq (.reg [
    ⟨(some 2), none, .box (.s 0)⟩,
    ⟨(some 4), none, .alloc [(.t (.int .i64 0)), (.t (.int .i64 0)), (.t (.int .i64 0)), (.t (.int .i64 0)), (.t (.int .i64 0)), (.t .nil)]⟩,
    ⟨(some 5), none, .mov (.c (.t (.bool false)))⟩] [1, 2, 4])
  (.seq (.seq (.reg [
    ⟨(some 6), none, .mov (.s 1)⟩,
    ⟨(some 7), none, .call 70 [(.s 6), (.c (.t (.int .i64 1))), (.c (.t (.int .i64 5)))]⟩,
    ⟨(some 8), none, .un .not (.s 7)⟩] [1, 2, 4, 8])
  (.cond (.s 8)
    (.seq (.reg [
      ⟨(some 9), none, .build [(.t (.int .i64 0)), (.t (.int .i64 0)), (.t (.int .i64 0)), (.t (.int .i64 0)), (.t (.int .i64 0)), (.t .nil)] []⟩,
      ⟨none, none, .store 6 (.s 4) (.s 9)⟩,
      ⟨(some 5), none, .mov (.c (.t (.bool false)))⟩] [4, 5])
    (.ret))
    (.skip)))
  (.seq (.reg [
    ⟨(some 10), none, .load (some 30) (.s 2)⟩,
    ⟨(some 11), none, .mov (.s 1)⟩,
    ⟨(some 12), none, .call 97 [(.s 10), (.s 11)]⟩,
    ⟨(some 13), none, .call 98 [(.s 12)]⟩,
    ⟨none, none, .store 6 (.s 4) (.s 13)⟩,
    ⟨(some 5), none, .mov (.c (.t (.bool true)))⟩] [4, 5])
  (.ret)))⟩
theorem t_spec_ModelOperator : tbl 43 = some M_spec_ModelOperator := tblOf_eq Try.func43 (by kernel_rfl) (by kernel_rfl)

/-- loop.example/g01921/spec.OperatorCost -/
def B_spec_OperatorCost_0 : MCode :=
  .seq (.seq (.reg [
    ⟨(some 53), none, .mov (.s 10)⟩,
    ⟨(some 54), none, .faddr 5 (.s 4)⟩,
    ⟨(some 55), none, .load none (.s 54)⟩,
    ⟨(some 56), none, .len false (.s 55)⟩,
    ⟨(some 57), none, .bin .lss (.s 53) (.s 56)⟩] [1, 2, 4, 9, 10, 57])
  (.cond (.s 57)
    (.skip)
    (.exit 0)))
  (.seq (.block 1 (.seq (.reg [
    ⟨(some 60), none, .mov (.s 1)⟩,
    ⟨(some 61), none, .mov (.s 2)⟩,
    ⟨(some 62), none, .bin .add (.s 60) (.s 61)⟩,
    ⟨(some 63), none, .faddr 5 (.s 4)⟩,
    ⟨(some 64), none, .load none (.s 63)⟩,
    ⟨(some 65), none, .mov (.s 10)⟩,
    ⟨(some 66), none, .iaddr 2 (.s 64) (.s 65)⟩,
    ⟨(some 67), none, .faddr 0 (.s 66)⟩,
    ⟨(some 68), none, .load none (.s 67)⟩,
    ⟨(some 69), none, .bin .geq (.s 62) (.s 68)⟩] [1, 2, 4, 9, 10, 69])
  (.cond (.s 69)
    (.reg [
      ⟨(some 70), none, .mov (.s 9)⟩,
      ⟨(some 71), none, .faddr 5 (.s 4)⟩,
      ⟨(some 72), none, .load none (.s 71)⟩,
      ⟨(some 73), none, .mov (.s 10)⟩,
      ⟨(some 74), none, .iaddr 2 (.s 72) (.s 73)⟩,
      ⟨(some 75), none, .faddr 1 (.s 74)⟩,
      ⟨(some 76), none, .load none (.s 75)⟩,
      ⟨(some 77), none, .bin .add (.s 70) (.s 76)⟩,
      ⟨(some 9), none, .mov (.s 77)⟩] [1, 2, 4, 9, 10])
    (.skip))))
  (.reg [
    ⟨(some 58), none, .mov (.s 10)⟩,
    ⟨(some 59), none, .bin .add (.s 58) (.c (.t (.int .i64 1)))⟩,
    ⟨(some 10), none, .mov (.s 59)⟩] [1, 2, 4, 9, 10]))

def M_spec_OperatorCost : MFun := ⟨4, 79, [.tmp 8],
  .seq (.reg [
    ⟨(some 4), none, .box (.s 0)⟩,
    ⟨(some 8), none, .mov (.c (.t (.int .i64 0)))⟩] [1, 2, 3, 4])
  (.seq (.seq (.reg [
    ⟨(some 11), none, .load (some 6) (.s 4)⟩,
    ⟨(some 12), none, .call 99 [(.s 11)]⟩,
    ⟨(some 13), none, .un .not (.s 12)⟩,
    ⟨(some 14), none, .mov (.s 13)⟩,
    ⟨(some 15), (some (14, false)), .mov (.s 1)⟩,
    ⟨(some 16), (some (14, false)), .call 70 [(.s 15), (.c (.t (.int .i64 0))), (.c (.t (.int .i64 4096)))]⟩,
    ⟨(some 17), (some (14, false)), .un .not (.s 16)⟩,
    ⟨(some 18), none, .pick (.s 14) (.c (.t (.bool true))) (.s 17)⟩,
    ⟨(some 19), none, .mov (.s 18)⟩,
    ⟨(some 20), (some (19, false)), .mov (.s 2)⟩,
    ⟨(some 21), (some (19, false)), .call 70 [(.s 20), (.c (.t (.int .i64 0))), (.c (.t (.int .i64 4096)))]⟩,
    ⟨(some 22), (some (19, false)), .un .not (.s 21)⟩,
    ⟨(some 23), none, .pick (.s 19) (.c (.t (.bool true))) (.s 22)⟩,
    ⟨(some 24), none, .mov (.s 23)⟩,
    ⟨(some 25), (some (24, false)), .mov (.s 3)⟩,
    ⟨(some 26), (some (24, false)), .call 70 [(.s 25), (.c (.t (.int .i64 0))), (.c (.t (.int .i64 4096)))]⟩,
    ⟨(some 27), (some (24, false)), .un .not (.s 26)⟩,
    ⟨(some 28), none, .pick (.s 24) (.c (.t (.bool true))) (.s 27)⟩] [1, 2, 3, 4, 28])
  (.cond (.s 28)
    (.seq (.reg [
      ⟨(some 8), none, .mov (.c (.t (.int .i64 0)))⟩] [8])
    (.ret))
    (.skip)))
  (.seq (.reg [
    ⟨(some 29), none, .faddr 0 (.s 4)⟩,
    ⟨(some 30), none, .load none (.s 29)⟩,
    ⟨(some 31), none, .faddr 1 (.s 4)⟩,
    ⟨(some 32), none, .load none (.s 31)⟩,
    ⟨(some 33), none, .mov (.s 1)⟩,
    ⟨(some 34), none, .bin .mul (.s 32) (.s 33)⟩,
    ⟨(some 35), none, .bin .add (.s 30) (.s 34)⟩,
    ⟨(some 36), none, .faddr 2 (.s 4)⟩,
    ⟨(some 37), none, .load none (.s 36)⟩,
    ⟨(some 38), none, .mov (.s 2)⟩,
    ⟨(some 39), none, .bin .mul (.s 37) (.s 38)⟩,
    ⟨(some 40), none, .bin .add (.s 35) (.s 39)⟩,
    ⟨(some 41), none, .faddr 3 (.s 4)⟩,
    ⟨(some 42), none, .load none (.s 41)⟩,
    ⟨(some 43), none, .mov (.s 3)⟩,
    ⟨(some 44), none, .bin .mul (.s 42) (.s 43)⟩,
    ⟨(some 45), none, .bin .add (.s 40) (.s 44)⟩,
    ⟨(some 46), none, .faddr 4 (.s 4)⟩,
    ⟨(some 47), none, .load none (.s 46)⟩,
    ⟨(some 48), none, .mov (.s 1)⟩,
    ⟨(some 49), none, .bin .mul (.s 47) (.s 48)⟩,
    ⟨(some 50), none, .mov (.s 2)⟩,
    ⟨(some 51), none, .bin .mul (.s 49) (.s 50)⟩,
    ⟨(some 52), none, .bin .add (.s 45) (.s 51)⟩,
    ⟨(some 9), none, .mov (.s 52)⟩] [1, 2, 4, 9])
  (.seq (.seq (.reg [
    ⟨(some 10), none, .mov (.c (.t (.int .i64 0)))⟩] [1, 2, 4, 9, 10])
  (.block 0 (.loop [1, 2, 4, 9, 10] B_spec_OperatorCost_0)))
  (.seq (.reg [
    ⟨(some 78), none, .mov (.s 9)⟩,
    ⟨(some 8), none, .mov (.s 78)⟩] [8])
  (.ret)))))⟩
theorem t_spec_OperatorCost : tbl 44 = some M_spec_OperatorCost := tblOf_eq Try.func44 (by kernel_rfl) (by kernel_rfl)

/-- loop.example/g01921/spec.RoundUpSize -/
def M_spec_RoundUpSize : MFun := ⟨1, 6, [.tmp 2],
  .seq (.reg [
    ⟨(some 2), none, .mov (.c (.t (.int .i64 0)))⟩] [0])
  (.seq (.reg [
    ⟨(some 3), none, .mov (.s 0)⟩,
    ⟨(some 4), none, .call 101 [(.s 3)]⟩,
    ⟨(some 5), none, .call 100 [(.s 4)]⟩,
    ⟨(some 2), none, .mov (.s 5)⟩] [2])
  (.ret))⟩
theorem t_spec_RoundUpSize : tbl 45 = some M_spec_RoundUpSize := tblOf_eq Try.func45 (by kernel_rfl) (by kernel_rfl)

/-- loop.example/g01921/laws.at -/
def M_laws_at : MFun := ⟨2, 21, [.tmp 4],
  .seq (.reg [
    ⟨(some 4), none, .mov (.c (.t (.int .i64 0)))⟩] [0, 1])
  (.seq (.seq (.reg [
    ⟨(some 5), none, .mov (.s 1)⟩,
    ⟨(some 6), none, .mov (.s 0)⟩,
    ⟨(some 7), none, .len false (.s 6)⟩,
    ⟨(some 8), none, .bin .lss (.s 5) (.s 7)⟩] [0, 1, 8])
  (.cond (.s 8)
    (.seq (.reg [
      ⟨(some 9), none, .mov (.s 0)⟩,
      ⟨(some 10), none, .mov (.s 1)⟩,
      ⟨(some 11), none, .iaddr 1 (.s 9) (.s 10)⟩,
      ⟨(some 12), none, .load none (.s 11)⟩,
      ⟨(some 13), none, .conv .i64 (.s 12)⟩,
      ⟨(some 4), none, .mov (.s 13)⟩] [4])
    (.ret))
    (.skip)))
  (.seq (.reg [
    ⟨(some 14), none, .mov (.s 1)⟩,
    ⟨(some 15), none, .bin .mul (.s 14) (.c (.t (.int .i64 37)))⟩,
    ⟨(some 16), none, .mov (.s 0)⟩,
    ⟨(some 17), none, .len false (.s 16)⟩,
    ⟨(some 18), none, .bin .mul (.s 17) (.c (.t (.int .i64 11)))⟩,
    ⟨(some 19), none, .bin .add (.s 15) (.s 18)⟩,
    ⟨(some 20), none, .bin .rem (.s 19) (.c (.t (.int .i64 256)))⟩,
    ⟨(some 4), none, .mov (.s 20)⟩] [4])
  (.ret)))⟩
theorem t_laws_at : tbl 46 = some M_laws_at := tblOf_eq Try.func46 (by kernel_rfl) (by kernel_rfl)

/-- loop.example/g01921/spec.DrawKeepResult -/
def M_spec_DrawKeepResult : MFun := ⟨1, 28, [.tmp 2, .cell 3 (some 2)],
  .seq (.reg [
    ⟨(some 2), none, .mov (.c (.t .nil))⟩,
    ⟨(some 3), none, .alloc [(.t (.int .i64 0)), (.t (.int .i64 0))]⟩] [0, 3])
  (.seq (.reg [
    ⟨(some 11), none, .mov (.s 0)⟩,
    ⟨(some 12), none, .call 102 [(.s 11)]⟩,
    ⟨(some 10), none, .mov (.s 12)⟩,
    ⟨(some 13), none, .ext (.s 10) 0⟩,
    ⟨(some 14), none, .ext (.s 10) 1⟩,
    ⟨(some 15), none, .ext (.s 10) 2⟩,
    ⟨(some 16), none, .ext (.s 10) 3⟩,
    ⟨(some 17), none, .ext (.s 10) 4⟩,
    ⟨(some 5), none, .alloc [(.t (.int .i64 0)), (.t (.int .i64 0)), (.t (.int .i64 0)), (.t (.int .i64 0)), (.t (.int .i64 0)), (.t .nil), (.t (.int .i64 0)), (.t (.int .i64 0)), (.t (.int .i64 0)), (.t (.int .i64 0)), (.t (.int .i64 0)), (.t .nil), (.t (.int .i64 0)), (.t (.int .i64 0)), (.t (.int .i64 0)), (.t (.int .i64 0)), (.t (.int .i64 0)), (.t .nil), (.t (.int .i64 0)), (.t (.int .i64 0)), (.t (.int .i64 0)), (.t (.int .i64 0)), (.t (.int .i64 0)), (.t .nil), (.t (.int .i64 0)), (.t (.int .i64 0)), (.t (.int .i64 0)), (.t (.int .i64 0)), (.t (.int .i64 0)), (.t .nil)]⟩,
    ⟨(some 6), none, .alloc [(.t .nil)]⟩,
    ⟨(some 7), none, .alloc [(.t (.int .i64 0)), (.t .nil)]⟩,
    ⟨(some 8), none, .alloc [(.t .nil)]⟩,
    ⟨(some 4), none, .mov (.s 13)⟩,
    ⟨none, none, .store 30 (.s 5) (.s 14)⟩,
    ⟨none, none, .store 1 (.s 6) (.s 15)⟩,
    ⟨none, none, .store 2 (.s 7) (.s 16)⟩,
    ⟨none, none, .store 1 (.s 8) (.s 17)⟩] [3, 4, 6, 7])
  (.seq (.reg [
    ⟨(some 18), none, .mov (.s 4)⟩,
    ⟨(some 19), none, .load (some 1) (.s 6)⟩,
    ⟨(some 20), none, .load (some 2) (.s 7)⟩,
    ⟨(some 21), none, .call 103 [(.s 18), (.s 19), (.s 20)]⟩,
    ⟨(some 9), none, .mov (.s 21)⟩] [3, 4, 9])
  (.seq (.reg [
    ⟨(some 22), none, .mov (.s 9)⟩,
    ⟨(some 23), none, .mov (.s 4)⟩,
    ⟨(some 24), none, .call 90 [(.s 23), (.c (.t (.int .i64 9)))]⟩,
    ⟨(some 25), none, .mov (.s 4)⟩,
    ⟨(some 26), none, .call 90 [(.s 25), (.c (.t (.int .i64 20)))]⟩,
    ⟨(some 27), none, .build [(.t (.int .i64 0)), (.t (.int .i64 0))] [(0, 1, (.s 24)), (1, 1, (.s 26))]⟩,
    ⟨(some 2), none, .mov (.s 22)⟩,
    ⟨none, none, .store 2 (.s 3) (.s 27)⟩] [2, 3])
  (.ret))))⟩
theorem t_spec_DrawKeepResult : tbl 47 = some M_spec_DrawKeepResult := tblOf_eq Try.func47 (by kernel_rfl) (by kernel_rfl)

/-- loop.example/g01921/impl.KeepResult -/
def B_impl_KeepResult_0 : MCode :=
  .seq (.reg [
    ⟨(some 13), none, .bin .lss (.s 12) (.s 11)⟩] [3, 5, 6, 10, 11, 12, 13])
  (.seq (.cond (.s 13)
    (.skip)
    (.exit 0))
  (.seq (.block 1 (.seq (.reg [
    ⟨(some 14), none, .iaddr 2 (.s 10) (.s 12)⟩,
    ⟨(some 15), none, .load (some 2) (.s 14)⟩,
    ⟨(some 8), none, .alloc [(.t (.int .i64 0)), (.t (.int .i64 0))]⟩,
    ⟨none, none, .store 2 (.s 8) (.s 15)⟩] [3, 5, 6, 8, 10, 11, 12])
  (.seq (.seq (.reg [
    ⟨(some 16), none, .mov (.s 6)⟩,
    ⟨(some 17), none, .un .not (.s 16)⟩,
    ⟨(some 18), none, .mov (.s 17)⟩,
    ⟨(some 19), (some (18, true)), .faddr 0 (.s 8)⟩,
    ⟨(some 20), (some (18, true)), .load none (.s 19)⟩,
    ⟨(some 21), (some (18, true)), .faddr 0 (.s 3)⟩,
    ⟨(some 22), (some (18, true)), .load none (.s 21)⟩,
    ⟨(some 23), (some (18, true)), .bin .geq (.s 20) (.s 22)⟩,
    ⟨(some 24), none, .pick (.s 18) (.s 23) (.c (.t (.bool false)))⟩] [3, 5, 6, 8, 10, 11, 12, 24])
  (.cond (.s 24)
    (.seq (.reg [
      ⟨(some 25), none, .mov (.s 5)⟩,
      ⟨(some 26), none, .load (some 2) (.s 3)⟩,
      ⟨(some 27), none, .bslice 98 2 1 [(.int .i64 0), (.int .i64 0)] [(0, (.s 26))]⟩,
      ⟨(some 28), none, .append 98 2 16 true (.s 25) (.s 27)⟩,
      ⟨(some 5), none, .mov (.s 28)⟩] [3, 5, 8, 10, 11, 12])
    (.reg [
      ⟨(some 6), none, .mov (.c (.t (.bool true)))⟩] [3, 5, 6, 8, 10, 11, 12]))
    (.skip)))
  (.seq (.reg [
    ⟨(some 29), none, .faddr 0 (.s 8)⟩,
    ⟨(some 30), none, .load none (.s 29)⟩,
    ⟨(some 31), none, .faddr 0 (.s 3)⟩,
    ⟨(some 32), none, .load none (.s 31)⟩,
    ⟨(some 33), none, .bin .neq (.s 30) (.s 32)⟩] [3, 5, 6, 8, 10, 11, 12, 33])
  (.cond (.s 33)
    (.reg [
      ⟨(some 34), none, .mov (.s 5)⟩,
      ⟨(some 35), none, .load (some 2) (.s 8)⟩,
      ⟨(some 36), none, .bslice 98 2 1 [(.int .i64 0), (.int .i64 0)] [(0, (.s 35))]⟩,
      ⟨(some 37), none, .append 98 2 16 true (.s 34) (.s 36)⟩,
      ⟨(some 5), none, .mov (.s 37)⟩] [3, 5, 6, 10, 11, 12])
    (.skip))))))
  (.reg [
    ⟨(some 38), none, .bin .add (.s 12) (.c (.t (.int .i64 1)))⟩,
    ⟨(some 12), none, .mov (.s 38)⟩] [3, 5, 6, 10, 11, 12])))

def M_impl_KeepResult : MFun := ⟨2, 46, [.tmp 4],
  .seq (.reg [
    ⟨(some 3), none, .box (.s 1)⟩,
    ⟨(some 4), none, .mov (.c (.t .nil))⟩] [0, 3])
  (.seq (.reg [
    ⟨(some 9), none, .bslice 98 2 0 [(.int .i64 0), (.int .i64 0)] []⟩,
    ⟨(some 5), none, .mov (.s 9)⟩] [0, 3, 5])
  (.seq (.reg [
    ⟨(some 6), none, .mov (.c (.t (.bool false)))⟩] [0, 3, 5, 6])
  (.seq (.seq (.reg [
    ⟨(some 10), none, .mov (.s 0)⟩,
    ⟨(some 11), none, .len false (.s 10)⟩,
    ⟨(some 12), none, .mov (.c (.t (.int .i64 0)))⟩] [3, 5, 6, 10, 11, 12])
  (.block 0 (.loop [3, 5, 6, 10, 11, 12] B_impl_KeepResult_0)))
  (.seq (.seq (.reg [
    ⟨(some 39), none, .mov (.s 6)⟩,
    ⟨(some 40), none, .un .not (.s 39)⟩] [3, 5, 40])
  (.cond (.s 40)
    (.reg [
      ⟨(some 41), none, .mov (.s 5)⟩,
      ⟨(some 42), none, .load (some 2) (.s 3)⟩,
      ⟨(some 43), none, .bslice 98 2 1 [(.int .i64 0), (.int .i64 0)] [(0, (.s 42))]⟩,
      ⟨(some 44), none, .append 98 2 16 true (.s 41) (.s 43)⟩,
      ⟨(some 5), none, .mov (.s 44)⟩] [5])
    (.skip)))
  (.seq (.reg [
    ⟨(some 45), none, .mov (.s 5)⟩,
    ⟨(some 4), none, .mov (.s 45)⟩] [4])
  (.ret))))))⟩
theorem t_impl_KeepResult : tbl 48 = some M_impl_KeepResult := tblOf_eq Try.func48 (by kernel_rfl) (by kernel_rfl)

/-- loop.example/g01921/laws.szAtomS -/
def B_laws_szAtomS_0 : MCode :=
  .seq (.seq (.reg [
    ⟨(some 12), none, .mov (.s 5)⟩,
    ⟨(some 13), none, .mov (.s 0)⟩,
    ⟨(some 14), none, .len false (.s 13)⟩,
    ⟨(some 15), none, .bin .lss (.s 12) (.s 14)⟩] [0, 1, 5, 15])
  (.cond (.s 15)
    (.skip)
    (.exit 0)))
  (.seq (.block 1 (.seq (.reg [
    ⟨(some 18), none, .mov (.s 0)⟩,
    ⟨(some 19), none, .mov (.s 5)⟩,
    ⟨(some 20), none, .iaddr 2 (.s 18) (.s 19)⟩,
    ⟨(some 21), none, .load (some 2) (.s 20)⟩,
    ⟨(some 22), none, .mov (.s 1)⟩,
    ⟨(some 23), none, .call 104 [(.s 21), (.s 22)]⟩,
    ⟨(some 1), none, .mov (.s 23)⟩] [0, 1, 5])
  (.seq (.reg [
    ⟨(some 24), none, .mov (.s 1)⟩,
    ⟨(some 25), none, .bin .lss (.s 24) (.c (.t (.int .i64 0)))⟩] [0, 1, 5, 25])
  (.cond (.s 25)
    (.seq (.reg [
      ⟨(some 4), none, .mov (.c (.t (.int .i64 (-1))))⟩] [4])
    (.ret))
    (.skip)))))
  (.reg [
    ⟨(some 16), none, .mov (.s 5)⟩,
    ⟨(some 17), none, .bin .add (.s 16) (.c (.t (.int .i64 1)))⟩,
    ⟨(some 5), none, .mov (.s 17)⟩] [0, 1, 5]))

def M_laws_szAtomS : MFun := ⟨2, 27, [.tmp 4],
  .seq (.reg [
    ⟨(some 4), none, .mov (.c (.t (.int .i64 0)))⟩] [0, 1])
  (.seq (.reg [
    ⟨(some 6), none, .mov (.s 1)⟩,
    ⟨(some 7), none, .mov (.s 0)⟩,
    ⟨(some 8), none, .len false (.s 7)⟩,
    ⟨(some 9), none, .bin .sub (.s 6) (.s 8)⟩,
    ⟨(some 1), none, .mov (.s 9)⟩] [0, 1])
  (.seq (.seq (.reg [
    ⟨(some 10), none, .mov (.s 1)⟩,
    ⟨(some 11), none, .bin .lss (.s 10) (.c (.t (.int .i64 0)))⟩] [0, 1, 11])
  (.cond (.s 11)
    (.seq (.reg [
      ⟨(some 4), none, .mov (.c (.t (.int .i64 (-1))))⟩] [4])
    (.ret))
    (.skip)))
  (.seq (.seq (.reg [
    ⟨(some 5), none, .mov (.c (.t (.int .i64 0)))⟩] [0, 1, 5])
  (.block 0 (.loop [0, 1, 5] B_laws_szAtomS_0)))
  (.seq (.reg [
    ⟨(some 26), none, .mov (.s 1)⟩,
    ⟨(some 4), none, .mov (.s 26)⟩] [4])
  (.ret)))))⟩
theorem t_laws_szAtomS : tbl 49 = some M_laws_szAtomS := tblOf_eq Try.func49 (by kernel_rfl) (by kernel_rfl)

/-- loop.example/g01921/laws.szPlanStepS -/
def M_laws_szPlanStepS : MFun := ⟨2, 12, [.tmp 4],
  .seq (.reg [
    ⟨(some 4), none, .mov (.c (.t (.int .i64 0)))⟩] [0, 1])
  (.seq (.reg [
    ⟨(some 5), none, .mov (.s 1)⟩,
    ⟨(some 6), none, .mov (.s 0)⟩,
    ⟨(some 7), none, .len false (.s 6)⟩,
    ⟨(some 8), none, .bin .sub (.s 5) (.s 7)⟩,
    ⟨(some 1), none, .mov (.s 8)⟩] [1])
  (.seq (.seq (.reg [
    ⟨(some 9), none, .mov (.s 1)⟩,
    ⟨(some 10), none, .bin .lss (.s 9) (.c (.t (.int .i64 0)))⟩] [1, 10])
  (.cond (.s 10)
    (.seq (.reg [
      ⟨(some 4), none, .mov (.c (.t (.int .i64 (-1))))⟩] [4])
    (.ret))
    (.skip)))
  (.seq (.reg [
    ⟨(some 11), none, .mov (.s 1)⟩,
    ⟨(some 4), none, .mov (.s 11)⟩] [4])
  (.ret))))⟩
theorem t_laws_szPlanStepS : tbl 50 = some M_laws_szPlanStepS := tblOf_eq Try.func50 (by kernel_rfl) (by kernel_rfl)

/-- loop.example/g01921/laws.szIntS -/
def M_laws_szIntS : MFun := ⟨2, 12, [.tmp 4],
  .seq (.reg [
    ⟨(some 4), none, .mov (.c (.t (.int .i64 0)))⟩] [0, 1])
  (.seq (.reg [
    ⟨(some 5), none, .mov (.s 1)⟩,
    ⟨(some 6), none, .mov (.s 0)⟩,
    ⟨(some 7), none, .len false (.s 6)⟩,
    ⟨(some 8), none, .bin .sub (.s 5) (.s 7)⟩,
    ⟨(some 1), none, .mov (.s 8)⟩] [1])
  (.seq (.seq (.reg [
    ⟨(some 9), none, .mov (.s 1)⟩,
    ⟨(some 10), none, .bin .lss (.s 9) (.c (.t (.int .i64 0)))⟩] [1, 10])
  (.cond (.s 10)
    (.seq (.reg [
      ⟨(some 4), none, .mov (.c (.t (.int .i64 (-1))))⟩] [4])
    (.ret))
    (.skip)))
  (.seq (.reg [
    ⟨(some 11), none, .mov (.s 1)⟩,
    ⟨(some 4), none, .mov (.s 11)⟩] [4])
  (.ret))))⟩
theorem t_laws_szIntS : tbl 51 = some M_laws_szIntS := tblOf_eq Try.func51 (by kernel_rfl) (by kernel_rfl)

/-- loop.example/g01921/spec.PlanInfo -/
def B_spec_PlanInfo_0 : MCode :=
  .seq (.seq (.reg [
    ⟨(some 24), none, .mov (.s 8)⟩,
    ⟨(some 25), none, .faddr 0 (.s 3)⟩,
    ⟨(some 26), none, .load none (.s 25)⟩,
    ⟨(some 27), none, .len false (.s 26)⟩,
    ⟨(some 28), none, .bin .lss (.s 24) (.s 27)⟩] [2, 3, 6, 7, 8, 28])
  (.cond (.s 28)
    (.skip)
    (.exit 0)))
  (.seq (.block 1 (.seq (.drw [
    ⟨(some 32), none, .load (some 2) (.s 2)⟩,
    ⟨(some 33), none, .faddr 0 (.s 3)⟩,
    ⟨(some 34), none, .load none (.s 33)⟩,
    ⟨(some 35), none, .mov (.s 8)⟩,
    ⟨(some 36), none, .iaddr 3 (.s 34) (.s 35)⟩,
    ⟨(some 37), none, .load (some 3) (.s 36)⟩,
    ⟨(some 38), none, .mov (.s 6)⟩,
    ⟨(some 39), none, .mov (.s 7)⟩,
    ⟨(some 40), none, .call 106 [(.s 32), (.s 37), (.s 38), (.s 39)]⟩,
    ⟨(some 31), none, .mov (.s 40)⟩,
    ⟨(some 41), none, .ext (.s 31) 0⟩,
    ⟨(some 42), none, .ext (.s 31) 1⟩,
    ⟨(some 9), none, .alloc [(.t (.int .i64 0)), (.t (.int .i64 0)), (.t (.int .i64 0)), (.t (.int .i64 0))]⟩,
    ⟨none, none, .store 4 (.s 9) (.s 41)⟩,
    ⟨(some 10), none, .mov (.s 42)⟩] [[], [], [1], [], [2, 3], [4], [], [], [0, 5, 6, 7], [8], [9], [9], [], [12, 10, 8, 0, 1, 2, 3, 4, 5, 6, 7, 8, 9, 10, 12], [11, 13, 0, 1, 2, 3, 4, 5, 6, 7, 8, 9, 10, 11, 12, 13]] [2, 3, 6, 7, 8, 9, 10])
  (.seq (.seq (.reg [
    ⟨(some 43), none, .mov (.s 10)⟩,
    ⟨(some 44), none, .bin .lss (.s 43) (.c (.t (.int .i64 0)))⟩] [2, 3, 6, 7, 8, 9, 10, 44])
  (.cond (.s 44)
    (.seq (.reg [
      ⟨(some 45), none, .bslice 111 4 0 [(.int .i64 0), (.int .i64 0), (.int .i64 0), (.int .i64 0)] []⟩,
      ⟨(some 4), none, .mov (.s 45)⟩,
      ⟨(some 5), none, .mov (.c (.t (.bool false)))⟩] [4, 5])
    (.ret))
    (.skip)))
  (.seq (.reg [
    ⟨(some 46), none, .mov (.s 6)⟩,
    ⟨(some 47), none, .load (some 4) (.s 9)⟩,
    ⟨(some 48), none, .bslice 111 4 1 [(.int .i64 0), (.int .i64 0), (.int .i64 0), (.int .i64 0)] [(0, (.s 47))]⟩,
    ⟨(some 49), none, .append 111 4 32 true (.s 46) (.s 48)⟩,
    ⟨(some 6), none, .mov (.s 49)⟩] [2, 3, 6, 7, 8, 10])
  (.reg [
    ⟨(some 50), none, .bslice 3 1 0 [(.int .i64 0)] []⟩,
    ⟨(some 51), none, .mov (.s 7)⟩,
    ⟨(some 52), none, .mov (.s 7)⟩,
    ⟨(some 53), none, .len false (.s 52)⟩,
    ⟨(some 54), none, .mov (.s 10)⟩,
    ⟨(some 55), none, .bin .sub (.s 53) (.s 54)⟩,
    ⟨(some 56), none, .slice (some 1) (.s 51) none (some (.s 55))⟩,
    ⟨(some 57), none, .append 3 1 8 false (.s 50) (.s 56)⟩,
    ⟨(some 58), none, .mov (.s 8)⟩,
    ⟨(some 59), none, .bslice 3 1 1 [(.int .i64 0)] [(0, (.s 58))]⟩,
    ⟨(some 60), none, .append 3 1 8 true (.s 57) (.s 59)⟩,
    ⟨(some 7), none, .mov (.s 60)⟩] [2, 3, 6, 7, 8])))))
  (.reg [
    ⟨(some 29), none, .mov (.s 8)⟩,
    ⟨(some 30), none, .bin .add (.s 29) (.c (.t (.int .i64 1)))⟩,
    ⟨(some 8), none, .mov (.s 30)⟩] [2, 3, 6, 7, 8]))

def M_spec_PlanInfo : MFun := ⟨2, 66, [.tmp 4, .tmp 5],
  .seq (.reg [
    ⟨(some 2), none, .box (.s 0)⟩,
    ⟨(some 3), none, .box (.s 1)⟩,
    ⟨(some 4), none, .mov (.c (.t .nil))⟩,
    ⟨(some 5), none, .mov (.c (.t (.bool false)))⟩] [2, 3])
  (.seq (.reg [
    ⟨(some 11), none, .bslice 111 4 0 [(.int .i64 0), (.int .i64 0), (.int .i64 0), (.int .i64 0)] []⟩,
    ⟨(some 6), none, .mov (.s 11)⟩] [2, 3, 6])
  (.seq (.reg [
    ⟨(some 12), none, .bslice 3 1 0 [(.int .i64 0)] []⟩,
    ⟨(some 7), none, .mov (.s 12)⟩] [2, 3, 6, 7])
  (.seq (.seq (.reg [
    ⟨(some 13), none, .load (some 2) (.s 2)⟩,
    ⟨(some 14), none, .call 105 [(.s 13)]⟩,
    ⟨(some 15), none, .un .not (.s 14)⟩,
    ⟨(some 16), none, .mov (.s 15)⟩,
    ⟨(some 17), (some (16, false)), .faddr 0 (.s 3)⟩,
    ⟨(some 18), (some (16, false)), .load none (.s 17)⟩,
    ⟨(some 19), (some (16, false)), .len false (.s 18)⟩,
    ⟨(some 20), (some (16, false)), .call 70 [(.s 19), (.c (.t (.int .i64 1))), (.c (.t (.int .i64 14)))]⟩,
    ⟨(some 21), (some (16, false)), .un .not (.s 20)⟩,
    ⟨(some 22), none, .pick (.s 16) (.c (.t (.bool true))) (.s 21)⟩] [2, 3, 6, 7, 22])
  (.cond (.s 22)
    (.seq (.reg [
      ⟨(some 23), none, .mov (.s 6)⟩,
      ⟨(some 4), none, .mov (.s 23)⟩,
      ⟨(some 5), none, .mov (.c (.t (.bool false)))⟩] [4, 5])
    (.ret))
    (.skip)))
  (.seq (.seq (.reg [
    ⟨(some 8), none, .mov (.c (.t (.int .i64 0)))⟩] [2, 3, 6, 7, 8])
  (.block 0 (.loop [2, 3, 6, 7, 8] B_spec_PlanInfo_0)))
  (.seq (.seq (.reg [
    ⟨(some 61), none, .mov (.s 7)⟩,
    ⟨(some 62), none, .len false (.s 61)⟩,
    ⟨(some 63), none, .bin .neq (.s 62) (.c (.t (.int .i64 1)))⟩] [6, 63])
  (.cond (.s 63)
    (.seq (.reg [
      ⟨(some 64), none, .bslice 111 4 0 [(.int .i64 0), (.int .i64 0), (.int .i64 0), (.int .i64 0)] []⟩,
      ⟨(some 4), none, .mov (.s 64)⟩,
      ⟨(some 5), none, .mov (.c (.t (.bool false)))⟩] [4, 5])
    (.ret))
    (.skip)))
  (.seq (.reg [
    ⟨(some 65), none, .mov (.s 6)⟩,
    ⟨(some 4), none, .mov (.s 65)⟩,
    ⟨(some 5), none, .mov (.c (.t (.bool true)))⟩] [4, 5])
  (.ret)))))))⟩
theorem t_spec_PlanInfo : tbl 52 = some M_spec_PlanInfo := tblOf_eq Try.func52 (by kernel_rfl) (by kernel_rfl)

/-- loop.example/g01921/spec.IsValidBox -/
def M_spec_IsValidBox : MFun := ⟨1, 24, [.tmp 2],
  .seq (.reg [
    ⟨(some 1), none, .box (.s 0)⟩,
    ⟨(some 2), none, .mov (.c (.t (.bool false)))⟩] [1])
  (.seq (.reg [
    ⟨(some 3), none, .faddr 0 (.s 1)⟩,
    ⟨(some 4), none, .load none (.s 3)⟩,
    ⟨(some 5), none, .len false (.s 4)⟩,
    ⟨(some 6), none, .bin .gtr (.s 5) (.c (.t (.int .i64 0)))⟩,
    ⟨(some 7), none, .mov (.s 6)⟩,
    ⟨(some 8), (some (7, true)), .faddr 0 (.s 1)⟩,
    ⟨(some 9), (some (7, true)), .load none (.s 8)⟩,
    ⟨(some 10), (some (7, true)), .call 107 [(.s 9)]⟩,
    ⟨(some 11), none, .pick (.s 7) (.s 10) (.c (.t (.bool false)))⟩,
    ⟨(some 12), none, .mov (.s 11)⟩,
    ⟨(some 13), (some (12, true)), .faddr 1 (.s 1)⟩,
    ⟨(some 14), (some (12, true)), .load none (.s 13)⟩,
    ⟨(some 15), (some (12, true)), .call 107 [(.s 14)]⟩,
    ⟨(some 16), none, .pick (.s 12) (.s 15) (.c (.t (.bool false)))⟩,
    ⟨(some 17), none, .mov (.s 16)⟩,
    ⟨(some 18), (some (17, true)), .faddr 1 (.s 1)⟩,
    ⟨(some 19), (some (17, true)), .load none (.s 18)⟩,
    ⟨(some 20), (some (17, true)), .faddr 0 (.s 1)⟩,
    ⟨(some 21), (some (17, true)), .load none (.s 20)⟩,
    ⟨(some 22), (some (17, true)), .call 108 [(.s 19), (.s 21)]⟩,
    ⟨(some 23), none, .pick (.s 17) (.s 22) (.c (.t (.bool false)))⟩,
    ⟨(some 2), none, .mov (.s 23)⟩] [2])
  (.ret))⟩
theorem t_spec_IsValidBox : tbl 53 = some M_spec_IsValidBox := tblOf_eq Try.func53 (by kernel_rfl) (by kernel_rfl)

/-- loop.example/g01921/spec.FullMask -/
def M_spec_FullMask : MFun := ⟨1, 11, [.tmp 2],
  .seq (.reg [
    ⟨(some 1), none, .box (.s 0)⟩,
    ⟨(some 2), none, .mov (.c (.t (.int .i64 0)))⟩] [1])
  (.seq (.seq (.reg [
    ⟨(some 3), none, .load (some 2) (.s 1)⟩,
    ⟨(some 4), none, .call 105 [(.s 3)]⟩,
    ⟨(some 5), none, .un .not (.s 4)⟩] [1, 5])
  (.cond (.s 5)
    (.seq (.reg [
      ⟨(some 2), none, .mov (.c (.t (.int .i64 0)))⟩] [2])
    (.ret))
    (.skip)))
  (.seq (.reg [
    ⟨(some 6), none, .faddr 1 (.s 1)⟩,
    ⟨(some 7), none, .load none (.s 6)⟩,
    ⟨(some 8), none, .len false (.s 7)⟩,
    ⟨(some 9), none, .bin .shl (.c (.t (.int .i64 1))) (.s 8)⟩,
    ⟨(some 10), none, .bin .sub (.s 9) (.c (.t (.int .i64 1)))⟩,
    ⟨(some 2), none, .mov (.s 10)⟩] [2])
  (.ret)))⟩
theorem t_spec_FullMask : tbl 54 = some M_spec_FullMask := tblOf_eq Try.func54 (by kernel_rfl) (by kernel_rfl)

/-- loop.example/g01921/laws.toAtomS -/
def B_laws_toAtomS_0 : MCode :=
  .seq (.seq (.reg [
    ⟨(some 8), none, .mov (.s 4)⟩,
    ⟨(some 9), none, .mov (.s 0)⟩,
    ⟨(some 10), none, .len false (.s 9)⟩,
    ⟨(some 11), none, .bin .lss (.s 8) (.s 10)⟩] [0, 3, 4, 11])
  (.cond (.s 11)
    (.skip)
    (.exit 0)))
  (.seq (.block 1 (.reg [
    ⟨(some 14), none, .mov (.s 3)⟩,
    ⟨(some 15), none, .mov (.s 4)⟩,
    ⟨(some 16), none, .mov (.s 0)⟩,
    ⟨(some 17), none, .mov (.s 4)⟩,
    ⟨(some 18), none, .iaddr 2 (.s 16) (.s 17)⟩,
    ⟨(some 19), none, .load (some 2) (.s 18)⟩,
    ⟨(some 20), none, .call 109 [(.s 19)]⟩,
    ⟨(some 21), none, .iaddr 2 (.s 14) (.s 15)⟩,
    ⟨none, none, .store 2 (.s 21) (.s 20)⟩] [0, 3, 4]))
  (.reg [
    ⟨(some 12), none, .mov (.s 4)⟩,
    ⟨(some 13), none, .bin .add (.s 12) (.c (.t (.int .i64 1)))⟩,
    ⟨(some 4), none, .mov (.s 13)⟩] [0, 3, 4]))

def M_laws_toAtomS : MFun := ⟨1, 23, [.tmp 2],
  .seq (.reg [
    ⟨(some 2), none, .mov (.c (.t .nil))⟩] [0])
  (.seq (.reg [
    ⟨(some 5), none, .mov (.s 0)⟩,
    ⟨(some 6), none, .len false (.s 5)⟩,
    ⟨(some 7), none, .mkslice 168 2 40 [(.str ⟨#[]⟩), .nil] (.s 6) (.s 6)⟩,
    ⟨(some 3), none, .mov (.s 7)⟩] [0, 3])
  (.seq (.seq (.reg [
    ⟨(some 4), none, .mov (.c (.t (.int .i64 0)))⟩] [0, 3, 4])
  (.block 0 (.loop [0, 3, 4] B_laws_toAtomS_0)))
  (.seq (.reg [
    ⟨(some 22), none, .mov (.s 3)⟩,
    ⟨(some 2), none, .mov (.s 22)⟩] [2])
  (.ret))))⟩
theorem t_laws_toAtomS : tbl 55 = some M_laws_toAtomS := tblOf_eq Try.func55 (by kernel_rfl) (by kernel_rfl)

/-- loop.example/g01921/laws.toPlanStepS -/
def B_laws_toPlanStepS_0 : MCode :=
  .seq (.seq (.reg [
    ⟨(some 8), none, .mov (.s 4)⟩,
    ⟨(some 9), none, .mov (.s 0)⟩,
    ⟨(some 10), none, .len false (.s 9)⟩,
    ⟨(some 11), none, .bin .lss (.s 8) (.s 10)⟩] [0, 3, 4, 11])
  (.cond (.s 11)
    (.skip)
    (.exit 0)))
  (.seq (.block 1 (.reg [
    ⟨(some 14), none, .mov (.s 3)⟩,
    ⟨(some 15), none, .mov (.s 4)⟩,
    ⟨(some 16), none, .mov (.s 0)⟩,
    ⟨(some 17), none, .mov (.s 4)⟩,
    ⟨(some 18), none, .iaddr 3 (.s 16) (.s 17)⟩,
    ⟨(some 19), none, .load (some 3) (.s 18)⟩,
    ⟨(some 20), none, .call 110 [(.s 19)]⟩,
    ⟨(some 21), none, .iaddr 3 (.s 14) (.s 15)⟩,
    ⟨none, none, .store 3 (.s 21) (.s 20)⟩] [0, 3, 4]))
  (.reg [
    ⟨(some 12), none, .mov (.s 4)⟩,
    ⟨(some 13), none, .bin .add (.s 12) (.c (.t (.int .i64 1)))⟩,
    ⟨(some 4), none, .mov (.s 13)⟩] [0, 3, 4]))

def M_laws_toPlanStepS : MFun := ⟨1, 23, [.tmp 2],
  .seq (.reg [
    ⟨(some 2), none, .mov (.c (.t .nil))⟩] [0])
  (.seq (.reg [
    ⟨(some 5), none, .mov (.s 0)⟩,
    ⟨(some 6), none, .len false (.s 5)⟩,
    ⟨(some 7), none, .mkslice 166 3 24 [(.int .i64 0), (.int .i64 0), (.int .i64 0)] (.s 6) (.s 6)⟩,
    ⟨(some 3), none, .mov (.s 7)⟩] [0, 3])
  (.seq (.seq (.reg [
    ⟨(some 4), none, .mov (.c (.t (.int .i64 0)))⟩] [0, 3, 4])
  (.block 0 (.loop [0, 3, 4] B_laws_toPlanStepS_0)))
  (.seq (.reg [
    ⟨(some 22), none, .mov (.s 3)⟩,
    ⟨(some 2), none, .mov (.s 22)⟩] [2])
  (.ret))))⟩
theorem t_laws_toPlanStepS : tbl 56 = some M_laws_toPlanStepS := tblOf_eq Try.func56 (by kernel_rfl) (by kernel_rfl)

/-- loop.example/g01921/laws.toIntS -/
def B_laws_toIntS_0 : MCode :=
  .seq (.seq (.reg [
    ⟨(some 8), none, .mov (.s 4)⟩,
    ⟨(some 9), none, .mov (.s 0)⟩,
    ⟨(some 10), none, .len false (.s 9)⟩,
    ⟨(some 11), none, .bin .lss (.s 8) (.s 10)⟩] [0, 3, 4, 11])
  (.cond (.s 11)
    (.skip)
    (.exit 0)))
  (.seq (.block 1 (.reg [
    ⟨(some 14), none, .mov (.s 3)⟩,
    ⟨(some 15), none, .mov (.s 4)⟩,
    ⟨(some 16), none, .mov (.s 0)⟩,
    ⟨(some 17), none, .mov (.s 4)⟩,
    ⟨(some 18), none, .iaddr 1 (.s 16) (.s 17)⟩,
    ⟨(some 19), none, .load none (.s 18)⟩,
    ⟨(some 20), none, .iaddr 1 (.s 14) (.s 15)⟩,
    ⟨none, none, .store 1 (.s 20) (.s 19)⟩] [0, 3, 4]))
  (.reg [
    ⟨(some 12), none, .mov (.s 4)⟩,
    ⟨(some 13), none, .bin .add (.s 12) (.c (.t (.int .i64 1)))⟩,
    ⟨(some 4), none, .mov (.s 13)⟩] [0, 3, 4]))

def M_laws_toIntS : MFun := ⟨1, 22, [.tmp 2],
  .seq (.reg [
    ⟨(some 2), none, .mov (.c (.t .nil))⟩] [0])
  (.seq (.reg [
    ⟨(some 5), none, .mov (.s 0)⟩,
    ⟨(some 6), none, .len false (.s 5)⟩,
    ⟨(some 7), none, .mkslice 3 1 8 [(.int .i64 0)] (.s 6) (.s 6)⟩,
    ⟨(some 3), none, .mov (.s 7)⟩] [0, 3])
  (.seq (.seq (.reg [
    ⟨(some 4), none, .mov (.c (.t (.int .i64 0)))⟩] [0, 3, 4])
  (.block 0 (.loop [0, 3, 4] B_laws_toIntS_0)))
  (.seq (.reg [
    ⟨(some 21), none, .mov (.s 3)⟩,
    ⟨(some 2), none, .mov (.s 21)⟩] [2])
  (.ret))))⟩
theorem t_laws_toIntS : tbl 57 = some M_laws_toIntS := tblOf_eq Try.func57 (by kernel_rfl) (by kernel_rfl)

/-- loop.example/g01921/impl.PlanInfo -/
def B_impl_PlanInfo_0 : MCode :=
  .seq (.reg [
    ⟨(some 28), none, .bin .lss (.s 27) (.s 26)⟩] [2, 6, 7, 25, 26, 27, 28])
  (.seq (.cond (.s 28)
    (.skip)
    (.exit 0))
  (.seq (.block 1 (.seq (.reg [
    ⟨(some 29), none, .mov (.s 27)⟩,
    ⟨(some 30), none, .iaddr 3 (.s 25) (.s 27)⟩,
    ⟨(some 31), none, .load (some 3) (.s 30)⟩,
    ⟨(some 9), none, .alloc [(.t (.int .i64 0)), (.t (.int .i64 0)), (.t (.int .i64 0))]⟩,
    ⟨(some 8), none, .mov (.s 29)⟩,
    ⟨none, none, .store 3 (.s 9) (.s 31)⟩] [2, 6, 7, 8, 9, 25, 26, 27])
  (.seq (.reg [
    ⟨(some 33), none, .load (some 2) (.s 2)⟩,
    ⟨(some 34), none, .load (some 3) (.s 9)⟩,
    ⟨(some 35), none, .mov (.s 6)⟩,
    ⟨(some 36), none, .mov (.s 7)⟩,
    ⟨(some 37), none, .call 111 [(.s 33), (.s 34), (.s 35), (.s 36)]⟩,
    ⟨(some 32), none, .mov (.s 37)⟩,
    ⟨(some 38), none, .ext (.s 32) 0⟩,
    ⟨(some 39), none, .ext (.s 32) 1⟩,
    ⟨(some 10), none, .alloc [(.t (.int .i64 0)), (.t (.int .i64 0)), (.t (.int .i64 0)), (.t (.int .i64 0))]⟩,
    ⟨none, none, .store 4 (.s 10) (.s 38)⟩,
    ⟨(some 11), none, .mov (.s 39)⟩] [2, 6, 7, 8, 10, 11, 25, 26, 27])
  (.seq (.seq (.reg [
    ⟨(some 40), none, .mov (.s 11)⟩,
    ⟨(some 41), none, .un .not (.s 40)⟩] [2, 6, 7, 8, 10, 25, 26, 27, 41])
  (.cond (.s 41)
    (.seq (.reg [
      ⟨(some 4), none, .mov (.c (.t .nil))⟩,
      ⟨(some 5), none, .mov (.c (.t (.bool false)))⟩] [4, 5])
    (.ret))
    (.skip)))
  (.seq (.reg [
    ⟨(some 42), none, .mov (.s 6)⟩,
    ⟨(some 43), none, .load (some 4) (.s 10)⟩,
    ⟨(some 44), none, .bslice 111 4 1 [(.int .i64 0), (.int .i64 0), (.int .i64 0), (.int .i64 0)] [(0, (.s 43))]⟩,
    ⟨(some 45), none, .append 111 4 32 true (.s 42) (.s 44)⟩,
    ⟨(some 6), none, .mov (.s 45)⟩] [2, 6, 7, 8, 10, 25, 26, 27])
  (.seq (.block 2 (.seq (.reg [
    ⟨(some 47), none, .faddr 3 (.s 10)⟩,
    ⟨(some 48), none, .load none (.s 47)⟩,
    ⟨(some 49), none, .bin .geq (.s 48) (.c (.t (.int .i64 0)))⟩,
    ⟨(some 46), none, .mov (.s 49)⟩] [2, 6, 7, 8, 10, 25, 26, 27, 46])
  (.cond (.s 46)
    (.reg [
      ⟨(some 50), none, .mov (.s 7)⟩,
      ⟨(some 51), none, .mov (.s 7)⟩,
      ⟨(some 52), none, .len false (.s 51)⟩,
      ⟨(some 53), none, .bin .sub (.s 52) (.c (.t (.int .i64 2)))⟩,
      ⟨(some 54), none, .slice (some 1) (.s 50) none (some (.s 53))⟩,
      ⟨(some 7), none, .mov (.s 54)⟩] [2, 6, 7, 8, 25, 26, 27])
    (.seq (.reg [
      ⟨(some 56), none, .faddr 2 (.s 10)⟩,
      ⟨(some 57), none, .load none (.s 56)⟩,
      ⟨(some 58), none, .bin .geq (.s 57) (.c (.t (.int .i64 0)))⟩,
      ⟨(some 55), none, .mov (.s 58)⟩] [2, 6, 7, 8, 25, 26, 27, 55])
    (.cond (.s 55)
      (.reg [
        ⟨(some 59), none, .mov (.s 7)⟩,
        ⟨(some 60), none, .mov (.s 7)⟩,
        ⟨(some 61), none, .len false (.s 60)⟩,
        ⟨(some 62), none, .bin .sub (.s 61) (.c (.t (.int .i64 1)))⟩,
        ⟨(some 63), none, .slice (some 1) (.s 59) none (some (.s 62))⟩,
        ⟨(some 7), none, .mov (.s 63)⟩] [2, 6, 7, 8, 25, 26, 27])
      (.skip))))))
  (.reg [
    ⟨(some 64), none, .mov (.s 7)⟩,
    ⟨(some 65), none, .mov (.s 8)⟩,
    ⟨(some 66), none, .bslice 3 1 1 [(.int .i64 0)] [(0, (.s 65))]⟩,
    ⟨(some 67), none, .append 3 1 8 true (.s 64) (.s 66)⟩,
    ⟨(some 7), none, .mov (.s 67)⟩] [2, 6, 7, 25, 26, 27])))))))
  (.reg [
    ⟨(some 68), none, .bin .add (.s 27) (.c (.t (.int .i64 1)))⟩,
    ⟨(some 27), none, .mov (.s 68)⟩] [2, 6, 7, 25, 26, 27])))

def M_impl_PlanInfo : MFun := ⟨2, 73, [.tmp 4, .tmp 5],
  .seq (.reg [
    ⟨(some 2), none, .box (.s 0)⟩,
    ⟨(some 3), none, .box (.s 1)⟩,
    ⟨(some 4), none, .mov (.c (.t .nil))⟩,
    ⟨(some 5), none, .mov (.c (.t (.bool false)))⟩] [2, 3])
  (.seq (.seq (.reg [
    ⟨(some 12), none, .load (some 2) (.s 2)⟩,
    ⟨(some 13), none, .call 71 [(.s 12)]⟩,
    ⟨(some 14), none, .un .not (.s 13)⟩,
    ⟨(some 15), none, .mov (.s 14)⟩,
    ⟨(some 16), (some (15, false)), .faddr 0 (.s 3)⟩,
    ⟨(some 17), (some (15, false)), .load none (.s 16)⟩,
    ⟨(some 18), (some (15, false)), .len false (.s 17)⟩,
    ⟨(some 19), (some (15, false)), .call 74 [(.s 18), (.c (.t (.int .i64 1))), (.c (.t (.int .i64 14)))]⟩,
    ⟨(some 20), (some (15, false)), .un .not (.s 19)⟩,
    ⟨(some 21), none, .pick (.s 15) (.c (.t (.bool true))) (.s 20)⟩] [2, 3, 21])
  (.cond (.s 21)
    (.seq (.reg [
      ⟨(some 4), none, .mov (.c (.t .nil))⟩,
      ⟨(some 5), none, .mov (.c (.t (.bool false)))⟩] [4, 5])
    (.ret))
    (.skip)))
  (.seq (.reg [
    ⟨(some 22), none, .bslice 111 4 0 [(.int .i64 0), (.int .i64 0), (.int .i64 0), (.int .i64 0)] []⟩,
    ⟨(some 6), none, .mov (.s 22)⟩] [2, 3, 6])
  (.seq (.reg [
    ⟨(some 23), none, .bslice 3 1 0 [(.int .i64 0)] []⟩,
    ⟨(some 7), none, .mov (.s 23)⟩] [2, 3, 6, 7])
  (.seq (.seq (.reg [
    ⟨(some 24), none, .faddr 0 (.s 3)⟩,
    ⟨(some 25), none, .load none (.s 24)⟩,
    ⟨(some 26), none, .len false (.s 25)⟩,
    ⟨(some 27), none, .mov (.c (.t (.int .i64 0)))⟩] [2, 6, 7, 25, 26, 27])
  (.block 0 (.loop [2, 6, 7, 25, 26, 27] B_impl_PlanInfo_0)))
  (.seq (.seq (.reg [
    ⟨(some 69), none, .mov (.s 7)⟩,
    ⟨(some 70), none, .len false (.s 69)⟩,
    ⟨(some 71), none, .bin .neq (.s 70) (.c (.t (.int .i64 1)))⟩] [6, 71])
  (.cond (.s 71)
    (.seq (.reg [
      ⟨(some 4), none, .mov (.c (.t .nil))⟩,
      ⟨(some 5), none, .mov (.c (.t (.bool false)))⟩] [4, 5])
    (.ret))
    (.skip)))
  (.seq (.reg [
    ⟨(some 72), none, .mov (.s 6)⟩,
    ⟨(some 4), none, .mov (.s 72)⟩,
    ⟨(some 5), none, .mov (.c (.t (.bool true)))⟩] [4, 5])
  (.ret)))))))⟩
theorem t_impl_PlanInfo : tbl 58 = some M_impl_PlanInfo := tblOf_eq Try.func58 (by kernel_rfl) (by kernel_rfl)

/-- loop.example/g01921/impl.boxOk -/
def M_impl_boxOk : MFun := ⟨2, 16, [.tmp 4],
  .seq (.reg [
    ⟨(some 2), none, .box (.s 0)⟩,
    ⟨(some 3), none, .box (.s 1)⟩,
    ⟨(some 4), none, .mov (.c (.t (.bool false)))⟩] [2, 3])
  (.seq (.drw [
    ⟨(some 5), none, .load (some 2) (.s 3)⟩,
    ⟨(some 6), none, .call 112 [(.s 5)]⟩,
    ⟨(some 7), none, .mov (.s 6)⟩,
    ⟨(some 8), (some (7, true)), .faddr 0 (.s 3)⟩,
    ⟨(some 9), (some (7, true)), .load none (.s 8)⟩,
    ⟨(some 10), (some (7, true)), .len false (.s 9)⟩,
    ⟨(some 11), (some (7, true)), .load (some 2) (.s 2)⟩,
    ⟨(some 12), (some (7, true)), .call 73 [(.s 11)]⟩,
    ⟨(some 13), (some (7, true)), .bin .add (.s 12) (.c (.t (.int .i64 1)))⟩,
    ⟨(some 14), (some (7, true)), .bin .eql (.s 10) (.s 13)⟩,
    ⟨(some 15), none, .pick (.s 7) (.s 14) (.c (.t (.bool false)))⟩,
    ⟨(some 4), none, .mov (.s 15)⟩] [[], [0], [1, 1], [2], [3, 2], [4, 2], [2], [6, 2, 2], [7, 2], [5, 8, 2], [2, 9], [10, 7, 0, 1, 2, 3, 4, 5, 6, 7, 8, 9, 10]] [4])
  (.ret))⟩
theorem t_impl_boxOk : tbl 59 = some M_impl_boxOk := tblOf_eq Try.func59 (by kernel_rfl) (by kernel_rfl)

/-- loop.example/g01921/impl.joinSteps -/
def B_impl_joinSteps_0 : MCode :=
  .seq (.reg [
    ⟨(some 11), none, .bin .lss (.s 10) (.s 9)⟩] [3, 8, 9, 10, 11])
  (.seq (.cond (.s 11)
    (.skip)
    (.exit 0))
  (.seq (.block 1 (.seq (.reg [
    ⟨(some 12), none, .mov (.s 10)⟩,
    ⟨(some 13), none, .iaddr 3 (.s 8) (.s 10)⟩,
    ⟨(some 14), none, .load (some 3) (.s 13)⟩,
    ⟨(some 5), none, .alloc [(.t (.int .i64 0)), (.t (.int .i64 0)), (.t (.int .i64 0))]⟩,
    ⟨(some 4), none, .mov (.s 12)⟩,
    ⟨none, none, .store 3 (.s 5) (.s 14)⟩] [3, 4, 5, 8, 9, 10])
  (.seq (.reg [
    ⟨(some 15), none, .faddr 0 (.s 5)⟩,
    ⟨(some 16), none, .load none (.s 15)⟩,
    ⟨(some 17), none, .bin .geq (.s 16) (.c (.t (.int .i64 3)))⟩] [3, 4, 8, 9, 10, 17])
  (.cond (.s 17)
    (.reg [
      ⟨(some 18), none, .mov (.s 3)⟩,
      ⟨(some 19), none, .mov (.s 4)⟩,
      ⟨(some 20), none, .bslice 3 1 1 [(.int .i64 0)] [(0, (.s 19))]⟩,
      ⟨(some 21), none, .append 3 1 8 true (.s 18) (.s 20)⟩,
      ⟨(some 3), none, .mov (.s 21)⟩] [3, 8, 9, 10])
    (.skip)))))
  (.reg [
    ⟨(some 22), none, .bin .add (.s 10) (.c (.t (.int .i64 1)))⟩,
    ⟨(some 10), none, .mov (.s 22)⟩] [3, 8, 9, 10])))

def M_impl_joinSteps : MFun := ⟨1, 24, [.tmp 2],
  .seq (.reg [
    ⟨(some 1), none, .box (.s 0)⟩,
    ⟨(some 2), none, .mov (.c (.t .nil))⟩] [1])
  (.seq (.reg [
    ⟨(some 6), none, .bslice 3 1 0 [(.int .i64 0)] []⟩,
    ⟨(some 3), none, .mov (.s 6)⟩] [1, 3])
  (.seq (.seq (.reg [
    ⟨(some 7), none, .faddr 0 (.s 1)⟩,
    ⟨(some 8), none, .load none (.s 7)⟩,
    ⟨(some 9), none, .len false (.s 8)⟩,
    ⟨(some 10), none, .mov (.c (.t (.int .i64 0)))⟩] [3, 8, 9, 10])
  (.block 0 (.loop [3, 8, 9, 10] B_impl_joinSteps_0)))
  (.seq (.reg [
    ⟨(some 23), none, .mov (.s 3)⟩,
    ⟨(some 2), none, .mov (.s 23)⟩] [2])
  (.ret))))⟩
theorem t_impl_joinSteps : tbl 60 = some M_impl_joinSteps := tblOf_eq Try.func60 (by kernel_rfl) (by kernel_rfl)

/-- loop.example/g01921/laws.eqAtomS -/
def B_laws_eqAtomS_0 : MCode :=
  .seq (.seq (.reg [
    ⟨(some 11), none, .mov (.s 5)⟩,
    ⟨(some 12), none, .mov (.s 0)⟩,
    ⟨(some 13), none, .len false (.s 12)⟩,
    ⟨(some 14), none, .bin .lss (.s 11) (.s 13)⟩] [0, 1, 5, 14])
  (.cond (.s 14)
    (.skip)
    (.exit 0)))
  (.seq (.block 1 (.seq (.drw [
    ⟨(some 17), none, .mov (.s 0)⟩,
    ⟨(some 18), none, .mov (.s 5)⟩,
    ⟨(some 19), none, .iaddr 2 (.s 17) (.s 18)⟩,
    ⟨(some 20), none, .load (some 2) (.s 19)⟩,
    ⟨(some 21), none, .mov (.s 1)⟩,
    ⟨(some 22), none, .mov (.s 5)⟩,
    ⟨(some 23), none, .iaddr 2 (.s 21) (.s 22)⟩,
    ⟨(some 24), none, .load (some 2) (.s 23)⟩,
    ⟨(some 25), none, .call 113 [(.s 20), (.s 24)]⟩,
    ⟨(some 26), none, .un .not (.s 25)⟩] [[], [], [0, 1], [2], [], [], [4, 5], [6], [3, 7], [8]] [0, 1, 5, 26])
  (.cond (.s 26)
    (.seq (.reg [
      ⟨(some 4), none, .mov (.c (.t (.bool false)))⟩] [4])
    (.ret))
    (.skip))))
  (.reg [
    ⟨(some 15), none, .mov (.s 5)⟩,
    ⟨(some 16), none, .bin .add (.s 15) (.c (.t (.int .i64 1)))⟩,
    ⟨(some 5), none, .mov (.s 16)⟩] [0, 1, 5]))

def M_laws_eqAtomS : MFun := ⟨2, 27, [.tmp 4],
  .seq (.reg [
    ⟨(some 4), none, .mov (.c (.t (.bool false)))⟩] [0, 1])
  (.seq (.seq (.reg [
    ⟨(some 6), none, .mov (.s 0)⟩,
    ⟨(some 7), none, .len false (.s 6)⟩,
    ⟨(some 8), none, .mov (.s 1)⟩,
    ⟨(some 9), none, .len false (.s 8)⟩,
    ⟨(some 10), none, .bin .neq (.s 7) (.s 9)⟩] [0, 1, 10])
  (.cond (.s 10)
    (.seq (.reg [
      ⟨(some 4), none, .mov (.c (.t (.bool false)))⟩] [4])
    (.ret))
    (.skip)))
  (.seq (.seq (.reg [
    ⟨(some 5), none, .mov (.c (.t (.int .i64 0)))⟩] [0, 1, 5])
  (.block 0 (.loop [0, 1, 5] B_laws_eqAtomS_0)))
  (.seq (.reg [
    ⟨(some 4), none, .mov (.c (.t (.bool true)))⟩] [4])
  (.ret))))⟩
theorem t_laws_eqAtomS : tbl 61 = some M_laws_eqAtomS := tblOf_eq Try.func61 (by kernel_rfl) (by kernel_rfl)

/-- loop.example/g01921/laws.eqPlanStepS -/
def B_laws_eqPlanStepS_0 : MCode :=
  .seq (.seq (.reg [
    ⟨(some 11), none, .mov (.s 5)⟩,
    ⟨(some 12), none, .mov (.s 0)⟩,
    ⟨(some 13), none, .len false (.s 12)⟩,
    ⟨(some 14), none, .bin .lss (.s 11) (.s 13)⟩] [0, 1, 5, 14])
  (.cond (.s 14)
    (.skip)
    (.exit 0)))
  (.seq (.block 1 (.seq (.drw [
    ⟨(some 17), none, .mov (.s 0)⟩,
    ⟨(some 18), none, .mov (.s 5)⟩,
    ⟨(some 19), none, .iaddr 3 (.s 17) (.s 18)⟩,
    ⟨(some 20), none, .load (some 3) (.s 19)⟩,
    ⟨(some 21), none, .mov (.s 1)⟩,
    ⟨(some 22), none, .mov (.s 5)⟩,
    ⟨(some 23), none, .iaddr 3 (.s 21) (.s 22)⟩,
    ⟨(some 24), none, .load (some 3) (.s 23)⟩,
    ⟨(some 25), none, .call 114 [(.s 20), (.s 24)]⟩,
    ⟨(some 26), none, .un .not (.s 25)⟩] [[], [], [0, 1], [2], [], [], [4, 5], [6], [3, 7], [8]] [0, 1, 5, 26])
  (.cond (.s 26)
    (.seq (.reg [
      ⟨(some 4), none, .mov (.c (.t (.bool false)))⟩] [4])
    (.ret))
    (.skip))))
  (.reg [
    ⟨(some 15), none, .mov (.s 5)⟩,
    ⟨(some 16), none, .bin .add (.s 15) (.c (.t (.int .i64 1)))⟩,
    ⟨(some 5), none, .mov (.s 16)⟩] [0, 1, 5]))

def M_laws_eqPlanStepS : MFun := ⟨2, 27, [.tmp 4],
  .seq (.reg [
    ⟨(some 4), none, .mov (.c (.t (.bool false)))⟩] [0, 1])
  (.seq (.seq (.reg [
    ⟨(some 6), none, .mov (.s 0)⟩,
    ⟨(some 7), none, .len false (.s 6)⟩,
    ⟨(some 8), none, .mov (.s 1)⟩,
    ⟨(some 9), none, .len false (.s 8)⟩,
    ⟨(some 10), none, .bin .neq (.s 7) (.s 9)⟩] [0, 1, 10])
  (.cond (.s 10)
    (.seq (.reg [
      ⟨(some 4), none, .mov (.c (.t (.bool false)))⟩] [4])
    (.ret))
    (.skip)))
  (.seq (.seq (.reg [
    ⟨(some 5), none, .mov (.c (.t (.int .i64 0)))⟩] [0, 1, 5])
  (.block 0 (.loop [0, 1, 5] B_laws_eqPlanStepS_0)))
  (.seq (.reg [
    ⟨(some 4), none, .mov (.c (.t (.bool true)))⟩] [4])
  (.ret))))⟩
theorem t_laws_eqPlanStepS : tbl 62 = some M_laws_eqPlanStepS := tblOf_eq Try.func62 (by kernel_rfl) (by kernel_rfl)

/-- loop.example/g01921/laws.eqIntS -/
def B_laws_eqIntS_0 : MCode :=
  .seq (.seq (.reg [
    ⟨(some 11), none, .mov (.s 5)⟩,
    ⟨(some 12), none, .mov (.s 0)⟩,
    ⟨(some 13), none, .len false (.s 12)⟩,
    ⟨(some 14), none, .bin .lss (.s 11) (.s 13)⟩] [0, 1, 5, 14])
  (.cond (.s 14)
    (.skip)
    (.exit 0)))
  (.seq (.block 1 (.seq (.drw [
    ⟨(some 17), none, .mov (.s 0)⟩,
    ⟨(some 18), none, .mov (.s 5)⟩,
    ⟨(some 19), none, .iaddr 1 (.s 17) (.s 18)⟩,
    ⟨(some 20), none, .load none (.s 19)⟩,
    ⟨(some 21), none, .mov (.s 1)⟩,
    ⟨(some 22), none, .mov (.s 5)⟩,
    ⟨(some 23), none, .iaddr 1 (.s 21) (.s 22)⟩,
    ⟨(some 24), none, .load none (.s 23)⟩,
    ⟨(some 25), none, .bin .neq (.s 20) (.s 24)⟩] [[], [], [0, 1], [2], [], [], [4, 5], [6], [3, 7]] [0, 1, 5, 25])
  (.cond (.s 25)
    (.seq (.reg [
      ⟨(some 4), none, .mov (.c (.t (.bool false)))⟩] [4])
    (.ret))
    (.skip))))
  (.reg [
    ⟨(some 15), none, .mov (.s 5)⟩,
    ⟨(some 16), none, .bin .add (.s 15) (.c (.t (.int .i64 1)))⟩,
    ⟨(some 5), none, .mov (.s 16)⟩] [0, 1, 5]))

def M_laws_eqIntS : MFun := ⟨2, 26, [.tmp 4],
  .seq (.reg [
    ⟨(some 4), none, .mov (.c (.t (.bool false)))⟩] [0, 1])
  (.seq (.seq (.reg [
    ⟨(some 6), none, .mov (.s 0)⟩,
    ⟨(some 7), none, .len false (.s 6)⟩,
    ⟨(some 8), none, .mov (.s 1)⟩,
    ⟨(some 9), none, .len false (.s 8)⟩,
    ⟨(some 10), none, .bin .neq (.s 7) (.s 9)⟩] [0, 1, 10])
  (.cond (.s 10)
    (.seq (.reg [
      ⟨(some 4), none, .mov (.c (.t (.bool false)))⟩] [4])
    (.ret))
    (.skip)))
  (.seq (.seq (.reg [
    ⟨(some 5), none, .mov (.c (.t (.int .i64 0)))⟩] [0, 1, 5])
  (.block 0 (.loop [0, 1, 5] B_laws_eqIntS_0)))
  (.seq (.reg [
    ⟨(some 4), none, .mov (.c (.t (.bool true)))⟩] [4])
  (.ret))))⟩
theorem t_laws_eqIntS : tbl 63 = some M_laws_eqIntS := tblOf_eq Try.func63 (by kernel_rfl) (by kernel_rfl)

/-- loop.example/g01921/spec.SubplanAt -/
def M_spec_SubplanAt : MFun := ⟨3, 38, [.cell 6 (some 1), .tmp 7],
  .seq (.reg [
    ⟨(some 3), none, .box (.s 0)⟩,
    ⟨(some 4), none, .box (.s 1)⟩,
    ⟨(some 6), none, .alloc [(.t .nil)]⟩,
    ⟨(some 7), none, .mov (.c (.t (.bool false)))⟩] [2, 3, 4, 6])
  (.seq (.reg [
    ⟨(some 11), none, .load (some 2) (.s 3)⟩,
    ⟨(some 12), none, .load (some 1) (.s 4)⟩,
    ⟨(some 13), none, .call 52 [(.s 11), (.s 12)]⟩,
    ⟨(some 10), none, .mov (.s 13)⟩,
    ⟨(some 14), none, .ext (.s 10) 0⟩,
    ⟨(some 15), none, .ext (.s 10) 1⟩,
    ⟨(some 8), none, .mov (.s 14)⟩,
    ⟨(some 9), none, .mov (.s 15)⟩] [2, 4, 6, 8, 9])
  (.seq (.seq (.reg [
    ⟨(some 16), none, .mov (.s 9)⟩,
    ⟨(some 17), none, .un .not (.s 16)⟩,
    ⟨(some 18), none, .mov (.s 17)⟩,
    ⟨(some 19), (some (18, false)), .mov (.s 2)⟩,
    ⟨(some 20), (some (18, false)), .mov (.s 8)⟩,
    ⟨(some 21), (some (18, false)), .len false (.s 20)⟩,
    ⟨(some 22), (some (18, false)), .bin .sub (.s 21) (.c (.t (.int .i64 1)))⟩,
    ⟨(some 23), (some (18, false)), .call 70 [(.s 19), (.c (.t (.int .i64 0))), (.s 22)]⟩,
    ⟨(some 24), (some (18, false)), .un .not (.s 23)⟩,
    ⟨(some 25), none, .pick (.s 18) (.c (.t (.bool true))) (.s 24)⟩] [2, 4, 6, 8, 25])
  (.cond (.s 25)
    (.seq (.reg [
      ⟨(some 26), none, .build [(.t .nil)] []⟩,
      ⟨none, none, .store 1 (.s 6) (.s 26)⟩,
      ⟨(some 7), none, .mov (.c (.t (.bool false)))⟩] [6, 7])
    (.ret))
    (.skip)))
  (.seq (.drw [
    ⟨(some 27), none, .bslice 166 3 0 [(.int .i64 0), (.int .i64 0), (.int .i64 0)] []⟩,
    ⟨(some 28), none, .faddr 0 (.s 4)⟩,
    ⟨(some 29), none, .load none (.s 28)⟩,
    ⟨(some 30), none, .mov (.s 8)⟩,
    ⟨(some 31), none, .mov (.s 2)⟩,
    ⟨(some 32), none, .call 115 [(.s 30), (.s 31)]⟩,
    ⟨(some 33), none, .mov (.s 2)⟩,
    ⟨(some 34), none, .bin .add (.s 33) (.c (.t (.int .i64 1)))⟩,
    ⟨(some 35), none, .slice (some 3) (.s 29) (some (.s 32)) (some (.s 34))⟩,
    ⟨(some 36), none, .append 166 3 24 false (.s 27) (.s 35)⟩,
    ⟨(some 37), none, .build [(.t .nil)] [(0, 1, (.s 36))]⟩,
    ⟨none, none, .store 1 (.s 6) (.s 37)⟩,
    ⟨(some 7), none, .mov (.c (.t (.bool true)))⟩] [[], [], [1], [], [], [3, 4], [], [6], [2, 5, 7], [0, 8, 5], [9], [10, 9, 0, 1, 2, 3, 4, 5, 6, 7, 8, 9, 10], [11, 0, 1, 2, 3, 4, 5, 6, 7, 8, 9, 10, 11]] [6, 7])
  (.ret))))⟩
theorem t_spec_SubplanAt : tbl 64 = some M_spec_SubplanAt := tblOf_eq Try.func64 (by kernel_rfl) (by kernel_rfl)

/-- loop.example/g01921/impl.SubplanAt -/
def M_impl_SubplanAt : MFun := ⟨3, 37, [.cell 6 (some 1), .tmp 7],
  .seq (.reg [
    ⟨(some 3), none, .box (.s 0)⟩,
    ⟨(some 4), none, .box (.s 1)⟩,
    ⟨(some 6), none, .alloc [(.t .nil)]⟩,
    ⟨(some 7), none, .mov (.c (.t (.bool false)))⟩] [2, 3, 4, 6])
  (.seq (.reg [
    ⟨(some 11), none, .load (some 2) (.s 3)⟩,
    ⟨(some 12), none, .load (some 1) (.s 4)⟩,
    ⟨(some 13), none, .call 58 [(.s 11), (.s 12)]⟩,
    ⟨(some 10), none, .mov (.s 13)⟩,
    ⟨(some 14), none, .ext (.s 10) 0⟩,
    ⟨(some 15), none, .ext (.s 10) 1⟩,
    ⟨(some 8), none, .mov (.s 14)⟩,
    ⟨(some 9), none, .mov (.s 15)⟩] [2, 4, 6, 8, 9])
  (.seq (.seq (.reg [
    ⟨(some 16), none, .mov (.s 9)⟩,
    ⟨(some 17), none, .un .not (.s 16)⟩,
    ⟨(some 18), none, .mov (.s 17)⟩,
    ⟨(some 19), (some (18, false)), .mov (.s 2)⟩,
    ⟨(some 20), (some (18, false)), .mov (.s 8)⟩,
    ⟨(some 21), (some (18, false)), .len false (.s 20)⟩,
    ⟨(some 22), (some (18, false)), .bin .sub (.s 21) (.c (.t (.int .i64 1)))⟩,
    ⟨(some 23), (some (18, false)), .call 74 [(.s 19), (.c (.t (.int .i64 0))), (.s 22)]⟩,
    ⟨(some 24), (some (18, false)), .un .not (.s 23)⟩,
    ⟨(some 25), none, .pick (.s 18) (.c (.t (.bool true))) (.s 24)⟩] [2, 4, 6, 8, 25])
  (.cond (.s 25)
    (.seq (.reg [
      ⟨(some 26), none, .build [(.t .nil)] []⟩,
      ⟨none, none, .store 1 (.s 6) (.s 26)⟩,
      ⟨(some 7), none, .mov (.c (.t (.bool false)))⟩] [6, 7])
    (.ret))
    (.skip)))
  (.seq (.drw [
    ⟨(some 27), none, .faddr 0 (.s 4)⟩,
    ⟨(some 28), none, .load none (.s 27)⟩,
    ⟨(some 29), none, .mov (.s 8)⟩,
    ⟨(some 30), none, .mov (.s 2)⟩,
    ⟨(some 31), none, .call 117 [(.s 29), (.s 30)]⟩,
    ⟨(some 32), none, .mov (.s 2)⟩,
    ⟨(some 33), none, .bin .add (.s 32) (.c (.t (.int .i64 1)))⟩,
    ⟨(some 34), none, .slice (some 3) (.s 28) (some (.s 31)) (some (.s 33))⟩,
    ⟨(some 35), none, .build [(.t .nil)] [(0, 1, (.s 34))]⟩,
    ⟨(some 36), none, .call 116 [(.s 35)]⟩,
    ⟨none, none, .store 1 (.s 6) (.s 36)⟩,
    ⟨(some 7), none, .mov (.c (.t (.bool true)))⟩] [[], [0], [], [], [2, 3], [], [5], [1, 4, 6], [7], [8, 4], [9, 9, 0, 1, 2, 3, 4, 5, 6, 7, 8, 9], [10, 0, 1, 2, 3, 4, 5, 6, 7, 8, 9, 10]] [6, 7])
  (.ret))))⟩
theorem t_impl_SubplanAt : tbl 65 = some M_impl_SubplanAt := tblOf_eq Try.func65 (by kernel_rfl) (by kernel_rfl)

/-- loop.example/g01921/laws.markAtomS -/
def B_laws_markAtomS_0 : MCode :=
  .seq (.seq (.reg [
    ⟨(some 6), none, .mov (.s 5)⟩,
    ⟨(some 7), none, .mov (.s 0)⟩,
    ⟨(some 8), none, .len false (.s 7)⟩,
    ⟨(some 9), none, .bin .lss (.s 6) (.s 8)⟩] [0, 1, 5, 9])
  (.cond (.s 9)
    (.skip)
    (.exit 0)))
  (.seq (.block 1 (.seq (.reg [
    ⟨(some 12), none, .mov (.s 0)⟩,
    ⟨(some 13), none, .mov (.s 5)⟩,
    ⟨(some 14), none, .mov (.s 1)⟩,
    ⟨(some 15), none, .icall 118 [(.s 14)]⟩,
    ⟨(some 16), none, .iaddr 2 (.s 12) (.s 13)⟩,
    ⟨(some 17), none, .faddr 0 (.s 16)⟩,
    ⟨none, none, .store 1 (.s 17) (.s 15)⟩] [0, 1, 5])
  (.seq (.reg [
    ⟨(some 18), none, .mov (.s 1)⟩,
    ⟨(some 19), none, .bin .add (.s 18) (.c (.t (.int .i64 1)))⟩,
    ⟨(some 1), none, .mov (.s 19)⟩] [0, 1, 5])
  (.reg [
    ⟨(some 20), none, .mov (.s 0)⟩,
    ⟨(some 21), none, .mov (.s 5)⟩,
    ⟨(some 22), none, .iaddr 2 (.s 20) (.s 21)⟩,
    ⟨(some 23), none, .faddr 1 (.s 22)⟩,
    ⟨(some 24), none, .load none (.s 23)⟩,
    ⟨(some 25), none, .mov (.s 1)⟩,
    ⟨(some 26), none, .icall 119 [(.s 24), (.s 25)]⟩,
    ⟨(some 1), none, .mov (.s 26)⟩] [0, 1, 5]))))
  (.reg [
    ⟨(some 10), none, .mov (.s 5)⟩,
    ⟨(some 11), none, .bin .add (.s 10) (.c (.t (.int .i64 1)))⟩,
    ⟨(some 5), none, .mov (.s 11)⟩] [0, 1, 5]))

def M_laws_markAtomS : MFun := ⟨2, 28, [.tmp 4],
  .seq (.reg [
    ⟨(some 4), none, .mov (.c (.t (.int .i64 0)))⟩] [0, 1])
  (.seq (.seq (.reg [
    ⟨(some 5), none, .mov (.c (.t (.int .i64 0)))⟩] [0, 1, 5])
  (.block 0 (.loop [0, 1, 5] B_laws_markAtomS_0)))
  (.seq (.reg [
    ⟨(some 27), none, .mov (.s 1)⟩,
    ⟨(some 4), none, .mov (.s 27)⟩] [4])
  (.ret)))⟩
theorem t_laws_markAtomS : tbl 66 = some M_laws_markAtomS := tblOf_eq Try.func66 (by kernel_rfl) (by kernel_rfl)

/-- loop.example/g01921/laws.markPlanStepS -/
def B_laws_markPlanStepS_0 : MCode :=
  .seq (.seq (.reg [
    ⟨(some 6), none, .mov (.s 5)⟩,
    ⟨(some 7), none, .mov (.s 0)⟩,
    ⟨(some 8), none, .len false (.s 7)⟩,
    ⟨(some 9), none, .bin .lss (.s 6) (.s 8)⟩] [0, 1, 5, 9])
  (.cond (.s 9)
    (.skip)
    (.exit 0)))
  (.seq (.block 1 (.seq (.reg [
    ⟨(some 12), none, .mov (.s 0)⟩,
    ⟨(some 13), none, .mov (.s 5)⟩,
    ⟨(some 14), none, .mov (.s 1)⟩,
    ⟨(some 15), none, .iaddr 3 (.s 12) (.s 13)⟩,
    ⟨(some 16), none, .faddr 0 (.s 15)⟩,
    ⟨none, none, .store 1 (.s 16) (.s 14)⟩] [0, 1, 5])
  (.seq (.reg [
    ⟨(some 17), none, .mov (.s 1)⟩,
    ⟨(some 18), none, .bin .add (.s 17) (.c (.t (.int .i64 1)))⟩,
    ⟨(some 1), none, .mov (.s 18)⟩] [0, 1, 5])
  (.seq (.reg [
    ⟨(some 19), none, .mov (.s 0)⟩,
    ⟨(some 20), none, .mov (.s 5)⟩,
    ⟨(some 21), none, .mov (.s 1)⟩,
    ⟨(some 22), none, .iaddr 3 (.s 19) (.s 20)⟩,
    ⟨(some 23), none, .faddr 1 (.s 22)⟩,
    ⟨none, none, .store 1 (.s 23) (.s 21)⟩] [0, 1, 5])
  (.seq (.reg [
    ⟨(some 24), none, .mov (.s 1)⟩,
    ⟨(some 25), none, .bin .add (.s 24) (.c (.t (.int .i64 1)))⟩,
    ⟨(some 1), none, .mov (.s 25)⟩] [0, 1, 5])
  (.seq (.reg [
    ⟨(some 26), none, .mov (.s 0)⟩,
    ⟨(some 27), none, .mov (.s 5)⟩,
    ⟨(some 28), none, .mov (.s 1)⟩,
    ⟨(some 29), none, .iaddr 3 (.s 26) (.s 27)⟩,
    ⟨(some 30), none, .faddr 2 (.s 29)⟩,
    ⟨none, none, .store 1 (.s 30) (.s 28)⟩] [0, 1, 5])
  (.reg [
    ⟨(some 31), none, .mov (.s 1)⟩,
    ⟨(some 32), none, .bin .add (.s 31) (.c (.t (.int .i64 1)))⟩,
    ⟨(some 1), none, .mov (.s 32)⟩] [0, 1, 5])))))))
  (.reg [
    ⟨(some 10), none, .mov (.s 5)⟩,
    ⟨(some 11), none, .bin .add (.s 10) (.c (.t (.int .i64 1)))⟩,
    ⟨(some 5), none, .mov (.s 11)⟩] [0, 1, 5]))

def M_laws_markPlanStepS : MFun := ⟨2, 34, [.tmp 4],
  .seq (.reg [
    ⟨(some 4), none, .mov (.c (.t (.int .i64 0)))⟩] [0, 1])
  (.seq (.seq (.reg [
    ⟨(some 5), none, .mov (.c (.t (.int .i64 0)))⟩] [0, 1, 5])
  (.block 0 (.loop [0, 1, 5] B_laws_markPlanStepS_0)))
  (.seq (.reg [
    ⟨(some 33), none, .mov (.s 1)⟩,
    ⟨(some 4), none, .mov (.s 33)⟩] [4])
  (.ret)))⟩
theorem t_laws_markPlanStepS : tbl 67 = some M_laws_markPlanStepS := tblOf_eq Try.func67 (by kernel_rfl) (by kernel_rfl)

/-- loop.example/g01921/laws.heldPlanStepS -/
def B_laws_heldPlanStepS_0 : MCode :=
  .seq (.seq (.reg [
    ⟨(some 6), none, .mov (.s 5)⟩,
    ⟨(some 7), none, .mov (.s 0)⟩,
    ⟨(some 8), none, .len false (.s 7)⟩,
    ⟨(some 9), none, .bin .lss (.s 6) (.s 8)⟩] [0, 1, 5, 9])
  (.cond (.s 9)
    (.skip)
    (.exit 0)))
  (.seq (.block 1 (.seq (.seq (.reg [
    ⟨(some 12), none, .mov (.s 0)⟩,
    ⟨(some 13), none, .mov (.s 5)⟩,
    ⟨(some 14), none, .iaddr 3 (.s 12) (.s 13)⟩,
    ⟨(some 15), none, .faddr 0 (.s 14)⟩,
    ⟨(some 16), none, .load none (.s 15)⟩,
    ⟨(some 17), none, .mov (.s 1)⟩,
    ⟨(some 18), none, .bin .neq (.s 16) (.s 17)⟩] [0, 1, 5, 18])
  (.cond (.s 18)
    (.seq (.reg [
      ⟨(some 4), none, .mov (.c (.t (.int .i64 (-1))))⟩] [4])
    (.ret))
    (.skip)))
  (.seq (.reg [
    ⟨(some 19), none, .mov (.s 1)⟩,
    ⟨(some 20), none, .bin .add (.s 19) (.c (.t (.int .i64 1)))⟩,
    ⟨(some 1), none, .mov (.s 20)⟩] [0, 1, 5])
  (.seq (.seq (.reg [
    ⟨(some 21), none, .mov (.s 0)⟩,
    ⟨(some 22), none, .mov (.s 5)⟩,
    ⟨(some 23), none, .iaddr 3 (.s 21) (.s 22)⟩,
    ⟨(some 24), none, .faddr 1 (.s 23)⟩,
    ⟨(some 25), none, .load none (.s 24)⟩,
    ⟨(some 26), none, .mov (.s 1)⟩,
    ⟨(some 27), none, .bin .neq (.s 25) (.s 26)⟩] [0, 1, 5, 27])
  (.cond (.s 27)
    (.seq (.reg [
      ⟨(some 4), none, .mov (.c (.t (.int .i64 (-1))))⟩] [4])
    (.ret))
    (.skip)))
  (.seq (.reg [
    ⟨(some 28), none, .mov (.s 1)⟩,
    ⟨(some 29), none, .bin .add (.s 28) (.c (.t (.int .i64 1)))⟩,
    ⟨(some 1), none, .mov (.s 29)⟩] [0, 1, 5])
  (.seq (.seq (.reg [
    ⟨(some 30), none, .mov (.s 0)⟩,
    ⟨(some 31), none, .mov (.s 5)⟩,
    ⟨(some 32), none, .iaddr 3 (.s 30) (.s 31)⟩,
    ⟨(some 33), none, .faddr 2 (.s 32)⟩,
    ⟨(some 34), none, .load none (.s 33)⟩,
    ⟨(some 35), none, .mov (.s 1)⟩,
    ⟨(some 36), none, .bin .neq (.s 34) (.s 35)⟩] [0, 1, 5, 36])
  (.cond (.s 36)
    (.seq (.reg [
      ⟨(some 4), none, .mov (.c (.t (.int .i64 (-1))))⟩] [4])
    (.ret))
    (.skip)))
  (.reg [
    ⟨(some 37), none, .mov (.s 1)⟩,
    ⟨(some 38), none, .bin .add (.s 37) (.c (.t (.int .i64 1)))⟩,
    ⟨(some 1), none, .mov (.s 38)⟩] [0, 1, 5])))))))
  (.reg [
    ⟨(some 10), none, .mov (.s 5)⟩,
    ⟨(some 11), none, .bin .add (.s 10) (.c (.t (.int .i64 1)))⟩,
    ⟨(some 5), none, .mov (.s 11)⟩] [0, 1, 5]))

def M_laws_heldPlanStepS : MFun := ⟨2, 40, [.tmp 4],
  .seq (.reg [
    ⟨(some 4), none, .mov (.c (.t (.int .i64 0)))⟩] [0, 1])
  (.seq (.seq (.reg [
    ⟨(some 5), none, .mov (.c (.t (.int .i64 0)))⟩] [0, 1, 5])
  (.block 0 (.loop [0, 1, 5] B_laws_heldPlanStepS_0)))
  (.seq (.reg [
    ⟨(some 39), none, .mov (.s 1)⟩,
    ⟨(some 4), none, .mov (.s 39)⟩] [4])
  (.ret)))⟩
theorem t_laws_heldPlanStepS : tbl 68 = some M_laws_heldPlanStepS := tblOf_eq Try.func68 (by kernel_rfl) (by kernel_rfl)

/-- loop.example/g01921/spec.PlanMask -/
def M_spec_PlanMask : MFun := ⟨2, 22, [.tmp 4],
  .seq (.reg [
    ⟨(some 2), none, .box (.s 0)⟩,
    ⟨(some 3), none, .box (.s 1)⟩,
    ⟨(some 4), none, .mov (.c (.t (.int .i64 0)))⟩] [2, 3])
  (.seq (.reg [
    ⟨(some 8), none, .load (some 2) (.s 2)⟩,
    ⟨(some 9), none, .load (some 1) (.s 3)⟩,
    ⟨(some 10), none, .call 52 [(.s 8), (.s 9)]⟩,
    ⟨(some 7), none, .mov (.s 10)⟩,
    ⟨(some 11), none, .ext (.s 7) 0⟩,
    ⟨(some 12), none, .ext (.s 7) 1⟩,
    ⟨(some 5), none, .mov (.s 11)⟩,
    ⟨(some 6), none, .mov (.s 12)⟩] [5, 6])
  (.seq (.seq (.reg [
    ⟨(some 13), none, .mov (.s 6)⟩,
    ⟨(some 14), none, .un .not (.s 13)⟩] [5, 14])
  (.cond (.s 14)
    (.seq (.reg [
      ⟨(some 4), none, .mov (.c (.t (.int .i64 0)))⟩] [4])
    (.ret))
    (.skip)))
  (.seq (.reg [
    ⟨(some 15), none, .mov (.s 5)⟩,
    ⟨(some 16), none, .mov (.s 5)⟩,
    ⟨(some 17), none, .len false (.s 16)⟩,
    ⟨(some 18), none, .bin .sub (.s 17) (.c (.t (.int .i64 1)))⟩,
    ⟨(some 19), none, .iaddr 4 (.s 15) (.s 18)⟩,
    ⟨(some 20), none, .faddr 0 (.s 19)⟩,
    ⟨(some 21), none, .load none (.s 20)⟩,
    ⟨(some 4), none, .mov (.s 21)⟩] [4])
  (.ret))))⟩
theorem t_spec_PlanMask : tbl 69 = some M_spec_PlanMask := tblOf_eq Try.func69 (by kernel_rfl) (by kernel_rfl)

/-- loop.example/g01921/spec.l1In -/
def M_spec_l1In : MFun := ⟨3, 15, [.tmp 6],
  .seq (.reg [
    ⟨(some 6), none, .mov (.c (.t (.bool false)))⟩] [0, 1, 2])
  (.seq (.reg [
    ⟨(some 7), none, .mov (.s 0)⟩,
    ⟨(some 8), none, .mov (.s 1)⟩,
    ⟨(some 9), none, .bin .geq (.s 7) (.s 8)⟩,
    ⟨(some 10), none, .mov (.s 9)⟩,
    ⟨(some 11), (some (10, true)), .mov (.s 0)⟩,
    ⟨(some 12), (some (10, true)), .mov (.s 2)⟩,
    ⟨(some 13), (some (10, true)), .bin .leq (.s 11) (.s 12)⟩,
    ⟨(some 14), none, .pick (.s 10) (.s 13) (.c (.t (.bool false)))⟩,
    ⟨(some 6), none, .mov (.s 14)⟩] [6])
  (.ret))⟩
theorem t_spec_l1In : tbl 70 = some M_spec_l1In := tblOf_eq Try.func70 (by kernel_rfl) (by kernel_rfl)

/-- loop.example/g01921/impl.IsValidQuery -/
def B_impl_IsValidQuery_0 : MCode :=
  .seq (.reg [
    ⟨(some 44), none, .bin .lss (.s 43) (.s 42)⟩] [1, 3, 5, 23, 24, 25, 41, 42, 43, 44])
  (.seq (.cond (.s 44)
    (.skip)
    (.exit 2))
  (.seq (.block 3 (.seq (.reg [
    ⟨(some 45), none, .mov (.s 43)⟩,
    ⟨(some 46), none, .iaddr 1 (.s 41) (.s 43)⟩,
    ⟨(some 47), none, .load none (.s 46)⟩,
    ⟨(some 6), none, .mov (.s 45)⟩,
    ⟨(some 7), none, .mov (.s 47)⟩] [1, 3, 5, 6, 7, 23, 24, 25, 41, 42, 43])
  (.seq (.seq (.reg [
    ⟨(some 48), none, .mov (.s 7)⟩,
    ⟨(some 49), none, .faddr 0 (.s 1)⟩,
    ⟨(some 50), none, .load none (.s 49)⟩,
    ⟨(some 51), none, .bin .sub (.s 50) (.c (.t (.int .i64 1)))⟩,
    ⟨(some 52), none, .call 74 [(.s 48), (.c (.t (.int .i64 0))), (.s 51)]⟩,
    ⟨(some 53), none, .un .not (.s 52)⟩,
    ⟨(some 54), none, .mov (.s 53)⟩,
    ⟨(some 55), (some (54, false)), .faddr 1 (.s 5)⟩,
    ⟨(some 56), (some (54, false)), .load none (.s 55)⟩,
    ⟨(some 57), (some (54, false)), .mov (.s 6)⟩,
    ⟨(some 58), (some (54, false)), .slice (some 1) (.s 56) none (some (.s 57))⟩,
    ⟨(some 59), (some (54, false)), .mov (.s 7)⟩,
    ⟨(some 60), (some (54, false)), .call 121 [(.s 58), (.s 59)]⟩,
    ⟨(some 61), none, .pick (.s 54) (.c (.t (.bool true))) (.s 60)⟩] [1, 3, 5, 7, 23, 24, 25, 41, 42, 43, 61])
  (.cond (.s 61)
    (.seq (.reg [
      ⟨(some 2), none, .mov (.c (.t (.bool false)))⟩] [2])
    (.ret))
    (.skip)))
  (.reg [
    ⟨(some 62), none, .mov (.s 3)⟩,
    ⟨(some 63), none, .mov (.s 7)⟩,
    ⟨(some 64), none, .iaddr 1 (.s 62) (.s 63)⟩,
    ⟨none, none, .store 1 (.s 64) (.c (.t (.bool true)))⟩] [1, 3, 5, 23, 24, 25, 41, 42, 43]))))
  (.reg [
    ⟨(some 65), none, .bin .add (.s 43) (.c (.t (.int .i64 1)))⟩,
    ⟨(some 43), none, .mov (.s 65)⟩] [1, 3, 5, 23, 24, 25, 41, 42, 43])))

def B_impl_IsValidQuery_1 : MCode :=
  .seq (.reg [
    ⟨(some 26), none, .bin .lss (.s 25) (.s 24)⟩] [1, 3, 23, 24, 25, 26])
  (.seq (.cond (.s 26)
    (.skip)
    (.exit 0))
  (.seq (.block 1 (.seq (.reg [
    ⟨(some 27), none, .iaddr 2 (.s 23) (.s 25)⟩,
    ⟨(some 28), none, .load (some 2) (.s 27)⟩,
    ⟨(some 5), none, .alloc [(.t (.str ⟨#[]⟩)), (.t .nil)]⟩,
    ⟨none, none, .store 2 (.s 5) (.s 28)⟩] [1, 3, 5, 23, 24, 25])
  (.seq (.seq (.reg [
    ⟨(some 29), none, .faddr 0 (.s 5)⟩,
    ⟨(some 30), none, .load none (.s 29)⟩,
    ⟨(some 31), none, .call 120 [(.s 30)]⟩,
    ⟨(some 32), none, .un .not (.s 31)⟩,
    ⟨(some 33), none, .mov (.s 32)⟩,
    ⟨(some 34), (some (33, false)), .faddr 1 (.s 5)⟩,
    ⟨(some 35), (some (33, false)), .load none (.s 34)⟩,
    ⟨(some 36), (some (33, false)), .len false (.s 35)⟩,
    ⟨(some 37), (some (33, false)), .call 74 [(.s 36), (.c (.t (.int .i64 1))), (.c (.t (.int .i64 3)))]⟩,
    ⟨(some 38), (some (33, false)), .un .not (.s 37)⟩,
    ⟨(some 39), none, .pick (.s 33) (.c (.t (.bool true))) (.s 38)⟩] [1, 3, 5, 23, 24, 25, 39])
  (.cond (.s 39)
    (.seq (.reg [
      ⟨(some 2), none, .mov (.c (.t (.bool false)))⟩] [2])
    (.ret))
    (.skip)))
  (.seq (.reg [
    ⟨(some 40), none, .faddr 1 (.s 5)⟩,
    ⟨(some 41), none, .load none (.s 40)⟩,
    ⟨(some 42), none, .len false (.s 41)⟩,
    ⟨(some 43), none, .mov (.c (.t (.int .i64 0)))⟩] [1, 3, 5, 23, 24, 25, 41, 42, 43])
  (.block 2 (.loop [1, 3, 5, 23, 24, 25, 41, 42, 43] B_impl_IsValidQuery_0))))))
  (.reg [
    ⟨(some 66), none, .bin .add (.s 25) (.c (.t (.int .i64 1)))⟩,
    ⟨(some 25), none, .mov (.s 66)⟩] [1, 3, 23, 24, 25])))

def M_impl_IsValidQuery : MFun := ⟨1, 70, [.tmp 2],
  .seq (.reg [
    ⟨(some 1), none, .box (.s 0)⟩,
    ⟨(some 2), none, .mov (.c (.t (.bool false)))⟩] [1])
  (.seq (.seq (.reg [
    ⟨(some 8), none, .faddr 0 (.s 1)⟩,
    ⟨(some 9), none, .load none (.s 8)⟩,
    ⟨(some 10), none, .call 74 [(.s 9), (.c (.t (.int .i64 1))), (.c (.t (.int .i64 4)))]⟩,
    ⟨(some 11), none, .un .not (.s 10)⟩,
    ⟨(some 12), none, .mov (.s 11)⟩,
    ⟨(some 13), (some (12, false)), .faddr 1 (.s 1)⟩,
    ⟨(some 14), (some (12, false)), .load none (.s 13)⟩,
    ⟨(some 15), (some (12, false)), .len false (.s 14)⟩,
    ⟨(some 16), (some (12, false)), .call 74 [(.s 15), (.c (.t (.int .i64 1))), (.c (.t (.int .i64 4)))]⟩,
    ⟨(some 17), (some (12, false)), .un .not (.s 16)⟩,
    ⟨(some 18), none, .pick (.s 12) (.c (.t (.bool true))) (.s 17)⟩] [1, 18])
  (.cond (.s 18)
    (.seq (.reg [
      ⟨(some 2), none, .mov (.c (.t (.bool false)))⟩] [2])
    (.ret))
    (.skip)))
  (.seq (.reg [
    ⟨(some 19), none, .faddr 0 (.s 1)⟩,
    ⟨(some 20), none, .load none (.s 19)⟩,
    ⟨(some 21), none, .mkslice 4 1 1 [(.bool false)] (.s 20) (.s 20)⟩,
    ⟨(some 3), none, .mov (.s 21)⟩] [1, 3])
  (.seq (.seq (.reg [
    ⟨(some 22), none, .faddr 1 (.s 1)⟩,
    ⟨(some 23), none, .load none (.s 22)⟩,
    ⟨(some 24), none, .len false (.s 23)⟩,
    ⟨(some 25), none, .mov (.c (.t (.int .i64 0)))⟩] [1, 3, 23, 24, 25])
  (.block 0 (.loop [1, 3, 23, 24, 25] B_impl_IsValidQuery_1)))
  (.seq (.reg [
    ⟨(some 67), none, .mov (.s 3)⟩,
    ⟨(some 68), none, .call 122 [(.s 67), (.c (.t (.bool false)))]⟩,
    ⟨(some 69), none, .un .not (.s 68)⟩,
    ⟨(some 2), none, .mov (.s 69)⟩] [2])
  (.ret)))))⟩
theorem t_impl_IsValidQuery : tbl 71 = some M_impl_IsValidQuery := tblOf_eq Try.func71 (by kernel_rfl) (by kernel_rfl)

/-- loop.example/g01921/impl.PlanMask -/
def M_impl_PlanMask : MFun := ⟨2, 22, [.tmp 4],
  .seq (.reg [
    ⟨(some 2), none, .box (.s 0)⟩,
    ⟨(some 3), none, .box (.s 1)⟩,
    ⟨(some 4), none, .mov (.c (.t (.int .i64 0)))⟩] [2, 3])
  (.seq (.reg [
    ⟨(some 8), none, .load (some 2) (.s 2)⟩,
    ⟨(some 9), none, .load (some 1) (.s 3)⟩,
    ⟨(some 10), none, .call 58 [(.s 8), (.s 9)]⟩,
    ⟨(some 7), none, .mov (.s 10)⟩,
    ⟨(some 11), none, .ext (.s 7) 0⟩,
    ⟨(some 12), none, .ext (.s 7) 1⟩,
    ⟨(some 5), none, .mov (.s 11)⟩,
    ⟨(some 6), none, .mov (.s 12)⟩] [5, 6])
  (.seq (.seq (.reg [
    ⟨(some 13), none, .mov (.s 6)⟩,
    ⟨(some 14), none, .un .not (.s 13)⟩] [5, 14])
  (.cond (.s 14)
    (.seq (.reg [
      ⟨(some 4), none, .mov (.c (.t (.int .i64 0)))⟩] [4])
    (.ret))
    (.skip)))
  (.seq (.reg [
    ⟨(some 15), none, .mov (.s 5)⟩,
    ⟨(some 16), none, .mov (.s 5)⟩,
    ⟨(some 17), none, .len false (.s 16)⟩,
    ⟨(some 18), none, .bin .sub (.s 17) (.c (.t (.int .i64 1)))⟩,
    ⟨(some 19), none, .iaddr 4 (.s 15) (.s 18)⟩,
    ⟨(some 20), none, .faddr 0 (.s 19)⟩,
    ⟨(some 21), none, .load none (.s 20)⟩,
    ⟨(some 4), none, .mov (.s 21)⟩] [4])
  (.ret))))⟩
theorem t_impl_PlanMask : tbl 72 = some M_impl_PlanMask := tblOf_eq Try.func72 (by kernel_rfl) (by kernel_rfl)

/-- loop.example/g01921/impl.FullMask -/
def M_impl_FullMask : MFun := ⟨1, 11, [.tmp 2],
  .seq (.reg [
    ⟨(some 1), none, .box (.s 0)⟩,
    ⟨(some 2), none, .mov (.c (.t (.int .i64 0)))⟩] [1])
  (.seq (.seq (.reg [
    ⟨(some 3), none, .load (some 2) (.s 1)⟩,
    ⟨(some 4), none, .call 71 [(.s 3)]⟩,
    ⟨(some 5), none, .un .not (.s 4)⟩] [1, 5])
  (.cond (.s 5)
    (.seq (.reg [
      ⟨(some 2), none, .mov (.c (.t (.int .i64 0)))⟩] [2])
    (.ret))
    (.skip)))
  (.seq (.reg [
    ⟨(some 6), none, .faddr 1 (.s 1)⟩,
    ⟨(some 7), none, .load none (.s 6)⟩,
    ⟨(some 8), none, .len false (.s 7)⟩,
    ⟨(some 9), none, .bin .shl (.c (.t (.int .i64 1))) (.s 8)⟩,
    ⟨(some 10), none, .bin .sub (.s 9) (.c (.t (.int .i64 1)))⟩,
    ⟨(some 2), none, .mov (.s 10)⟩] [2])
  (.ret)))⟩
theorem t_impl_FullMask : tbl 73 = some M_impl_FullMask := tblOf_eq Try.func73 (by kernel_rfl) (by kernel_rfl)

/-- loop.example/g01921/impl.within -/
def M_impl_within : MFun := ⟨3, 15, [.tmp 6],
  .seq (.reg [
    ⟨(some 6), none, .mov (.c (.t (.bool false)))⟩] [0, 1, 2])
  (.seq (.reg [
    ⟨(some 7), none, .mov (.s 0)⟩,
    ⟨(some 8), none, .mov (.s 1)⟩,
    ⟨(some 9), none, .bin .geq (.s 7) (.s 8)⟩,
    ⟨(some 10), none, .mov (.s 9)⟩,
    ⟨(some 11), (some (10, true)), .mov (.s 0)⟩,
    ⟨(some 12), (some (10, true)), .mov (.s 2)⟩,
    ⟨(some 13), (some (10, true)), .bin .leq (.s 11) (.s 12)⟩,
    ⟨(some 14), none, .pick (.s 10) (.s 13) (.c (.t (.bool false)))⟩,
    ⟨(some 6), none, .mov (.s 14)⟩] [6])
  (.ret))⟩
theorem t_impl_within : tbl 74 = some M_impl_within := tblOf_eq Try.func74 (by kernel_rfl) (by kernel_rfl)

/-- loop.example/g01921/laws.szPlanS -/
def B_laws_szPlanS_0 : MCode :=
  .seq (.seq (.reg [
    ⟨(some 12), none, .mov (.s 5)⟩,
    ⟨(some 13), none, .mov (.s 0)⟩,
    ⟨(some 14), none, .len false (.s 13)⟩,
    ⟨(some 15), none, .bin .lss (.s 12) (.s 14)⟩] [0, 1, 5, 15])
  (.cond (.s 15)
    (.skip)
    (.exit 0)))
  (.seq (.block 1 (.seq (.reg [
    ⟨(some 18), none, .mov (.s 0)⟩,
    ⟨(some 19), none, .mov (.s 5)⟩,
    ⟨(some 20), none, .iaddr 1 (.s 18) (.s 19)⟩,
    ⟨(some 21), none, .load (some 1) (.s 20)⟩,
    ⟨(some 22), none, .mov (.s 1)⟩,
    ⟨(some 23), none, .call 9 [(.s 21), (.s 22)]⟩,
    ⟨(some 1), none, .mov (.s 23)⟩] [0, 1, 5])
  (.seq (.reg [
    ⟨(some 24), none, .mov (.s 1)⟩,
    ⟨(some 25), none, .bin .lss (.s 24) (.c (.t (.int .i64 0)))⟩] [0, 1, 5, 25])
  (.cond (.s 25)
    (.seq (.reg [
      ⟨(some 4), none, .mov (.c (.t (.int .i64 (-1))))⟩] [4])
    (.ret))
    (.skip)))))
  (.reg [
    ⟨(some 16), none, .mov (.s 5)⟩,
    ⟨(some 17), none, .bin .add (.s 16) (.c (.t (.int .i64 1)))⟩,
    ⟨(some 5), none, .mov (.s 17)⟩] [0, 1, 5]))

def M_laws_szPlanS : MFun := ⟨2, 27, [.tmp 4],
  .seq (.reg [
    ⟨(some 4), none, .mov (.c (.t (.int .i64 0)))⟩] [0, 1])
  (.seq (.reg [
    ⟨(some 6), none, .mov (.s 1)⟩,
    ⟨(some 7), none, .mov (.s 0)⟩,
    ⟨(some 8), none, .len false (.s 7)⟩,
    ⟨(some 9), none, .bin .sub (.s 6) (.s 8)⟩,
    ⟨(some 1), none, .mov (.s 9)⟩] [0, 1])
  (.seq (.seq (.reg [
    ⟨(some 10), none, .mov (.s 1)⟩,
    ⟨(some 11), none, .bin .lss (.s 10) (.c (.t (.int .i64 0)))⟩] [0, 1, 11])
  (.cond (.s 11)
    (.seq (.reg [
      ⟨(some 4), none, .mov (.c (.t (.int .i64 (-1))))⟩] [4])
    (.ret))
    (.skip)))
  (.seq (.seq (.reg [
    ⟨(some 5), none, .mov (.c (.t (.int .i64 0)))⟩] [0, 1, 5])
  (.block 0 (.loop [0, 1, 5] B_laws_szPlanS_0)))
  (.seq (.reg [
    ⟨(some 26), none, .mov (.s 1)⟩,
    ⟨(some 4), none, .mov (.s 26)⟩] [4])
  (.ret)))))⟩
theorem t_laws_szPlanS : tbl 75 = some M_laws_szPlanS := tblOf_eq Try.func75 (by kernel_rfl) (by kernel_rfl)

/-- loop.example/g01921/laws.szIntSS -/
def B_laws_szIntSS_0 : MCode :=
  .seq (.seq (.reg [
    ⟨(some 12), none, .mov (.s 5)⟩,
    ⟨(some 13), none, .mov (.s 0)⟩,
    ⟨(some 14), none, .len false (.s 13)⟩,
    ⟨(some 15), none, .bin .lss (.s 12) (.s 14)⟩] [0, 1, 5, 15])
  (.cond (.s 15)
    (.skip)
    (.exit 0)))
  (.seq (.block 1 (.seq (.reg [
    ⟨(some 18), none, .mov (.s 0)⟩,
    ⟨(some 19), none, .mov (.s 5)⟩,
    ⟨(some 20), none, .iaddr 1 (.s 18) (.s 19)⟩,
    ⟨(some 21), none, .load none (.s 20)⟩,
    ⟨(some 22), none, .mov (.s 1)⟩,
    ⟨(some 23), none, .call 51 [(.s 21), (.s 22)]⟩,
    ⟨(some 1), none, .mov (.s 23)⟩] [0, 1, 5])
  (.seq (.reg [
    ⟨(some 24), none, .mov (.s 1)⟩,
    ⟨(some 25), none, .bin .lss (.s 24) (.c (.t (.int .i64 0)))⟩] [0, 1, 5, 25])
  (.cond (.s 25)
    (.seq (.reg [
      ⟨(some 4), none, .mov (.c (.t (.int .i64 (-1))))⟩] [4])
    (.ret))
    (.skip)))))
  (.reg [
    ⟨(some 16), none, .mov (.s 5)⟩,
    ⟨(some 17), none, .bin .add (.s 16) (.c (.t (.int .i64 1)))⟩,
    ⟨(some 5), none, .mov (.s 17)⟩] [0, 1, 5]))

def M_laws_szIntSS : MFun := ⟨2, 27, [.tmp 4],
  .seq (.reg [
    ⟨(some 4), none, .mov (.c (.t (.int .i64 0)))⟩] [0, 1])
  (.seq (.reg [
    ⟨(some 6), none, .mov (.s 1)⟩,
    ⟨(some 7), none, .mov (.s 0)⟩,
    ⟨(some 8), none, .len false (.s 7)⟩,
    ⟨(some 9), none, .bin .sub (.s 6) (.s 8)⟩,
    ⟨(some 1), none, .mov (.s 9)⟩] [0, 1])
  (.seq (.seq (.reg [
    ⟨(some 10), none, .mov (.s 1)⟩,
    ⟨(some 11), none, .bin .lss (.s 10) (.c (.t (.int .i64 0)))⟩] [0, 1, 11])
  (.cond (.s 11)
    (.seq (.reg [
      ⟨(some 4), none, .mov (.c (.t (.int .i64 (-1))))⟩] [4])
    (.ret))
    (.skip)))
  (.seq (.seq (.reg [
    ⟨(some 5), none, .mov (.c (.t (.int .i64 0)))⟩] [0, 1, 5])
  (.block 0 (.loop [0, 1, 5] B_laws_szIntSS_0)))
  (.seq (.reg [
    ⟨(some 26), none, .mov (.s 1)⟩,
    ⟨(some 4), none, .mov (.s 26)⟩] [4])
  (.ret)))))⟩
theorem t_laws_szIntSS : tbl 76 = some M_laws_szIntSS := tblOf_eq Try.func76 (by kernel_rfl) (by kernel_rfl)

/-- loop.example/g01921/spec.IsValidBouquet -/
def B_spec_IsValidBouquet_0 : MCode :=
  .seq (.seq (.reg [
    ⟨(some 54), none, .mov (.s 5)⟩,
    ⟨(some 55), none, .faddr 6 (.s 3)⟩,
    ⟨(some 56), none, .load none (.s 55)⟩,
    ⟨(some 57), none, .len false (.s 56)⟩,
    ⟨(some 58), none, .bin .lss (.s 54) (.s 57)⟩] [2, 3, 5, 58])
  (.cond (.s 58)
    (.skip)
    (.exit 0)))
  (.seq (.block 1 (.seq (.drw [
    ⟨(some 61), none, .load (some 2) (.s 2)⟩,
    ⟨(some 62), none, .faddr 6 (.s 3)⟩,
    ⟨(some 63), none, .load none (.s 62)⟩,
    ⟨(some 64), none, .mov (.s 5)⟩,
    ⟨(some 65), none, .iaddr 1 (.s 63) (.s 64)⟩,
    ⟨(some 66), none, .load (some 1) (.s 65)⟩,
    ⟨(some 67), none, .call 69 [(.s 61), (.s 66)]⟩,
    ⟨(some 68), none, .load (some 2) (.s 2)⟩,
    ⟨(some 69), none, .call 54 [(.s 68)]⟩,
    ⟨(some 70), none, .bin .neq (.s 67) (.s 69)⟩,
    ⟨(some 71), none, .mov (.s 70)⟩,
    ⟨(some 72), (some (71, false)), .load (some 2) (.s 2)⟩,
    ⟨(some 73), (some (71, false)), .call 54 [(.s 72)]⟩,
    ⟨(some 74), (some (71, false)), .bin .eql (.s 73) (.c (.t (.int .i64 0)))⟩,
    ⟨(some 75), none, .pick (.s 71) (.c (.t (.bool true))) (.s 74)⟩] [[], [], [1], [], [2, 3], [4], [0, 5], [], [7, 6], [6, 8], [9, 8], [10], [11, 10, 10], [12, 10], [10, 13]] [2, 3, 5, 75])
  (.cond (.s 75)
    (.seq (.reg [
      ⟨(some 4), none, .mov (.c (.t (.bool false)))⟩] [4])
    (.ret))
    (.skip))))
  (.reg [
    ⟨(some 59), none, .mov (.s 5)⟩,
    ⟨(some 60), none, .bin .add (.s 59) (.c (.t (.int .i64 1)))⟩,
    ⟨(some 5), none, .mov (.s 60)⟩] [2, 3, 5]))

def B_spec_IsValidBouquet_1 : MCode :=
  .seq (.seq (.reg [
    ⟨(some 120), none, .mov (.s 7)⟩,
    ⟨(some 121), none, .faddr 7 (.s 3)⟩,
    ⟨(some 122), none, .load none (.s 121)⟩,
    ⟨(some 123), none, .mov (.s 6)⟩,
    ⟨(some 124), none, .iaddr 1 (.s 122) (.s 123)⟩,
    ⟨(some 125), none, .load none (.s 124)⟩,
    ⟨(some 126), none, .len false (.s 125)⟩,
    ⟨(some 127), none, .bin .lss (.s 120) (.s 126)⟩] [3, 6, 7, 127])
  (.cond (.s 127)
    (.skip)
    (.exit 4)))
  (.seq (.block 5 (.seq (.drw [
    ⟨(some 130), none, .faddr 7 (.s 3)⟩,
    ⟨(some 131), none, .load none (.s 130)⟩,
    ⟨(some 132), none, .mov (.s 6)⟩,
    ⟨(some 133), none, .iaddr 1 (.s 131) (.s 132)⟩,
    ⟨(some 134), none, .load none (.s 133)⟩,
    ⟨(some 135), none, .mov (.s 7)⟩,
    ⟨(some 136), none, .iaddr 1 (.s 134) (.s 135)⟩,
    ⟨(some 137), none, .load none (.s 136)⟩,
    ⟨(some 138), none, .faddr 6 (.s 3)⟩,
    ⟨(some 139), none, .load none (.s 138)⟩,
    ⟨(some 140), none, .len false (.s 139)⟩,
    ⟨(some 141), none, .bin .sub (.s 140) (.c (.t (.int .i64 1)))⟩,
    ⟨(some 142), none, .call 70 [(.s 137), (.c (.t (.int .i64 0))), (.s 141)]⟩,
    ⟨(some 143), none, .un .not (.s 142)⟩,
    ⟨(some 144), none, .mov (.s 143)⟩,
    ⟨(some 145), (some (144, false)), .faddr 7 (.s 3)⟩,
    ⟨(some 146), (some (144, false)), .load none (.s 145)⟩,
    ⟨(some 147), (some (144, false)), .mov (.s 6)⟩,
    ⟨(some 148), (some (144, false)), .iaddr 1 (.s 146) (.s 147)⟩,
    ⟨(some 149), (some (144, false)), .load none (.s 148)⟩,
    ⟨(some 150), (some (144, false)), .mov (.s 7)⟩,
    ⟨(some 151), (some (144, false)), .slice (some 1) (.s 149) none (some (.s 150))⟩,
    ⟨(some 152), (some (144, false)), .faddr 7 (.s 3)⟩,
    ⟨(some 153), (some (144, false)), .load none (.s 152)⟩,
    ⟨(some 154), (some (144, false)), .mov (.s 6)⟩,
    ⟨(some 155), (some (144, false)), .iaddr 1 (.s 153) (.s 154)⟩,
    ⟨(some 156), (some (144, false)), .load none (.s 155)⟩,
    ⟨(some 157), (some (144, false)), .mov (.s 7)⟩,
    ⟨(some 158), (some (144, false)), .iaddr 1 (.s 156) (.s 157)⟩,
    ⟨(some 159), (some (144, false)), .load none (.s 158)⟩,
    ⟨(some 160), (some (144, false)), .call 124 [(.s 151), (.s 159)]⟩,
    ⟨(some 161), none, .pick (.s 144) (.c (.t (.bool true))) (.s 160)⟩] [[], [0], [], [1, 2], [3], [], [4, 5], [6], [], [8], [9], [10], [7, 11], [12], [13, 12], [14], [15, 14], [14], [16, 17, 14], [18, 14], [14], [19, 20, 14], [14], [22, 14], [14], [23, 24, 14], [25, 14], [14], [26, 27, 14], [28, 14], [21, 29, 14, 14], [14, 30]] [3, 6, 7, 161])
  (.cond (.s 161)
    (.seq (.reg [
      ⟨(some 4), none, .mov (.c (.t (.bool false)))⟩] [4])
    (.ret))
    (.skip))))
  (.reg [
    ⟨(some 128), none, .mov (.s 7)⟩,
    ⟨(some 129), none, .bin .add (.s 128) (.c (.t (.int .i64 1)))⟩,
    ⟨(some 7), none, .mov (.s 129)⟩] [3, 6, 7]))

def B_spec_IsValidBouquet_2 : MCode :=
  .seq (.seq (.reg [
    ⟨(some 76), none, .mov (.s 6)⟩,
    ⟨(some 77), none, .faddr 5 (.s 3)⟩,
    ⟨(some 78), none, .load none (.s 77)⟩,
    ⟨(some 79), none, .len false (.s 78)⟩,
    ⟨(some 80), none, .bin .lss (.s 76) (.s 79)⟩] [3, 6, 80])
  (.cond (.s 80)
    (.skip)
    (.exit 2)))
  (.seq (.block 3 (.seq (.seq (.drw [
    ⟨(some 83), none, .faddr 5 (.s 3)⟩,
    ⟨(some 84), none, .load none (.s 83)⟩,
    ⟨(some 85), none, .mov (.s 6)⟩,
    ⟨(some 86), none, .iaddr 1 (.s 84) (.s 85)⟩,
    ⟨(some 87), none, .load none (.s 86)⟩,
    ⟨(some 88), none, .call 70 [(.s 87), (.c (.t (.int .i64 1))), (.c (.t (.int .i64 500000000000)))]⟩,
    ⟨(some 89), none, .un .not (.s 88)⟩,
    ⟨(some 90), none, .mov (.s 89)⟩,
    ⟨(some 91), (some (90, false)), .mov (.s 6)⟩,
    ⟨(some 92), (some (90, false)), .bin .gtr (.s 91) (.c (.t (.int .i64 0)))⟩,
    ⟨(some 93), (some (90, false)), .mov (.s 92)⟩,
    ⟨(some 94), (some (93, true)), .faddr 5 (.s 3)⟩,
    ⟨(some 95), (some (93, true)), .load none (.s 94)⟩,
    ⟨(some 96), (some (93, true)), .mov (.s 6)⟩,
    ⟨(some 97), (some (93, true)), .iaddr 1 (.s 95) (.s 96)⟩,
    ⟨(some 98), (some (93, true)), .load none (.s 97)⟩,
    ⟨(some 99), (some (93, true)), .faddr 5 (.s 3)⟩,
    ⟨(some 100), (some (93, true)), .load none (.s 99)⟩,
    ⟨(some 101), (some (93, true)), .mov (.s 6)⟩,
    ⟨(some 102), (some (93, true)), .bin .sub (.s 101) (.c (.t (.int .i64 1)))⟩,
    ⟨(some 103), (some (93, true)), .iaddr 1 (.s 100) (.s 102)⟩,
    ⟨(some 104), (some (93, true)), .load none (.s 103)⟩,
    ⟨(some 105), (some (93, true)), .faddr 1 (.s 3)⟩,
    ⟨(some 106), (some (93, true)), .load none (.s 105)⟩,
    ⟨(some 107), (some (93, true)), .bin .mul (.s 104) (.s 106)⟩,
    ⟨(some 108), (some (93, true)), .bin .neq (.s 98) (.s 107)⟩,
    ⟨(some 109), (some (90, false)), .pick (.s 93) (.s 108) (.c (.t (.bool false)))⟩,
    ⟨(some 110), none, .pick (.s 90) (.c (.t (.bool true))) (.s 109)⟩,
    ⟨(some 111), none, .mov (.s 110)⟩,
    ⟨(some 112), (some (111, false)), .faddr 7 (.s 3)⟩,
    ⟨(some 113), (some (111, false)), .load none (.s 112)⟩,
    ⟨(some 114), (some (111, false)), .mov (.s 6)⟩,
    ⟨(some 115), (some (111, false)), .iaddr 1 (.s 113) (.s 114)⟩,
    ⟨(some 116), (some (111, false)), .load none (.s 115)⟩,
    ⟨(some 117), (some (111, false)), .len false (.s 116)⟩,
    ⟨(some 118), (some (111, false)), .bin .eql (.s 117) (.c (.t (.int .i64 0)))⟩,
    ⟨(some 119), none, .pick (.s 111) (.c (.t (.bool true))) (.s 118)⟩] [[], [0], [], [1, 2], [3], [4], [5], [6, 5], [7], [8, 7], [9, 7, 7], [10], [11, 10], [10], [12, 13, 10], [14, 10], [10], [16, 10], [10], [18, 10], [17, 19, 10], [20, 10], [10], [22, 10], [21, 23, 10], [15, 24, 10], [10, 25, 7], [7, 26], [27, 10], [28], [29, 28], [28], [30, 31, 28], [32, 28], [33, 28], [34, 28], [28, 35]] [3, 6, 119])
  (.cond (.s 119)
    (.seq (.reg [
      ⟨(some 4), none, .mov (.c (.t (.bool false)))⟩] [4])
    (.ret))
    (.skip)))
  (.seq (.reg [
    ⟨(some 7), none, .mov (.c (.t (.int .i64 0)))⟩] [3, 6, 7])
  (.block 4 (.loop [3, 6, 7] B_spec_IsValidBouquet_1)))))
  (.reg [
    ⟨(some 81), none, .mov (.s 6)⟩,
    ⟨(some 82), none, .bin .add (.s 81) (.c (.t (.int .i64 1)))⟩,
    ⟨(some 6), none, .mov (.s 82)⟩] [3, 6]))

def M_spec_IsValidBouquet : MFun := ⟨2, 162, [.tmp 4],
  .seq (.reg [
    ⟨(some 2), none, .box (.s 0)⟩,
    ⟨(some 3), none, .box (.s 1)⟩,
    ⟨(some 4), none, .mov (.c (.t (.bool false)))⟩] [2, 3])
  (.seq (.seq (.drw [
    ⟨(some 8), none, .faddr 0 (.s 3)⟩,
    ⟨(some 9), none, .load none (.s 8)⟩,
    ⟨(some 10), none, .call 70 [(.s 9), (.c (.t (.int .i64 1))), (.c (.t (.int .i64 999)))]⟩,
    ⟨(some 11), none, .un .not (.s 10)⟩,
    ⟨(some 12), none, .mov (.s 11)⟩,
    ⟨(some 13), (some (12, false)), .faddr 1 (.s 3)⟩,
    ⟨(some 14), (some (12, false)), .load none (.s 13)⟩,
    ⟨(some 15), (some (12, false)), .call 70 [(.s 14), (.c (.t (.int .i64 2))), (.c (.t (.int .i64 8)))]⟩,
    ⟨(some 16), (some (12, false)), .un .not (.s 15)⟩,
    ⟨(some 17), none, .pick (.s 12) (.c (.t (.bool true))) (.s 16)⟩,
    ⟨(some 18), none, .mov (.s 17)⟩,
    ⟨(some 19), (some (18, false)), .faddr 2 (.s 3)⟩,
    ⟨(some 20), (some (18, false)), .load none (.s 19)⟩,
    ⟨(some 21), (some (18, false)), .call 70 [(.s 20), (.c (.t (.int .i64 0))), (.c (.t (.int .i64 100)))]⟩,
    ⟨(some 22), (some (18, false)), .un .not (.s 21)⟩,
    ⟨(some 23), none, .pick (.s 18) (.c (.t (.bool true))) (.s 22)⟩,
    ⟨(some 24), none, .mov (.s 23)⟩,
    ⟨(some 25), (some (24, false)), .faddr 3 (.s 3)⟩,
    ⟨(some 26), (some (24, false)), .faddr 0 (.s 25)⟩,
    ⟨(some 27), (some (24, false)), .load none (.s 26)⟩,
    ⟨(some 28), (some (24, false)), .len false (.s 27)⟩,
    ⟨(some 29), (some (24, false)), .load (some 2) (.s 2)⟩,
    ⟨(some 30), (some (24, false)), .call 54 [(.s 29)]⟩,
    ⟨(some 31), (some (24, false)), .bin .add (.s 30) (.c (.t (.int .i64 1)))⟩,
    ⟨(some 32), (some (24, false)), .bin .neq (.s 28) (.s 31)⟩,
    ⟨(some 33), none, .pick (.s 24) (.c (.t (.bool true))) (.s 32)⟩,
    ⟨(some 34), none, .mov (.s 33)⟩,
    ⟨(some 35), (some (34, false)), .faddr 3 (.s 3)⟩,
    ⟨(some 36), (some (34, false)), .load (some 2) (.s 35)⟩,
    ⟨(some 37), (some (34, false)), .call 123 [(.s 36)]⟩,
    ⟨(some 38), (some (34, false)), .call 70 [(.s 37), (.c (.t (.int .i64 1))), (.c (.t (.int .i64 400)))]⟩,
    ⟨(some 39), (some (34, false)), .un .not (.s 38)⟩,
    ⟨(some 40), none, .pick (.s 34) (.c (.t (.bool true))) (.s 39)⟩] [[], [0], [1], [2], [3, 2], [4], [5, 4], [6, 4, 4], [7, 4], [4, 8], [9, 7], [10], [11, 10], [12, 10, 10], [13, 10], [10, 14], [15, 13], [16], [17, 16], [18, 16], [19, 16], [16], [21, 16, 16], [22, 16], [20, 23, 16], [16, 24], [25, 22], [26], [27, 26], [28, 26, 26], [29, 29, 26], [30, 26], [26, 31]] [2, 3, 40])
  (.cond (.s 40)
    (.seq (.reg [
      ⟨(some 4), none, .mov (.c (.t (.bool false)))⟩] [4])
    (.ret))
    (.skip)))
  (.seq (.seq (.reg [
    ⟨(some 41), none, .faddr 5 (.s 3)⟩,
    ⟨(some 42), none, .load none (.s 41)⟩,
    ⟨(some 43), none, .len false (.s 42)⟩,
    ⟨(some 44), none, .bin .eql (.s 43) (.c (.t (.int .i64 0)))⟩,
    ⟨(some 45), none, .mov (.s 44)⟩,
    ⟨(some 46), (some (45, false)), .faddr 5 (.s 3)⟩,
    ⟨(some 47), (some (45, false)), .load none (.s 46)⟩,
    ⟨(some 48), (some (45, false)), .len false (.s 47)⟩,
    ⟨(some 49), (some (45, false)), .faddr 7 (.s 3)⟩,
    ⟨(some 50), (some (45, false)), .load none (.s 49)⟩,
    ⟨(some 51), (some (45, false)), .len false (.s 50)⟩,
    ⟨(some 52), (some (45, false)), .bin .neq (.s 48) (.s 51)⟩,
    ⟨(some 53), none, .pick (.s 45) (.c (.t (.bool true))) (.s 52)⟩] [2, 3, 53])
  (.cond (.s 53)
    (.seq (.reg [
      ⟨(some 4), none, .mov (.c (.t (.bool false)))⟩] [4])
    (.ret))
    (.skip)))
  (.seq (.seq (.reg [
    ⟨(some 5), none, .mov (.c (.t (.int .i64 0)))⟩] [2, 3, 5])
  (.block 0 (.loop [2, 3, 5] B_spec_IsValidBouquet_0)))
  (.seq (.seq (.reg [
    ⟨(some 6), none, .mov (.c (.t (.int .i64 0)))⟩] [3, 6])
  (.block 2 (.loop [3, 6] B_spec_IsValidBouquet_2)))
  (.seq (.reg [
    ⟨(some 4), none, .mov (.c (.t (.bool true)))⟩] [4])
  (.ret))))))⟩
theorem t_spec_IsValidBouquet : tbl 77 = some M_spec_IsValidBouquet := tblOf_eq Try.func77 (by kernel_rfl) (by kernel_rfl)

/-- loop.example/g01921/spec.SlackBudget -/
def M_spec_SlackBudget : MFun := ⟨2, 18, [.tmp 4],
  .seq (.reg [
    ⟨(some 4), none, .mov (.c (.t (.int .i64 0)))⟩] [0, 1])
  (.seq (.seq (.reg [
    ⟨(some 5), none, .mov (.s 0)⟩,
    ⟨(some 6), none, .call 70 [(.s 5), (.c (.t (.int .i64 0))), (.c (.t (.int .i64 1000000000000)))]⟩,
    ⟨(some 7), none, .un .not (.s 6)⟩,
    ⟨(some 8), none, .mov (.s 7)⟩,
    ⟨(some 9), (some (8, false)), .mov (.s 1)⟩,
    ⟨(some 10), (some (8, false)), .call 70 [(.s 9), (.c (.t (.int .i64 0))), (.c (.t (.int .i64 100)))]⟩,
    ⟨(some 11), (some (8, false)), .un .not (.s 10)⟩,
    ⟨(some 12), none, .pick (.s 8) (.c (.t (.bool true))) (.s 11)⟩] [0, 1, 12])
  (.cond (.s 12)
    (.seq (.reg [
      ⟨(some 4), none, .mov (.c (.t (.int .i64 (-1))))⟩] [4])
    (.ret))
    (.skip)))
  (.seq (.reg [
    ⟨(some 13), none, .mov (.s 0)⟩,
    ⟨(some 14), none, .mov (.s 1)⟩,
    ⟨(some 15), none, .bin .add (.c (.t (.int .i64 100))) (.s 14)⟩,
    ⟨(some 16), none, .bin .mul (.s 13) (.s 15)⟩,
    ⟨(some 17), none, .bin .quo (.s 16) (.c (.t (.int .i64 100)))⟩,
    ⟨(some 4), none, .mov (.s 17)⟩] [4])
  (.ret)))⟩
theorem t_spec_SlackBudget : tbl 78 = some M_spec_SlackBudget := tblOf_eq Try.func78 (by kernel_rfl) (by kernel_rfl)

/-- loop.example/g01921/spec.l27Find -/
def B_spec_l27Find_0 : MCode :=
  .seq (.seq (.reg [
    ⟨(some 6), none, .mov (.s 5)⟩,
    ⟨(some 7), none, .mov (.s 0)⟩,
    ⟨(some 8), none, .len false (.s 7)⟩,
    ⟨(some 9), none, .bin .lss (.s 6) (.s 8)⟩] [0, 1, 5, 9])
  (.cond (.s 9)
    (.skip)
    (.exit 0)))
  (.seq (.block 1 (.seq (.reg [
    ⟨(some 12), none, .mov (.s 0)⟩,
    ⟨(some 13), none, .mov (.s 5)⟩,
    ⟨(some 14), none, .iaddr 1 (.s 12) (.s 13)⟩,
    ⟨(some 15), none, .load none (.s 14)⟩,
    ⟨(some 16), none, .mov (.s 1)⟩,
    ⟨(some 17), none, .bin .eql (.s 15) (.s 16)⟩] [0, 1, 5, 17])
  (.cond (.s 17)
    (.seq (.reg [
      ⟨(some 18), none, .mov (.s 5)⟩,
      ⟨(some 4), none, .mov (.s 18)⟩] [4])
    (.ret))
    (.skip))))
  (.reg [
    ⟨(some 10), none, .mov (.s 5)⟩,
    ⟨(some 11), none, .bin .add (.s 10) (.c (.t (.int .i64 1)))⟩,
    ⟨(some 5), none, .mov (.s 11)⟩] [0, 1, 5]))

def M_spec_l27Find : MFun := ⟨2, 19, [.tmp 4],
  .seq (.reg [
    ⟨(some 4), none, .mov (.c (.t (.int .i64 0)))⟩] [0, 1])
  (.seq (.seq (.reg [
    ⟨(some 5), none, .mov (.c (.t (.int .i64 0)))⟩] [0, 1, 5])
  (.block 0 (.loop [0, 1, 5] B_spec_l27Find_0)))
  (.seq (.reg [
    ⟨(some 4), none, .mov (.c (.t (.int .i64 (-1))))⟩] [4])
  (.ret)))⟩
theorem t_spec_l27Find : tbl 79 = some M_spec_l27Find := tblOf_eq Try.func79 (by kernel_rfl) (by kernel_rfl)

/-- loop.example/g01921/laws.toPlanS -/
def B_laws_toPlanS_0 : MCode :=
  .seq (.seq (.reg [
    ⟨(some 8), none, .mov (.s 4)⟩,
    ⟨(some 9), none, .mov (.s 0)⟩,
    ⟨(some 10), none, .len false (.s 9)⟩,
    ⟨(some 11), none, .bin .lss (.s 8) (.s 10)⟩] [0, 3, 4, 11])
  (.cond (.s 11)
    (.skip)
    (.exit 0)))
  (.seq (.block 1 (.reg [
    ⟨(some 14), none, .mov (.s 3)⟩,
    ⟨(some 15), none, .mov (.s 4)⟩,
    ⟨(some 16), none, .mov (.s 0)⟩,
    ⟨(some 17), none, .mov (.s 4)⟩,
    ⟨(some 18), none, .iaddr 1 (.s 16) (.s 17)⟩,
    ⟨(some 19), none, .load (some 1) (.s 18)⟩,
    ⟨(some 20), none, .call 13 [(.s 19)]⟩,
    ⟨(some 21), none, .iaddr 1 (.s 14) (.s 15)⟩,
    ⟨none, none, .store 1 (.s 21) (.s 20)⟩] [0, 3, 4]))
  (.reg [
    ⟨(some 12), none, .mov (.s 4)⟩,
    ⟨(some 13), none, .bin .add (.s 12) (.c (.t (.int .i64 1)))⟩,
    ⟨(some 4), none, .mov (.s 13)⟩] [0, 3, 4]))

def M_laws_toPlanS : MFun := ⟨1, 23, [.tmp 2],
  .seq (.reg [
    ⟨(some 2), none, .mov (.c (.t .nil))⟩] [0])
  (.seq (.reg [
    ⟨(some 5), none, .mov (.s 0)⟩,
    ⟨(some 6), none, .len false (.s 5)⟩,
    ⟨(some 7), none, .mkslice 41 1 24 [.nil] (.s 6) (.s 6)⟩,
    ⟨(some 3), none, .mov (.s 7)⟩] [0, 3])
  (.seq (.seq (.reg [
    ⟨(some 4), none, .mov (.c (.t (.int .i64 0)))⟩] [0, 3, 4])
  (.block 0 (.loop [0, 3, 4] B_laws_toPlanS_0)))
  (.seq (.reg [
    ⟨(some 22), none, .mov (.s 3)⟩,
    ⟨(some 2), none, .mov (.s 22)⟩] [2])
  (.ret))))⟩
theorem t_laws_toPlanS : tbl 80 = some M_laws_toPlanS := tblOf_eq Try.func80 (by kernel_rfl) (by kernel_rfl)

/-- loop.example/g01921/laws.toIntSS -/
def B_laws_toIntSS_0 : MCode :=
  .seq (.seq (.reg [
    ⟨(some 8), none, .mov (.s 4)⟩,
    ⟨(some 9), none, .mov (.s 0)⟩,
    ⟨(some 10), none, .len false (.s 9)⟩,
    ⟨(some 11), none, .bin .lss (.s 8) (.s 10)⟩] [0, 3, 4, 11])
  (.cond (.s 11)
    (.skip)
    (.exit 0)))
  (.seq (.block 1 (.reg [
    ⟨(some 14), none, .mov (.s 3)⟩,
    ⟨(some 15), none, .mov (.s 4)⟩,
    ⟨(some 16), none, .mov (.s 0)⟩,
    ⟨(some 17), none, .mov (.s 4)⟩,
    ⟨(some 18), none, .iaddr 1 (.s 16) (.s 17)⟩,
    ⟨(some 19), none, .load none (.s 18)⟩,
    ⟨(some 20), none, .call 57 [(.s 19)]⟩,
    ⟨(some 21), none, .iaddr 1 (.s 14) (.s 15)⟩,
    ⟨none, none, .store 1 (.s 21) (.s 20)⟩] [0, 3, 4]))
  (.reg [
    ⟨(some 12), none, .mov (.s 4)⟩,
    ⟨(some 13), none, .bin .add (.s 12) (.c (.t (.int .i64 1)))⟩,
    ⟨(some 4), none, .mov (.s 13)⟩] [0, 3, 4]))

def M_laws_toIntSS : MFun := ⟨1, 23, [.tmp 2],
  .seq (.reg [
    ⟨(some 2), none, .mov (.c (.t .nil))⟩] [0])
  (.seq (.reg [
    ⟨(some 5), none, .mov (.s 0)⟩,
    ⟨(some 6), none, .len false (.s 5)⟩,
    ⟨(some 7), none, .mkslice 28 1 24 [.nil] (.s 6) (.s 6)⟩,
    ⟨(some 3), none, .mov (.s 7)⟩] [0, 3])
  (.seq (.seq (.reg [
    ⟨(some 4), none, .mov (.c (.t (.int .i64 0)))⟩] [0, 3, 4])
  (.block 0 (.loop [0, 3, 4] B_laws_toIntSS_0)))
  (.seq (.reg [
    ⟨(some 22), none, .mov (.s 3)⟩,
    ⟨(some 2), none, .mov (.s 22)⟩] [2])
  (.ret))))⟩
theorem t_laws_toIntSS : tbl 81 = some M_laws_toIntSS := tblOf_eq Try.func81 (by kernel_rfl) (by kernel_rfl)

/-- loop.example/g01921/laws.toRunNote -/
def M_laws_toRunNote : MFun := ⟨1, 20, [.cell 2 (some 5)],
  .seq (.reg [
    ⟨(some 1), none, .box (.s 0)⟩,
    ⟨(some 2), none, .alloc [(.t (.int .i64 0)), (.t (.int .i64 0)), (.t (.int .i64 0)), (.t (.int .i64 0)), (.t (.bool false))]⟩] [1, 2])
  (.seq (.reg [
    ⟨(some 3), none, .alloc [(.t (.int .i64 0)), (.t (.int .i64 0)), (.t (.int .i64 0)), (.t (.int .i64 0)), (.t (.bool false))]⟩] [1, 2, 3])
  (.seq (.reg [
    ⟨(some 4), none, .faddr 0 (.s 1)⟩,
    ⟨(some 5), none, .load none (.s 4)⟩,
    ⟨(some 6), none, .faddr 0 (.s 3)⟩,
    ⟨none, none, .store 1 (.s 6) (.s 5)⟩] [1, 2, 3])
  (.seq (.reg [
    ⟨(some 7), none, .faddr 1 (.s 1)⟩,
    ⟨(some 8), none, .load none (.s 7)⟩,
    ⟨(some 9), none, .faddr 1 (.s 3)⟩,
    ⟨none, none, .store 1 (.s 9) (.s 8)⟩] [1, 2, 3])
  (.seq (.reg [
    ⟨(some 10), none, .faddr 2 (.s 1)⟩,
    ⟨(some 11), none, .load none (.s 10)⟩,
    ⟨(some 12), none, .faddr 2 (.s 3)⟩,
    ⟨none, none, .store 1 (.s 12) (.s 11)⟩] [1, 2, 3])
  (.seq (.reg [
    ⟨(some 13), none, .faddr 3 (.s 1)⟩,
    ⟨(some 14), none, .load none (.s 13)⟩,
    ⟨(some 15), none, .faddr 3 (.s 3)⟩,
    ⟨none, none, .store 1 (.s 15) (.s 14)⟩] [1, 2, 3])
  (.seq (.reg [
    ⟨(some 16), none, .faddr 4 (.s 1)⟩,
    ⟨(some 17), none, .load none (.s 16)⟩,
    ⟨(some 18), none, .faddr 4 (.s 3)⟩,
    ⟨none, none, .store 1 (.s 18) (.s 17)⟩] [2, 3])
  (.seq (.reg [
    ⟨(some 19), none, .load (some 5) (.s 3)⟩,
    ⟨none, none, .store 5 (.s 2) (.s 19)⟩] [2])
  (.ret))))))))⟩
theorem t_laws_toRunNote : tbl 82 = some M_laws_toRunNote := tblOf_eq Try.func82 (by kernel_rfl) (by kernel_rfl)

/-- loop.example/g01921/impl.IsValidBouquet -/
def B_impl_IsValidBouquet_0 : MCode :=
  .seq (.reg [
    ⟨(some 53), none, .bin .lss (.s 52) (.s 51)⟩] [2, 3, 50, 51, 52, 53])
  (.seq (.cond (.s 53)
    (.skip)
    (.exit 0))
  (.seq (.block 1 (.seq (.reg [
    ⟨(some 54), none, .iaddr 1 (.s 50) (.s 52)⟩,
    ⟨(some 55), none, .load (some 1) (.s 54)⟩,
    ⟨(some 6), none, .alloc [(.t .nil)]⟩,
    ⟨none, none, .store 1 (.s 6) (.s 55)⟩] [2, 3, 6, 50, 51, 52])
  (.seq (.drw [
    ⟨(some 56), none, .load (some 2) (.s 2)⟩,
    ⟨(some 57), none, .load (some 1) (.s 6)⟩,
    ⟨(some 58), none, .call 72 [(.s 56), (.s 57)]⟩,
    ⟨(some 59), none, .load (some 2) (.s 2)⟩,
    ⟨(some 60), none, .call 73 [(.s 59)]⟩,
    ⟨(some 61), none, .bin .neq (.s 58) (.s 60)⟩] [[], [], [0, 1], [], [3, 2], [2, 4]] [2, 3, 50, 51, 52, 61])
  (.cond (.s 61)
    (.seq (.reg [
      ⟨(some 4), none, .mov (.c (.t (.bool false)))⟩] [4])
    (.ret))
    (.skip)))))
  (.reg [
    ⟨(some 62), none, .bin .add (.s 52) (.c (.t (.int .i64 1)))⟩,
    ⟨(some 52), none, .mov (.s 62)⟩] [2, 3, 50, 51, 52])))

def B_impl_IsValidBouquet_1 : MCode :=
  .seq (.reg [
    ⟨(some 67), none, .bin .lss (.s 66) (.s 65)⟩] [3, 64, 65, 66, 67])
  (.seq (.cond (.s 67)
    (.skip)
    (.exit 2))
  (.seq (.block 3 (.seq (.reg [
    ⟨(some 68), none, .mov (.s 66)⟩,
    ⟨(some 69), none, .iaddr 1 (.s 64) (.s 66)⟩,
    ⟨(some 70), none, .load none (.s 69)⟩,
    ⟨(some 7), none, .mov (.s 68)⟩,
    ⟨(some 8), none, .mov (.s 70)⟩] [3, 7, 8, 64, 65, 66])
  (.seq (.drw [
    ⟨(some 71), none, .mov (.s 8)⟩,
    ⟨(some 72), none, .call 74 [(.s 71), (.c (.t (.int .i64 1))), (.c (.t (.int .i64 500000000000)))]⟩,
    ⟨(some 73), none, .un .not (.s 72)⟩,
    ⟨(some 74), none, .mov (.s 73)⟩,
    ⟨(some 75), (some (74, false)), .mov (.s 7)⟩,
    ⟨(some 76), (some (74, false)), .bin .gtr (.s 75) (.c (.t (.int .i64 0)))⟩,
    ⟨(some 77), (some (74, false)), .mov (.s 76)⟩,
    ⟨(some 78), (some (77, true)), .mov (.s 8)⟩,
    ⟨(some 79), (some (77, true)), .faddr 1 (.s 3)⟩,
    ⟨(some 80), (some (77, true)), .load none (.s 79)⟩,
    ⟨(some 81), (some (77, true)), .faddr 5 (.s 3)⟩,
    ⟨(some 82), (some (77, true)), .load none (.s 81)⟩,
    ⟨(some 83), (some (77, true)), .mov (.s 7)⟩,
    ⟨(some 84), (some (77, true)), .bin .sub (.s 83) (.c (.t (.int .i64 1)))⟩,
    ⟨(some 85), (some (77, true)), .iaddr 1 (.s 82) (.s 84)⟩,
    ⟨(some 86), (some (77, true)), .load none (.s 85)⟩,
    ⟨(some 87), (some (77, true)), .bin .mul (.s 80) (.s 86)⟩,
    ⟨(some 88), (some (77, true)), .bin .neq (.s 78) (.s 87)⟩,
    ⟨(some 89), (some (74, false)), .pick (.s 77) (.s 88) (.c (.t (.bool false)))⟩,
    ⟨(some 90), none, .pick (.s 74) (.c (.t (.bool true))) (.s 89)⟩] [[], [0], [1], [2, 1], [3], [4, 3], [5, 3, 3], [6], [6], [8, 6], [6], [10, 6], [6], [12, 6], [11, 13, 6], [14, 6], [9, 15, 6], [7, 16, 6], [6, 17, 3], [3, 18]] [3, 64, 65, 66, 90])
  (.cond (.s 90)
    (.seq (.reg [
      ⟨(some 4), none, .mov (.c (.t (.bool false)))⟩] [4])
    (.ret))
    (.skip)))))
  (.reg [
    ⟨(some 91), none, .bin .add (.s 66) (.c (.t (.int .i64 1)))⟩,
    ⟨(some 66), none, .mov (.s 91)⟩] [3, 64, 65, 66])))

def B_impl_IsValidBouquet_2 : MCode :=
  .seq (.reg [
    ⟨(some 96), none, .bin .lss (.s 95) (.s 94)⟩] [3, 93, 94, 95, 96])
  (.seq (.cond (.s 96)
    (.skip)
    (.exit 4))
  (.seq (.block 5 (.seq (.reg [
    ⟨(some 97), none, .iaddr 1 (.s 93) (.s 95)⟩,
    ⟨(some 98), none, .load none (.s 97)⟩,
    ⟨(some 10), none, .mov (.s 98)⟩] [3, 10, 93, 94, 95])
  (.seq (.reg [
    ⟨(some 99), none, .mov (.s 10)⟩,
    ⟨(some 100), none, .faddr 6 (.s 3)⟩,
    ⟨(some 101), none, .load none (.s 100)⟩,
    ⟨(some 102), none, .len false (.s 101)⟩,
    ⟨(some 103), none, .call 126 [(.s 99), (.s 102)]⟩,
    ⟨(some 104), none, .un .not (.s 103)⟩] [3, 93, 94, 95, 104])
  (.cond (.s 104)
    (.seq (.reg [
      ⟨(some 4), none, .mov (.c (.t (.bool false)))⟩] [4])
    (.ret))
    (.skip)))))
  (.reg [
    ⟨(some 105), none, .bin .add (.s 95) (.c (.t (.int .i64 1)))⟩,
    ⟨(some 95), none, .mov (.s 105)⟩] [3, 93, 94, 95])))

def M_impl_IsValidBouquet : MFun := ⟨2, 119, [.tmp 4],
  .seq (.reg [
    ⟨(some 2), none, .box (.s 0)⟩,
    ⟨(some 3), none, .box (.s 1)⟩,
    ⟨(some 4), none, .mov (.c (.t (.bool false)))⟩] [2, 3])
  (.seq (.seq (.drw [
    ⟨(some 11), none, .load (some 2) (.s 2)⟩,
    ⟨(some 12), none, .call 71 [(.s 11)]⟩,
    ⟨(some 13), none, .un .not (.s 12)⟩,
    ⟨(some 14), none, .mov (.s 13)⟩,
    ⟨(some 15), (some (14, false)), .faddr 0 (.s 3)⟩,
    ⟨(some 16), (some (14, false)), .load none (.s 15)⟩,
    ⟨(some 17), (some (14, false)), .call 74 [(.s 16), (.c (.t (.int .i64 1))), (.c (.t (.int .i64 999)))]⟩,
    ⟨(some 18), (some (14, false)), .un .not (.s 17)⟩,
    ⟨(some 19), none, .pick (.s 14) (.c (.t (.bool true))) (.s 18)⟩,
    ⟨(some 20), none, .mov (.s 19)⟩,
    ⟨(some 21), (some (20, false)), .faddr 1 (.s 3)⟩,
    ⟨(some 22), (some (20, false)), .load none (.s 21)⟩,
    ⟨(some 23), (some (20, false)), .call 74 [(.s 22), (.c (.t (.int .i64 2))), (.c (.t (.int .i64 8)))]⟩,
    ⟨(some 24), (some (20, false)), .un .not (.s 23)⟩,
    ⟨(some 25), none, .pick (.s 20) (.c (.t (.bool true))) (.s 24)⟩,
    ⟨(some 26), none, .mov (.s 25)⟩,
    ⟨(some 27), (some (26, false)), .faddr 2 (.s 3)⟩,
    ⟨(some 28), (some (26, false)), .load none (.s 27)⟩,
    ⟨(some 29), (some (26, false)), .call 74 [(.s 28), (.c (.t (.int .i64 0))), (.c (.t (.int .i64 100)))]⟩,
    ⟨(some 30), (some (26, false)), .un .not (.s 29)⟩,
    ⟨(some 31), none, .pick (.s 26) (.c (.t (.bool true))) (.s 30)⟩,
    ⟨(some 32), none, .mov (.s 31)⟩,
    ⟨(some 33), (some (32, false)), .faddr 3 (.s 3)⟩,
    ⟨(some 34), (some (32, false)), .load (some 2) (.s 33)⟩,
    ⟨(some 35), (some (32, false)), .call 125 [(.s 34)]⟩,
    ⟨(some 36), (some (32, false)), .call 74 [(.s 35), (.c (.t (.int .i64 1))), (.c (.t (.int .i64 400)))]⟩,
    ⟨(some 37), (some (32, false)), .un .not (.s 36)⟩,
    ⟨(some 38), none, .pick (.s 32) (.c (.t (.bool true))) (.s 37)⟩,
    ⟨(some 39), none, .mov (.s 38)⟩,
    ⟨(some 40), (some (39, false)), .faddr 3 (.s 3)⟩,
    ⟨(some 41), (some (39, false)), .faddr 0 (.s 40)⟩,
    ⟨(some 42), (some (39, false)), .load none (.s 41)⟩,
    ⟨(some 43), (some (39, false)), .len false (.s 42)⟩,
    ⟨(some 44), (some (39, false)), .load (some 2) (.s 2)⟩,
    ⟨(some 45), (some (39, false)), .call 73 [(.s 44)]⟩,
    ⟨(some 46), (some (39, false)), .bin .add (.s 45) (.c (.t (.int .i64 1)))⟩,
    ⟨(some 47), (some (39, false)), .bin .neq (.s 43) (.s 46)⟩,
    ⟨(some 48), none, .pick (.s 39) (.c (.t (.bool true))) (.s 47)⟩] [[], [0], [1], [2, 1], [3], [4, 3], [5, 3, 3], [6, 3], [3, 7], [8, 6], [9], [10, 9], [11, 9, 9], [12, 9], [9, 13], [14, 12], [15], [16, 15], [17, 15, 15], [18, 15], [15, 19], [20, 18], [21], [22, 21], [23, 21, 21], [24, 24, 21], [25, 21], [21, 26], [27, 25], [28], [29, 28], [30, 28], [31, 28], [28], [33, 28, 28], [34, 28], [32, 35, 28], [28, 36]] [2, 3, 48])
  (.cond (.s 48)
    (.seq (.reg [
      ⟨(some 4), none, .mov (.c (.t (.bool false)))⟩] [4])
    (.ret))
    (.skip)))
  (.seq (.seq (.reg [
    ⟨(some 49), none, .faddr 6 (.s 3)⟩,
    ⟨(some 50), none, .load none (.s 49)⟩,
    ⟨(some 51), none, .len false (.s 50)⟩,
    ⟨(some 52), none, .mov (.c (.t (.int .i64 0)))⟩] [2, 3, 50, 51, 52])
  (.block 0 (.loop [2, 3, 50, 51, 52] B_impl_IsValidBouquet_0)))
  (.seq (.seq (.reg [
    ⟨(some 63), none, .faddr 5 (.s 3)⟩,
    ⟨(some 64), none, .load none (.s 63)⟩,
    ⟨(some 65), none, .len false (.s 64)⟩,
    ⟨(some 66), none, .mov (.c (.t (.int .i64 0)))⟩] [3, 64, 65, 66])
  (.block 2 (.loop [3, 64, 65, 66] B_impl_IsValidBouquet_1)))
  (.seq (.seq (.reg [
    ⟨(some 92), none, .faddr 7 (.s 3)⟩,
    ⟨(some 93), none, .load none (.s 92)⟩,
    ⟨(some 94), none, .len false (.s 93)⟩,
    ⟨(some 95), none, .mov (.c (.t (.int .i64 0)))⟩] [3, 93, 94, 95])
  (.block 4 (.loop [3, 93, 94, 95] B_impl_IsValidBouquet_2)))
  (.seq (.reg [
    ⟨(some 106), none, .faddr 5 (.s 3)⟩,
    ⟨(some 107), none, .load none (.s 106)⟩,
    ⟨(some 108), none, .len false (.s 107)⟩,
    ⟨(some 109), none, .bin .gtr (.s 108) (.c (.t (.int .i64 0)))⟩,
    ⟨(some 110), none, .mov (.s 109)⟩,
    ⟨(some 111), (some (110, true)), .faddr 7 (.s 3)⟩,
    ⟨(some 112), (some (110, true)), .load none (.s 111)⟩,
    ⟨(some 113), (some (110, true)), .len false (.s 112)⟩,
    ⟨(some 114), (some (110, true)), .faddr 5 (.s 3)⟩,
    ⟨(some 115), (some (110, true)), .load none (.s 114)⟩,
    ⟨(some 116), (some (110, true)), .len false (.s 115)⟩,
    ⟨(some 117), (some (110, true)), .bin .eql (.s 113) (.s 116)⟩,
    ⟨(some 118), none, .pick (.s 110) (.s 117) (.c (.t (.bool false)))⟩,
    ⟨(some 4), none, .mov (.s 118)⟩] [4])
  (.ret))))))⟩
theorem t_impl_IsValidBouquet : tbl 83 = some M_impl_IsValidBouquet := tblOf_eq Try.func83 (by kernel_rfl) (by kernel_rfl)

/-- loop.example/g01921/impl.orderedNote -/
def M_impl_orderedNote : MFun := ⟨3, 89, [.tmp 6],
  .seq (.reg [
    ⟨(some 3), none, .box (.s 0)⟩,
    ⟨(some 6), none, .mov (.c (.t (.bool false)))⟩] [1, 2, 3])
  (.seq (.reg [
    ⟨(some 10), none, .mov (.s 1)⟩,
    ⟨(some 11), none, .mov (.s 2)⟩,
    ⟨(some 12), none, .iaddr 5 (.s 10) (.s 11)⟩,
    ⟨(some 13), none, .load (some 5) (.s 12)⟩,
    ⟨(some 7), none, .alloc [(.t (.int .i64 0)), (.t (.int .i64 0)), (.t (.int .i64 0)), (.t (.int .i64 0)), (.t (.bool false))]⟩,
    ⟨none, none, .store 5 (.s 7) (.s 13)⟩] [1, 2, 3, 7])
  (.seq (.seq (.drw [
    ⟨(some 14), none, .faddr 0 (.s 7)⟩,
    ⟨(some 15), none, .load none (.s 14)⟩,
    ⟨(some 16), none, .faddr 7 (.s 3)⟩,
    ⟨(some 17), none, .load none (.s 16)⟩,
    ⟨(some 18), none, .len false (.s 17)⟩,
    ⟨(some 19), none, .bin .sub (.s 18) (.c (.t (.int .i64 1)))⟩,
    ⟨(some 20), none, .call 74 [(.s 15), (.c (.t (.int .i64 0))), (.s 19)]⟩,
    ⟨(some 21), none, .un .not (.s 20)⟩,
    ⟨(some 22), none, .mov (.s 21)⟩,
    ⟨(some 23), (some (22, false)), .faddr 2 (.s 7)⟩,
    ⟨(some 24), (some (22, false)), .load none (.s 23)⟩,
    ⟨(some 25), (some (22, false)), .faddr 5 (.s 3)⟩,
    ⟨(some 26), (some (22, false)), .load none (.s 25)⟩,
    ⟨(some 27), (some (22, false)), .faddr 0 (.s 7)⟩,
    ⟨(some 28), (some (22, false)), .load none (.s 27)⟩,
    ⟨(some 29), (some (22, false)), .iaddr 1 (.s 26) (.s 28)⟩,
    ⟨(some 30), (some (22, false)), .load none (.s 29)⟩,
    ⟨(some 31), (some (22, false)), .faddr 2 (.s 3)⟩,
    ⟨(some 32), (some (22, false)), .load none (.s 31)⟩,
    ⟨(some 33), (some (22, false)), .call 127 [(.s 30), (.s 32)]⟩,
    ⟨(some 34), (some (22, false)), .bin .neq (.s 24) (.s 33)⟩,
    ⟨(some 35), none, .pick (.s 22) (.c (.t (.bool true))) (.s 34)⟩,
    ⟨(some 36), none, .mov (.s 35)⟩,
    ⟨(some 37), (some (36, false)), .faddr 4 (.s 7)⟩,
    ⟨(some 38), (some (36, false)), .load none (.s 37)⟩,
    ⟨(some 39), (some (36, false)), .mov (.s 2)⟩,
    ⟨(some 40), (some (36, false)), .mov (.s 1)⟩,
    ⟨(some 41), (some (36, false)), .len false (.s 40)⟩,
    ⟨(some 42), (some (36, false)), .bin .sub (.s 41) (.c (.t (.int .i64 1)))⟩,
    ⟨(some 43), (some (36, false)), .bin .eql (.s 39) (.s 42)⟩,
    ⟨(some 44), (some (36, false)), .beq true (.s 38) (.s 43)⟩,
    ⟨(some 45), none, .pick (.s 36) (.c (.t (.bool true))) (.s 44)⟩] [[], [0], [], [2], [3], [4], [1, 5], [6], [7, 6], [8], [9, 8], [8], [11, 8], [8], [13, 8], [12, 14, 8], [15, 8], [8], [17, 8], [16, 18, 8, 8], [10, 19, 8], [8, 20], [21, 19], [22], [23, 22], [22], [22], [26, 22], [27, 22], [25, 28, 22], [24, 29, 22], [22, 30]] [1, 2, 3, 7, 45])
  (.cond (.s 45)
    (.seq (.reg [
      ⟨(some 6), none, .mov (.c (.t (.bool false)))⟩] [6])
    (.ret))
    (.skip)))
  (.seq (.drw [
    ⟨(some 46), none, .faddr 7 (.s 3)⟩,
    ⟨(some 47), none, .load none (.s 46)⟩,
    ⟨(some 48), none, .faddr 0 (.s 7)⟩,
    ⟨(some 49), none, .load none (.s 48)⟩,
    ⟨(some 50), none, .iaddr 1 (.s 47) (.s 49)⟩,
    ⟨(some 51), none, .load none (.s 50)⟩,
    ⟨(some 52), none, .faddr 1 (.s 7)⟩,
    ⟨(some 53), none, .load none (.s 52)⟩,
    ⟨(some 54), none, .call 128 [(.s 51), (.s 53)]⟩,
    ⟨(some 8), none, .mov (.s 54)⟩] [[], [0], [], [2], [1, 3], [4], [], [6], [5, 7], [8, 8, 0, 1, 2, 3, 4, 5, 6, 7, 8]] [1, 2, 3, 7, 8])
  (.seq (.seq (.reg [
    ⟨(some 55), none, .mov (.s 8)⟩,
    ⟨(some 56), none, .bin .lss (.s 55) (.c (.t (.int .i64 0)))⟩] [1, 2, 3, 7, 8, 56])
  (.cond (.s 56)
    (.seq (.reg [
      ⟨(some 6), none, .mov (.c (.t (.bool false)))⟩] [6])
    (.ret))
    (.skip)))
  (.seq (.seq (.reg [
    ⟨(some 57), none, .mov (.s 2)⟩,
    ⟨(some 58), none, .bin .eql (.s 57) (.c (.t (.int .i64 0)))⟩] [1, 2, 3, 7, 8, 58])
  (.cond (.s 58)
    (.seq (.reg [
      ⟨(some 6), none, .mov (.c (.t (.bool true)))⟩] [6])
    (.ret))
    (.skip)))
  (.seq (.reg [
    ⟨(some 59), none, .mov (.s 1)⟩,
    ⟨(some 60), none, .mov (.s 2)⟩,
    ⟨(some 61), none, .bin .sub (.s 60) (.c (.t (.int .i64 1)))⟩,
    ⟨(some 62), none, .iaddr 5 (.s 59) (.s 61)⟩,
    ⟨(some 63), none, .load (some 5) (.s 62)⟩,
    ⟨(some 9), none, .alloc [(.t (.int .i64 0)), (.t (.int .i64 0)), (.t (.int .i64 0)), (.t (.int .i64 0)), (.t (.bool false))]⟩,
    ⟨none, none, .store 5 (.s 9) (.s 63)⟩] [3, 7, 8, 9])
  (.seq (.drw [
    ⟨(some 64), none, .faddr 0 (.s 9)⟩,
    ⟨(some 65), none, .load none (.s 64)⟩,
    ⟨(some 66), none, .faddr 0 (.s 7)⟩,
    ⟨(some 67), none, .load none (.s 66)⟩,
    ⟨(some 68), none, .bin .lss (.s 65) (.s 67)⟩,
    ⟨(some 69), none, .mov (.s 68)⟩,
    ⟨(some 70), (some (69, false)), .faddr 0 (.s 9)⟩,
    ⟨(some 71), (some (69, false)), .load none (.s 70)⟩,
    ⟨(some 72), (some (69, false)), .faddr 0 (.s 7)⟩,
    ⟨(some 73), (some (69, false)), .load none (.s 72)⟩,
    ⟨(some 74), (some (69, false)), .bin .eql (.s 71) (.s 73)⟩,
    ⟨(some 75), (some (69, false)), .mov (.s 74)⟩,
    ⟨(some 76), (some (75, true)), .faddr 7 (.s 3)⟩,
    ⟨(some 77), (some (75, true)), .load none (.s 76)⟩,
    ⟨(some 78), (some (75, true)), .faddr 0 (.s 7)⟩,
    ⟨(some 79), (some (75, true)), .load none (.s 78)⟩,
    ⟨(some 80), (some (75, true)), .iaddr 1 (.s 77) (.s 79)⟩,
    ⟨(some 81), (some (75, true)), .load none (.s 80)⟩,
    ⟨(some 82), (some (75, true)), .faddr 1 (.s 9)⟩,
    ⟨(some 83), (some (75, true)), .load none (.s 82)⟩,
    ⟨(some 84), (some (75, true)), .call 128 [(.s 81), (.s 83)]⟩,
    ⟨(some 85), (some (75, true)), .mov (.s 8)⟩,
    ⟨(some 86), (some (75, true)), .bin .lss (.s 84) (.s 85)⟩,
    ⟨(some 87), (some (69, false)), .pick (.s 75) (.s 86) (.c (.t (.bool false)))⟩,
    ⟨(some 88), none, .pick (.s 69) (.c (.t (.bool true))) (.s 87)⟩,
    ⟨(some 6), none, .mov (.s 88)⟩] [[], [0], [], [2], [1, 3], [4], [5], [6, 5], [5], [8, 5], [7, 9, 5], [10, 5, 5], [11], [12, 11], [11], [14, 11], [13, 15, 11], [16, 11], [11], [18, 11], [17, 19, 11, 11], [11], [20, 21, 11], [11, 22, 5], [5, 23], [24, 20, 0, 1, 2, 3, 4, 5, 6, 7, 8, 9, 10, 11, 12, 13, 14, 15, 16, 17, 18, 19, 20, 21, 22, 23, 24]] [6])
  (.ret))))))))⟩
theorem t_impl_orderedNote : tbl 84 = some M_impl_orderedNote := tblOf_eq Try.func84 (by kernel_rfl) (by kernel_rfl)

end Go.Proofs.Ytiniphmomjnocaa
