/-
  The code of the functions, as printed by program.
-/
import Derived.Test.YtlnnmndebmkdhaaH
namespace Go.Proofs.Ytlnnmndebmkdhaa
open Go.AM

/-- loop.example/g01921/laws.FnExactKeepResult -/
def M_laws_FnExactKeepResult : MFun := ⟨2, 77, [.tmp 4],
  .seq (.reg [
    ⟨(some 3), none, .box (.s 1)⟩,
    ⟨(some 4), none, .mov (.c (.t (.bool false)))⟩] [0, 3])
  (.seq (.reg [
    ⟨(some 5), none, .mov (.c (.t (.int .i64 1048576)))⟩] [0, 3, 5])
  (.seq (.reg [
    ⟨(some 13), none, .mov (.s 0)⟩,
    ⟨(some 14), none, .mov (.s 5)⟩,
    ⟨(some 15), none, .call 12 [(.s 13), (.s 14)]⟩,
    ⟨(some 5), none, .mov (.s 15)⟩] [0, 3, 5])
  (.seq (.seq (.reg [
    ⟨(some 16), none, .mov (.s 5)⟩,
    ⟨(some 17), none, .bin .lss (.s 16) (.c (.t (.int .i64 0)))⟩] [0, 3, 17])
  (.cond (.s 17)
    (.seq (.reg [
      ⟨(some 4), none, .mov (.c (.t (.bool true)))⟩] [4])
    (.ret))
    (.skip)))
  (.seq (.drw [
    ⟨(some 18), none, .mov (.s 0)⟩,
    ⟨(some 19), none, .call 14 [(.s 18)]⟩,
    ⟨(some 20), none, .load (some 2) (.s 3)⟩,
    ⟨(some 21), none, .call 15 [(.s 20)]⟩,
    ⟨(some 22), none, .call 13 [(.s 19), (.s 21)]⟩,
    ⟨(some 6), none, .mov (.s 22)⟩] [[], [0], [], [2, 1], [1, 3, 3], [4, 4, 0, 1, 2, 3, 4]] [0, 3, 6])
  (.seq (.reg [
    ⟨(some 23), none, .mov (.s 0)⟩,
    ⟨(some 24), none, .call 14 [(.s 23)]⟩,
    ⟨(some 7), none, .mov (.s 24)⟩] [0, 3, 6, 7])
  (.seq (.reg [
    ⟨(some 25), none, .mov (.s 7)⟩,
    ⟨(some 26), none, .load (some 2) (.s 3)⟩,
    ⟨(some 27), none, .call 15 [(.s 26)]⟩,
    ⟨(some 28), none, .call 16 [(.s 25), (.s 27)]⟩,
    ⟨(some 8), none, .mov (.s 28)⟩] [0, 3, 6, 7, 8])
  (.seq (.seq (.reg [
    ⟨(some 29), none, .mov (.s 8)⟩,
    ⟨(some 30), none, .mov (.s 6)⟩,
    ⟨(some 31), none, .call 17 [(.s 29), (.s 30)]⟩,
    ⟨(some 32), none, .un .not (.s 31)⟩] [0, 3, 6, 7, 8, 32])
  (.cond (.s 32)
    (.seq (.reg [
      ⟨(some 4), none, .mov (.c (.t (.bool false)))⟩] [4])
    (.ret))
    (.skip)))
  (.seq (.seq (.reg [
    ⟨(some 33), none, .mov (.s 7)⟩,
    ⟨(some 34), none, .mov (.s 0)⟩,
    ⟨(some 35), none, .call 14 [(.s 34)]⟩,
    ⟨(some 36), none, .call 17 [(.s 33), (.s 35)]⟩,
    ⟨(some 37), none, .un .not (.s 36)⟩] [0, 3, 6, 7, 8, 37])
  (.cond (.s 37)
    (.seq (.reg [
      ⟨(some 4), none, .mov (.c (.t (.bool false)))⟩] [4])
    (.ret))
    (.skip)))
  (.seq (.reg [
    ⟨(some 9), none, .mov (.c (.t (.int .i64 1)))⟩] [0, 3, 6, 7, 8, 9])
  (.seq (.reg [
    ⟨(some 38), none, .mov (.s 7)⟩,
    ⟨(some 39), none, .mov (.s 9)⟩,
    ⟨(some 40), none, .icall 18 [(.s 38), (.s 39)]⟩,
    ⟨(some 9), none, .mov (.s 40)⟩] [0, 3, 6, 8, 9])
  (.seq (.seq (.reg [
    ⟨(some 41), none, .mov (.s 9)⟩,
    ⟨(some 42), none, .bin .lss (.s 41) (.c (.t (.int .i64 0)))⟩,
    ⟨(some 43), none, .mov (.s 42)⟩,
    ⟨(some 44), (some (43, false)), .mov (.s 8)⟩,
    ⟨(some 45), (some (43, false)), .mov (.s 6)⟩,
    ⟨(some 46), (some (43, false)), .call 17 [(.s 44), (.s 45)]⟩,
    ⟨(some 47), (some (43, false)), .un .not (.s 46)⟩,
    ⟨(some 48), none, .pick (.s 43) (.c (.t (.bool true))) (.s 47)⟩] [0, 3, 6, 8, 48])
  (.cond (.s 48)
    (.seq (.reg [
      ⟨(some 4), none, .mov (.c (.t (.bool false)))⟩] [4])
    (.ret))
    (.skip)))
  (.seq (.reg [
    ⟨(some 10), none, .mov (.c (.t (.int .i64 1)))⟩] [0, 3, 6, 8, 10])
  (.seq (.reg [
    ⟨(some 49), none, .mov (.s 8)⟩,
    ⟨(some 50), none, .mov (.s 10)⟩,
    ⟨(some 51), none, .icall 18 [(.s 49), (.s 50)]⟩,
    ⟨(some 10), none, .mov (.s 51)⟩] [0, 3, 6, 8, 10])
  (.seq (.reg [
    ⟨(some 11), none, .mov (.c (.t (.int .i64 1)))⟩] [0, 3, 6, 8, 10, 11])
  (.seq (.reg [
    ⟨(some 52), none, .mov (.s 8)⟩,
    ⟨(some 53), none, .mov (.s 11)⟩,
    ⟨(some 54), none, .call 19 [(.s 52), (.s 53)]⟩,
    ⟨(some 11), none, .mov (.s 54)⟩] [0, 3, 6, 8, 10, 11])
  (.seq (.seq (.reg [
    ⟨(some 55), none, .mov (.s 11)⟩,
    ⟨(some 56), none, .bin .lss (.s 55) (.c (.t (.int .i64 0)))⟩] [0, 3, 6, 8, 10, 11, 56])
  (.cond (.s 56)
    (.seq (.reg [
      ⟨(some 4), none, .mov (.c (.t (.bool false)))⟩] [4])
    (.ret))
    (.skip)))
  (.seq (.seq (.reg [
    ⟨(some 57), none, .mov (.s 11)⟩,
    ⟨(some 58), none, .mov (.s 10)⟩,
    ⟨(some 59), none, .bin .neq (.s 57) (.s 58)⟩] [0, 3, 6, 8, 10, 59])
  (.cond (.s 59)
    (.seq (.reg [
      ⟨(some 4), none, .mov (.c (.t (.bool false)))⟩] [4])
    (.ret))
    (.skip)))
  (.seq (.drw [
    ⟨(some 60), none, .mov (.s 0)⟩,
    ⟨(some 61), none, .call 14 [(.s 60)]⟩,
    ⟨(some 62), none, .load (some 2) (.s 3)⟩,
    ⟨(some 63), none, .call 15 [(.s 62)]⟩,
    ⟨(some 64), none, .call 16 [(.s 61), (.s 63)]⟩,
    ⟨(some 12), none, .mov (.s 64)⟩] [[], [0], [], [2, 1], [1, 3, 3], [4, 4, 0, 1, 2, 3, 4]] [6, 8, 10, 12])
  (.seq (.seq (.reg [
    ⟨(some 65), none, .mov (.s 12)⟩,
    ⟨(some 66), none, .mov (.s 6)⟩,
    ⟨(some 67), none, .call 17 [(.s 65), (.s 66)]⟩,
    ⟨(some 68), none, .un .not (.s 67)⟩] [8, 10, 68])
  (.cond (.s 68)
    (.seq (.reg [
      ⟨(some 4), none, .mov (.c (.t (.bool false)))⟩] [4])
    (.ret))
    (.skip)))
  (.seq (.reg [
    ⟨(some 11), none, .mov (.c (.t (.int .i64 1)))⟩] [8, 10, 11])
  (.seq (.reg [
    ⟨(some 69), none, .mov (.s 8)⟩,
    ⟨(some 70), none, .mov (.s 11)⟩,
    ⟨(some 71), none, .call 19 [(.s 69), (.s 70)]⟩,
    ⟨(some 11), none, .mov (.s 71)⟩] [10, 11])
  (.seq (.seq (.reg [
    ⟨(some 72), none, .mov (.s 11)⟩,
    ⟨(some 73), none, .bin .lss (.s 72) (.c (.t (.int .i64 0)))⟩] [10, 11, 73])
  (.cond (.s 73)
    (.seq (.reg [
      ⟨(some 4), none, .mov (.c (.t (.bool false)))⟩] [4])
    (.ret))
    (.skip)))
  (.seq (.seq (.reg [
    ⟨(some 74), none, .mov (.s 11)⟩,
    ⟨(some 75), none, .mov (.s 10)⟩,
    ⟨(some 76), none, .bin .neq (.s 74) (.s 75)⟩] [76])
  (.cond (.s 76)
    (.seq (.reg [
      ⟨(some 4), none, .mov (.c (.t (.bool false)))⟩] [4])
    (.ret))
    (.skip)))
  (.seq (.reg [
    ⟨(some 4), none, .mov (.c (.t (.bool true)))⟩] [4])
  (.ret)))))))))))))))))))))))))⟩
theorem t_laws_FnExactKeepResult : tbl 4 = some M_laws_FnExactKeepResult := tblOf_eq Try.func4 (by kernel_rfl) (by kernel_rfl)

/-- loop.example/g01921/laws.FnExactEqualReplies -/
def M_laws_FnExactEqualReplies : MFun := ⟨2, 45, [.tmp 4],
  .seq (.reg [
    ⟨(some 2), none, .box (.s 0)⟩,
    ⟨(some 3), none, .box (.s 1)⟩,
    ⟨(some 4), none, .mov (.c (.t (.bool false)))⟩] [2, 3])
  (.seq (.reg [
    ⟨(some 5), none, .mov (.c (.t (.int .i64 1048576)))⟩] [2, 3, 5])
  (.seq (.reg [
    ⟨(some 10), none, .load (some 5) (.s 2)⟩,
    ⟨(some 11), none, .mov (.s 5)⟩,
    ⟨(some 12), none, .call 20 [(.s 10), (.s 11)]⟩,
    ⟨(some 5), none, .mov (.s 12)⟩] [2, 3, 5])
  (.seq (.seq (.reg [
    ⟨(some 13), none, .mov (.s 5)⟩,
    ⟨(some 14), none, .bin .lss (.s 13) (.c (.t (.int .i64 0)))⟩] [2, 3, 5, 14])
  (.cond (.s 14)
    (.seq (.reg [
      ⟨(some 4), none, .mov (.c (.t (.bool true)))⟩] [4])
    (.ret))
    (.skip)))
  (.seq (.reg [
    ⟨(some 15), none, .load (some 5) (.s 3)⟩,
    ⟨(some 16), none, .mov (.s 5)⟩,
    ⟨(some 17), none, .call 20 [(.s 15), (.s 16)]⟩,
    ⟨(some 5), none, .mov (.s 17)⟩] [2, 3, 5])
  (.seq (.seq (.reg [
    ⟨(some 18), none, .mov (.s 5)⟩,
    ⟨(some 19), none, .bin .lss (.s 18) (.c (.t (.int .i64 0)))⟩] [2, 3, 19])
  (.cond (.s 19)
    (.seq (.reg [
      ⟨(some 4), none, .mov (.c (.t (.bool true)))⟩] [4])
    (.ret))
    (.skip)))
  (.seq (.drw [
    ⟨(some 20), none, .load (some 5) (.s 2)⟩,
    ⟨(some 21), none, .call 22 [(.s 20)]⟩,
    ⟨(some 22), none, .load (some 5) (.s 3)⟩,
    ⟨(some 23), none, .call 22 [(.s 22)]⟩,
    ⟨(some 24), none, .call 21 [(.s 21), (.s 23)]⟩,
    ⟨(some 6), none, .mov (.s 24)⟩] [[], [0], [], [2, 1], [1, 3, 3], [4, 4, 0, 1, 2, 3, 4]] [2, 3, 6])
  (.seq (.reg [
    ⟨(some 25), none, .load (some 5) (.s 2)⟩,
    ⟨(some 26), none, .call 22 [(.s 25)]⟩,
    ⟨(some 7), none, .alloc [(.t (.int .i64 0)), (.t (.int .i64 0)), (.t (.int .i64 0)), (.t .nil), (.t .nil)]⟩,
    ⟨none, none, .store 5 (.s 7) (.s 26)⟩] [2, 3, 6, 7])
  (.seq (.reg [
    ⟨(some 27), none, .load (some 5) (.s 3)⟩,
    ⟨(some 28), none, .call 22 [(.s 27)]⟩,
    ⟨(some 8), none, .alloc [(.t (.int .i64 0)), (.t (.int .i64 0)), (.t (.int .i64 0)), (.t .nil), (.t .nil)]⟩,
    ⟨none, none, .store 5 (.s 8) (.s 28)⟩] [2, 3, 6, 7, 8])
  (.seq (.reg [
    ⟨(some 29), none, .load (some 5) (.s 7)⟩,
    ⟨(some 30), none, .load (some 5) (.s 8)⟩,
    ⟨(some 31), none, .call 23 [(.s 29), (.s 30)]⟩,
    ⟨(some 9), none, .mov (.s 31)⟩] [2, 3, 6, 7, 8, 9])
  (.seq (.seq (.reg [
    ⟨(some 32), none, .mov (.s 9)⟩,
    ⟨(some 33), none, .mov (.s 6)⟩,
    ⟨(some 34), none, .beq true (.s 32) (.s 33)⟩] [2, 3, 7, 8, 34])
  (.cond (.s 34)
    (.seq (.reg [
      ⟨(some 4), none, .mov (.c (.t (.bool false)))⟩] [4])
    (.ret))
    (.skip)))
  (.seq (.seq (.drw [
    ⟨(some 35), none, .load (some 5) (.s 7)⟩,
    ⟨(some 36), none, .load (some 5) (.s 2)⟩,
    ⟨(some 37), none, .call 22 [(.s 36)]⟩,
    ⟨(some 38), none, .call 24 [(.s 35), (.s 37)]⟩,
    ⟨(some 39), none, .un .not (.s 38)⟩] [[], [], [1], [0, 2, 2], [3]] [3, 8, 39])
  (.cond (.s 39)
    (.seq (.reg [
      ⟨(some 4), none, .mov (.c (.t (.bool false)))⟩] [4])
    (.ret))
    (.skip)))
  (.seq (.seq (.drw [
    ⟨(some 40), none, .load (some 5) (.s 8)⟩,
    ⟨(some 41), none, .load (some 5) (.s 3)⟩,
    ⟨(some 42), none, .call 22 [(.s 41)]⟩,
    ⟨(some 43), none, .call 24 [(.s 40), (.s 42)]⟩,
    ⟨(some 44), none, .un .not (.s 43)⟩] [[], [], [1], [0, 2, 2], [3]] [44])
  (.cond (.s 44)
    (.seq (.reg [
      ⟨(some 4), none, .mov (.c (.t (.bool false)))⟩] [4])
    (.ret))
    (.skip)))
  (.seq (.reg [
    ⟨(some 4), none, .mov (.c (.t (.bool true)))⟩] [4])
  (.ret))))))))))))))⟩
theorem t_laws_FnExactEqualReplies : tbl 5 = some M_laws_FnExactEqualReplies := tblOf_eq Try.func5 (by kernel_rfl) (by kernel_rfl)

/-- loop.example/g01921/laws.FnExactEqualRegions -/
def M_laws_FnExactEqualRegions : MFun := ⟨2, 45, [.tmp 4],
  .seq (.reg [
    ⟨(some 2), none, .box (.s 0)⟩,
    ⟨(some 3), none, .box (.s 1)⟩,
    ⟨(some 4), none, .mov (.c (.t (.bool false)))⟩] [2, 3])
  (.seq (.reg [
    ⟨(some 5), none, .mov (.c (.t (.int .i64 1048576)))⟩] [2, 3, 5])
  (.seq (.reg [
    ⟨(some 10), none, .load (some 4) (.s 2)⟩,
    ⟨(some 11), none, .mov (.s 5)⟩,
    ⟨(some 12), none, .call 25 [(.s 10), (.s 11)]⟩,
    ⟨(some 5), none, .mov (.s 12)⟩] [2, 3, 5])
  (.seq (.seq (.reg [
    ⟨(some 13), none, .mov (.s 5)⟩,
    ⟨(some 14), none, .bin .lss (.s 13) (.c (.t (.int .i64 0)))⟩] [2, 3, 5, 14])
  (.cond (.s 14)
    (.seq (.reg [
      ⟨(some 4), none, .mov (.c (.t (.bool true)))⟩] [4])
    (.ret))
    (.skip)))
  (.seq (.reg [
    ⟨(some 15), none, .load (some 4) (.s 3)⟩,
    ⟨(some 16), none, .mov (.s 5)⟩,
    ⟨(some 17), none, .call 25 [(.s 15), (.s 16)]⟩,
    ⟨(some 5), none, .mov (.s 17)⟩] [2, 3, 5])
  (.seq (.seq (.reg [
    ⟨(some 18), none, .mov (.s 5)⟩,
    ⟨(some 19), none, .bin .lss (.s 18) (.c (.t (.int .i64 0)))⟩] [2, 3, 19])
  (.cond (.s 19)
    (.seq (.reg [
      ⟨(some 4), none, .mov (.c (.t (.bool true)))⟩] [4])
    (.ret))
    (.skip)))
  (.seq (.drw [
    ⟨(some 20), none, .load (some 4) (.s 2)⟩,
    ⟨(some 21), none, .call 27 [(.s 20)]⟩,
    ⟨(some 22), none, .load (some 4) (.s 3)⟩,
    ⟨(some 23), none, .call 27 [(.s 22)]⟩,
    ⟨(some 24), none, .call 26 [(.s 21), (.s 23)]⟩,
    ⟨(some 6), none, .mov (.s 24)⟩] [[], [0], [], [2, 1], [1, 3, 3], [4, 4, 0, 1, 2, 3, 4]] [2, 3, 6])
  (.seq (.reg [
    ⟨(some 25), none, .load (some 4) (.s 2)⟩,
    ⟨(some 26), none, .call 27 [(.s 25)]⟩,
    ⟨(some 7), none, .alloc [(.t .nil), (.t .nil), (.t .nil), (.t (.int .i64 0))]⟩,
    ⟨none, none, .store 4 (.s 7) (.s 26)⟩] [2, 3, 6, 7])
  (.seq (.reg [
    ⟨(some 27), none, .load (some 4) (.s 3)⟩,
    ⟨(some 28), none, .call 27 [(.s 27)]⟩,
    ⟨(some 8), none, .alloc [(.t .nil), (.t .nil), (.t .nil), (.t (.int .i64 0))]⟩,
    ⟨none, none, .store 4 (.s 8) (.s 28)⟩] [2, 3, 6, 7, 8])
  (.seq (.reg [
    ⟨(some 29), none, .load (some 4) (.s 7)⟩,
    ⟨(some 30), none, .load (some 4) (.s 8)⟩,
    ⟨(some 31), none, .call 28 [(.s 29), (.s 30)]⟩,
    ⟨(some 9), none, .mov (.s 31)⟩] [2, 3, 6, 7, 8, 9])
  (.seq (.seq (.reg [
    ⟨(some 32), none, .mov (.s 9)⟩,
    ⟨(some 33), none, .mov (.s 6)⟩,
    ⟨(some 34), none, .beq true (.s 32) (.s 33)⟩] [2, 3, 7, 8, 34])
  (.cond (.s 34)
    (.seq (.reg [
      ⟨(some 4), none, .mov (.c (.t (.bool false)))⟩] [4])
    (.ret))
    (.skip)))
  (.seq (.seq (.drw [
    ⟨(some 35), none, .load (some 4) (.s 7)⟩,
    ⟨(some 36), none, .load (some 4) (.s 2)⟩,
    ⟨(some 37), none, .call 27 [(.s 36)]⟩,
    ⟨(some 38), none, .call 29 [(.s 35), (.s 37)]⟩,
    ⟨(some 39), none, .un .not (.s 38)⟩] [[], [], [1], [0, 2, 2], [3]] [3, 8, 39])
  (.cond (.s 39)
    (.seq (.reg [
      ⟨(some 4), none, .mov (.c (.t (.bool false)))⟩] [4])
    (.ret))
    (.skip)))
  (.seq (.seq (.drw [
    ⟨(some 40), none, .load (some 4) (.s 8)⟩,
    ⟨(some 41), none, .load (some 4) (.s 3)⟩,
    ⟨(some 42), none, .call 27 [(.s 41)]⟩,
    ⟨(some 43), none, .call 29 [(.s 40), (.s 42)]⟩,
    ⟨(some 44), none, .un .not (.s 43)⟩] [[], [], [1], [0, 2, 2], [3]] [44])
  (.cond (.s 44)
    (.seq (.reg [
      ⟨(some 4), none, .mov (.c (.t (.bool false)))⟩] [4])
    (.ret))
    (.skip)))
  (.seq (.reg [
    ⟨(some 4), none, .mov (.c (.t (.bool true)))⟩] [4])
  (.ret))))))))))))))⟩
theorem t_laws_FnExactEqualRegions : tbl 6 = some M_laws_FnExactEqualRegions := tblOf_eq Try.func6 (by kernel_rfl) (by kernel_rfl)

/-- loop.example/g01921/laws.FnExactReadCost -/
def M_laws_FnExactReadCost : MFun := ⟨2, 31, [.tmp 4],
  .seq (.reg [
    ⟨(some 2), none, .box (.s 0)⟩,
    ⟨(some 4), none, .mov (.c (.t (.bool false)))⟩] [1, 2])
  (.seq (.reg [
    ⟨(some 5), none, .mov (.c (.t (.int .i64 1048576)))⟩] [1, 2, 5])
  (.seq (.reg [
    ⟨(some 9), none, .load (some 30) (.s 2)⟩,
    ⟨(some 10), none, .mov (.s 5)⟩,
    ⟨(some 11), none, .call 30 [(.s 9), (.s 10)]⟩,
    ⟨(some 5), none, .mov (.s 11)⟩] [1, 2, 5])
  (.seq (.seq (.reg [
    ⟨(some 12), none, .mov (.s 5)⟩,
    ⟨(some 13), none, .bin .lss (.s 12) (.c (.t (.int .i64 0)))⟩] [1, 2, 13])
  (.cond (.s 13)
    (.seq (.reg [
      ⟨(some 4), none, .mov (.c (.t (.bool true)))⟩] [4])
    (.ret))
    (.skip)))
  (.seq (.reg [
    ⟨(some 14), none, .load (some 30) (.s 2)⟩,
    ⟨(some 15), none, .call 32 [(.s 14)]⟩,
    ⟨(some 16), none, .mov (.s 1)⟩,
    ⟨(some 17), none, .call 31 [(.s 15), (.s 16)]⟩,
    ⟨(some 6), none, .mov (.s 17)⟩] [1, 2, 6])
  (.seq (.reg [
    ⟨(some 18), none, .load (some 30) (.s 2)⟩,
    ⟨(some 19), none, .call 32 [(.s 18)]⟩,
    ⟨(some 7), none, .alloc [(.t (.int .i64 0)), (.t (.int .i64 0)), (.t (.int .i64 0)), (.t (.int .i64 0)), (.t (.int .i64 0)), (.t .nil), (.t (.int .i64 0)), (.t (.int .i64 0)), (.t (.int .i64 0)), (.t (.int .i64 0)), (.t (.int .i64 0)), (.t .nil), (.t (.int .i64 0)), (.t (.int .i64 0)), (.t (.int .i64 0)), (.t (.int .i64 0)), (.t (.int .i64 0)), (.t .nil), (.t (.int .i64 0)), (.t (.int .i64 0)), (.t (.int .i64 0)), (.t (.int .i64 0)), (.t (.int .i64 0)), (.t .nil), (.t (.int .i64 0)), (.t (.int .i64 0)), (.t (.int .i64 0)), (.t (.int .i64 0)), (.t (.int .i64 0)), (.t .nil)]⟩,
    ⟨none, none, .store 30 (.s 7) (.s 19)⟩] [1, 2, 6, 7])
  (.seq (.reg [
    ⟨(some 20), none, .load (some 30) (.s 7)⟩,
    ⟨(some 21), none, .mov (.s 1)⟩,
    ⟨(some 22), none, .call 33 [(.s 20), (.s 21)]⟩,
    ⟨(some 8), none, .mov (.s 22)⟩] [2, 6, 7, 8])
  (.seq (.seq (.reg [
    ⟨(some 23), none, .mov (.s 8)⟩,
    ⟨(some 24), none, .mov (.s 6)⟩,
    ⟨(some 25), none, .bin .neq (.s 23) (.s 24)⟩] [2, 7, 25])
  (.cond (.s 25)
    (.seq (.reg [
      ⟨(some 4), none, .mov (.c (.t (.bool false)))⟩] [4])
    (.ret))
    (.skip)))
  (.seq (.seq (.drw [
    ⟨(some 26), none, .load (some 30) (.s 7)⟩,
    ⟨(some 27), none, .load (some 30) (.s 2)⟩,
    ⟨(some 28), none, .call 32 [(.s 27)]⟩,
    ⟨(some 29), none, .call 34 [(.s 26), (.s 28)]⟩,
    ⟨(some 30), none, .un .not (.s 29)⟩] [[], [], [1], [0, 2, 2], [3]] [30])
  (.cond (.s 30)
    (.seq (.reg [
      ⟨(some 4), none, .mov (.c (.t (.bool false)))⟩] [4])
    (.ret))
    (.skip)))
  (.seq (.reg [
    ⟨(some 4), none, .mov (.c (.t (.bool true)))⟩] [4])
  (.ret))))))))))⟩
theorem t_laws_FnExactReadCost : tbl 7 = some M_laws_FnExactReadCost := tblOf_eq Try.func7 (by kernel_rfl) (by kernel_rfl)

/-- loop.example/g01921/laws.FnExactOldestEntry -/
def M_laws_FnExactOldestEntry : MFun := ⟨1, 27, [.tmp 2],
  .seq (.reg [
    ⟨(some 1), none, .box (.s 0)⟩,
    ⟨(some 2), none, .mov (.c (.t (.bool false)))⟩] [1])
  (.seq (.reg [
    ⟨(some 3), none, .mov (.c (.t (.int .i64 1048576)))⟩] [1, 3])
  (.seq (.reg [
    ⟨(some 7), none, .load (some 2) (.s 1)⟩,
    ⟨(some 8), none, .mov (.s 3)⟩,
    ⟨(some 9), none, .call 35 [(.s 7), (.s 8)]⟩,
    ⟨(some 3), none, .mov (.s 9)⟩] [1, 3])
  (.seq (.seq (.reg [
    ⟨(some 10), none, .mov (.s 3)⟩,
    ⟨(some 11), none, .bin .lss (.s 10) (.c (.t (.int .i64 0)))⟩] [1, 11])
  (.cond (.s 11)
    (.seq (.reg [
      ⟨(some 2), none, .mov (.c (.t (.bool true)))⟩] [2])
    (.ret))
    (.skip)))
  (.seq (.reg [
    ⟨(some 12), none, .load (some 2) (.s 1)⟩,
    ⟨(some 13), none, .call 37 [(.s 12)]⟩,
    ⟨(some 14), none, .call 36 [(.s 13)]⟩,
    ⟨(some 4), none, .mov (.s 14)⟩] [1, 4])
  (.seq (.reg [
    ⟨(some 15), none, .load (some 2) (.s 1)⟩,
    ⟨(some 16), none, .call 37 [(.s 15)]⟩,
    ⟨(some 5), none, .alloc [(.t (.int .i64 0)), (.t .nil)]⟩,
    ⟨none, none, .store 2 (.s 5) (.s 16)⟩] [1, 4, 5])
  (.seq (.reg [
    ⟨(some 17), none, .load (some 2) (.s 5)⟩,
    ⟨(some 18), none, .call 38 [(.s 17)]⟩,
    ⟨(some 6), none, .mov (.s 18)⟩] [1, 4, 5, 6])
  (.seq (.seq (.reg [
    ⟨(some 19), none, .mov (.s 6)⟩,
    ⟨(some 20), none, .mov (.s 4)⟩,
    ⟨(some 21), none, .bin .neq (.s 19) (.s 20)⟩] [1, 5, 21])
  (.cond (.s 21)
    (.seq (.reg [
      ⟨(some 2), none, .mov (.c (.t (.bool false)))⟩] [2])
    (.ret))
    (.skip)))
  (.seq (.seq (.drw [
    ⟨(some 22), none, .load (some 2) (.s 5)⟩,
    ⟨(some 23), none, .load (some 2) (.s 1)⟩,
    ⟨(some 24), none, .call 37 [(.s 23)]⟩,
    ⟨(some 25), none, .call 39 [(.s 22), (.s 24)]⟩,
    ⟨(some 26), none, .un .not (.s 25)⟩] [[], [], [1], [0, 2, 2], [3]] [26])
  (.cond (.s 26)
    (.seq (.reg [
      ⟨(some 2), none, .mov (.c (.t (.bool false)))⟩] [2])
    (.ret))
    (.skip)))
  (.seq (.reg [
    ⟨(some 2), none, .mov (.c (.t (.bool true)))⟩] [2])
  (.ret))))))))))⟩
theorem t_laws_FnExactOldestEntry : tbl 8 = some M_laws_FnExactOldestEntry := tblOf_eq Try.func8 (by kernel_rfl) (by kernel_rfl)

/-- loop.example/g01921/laws.FnExactIsReadable -/
def M_laws_FnExactIsReadable : MFun := ⟨3, 35, [.tmp 6],
  .seq (.reg [
    ⟨(some 3), none, .box (.s 0)⟩,
    ⟨(some 6), none, .mov (.c (.t (.bool false)))⟩] [1, 2, 3])
  (.seq (.reg [
    ⟨(some 7), none, .mov (.c (.t (.int .i64 1048576)))⟩] [1, 2, 3, 7])
  (.seq (.reg [
    ⟨(some 11), none, .load (some 30) (.s 3)⟩,
    ⟨(some 12), none, .mov (.s 7)⟩,
    ⟨(some 13), none, .call 30 [(.s 11), (.s 12)]⟩,
    ⟨(some 7), none, .mov (.s 13)⟩] [1, 2, 3, 7])
  (.seq (.seq (.reg [
    ⟨(some 14), none, .mov (.s 7)⟩,
    ⟨(some 15), none, .bin .lss (.s 14) (.c (.t (.int .i64 0)))⟩] [1, 2, 3, 15])
  (.cond (.s 15)
    (.seq (.reg [
      ⟨(some 6), none, .mov (.c (.t (.bool true)))⟩] [6])
    (.ret))
    (.skip)))
  (.seq (.reg [
    ⟨(some 16), none, .load (some 30) (.s 3)⟩,
    ⟨(some 17), none, .call 32 [(.s 16)]⟩,
    ⟨(some 18), none, .mov (.s 1)⟩,
    ⟨(some 19), none, .mov (.s 2)⟩,
    ⟨(some 20), none, .call 40 [(.s 17), (.s 18), (.s 19)]⟩,
    ⟨(some 8), none, .mov (.s 20)⟩] [1, 2, 3, 8])
  (.seq (.reg [
    ⟨(some 21), none, .load (some 30) (.s 3)⟩,
    ⟨(some 22), none, .call 32 [(.s 21)]⟩,
    ⟨(some 9), none, .alloc [(.t (.int .i64 0)), (.t (.int .i64 0)), (.t (.int .i64 0)), (.t (.int .i64 0)), (.t (.int .i64 0)), (.t .nil), (.t (.int .i64 0)), (.t (.int .i64 0)), (.t (.int .i64 0)), (.t (.int .i64 0)), (.t (.int .i64 0)), (.t .nil), (.t (.int .i64 0)), (.t (.int .i64 0)), (.t (.int .i64 0)), (.t (.int .i64 0)), (.t (.int .i64 0)), (.t .nil), (.t (.int .i64 0)), (.t (.int .i64 0)), (.t (.int .i64 0)), (.t (.int .i64 0)), (.t (.int .i64 0)), (.t .nil), (.t (.int .i64 0)), (.t (.int .i64 0)), (.t (.int .i64 0)), (.t (.int .i64 0)), (.t (.int .i64 0)), (.t .nil)]⟩,
    ⟨none, none, .store 30 (.s 9) (.s 22)⟩] [1, 2, 3, 8, 9])
  (.seq (.reg [
    ⟨(some 23), none, .load (some 30) (.s 9)⟩,
    ⟨(some 24), none, .mov (.s 1)⟩,
    ⟨(some 25), none, .mov (.s 2)⟩,
    ⟨(some 26), none, .call 41 [(.s 23), (.s 24), (.s 25)]⟩,
    ⟨(some 10), none, .mov (.s 26)⟩] [3, 8, 9, 10])
  (.seq (.seq (.reg [
    ⟨(some 27), none, .mov (.s 10)⟩,
    ⟨(some 28), none, .mov (.s 8)⟩,
    ⟨(some 29), none, .beq true (.s 27) (.s 28)⟩] [3, 9, 29])
  (.cond (.s 29)
    (.seq (.reg [
      ⟨(some 6), none, .mov (.c (.t (.bool false)))⟩] [6])
    (.ret))
    (.skip)))
  (.seq (.seq (.drw [
    ⟨(some 30), none, .load (some 30) (.s 9)⟩,
    ⟨(some 31), none, .load (some 30) (.s 3)⟩,
    ⟨(some 32), none, .call 32 [(.s 31)]⟩,
    ⟨(some 33), none, .call 34 [(.s 30), (.s 32)]⟩,
    ⟨(some 34), none, .un .not (.s 33)⟩] [[], [], [1], [0, 2, 2], [3]] [34])
  (.cond (.s 34)
    (.seq (.reg [
      ⟨(some 6), none, .mov (.c (.t (.bool false)))⟩] [6])
    (.ret))
    (.skip)))
  (.seq (.reg [
    ⟨(some 6), none, .mov (.c (.t (.bool true)))⟩] [6])
  (.ret))))))))))⟩
theorem t_laws_FnExactIsReadable : tbl 9 = some M_laws_FnExactIsReadable := tblOf_eq Try.func9 (by kernel_rfl) (by kernel_rfl)

/-- loop.example/g01921/laws.szKeptS -/
def M_laws_szKeptS : MFun := ⟨2, 12, [.tmp 4],
  .seq (.reg [
    ⟨(some 4), none, .mov (.c (.t (.int .i64 0)))⟩] [0, 1])
  (.seq (.reg [
    ⟨(some 5), none, .mov (.s 1)⟩,
    ⟨(some 6), none, .mov (.s 0)⟩,
    ⟨(some 7), none, .len false (.s 6)⟩,
    ⟨(some 8), none, .bin .sub (.s 5) (.s 7)⟩,
    ⟨(some 1), none, .mov (.s 8)⟩] [1])
  (.seq (.seq (.reg [
    ⟨(some 9), none, .mov (.s 1)⟩,
    ⟨(some 10), none, .bin .lss (.s 9) (.c (.t (.int .i64 0)))⟩] [1, 10])
  (.cond (.s 10)
    (.seq (.reg [
      ⟨(some 4), none, .mov (.c (.t (.int .i64 (-1))))⟩] [4])
    (.ret))
    (.skip)))
  (.seq (.reg [
    ⟨(some 11), none, .mov (.s 1)⟩,
    ⟨(some 4), none, .mov (.s 11)⟩] [4])
  (.ret))))⟩
theorem t_laws_szKeptS : tbl 12 = some M_laws_szKeptS := tblOf_eq Try.func12 (by kernel_rfl) (by kernel_rfl)

/-- loop.example/g01921/spec.KeepResult -/
def B_spec_KeepResult_0 : MCode :=
  .seq (.seq (.reg [
    ⟨(some 9), none, .mov (.s 7)⟩,
    ⟨(some 10), none, .mov (.s 0)⟩,
    ⟨(some 11), none, .len false (.s 10)⟩,
    ⟨(some 12), none, .bin .lss (.s 9) (.s 11)⟩] [0, 3, 5, 6, 7, 12])
  (.cond (.s 12)
    (.skip)
    (.exit 0)))
  (.seq (.block 1 (.seq (.seq (.drw [
    ⟨(some 15), none, .mov (.s 6)⟩,
    ⟨(some 16), none, .un .not (.s 15)⟩,
    ⟨(some 17), none, .mov (.s 16)⟩,
    ⟨(some 18), (some (17, true)), .mov (.s 0)⟩,
    ⟨(some 19), (some (17, true)), .mov (.s 7)⟩,
    ⟨(some 20), (some (17, true)), .iaddr 2 (.s 18) (.s 19)⟩,
    ⟨(some 21), (some (17, true)), .faddr 0 (.s 20)⟩,
    ⟨(some 22), (some (17, true)), .load none (.s 21)⟩,
    ⟨(some 23), (some (17, true)), .faddr 0 (.s 3)⟩,
    ⟨(some 24), (some (17, true)), .load none (.s 23)⟩,
    ⟨(some 25), (some (17, true)), .bin .geq (.s 22) (.s 24)⟩,
    ⟨(some 26), none, .pick (.s 17) (.s 25) (.c (.t (.bool false)))⟩] [[], [0], [1], [2], [2], [3, 4, 2], [5, 2], [6, 2], [2], [8, 2], [7, 9, 2], [2, 10]] [0, 3, 5, 6, 7, 26])
  (.cond (.s 26)
    (.seq (.reg [
      ⟨(some 27), none, .mov (.s 5)⟩,
      ⟨(some 28), none, .load (some 2) (.s 3)⟩,
      ⟨(some 29), none, .bslice 31 2 1 [(.int .i64 0), (.int .i64 0)] [(0, (.s 28))]⟩,
      ⟨(some 30), none, .append 31 2 16 true (.s 27) (.s 29)⟩,
      ⟨(some 5), none, .mov (.s 30)⟩] [0, 3, 5, 7])
    (.reg [
      ⟨(some 6), none, .mov (.c (.t (.bool true)))⟩] [0, 3, 5, 6, 7]))
    (.skip)))
  (.seq (.drw [
    ⟨(some 31), none, .mov (.s 0)⟩,
    ⟨(some 32), none, .mov (.s 7)⟩,
    ⟨(some 33), none, .iaddr 2 (.s 31) (.s 32)⟩,
    ⟨(some 34), none, .faddr 0 (.s 33)⟩,
    ⟨(some 35), none, .load none (.s 34)⟩,
    ⟨(some 36), none, .faddr 0 (.s 3)⟩,
    ⟨(some 37), none, .load none (.s 36)⟩,
    ⟨(some 38), none, .bin .neq (.s 35) (.s 37)⟩] [[], [], [0, 1], [2], [3], [], [5], [4, 6]] [0, 3, 5, 6, 7, 38])
  (.cond (.s 38)
    (.reg [
      ⟨(some 39), none, .mov (.s 5)⟩,
      ⟨(some 40), none, .mov (.s 0)⟩,
      ⟨(some 41), none, .mov (.s 7)⟩,
      ⟨(some 42), none, .iaddr 2 (.s 40) (.s 41)⟩,
      ⟨(some 43), none, .load (some 2) (.s 42)⟩,
      ⟨(some 44), none, .bslice 31 2 1 [(.int .i64 0), (.int .i64 0)] [(0, (.s 43))]⟩,
      ⟨(some 45), none, .append 31 2 16 true (.s 39) (.s 44)⟩,
      ⟨(some 5), none, .mov (.s 45)⟩] [0, 3, 5, 6, 7])
    (.skip)))))
  (.reg [
    ⟨(some 13), none, .mov (.s 7)⟩,
    ⟨(some 14), none, .bin .add (.s 13) (.c (.t (.int .i64 1)))⟩,
    ⟨(some 7), none, .mov (.s 14)⟩] [0, 3, 5, 6, 7]))

def M_spec_KeepResult : MFun := ⟨2, 53, [.tmp 4],
  .seq (.reg [
    ⟨(some 3), none, .box (.s 1)⟩,
    ⟨(some 4), none, .mov (.c (.t .nil))⟩] [0, 3])
  (.seq (.reg [
    ⟨(some 8), none, .bslice 31 2 0 [(.int .i64 0), (.int .i64 0)] []⟩,
    ⟨(some 5), none, .mov (.s 8)⟩] [0, 3, 5])
  (.seq (.reg [
    ⟨(some 6), none, .mov (.c (.t (.bool false)))⟩] [0, 3, 5, 6])
  (.seq (.seq (.reg [
    ⟨(some 7), none, .mov (.c (.t (.int .i64 0)))⟩] [0, 3, 5, 6, 7])
  (.block 0 (.loop [0, 3, 5, 6, 7] B_spec_KeepResult_0)))
  (.seq (.seq (.reg [
    ⟨(some 46), none, .mov (.s 6)⟩,
    ⟨(some 47), none, .un .not (.s 46)⟩] [3, 5, 47])
  (.cond (.s 47)
    (.reg [
      ⟨(some 48), none, .mov (.s 5)⟩,
      ⟨(some 49), none, .load (some 2) (.s 3)⟩,
      ⟨(some 50), none, .bslice 31 2 1 [(.int .i64 0), (.int .i64 0)] [(0, (.s 49))]⟩,
      ⟨(some 51), none, .append 31 2 16 true (.s 48) (.s 50)⟩,
      ⟨(some 5), none, .mov (.s 51)⟩] [5])
    (.skip)))
  (.seq (.reg [
    ⟨(some 52), none, .mov (.s 5)⟩,
    ⟨(some 4), none, .mov (.s 52)⟩] [4])
  (.ret))))))⟩
theorem t_spec_KeepResult : tbl 13 = some M_spec_KeepResult := tblOf_eq Try.func13 (by kernel_rfl) (by kernel_rfl)

/-- loop.example/g01921/laws.toKeptS -/
def B_laws_toKeptS_0 : MCode :=
  .seq (.seq (.reg [
    ⟨(some 8), none, .mov (.s 4)⟩,
    ⟨(some 9), none, .mov (.s 0)⟩,
    ⟨(some 10), none, .len false (.s 9)⟩,
    ⟨(some 11), none, .bin .lss (.s 8) (.s 10)⟩] [0, 3, 4, 11])
  (.cond (.s 11)
    (.skip)
    (.exit 0)))
  (.seq (.block 1 (.reg [
    ⟨(some 14), none, .mov (.s 3)⟩,
    ⟨(some 15), none, .mov (.s 4)⟩,
    ⟨(some 16), none, .mov (.s 0)⟩,
    ⟨(some 17), none, .mov (.s 4)⟩,
    ⟨(some 18), none, .iaddr 2 (.s 16) (.s 17)⟩,
    ⟨(some 19), none, .load (some 2) (.s 18)⟩,
    ⟨(some 20), none, .call 15 [(.s 19)]⟩,
    ⟨(some 21), none, .iaddr 2 (.s 14) (.s 15)⟩,
    ⟨none, none, .store 2 (.s 21) (.s 20)⟩] [0, 3, 4]))
  (.reg [
    ⟨(some 12), none, .mov (.s 4)⟩,
    ⟨(some 13), none, .bin .add (.s 12) (.c (.t (.int .i64 1)))⟩,
    ⟨(some 4), none, .mov (.s 13)⟩] [0, 3, 4]))

def M_laws_toKeptS : MFun := ⟨1, 23, [.tmp 2],
  .seq (.reg [
    ⟨(some 2), none, .mov (.c (.t .nil))⟩] [0])
  (.seq (.reg [
    ⟨(some 5), none, .mov (.s 0)⟩,
    ⟨(some 6), none, .len false (.s 5)⟩,
    ⟨(some 7), none, .mkslice 31 2 16 [(.int .i64 0), (.int .i64 0)] (.s 6) (.s 6)⟩,
    ⟨(some 3), none, .mov (.s 7)⟩] [0, 3])
  (.seq (.seq (.reg [
    ⟨(some 4), none, .mov (.c (.t (.int .i64 0)))⟩] [0, 3, 4])
  (.block 0 (.loop [0, 3, 4] B_laws_toKeptS_0)))
  (.seq (.reg [
    ⟨(some 22), none, .mov (.s 3)⟩,
    ⟨(some 2), none, .mov (.s 22)⟩] [2])
  (.ret))))⟩
theorem t_laws_toKeptS : tbl 14 = some M_laws_toKeptS := tblOf_eq Try.func14 (by kernel_rfl) (by kernel_rfl)

/-- loop.example/g01921/laws.toKept -/
def M_laws_toKept : MFun := ⟨1, 11, [.cell 2 (some 2)],
  .seq (.reg [
    ⟨(some 1), none, .box (.s 0)⟩,
    ⟨(some 2), none, .alloc [(.t (.int .i64 0)), (.t (.int .i64 0))]⟩] [1, 2])
  (.seq (.reg [
    ⟨(some 3), none, .alloc [(.t (.int .i64 0)), (.t (.int .i64 0))]⟩] [1, 2, 3])
  (.seq (.reg [
    ⟨(some 4), none, .faddr 0 (.s 1)⟩,
    ⟨(some 5), none, .load none (.s 4)⟩,
    ⟨(some 6), none, .faddr 0 (.s 3)⟩,
    ⟨none, none, .store 1 (.s 6) (.s 5)⟩] [1, 2, 3])
  (.seq (.reg [
    ⟨(some 7), none, .faddr 1 (.s 1)⟩,
    ⟨(some 8), none, .load none (.s 7)⟩,
    ⟨(some 9), none, .faddr 1 (.s 3)⟩,
    ⟨none, none, .store 1 (.s 9) (.s 8)⟩] [2, 3])
  (.seq (.reg [
    ⟨(some 10), none, .load (some 2) (.s 3)⟩,
    ⟨none, none, .store 2 (.s 2) (.s 10)⟩] [2])
  (.ret)))))⟩
theorem t_laws_toKept : tbl 15 = some M_laws_toKept := tblOf_eq Try.func15 (by kernel_rfl) (by kernel_rfl)

/-- loop.example/g01921/impl.KeepResult -/
def B_impl_KeepResult_0 : MCode :=
  .seq (.reg [
    ⟨(some 13), none, .bin .lss (.s 12) (.s 11)⟩] [3, 5, 6, 10, 11, 12, 13])
  (.seq (.cond (.s 13)
    (.skip)
    (.exit 0))
  (.seq (.block 1 (.seq (.reg [
    ⟨(some 14), none, .iaddr 2 (.s 10) (.s 12)⟩,
    ⟨(some 15), none, .load (some 2) (.s 14)⟩,
    ⟨(some 8), none, .alloc [(.t (.int .i64 0)), (.t (.int .i64 0))]⟩,
    ⟨none, none, .store 2 (.s 8) (.s 15)⟩] [3, 5, 6, 8, 10, 11, 12])
  (.seq (.seq (.reg [
    ⟨(some 16), none, .mov (.s 6)⟩,
    ⟨(some 17), none, .un .not (.s 16)⟩,
    ⟨(some 18), none, .mov (.s 17)⟩,
    ⟨(some 19), (some (18, true)), .faddr 0 (.s 8)⟩,
    ⟨(some 20), (some (18, true)), .load none (.s 19)⟩,
    ⟨(some 21), (some (18, true)), .faddr 0 (.s 3)⟩,
    ⟨(some 22), (some (18, true)), .load none (.s 21)⟩,
    ⟨(some 23), (some (18, true)), .bin .geq (.s 20) (.s 22)⟩,
    ⟨(some 24), none, .pick (.s 18) (.s 23) (.c (.t (.bool false)))⟩] [3, 5, 6, 8, 10, 11, 12, 24])
  (.cond (.s 24)
    (.seq (.reg [
      ⟨(some 25), none, .mov (.s 5)⟩,
      ⟨(some 26), none, .load (some 2) (.s 3)⟩,
      ⟨(some 27), none, .bslice 31 2 1 [(.int .i64 0), (.int .i64 0)] [(0, (.s 26))]⟩,
      ⟨(some 28), none, .append 31 2 16 true (.s 25) (.s 27)⟩,
      ⟨(some 5), none, .mov (.s 28)⟩] [3, 5, 8, 10, 11, 12])
    (.reg [
      ⟨(some 6), none, .mov (.c (.t (.bool true)))⟩] [3, 5, 6, 8, 10, 11, 12]))
    (.skip)))
  (.seq (.reg [
    ⟨(some 29), none, .faddr 0 (.s 8)⟩,
    ⟨(some 30), none, .load none (.s 29)⟩,
    ⟨(some 31), none, .faddr 0 (.s 3)⟩,
    ⟨(some 32), none, .load none (.s 31)⟩,
    ⟨(some 33), none, .bin .neq (.s 30) (.s 32)⟩] [3, 5, 6, 8, 10, 11, 12, 33])
  (.cond (.s 33)
    (.reg [
      ⟨(some 34), none, .mov (.s 5)⟩,
      ⟨(some 35), none, .load (some 2) (.s 8)⟩,
      ⟨(some 36), none, .bslice 31 2 1 [(.int .i64 0), (.int .i64 0)] [(0, (.s 35))]⟩,
      ⟨(some 37), none, .append 31 2 16 true (.s 34) (.s 36)⟩,
      ⟨(some 5), none, .mov (.s 37)⟩] [3, 5, 6, 10, 11, 12])
    (.skip))))))
  (.reg [
    ⟨(some 38), none, .bin .add (.s 12) (.c (.t (.int .i64 1)))⟩,
    ⟨(some 12), none, .mov (.s 38)⟩] [3, 5, 6, 10, 11, 12])))

def M_impl_KeepResult : MFun := ⟨2, 46, [.tmp 4],
  .seq (.reg [
    ⟨(some 3), none, .box (.s 1)⟩,
    ⟨(some 4), none, .mov (.c (.t .nil))⟩] [0, 3])
  (.seq (.reg [
    ⟨(some 9), none, .bslice 31 2 0 [(.int .i64 0), (.int .i64 0)] []⟩,
    ⟨(some 5), none, .mov (.s 9)⟩] [0, 3, 5])
  (.seq (.reg [
    ⟨(some 6), none, .mov (.c (.t (.bool false)))⟩] [0, 3, 5, 6])
  (.seq (.seq (.reg [
    ⟨(some 10), none, .mov (.s 0)⟩,
    ⟨(some 11), none, .len false (.s 10)⟩,
    ⟨(some 12), none, .mov (.c (.t (.int .i64 0)))⟩] [3, 5, 6, 10, 11, 12])
  (.block 0 (.loop [3, 5, 6, 10, 11, 12] B_impl_KeepResult_0)))
  (.seq (.seq (.reg [
    ⟨(some 39), none, .mov (.s 6)⟩,
    ⟨(some 40), none, .un .not (.s 39)⟩] [3, 5, 40])
  (.cond (.s 40)
    (.reg [
      ⟨(some 41), none, .mov (.s 5)⟩,
      ⟨(some 42), none, .load (some 2) (.s 3)⟩,
      ⟨(some 43), none, .bslice 31 2 1 [(.int .i64 0), (.int .i64 0)] [(0, (.s 42))]⟩,
      ⟨(some 44), none, .append 31 2 16 true (.s 41) (.s 43)⟩,
      ⟨(some 5), none, .mov (.s 44)⟩] [5])
    (.skip)))
  (.seq (.reg [
    ⟨(some 45), none, .mov (.s 5)⟩,
    ⟨(some 4), none, .mov (.s 45)⟩] [4])
  (.ret))))))⟩
theorem t_impl_KeepResult : tbl 16 = some M_impl_KeepResult := tblOf_eq Try.func16 (by kernel_rfl) (by kernel_rfl)

/-- loop.example/g01921/laws.eqKeptS -/
def B_laws_eqKeptS_0 : MCode :=
  .seq (.seq (.reg [
    ⟨(some 11), none, .mov (.s 5)⟩,
    ⟨(some 12), none, .mov (.s 0)⟩,
    ⟨(some 13), none, .len false (.s 12)⟩,
    ⟨(some 14), none, .bin .lss (.s 11) (.s 13)⟩] [0, 1, 5, 14])
  (.cond (.s 14)
    (.skip)
    (.exit 0)))
  (.seq (.block 1 (.seq (.drw [
    ⟨(some 17), none, .mov (.s 0)⟩,
    ⟨(some 18), none, .mov (.s 5)⟩,
    ⟨(some 19), none, .iaddr 2 (.s 17) (.s 18)⟩,
    ⟨(some 20), none, .load (some 2) (.s 19)⟩,
    ⟨(some 21), none, .mov (.s 1)⟩,
    ⟨(some 22), none, .mov (.s 5)⟩,
    ⟨(some 23), none, .iaddr 2 (.s 21) (.s 22)⟩,
    ⟨(some 24), none, .load (some 2) (.s 23)⟩,
    ⟨(some 25), none, .call 44 [(.s 20), (.s 24)]⟩,
    ⟨(some 26), none, .un .not (.s 25)⟩] [[], [], [0, 1], [2], [], [], [4, 5], [6], [3, 7], [8]] [0, 1, 5, 26])
  (.cond (.s 26)
    (.seq (.reg [
      ⟨(some 4), none, .mov (.c (.t (.bool false)))⟩] [4])
    (.ret))
    (.skip))))
  (.reg [
    ⟨(some 15), none, .mov (.s 5)⟩,
    ⟨(some 16), none, .bin .add (.s 15) (.c (.t (.int .i64 1)))⟩,
    ⟨(some 5), none, .mov (.s 16)⟩] [0, 1, 5]))

def M_laws_eqKeptS : MFun := ⟨2, 27, [.tmp 4],
  .seq (.reg [
    ⟨(some 4), none, .mov (.c (.t (.bool false)))⟩] [0, 1])
  (.seq (.seq (.reg [
    ⟨(some 6), none, .mov (.s 0)⟩,
    ⟨(some 7), none, .len false (.s 6)⟩,
    ⟨(some 8), none, .mov (.s 1)⟩,
    ⟨(some 9), none, .len false (.s 8)⟩,
    ⟨(some 10), none, .bin .neq (.s 7) (.s 9)⟩] [0, 1, 10])
  (.cond (.s 10)
    (.seq (.reg [
      ⟨(some 4), none, .mov (.c (.t (.bool false)))⟩] [4])
    (.ret))
    (.skip)))
  (.seq (.seq (.reg [
    ⟨(some 5), none, .mov (.c (.t (.int .i64 0)))⟩] [0, 1, 5])
  (.block 0 (.loop [0, 1, 5] B_laws_eqKeptS_0)))
  (.seq (.reg [
    ⟨(some 4), none, .mov (.c (.t (.bool true)))⟩] [4])
  (.ret))))⟩
theorem t_laws_eqKeptS : tbl 17 = some M_laws_eqKeptS := tblOf_eq Try.func17 (by kernel_rfl) (by kernel_rfl)

/-- loop.example/g01921/laws.markKeptS -/
def B_laws_markKeptS_0 : MCode :=
  .seq (.seq (.reg [
    ⟨(some 6), none, .mov (.s 5)⟩,
    ⟨(some 7), none, .mov (.s 0)⟩,
    ⟨(some 8), none, .len false (.s 7)⟩,
    ⟨(some 9), none, .bin .lss (.s 6) (.s 8)⟩] [0, 1, 5, 9])
  (.cond (.s 9)
    (.skip)
    (.exit 0)))
  (.seq (.block 1 (.seq (.reg [
    ⟨(some 12), none, .mov (.s 0)⟩,
    ⟨(some 13), none, .mov (.s 5)⟩,
    ⟨(some 14), none, .mov (.s 1)⟩,
    ⟨(some 15), none, .iaddr 2 (.s 12) (.s 13)⟩,
    ⟨(some 16), none, .faddr 0 (.s 15)⟩,
    ⟨none, none, .store 1 (.s 16) (.s 14)⟩] [0, 1, 5])
  (.seq (.reg [
    ⟨(some 17), none, .mov (.s 1)⟩,
    ⟨(some 18), none, .bin .add (.s 17) (.c (.t (.int .i64 1)))⟩,
    ⟨(some 1), none, .mov (.s 18)⟩] [0, 1, 5])
  (.seq (.reg [
    ⟨(some 19), none, .mov (.s 0)⟩,
    ⟨(some 20), none, .mov (.s 5)⟩,
    ⟨(some 21), none, .mov (.s 1)⟩,
    ⟨(some 22), none, .iaddr 2 (.s 19) (.s 20)⟩,
    ⟨(some 23), none, .faddr 1 (.s 22)⟩,
    ⟨none, none, .store 1 (.s 23) (.s 21)⟩] [0, 1, 5])
  (.reg [
    ⟨(some 24), none, .mov (.s 1)⟩,
    ⟨(some 25), none, .bin .add (.s 24) (.c (.t (.int .i64 1)))⟩,
    ⟨(some 1), none, .mov (.s 25)⟩] [0, 1, 5])))))
  (.reg [
    ⟨(some 10), none, .mov (.s 5)⟩,
    ⟨(some 11), none, .bin .add (.s 10) (.c (.t (.int .i64 1)))⟩,
    ⟨(some 5), none, .mov (.s 11)⟩] [0, 1, 5]))

def M_laws_markKeptS : MFun := ⟨2, 27, [.tmp 4],
  .seq (.reg [
    ⟨(some 4), none, .mov (.c (.t (.int .i64 0)))⟩] [0, 1])
  (.seq (.seq (.reg [
    ⟨(some 5), none, .mov (.c (.t (.int .i64 0)))⟩] [0, 1, 5])
  (.block 0 (.loop [0, 1, 5] B_laws_markKeptS_0)))
  (.seq (.reg [
    ⟨(some 26), none, .mov (.s 1)⟩,
    ⟨(some 4), none, .mov (.s 26)⟩] [4])
  (.ret)))⟩
theorem t_laws_markKeptS : tbl 18 = some M_laws_markKeptS := tblOf_eq Try.func18 (by kernel_rfl) (by kernel_rfl)

/-- loop.example/g01921/laws.heldKeptS -/
def B_laws_heldKeptS_0 : MCode :=
  .seq (.seq (.reg [
    ⟨(some 6), none, .mov (.s 5)⟩,
    ⟨(some 7), none, .mov (.s 0)⟩,
    ⟨(some 8), none, .len false (.s 7)⟩,
    ⟨(some 9), none, .bin .lss (.s 6) (.s 8)⟩] [0, 1, 5, 9])
  (.cond (.s 9)
    (.skip)
    (.exit 0)))
  (.seq (.block 1 (.seq (.seq (.reg [
    ⟨(some 12), none, .mov (.s 0)⟩,
    ⟨(some 13), none, .mov (.s 5)⟩,
    ⟨(some 14), none, .iaddr 2 (.s 12) (.s 13)⟩,
    ⟨(some 15), none, .faddr 0 (.s 14)⟩,
    ⟨(some 16), none, .load none (.s 15)⟩,
    ⟨(some 17), none, .mov (.s 1)⟩,
    ⟨(some 18), none, .bin .neq (.s 16) (.s 17)⟩] [0, 1, 5, 18])
  (.cond (.s 18)
    (.seq (.reg [
      ⟨(some 4), none, .mov (.c (.t (.int .i64 (-1))))⟩] [4])
    (.ret))
    (.skip)))
  (.seq (.reg [
    ⟨(some 19), none, .mov (.s 1)⟩,
    ⟨(some 20), none, .bin .add (.s 19) (.c (.t (.int .i64 1)))⟩,
    ⟨(some 1), none, .mov (.s 20)⟩] [0, 1, 5])
  (.seq (.seq (.reg [
    ⟨(some 21), none, .mov (.s 0)⟩,
    ⟨(some 22), none, .mov (.s 5)⟩,
    ⟨(some 23), none, .iaddr 2 (.s 21) (.s 22)⟩,
    ⟨(some 24), none, .faddr 1 (.s 23)⟩,
    ⟨(some 25), none, .load none (.s 24)⟩,
    ⟨(some 26), none, .mov (.s 1)⟩,
    ⟨(some 27), none, .bin .neq (.s 25) (.s 26)⟩] [0, 1, 5, 27])
  (.cond (.s 27)
    (.seq (.reg [
      ⟨(some 4), none, .mov (.c (.t (.int .i64 (-1))))⟩] [4])
    (.ret))
    (.skip)))
  (.reg [
    ⟨(some 28), none, .mov (.s 1)⟩,
    ⟨(some 29), none, .bin .add (.s 28) (.c (.t (.int .i64 1)))⟩,
    ⟨(some 1), none, .mov (.s 29)⟩] [0, 1, 5])))))
  (.reg [
    ⟨(some 10), none, .mov (.s 5)⟩,
    ⟨(some 11), none, .bin .add (.s 10) (.c (.t (.int .i64 1)))⟩,
    ⟨(some 5), none, .mov (.s 11)⟩] [0, 1, 5]))

def M_laws_heldKeptS : MFun := ⟨2, 31, [.tmp 4],
  .seq (.reg [
    ⟨(some 4), none, .mov (.c (.t (.int .i64 0)))⟩] [0, 1])
  (.seq (.seq (.reg [
    ⟨(some 5), none, .mov (.c (.t (.int .i64 0)))⟩] [0, 1, 5])
  (.block 0 (.loop [0, 1, 5] B_laws_heldKeptS_0)))
  (.seq (.reg [
    ⟨(some 30), none, .mov (.s 1)⟩,
    ⟨(some 4), none, .mov (.s 30)⟩] [4])
  (.ret)))⟩
theorem t_laws_heldKeptS : tbl 19 = some M_laws_heldKeptS := tblOf_eq Try.func19 (by kernel_rfl) (by kernel_rfl)

/-- loop.example/g01921/laws.szReply -/
def M_laws_szReply : MFun := ⟨2, 12, [.tmp 4],
  .seq (.reg [
    ⟨(some 2), none, .box (.s 0)⟩,
    ⟨(some 4), none, .mov (.c (.t (.int .i64 0)))⟩] [1, 2])
  (.seq (.reg [
    ⟨(some 5), none, .faddr 3 (.s 2)⟩,
    ⟨(some 6), none, .load (some 2) (.s 5)⟩,
    ⟨(some 7), none, .mov (.s 1)⟩,
    ⟨(some 8), none, .call 45 [(.s 6), (.s 7)]⟩,
    ⟨(some 1), none, .mov (.s 8)⟩] [1])
  (.seq (.seq (.reg [
    ⟨(some 9), none, .mov (.s 1)⟩,
    ⟨(some 10), none, .bin .lss (.s 9) (.c (.t (.int .i64 0)))⟩] [1, 10])
  (.cond (.s 10)
    (.seq (.reg [
      ⟨(some 4), none, .mov (.c (.t (.int .i64 (-1))))⟩] [4])
    (.ret))
    (.skip)))
  (.seq (.reg [
    ⟨(some 11), none, .mov (.s 1)⟩,
    ⟨(some 4), none, .mov (.s 11)⟩] [4])
  (.ret))))⟩
theorem t_laws_szReply : tbl 20 = some M_laws_szReply := tblOf_eq Try.func20 (by kernel_rfl) (by kernel_rfl)

/-- loop.example/g01921/spec.EqualReplies -/
def M_spec_EqualReplies : MFun := ⟨2, 31, [.tmp 4],
  .seq (.reg [
    ⟨(some 2), none, .box (.s 0)⟩,
    ⟨(some 3), none, .box (.s 1)⟩,
    ⟨(some 4), none, .mov (.c (.t (.bool false)))⟩] [2, 3])
  (.seq (.reg [
    ⟨(some 5), none, .faddr 0 (.s 2)⟩,
    ⟨(some 6), none, .load none (.s 5)⟩,
    ⟨(some 7), none, .faddr 0 (.s 3)⟩,
    ⟨(some 8), none, .load none (.s 7)⟩,
    ⟨(some 9), none, .bin .eql (.s 6) (.s 8)⟩,
    ⟨(some 10), none, .mov (.s 9)⟩,
    ⟨(some 11), (some (10, true)), .faddr 1 (.s 2)⟩,
    ⟨(some 12), (some (10, true)), .load none (.s 11)⟩,
    ⟨(some 13), (some (10, true)), .faddr 1 (.s 3)⟩,
    ⟨(some 14), (some (10, true)), .load none (.s 13)⟩,
    ⟨(some 15), (some (10, true)), .bin .eql (.s 12) (.s 14)⟩,
    ⟨(some 16), none, .pick (.s 10) (.s 15) (.c (.t (.bool false)))⟩,
    ⟨(some 17), none, .mov (.s 16)⟩,
    ⟨(some 18), (some (17, true)), .faddr 2 (.s 2)⟩,
    ⟨(some 19), (some (17, true)), .load none (.s 18)⟩,
    ⟨(some 20), (some (17, true)), .faddr 2 (.s 3)⟩,
    ⟨(some 21), (some (17, true)), .load none (.s 20)⟩,
    ⟨(some 22), (some (17, true)), .bin .eql (.s 19) (.s 21)⟩,
    ⟨(some 23), none, .pick (.s 17) (.s 22) (.c (.t (.bool false)))⟩,
    ⟨(some 24), none, .mov (.s 23)⟩,
    ⟨(some 25), (some (24, true)), .faddr 3 (.s 2)⟩,
    ⟨(some 26), (some (24, true)), .load (some 2) (.s 25)⟩,
    ⟨(some 27), (some (24, true)), .faddr 3 (.s 3)⟩,
    ⟨(some 28), (some (24, true)), .load (some 2) (.s 27)⟩,
    ⟨(some 29), (some (24, true)), .call 46 [(.s 26), (.s 28)]⟩,
    ⟨(some 30), none, .pick (.s 24) (.s 29) (.c (.t (.bool false)))⟩,
    ⟨(some 4), none, .mov (.s 30)⟩] [4])
  (.ret))⟩
theorem t_spec_EqualReplies : tbl 21 = some M_spec_EqualReplies := tblOf_eq Try.func21 (by kernel_rfl) (by kernel_rfl)

/-- loop.example/g01921/laws.toReply -/
def M_laws_toReply : MFun := ⟨1, 18, [.cell 2 (some 5)],
  .seq (.reg [
    ⟨(some 1), none, .box (.s 0)⟩,
    ⟨(some 2), none, .alloc [(.t (.int .i64 0)), (.t (.int .i64 0)), (.t (.int .i64 0)), (.t .nil), (.t .nil)]⟩] [1, 2])
  (.seq (.reg [
    ⟨(some 3), none, .alloc [(.t (.int .i64 0)), (.t (.int .i64 0)), (.t (.int .i64 0)), (.t .nil), (.t .nil)]⟩] [1, 2, 3])
  (.seq (.reg [
    ⟨(some 4), none, .faddr 0 (.s 1)⟩,
    ⟨(some 5), none, .load none (.s 4)⟩,
    ⟨(some 6), none, .faddr 0 (.s 3)⟩,
    ⟨none, none, .store 1 (.s 6) (.s 5)⟩] [1, 2, 3])
  (.seq (.reg [
    ⟨(some 7), none, .faddr 1 (.s 1)⟩,
    ⟨(some 8), none, .load none (.s 7)⟩,
    ⟨(some 9), none, .faddr 1 (.s 3)⟩,
    ⟨none, none, .store 1 (.s 9) (.s 8)⟩] [1, 2, 3])
  (.seq (.reg [
    ⟨(some 10), none, .faddr 2 (.s 1)⟩,
    ⟨(some 11), none, .load none (.s 10)⟩,
    ⟨(some 12), none, .faddr 2 (.s 3)⟩,
    ⟨none, none, .store 1 (.s 12) (.s 11)⟩] [1, 2, 3])
  (.seq (.reg [
    ⟨(some 13), none, .faddr 3 (.s 1)⟩,
    ⟨(some 14), none, .load (some 2) (.s 13)⟩,
    ⟨(some 15), none, .call 47 [(.s 14)]⟩,
    ⟨(some 16), none, .faddr 3 (.s 3)⟩,
    ⟨none, none, .store 2 (.s 16) (.s 15)⟩] [2, 3])
  (.seq (.reg [
    ⟨(some 17), none, .load (some 5) (.s 3)⟩,
    ⟨none, none, .store 5 (.s 2) (.s 17)⟩] [2])
  (.ret)))))))⟩
theorem t_laws_toReply : tbl 22 = some M_laws_toReply := tblOf_eq Try.func22 (by kernel_rfl) (by kernel_rfl)

/-- loop.example/g01921/impl.EqualReplies -/
def M_impl_EqualReplies : MFun := ⟨2, 31, [.tmp 4],
  .seq (.reg [
    ⟨(some 2), none, .box (.s 0)⟩,
    ⟨(some 3), none, .box (.s 1)⟩,
    ⟨(some 4), none, .mov (.c (.t (.bool false)))⟩] [2, 3])
  (.seq (.reg [
    ⟨(some 5), none, .faddr 0 (.s 2)⟩,
    ⟨(some 6), none, .load none (.s 5)⟩,
    ⟨(some 7), none, .faddr 0 (.s 3)⟩,
    ⟨(some 8), none, .load none (.s 7)⟩,
    ⟨(some 9), none, .bin .eql (.s 6) (.s 8)⟩,
    ⟨(some 10), none, .mov (.s 9)⟩,
    ⟨(some 11), (some (10, true)), .faddr 1 (.s 2)⟩,
    ⟨(some 12), (some (10, true)), .load none (.s 11)⟩,
    ⟨(some 13), (some (10, true)), .faddr 1 (.s 3)⟩,
    ⟨(some 14), (some (10, true)), .load none (.s 13)⟩,
    ⟨(some 15), (some (10, true)), .bin .eql (.s 12) (.s 14)⟩,
    ⟨(some 16), none, .pick (.s 10) (.s 15) (.c (.t (.bool false)))⟩,
    ⟨(some 17), none, .mov (.s 16)⟩,
    ⟨(some 18), (some (17, true)), .faddr 2 (.s 2)⟩,
    ⟨(some 19), (some (17, true)), .load none (.s 18)⟩,
    ⟨(some 20), (some (17, true)), .faddr 2 (.s 3)⟩,
    ⟨(some 21), (some (17, true)), .load none (.s 20)⟩,
    ⟨(some 22), (some (17, true)), .bin .eql (.s 19) (.s 21)⟩,
    ⟨(some 23), none, .pick (.s 17) (.s 22) (.c (.t (.bool false)))⟩,
    ⟨(some 24), none, .mov (.s 23)⟩,
    ⟨(some 25), (some (24, true)), .faddr 3 (.s 2)⟩,
    ⟨(some 26), (some (24, true)), .load (some 2) (.s 25)⟩,
    ⟨(some 27), (some (24, true)), .faddr 3 (.s 3)⟩,
    ⟨(some 28), (some (24, true)), .load (some 2) (.s 27)⟩,
    ⟨(some 29), (some (24, true)), .call 48 [(.s 26), (.s 28)]⟩,
    ⟨(some 30), none, .pick (.s 24) (.s 29) (.c (.t (.bool false)))⟩,
    ⟨(some 4), none, .mov (.s 30)⟩] [4])
  (.ret))⟩
theorem t_impl_EqualReplies : tbl 23 = some M_impl_EqualReplies := tblOf_eq Try.func23 (by kernel_rfl) (by kernel_rfl)

/-- loop.example/g01921/laws.eqReply -/
def M_laws_eqReply : MFun := ⟨2, 26, [.tmp 4],
  .seq (.reg [
    ⟨(some 2), none, .box (.s 0)⟩,
    ⟨(some 3), none, .box (.s 1)⟩,
    ⟨(some 4), none, .mov (.c (.t (.bool false)))⟩] [2, 3])
  (.seq (.seq (.reg [
    ⟨(some 5), none, .faddr 0 (.s 2)⟩,
    ⟨(some 6), none, .load none (.s 5)⟩,
    ⟨(some 7), none, .faddr 0 (.s 3)⟩,
    ⟨(some 8), none, .load none (.s 7)⟩,
    ⟨(some 9), none, .bin .neq (.s 6) (.s 8)⟩] [2, 3, 9])
  (.cond (.s 9)
    (.seq (.reg [
      ⟨(some 4), none, .mov (.c (.t (.bool false)))⟩] [4])
    (.ret))
    (.skip)))
  (.seq (.seq (.reg [
    ⟨(some 10), none, .faddr 1 (.s 2)⟩,
    ⟨(some 11), none, .load none (.s 10)⟩,
    ⟨(some 12), none, .faddr 1 (.s 3)⟩,
    ⟨(some 13), none, .load none (.s 12)⟩,
    ⟨(some 14), none, .bin .neq (.s 11) (.s 13)⟩] [2, 3, 14])
  (.cond (.s 14)
    (.seq (.reg [
      ⟨(some 4), none, .mov (.c (.t (.bool false)))⟩] [4])
    (.ret))
    (.skip)))
  (.seq (.seq (.reg [
    ⟨(some 15), none, .faddr 2 (.s 2)⟩,
    ⟨(some 16), none, .load none (.s 15)⟩,
    ⟨(some 17), none, .faddr 2 (.s 3)⟩,
    ⟨(some 18), none, .load none (.s 17)⟩,
    ⟨(some 19), none, .bin .neq (.s 16) (.s 18)⟩] [2, 3, 19])
  (.cond (.s 19)
    (.seq (.reg [
      ⟨(some 4), none, .mov (.c (.t (.bool false)))⟩] [4])
    (.ret))
    (.skip)))
  (.seq (.seq (.reg [
    ⟨(some 20), none, .faddr 3 (.s 2)⟩,
    ⟨(some 21), none, .load (some 2) (.s 20)⟩,
    ⟨(some 22), none, .faddr 3 (.s 3)⟩,
    ⟨(some 23), none, .load (some 2) (.s 22)⟩,
    ⟨(some 24), none, .call 49 [(.s 21), (.s 23)]⟩,
    ⟨(some 25), none, .un .not (.s 24)⟩] [25])
  (.cond (.s 25)
    (.seq (.reg [
      ⟨(some 4), none, .mov (.c (.t (.bool false)))⟩] [4])
    (.ret))
    (.skip)))
  (.seq (.reg [
    ⟨(some 4), none, .mov (.c (.t (.bool true)))⟩] [4])
  (.ret))))))⟩
theorem t_laws_eqReply : tbl 24 = some M_laws_eqReply := tblOf_eq Try.func24 (by kernel_rfl) (by kernel_rfl)

/-- loop.example/g01921/laws.szRegion -/
def M_laws_szRegion : MFun := ⟨2, 18, [.tmp 4],
  .seq (.reg [
    ⟨(some 2), none, .box (.s 0)⟩,
    ⟨(some 4), none, .mov (.c (.t (.int .i64 0)))⟩] [1, 2])
  (.seq (.reg [
    ⟨(some 5), none, .faddr 0 (.s 2)⟩,
    ⟨(some 6), none, .load (some 1) (.s 5)⟩,
    ⟨(some 7), none, .mov (.s 1)⟩,
    ⟨(some 8), none, .call 50 [(.s 6), (.s 7)]⟩,
    ⟨(some 1), none, .mov (.s 8)⟩] [1, 2])
  (.seq (.seq (.reg [
    ⟨(some 9), none, .mov (.s 1)⟩,
    ⟨(some 10), none, .bin .lss (.s 9) (.c (.t (.int .i64 0)))⟩] [1, 2, 10])
  (.cond (.s 10)
    (.seq (.reg [
      ⟨(some 4), none, .mov (.c (.t (.int .i64 (-1))))⟩] [4])
    (.ret))
    (.skip)))
  (.seq (.reg [
    ⟨(some 11), none, .faddr 1 (.s 2)⟩,
    ⟨(some 12), none, .load (some 2) (.s 11)⟩,
    ⟨(some 13), none, .mov (.s 1)⟩,
    ⟨(some 14), none, .call 51 [(.s 12), (.s 13)]⟩,
    ⟨(some 1), none, .mov (.s 14)⟩] [1])
  (.seq (.seq (.reg [
    ⟨(some 15), none, .mov (.s 1)⟩,
    ⟨(some 16), none, .bin .lss (.s 15) (.c (.t (.int .i64 0)))⟩] [1, 16])
  (.cond (.s 16)
    (.seq (.reg [
      ⟨(some 4), none, .mov (.c (.t (.int .i64 (-1))))⟩] [4])
    (.ret))
    (.skip)))
  (.seq (.reg [
    ⟨(some 17), none, .mov (.s 1)⟩,
    ⟨(some 4), none, .mov (.s 17)⟩] [4])
  (.ret))))))⟩
theorem t_laws_szRegion : tbl 25 = some M_laws_szRegion := tblOf_eq Try.func25 (by kernel_rfl) (by kernel_rfl)

/-- loop.example/g01921/spec.EqualRegions -/
def M_spec_EqualRegions : MFun := ⟨2, 24, [.tmp 4],
  .seq (.reg [
    ⟨(some 2), none, .box (.s 0)⟩,
    ⟨(some 3), none, .box (.s 1)⟩,
    ⟨(some 4), none, .mov (.c (.t (.bool false)))⟩] [2, 3])
  (.seq (.reg [
    ⟨(some 5), none, .faddr 0 (.s 2)⟩,
    ⟨(some 6), none, .load (some 1) (.s 5)⟩,
    ⟨(some 7), none, .faddr 0 (.s 3)⟩,
    ⟨(some 8), none, .load (some 1) (.s 7)⟩,
    ⟨(some 9), none, .call 52 [(.s 6), (.s 8)]⟩,
    ⟨(some 10), none, .mov (.s 9)⟩,
    ⟨(some 11), (some (10, true)), .faddr 1 (.s 2)⟩,
    ⟨(some 12), (some (10, true)), .load (some 2) (.s 11)⟩,
    ⟨(some 13), (some (10, true)), .faddr 1 (.s 3)⟩,
    ⟨(some 14), (some (10, true)), .load (some 2) (.s 13)⟩,
    ⟨(some 15), (some (10, true)), .call 53 [(.s 12), (.s 14)]⟩,
    ⟨(some 16), none, .pick (.s 10) (.s 15) (.c (.t (.bool false)))⟩,
    ⟨(some 17), none, .mov (.s 16)⟩,
    ⟨(some 18), (some (17, true)), .faddr 3 (.s 2)⟩,
    ⟨(some 19), (some (17, true)), .load none (.s 18)⟩,
    ⟨(some 20), (some (17, true)), .faddr 3 (.s 3)⟩,
    ⟨(some 21), (some (17, true)), .load none (.s 20)⟩,
    ⟨(some 22), (some (17, true)), .bin .eql (.s 19) (.s 21)⟩,
    ⟨(some 23), none, .pick (.s 17) (.s 22) (.c (.t (.bool false)))⟩,
    ⟨(some 4), none, .mov (.s 23)⟩] [4])
  (.ret))⟩
theorem t_spec_EqualRegions : tbl 26 = some M_spec_EqualRegions := tblOf_eq Try.func26 (by kernel_rfl) (by kernel_rfl)

/-- loop.example/g01921/laws.toRegion -/
def M_laws_toRegion : MFun := ⟨1, 16, [.cell 2 (some 4)],
  .seq (.reg [
    ⟨(some 1), none, .box (.s 0)⟩,
    ⟨(some 2), none, .alloc [(.t .nil), (.t .nil), (.t .nil), (.t (.int .i64 0))]⟩] [1, 2])
  (.seq (.reg [
    ⟨(some 3), none, .alloc [(.t .nil), (.t .nil), (.t .nil), (.t (.int .i64 0))]⟩] [1, 2, 3])
  (.seq (.reg [
    ⟨(some 4), none, .faddr 0 (.s 1)⟩,
    ⟨(some 5), none, .load (some 1) (.s 4)⟩,
    ⟨(some 6), none, .call 54 [(.s 5)]⟩,
    ⟨(some 7), none, .faddr 0 (.s 3)⟩,
    ⟨none, none, .store 1 (.s 7) (.s 6)⟩] [1, 2, 3])
  (.seq (.reg [
    ⟨(some 8), none, .faddr 1 (.s 1)⟩,
    ⟨(some 9), none, .load (some 2) (.s 8)⟩,
    ⟨(some 10), none, .call 55 [(.s 9)]⟩,
    ⟨(some 11), none, .faddr 1 (.s 3)⟩,
    ⟨none, none, .store 2 (.s 11) (.s 10)⟩] [1, 2, 3])
  (.seq (.reg [
    ⟨(some 12), none, .faddr 3 (.s 1)⟩,
    ⟨(some 13), none, .load none (.s 12)⟩,
    ⟨(some 14), none, .faddr 3 (.s 3)⟩,
    ⟨none, none, .store 1 (.s 14) (.s 13)⟩] [2, 3])
  (.seq (.reg [
    ⟨(some 15), none, .load (some 4) (.s 3)⟩,
    ⟨none, none, .store 4 (.s 2) (.s 15)⟩] [2])
  (.ret))))))⟩
theorem t_laws_toRegion : tbl 27 = some M_laws_toRegion := tblOf_eq Try.func27 (by kernel_rfl) (by kernel_rfl)

/-- loop.example/g01921/impl.EqualRegions -/
def M_impl_EqualRegions : MFun := ⟨2, 24, [.tmp 4],
  .seq (.reg [
    ⟨(some 2), none, .box (.s 0)⟩,
    ⟨(some 3), none, .box (.s 1)⟩,
    ⟨(some 4), none, .mov (.c (.t (.bool false)))⟩] [2, 3])
  (.seq (.reg [
    ⟨(some 5), none, .faddr 0 (.s 2)⟩,
    ⟨(some 6), none, .load (some 1) (.s 5)⟩,
    ⟨(some 7), none, .faddr 0 (.s 3)⟩,
    ⟨(some 8), none, .load (some 1) (.s 7)⟩,
    ⟨(some 9), none, .call 56 [(.s 6), (.s 8)]⟩,
    ⟨(some 10), none, .mov (.s 9)⟩,
    ⟨(some 11), (some (10, true)), .faddr 1 (.s 2)⟩,
    ⟨(some 12), (some (10, true)), .load (some 2) (.s 11)⟩,
    ⟨(some 13), (some (10, true)), .faddr 1 (.s 3)⟩,
    ⟨(some 14), (some (10, true)), .load (some 2) (.s 13)⟩,
    ⟨(some 15), (some (10, true)), .call 57 [(.s 12), (.s 14)]⟩,
    ⟨(some 16), none, .pick (.s 10) (.s 15) (.c (.t (.bool false)))⟩,
    ⟨(some 17), none, .mov (.s 16)⟩,
    ⟨(some 18), (some (17, true)), .faddr 3 (.s 2)⟩,
    ⟨(some 19), (some (17, true)), .load none (.s 18)⟩,
    ⟨(some 20), (some (17, true)), .faddr 3 (.s 3)⟩,
    ⟨(some 21), (some (17, true)), .load none (.s 20)⟩,
    ⟨(some 22), (some (17, true)), .bin .eql (.s 19) (.s 21)⟩,
    ⟨(some 23), none, .pick (.s 17) (.s 22) (.c (.t (.bool false)))⟩,
    ⟨(some 4), none, .mov (.s 23)⟩] [4])
  (.ret))⟩
theorem t_impl_EqualRegions : tbl 28 = some M_impl_EqualRegions := tblOf_eq Try.func28 (by kernel_rfl) (by kernel_rfl)

/-- loop.example/g01921/laws.eqRegion -/
def M_laws_eqRegion : MFun := ⟨2, 22, [.tmp 4],
  .seq (.reg [
    ⟨(some 2), none, .box (.s 0)⟩,
    ⟨(some 3), none, .box (.s 1)⟩,
    ⟨(some 4), none, .mov (.c (.t (.bool false)))⟩] [2, 3])
  (.seq (.seq (.reg [
    ⟨(some 5), none, .faddr 0 (.s 2)⟩,
    ⟨(some 6), none, .load (some 1) (.s 5)⟩,
    ⟨(some 7), none, .faddr 0 (.s 3)⟩,
    ⟨(some 8), none, .load (some 1) (.s 7)⟩,
    ⟨(some 9), none, .call 58 [(.s 6), (.s 8)]⟩,
    ⟨(some 10), none, .un .not (.s 9)⟩] [2, 3, 10])
  (.cond (.s 10)
    (.seq (.reg [
      ⟨(some 4), none, .mov (.c (.t (.bool false)))⟩] [4])
    (.ret))
    (.skip)))
  (.seq (.seq (.reg [
    ⟨(some 11), none, .faddr 1 (.s 2)⟩,
    ⟨(some 12), none, .load (some 2) (.s 11)⟩,
    ⟨(some 13), none, .faddr 1 (.s 3)⟩,
    ⟨(some 14), none, .load (some 2) (.s 13)⟩,
    ⟨(some 15), none, .call 59 [(.s 12), (.s 14)]⟩,
    ⟨(some 16), none, .un .not (.s 15)⟩] [2, 3, 16])
  (.cond (.s 16)
    (.seq (.reg [
      ⟨(some 4), none, .mov (.c (.t (.bool false)))⟩] [4])
    (.ret))
    (.skip)))
  (.seq (.seq (.reg [
    ⟨(some 17), none, .faddr 3 (.s 2)⟩,
    ⟨(some 18), none, .load none (.s 17)⟩,
    ⟨(some 19), none, .faddr 3 (.s 3)⟩,
    ⟨(some 20), none, .load none (.s 19)⟩,
    ⟨(some 21), none, .bin .neq (.s 18) (.s 20)⟩] [21])
  (.cond (.s 21)
    (.seq (.reg [
      ⟨(some 4), none, .mov (.c (.t (.bool false)))⟩] [4])
    (.ret))
    (.skip)))
  (.seq (.reg [
    ⟨(some 4), none, .mov (.c (.t (.bool true)))⟩] [4])
  (.ret)))))⟩
theorem t_laws_eqRegion : tbl 29 = some M_laws_eqRegion := tblOf_eq Try.func29 (by kernel_rfl) (by kernel_rfl)

/-- loop.example/g01921/laws.szModel -/
def M_laws_szModel : MFun := ⟨2, 36, [.tmp 4],
  .seq (.reg [
    ⟨(some 2), none, .box (.s 0)⟩,
    ⟨(some 4), none, .mov (.c (.t (.int .i64 0)))⟩] [1, 2])
  (.seq (.reg [
    ⟨(some 5), none, .faddr 0 (.s 2)⟩,
    ⟨(some 6), none, .load (some 6) (.s 5)⟩,
    ⟨(some 7), none, .mov (.s 1)⟩,
    ⟨(some 8), none, .call 60 [(.s 6), (.s 7)]⟩,
    ⟨(some 1), none, .mov (.s 8)⟩] [1, 2])
  (.seq (.seq (.reg [
    ⟨(some 9), none, .mov (.s 1)⟩,
    ⟨(some 10), none, .bin .lss (.s 9) (.c (.t (.int .i64 0)))⟩] [1, 2, 10])
  (.cond (.s 10)
    (.seq (.reg [
      ⟨(some 4), none, .mov (.c (.t (.int .i64 (-1))))⟩] [4])
    (.ret))
    (.skip)))
  (.seq (.reg [
    ⟨(some 11), none, .faddr 6 (.s 2)⟩,
    ⟨(some 12), none, .load (some 6) (.s 11)⟩,
    ⟨(some 13), none, .mov (.s 1)⟩,
    ⟨(some 14), none, .call 60 [(.s 12), (.s 13)]⟩,
    ⟨(some 1), none, .mov (.s 14)⟩] [1, 2])
  (.seq (.seq (.reg [
    ⟨(some 15), none, .mov (.s 1)⟩,
    ⟨(some 16), none, .bin .lss (.s 15) (.c (.t (.int .i64 0)))⟩] [1, 2, 16])
  (.cond (.s 16)
    (.seq (.reg [
      ⟨(some 4), none, .mov (.c (.t (.int .i64 (-1))))⟩] [4])
    (.ret))
    (.skip)))
  (.seq (.reg [
    ⟨(some 17), none, .faddr 12 (.s 2)⟩,
    ⟨(some 18), none, .load (some 6) (.s 17)⟩,
    ⟨(some 19), none, .mov (.s 1)⟩,
    ⟨(some 20), none, .call 60 [(.s 18), (.s 19)]⟩,
    ⟨(some 1), none, .mov (.s 20)⟩] [1, 2])
  (.seq (.seq (.reg [
    ⟨(some 21), none, .mov (.s 1)⟩,
    ⟨(some 22), none, .bin .lss (.s 21) (.c (.t (.int .i64 0)))⟩] [1, 2, 22])
  (.cond (.s 22)
    (.seq (.reg [
      ⟨(some 4), none, .mov (.c (.t (.int .i64 (-1))))⟩] [4])
    (.ret))
    (.skip)))
  (.seq (.reg [
    ⟨(some 23), none, .faddr 18 (.s 2)⟩,
    ⟨(some 24), none, .load (some 6) (.s 23)⟩,
    ⟨(some 25), none, .mov (.s 1)⟩,
    ⟨(some 26), none, .call 60 [(.s 24), (.s 25)]⟩,
    ⟨(some 1), none, .mov (.s 26)⟩] [1, 2])
  (.seq (.seq (.reg [
    ⟨(some 27), none, .mov (.s 1)⟩,
    ⟨(some 28), none, .bin .lss (.s 27) (.c (.t (.int .i64 0)))⟩] [1, 2, 28])
  (.cond (.s 28)
    (.seq (.reg [
      ⟨(some 4), none, .mov (.c (.t (.int .i64 (-1))))⟩] [4])
    (.ret))
    (.skip)))
  (.seq (.reg [
    ⟨(some 29), none, .faddr 24 (.s 2)⟩,
    ⟨(some 30), none, .load (some 6) (.s 29)⟩,
    ⟨(some 31), none, .mov (.s 1)⟩,
    ⟨(some 32), none, .call 60 [(.s 30), (.s 31)]⟩,
    ⟨(some 1), none, .mov (.s 32)⟩] [1])
  (.seq (.seq (.reg [
    ⟨(some 33), none, .mov (.s 1)⟩,
    ⟨(some 34), none, .bin .lss (.s 33) (.c (.t (.int .i64 0)))⟩] [1, 34])
  (.cond (.s 34)
    (.seq (.reg [
      ⟨(some 4), none, .mov (.c (.t (.int .i64 (-1))))⟩] [4])
    (.ret))
    (.skip)))
  (.seq (.reg [
    ⟨(some 35), none, .mov (.s 1)⟩,
    ⟨(some 4), none, .mov (.s 35)⟩] [4])
  (.ret))))))))))))⟩
theorem t_laws_szModel : tbl 30 = some M_laws_szModel := tblOf_eq Try.func30 (by kernel_rfl) (by kernel_rfl)

/-- loop.example/g01921/spec.ReadCost -/
def M_spec_ReadCost : MFun := ⟨2, 15, [.tmp 4],
  .seq (.reg [
    ⟨(some 2), none, .box (.s 0)⟩,
    ⟨(some 4), none, .mov (.c (.t (.int .i64 0)))⟩] [1, 2])
  (.seq (.seq (.reg [
    ⟨(some 5), none, .mov (.s 1)⟩,
    ⟨(some 6), none, .call 42 [(.s 5), (.c (.t (.int .i64 0))), (.c (.t (.int .i64 4096)))]⟩,
    ⟨(some 7), none, .un .not (.s 6)⟩] [1, 2, 7])
  (.cond (.s 7)
    (.seq (.reg [
      ⟨(some 4), none, .mov (.c (.t (.int .i64 (-1))))⟩] [4])
    (.ret))
    (.skip)))
  (.seq (.drw [
    ⟨(some 8), none, .faddr 0 (.s 2)⟩,
    ⟨(some 9), none, .load (some 6) (.s 8)⟩,
    ⟨(some 10), none, .mov (.s 1)⟩,
    ⟨(some 11), none, .call 62 [(.s 10)]⟩,
    ⟨(some 12), none, .mov (.s 1)⟩,
    ⟨(some 13), none, .call 62 [(.s 12)]⟩,
    ⟨(some 14), none, .call 61 [(.s 9), (.s 11), (.c (.t (.int .i64 0))), (.s 13)]⟩,
    ⟨(some 4), none, .mov (.s 14)⟩] [[], [0], [], [2], [], [4, 3], [1, 3, 5, 5], [6, 6, 0, 1, 2, 3, 4, 5, 6]] [4])
  (.ret)))⟩
theorem t_spec_ReadCost : tbl 31 = some M_spec_ReadCost := tblOf_eq Try.func31 (by kernel_rfl) (by kernel_rfl)

/-- loop.example/g01921/laws.toModel -/
def M_laws_toModel : MFun := ⟨1, 25, [.cell 2 (some 30)],
  .seq (.reg [
    ⟨(some 1), none, .box (.s 0)⟩,
    ⟨(some 2), none, .alloc [(.t (.int .i64 0)), (.t (.int .i64 0)), (.t (.int .i64 0)), (.t (.int .i64 0)), (.t (.int .i64 0)), (.t .nil), (.t (.int .i64 0)), (.t (.int .i64 0)), (.t (.int .i64 0)), (.t (.int .i64 0)), (.t (.int .i64 0)), (.t .nil), (.t (.int .i64 0)), (.t (.int .i64 0)), (.t (.int .i64 0)), (.t (.int .i64 0)), (.t (.int .i64 0)), (.t .nil), (.t (.int .i64 0)), (.t (.int .i64 0)), (.t (.int .i64 0)), (.t (.int .i64 0)), (.t (.int .i64 0)), (.t .nil), (.t (.int .i64 0)), (.t (.int .i64 0)), (.t (.int .i64 0)), (.t (.int .i64 0)), (.t (.int .i64 0)), (.t .nil)]⟩] [1, 2])
  (.seq (.reg [
    ⟨(some 3), none, .alloc [(.t (.int .i64 0)), (.t (.int .i64 0)), (.t (.int .i64 0)), (.t (.int .i64 0)), (.t (.int .i64 0)), (.t .nil), (.t (.int .i64 0)), (.t (.int .i64 0)), (.t (.int .i64 0)), (.t (.int .i64 0)), (.t (.int .i64 0)), (.t .nil), (.t (.int .i64 0)), (.t (.int .i64 0)), (.t (.int .i64 0)), (.t (.int .i64 0)), (.t (.int .i64 0)), (.t .nil), (.t (.int .i64 0)), (.t (.int .i64 0)), (.t (.int .i64 0)), (.t (.int .i64 0)), (.t (.int .i64 0)), (.t .nil), (.t (.int .i64 0)), (.t (.int .i64 0)), (.t (.int .i64 0)), (.t (.int .i64 0)), (.t (.int .i64 0)), (.t .nil)]⟩] [1, 2, 3])
  (.seq (.reg [
    ⟨(some 4), none, .faddr 0 (.s 1)⟩,
    ⟨(some 5), none, .load (some 6) (.s 4)⟩,
    ⟨(some 6), none, .call 63 [(.s 5)]⟩,
    ⟨(some 7), none, .faddr 0 (.s 3)⟩,
    ⟨none, none, .store 6 (.s 7) (.s 6)⟩] [1, 2, 3])
  (.seq (.reg [
    ⟨(some 8), none, .faddr 6 (.s 1)⟩,
    ⟨(some 9), none, .load (some 6) (.s 8)⟩,
    ⟨(some 10), none, .call 63 [(.s 9)]⟩,
    ⟨(some 11), none, .faddr 6 (.s 3)⟩,
    ⟨none, none, .store 6 (.s 11) (.s 10)⟩] [1, 2, 3])
  (.seq (.reg [
    ⟨(some 12), none, .faddr 12 (.s 1)⟩,
    ⟨(some 13), none, .load (some 6) (.s 12)⟩,
    ⟨(some 14), none, .call 63 [(.s 13)]⟩,
    ⟨(some 15), none, .faddr 12 (.s 3)⟩,
    ⟨none, none, .store 6 (.s 15) (.s 14)⟩] [1, 2, 3])
  (.seq (.reg [
    ⟨(some 16), none, .faddr 18 (.s 1)⟩,
    ⟨(some 17), none, .load (some 6) (.s 16)⟩,
    ⟨(some 18), none, .call 63 [(.s 17)]⟩,
    ⟨(some 19), none, .faddr 18 (.s 3)⟩,
    ⟨none, none, .store 6 (.s 19) (.s 18)⟩] [1, 2, 3])
  (.seq (.reg [
    ⟨(some 20), none, .faddr 24 (.s 1)⟩,
    ⟨(some 21), none, .load (some 6) (.s 20)⟩,
    ⟨(some 22), none, .call 63 [(.s 21)]⟩,
    ⟨(some 23), none, .faddr 24 (.s 3)⟩,
    ⟨none, none, .store 6 (.s 23) (.s 22)⟩] [2, 3])
  (.seq (.reg [
    ⟨(some 24), none, .load (some 30) (.s 3)⟩,
    ⟨none, none, .store 30 (.s 2) (.s 24)⟩] [2])
  (.ret))))))))⟩
theorem t_laws_toModel : tbl 32 = some M_laws_toModel := tblOf_eq Try.func32 (by kernel_rfl) (by kernel_rfl)

/-- loop.example/g01921/impl.ReadCost -/
def M_impl_ReadCost : MFun := ⟨2, 15, [.tmp 4],
  .seq (.reg [
    ⟨(some 2), none, .box (.s 0)⟩,
    ⟨(some 4), none, .mov (.c (.t (.int .i64 0)))⟩] [1, 2])
  (.seq (.reg [
    ⟨(some 6), none, .mov (.s 1)⟩,
    ⟨(some 7), none, .call 64 [(.s 6)]⟩,
    ⟨(some 5), none, .mov (.s 7)⟩] [2, 5])
  (.seq (.seq (.reg [
    ⟨(some 8), none, .mov (.s 5)⟩,
    ⟨(some 9), none, .bin .lss (.s 8) (.c (.t (.int .i64 0)))⟩] [2, 5, 9])
  (.cond (.s 9)
    (.seq (.reg [
      ⟨(some 4), none, .mov (.c (.t (.int .i64 (-1))))⟩] [4])
    (.ret))
    (.skip)))
  (.seq (.reg [
    ⟨(some 10), none, .faddr 0 (.s 2)⟩,
    ⟨(some 11), none, .load (some 6) (.s 10)⟩,
    ⟨(some 12), none, .mov (.s 5)⟩,
    ⟨(some 13), none, .mov (.s 5)⟩,
    ⟨(some 14), none, .call 65 [(.s 11), (.s 12), (.c (.t (.int .i64 0))), (.s 13)]⟩,
    ⟨(some 4), none, .mov (.s 14)⟩] [4])
  (.ret))))⟩
theorem t_impl_ReadCost : tbl 33 = some M_impl_ReadCost := tblOf_eq Try.func33 (by kernel_rfl) (by kernel_rfl)

/-- loop.example/g01921/laws.eqModel -/
def M_laws_eqModel : MFun := ⟨2, 35, [.tmp 4],
  .seq (.reg [
    ⟨(some 2), none, .box (.s 0)⟩,
    ⟨(some 3), none, .box (.s 1)⟩,
    ⟨(some 4), none, .mov (.c (.t (.bool false)))⟩] [2, 3])
  (.seq (.seq (.reg [
    ⟨(some 5), none, .faddr 0 (.s 2)⟩,
    ⟨(some 6), none, .load (some 6) (.s 5)⟩,
    ⟨(some 7), none, .faddr 0 (.s 3)⟩,
    ⟨(some 8), none, .load (some 6) (.s 7)⟩,
    ⟨(some 9), none, .call 66 [(.s 6), (.s 8)]⟩,
    ⟨(some 10), none, .un .not (.s 9)⟩] [2, 3, 10])
  (.cond (.s 10)
    (.seq (.reg [
      ⟨(some 4), none, .mov (.c (.t (.bool false)))⟩] [4])
    (.ret))
    (.skip)))
  (.seq (.seq (.reg [
    ⟨(some 11), none, .faddr 6 (.s 2)⟩,
    ⟨(some 12), none, .load (some 6) (.s 11)⟩,
    ⟨(some 13), none, .faddr 6 (.s 3)⟩,
    ⟨(some 14), none, .load (some 6) (.s 13)⟩,
    ⟨(some 15), none, .call 66 [(.s 12), (.s 14)]⟩,
    ⟨(some 16), none, .un .not (.s 15)⟩] [2, 3, 16])
  (.cond (.s 16)
    (.seq (.reg [
      ⟨(some 4), none, .mov (.c (.t (.bool false)))⟩] [4])
    (.ret))
    (.skip)))
  (.seq (.seq (.reg [
    ⟨(some 17), none, .faddr 12 (.s 2)⟩,
    ⟨(some 18), none, .load (some 6) (.s 17)⟩,
    ⟨(some 19), none, .faddr 12 (.s 3)⟩,
    ⟨(some 20), none, .load (some 6) (.s 19)⟩,
    ⟨(some 21), none, .call 66 [(.s 18), (.s 20)]⟩,
    ⟨(some 22), none, .un .not (.s 21)⟩] [2, 3, 22])
  (.cond (.s 22)
    (.seq (.reg [
      ⟨(some 4), none, .mov (.c (.t (.bool false)))⟩] [4])
    (.ret))
    (.skip)))
  (.seq (.seq (.reg [
    ⟨(some 23), none, .faddr 18 (.s 2)⟩,
    ⟨(some 24), none, .load (some 6) (.s 23)⟩,
    ⟨(some 25), none, .faddr 18 (.s 3)⟩,
    ⟨(some 26), none, .load (some 6) (.s 25)⟩,
    ⟨(some 27), none, .call 66 [(.s 24), (.s 26)]⟩,
    ⟨(some 28), none, .un .not (.s 27)⟩] [2, 3, 28])
  (.cond (.s 28)
    (.seq (.reg [
      ⟨(some 4), none, .mov (.c (.t (.bool false)))⟩] [4])
    (.ret))
    (.skip)))
  (.seq (.seq (.reg [
    ⟨(some 29), none, .faddr 24 (.s 2)⟩,
    ⟨(some 30), none, .load (some 6) (.s 29)⟩,
    ⟨(some 31), none, .faddr 24 (.s 3)⟩,
    ⟨(some 32), none, .load (some 6) (.s 31)⟩,
    ⟨(some 33), none, .call 66 [(.s 30), (.s 32)]⟩,
    ⟨(some 34), none, .un .not (.s 33)⟩] [34])
  (.cond (.s 34)
    (.seq (.reg [
      ⟨(some 4), none, .mov (.c (.t (.bool false)))⟩] [4])
    (.ret))
    (.skip)))
  (.seq (.reg [
    ⟨(some 4), none, .mov (.c (.t (.bool true)))⟩] [4])
  (.ret)))))))⟩
theorem t_laws_eqModel : tbl 34 = some M_laws_eqModel := tblOf_eq Try.func34 (by kernel_rfl) (by kernel_rfl)

/-- loop.example/g01921/laws.szPlanCache -/
def M_laws_szPlanCache : MFun := ⟨2, 12, [.tmp 4],
  .seq (.reg [
    ⟨(some 2), none, .box (.s 0)⟩,
    ⟨(some 4), none, .mov (.c (.t (.int .i64 0)))⟩] [1, 2])
  (.seq (.reg [
    ⟨(some 5), none, .faddr 1 (.s 2)⟩,
    ⟨(some 6), none, .load none (.s 5)⟩,
    ⟨(some 7), none, .mov (.s 1)⟩,
    ⟨(some 8), none, .call 67 [(.s 6), (.s 7)]⟩,
    ⟨(some 1), none, .mov (.s 8)⟩] [1])
  (.seq (.seq (.reg [
    ⟨(some 9), none, .mov (.s 1)⟩,
    ⟨(some 10), none, .bin .lss (.s 9) (.c (.t (.int .i64 0)))⟩] [1, 10])
  (.cond (.s 10)
    (.seq (.reg [
      ⟨(some 4), none, .mov (.c (.t (.int .i64 (-1))))⟩] [4])
    (.ret))
    (.skip)))
  (.seq (.reg [
    ⟨(some 11), none, .mov (.s 1)⟩,
    ⟨(some 4), none, .mov (.s 11)⟩] [4])
  (.ret))))⟩
theorem t_laws_szPlanCache : tbl 35 = some M_laws_szPlanCache := tblOf_eq Try.func35 (by kernel_rfl) (by kernel_rfl)

/-- loop.example/g01921/spec.OldestEntry -/
def B_spec_OldestEntry_0 : MCode :=
  .seq (.seq (.reg [
    ⟨(some 5), none, .mov (.s 4)⟩,
    ⟨(some 6), none, .faddr 1 (.s 1)⟩,
    ⟨(some 7), none, .load none (.s 6)⟩,
    ⟨(some 8), none, .len false (.s 7)⟩,
    ⟨(some 9), none, .bin .lss (.s 5) (.s 8)⟩] [1, 3, 4, 9])
  (.cond (.s 9)
    (.skip)
    (.exit 0)))
  (.seq (.block 1 (.seq (.drw [
    ⟨(some 12), none, .mov (.s 3)⟩,
    ⟨(some 13), none, .bin .lss (.s 12) (.c (.t (.int .i64 0)))⟩,
    ⟨(some 14), none, .mov (.s 13)⟩,
    ⟨(some 15), (some (14, false)), .faddr 1 (.s 1)⟩,
    ⟨(some 16), (some (14, false)), .load none (.s 15)⟩,
    ⟨(some 17), (some (14, false)), .mov (.s 4)⟩,
    ⟨(some 18), (some (14, false)), .iaddr 8 (.s 16) (.s 17)⟩,
    ⟨(some 19), (some (14, false)), .faddr 7 (.s 18)⟩,
    ⟨(some 20), (some (14, false)), .load none (.s 19)⟩,
    ⟨(some 21), (some (14, false)), .faddr 1 (.s 1)⟩,
    ⟨(some 22), (some (14, false)), .load none (.s 21)⟩,
    ⟨(some 23), (some (14, false)), .mov (.s 3)⟩,
    ⟨(some 24), (some (14, false)), .iaddr 8 (.s 22) (.s 23)⟩,
    ⟨(some 25), (some (14, false)), .faddr 7 (.s 24)⟩,
    ⟨(some 26), (some (14, false)), .load none (.s 25)⟩,
    ⟨(some 27), (some (14, false)), .bin .lss (.s 20) (.s 26)⟩,
    ⟨(some 28), none, .pick (.s 14) (.c (.t (.bool true))) (.s 27)⟩] [[], [0], [1], [2], [3, 2], [2], [4, 5, 2], [6, 2], [7, 2], [2], [9, 2], [2], [10, 11, 2], [12, 2], [13, 2], [8, 14, 2], [2, 15]] [1, 3, 4, 28])
  (.cond (.s 28)
    (.reg [
      ⟨(some 29), none, .mov (.s 4)⟩,
      ⟨(some 3), none, .mov (.s 29)⟩] [1, 3, 4])
    (.skip))))
  (.reg [
    ⟨(some 10), none, .mov (.s 4)⟩,
    ⟨(some 11), none, .bin .add (.s 10) (.c (.t (.int .i64 1)))⟩,
    ⟨(some 4), none, .mov (.s 11)⟩] [1, 3, 4]))

def M_spec_OldestEntry : MFun := ⟨1, 31, [.tmp 2],
  .seq (.reg [
    ⟨(some 1), none, .box (.s 0)⟩,
    ⟨(some 2), none, .mov (.c (.t (.int .i64 0)))⟩] [1])
  (.seq (.reg [
    ⟨(some 3), none, .mov (.c (.t (.int .i64 (-1))))⟩] [1, 3])
  (.seq (.seq (.reg [
    ⟨(some 4), none, .mov (.c (.t (.int .i64 0)))⟩] [1, 3, 4])
  (.block 0 (.loop [1, 3, 4] B_spec_OldestEntry_0)))
  (.seq (.reg [
    ⟨(some 30), none, .mov (.s 3)⟩,
    ⟨(some 2), none, .mov (.s 30)⟩] [2])
  (.ret))))⟩
theorem t_spec_OldestEntry : tbl 36 = some M_spec_OldestEntry := tblOf_eq Try.func36 (by kernel_rfl) (by kernel_rfl)

/-- loop.example/g01921/laws.toPlanCache -/
def M_laws_toPlanCache : MFun := ⟨1, 12, [.cell 2 (some 2)],
  .seq (.reg [
    ⟨(some 1), none, .box (.s 0)⟩,
    ⟨(some 2), none, .alloc [(.t (.int .i64 0)), (.t .nil)]⟩] [1, 2])
  (.seq (.reg [
    ⟨(some 3), none, .alloc [(.t (.int .i64 0)), (.t .nil)]⟩] [1, 2, 3])
  (.seq (.reg [
    ⟨(some 4), none, .faddr 0 (.s 1)⟩,
    ⟨(some 5), none, .load none (.s 4)⟩,
    ⟨(some 6), none, .faddr 0 (.s 3)⟩,
    ⟨none, none, .store 1 (.s 6) (.s 5)⟩] [1, 2, 3])
  (.seq (.reg [
    ⟨(some 7), none, .faddr 1 (.s 1)⟩,
    ⟨(some 8), none, .load none (.s 7)⟩,
    ⟨(some 9), none, .call 68 [(.s 8)]⟩,
    ⟨(some 10), none, .faddr 1 (.s 3)⟩,
    ⟨none, none, .store 1 (.s 10) (.s 9)⟩] [2, 3])
  (.seq (.reg [
    ⟨(some 11), none, .load (some 2) (.s 3)⟩,
    ⟨none, none, .store 2 (.s 2) (.s 11)⟩] [2])
  (.ret)))))⟩
theorem t_laws_toPlanCache : tbl 37 = some M_laws_toPlanCache := tblOf_eq Try.func37 (by kernel_rfl) (by kernel_rfl)

/-- loop.example/g01921/impl.OldestEntry -/
def B_impl_OldestEntry_0 : MCode :=
  .seq (.reg [
    ⟨(some 10), none, .bin .lss (.s 9) (.s 8)⟩] [1, 3, 7, 8, 9, 10])
  (.seq (.cond (.s 10)
    (.skip)
    (.exit 0))
  (.seq (.block 1 (.seq (.reg [
    ⟨(some 11), none, .mov (.s 9)⟩,
    ⟨(some 12), none, .iaddr 8 (.s 7) (.s 9)⟩,
    ⟨(some 13), none, .load (some 8) (.s 12)⟩,
    ⟨(some 5), none, .alloc [(.t (.int .i64 0)), (.t .nil), (.t .nil), (.t .nil), (.t .nil), (.t (.int .i64 0)), (.t (.int .i64 0)), (.t (.int .i64 0))]⟩,
    ⟨(some 4), none, .mov (.s 11)⟩,
    ⟨none, none, .store 8 (.s 5) (.s 13)⟩] [1, 3, 4, 5, 7, 8, 9])
  (.seq (.drw [
    ⟨(some 14), none, .mov (.s 3)⟩,
    ⟨(some 15), none, .bin .lss (.s 14) (.c (.t (.int .i64 0)))⟩,
    ⟨(some 16), none, .mov (.s 15)⟩,
    ⟨(some 17), (some (16, false)), .faddr 7 (.s 5)⟩,
    ⟨(some 18), (some (16, false)), .load none (.s 17)⟩,
    ⟨(some 19), (some (16, false)), .faddr 1 (.s 1)⟩,
    ⟨(some 20), (some (16, false)), .load none (.s 19)⟩,
    ⟨(some 21), (some (16, false)), .mov (.s 3)⟩,
    ⟨(some 22), (some (16, false)), .iaddr 8 (.s 20) (.s 21)⟩,
    ⟨(some 23), (some (16, false)), .faddr 7 (.s 22)⟩,
    ⟨(some 24), (some (16, false)), .load none (.s 23)⟩,
    ⟨(some 25), (some (16, false)), .bin .lss (.s 18) (.s 24)⟩,
    ⟨(some 26), none, .pick (.s 16) (.c (.t (.bool true))) (.s 25)⟩] [[], [0], [1], [2], [3, 2], [2], [5, 2], [2], [6, 7, 2], [8, 2], [9, 2], [4, 10, 2], [2, 11]] [1, 3, 4, 7, 8, 9, 26])
  (.cond (.s 26)
    (.reg [
      ⟨(some 27), none, .mov (.s 4)⟩,
      ⟨(some 3), none, .mov (.s 27)⟩] [1, 3, 7, 8, 9])
    (.skip)))))
  (.reg [
    ⟨(some 28), none, .bin .add (.s 9) (.c (.t (.int .i64 1)))⟩,
    ⟨(some 9), none, .mov (.s 28)⟩] [1, 3, 7, 8, 9])))

def M_impl_OldestEntry : MFun := ⟨1, 30, [.tmp 2],
  .seq (.reg [
    ⟨(some 1), none, .box (.s 0)⟩,
    ⟨(some 2), none, .mov (.c (.t (.int .i64 0)))⟩] [1])
  (.seq (.reg [
    ⟨(some 3), none, .mov (.c (.t (.int .i64 (-1))))⟩] [1, 3])
  (.seq (.seq (.reg [
    ⟨(some 6), none, .faddr 1 (.s 1)⟩,
    ⟨(some 7), none, .load none (.s 6)⟩,
    ⟨(some 8), none, .len false (.s 7)⟩,
    ⟨(some 9), none, .mov (.c (.t (.int .i64 0)))⟩] [1, 3, 7, 8, 9])
  (.block 0 (.loop [1, 3, 7, 8, 9] B_impl_OldestEntry_0)))
  (.seq (.reg [
    ⟨(some 29), none, .mov (.s 3)⟩,
    ⟨(some 2), none, .mov (.s 29)⟩] [2])
  (.ret))))⟩
theorem t_impl_OldestEntry : tbl 38 = some M_impl_OldestEntry := tblOf_eq Try.func38 (by kernel_rfl) (by kernel_rfl)

/-- loop.example/g01921/laws.eqPlanCache -/
def M_laws_eqPlanCache : MFun := ⟨2, 16, [.tmp 4],
  .seq (.reg [
    ⟨(some 2), none, .box (.s 0)⟩,
    ⟨(some 3), none, .box (.s 1)⟩,
    ⟨(some 4), none, .mov (.c (.t (.bool false)))⟩] [2, 3])
  (.seq (.seq (.reg [
    ⟨(some 5), none, .faddr 0 (.s 2)⟩,
    ⟨(some 6), none, .load none (.s 5)⟩,
    ⟨(some 7), none, .faddr 0 (.s 3)⟩,
    ⟨(some 8), none, .load none (.s 7)⟩,
    ⟨(some 9), none, .bin .neq (.s 6) (.s 8)⟩] [2, 3, 9])
  (.cond (.s 9)
    (.seq (.reg [
      ⟨(some 4), none, .mov (.c (.t (.bool false)))⟩] [4])
    (.ret))
    (.skip)))
  (.seq (.seq (.reg [
    ⟨(some 10), none, .faddr 1 (.s 2)⟩,
    ⟨(some 11), none, .load none (.s 10)⟩,
    ⟨(some 12), none, .faddr 1 (.s 3)⟩,
    ⟨(some 13), none, .load none (.s 12)⟩,
    ⟨(some 14), none, .call 69 [(.s 11), (.s 13)]⟩,
    ⟨(some 15), none, .un .not (.s 14)⟩] [15])
  (.cond (.s 15)
    (.seq (.reg [
      ⟨(some 4), none, .mov (.c (.t (.bool false)))⟩] [4])
    (.ret))
    (.skip)))
  (.seq (.reg [
    ⟨(some 4), none, .mov (.c (.t (.bool true)))⟩] [4])
  (.ret))))⟩
theorem t_laws_eqPlanCache : tbl 39 = some M_laws_eqPlanCache := tblOf_eq Try.func39 (by kernel_rfl) (by kernel_rfl)

/-- loop.example/g01921/spec.IsReadable -/
def M_spec_IsReadable : MFun := ⟨3, 30, [.tmp 6],
  .seq (.reg [
    ⟨(some 3), none, .box (.s 0)⟩,
    ⟨(some 6), none, .mov (.c (.t (.bool false)))⟩] [1, 2, 3])
  (.seq (.seq (.reg [
    ⟨(some 7), none, .load (some 30) (.s 3)⟩,
    ⟨(some 8), none, .call 70 [(.s 7)]⟩,
    ⟨(some 9), none, .un .not (.s 8)⟩,
    ⟨(some 10), none, .mov (.s 9)⟩,
    ⟨(some 11), (some (10, false)), .mov (.s 1)⟩,
    ⟨(some 12), (some (10, false)), .call 42 [(.s 11), (.c (.t (.int .i64 3))), (.c (.t (.int .i64 5)))]⟩,
    ⟨(some 13), (some (10, false)), .un .not (.s 12)⟩,
    ⟨(some 14), none, .pick (.s 10) (.c (.t (.bool true))) (.s 13)⟩,
    ⟨(some 15), none, .mov (.s 14)⟩,
    ⟨(some 16), (some (15, false)), .mov (.s 2)⟩,
    ⟨(some 17), (some (15, false)), .call 42 [(.s 16), (.c (.t (.int .i64 0))), (.c (.t (.int .i64 4096)))]⟩,
    ⟨(some 18), (some (15, false)), .un .not (.s 17)⟩,
    ⟨(some 19), none, .pick (.s 15) (.c (.t (.bool true))) (.s 18)⟩] [1, 2, 3, 19])
  (.cond (.s 19)
    (.seq (.reg [
      ⟨(some 6), none, .mov (.c (.t (.bool false)))⟩] [6])
    (.ret))
    (.skip)))
  (.seq (.drw [
    ⟨(some 20), none, .load (some 30) (.s 3)⟩,
    ⟨(some 21), none, .mov (.s 2)⟩,
    ⟨(some 22), none, .call 31 [(.s 20), (.s 21)]⟩,
    ⟨(some 23), none, .load (some 30) (.s 3)⟩,
    ⟨(some 24), none, .mov (.s 1)⟩,
    ⟨(some 25), none, .call 71 [(.s 23), (.s 24)]⟩,
    ⟨(some 26), none, .mov (.s 2)⟩,
    ⟨(some 27), none, .call 62 [(.s 26)]⟩,
    ⟨(some 28), none, .call 61 [(.s 25), (.c (.t (.int .i64 0))), (.c (.t (.int .i64 0))), (.s 27)]⟩,
    ⟨(some 29), none, .bin .leq (.s 22) (.s 28)⟩,
    ⟨(some 6), none, .mov (.s 29)⟩] [[], [], [0, 1], [], [], [3, 4, 2], [], [6, 5], [5, 7, 7], [2, 8], [9, 8, 0, 1, 2, 3, 4, 5, 6, 7, 8, 9]] [6])
  (.ret)))⟩
theorem t_spec_IsReadable : tbl 40 = some M_spec_IsReadable := tblOf_eq Try.func40 (by kernel_rfl) (by kernel_rfl)

/-- loop.example/g01921/impl.IsReadable -/
def M_impl_IsReadable : MFun := ⟨3, 34, [.tmp 6],
  .seq (.reg [
    ⟨(some 3), none, .box (.s 0)⟩,
    ⟨(some 6), none, .mov (.c (.t (.bool false)))⟩] [1, 2, 3])
  (.seq (.seq (.reg [
    ⟨(some 7), none, .mov (.s 1)⟩,
    ⟨(some 8), none, .call 43 [(.s 7), (.c (.t (.int .i64 3))), (.c (.t (.int .i64 5)))]⟩,
    ⟨(some 9), none, .un .not (.s 8)⟩,
    ⟨(some 10), none, .mov (.s 9)⟩,
    ⟨(some 11), (some (10, false)), .mov (.s 2)⟩,
    ⟨(some 12), (some (10, false)), .call 43 [(.s 11), (.c (.t (.int .i64 0))), (.c (.t (.int .i64 4096)))]⟩,
    ⟨(some 13), (some (10, false)), .un .not (.s 12)⟩,
    ⟨(some 14), none, .pick (.s 10) (.c (.t (.bool true))) (.s 13)⟩,
    ⟨(some 15), none, .mov (.s 14)⟩,
    ⟨(some 16), (some (15, false)), .load (some 30) (.s 3)⟩,
    ⟨(some 17), (some (15, false)), .call 72 [(.s 16)]⟩,
    ⟨(some 18), (some (15, false)), .un .not (.s 17)⟩,
    ⟨(some 19), none, .pick (.s 15) (.c (.t (.bool true))) (.s 18)⟩] [1, 2, 3, 19])
  (.cond (.s 19)
    (.seq (.reg [
      ⟨(some 6), none, .mov (.c (.t (.bool false)))⟩] [6])
    (.ret))
    (.skip)))
  (.seq (.drw [
    ⟨(some 20), none, .load (some 30) (.s 3)⟩,
    ⟨(some 21), none, .mov (.s 2)⟩,
    ⟨(some 22), none, .call 33 [(.s 20), (.s 21)]⟩,
    ⟨(some 23), none, .pcall 73 [(.s 3)]⟩,
    ⟨(some 24), none, .mov (.s 1)⟩,
    ⟨(some 25), none, .bin .sub (.s 24) (.c (.t (.int .i64 1)))⟩,
    ⟨(some 26), none, .iaddr 1 (.s 23) (.s 25)⟩,
    ⟨(some 27), none, .load none (.s 26)⟩,
    ⟨(some 28), none, .nilchk (.s 27)⟩,
    ⟨(some 29), none, .load (some 6) (.s 28)⟩,
    ⟨(some 30), none, .mov (.s 2)⟩,
    ⟨(some 31), none, .call 64 [(.s 30)]⟩,
    ⟨(some 32), none, .call 65 [(.s 29), (.c (.t (.int .i64 0))), (.c (.t (.int .i64 0))), (.s 31)]⟩,
    ⟨(some 33), none, .bin .leq (.s 22) (.s 32)⟩,
    ⟨(some 6), none, .mov (.s 33)⟩] [[], [], [0, 1], [2], [], [4], [3, 5], [6], [7], [8], [], [10, 3], [9, 11, 11], [2, 12], [13, 12, 0, 1, 2, 3, 4, 5, 6, 7, 8, 9, 10, 11, 12, 13]] [6])
  (.ret)))⟩
theorem t_impl_IsReadable : tbl 41 = some M_impl_IsReadable := tblOf_eq Try.func41 (by kernel_rfl) (by kernel_rfl)

/-- loop.example/g01921/spec.l1In -/
def M_spec_l1In : MFun := ⟨3, 15, [.tmp 6],
  .seq (.reg [
    ⟨(some 6), none, .mov (.c (.t (.bool false)))⟩] [0, 1, 2])
  (.seq (.reg [
    ⟨(some 7), none, .mov (.s 0)⟩,
    ⟨(some 8), none, .mov (.s 1)⟩,
    ⟨(some 9), none, .bin .geq (.s 7) (.s 8)⟩,
    ⟨(some 10), none, .mov (.s 9)⟩,
    ⟨(some 11), (some (10, true)), .mov (.s 0)⟩,
    ⟨(some 12), (some (10, true)), .mov (.s 2)⟩,
    ⟨(some 13), (some (10, true)), .bin .leq (.s 11) (.s 12)⟩,
    ⟨(some 14), none, .pick (.s 10) (.s 13) (.c (.t (.bool false)))⟩,
    ⟨(some 6), none, .mov (.s 14)⟩] [6])
  (.ret))⟩
theorem t_spec_l1In : tbl 42 = some M_spec_l1In := tblOf_eq Try.func42 (by kernel_rfl) (by kernel_rfl)

/-- loop.example/g01921/impl.within -/
def M_impl_within : MFun := ⟨3, 15, [.tmp 6],
  .seq (.reg [
    ⟨(some 6), none, .mov (.c (.t (.bool false)))⟩] [0, 1, 2])
  (.seq (.reg [
    ⟨(some 7), none, .mov (.s 0)⟩,
    ⟨(some 8), none, .mov (.s 1)⟩,
    ⟨(some 9), none, .bin .geq (.s 7) (.s 8)⟩,
    ⟨(some 10), none, .mov (.s 9)⟩,
    ⟨(some 11), (some (10, true)), .mov (.s 0)⟩,
    ⟨(some 12), (some (10, true)), .mov (.s 2)⟩,
    ⟨(some 13), (some (10, true)), .bin .leq (.s 11) (.s 12)⟩,
    ⟨(some 14), none, .pick (.s 10) (.s 13) (.c (.t (.bool false)))⟩,
    ⟨(some 6), none, .mov (.s 14)⟩] [6])
  (.ret))⟩
theorem t_impl_within : tbl 43 = some M_impl_within := tblOf_eq Try.func43 (by kernel_rfl) (by kernel_rfl)

/-- loop.example/g01921/laws.eqKept -/
def M_laws_eqKept : MFun := ⟨2, 15, [.tmp 4],
  .seq (.reg [
    ⟨(some 2), none, .box (.s 0)⟩,
    ⟨(some 3), none, .box (.s 1)⟩,
    ⟨(some 4), none, .mov (.c (.t (.bool false)))⟩] [2, 3])
  (.seq (.seq (.reg [
    ⟨(some 5), none, .faddr 0 (.s 2)⟩,
    ⟨(some 6), none, .load none (.s 5)⟩,
    ⟨(some 7), none, .faddr 0 (.s 3)⟩,
    ⟨(some 8), none, .load none (.s 7)⟩,
    ⟨(some 9), none, .bin .neq (.s 6) (.s 8)⟩] [2, 3, 9])
  (.cond (.s 9)
    (.seq (.reg [
      ⟨(some 4), none, .mov (.c (.t (.bool false)))⟩] [4])
    (.ret))
    (.skip)))
  (.seq (.seq (.reg [
    ⟨(some 10), none, .faddr 1 (.s 2)⟩,
    ⟨(some 11), none, .load none (.s 10)⟩,
    ⟨(some 12), none, .faddr 1 (.s 3)⟩,
    ⟨(some 13), none, .load none (.s 12)⟩,
    ⟨(some 14), none, .bin .neq (.s 11) (.s 13)⟩] [14])
  (.cond (.s 14)
    (.seq (.reg [
      ⟨(some 4), none, .mov (.c (.t (.bool false)))⟩] [4])
    (.ret))
    (.skip)))
  (.seq (.reg [
    ⟨(some 4), none, .mov (.c (.t (.bool true)))⟩] [4])
  (.ret))))⟩
theorem t_laws_eqKept : tbl 44 = some M_laws_eqKept := tblOf_eq Try.func44 (by kernel_rfl) (by kernel_rfl)

/-- loop.example/g01921/laws.szAnswer -/
def M_laws_szAnswer : MFun := ⟨2, 18, [.tmp 4],
  .seq (.reg [
    ⟨(some 2), none, .box (.s 0)⟩,
    ⟨(some 4), none, .mov (.c (.t (.int .i64 0)))⟩] [1, 2])
  (.seq (.reg [
    ⟨(some 5), none, .faddr 0 (.s 2)⟩,
    ⟨(some 6), none, .load none (.s 5)⟩,
    ⟨(some 7), none, .mov (.s 1)⟩,
    ⟨(some 8), none, .call 74 [(.s 6), (.s 7)]⟩,
    ⟨(some 1), none, .mov (.s 8)⟩] [1, 2])
  (.seq (.seq (.reg [
    ⟨(some 9), none, .mov (.s 1)⟩,
    ⟨(some 10), none, .bin .lss (.s 9) (.c (.t (.int .i64 0)))⟩] [1, 2, 10])
  (.cond (.s 10)
    (.seq (.reg [
      ⟨(some 4), none, .mov (.c (.t (.int .i64 (-1))))⟩] [4])
    (.ret))
    (.skip)))
  (.seq (.reg [
    ⟨(some 11), none, .faddr 1 (.s 2)⟩,
    ⟨(some 12), none, .load none (.s 11)⟩,
    ⟨(some 13), none, .mov (.s 1)⟩,
    ⟨(some 14), none, .call 75 [(.s 12), (.s 13)]⟩,
    ⟨(some 1), none, .mov (.s 14)⟩] [1])
  (.seq (.seq (.reg [
    ⟨(some 15), none, .mov (.s 1)⟩,
    ⟨(some 16), none, .bin .lss (.s 15) (.c (.t (.int .i64 0)))⟩] [1, 16])
  (.cond (.s 16)
    (.seq (.reg [
      ⟨(some 4), none, .mov (.c (.t (.int .i64 (-1))))⟩] [4])
    (.ret))
    (.skip)))
  (.seq (.reg [
    ⟨(some 17), none, .mov (.s 1)⟩,
    ⟨(some 4), none, .mov (.s 17)⟩] [4])
  (.ret))))))⟩
theorem t_laws_szAnswer : tbl 45 = some M_laws_szAnswer := tblOf_eq Try.func45 (by kernel_rfl) (by kernel_rfl)

/-- loop.example/g01921/spec.EqualAnswers -/
def B_spec_EqualAnswers_0 : MCode :=
  .seq (.seq (.reg [
    ⟨(some 21), none, .mov (.s 5)⟩,
    ⟨(some 22), none, .faddr 1 (.s 2)⟩,
    ⟨(some 23), none, .load none (.s 22)⟩,
    ⟨(some 24), none, .len false (.s 23)⟩,
    ⟨(some 25), none, .bin .lss (.s 21) (.s 24)⟩] [2, 3, 5, 25])
  (.cond (.s 25)
    (.skip)
    (.exit 0)))
  (.seq (.block 1 (.seq (.drw [
    ⟨(some 28), none, .faddr 1 (.s 2)⟩,
    ⟨(some 29), none, .load none (.s 28)⟩,
    ⟨(some 30), none, .mov (.s 5)⟩,
    ⟨(some 31), none, .iaddr 1 (.s 29) (.s 30)⟩,
    ⟨(some 32), none, .load none (.s 31)⟩,
    ⟨(some 33), none, .faddr 1 (.s 3)⟩,
    ⟨(some 34), none, .load none (.s 33)⟩,
    ⟨(some 35), none, .mov (.s 5)⟩,
    ⟨(some 36), none, .iaddr 1 (.s 34) (.s 35)⟩,
    ⟨(some 37), none, .load none (.s 36)⟩,
    ⟨(some 38), none, .call 76 [(.s 32), (.s 37)]⟩,
    ⟨(some 39), none, .bin .neq (.s 38) (.c (.t (.int .i64 0)))⟩] [[], [0], [], [1, 2], [3], [], [5], [], [6, 7], [8], [4, 9], [10]] [2, 3, 5, 39])
  (.cond (.s 39)
    (.seq (.reg [
      ⟨(some 4), none, .mov (.c (.t (.bool false)))⟩] [4])
    (.ret))
    (.skip))))
  (.reg [
    ⟨(some 26), none, .mov (.s 5)⟩,
    ⟨(some 27), none, .bin .add (.s 26) (.c (.t (.int .i64 1)))⟩,
    ⟨(some 5), none, .mov (.s 27)⟩] [2, 3, 5]))

def M_spec_EqualAnswers : MFun := ⟨2, 40, [.tmp 4],
  .seq (.reg [
    ⟨(some 2), none, .box (.s 0)⟩,
    ⟨(some 3), none, .box (.s 1)⟩,
    ⟨(some 4), none, .mov (.c (.t (.bool false)))⟩] [2, 3])
  (.seq (.seq (.reg [
    ⟨(some 6), none, .faddr 0 (.s 2)⟩,
    ⟨(some 7), none, .load none (.s 6)⟩,
    ⟨(some 8), none, .faddr 0 (.s 3)⟩,
    ⟨(some 9), none, .load none (.s 8)⟩,
    ⟨(some 10), none, .call 76 [(.s 7), (.s 9)]⟩,
    ⟨(some 11), none, .bin .neq (.s 10) (.c (.t (.int .i64 0)))⟩,
    ⟨(some 12), none, .mov (.s 11)⟩,
    ⟨(some 13), (some (12, false)), .faddr 1 (.s 2)⟩,
    ⟨(some 14), (some (12, false)), .load none (.s 13)⟩,
    ⟨(some 15), (some (12, false)), .len false (.s 14)⟩,
    ⟨(some 16), (some (12, false)), .faddr 1 (.s 3)⟩,
    ⟨(some 17), (some (12, false)), .load none (.s 16)⟩,
    ⟨(some 18), (some (12, false)), .len false (.s 17)⟩,
    ⟨(some 19), (some (12, false)), .bin .neq (.s 15) (.s 18)⟩,
    ⟨(some 20), none, .pick (.s 12) (.c (.t (.bool true))) (.s 19)⟩] [2, 3, 20])
  (.cond (.s 20)
    (.seq (.reg [
      ⟨(some 4), none, .mov (.c (.t (.bool false)))⟩] [4])
    (.ret))
    (.skip)))
  (.seq (.seq (.reg [
    ⟨(some 5), none, .mov (.c (.t (.int .i64 0)))⟩] [2, 3, 5])
  (.block 0 (.loop [2, 3, 5] B_spec_EqualAnswers_0)))
  (.seq (.reg [
    ⟨(some 4), none, .mov (.c (.t (.bool true)))⟩] [4])
  (.ret))))⟩
theorem t_spec_EqualAnswers : tbl 46 = some M_spec_EqualAnswers := tblOf_eq Try.func46 (by kernel_rfl) (by kernel_rfl)

/-- loop.example/g01921/laws.toAnswer -/
def M_laws_toAnswer : MFun := ⟨1, 13, [.cell 2 (some 2)],
  .seq (.reg [
    ⟨(some 1), none, .box (.s 0)⟩,
    ⟨(some 2), none, .alloc [(.t .nil), (.t .nil)]⟩] [1, 2])
  (.seq (.reg [
    ⟨(some 3), none, .alloc [(.t .nil), (.t .nil)]⟩] [1, 2, 3])
  (.seq (.reg [
    ⟨(some 4), none, .faddr 0 (.s 1)⟩,
    ⟨(some 5), none, .load none (.s 4)⟩,
    ⟨(some 6), none, .call 77 [(.s 5)]⟩,
    ⟨(some 7), none, .faddr 0 (.s 3)⟩,
    ⟨none, none, .store 1 (.s 7) (.s 6)⟩] [1, 2, 3])
  (.seq (.reg [
    ⟨(some 8), none, .faddr 1 (.s 1)⟩,
    ⟨(some 9), none, .load none (.s 8)⟩,
    ⟨(some 10), none, .call 78 [(.s 9)]⟩,
    ⟨(some 11), none, .faddr 1 (.s 3)⟩,
    ⟨none, none, .store 1 (.s 11) (.s 10)⟩] [2, 3])
  (.seq (.reg [
    ⟨(some 12), none, .load (some 2) (.s 3)⟩,
    ⟨none, none, .store 2 (.s 2) (.s 12)⟩] [2])
  (.ret)))))⟩
theorem t_laws_toAnswer : tbl 47 = some M_laws_toAnswer := tblOf_eq Try.func47 (by kernel_rfl) (by kernel_rfl)

/-- loop.example/g01921/impl.EqualAnswers -/
def M_impl_EqualAnswers : MFun := ⟨2, 17, [.tmp 4],
  .seq (.reg [
    ⟨(some 2), none, .box (.s 0)⟩,
    ⟨(some 3), none, .box (.s 1)⟩,
    ⟨(some 4), none, .mov (.c (.t (.bool false)))⟩] [2, 3])
  (.seq (.reg [
    ⟨(some 5), none, .faddr 0 (.s 2)⟩,
    ⟨(some 6), none, .load none (.s 5)⟩,
    ⟨(some 7), none, .faddr 0 (.s 3)⟩,
    ⟨(some 8), none, .load none (.s 7)⟩,
    ⟨(some 9), none, .call 79 [(.s 6), (.s 8)]⟩,
    ⟨(some 10), none, .mov (.s 9)⟩,
    ⟨(some 11), (some (10, true)), .faddr 1 (.s 2)⟩,
    ⟨(some 12), (some (10, true)), .load none (.s 11)⟩,
    ⟨(some 13), (some (10, true)), .faddr 1 (.s 3)⟩,
    ⟨(some 14), (some (10, true)), .load none (.s 13)⟩,
    ⟨(some 15), (some (10, true)), .call 80 [(.s 12), (.s 14)]⟩,
    ⟨(some 16), none, .pick (.s 10) (.s 15) (.c (.t (.bool false)))⟩,
    ⟨(some 4), none, .mov (.s 16)⟩] [4])
  (.ret))⟩
theorem t_impl_EqualAnswers : tbl 48 = some M_impl_EqualAnswers := tblOf_eq Try.func48 (by kernel_rfl) (by kernel_rfl)

/-- loop.example/g01921/laws.eqAnswer -/
def M_laws_eqAnswer : MFun := ⟨2, 17, [.tmp 4],
  .seq (.reg [
    ⟨(some 2), none, .box (.s 0)⟩,
    ⟨(some 3), none, .box (.s 1)⟩,
    ⟨(some 4), none, .mov (.c (.t (.bool false)))⟩] [2, 3])
  (.seq (.seq (.reg [
    ⟨(some 5), none, .faddr 0 (.s 2)⟩,
    ⟨(some 6), none, .load none (.s 5)⟩,
    ⟨(some 7), none, .faddr 0 (.s 3)⟩,
    ⟨(some 8), none, .load none (.s 7)⟩,
    ⟨(some 9), none, .call 81 [(.s 6), (.s 8)]⟩,
    ⟨(some 10), none, .un .not (.s 9)⟩] [2, 3, 10])
  (.cond (.s 10)
    (.seq (.reg [
      ⟨(some 4), none, .mov (.c (.t (.bool false)))⟩] [4])
    (.ret))
    (.skip)))
  (.seq (.seq (.reg [
    ⟨(some 11), none, .faddr 1 (.s 2)⟩,
    ⟨(some 12), none, .load none (.s 11)⟩,
    ⟨(some 13), none, .faddr 1 (.s 3)⟩,
    ⟨(some 14), none, .load none (.s 13)⟩,
    ⟨(some 15), none, .call 82 [(.s 12), (.s 14)]⟩,
    ⟨(some 16), none, .un .not (.s 15)⟩] [16])
  (.cond (.s 16)
    (.seq (.reg [
      ⟨(some 4), none, .mov (.c (.t (.bool false)))⟩] [4])
    (.ret))
    (.skip)))
  (.seq (.reg [
    ⟨(some 4), none, .mov (.c (.t (.bool true)))⟩] [4])
  (.ret))))⟩
theorem t_laws_eqAnswer : tbl 49 = some M_laws_eqAnswer := tblOf_eq Try.func49 (by kernel_rfl) (by kernel_rfl)

/-- loop.example/g01921/laws.szPlan -/
def M_laws_szPlan : MFun := ⟨2, 12, [.tmp 4],
  .seq (.reg [
    ⟨(some 2), none, .box (.s 0)⟩,
    ⟨(some 4), none, .mov (.c (.t (.int .i64 0)))⟩] [1, 2])
  (.seq (.reg [
    ⟨(some 5), none, .faddr 0 (.s 2)⟩,
    ⟨(some 6), none, .load none (.s 5)⟩,
    ⟨(some 7), none, .mov (.s 1)⟩,
    ⟨(some 8), none, .call 83 [(.s 6), (.s 7)]⟩,
    ⟨(some 1), none, .mov (.s 8)⟩] [1])
  (.seq (.seq (.reg [
    ⟨(some 9), none, .mov (.s 1)⟩,
    ⟨(some 10), none, .bin .lss (.s 9) (.c (.t (.int .i64 0)))⟩] [1, 10])
  (.cond (.s 10)
    (.seq (.reg [
      ⟨(some 4), none, .mov (.c (.t (.int .i64 (-1))))⟩] [4])
    (.ret))
    (.skip)))
  (.seq (.reg [
    ⟨(some 11), none, .mov (.s 1)⟩,
    ⟨(some 4), none, .mov (.s 11)⟩] [4])
  (.ret))))⟩
theorem t_laws_szPlan : tbl 50 = some M_laws_szPlan := tblOf_eq Try.func50 (by kernel_rfl) (by kernel_rfl)

/-- loop.example/g01921/laws.szBox -/
def M_laws_szBox : MFun := ⟨2, 18, [.tmp 4],
  .seq (.reg [
    ⟨(some 2), none, .box (.s 0)⟩,
    ⟨(some 4), none, .mov (.c (.t (.int .i64 0)))⟩] [1, 2])
  (.seq (.reg [
    ⟨(some 5), none, .faddr 0 (.s 2)⟩,
    ⟨(some 6), none, .load none (.s 5)⟩,
    ⟨(some 7), none, .mov (.s 1)⟩,
    ⟨(some 8), none, .call 74 [(.s 6), (.s 7)]⟩,
    ⟨(some 1), none, .mov (.s 8)⟩] [1, 2])
  (.seq (.seq (.reg [
    ⟨(some 9), none, .mov (.s 1)⟩,
    ⟨(some 10), none, .bin .lss (.s 9) (.c (.t (.int .i64 0)))⟩] [1, 2, 10])
  (.cond (.s 10)
    (.seq (.reg [
      ⟨(some 4), none, .mov (.c (.t (.int .i64 (-1))))⟩] [4])
    (.ret))
    (.skip)))
  (.seq (.reg [
    ⟨(some 11), none, .faddr 1 (.s 2)⟩,
    ⟨(some 12), none, .load none (.s 11)⟩,
    ⟨(some 13), none, .mov (.s 1)⟩,
    ⟨(some 14), none, .call 74 [(.s 12), (.s 13)]⟩,
    ⟨(some 1), none, .mov (.s 14)⟩] [1])
  (.seq (.seq (.reg [
    ⟨(some 15), none, .mov (.s 1)⟩,
    ⟨(some 16), none, .bin .lss (.s 15) (.c (.t (.int .i64 0)))⟩] [1, 16])
  (.cond (.s 16)
    (.seq (.reg [
      ⟨(some 4), none, .mov (.c (.t (.int .i64 (-1))))⟩] [4])
    (.ret))
    (.skip)))
  (.seq (.reg [
    ⟨(some 17), none, .mov (.s 1)⟩,
    ⟨(some 4), none, .mov (.s 17)⟩] [4])
  (.ret))))))⟩
theorem t_laws_szBox : tbl 51 = some M_laws_szBox := tblOf_eq Try.func51 (by kernel_rfl) (by kernel_rfl)

/-- loop.example/g01921/spec.EqualPlans -/
def B_spec_EqualPlans_0 : MCode :=
  .seq (.seq (.reg [
    ⟨(some 13), none, .mov (.s 5)⟩,
    ⟨(some 14), none, .faddr 0 (.s 2)⟩,
    ⟨(some 15), none, .load none (.s 14)⟩,
    ⟨(some 16), none, .len false (.s 15)⟩,
    ⟨(some 17), none, .bin .lss (.s 13) (.s 16)⟩] [2, 3, 5, 17])
  (.cond (.s 17)
    (.skip)
    (.exit 0)))
  (.seq (.block 1 (.seq (.drw [
    ⟨(some 20), none, .faddr 0 (.s 2)⟩,
    ⟨(some 21), none, .load none (.s 20)⟩,
    ⟨(some 22), none, .mov (.s 5)⟩,
    ⟨(some 23), none, .iaddr 3 (.s 21) (.s 22)⟩,
    ⟨(some 24), none, .load (some 3) (.s 23)⟩,
    ⟨(some 25), none, .faddr 0 (.s 3)⟩,
    ⟨(some 26), none, .load none (.s 25)⟩,
    ⟨(some 27), none, .mov (.s 5)⟩,
    ⟨(some 28), none, .iaddr 3 (.s 26) (.s 27)⟩,
    ⟨(some 29), none, .load (some 3) (.s 28)⟩,
    ⟨(some 30), none, .aeq true [1, 1, 1] (.s 24) (.s 29)⟩] [[], [0], [], [1, 2], [3], [], [5], [], [6, 7], [8], [4, 9]] [2, 3, 5, 30])
  (.cond (.s 30)
    (.seq (.reg [
      ⟨(some 4), none, .mov (.c (.t (.bool false)))⟩] [4])
    (.ret))
    (.skip))))
  (.reg [
    ⟨(some 18), none, .mov (.s 5)⟩,
    ⟨(some 19), none, .bin .add (.s 18) (.c (.t (.int .i64 1)))⟩,
    ⟨(some 5), none, .mov (.s 19)⟩] [2, 3, 5]))

def M_spec_EqualPlans : MFun := ⟨2, 31, [.tmp 4],
  .seq (.reg [
    ⟨(some 2), none, .box (.s 0)⟩,
    ⟨(some 3), none, .box (.s 1)⟩,
    ⟨(some 4), none, .mov (.c (.t (.bool false)))⟩] [2, 3])
  (.seq (.seq (.reg [
    ⟨(some 6), none, .faddr 0 (.s 2)⟩,
    ⟨(some 7), none, .load none (.s 6)⟩,
    ⟨(some 8), none, .len false (.s 7)⟩,
    ⟨(some 9), none, .faddr 0 (.s 3)⟩,
    ⟨(some 10), none, .load none (.s 9)⟩,
    ⟨(some 11), none, .len false (.s 10)⟩,
    ⟨(some 12), none, .bin .neq (.s 8) (.s 11)⟩] [2, 3, 12])
  (.cond (.s 12)
    (.seq (.reg [
      ⟨(some 4), none, .mov (.c (.t (.bool false)))⟩] [4])
    (.ret))
    (.skip)))
  (.seq (.seq (.reg [
    ⟨(some 5), none, .mov (.c (.t (.int .i64 0)))⟩] [2, 3, 5])
  (.block 0 (.loop [2, 3, 5] B_spec_EqualPlans_0)))
  (.seq (.reg [
    ⟨(some 4), none, .mov (.c (.t (.bool true)))⟩] [4])
  (.ret))))⟩
theorem t_spec_EqualPlans : tbl 52 = some M_spec_EqualPlans := tblOf_eq Try.func52 (by kernel_rfl) (by kernel_rfl)

/-- loop.example/g01921/spec.EqualBoxes -/
def M_spec_EqualBoxes : MFun := ⟨2, 19, [.tmp 4],
  .seq (.reg [
    ⟨(some 2), none, .box (.s 0)⟩,
    ⟨(some 3), none, .box (.s 1)⟩,
    ⟨(some 4), none, .mov (.c (.t (.bool false)))⟩] [2, 3])
  (.seq (.reg [
    ⟨(some 5), none, .faddr 0 (.s 2)⟩,
    ⟨(some 6), none, .load none (.s 5)⟩,
    ⟨(some 7), none, .faddr 0 (.s 3)⟩,
    ⟨(some 8), none, .load none (.s 7)⟩,
    ⟨(some 9), none, .call 76 [(.s 6), (.s 8)]⟩,
    ⟨(some 10), none, .bin .eql (.s 9) (.c (.t (.int .i64 0)))⟩,
    ⟨(some 11), none, .mov (.s 10)⟩,
    ⟨(some 12), (some (11, true)), .faddr 1 (.s 2)⟩,
    ⟨(some 13), (some (11, true)), .load none (.s 12)⟩,
    ⟨(some 14), (some (11, true)), .faddr 1 (.s 3)⟩,
    ⟨(some 15), (some (11, true)), .load none (.s 14)⟩,
    ⟨(some 16), (some (11, true)), .call 76 [(.s 13), (.s 15)]⟩,
    ⟨(some 17), (some (11, true)), .bin .eql (.s 16) (.c (.t (.int .i64 0)))⟩,
    ⟨(some 18), none, .pick (.s 11) (.s 17) (.c (.t (.bool false)))⟩,
    ⟨(some 4), none, .mov (.s 18)⟩] [4])
  (.ret))⟩
theorem t_spec_EqualBoxes : tbl 53 = some M_spec_EqualBoxes := tblOf_eq Try.func53 (by kernel_rfl) (by kernel_rfl)

/-- loop.example/g01921/laws.toPlan -/
def M_laws_toPlan : MFun := ⟨1, 9, [.cell 2 (some 1)],
  .seq (.reg [
    ⟨(some 1), none, .box (.s 0)⟩,
    ⟨(some 2), none, .alloc [(.t .nil)]⟩] [1, 2])
  (.seq (.reg [
    ⟨(some 3), none, .alloc [(.t .nil)]⟩] [1, 2, 3])
  (.seq (.reg [
    ⟨(some 4), none, .faddr 0 (.s 1)⟩,
    ⟨(some 5), none, .load none (.s 4)⟩,
    ⟨(some 6), none, .call 84 [(.s 5)]⟩,
    ⟨(some 7), none, .faddr 0 (.s 3)⟩,
    ⟨none, none, .store 1 (.s 7) (.s 6)⟩] [2, 3])
  (.seq (.reg [
    ⟨(some 8), none, .load (some 1) (.s 3)⟩,
    ⟨none, none, .store 1 (.s 2) (.s 8)⟩] [2])
  (.ret))))⟩
theorem t_laws_toPlan : tbl 54 = some M_laws_toPlan := tblOf_eq Try.func54 (by kernel_rfl) (by kernel_rfl)

/-- loop.example/g01921/laws.toBox -/
def M_laws_toBox : MFun := ⟨1, 13, [.cell 2 (some 2)],
  .seq (.reg [
    ⟨(some 1), none, .box (.s 0)⟩,
    ⟨(some 2), none, .alloc [(.t .nil), (.t .nil)]⟩] [1, 2])
  (.seq (.reg [
    ⟨(some 3), none, .alloc [(.t .nil), (.t .nil)]⟩] [1, 2, 3])
  (.seq (.reg [
    ⟨(some 4), none, .faddr 0 (.s 1)⟩,
    ⟨(some 5), none, .load none (.s 4)⟩,
    ⟨(some 6), none, .call 77 [(.s 5)]⟩,
    ⟨(some 7), none, .faddr 0 (.s 3)⟩,
    ⟨none, none, .store 1 (.s 7) (.s 6)⟩] [1, 2, 3])
  (.seq (.reg [
    ⟨(some 8), none, .faddr 1 (.s 1)⟩,
    ⟨(some 9), none, .load none (.s 8)⟩,
    ⟨(some 10), none, .call 77 [(.s 9)]⟩,
    ⟨(some 11), none, .faddr 1 (.s 3)⟩,
    ⟨none, none, .store 1 (.s 11) (.s 10)⟩] [2, 3])
  (.seq (.reg [
    ⟨(some 12), none, .load (some 2) (.s 3)⟩,
    ⟨none, none, .store 2 (.s 2) (.s 12)⟩] [2])
  (.ret)))))⟩
theorem t_laws_toBox : tbl 55 = some M_laws_toBox := tblOf_eq Try.func55 (by kernel_rfl) (by kernel_rfl)

/-- loop.example/g01921/impl.EqualPlans -/
def M_impl_EqualPlans : MFun := ⟨2, 10, [.tmp 4],
  .seq (.reg [
    ⟨(some 2), none, .box (.s 0)⟩,
    ⟨(some 3), none, .box (.s 1)⟩,
    ⟨(some 4), none, .mov (.c (.t (.bool false)))⟩] [2, 3])
  (.seq (.reg [
    ⟨(some 5), none, .faddr 0 (.s 2)⟩,
    ⟨(some 6), none, .load none (.s 5)⟩,
    ⟨(some 7), none, .faddr 0 (.s 3)⟩,
    ⟨(some 8), none, .load none (.s 7)⟩,
    ⟨(some 9), none, .call 85 [(.s 6), (.s 8)]⟩,
    ⟨(some 4), none, .mov (.s 9)⟩] [4])
  (.ret))⟩
theorem t_impl_EqualPlans : tbl 56 = some M_impl_EqualPlans := tblOf_eq Try.func56 (by kernel_rfl) (by kernel_rfl)

/-- loop.example/g01921/impl.EqualBoxes -/
def M_impl_EqualBoxes : MFun := ⟨2, 17, [.tmp 4],
  .seq (.reg [
    ⟨(some 2), none, .box (.s 0)⟩,
    ⟨(some 3), none, .box (.s 1)⟩,
    ⟨(some 4), none, .mov (.c (.t (.bool false)))⟩] [2, 3])
  (.seq (.reg [
    ⟨(some 5), none, .faddr 0 (.s 2)⟩,
    ⟨(some 6), none, .load none (.s 5)⟩,
    ⟨(some 7), none, .faddr 0 (.s 3)⟩,
    ⟨(some 8), none, .load none (.s 7)⟩,
    ⟨(some 9), none, .call 79 [(.s 6), (.s 8)]⟩,
    ⟨(some 10), none, .mov (.s 9)⟩,
    ⟨(some 11), (some (10, true)), .faddr 1 (.s 2)⟩,
    ⟨(some 12), (some (10, true)), .load none (.s 11)⟩,
    ⟨(some 13), (some (10, true)), .faddr 1 (.s 3)⟩,
    ⟨(some 14), (some (10, true)), .load none (.s 13)⟩,
    ⟨(some 15), (some (10, true)), .call 79 [(.s 12), (.s 14)]⟩,
    ⟨(some 16), none, .pick (.s 10) (.s 15) (.c (.t (.bool false)))⟩,
    ⟨(some 4), none, .mov (.s 16)⟩] [4])
  (.ret))⟩
theorem t_impl_EqualBoxes : tbl 57 = some M_impl_EqualBoxes := tblOf_eq Try.func57 (by kernel_rfl) (by kernel_rfl)

/-- loop.example/g01921/laws.eqPlan -/
def M_laws_eqPlan : MFun := ⟨2, 11, [.tmp 4],
  .seq (.reg [
    ⟨(some 2), none, .box (.s 0)⟩,
    ⟨(some 3), none, .box (.s 1)⟩,
    ⟨(some 4), none, .mov (.c (.t (.bool false)))⟩] [2, 3])
  (.seq (.seq (.reg [
    ⟨(some 5), none, .faddr 0 (.s 2)⟩,
    ⟨(some 6), none, .load none (.s 5)⟩,
    ⟨(some 7), none, .faddr 0 (.s 3)⟩,
    ⟨(some 8), none, .load none (.s 7)⟩,
    ⟨(some 9), none, .call 86 [(.s 6), (.s 8)]⟩,
    ⟨(some 10), none, .un .not (.s 9)⟩] [10])
  (.cond (.s 10)
    (.seq (.reg [
      ⟨(some 4), none, .mov (.c (.t (.bool false)))⟩] [4])
    (.ret))
    (.skip)))
  (.seq (.reg [
    ⟨(some 4), none, .mov (.c (.t (.bool true)))⟩] [4])
  (.ret)))⟩
theorem t_laws_eqPlan : tbl 58 = some M_laws_eqPlan := tblOf_eq Try.func58 (by kernel_rfl) (by kernel_rfl)

/-- loop.example/g01921/laws.eqBox -/
def M_laws_eqBox : MFun := ⟨2, 17, [.tmp 4],
  .seq (.reg [
    ⟨(some 2), none, .box (.s 0)⟩,
    ⟨(some 3), none, .box (.s 1)⟩,
    ⟨(some 4), none, .mov (.c (.t (.bool false)))⟩] [2, 3])
  (.seq (.seq (.reg [
    ⟨(some 5), none, .faddr 0 (.s 2)⟩,
    ⟨(some 6), none, .load none (.s 5)⟩,
    ⟨(some 7), none, .faddr 0 (.s 3)⟩,
    ⟨(some 8), none, .load none (.s 7)⟩,
    ⟨(some 9), none, .call 81 [(.s 6), (.s 8)]⟩,
    ⟨(some 10), none, .un .not (.s 9)⟩] [2, 3, 10])
  (.cond (.s 10)
    (.seq (.reg [
      ⟨(some 4), none, .mov (.c (.t (.bool false)))⟩] [4])
    (.ret))
    (.skip)))
  (.seq (.seq (.reg [
    ⟨(some 11), none, .faddr 1 (.s 2)⟩,
    ⟨(some 12), none, .load none (.s 11)⟩,
    ⟨(some 13), none, .faddr 1 (.s 3)⟩,
    ⟨(some 14), none, .load none (.s 13)⟩,
    ⟨(some 15), none, .call 81 [(.s 12), (.s 14)]⟩,
    ⟨(some 16), none, .un .not (.s 15)⟩] [16])
  (.cond (.s 16)
    (.seq (.reg [
      ⟨(some 4), none, .mov (.c (.t (.bool false)))⟩] [4])
    (.ret))
    (.skip)))
  (.seq (.reg [
    ⟨(some 4), none, .mov (.c (.t (.bool true)))⟩] [4])
  (.ret))))⟩
theorem t_laws_eqBox : tbl 59 = some M_laws_eqBox := tblOf_eq Try.func59 (by kernel_rfl) (by kernel_rfl)

/-- loop.example/g01921/laws.szOperator -/
def M_laws_szOperator : MFun := ⟨2, 12, [.tmp 4],
  .seq (.reg [
    ⟨(some 2), none, .box (.s 0)⟩,
    ⟨(some 4), none, .mov (.c (.t (.int .i64 0)))⟩] [1, 2])
  (.seq (.reg [
    ⟨(some 5), none, .faddr 5 (.s 2)⟩,
    ⟨(some 6), none, .load none (.s 5)⟩,
    ⟨(some 7), none, .mov (.s 1)⟩,
    ⟨(some 8), none, .call 87 [(.s 6), (.s 7)]⟩,
    ⟨(some 1), none, .mov (.s 8)⟩] [1])
  (.seq (.seq (.reg [
    ⟨(some 9), none, .mov (.s 1)⟩,
    ⟨(some 10), none, .bin .lss (.s 9) (.c (.t (.int .i64 0)))⟩] [1, 10])
  (.cond (.s 10)
    (.seq (.reg [
      ⟨(some 4), none, .mov (.c (.t (.int .i64 (-1))))⟩] [4])
    (.ret))
    (.skip)))
  (.seq (.reg [
    ⟨(some 11), none, .mov (.s 1)⟩,
    ⟨(some 4), none, .mov (.s 11)⟩] [4])
  (.ret))))⟩
theorem t_laws_szOperator : tbl 60 = some M_laws_szOperator := tblOf_eq Try.func60 (by kernel_rfl) (by kernel_rfl)

/-- loop.example/g01921/spec.OperatorCost -/
def B_spec_OperatorCost_0 : MCode :=
  .seq (.seq (.reg [
    ⟨(some 53), none, .mov (.s 10)⟩,
    ⟨(some 54), none, .faddr 5 (.s 4)⟩,
    ⟨(some 55), none, .load none (.s 54)⟩,
    ⟨(some 56), none, .len false (.s 55)⟩,
    ⟨(some 57), none, .bin .lss (.s 53) (.s 56)⟩] [1, 2, 4, 9, 10, 57])
  (.cond (.s 57)
    (.skip)
    (.exit 0)))
  (.seq (.block 1 (.seq (.reg [
    ⟨(some 60), none, .mov (.s 1)⟩,
    ⟨(some 61), none, .mov (.s 2)⟩,
    ⟨(some 62), none, .bin .add (.s 60) (.s 61)⟩,
    ⟨(some 63), none, .faddr 5 (.s 4)⟩,
    ⟨(some 64), none, .load none (.s 63)⟩,
    ⟨(some 65), none, .mov (.s 10)⟩,
    ⟨(some 66), none, .iaddr 2 (.s 64) (.s 65)⟩,
    ⟨(some 67), none, .faddr 0 (.s 66)⟩,
    ⟨(some 68), none, .load none (.s 67)⟩,
    ⟨(some 69), none, .bin .geq (.s 62) (.s 68)⟩] [1, 2, 4, 9, 10, 69])
  (.cond (.s 69)
    (.reg [
      ⟨(some 70), none, .mov (.s 9)⟩,
      ⟨(some 71), none, .faddr 5 (.s 4)⟩,
      ⟨(some 72), none, .load none (.s 71)⟩,
      ⟨(some 73), none, .mov (.s 10)⟩,
      ⟨(some 74), none, .iaddr 2 (.s 72) (.s 73)⟩,
      ⟨(some 75), none, .faddr 1 (.s 74)⟩,
      ⟨(some 76), none, .load none (.s 75)⟩,
      ⟨(some 77), none, .bin .add (.s 70) (.s 76)⟩,
      ⟨(some 9), none, .mov (.s 77)⟩] [1, 2, 4, 9, 10])
    (.skip))))
  (.reg [
    ⟨(some 58), none, .mov (.s 10)⟩,
    ⟨(some 59), none, .bin .add (.s 58) (.c (.t (.int .i64 1)))⟩,
    ⟨(some 10), none, .mov (.s 59)⟩] [1, 2, 4, 9, 10]))

def M_spec_OperatorCost : MFun := ⟨4, 79, [.tmp 8],
  .seq (.reg [
    ⟨(some 4), none, .box (.s 0)⟩,
    ⟨(some 8), none, .mov (.c (.t (.int .i64 0)))⟩] [1, 2, 3, 4])
  (.seq (.seq (.reg [
    ⟨(some 11), none, .load (some 6) (.s 4)⟩,
    ⟨(some 12), none, .call 88 [(.s 11)]⟩,
    ⟨(some 13), none, .un .not (.s 12)⟩,
    ⟨(some 14), none, .mov (.s 13)⟩,
    ⟨(some 15), (some (14, false)), .mov (.s 1)⟩,
    ⟨(some 16), (some (14, false)), .call 42 [(.s 15), (.c (.t (.int .i64 0))), (.c (.t (.int .i64 4096)))]⟩,
    ⟨(some 17), (some (14, false)), .un .not (.s 16)⟩,
    ⟨(some 18), none, .pick (.s 14) (.c (.t (.bool true))) (.s 17)⟩,
    ⟨(some 19), none, .mov (.s 18)⟩,
    ⟨(some 20), (some (19, false)), .mov (.s 2)⟩,
    ⟨(some 21), (some (19, false)), .call 42 [(.s 20), (.c (.t (.int .i64 0))), (.c (.t (.int .i64 4096)))]⟩,
    ⟨(some 22), (some (19, false)), .un .not (.s 21)⟩,
    ⟨(some 23), none, .pick (.s 19) (.c (.t (.bool true))) (.s 22)⟩,
    ⟨(some 24), none, .mov (.s 23)⟩,
    ⟨(some 25), (some (24, false)), .mov (.s 3)⟩,
    ⟨(some 26), (some (24, false)), .call 42 [(.s 25), (.c (.t (.int .i64 0))), (.c (.t (.int .i64 4096)))]⟩,
    ⟨(some 27), (some (24, false)), .un .not (.s 26)⟩,
    ⟨(some 28), none, .pick (.s 24) (.c (.t (.bool true))) (.s 27)⟩] [1, 2, 3, 4, 28])
  (.cond (.s 28)
    (.seq (.reg [
      ⟨(some 8), none, .mov (.c (.t (.int .i64 0)))⟩] [8])
    (.ret))
    (.skip)))
  (.seq (.reg [
    ⟨(some 29), none, .faddr 0 (.s 4)⟩,
    ⟨(some 30), none, .load none (.s 29)⟩,
    ⟨(some 31), none, .faddr 1 (.s 4)⟩,
    ⟨(some 32), none, .load none (.s 31)⟩,
    ⟨(some 33), none, .mov (.s 1)⟩,
    ⟨(some 34), none, .bin .mul (.s 32) (.s 33)⟩,
    ⟨(some 35), none, .bin .add (.s 30) (.s 34)⟩,
    ⟨(some 36), none, .faddr 2 (.s 4)⟩,
    ⟨(some 37), none, .load none (.s 36)⟩,
    ⟨(some 38), none, .mov (.s 2)⟩,
    ⟨(some 39), none, .bin .mul (.s 37) (.s 38)⟩,
    ⟨(some 40), none, .bin .add (.s 35) (.s 39)⟩,
    ⟨(some 41), none, .faddr 3 (.s 4)⟩,
    ⟨(some 42), none, .load none (.s 41)⟩,
    ⟨(some 43), none, .mov (.s 3)⟩,
    ⟨(some 44), none, .bin .mul (.s 42) (.s 43)⟩,
    ⟨(some 45), none, .bin .add (.s 40) (.s 44)⟩,
    ⟨(some 46), none, .faddr 4 (.s 4)⟩,
    ⟨(some 47), none, .load none (.s 46)⟩,
    ⟨(some 48), none, .mov (.s 1)⟩,
    ⟨(some 49), none, .bin .mul (.s 47) (.s 48)⟩,
    ⟨(some 50), none, .mov (.s 2)⟩,
    ⟨(some 51), none, .bin .mul (.s 49) (.s 50)⟩,
    ⟨(some 52), none, .bin .add (.s 45) (.s 51)⟩,
    ⟨(some 9), none, .mov (.s 52)⟩] [1, 2, 4, 9])
  (.seq (.seq (.reg [
    ⟨(some 10), none, .mov (.c (.t (.int .i64 0)))⟩] [1, 2, 4, 9, 10])
  (.block 0 (.loop [1, 2, 4, 9, 10] B_spec_OperatorCost_0)))
  (.seq (.reg [
    ⟨(some 78), none, .mov (.s 9)⟩,
    ⟨(some 8), none, .mov (.s 78)⟩] [8])
  (.ret)))))⟩
theorem t_spec_OperatorCost : tbl 61 = some M_spec_OperatorCost := tblOf_eq Try.func61 (by kernel_rfl) (by kernel_rfl)

/-- loop.example/g01921/spec.RoundUpSize -/
def M_spec_RoundUpSize : MFun := ⟨1, 6, [.tmp 2],
  .seq (.reg [
    ⟨(some 2), none, .mov (.c (.t (.int .i64 0)))⟩] [0])
  (.seq (.reg [
    ⟨(some 3), none, .mov (.s 0)⟩,
    ⟨(some 4), none, .call 90 [(.s 3)]⟩,
    ⟨(some 5), none, .call 89 [(.s 4)]⟩,
    ⟨(some 2), none, .mov (.s 5)⟩] [2])
  (.ret))⟩
theorem t_spec_RoundUpSize : tbl 62 = some M_spec_RoundUpSize := tblOf_eq Try.func62 (by kernel_rfl) (by kernel_rfl)

/-- loop.example/g01921/laws.toOperator -/
def M_laws_toOperator : MFun := ⟨1, 24, [.cell 2 (some 6)],
  .seq (.reg [
    ⟨(some 1), none, .box (.s 0)⟩,
    ⟨(some 2), none, .alloc [(.t (.int .i64 0)), (.t (.int .i64 0)), (.t (.int .i64 0)), (.t (.int .i64 0)), (.t (.int .i64 0)), (.t .nil)]⟩] [1, 2])
  (.seq (.reg [
    ⟨(some 3), none, .alloc [(.t (.int .i64 0)), (.t (.int .i64 0)), (.t (.int .i64 0)), (.t (.int .i64 0)), (.t (.int .i64 0)), (.t .nil)]⟩] [1, 2, 3])
  (.seq (.reg [
    ⟨(some 4), none, .faddr 0 (.s 1)⟩,
    ⟨(some 5), none, .load none (.s 4)⟩,
    ⟨(some 6), none, .faddr 0 (.s 3)⟩,
    ⟨none, none, .store 1 (.s 6) (.s 5)⟩] [1, 2, 3])
  (.seq (.reg [
    ⟨(some 7), none, .faddr 1 (.s 1)⟩,
    ⟨(some 8), none, .load none (.s 7)⟩,
    ⟨(some 9), none, .faddr 1 (.s 3)⟩,
    ⟨none, none, .store 1 (.s 9) (.s 8)⟩] [1, 2, 3])
  (.seq (.reg [
    ⟨(some 10), none, .faddr 2 (.s 1)⟩,
    ⟨(some 11), none, .load none (.s 10)⟩,
    ⟨(some 12), none, .faddr 2 (.s 3)⟩,
    ⟨none, none, .store 1 (.s 12) (.s 11)⟩] [1, 2, 3])
  (.seq (.reg [
    ⟨(some 13), none, .faddr 3 (.s 1)⟩,
    ⟨(some 14), none, .load none (.s 13)⟩,
    ⟨(some 15), none, .faddr 3 (.s 3)⟩,
    ⟨none, none, .store 1 (.s 15) (.s 14)⟩] [1, 2, 3])
  (.seq (.reg [
    ⟨(some 16), none, .faddr 4 (.s 1)⟩,
    ⟨(some 17), none, .load none (.s 16)⟩,
    ⟨(some 18), none, .faddr 4 (.s 3)⟩,
    ⟨none, none, .store 1 (.s 18) (.s 17)⟩] [1, 2, 3])
  (.seq (.reg [
    ⟨(some 19), none, .faddr 5 (.s 1)⟩,
    ⟨(some 20), none, .load none (.s 19)⟩,
    ⟨(some 21), none, .call 91 [(.s 20)]⟩,
    ⟨(some 22), none, .faddr 5 (.s 3)⟩,
    ⟨none, none, .store 1 (.s 22) (.s 21)⟩] [2, 3])
  (.seq (.reg [
    ⟨(some 23), none, .load (some 6) (.s 3)⟩,
    ⟨none, none, .store 6 (.s 2) (.s 23)⟩] [2])
  (.ret)))))))))⟩
theorem t_laws_toOperator : tbl 63 = some M_laws_toOperator := tblOf_eq Try.func63 (by kernel_rfl) (by kernel_rfl)

/-- loop.example/g01921/impl.RoundUpSize -/
def M_impl_RoundUpSize : MFun := ⟨1, 6, [.tmp 2],
  .seq (.reg [
    ⟨(some 2), none, .mov (.c (.t (.int .i64 0)))⟩] [0])
  (.seq (.reg [
    ⟨(some 3), none, .mov (.s 0)⟩,
    ⟨(some 4), none, .call 93 [(.s 3)]⟩,
    ⟨(some 5), none, .call 92 [(.s 4)]⟩,
    ⟨(some 2), none, .mov (.s 5)⟩] [2])
  (.ret))⟩
theorem t_impl_RoundUpSize : tbl 64 = some M_impl_RoundUpSize := tblOf_eq Try.func64 (by kernel_rfl) (by kernel_rfl)

/-- loop.example/g01921/impl.OperatorCost -/
def M_impl_OperatorCost : MFun := ⟨4, 32, [.tmp 8],
  .seq (.reg [
    ⟨(some 4), none, .box (.s 0)⟩,
    ⟨(some 8), none, .mov (.c (.t (.int .i64 0)))⟩] [1, 2, 3, 4])
  (.seq (.seq (.reg [
    ⟨(some 9), none, .load (some 6) (.s 4)⟩,
    ⟨(some 10), none, .call 94 [(.s 9)]⟩,
    ⟨(some 11), none, .un .not (.s 10)⟩,
    ⟨(some 12), none, .mov (.s 11)⟩,
    ⟨(some 13), (some (12, false)), .mov (.s 1)⟩,
    ⟨(some 14), (some (12, false)), .call 43 [(.s 13), (.c (.t (.int .i64 0))), (.c (.t (.int .i64 4096)))]⟩,
    ⟨(some 15), (some (12, false)), .un .not (.s 14)⟩,
    ⟨(some 16), none, .pick (.s 12) (.c (.t (.bool true))) (.s 15)⟩,
    ⟨(some 17), none, .mov (.s 16)⟩,
    ⟨(some 18), (some (17, false)), .mov (.s 2)⟩,
    ⟨(some 19), (some (17, false)), .call 43 [(.s 18), (.c (.t (.int .i64 0))), (.c (.t (.int .i64 4096)))]⟩,
    ⟨(some 20), (some (17, false)), .un .not (.s 19)⟩,
    ⟨(some 21), none, .pick (.s 17) (.c (.t (.bool true))) (.s 20)⟩,
    ⟨(some 22), none, .mov (.s 21)⟩,
    ⟨(some 23), (some (22, false)), .mov (.s 3)⟩,
    ⟨(some 24), (some (22, false)), .call 43 [(.s 23), (.c (.t (.int .i64 0))), (.c (.t (.int .i64 4096)))]⟩,
    ⟨(some 25), (some (22, false)), .un .not (.s 24)⟩,
    ⟨(some 26), none, .pick (.s 22) (.c (.t (.bool true))) (.s 25)⟩] [1, 2, 3, 4, 26])
  (.cond (.s 26)
    (.seq (.reg [
      ⟨(some 8), none, .mov (.c (.t (.int .i64 0)))⟩] [8])
    (.ret))
    (.skip)))
  (.seq (.reg [
    ⟨(some 27), none, .load (some 6) (.s 4)⟩,
    ⟨(some 28), none, .mov (.s 1)⟩,
    ⟨(some 29), none, .mov (.s 2)⟩,
    ⟨(some 30), none, .mov (.s 3)⟩,
    ⟨(some 31), none, .call 95 [(.s 27), (.s 28), (.s 29), (.s 30)]⟩,
    ⟨(some 8), none, .mov (.s 31)⟩] [8])
  (.ret)))⟩
theorem t_impl_OperatorCost : tbl 65 = some M_impl_OperatorCost := tblOf_eq Try.func65 (by kernel_rfl) (by kernel_rfl)

/-- loop.example/g01921/laws.eqOperator -/
def M_laws_eqOperator : MFun := ⟨2, 36, [.tmp 4],
  .seq (.reg [
    ⟨(some 2), none, .box (.s 0)⟩,
    ⟨(some 3), none, .box (.s 1)⟩,
    ⟨(some 4), none, .mov (.c (.t (.bool false)))⟩] [2, 3])
  (.seq (.seq (.reg [
    ⟨(some 5), none, .faddr 0 (.s 2)⟩,
    ⟨(some 6), none, .load none (.s 5)⟩,
    ⟨(some 7), none, .faddr 0 (.s 3)⟩,
    ⟨(some 8), none, .load none (.s 7)⟩,
    ⟨(some 9), none, .bin .neq (.s 6) (.s 8)⟩] [2, 3, 9])
  (.cond (.s 9)
    (.seq (.reg [
      ⟨(some 4), none, .mov (.c (.t (.bool false)))⟩] [4])
    (.ret))
    (.skip)))
  (.seq (.seq (.reg [
    ⟨(some 10), none, .faddr 1 (.s 2)⟩,
    ⟨(some 11), none, .load none (.s 10)⟩,
    ⟨(some 12), none, .faddr 1 (.s 3)⟩,
    ⟨(some 13), none, .load none (.s 12)⟩,
    ⟨(some 14), none, .bin .neq (.s 11) (.s 13)⟩] [2, 3, 14])
  (.cond (.s 14)
    (.seq (.reg [
      ⟨(some 4), none, .mov (.c (.t (.bool false)))⟩] [4])
    (.ret))
    (.skip)))
  (.seq (.seq (.reg [
    ⟨(some 15), none, .faddr 2 (.s 2)⟩,
    ⟨(some 16), none, .load none (.s 15)⟩,
    ⟨(some 17), none, .faddr 2 (.s 3)⟩,
    ⟨(some 18), none, .load none (.s 17)⟩,
    ⟨(some 19), none, .bin .neq (.s 16) (.s 18)⟩] [2, 3, 19])
  (.cond (.s 19)
    (.seq (.reg [
      ⟨(some 4), none, .mov (.c (.t (.bool false)))⟩] [4])
    (.ret))
    (.skip)))
  (.seq (.seq (.reg [
    ⟨(some 20), none, .faddr 3 (.s 2)⟩,
    ⟨(some 21), none, .load none (.s 20)⟩,
    ⟨(some 22), none, .faddr 3 (.s 3)⟩,
    ⟨(some 23), none, .load none (.s 22)⟩,
    ⟨(some 24), none, .bin .neq (.s 21) (.s 23)⟩] [2, 3, 24])
  (.cond (.s 24)
    (.seq (.reg [
      ⟨(some 4), none, .mov (.c (.t (.bool false)))⟩] [4])
    (.ret))
    (.skip)))
  (.seq (.seq (.reg [
    ⟨(some 25), none, .faddr 4 (.s 2)⟩,
    ⟨(some 26), none, .load none (.s 25)⟩,
    ⟨(some 27), none, .faddr 4 (.s 3)⟩,
    ⟨(some 28), none, .load none (.s 27)⟩,
    ⟨(some 29), none, .bin .neq (.s 26) (.s 28)⟩] [2, 3, 29])
  (.cond (.s 29)
    (.seq (.reg [
      ⟨(some 4), none, .mov (.c (.t (.bool false)))⟩] [4])
    (.ret))
    (.skip)))
  (.seq (.seq (.reg [
    ⟨(some 30), none, .faddr 5 (.s 2)⟩,
    ⟨(some 31), none, .load none (.s 30)⟩,
    ⟨(some 32), none, .faddr 5 (.s 3)⟩,
    ⟨(some 33), none, .load none (.s 32)⟩,
    ⟨(some 34), none, .call 96 [(.s 31), (.s 33)]⟩,
    ⟨(some 35), none, .un .not (.s 34)⟩] [35])
  (.cond (.s 35)
    (.seq (.reg [
      ⟨(some 4), none, .mov (.c (.t (.bool false)))⟩] [4])
    (.ret))
    (.skip)))
  (.seq (.reg [
    ⟨(some 4), none, .mov (.c (.t (.bool true)))⟩] [4])
  (.ret))))))))⟩
theorem t_laws_eqOperator : tbl 66 = some M_laws_eqOperator := tblOf_eq Try.func66 (by kernel_rfl) (by kernel_rfl)

/-- loop.example/g01921/laws.szCacheEntryS -/
def B_laws_szCacheEntryS_0 : MCode :=
  .seq (.seq (.reg [
    ⟨(some 12), none, .mov (.s 5)⟩,
    ⟨(some 13), none, .mov (.s 0)⟩,
    ⟨(some 14), none, .len false (.s 13)⟩,
    ⟨(some 15), none, .bin .lss (.s 12) (.s 14)⟩] [0, 1, 5, 15])
  (.cond (.s 15)
    (.skip)
    (.exit 0)))
  (.seq (.block 1 (.seq (.reg [
    ⟨(some 18), none, .mov (.s 0)⟩,
    ⟨(some 19), none, .mov (.s 5)⟩,
    ⟨(some 20), none, .iaddr 8 (.s 18) (.s 19)⟩,
    ⟨(some 21), none, .load (some 8) (.s 20)⟩,
    ⟨(some 22), none, .mov (.s 1)⟩,
    ⟨(some 23), none, .call 97 [(.s 21), (.s 22)]⟩,
    ⟨(some 1), none, .mov (.s 23)⟩] [0, 1, 5])
  (.seq (.reg [
    ⟨(some 24), none, .mov (.s 1)⟩,
    ⟨(some 25), none, .bin .lss (.s 24) (.c (.t (.int .i64 0)))⟩] [0, 1, 5, 25])
  (.cond (.s 25)
    (.seq (.reg [
      ⟨(some 4), none, .mov (.c (.t (.int .i64 (-1))))⟩] [4])
    (.ret))
    (.skip)))))
  (.reg [
    ⟨(some 16), none, .mov (.s 5)⟩,
    ⟨(some 17), none, .bin .add (.s 16) (.c (.t (.int .i64 1)))⟩,
    ⟨(some 5), none, .mov (.s 17)⟩] [0, 1, 5]))

def M_laws_szCacheEntryS : MFun := ⟨2, 27, [.tmp 4],
  .seq (.reg [
    ⟨(some 4), none, .mov (.c (.t (.int .i64 0)))⟩] [0, 1])
  (.seq (.reg [
    ⟨(some 6), none, .mov (.s 1)⟩,
    ⟨(some 7), none, .mov (.s 0)⟩,
    ⟨(some 8), none, .len false (.s 7)⟩,
    ⟨(some 9), none, .bin .sub (.s 6) (.s 8)⟩,
    ⟨(some 1), none, .mov (.s 9)⟩] [0, 1])
  (.seq (.seq (.reg [
    ⟨(some 10), none, .mov (.s 1)⟩,
    ⟨(some 11), none, .bin .lss (.s 10) (.c (.t (.int .i64 0)))⟩] [0, 1, 11])
  (.cond (.s 11)
    (.seq (.reg [
      ⟨(some 4), none, .mov (.c (.t (.int .i64 (-1))))⟩] [4])
    (.ret))
    (.skip)))
  (.seq (.seq (.reg [
    ⟨(some 5), none, .mov (.c (.t (.int .i64 0)))⟩] [0, 1, 5])
  (.block 0 (.loop [0, 1, 5] B_laws_szCacheEntryS_0)))
  (.seq (.reg [
    ⟨(some 26), none, .mov (.s 1)⟩,
    ⟨(some 4), none, .mov (.s 26)⟩] [4])
  (.ret)))))⟩
theorem t_laws_szCacheEntryS : tbl 67 = some M_laws_szCacheEntryS := tblOf_eq Try.func67 (by kernel_rfl) (by kernel_rfl)

/-- loop.example/g01921/laws.toCacheEntryS -/
def B_laws_toCacheEntryS_0 : MCode :=
  .seq (.seq (.reg [
    ⟨(some 8), none, .mov (.s 4)⟩,
    ⟨(some 9), none, .mov (.s 0)⟩,
    ⟨(some 10), none, .len false (.s 9)⟩,
    ⟨(some 11), none, .bin .lss (.s 8) (.s 10)⟩] [0, 3, 4, 11])
  (.cond (.s 11)
    (.skip)
    (.exit 0)))
  (.seq (.block 1 (.reg [
    ⟨(some 14), none, .mov (.s 3)⟩,
    ⟨(some 15), none, .mov (.s 4)⟩,
    ⟨(some 16), none, .mov (.s 0)⟩,
    ⟨(some 17), none, .mov (.s 4)⟩,
    ⟨(some 18), none, .iaddr 8 (.s 16) (.s 17)⟩,
    ⟨(some 19), none, .load (some 8) (.s 18)⟩,
    ⟨(some 20), none, .call 98 [(.s 19)]⟩,
    ⟨(some 21), none, .iaddr 8 (.s 14) (.s 15)⟩,
    ⟨none, none, .store 8 (.s 21) (.s 20)⟩] [0, 3, 4]))
  (.reg [
    ⟨(some 12), none, .mov (.s 4)⟩,
    ⟨(some 13), none, .bin .add (.s 12) (.c (.t (.int .i64 1)))⟩,
    ⟨(some 4), none, .mov (.s 13)⟩] [0, 3, 4]))

def M_laws_toCacheEntryS : MFun := ⟨1, 23, [.tmp 2],
  .seq (.reg [
    ⟨(some 2), none, .mov (.c (.t .nil))⟩] [0])
  (.seq (.reg [
    ⟨(some 5), none, .mov (.s 0)⟩,
    ⟨(some 6), none, .len false (.s 5)⟩,
    ⟨(some 7), none, .mkslice 116 8 128 [(.int .i64 0), .nil, .nil, .nil, .nil, (.int .i64 0), (.int .i64 0), (.int .i64 0)] (.s 6) (.s 6)⟩,
    ⟨(some 3), none, .mov (.s 7)⟩] [0, 3])
  (.seq (.seq (.reg [
    ⟨(some 4), none, .mov (.c (.t (.int .i64 0)))⟩] [0, 3, 4])
  (.block 0 (.loop [0, 3, 4] B_laws_toCacheEntryS_0)))
  (.seq (.reg [
    ⟨(some 22), none, .mov (.s 3)⟩,
    ⟨(some 2), none, .mov (.s 22)⟩] [2])
  (.ret))))⟩
theorem t_laws_toCacheEntryS : tbl 68 = some M_laws_toCacheEntryS := tblOf_eq Try.func68 (by kernel_rfl) (by kernel_rfl)

/-- loop.example/g01921/laws.eqCacheEntryS -/
def B_laws_eqCacheEntryS_0 : MCode :=
  .seq (.seq (.reg [
    ⟨(some 11), none, .mov (.s 5)⟩,
    ⟨(some 12), none, .mov (.s 0)⟩,
    ⟨(some 13), none, .len false (.s 12)⟩,
    ⟨(some 14), none, .bin .lss (.s 11) (.s 13)⟩] [0, 1, 5, 14])
  (.cond (.s 14)
    (.skip)
    (.exit 0)))
  (.seq (.block 1 (.seq (.drw [
    ⟨(some 17), none, .mov (.s 0)⟩,
    ⟨(some 18), none, .mov (.s 5)⟩,
    ⟨(some 19), none, .iaddr 8 (.s 17) (.s 18)⟩,
    ⟨(some 20), none, .load (some 8) (.s 19)⟩,
    ⟨(some 21), none, .mov (.s 1)⟩,
    ⟨(some 22), none, .mov (.s 5)⟩,
    ⟨(some 23), none, .iaddr 8 (.s 21) (.s 22)⟩,
    ⟨(some 24), none, .load (some 8) (.s 23)⟩,
    ⟨(some 25), none, .call 99 [(.s 20), (.s 24)]⟩,
    ⟨(some 26), none, .un .not (.s 25)⟩] [[], [], [0, 1], [2], [], [], [4, 5], [6], [3, 7], [8]] [0, 1, 5, 26])
  (.cond (.s 26)
    (.seq (.reg [
      ⟨(some 4), none, .mov (.c (.t (.bool false)))⟩] [4])
    (.ret))
    (.skip))))
  (.reg [
    ⟨(some 15), none, .mov (.s 5)⟩,
    ⟨(some 16), none, .bin .add (.s 15) (.c (.t (.int .i64 1)))⟩,
    ⟨(some 5), none, .mov (.s 16)⟩] [0, 1, 5]))

def M_laws_eqCacheEntryS : MFun := ⟨2, 27, [.tmp 4],
  .seq (.reg [
    ⟨(some 4), none, .mov (.c (.t (.bool false)))⟩] [0, 1])
  (.seq (.seq (.reg [
    ⟨(some 6), none, .mov (.s 0)⟩,
    ⟨(some 7), none, .len false (.s 6)⟩,
    ⟨(some 8), none, .mov (.s 1)⟩,
    ⟨(some 9), none, .len false (.s 8)⟩,
    ⟨(some 10), none, .bin .neq (.s 7) (.s 9)⟩] [0, 1, 10])
  (.cond (.s 10)
    (.seq (.reg [
      ⟨(some 4), none, .mov (.c (.t (.bool false)))⟩] [4])
    (.ret))
    (.skip)))
  (.seq (.seq (.reg [
    ⟨(some 5), none, .mov (.c (.t (.int .i64 0)))⟩] [0, 1, 5])
  (.block 0 (.loop [0, 1, 5] B_laws_eqCacheEntryS_0)))
  (.seq (.reg [
    ⟨(some 4), none, .mov (.c (.t (.bool true)))⟩] [4])
  (.ret))))⟩
theorem t_laws_eqCacheEntryS : tbl 69 = some M_laws_eqCacheEntryS := tblOf_eq Try.func69 (by kernel_rfl) (by kernel_rfl)

/-- loop.example/g01921/spec.IsAdmitted -/
def M_spec_IsAdmitted : MFun := ⟨1, 14, [.tmp 2],
  .seq (.reg [
    ⟨(some 1), none, .box (.s 0)⟩,
    ⟨(some 2), none, .mov (.c (.t (.bool false)))⟩] [1])
  (.seq (.reg [
    ⟨(some 7), none, .load (some 30) (.s 1)⟩,
    ⟨(some 8), none, .call 100 [(.s 7)]⟩,
    ⟨(some 6), none, .mov (.s 8)⟩,
    ⟨(some 9), none, .ext (.s 6) 0⟩,
    ⟨(some 10), none, .ext (.s 6) 1⟩,
    ⟨(some 11), none, .ext (.s 6) 2⟩,
    ⟨(some 3), none, .mov (.s 9)⟩,
    ⟨(some 4), none, .mov (.s 10)⟩,
    ⟨(some 5), none, .mov (.s 11)⟩] [3])
  (.seq (.reg [
    ⟨(some 12), none, .mov (.s 3)⟩,
    ⟨(some 13), none, .bin .eql (.s 12) (.c (.t (.int .i64 0)))⟩,
    ⟨(some 2), none, .mov (.s 13)⟩] [2])
  (.ret)))⟩
theorem t_spec_IsAdmitted : tbl 70 = some M_spec_IsAdmitted := tblOf_eq Try.func70 (by kernel_rfl) (by kernel_rfl)

/-- loop.example/g01921/spec.l22Op -/
def M_spec_l22Op : MFun := ⟨2, 24, [.cell 4 (some 6)],
  .seq (.reg [
    ⟨(some 2), none, .box (.s 0)⟩,
    ⟨(some 4), none, .alloc [(.t (.int .i64 0)), (.t (.int .i64 0)), (.t (.int .i64 0)), (.t (.int .i64 0)), (.t (.int .i64 0)), (.t .nil)]⟩] [1, 2, 4])
  (.seq (.seq (.reg [
    ⟨(some 5), none, .mov (.s 1)⟩] [2, 4, 5])
  (.block 0 (.seq (.reg [
    ⟨(some 7), none, .bin .eql (.s 5) (.c (.t (.int .i64 1)))⟩,
    ⟨(some 6), none, .mov (.s 7)⟩] [2, 4, 5, 6])
  (.cond (.s 6)
    (.seq (.reg [
      ⟨(some 8), none, .faddr 0 (.s 2)⟩,
      ⟨(some 9), none, .load (some 6) (.s 8)⟩,
      ⟨none, none, .store 6 (.s 4) (.s 9)⟩] [4])
    (.ret))
    (.seq (.reg [
      ⟨(some 11), none, .bin .eql (.s 5) (.c (.t (.int .i64 2)))⟩,
      ⟨(some 10), none, .mov (.s 11)⟩] [2, 4, 5, 10])
    (.cond (.s 10)
      (.seq (.reg [
        ⟨(some 12), none, .faddr 6 (.s 2)⟩,
        ⟨(some 13), none, .load (some 6) (.s 12)⟩,
        ⟨none, none, .store 6 (.s 4) (.s 13)⟩] [4])
      (.ret))
      (.seq (.reg [
        ⟨(some 15), none, .bin .eql (.s 5) (.c (.t (.int .i64 3)))⟩,
        ⟨(some 14), none, .mov (.s 15)⟩] [2, 4, 5, 14])
      (.cond (.s 14)
        (.seq (.reg [
          ⟨(some 16), none, .faddr 12 (.s 2)⟩,
          ⟨(some 17), none, .load (some 6) (.s 16)⟩,
          ⟨none, none, .store 6 (.s 4) (.s 17)⟩] [4])
        (.ret))
        (.seq (.reg [
          ⟨(some 19), none, .bin .eql (.s 5) (.c (.t (.int .i64 4)))⟩,
          ⟨(some 18), none, .mov (.s 19)⟩] [2, 4, 18])
        (.cond (.s 18)
          (.seq (.reg [
            ⟨(some 20), none, .faddr 18 (.s 2)⟩,
            ⟨(some 21), none, .load (some 6) (.s 20)⟩,
            ⟨none, none, .store 6 (.s 4) (.s 21)⟩] [4])
          (.ret))
          (.skip)))))))))))
  (.seq (.reg [
    ⟨(some 22), none, .faddr 24 (.s 2)⟩,
    ⟨(some 23), none, .load (some 6) (.s 22)⟩,
    ⟨none, none, .store 6 (.s 4) (.s 23)⟩] [4])
  (.ret)))⟩
theorem t_spec_l22Op : tbl 71 = some M_spec_l22Op := tblOf_eq Try.func71 (by kernel_rfl) (by kernel_rfl)

/-- loop.example/g01921/impl.IsAdmitted -/
def M_impl_IsAdmitted : MFun := ⟨1, 14, [.tmp 2],
  .seq (.reg [
    ⟨(some 1), none, .box (.s 0)⟩,
    ⟨(some 2), none, .mov (.c (.t (.bool false)))⟩] [1])
  (.seq (.reg [
    ⟨(some 7), none, .load (some 30) (.s 1)⟩,
    ⟨(some 8), none, .call 101 [(.s 7)]⟩,
    ⟨(some 6), none, .mov (.s 8)⟩,
    ⟨(some 9), none, .ext (.s 6) 0⟩,
    ⟨(some 10), none, .ext (.s 6) 1⟩,
    ⟨(some 11), none, .ext (.s 6) 2⟩,
    ⟨(some 3), none, .mov (.s 9)⟩,
    ⟨(some 4), none, .mov (.s 10)⟩,
    ⟨(some 5), none, .mov (.s 11)⟩] [3])
  (.seq (.reg [
    ⟨(some 12), none, .mov (.s 3)⟩,
    ⟨(some 13), none, .bin .eql (.s 12) (.c (.t (.int .i64 0)))⟩,
    ⟨(some 2), none, .mov (.s 13)⟩] [2])
  (.ret)))⟩
theorem t_impl_IsAdmitted : tbl 72 = some M_impl_IsAdmitted := tblOf_eq Try.func72 (by kernel_rfl) (by kernel_rfl)

/-- loop.example/g01921/impl.operators -/
def M_impl_operators : MFun := ⟨1, 19, [.tmp 2],
  .seq (.reg [
    ⟨(some 2), none, .mov (.c (.t .nil))⟩] [0])
  (.seq (.drw [
    ⟨(some 3), none, .mov (.s 0)⟩,
    ⟨(some 4), none, .nilchk (.s 3)⟩,
    ⟨(some 5), none, .faddr 0 (.s 4)⟩,
    ⟨(some 6), none, .mov (.s 0)⟩,
    ⟨(some 7), none, .nilchk (.s 6)⟩,
    ⟨(some 8), none, .faddr 6 (.s 7)⟩,
    ⟨(some 9), none, .mov (.s 0)⟩,
    ⟨(some 10), none, .nilchk (.s 9)⟩,
    ⟨(some 11), none, .faddr 12 (.s 10)⟩,
    ⟨(some 12), none, .mov (.s 0)⟩,
    ⟨(some 13), none, .nilchk (.s 12)⟩,
    ⟨(some 14), none, .faddr 18 (.s 13)⟩,
    ⟨(some 15), none, .mov (.s 0)⟩,
    ⟨(some 16), none, .nilchk (.s 15)⟩,
    ⟨(some 17), none, .faddr 24 (.s 16)⟩,
    ⟨(some 18), none, .bptrs 5 [(0, (.s 5)), (1, (.s 8)), (2, (.s 11)), (3, (.s 14)), (4, (.s 17))]⟩,
    ⟨(some 2), none, .mov (.s 18)⟩] [[], [0], [1], [], [3], [4], [], [6], [7], [], [9], [10], [], [12], [13], [2, 5, 8, 11, 14], [15, 0, 1, 2, 3, 4, 5, 6, 7, 8, 9, 10, 11, 12, 13, 14, 15]] [2])
  (.ret))⟩
theorem t_impl_operators : tbl 73 = some M_impl_operators := tblOf_eq Try.func73 (by kernel_rfl) (by kernel_rfl)

/-- loop.example/g01921/laws.szIntS -/
def M_laws_szIntS : MFun := ⟨2, 12, [.tmp 4],
  .seq (.reg [
    ⟨(some 4), none, .mov (.c (.t (.int .i64 0)))⟩] [0, 1])
  (.seq (.reg [
    ⟨(some 5), none, .mov (.s 1)⟩,
    ⟨(some 6), none, .mov (.s 0)⟩,
    ⟨(some 7), none, .len false (.s 6)⟩,
    ⟨(some 8), none, .bin .sub (.s 5) (.s 7)⟩,
    ⟨(some 1), none, .mov (.s 8)⟩] [1])
  (.seq (.seq (.reg [
    ⟨(some 9), none, .mov (.s 1)⟩,
    ⟨(some 10), none, .bin .lss (.s 9) (.c (.t (.int .i64 0)))⟩] [1, 10])
  (.cond (.s 10)
    (.seq (.reg [
      ⟨(some 4), none, .mov (.c (.t (.int .i64 (-1))))⟩] [4])
    (.ret))
    (.skip)))
  (.seq (.reg [
    ⟨(some 11), none, .mov (.s 1)⟩,
    ⟨(some 4), none, .mov (.s 11)⟩] [4])
  (.ret))))⟩
theorem t_laws_szIntS : tbl 74 = some M_laws_szIntS := tblOf_eq Try.func74 (by kernel_rfl) (by kernel_rfl)

/-- loop.example/g01921/laws.szIntSS -/
def B_laws_szIntSS_0 : MCode :=
  .seq (.seq (.reg [
    ⟨(some 12), none, .mov (.s 5)⟩,
    ⟨(some 13), none, .mov (.s 0)⟩,
    ⟨(some 14), none, .len false (.s 13)⟩,
    ⟨(some 15), none, .bin .lss (.s 12) (.s 14)⟩] [0, 1, 5, 15])
  (.cond (.s 15)
    (.skip)
    (.exit 0)))
  (.seq (.block 1 (.seq (.reg [
    ⟨(some 18), none, .mov (.s 0)⟩,
    ⟨(some 19), none, .mov (.s 5)⟩,
    ⟨(some 20), none, .iaddr 1 (.s 18) (.s 19)⟩,
    ⟨(some 21), none, .load none (.s 20)⟩,
    ⟨(some 22), none, .mov (.s 1)⟩,
    ⟨(some 23), none, .call 74 [(.s 21), (.s 22)]⟩,
    ⟨(some 1), none, .mov (.s 23)⟩] [0, 1, 5])
  (.seq (.reg [
    ⟨(some 24), none, .mov (.s 1)⟩,
    ⟨(some 25), none, .bin .lss (.s 24) (.c (.t (.int .i64 0)))⟩] [0, 1, 5, 25])
  (.cond (.s 25)
    (.seq (.reg [
      ⟨(some 4), none, .mov (.c (.t (.int .i64 (-1))))⟩] [4])
    (.ret))
    (.skip)))))
  (.reg [
    ⟨(some 16), none, .mov (.s 5)⟩,
    ⟨(some 17), none, .bin .add (.s 16) (.c (.t (.int .i64 1)))⟩,
    ⟨(some 5), none, .mov (.s 17)⟩] [0, 1, 5]))

def M_laws_szIntSS : MFun := ⟨2, 27, [.tmp 4],
  .seq (.reg [
    ⟨(some 4), none, .mov (.c (.t (.int .i64 0)))⟩] [0, 1])
  (.seq (.reg [
    ⟨(some 6), none, .mov (.s 1)⟩,
    ⟨(some 7), none, .mov (.s 0)⟩,
    ⟨(some 8), none, .len false (.s 7)⟩,
    ⟨(some 9), none, .bin .sub (.s 6) (.s 8)⟩,
    ⟨(some 1), none, .mov (.s 9)⟩] [0, 1])
  (.seq (.seq (.reg [
    ⟨(some 10), none, .mov (.s 1)⟩,
    ⟨(some 11), none, .bin .lss (.s 10) (.c (.t (.int .i64 0)))⟩] [0, 1, 11])
  (.cond (.s 11)
    (.seq (.reg [
      ⟨(some 4), none, .mov (.c (.t (.int .i64 (-1))))⟩] [4])
    (.ret))
    (.skip)))
  (.seq (.seq (.reg [
    ⟨(some 5), none, .mov (.c (.t (.int .i64 0)))⟩] [0, 1, 5])
  (.block 0 (.loop [0, 1, 5] B_laws_szIntSS_0)))
  (.seq (.reg [
    ⟨(some 26), none, .mov (.s 1)⟩,
    ⟨(some 4), none, .mov (.s 26)⟩] [4])
  (.ret)))))⟩
theorem t_laws_szIntSS : tbl 75 = some M_laws_szIntSS := tblOf_eq Try.func75 (by kernel_rfl) (by kernel_rfl)

/-- loop.example/g01921/spec.CompareRows -/
def B_spec_CompareRows_0 : MCode :=
  .seq (.seq (.reg [
    ⟨(some 6), none, .mov (.s 5)⟩,
    ⟨(some 7), none, .mov (.s 0)⟩,
    ⟨(some 8), none, .len false (.s 7)⟩,
    ⟨(some 9), none, .bin .lss (.s 6) (.s 8)⟩,
    ⟨(some 10), none, .mov (.s 9)⟩,
    ⟨(some 11), (some (10, true)), .mov (.s 5)⟩,
    ⟨(some 12), (some (10, true)), .mov (.s 1)⟩,
    ⟨(some 13), (some (10, true)), .len false (.s 12)⟩,
    ⟨(some 14), (some (10, true)), .bin .lss (.s 11) (.s 13)⟩,
    ⟨(some 15), none, .pick (.s 10) (.s 14) (.c (.t (.bool false)))⟩] [0, 1, 5, 15])
  (.cond (.s 15)
    (.skip)
    (.exit 0)))
  (.seq (.block 1 (.seq (.seq (.drw [
    ⟨(some 18), none, .mov (.s 0)⟩,
    ⟨(some 19), none, .mov (.s 5)⟩,
    ⟨(some 20), none, .iaddr 1 (.s 18) (.s 19)⟩,
    ⟨(some 21), none, .load none (.s 20)⟩,
    ⟨(some 22), none, .mov (.s 1)⟩,
    ⟨(some 23), none, .mov (.s 5)⟩,
    ⟨(some 24), none, .iaddr 1 (.s 22) (.s 23)⟩,
    ⟨(some 25), none, .load none (.s 24)⟩,
    ⟨(some 26), none, .bin .lss (.s 21) (.s 25)⟩] [[], [], [0, 1], [2], [], [], [4, 5], [6], [3, 7]] [0, 1, 5, 26])
  (.cond (.s 26)
    (.seq (.reg [
      ⟨(some 4), none, .mov (.c (.t (.int .i64 (-1))))⟩] [4])
    (.ret))
    (.skip)))
  (.seq (.drw [
    ⟨(some 27), none, .mov (.s 0)⟩,
    ⟨(some 28), none, .mov (.s 5)⟩,
    ⟨(some 29), none, .iaddr 1 (.s 27) (.s 28)⟩,
    ⟨(some 30), none, .load none (.s 29)⟩,
    ⟨(some 31), none, .mov (.s 1)⟩,
    ⟨(some 32), none, .mov (.s 5)⟩,
    ⟨(some 33), none, .iaddr 1 (.s 31) (.s 32)⟩,
    ⟨(some 34), none, .load none (.s 33)⟩,
    ⟨(some 35), none, .bin .gtr (.s 30) (.s 34)⟩] [[], [], [0, 1], [2], [], [], [4, 5], [6], [3, 7]] [0, 1, 5, 35])
  (.cond (.s 35)
    (.seq (.reg [
      ⟨(some 4), none, .mov (.c (.t (.int .i64 1)))⟩] [4])
    (.ret))
    (.skip)))))
  (.reg [
    ⟨(some 16), none, .mov (.s 5)⟩,
    ⟨(some 17), none, .bin .add (.s 16) (.c (.t (.int .i64 1)))⟩,
    ⟨(some 5), none, .mov (.s 17)⟩] [0, 1, 5]))

def M_spec_CompareRows : MFun := ⟨2, 46, [.tmp 4],
  .seq (.reg [
    ⟨(some 4), none, .mov (.c (.t (.int .i64 0)))⟩] [0, 1])
  (.seq (.seq (.reg [
    ⟨(some 5), none, .mov (.c (.t (.int .i64 0)))⟩] [0, 1, 5])
  (.block 0 (.loop [0, 1, 5] B_spec_CompareRows_0)))
  (.seq (.seq (.reg [
    ⟨(some 36), none, .mov (.s 0)⟩,
    ⟨(some 37), none, .len false (.s 36)⟩,
    ⟨(some 38), none, .mov (.s 1)⟩,
    ⟨(some 39), none, .len false (.s 38)⟩,
    ⟨(some 40), none, .bin .lss (.s 37) (.s 39)⟩] [0, 1, 40])
  (.cond (.s 40)
    (.seq (.reg [
      ⟨(some 4), none, .mov (.c (.t (.int .i64 (-1))))⟩] [4])
    (.ret))
    (.skip)))
  (.seq (.seq (.reg [
    ⟨(some 41), none, .mov (.s 0)⟩,
    ⟨(some 42), none, .len false (.s 41)⟩,
    ⟨(some 43), none, .mov (.s 1)⟩,
    ⟨(some 44), none, .len false (.s 43)⟩,
    ⟨(some 45), none, .bin .gtr (.s 42) (.s 44)⟩] [45])
  (.cond (.s 45)
    (.seq (.reg [
      ⟨(some 4), none, .mov (.c (.t (.int .i64 1)))⟩] [4])
    (.ret))
    (.skip)))
  (.seq (.reg [
    ⟨(some 4), none, .mov (.c (.t (.int .i64 0)))⟩] [4])
  (.ret)))))⟩
theorem t_spec_CompareRows : tbl 76 = some M_spec_CompareRows := tblOf_eq Try.func76 (by kernel_rfl) (by kernel_rfl)

/-- loop.example/g01921/laws.toIntS -/
def B_laws_toIntS_0 : MCode :=
  .seq (.seq (.reg [
    ⟨(some 8), none, .mov (.s 4)⟩,
    ⟨(some 9), none, .mov (.s 0)⟩,
    ⟨(some 10), none, .len false (.s 9)⟩,
    ⟨(some 11), none, .bin .lss (.s 8) (.s 10)⟩] [0, 3, 4, 11])
  (.cond (.s 11)
    (.skip)
    (.exit 0)))
  (.seq (.block 1 (.reg [
    ⟨(some 14), none, .mov (.s 3)⟩,
    ⟨(some 15), none, .mov (.s 4)⟩,
    ⟨(some 16), none, .mov (.s 0)⟩,
    ⟨(some 17), none, .mov (.s 4)⟩,
    ⟨(some 18), none, .iaddr 1 (.s 16) (.s 17)⟩,
    ⟨(some 19), none, .load none (.s 18)⟩,
    ⟨(some 20), none, .iaddr 1 (.s 14) (.s 15)⟩,
    ⟨none, none, .store 1 (.s 20) (.s 19)⟩] [0, 3, 4]))
  (.reg [
    ⟨(some 12), none, .mov (.s 4)⟩,
    ⟨(some 13), none, .bin .add (.s 12) (.c (.t (.int .i64 1)))⟩,
    ⟨(some 4), none, .mov (.s 13)⟩] [0, 3, 4]))

def M_laws_toIntS : MFun := ⟨1, 22, [.tmp 2],
  .seq (.reg [
    ⟨(some 2), none, .mov (.c (.t .nil))⟩] [0])
  (.seq (.reg [
    ⟨(some 5), none, .mov (.s 0)⟩,
    ⟨(some 6), none, .len false (.s 5)⟩,
    ⟨(some 7), none, .mkslice 3 1 8 [(.int .i64 0)] (.s 6) (.s 6)⟩,
    ⟨(some 3), none, .mov (.s 7)⟩] [0, 3])
  (.seq (.seq (.reg [
    ⟨(some 4), none, .mov (.c (.t (.int .i64 0)))⟩] [0, 3, 4])
  (.block 0 (.loop [0, 3, 4] B_laws_toIntS_0)))
  (.seq (.reg [
    ⟨(some 21), none, .mov (.s 3)⟩,
    ⟨(some 2), none, .mov (.s 21)⟩] [2])
  (.ret))))⟩
theorem t_laws_toIntS : tbl 77 = some M_laws_toIntS := tblOf_eq Try.func77 (by kernel_rfl) (by kernel_rfl)

/-- loop.example/g01921/laws.toIntSS -/
def B_laws_toIntSS_0 : MCode :=
  .seq (.seq (.reg [
    ⟨(some 8), none, .mov (.s 4)⟩,
    ⟨(some 9), none, .mov (.s 0)⟩,
    ⟨(some 10), none, .len false (.s 9)⟩,
    ⟨(some 11), none, .bin .lss (.s 8) (.s 10)⟩] [0, 3, 4, 11])
  (.cond (.s 11)
    (.skip)
    (.exit 0)))
  (.seq (.block 1 (.reg [
    ⟨(some 14), none, .mov (.s 3)⟩,
    ⟨(some 15), none, .mov (.s 4)⟩,
    ⟨(some 16), none, .mov (.s 0)⟩,
    ⟨(some 17), none, .mov (.s 4)⟩,
    ⟨(some 18), none, .iaddr 1 (.s 16) (.s 17)⟩,
    ⟨(some 19), none, .load none (.s 18)⟩,
    ⟨(some 20), none, .call 77 [(.s 19)]⟩,
    ⟨(some 21), none, .iaddr 1 (.s 14) (.s 15)⟩,
    ⟨none, none, .store 1 (.s 21) (.s 20)⟩] [0, 3, 4]))
  (.reg [
    ⟨(some 12), none, .mov (.s 4)⟩,
    ⟨(some 13), none, .bin .add (.s 12) (.c (.t (.int .i64 1)))⟩,
    ⟨(some 4), none, .mov (.s 13)⟩] [0, 3, 4]))

def M_laws_toIntSS : MFun := ⟨1, 23, [.tmp 2],
  .seq (.reg [
    ⟨(some 2), none, .mov (.c (.t .nil))⟩] [0])
  (.seq (.reg [
    ⟨(some 5), none, .mov (.s 0)⟩,
    ⟨(some 6), none, .len false (.s 5)⟩,
    ⟨(some 7), none, .mkslice 36 1 24 [.nil] (.s 6) (.s 6)⟩,
    ⟨(some 3), none, .mov (.s 7)⟩] [0, 3])
  (.seq (.seq (.reg [
    ⟨(some 4), none, .mov (.c (.t (.int .i64 0)))⟩] [0, 3, 4])
  (.block 0 (.loop [0, 3, 4] B_laws_toIntSS_0)))
  (.seq (.reg [
    ⟨(some 22), none, .mov (.s 3)⟩,
    ⟨(some 2), none, .mov (.s 22)⟩] [2])
  (.ret))))⟩
theorem t_laws_toIntSS : tbl 78 = some M_laws_toIntSS := tblOf_eq Try.func78 (by kernel_rfl) (by kernel_rfl)

/-- slices.Equal[[]int,int] -/
def B_slices_Equal___int_int__0 : MCode :=
  .seq (.reg [
    ⟨(some 14), none, .bin .lss (.s 13) (.s 12)⟩] [0, 1, 12, 13, 14])
  (.seq (.cond (.s 14)
    (.skip)
    (.exit 0))
  (.seq (.block 1 (.seq (.reg [
    ⟨(some 15), none, .mov (.s 13)⟩,
    ⟨(some 5), none, .mov (.s 15)⟩] [0, 1, 5, 12, 13])
  (.seq (.drw [
    ⟨(some 16), none, .mov (.s 0)⟩,
    ⟨(some 17), none, .mov (.s 5)⟩,
    ⟨(some 18), none, .iaddr 1 (.s 16) (.s 17)⟩,
    ⟨(some 19), none, .load none (.s 18)⟩,
    ⟨(some 20), none, .mov (.s 1)⟩,
    ⟨(some 21), none, .mov (.s 5)⟩,
    ⟨(some 22), none, .iaddr 1 (.s 20) (.s 21)⟩,
    ⟨(some 23), none, .load none (.s 22)⟩,
    ⟨(some 24), none, .bin .neq (.s 19) (.s 23)⟩] [[], [], [0, 1], [2], [], [], [4, 5], [6], [3, 7]] [0, 1, 12, 13, 24])
  (.cond (.s 24)
    (.seq (.reg [
      ⟨(some 4), none, .mov (.c (.t (.bool false)))⟩] [4])
    (.ret))
    (.skip)))))
  (.reg [
    ⟨(some 25), none, .bin .add (.s 13) (.c (.t (.int .i64 1)))⟩,
    ⟨(some 13), none, .mov (.s 25)⟩] [0, 1, 12, 13])))

def M_slices_Equal___int_int_ : MFun := ⟨2, 26, [.tmp 4],
  .seq (.reg [
    ⟨(some 4), none, .mov (.c (.t (.bool false)))⟩] [0, 1])
  (.seq (.seq (.reg [
    ⟨(some 6), none, .mov (.s 0)⟩,
    ⟨(some 7), none, .len false (.s 6)⟩,
    ⟨(some 8), none, .mov (.s 1)⟩,
    ⟨(some 9), none, .len false (.s 8)⟩,
    ⟨(some 10), none, .bin .neq (.s 7) (.s 9)⟩] [0, 1, 10])
  (.cond (.s 10)
    (.seq (.reg [
      ⟨(some 4), none, .mov (.c (.t (.bool false)))⟩] [4])
    (.ret))
    (.skip)))
  (.seq (.seq (.reg [
    ⟨(some 11), none, .mov (.s 0)⟩,
    ⟨(some 12), none, .len false (.s 11)⟩,
    ⟨(some 13), none, .mov (.c (.t (.int .i64 0)))⟩] [0, 1, 12, 13])
  (.block 0 (.loop [0, 1, 12, 13] B_slices_Equal___int_int__0)))
  (.seq (.reg [
    ⟨(some 4), none, .mov (.c (.t (.bool true)))⟩] [4])
  (.ret))))⟩
theorem t_slices_Equal___int_int_ : tbl 79 = some M_slices_Equal___int_int_ := tblOf_eq Try.func79 (by kernel_rfl) (by kernel_rfl)

/-- loop.example/g01921/impl.equalRows -/
def M_impl_equalRows : MFun := ⟨2, 8, [.tmp 4],
  .seq (.reg [
    ⟨(some 4), none, .mov (.c (.t (.bool false)))⟩] [0, 1])
  (.seq (.reg [
    ⟨(some 5), none, .mov (.s 0)⟩,
    ⟨(some 6), none, .mov (.s 1)⟩,
    ⟨(some 7), none, .call 102 [(.s 5), (.s 6), (.c (.fn 103 []))]⟩,
    ⟨(some 4), none, .mov (.s 7)⟩] [4])
  (.ret))⟩
theorem t_impl_equalRows : tbl 80 = some M_impl_equalRows := tblOf_eq Try.func80 (by kernel_rfl) (by kernel_rfl)

/-- loop.example/g01921/laws.eqIntS -/
def B_laws_eqIntS_0 : MCode :=
  .seq (.seq (.reg [
    ⟨(some 11), none, .mov (.s 5)⟩,
    ⟨(some 12), none, .mov (.s 0)⟩,
    ⟨(some 13), none, .len false (.s 12)⟩,
    ⟨(some 14), none, .bin .lss (.s 11) (.s 13)⟩] [0, 1, 5, 14])
  (.cond (.s 14)
    (.skip)
    (.exit 0)))
  (.seq (.block 1 (.seq (.drw [
    ⟨(some 17), none, .mov (.s 0)⟩,
    ⟨(some 18), none, .mov (.s 5)⟩,
    ⟨(some 19), none, .iaddr 1 (.s 17) (.s 18)⟩,
    ⟨(some 20), none, .load none (.s 19)⟩,
    ⟨(some 21), none, .mov (.s 1)⟩,
    ⟨(some 22), none, .mov (.s 5)⟩,
    ⟨(some 23), none, .iaddr 1 (.s 21) (.s 22)⟩,
    ⟨(some 24), none, .load none (.s 23)⟩,
    ⟨(some 25), none, .bin .neq (.s 20) (.s 24)⟩] [[], [], [0, 1], [2], [], [], [4, 5], [6], [3, 7]] [0, 1, 5, 25])
  (.cond (.s 25)
    (.seq (.reg [
      ⟨(some 4), none, .mov (.c (.t (.bool false)))⟩] [4])
    (.ret))
    (.skip))))
  (.reg [
    ⟨(some 15), none, .mov (.s 5)⟩,
    ⟨(some 16), none, .bin .add (.s 15) (.c (.t (.int .i64 1)))⟩,
    ⟨(some 5), none, .mov (.s 16)⟩] [0, 1, 5]))

def M_laws_eqIntS : MFun := ⟨2, 26, [.tmp 4],
  .seq (.reg [
    ⟨(some 4), none, .mov (.c (.t (.bool false)))⟩] [0, 1])
  (.seq (.seq (.reg [
    ⟨(some 6), none, .mov (.s 0)⟩,
    ⟨(some 7), none, .len false (.s 6)⟩,
    ⟨(some 8), none, .mov (.s 1)⟩,
    ⟨(some 9), none, .len false (.s 8)⟩,
    ⟨(some 10), none, .bin .neq (.s 7) (.s 9)⟩] [0, 1, 10])
  (.cond (.s 10)
    (.seq (.reg [
      ⟨(some 4), none, .mov (.c (.t (.bool false)))⟩] [4])
    (.ret))
    (.skip)))
  (.seq (.seq (.reg [
    ⟨(some 5), none, .mov (.c (.t (.int .i64 0)))⟩] [0, 1, 5])
  (.block 0 (.loop [0, 1, 5] B_laws_eqIntS_0)))
  (.seq (.reg [
    ⟨(some 4), none, .mov (.c (.t (.bool true)))⟩] [4])
  (.ret))))⟩
theorem t_laws_eqIntS : tbl 81 = some M_laws_eqIntS := tblOf_eq Try.func81 (by kernel_rfl) (by kernel_rfl)

/-- loop.example/g01921/laws.eqIntSS -/
def B_laws_eqIntSS_0 : MCode :=
  .seq (.seq (.reg [
    ⟨(some 11), none, .mov (.s 5)⟩,
    ⟨(some 12), none, .mov (.s 0)⟩,
    ⟨(some 13), none, .len false (.s 12)⟩,
    ⟨(some 14), none, .bin .lss (.s 11) (.s 13)⟩] [0, 1, 5, 14])
  (.cond (.s 14)
    (.skip)
    (.exit 0)))
  (.seq (.block 1 (.seq (.drw [
    ⟨(some 17), none, .mov (.s 0)⟩,
    ⟨(some 18), none, .mov (.s 5)⟩,
    ⟨(some 19), none, .iaddr 1 (.s 17) (.s 18)⟩,
    ⟨(some 20), none, .load none (.s 19)⟩,
    ⟨(some 21), none, .mov (.s 1)⟩,
    ⟨(some 22), none, .mov (.s 5)⟩,
    ⟨(some 23), none, .iaddr 1 (.s 21) (.s 22)⟩,
    ⟨(some 24), none, .load none (.s 23)⟩,
    ⟨(some 25), none, .call 81 [(.s 20), (.s 24)]⟩,
    ⟨(some 26), none, .un .not (.s 25)⟩] [[], [], [0, 1], [2], [], [], [4, 5], [6], [3, 7], [8]] [0, 1, 5, 26])
  (.cond (.s 26)
    (.seq (.reg [
      ⟨(some 4), none, .mov (.c (.t (.bool false)))⟩] [4])
    (.ret))
    (.skip))))
  (.reg [
    ⟨(some 15), none, .mov (.s 5)⟩,
    ⟨(some 16), none, .bin .add (.s 15) (.c (.t (.int .i64 1)))⟩,
    ⟨(some 5), none, .mov (.s 16)⟩] [0, 1, 5]))

def M_laws_eqIntSS : MFun := ⟨2, 27, [.tmp 4],
  .seq (.reg [
    ⟨(some 4), none, .mov (.c (.t (.bool false)))⟩] [0, 1])
  (.seq (.seq (.reg [
    ⟨(some 6), none, .mov (.s 0)⟩,
    ⟨(some 7), none, .len false (.s 6)⟩,
    ⟨(some 8), none, .mov (.s 1)⟩,
    ⟨(some 9), none, .len false (.s 8)⟩,
    ⟨(some 10), none, .bin .neq (.s 7) (.s 9)⟩] [0, 1, 10])
  (.cond (.s 10)
    (.seq (.reg [
      ⟨(some 4), none, .mov (.c (.t (.bool false)))⟩] [4])
    (.ret))
    (.skip)))
  (.seq (.seq (.reg [
    ⟨(some 5), none, .mov (.c (.t (.int .i64 0)))⟩] [0, 1, 5])
  (.block 0 (.loop [0, 1, 5] B_laws_eqIntSS_0)))
  (.seq (.reg [
    ⟨(some 4), none, .mov (.c (.t (.bool true)))⟩] [4])
  (.ret))))⟩
theorem t_laws_eqIntSS : tbl 82 = some M_laws_eqIntSS := tblOf_eq Try.func82 (by kernel_rfl) (by kernel_rfl)

/-- loop.example/g01921/laws.szPlanStepS -/
def M_laws_szPlanStepS : MFun := ⟨2, 12, [.tmp 4],
  .seq (.reg [
    ⟨(some 4), none, .mov (.c (.t (.int .i64 0)))⟩] [0, 1])
  (.seq (.reg [
    ⟨(some 5), none, .mov (.s 1)⟩,
    ⟨(some 6), none, .mov (.s 0)⟩,
    ⟨(some 7), none, .len false (.s 6)⟩,
    ⟨(some 8), none, .bin .sub (.s 5) (.s 7)⟩,
    ⟨(some 1), none, .mov (.s 8)⟩] [1])
  (.seq (.seq (.reg [
    ⟨(some 9), none, .mov (.s 1)⟩,
    ⟨(some 10), none, .bin .lss (.s 9) (.c (.t (.int .i64 0)))⟩] [1, 10])
  (.cond (.s 10)
    (.seq (.reg [
      ⟨(some 4), none, .mov (.c (.t (.int .i64 (-1))))⟩] [4])
    (.ret))
    (.skip)))
  (.seq (.reg [
    ⟨(some 11), none, .mov (.s 1)⟩,
    ⟨(some 4), none, .mov (.s 11)⟩] [4])
  (.ret))))⟩
theorem t_laws_szPlanStepS : tbl 83 = some M_laws_szPlanStepS := tblOf_eq Try.func83 (by kernel_rfl) (by kernel_rfl)

/-- loop.example/g01921/laws.toPlanStepS -/
def B_laws_toPlanStepS_0 : MCode :=
  .seq (.seq (.reg [
    ⟨(some 8), none, .mov (.s 4)⟩,
    ⟨(some 9), none, .mov (.s 0)⟩,
    ⟨(some 10), none, .len false (.s 9)⟩,
    ⟨(some 11), none, .bin .lss (.s 8) (.s 10)⟩] [0, 3, 4, 11])
  (.cond (.s 11)
    (.skip)
    (.exit 0)))
  (.seq (.block 1 (.reg [
    ⟨(some 14), none, .mov (.s 3)⟩,
    ⟨(some 15), none, .mov (.s 4)⟩,
    ⟨(some 16), none, .mov (.s 0)⟩,
    ⟨(some 17), none, .mov (.s 4)⟩,
    ⟨(some 18), none, .iaddr 3 (.s 16) (.s 17)⟩,
    ⟨(some 19), none, .load (some 3) (.s 18)⟩,
    ⟨(some 20), none, .call 104 [(.s 19)]⟩,
    ⟨(some 21), none, .iaddr 3 (.s 14) (.s 15)⟩,
    ⟨none, none, .store 3 (.s 21) (.s 20)⟩] [0, 3, 4]))
  (.reg [
    ⟨(some 12), none, .mov (.s 4)⟩,
    ⟨(some 13), none, .bin .add (.s 12) (.c (.t (.int .i64 1)))⟩,
    ⟨(some 4), none, .mov (.s 13)⟩] [0, 3, 4]))

def M_laws_toPlanStepS : MFun := ⟨1, 23, [.tmp 2],
  .seq (.reg [
    ⟨(some 2), none, .mov (.c (.t .nil))⟩] [0])
  (.seq (.reg [
    ⟨(some 5), none, .mov (.s 0)⟩,
    ⟨(some 6), none, .len false (.s 5)⟩,
    ⟨(some 7), none, .mkslice 134 3 24 [(.int .i64 0), (.int .i64 0), (.int .i64 0)] (.s 6) (.s 6)⟩,
    ⟨(some 3), none, .mov (.s 7)⟩] [0, 3])
  (.seq (.seq (.reg [
    ⟨(some 4), none, .mov (.c (.t (.int .i64 0)))⟩] [0, 3, 4])
  (.block 0 (.loop [0, 3, 4] B_laws_toPlanStepS_0)))
  (.seq (.reg [
    ⟨(some 22), none, .mov (.s 3)⟩,
    ⟨(some 2), none, .mov (.s 22)⟩] [2])
  (.ret))))⟩
theorem t_laws_toPlanStepS : tbl 84 = some M_laws_toPlanStepS := tblOf_eq Try.func84 (by kernel_rfl) (by kernel_rfl)

/-- slices.Equal[[]loop.example/g01921/impl.PlanStep,loop.example/g01921/impl.PlanStep] -/
def B_slices_Equal___impl_PlanStep_impl_PlanStep__0 : MCode :=
  .seq (.reg [
    ⟨(some 14), none, .bin .lss (.s 13) (.s 12)⟩] [0, 1, 12, 13, 14])
  (.seq (.cond (.s 14)
    (.skip)
    (.exit 0))
  (.seq (.block 1 (.seq (.reg [
    ⟨(some 15), none, .mov (.s 13)⟩,
    ⟨(some 5), none, .mov (.s 15)⟩] [0, 1, 5, 12, 13])
  (.seq (.drw [
    ⟨(some 16), none, .mov (.s 0)⟩,
    ⟨(some 17), none, .mov (.s 5)⟩,
    ⟨(some 18), none, .iaddr 3 (.s 16) (.s 17)⟩,
    ⟨(some 19), none, .load (some 3) (.s 18)⟩,
    ⟨(some 20), none, .mov (.s 1)⟩,
    ⟨(some 21), none, .mov (.s 5)⟩,
    ⟨(some 22), none, .iaddr 3 (.s 20) (.s 21)⟩,
    ⟨(some 23), none, .load (some 3) (.s 22)⟩,
    ⟨(some 24), none, .aeq true [1, 1, 1] (.s 19) (.s 23)⟩] [[], [], [0, 1], [2], [], [], [4, 5], [6], [3, 7]] [0, 1, 12, 13, 24])
  (.cond (.s 24)
    (.seq (.reg [
      ⟨(some 4), none, .mov (.c (.t (.bool false)))⟩] [4])
    (.ret))
    (.skip)))))
  (.reg [
    ⟨(some 25), none, .bin .add (.s 13) (.c (.t (.int .i64 1)))⟩,
    ⟨(some 13), none, .mov (.s 25)⟩] [0, 1, 12, 13])))

def M_slices_Equal___impl_PlanStep_impl_PlanStep_ : MFun := ⟨2, 26, [.tmp 4],
  .seq (.reg [
    ⟨(some 4), none, .mov (.c (.t (.bool false)))⟩] [0, 1])
  (.seq (.seq (.reg [
    ⟨(some 6), none, .mov (.s 0)⟩,
    ⟨(some 7), none, .len false (.s 6)⟩,
    ⟨(some 8), none, .mov (.s 1)⟩,
    ⟨(some 9), none, .len false (.s 8)⟩,
    ⟨(some 10), none, .bin .neq (.s 7) (.s 9)⟩] [0, 1, 10])
  (.cond (.s 10)
    (.seq (.reg [
      ⟨(some 4), none, .mov (.c (.t (.bool false)))⟩] [4])
    (.ret))
    (.skip)))
  (.seq (.seq (.reg [
    ⟨(some 11), none, .mov (.s 0)⟩,
    ⟨(some 12), none, .len false (.s 11)⟩,
    ⟨(some 13), none, .mov (.c (.t (.int .i64 0)))⟩] [0, 1, 12, 13])
  (.block 0 (.loop [0, 1, 12, 13] B_slices_Equal___impl_PlanStep_impl_PlanStep__0)))
  (.seq (.reg [
    ⟨(some 4), none, .mov (.c (.t (.bool true)))⟩] [4])
  (.ret))))⟩
theorem t_slices_Equal___impl_PlanStep_impl_PlanStep_ : tbl 85 = some M_slices_Equal___impl_PlanStep_impl_PlanStep_ := tblOf_eq Try.func85 (by kernel_rfl) (by kernel_rfl)

/-- loop.example/g01921/laws.eqPlanStepS -/
def B_laws_eqPlanStepS_0 : MCode :=
  .seq (.seq (.reg [
    ⟨(some 11), none, .mov (.s 5)⟩,
    ⟨(some 12), none, .mov (.s 0)⟩,
    ⟨(some 13), none, .len false (.s 12)⟩,
    ⟨(some 14), none, .bin .lss (.s 11) (.s 13)⟩] [0, 1, 5, 14])
  (.cond (.s 14)
    (.skip)
    (.exit 0)))
  (.seq (.block 1 (.seq (.drw [
    ⟨(some 17), none, .mov (.s 0)⟩,
    ⟨(some 18), none, .mov (.s 5)⟩,
    ⟨(some 19), none, .iaddr 3 (.s 17) (.s 18)⟩,
    ⟨(some 20), none, .load (some 3) (.s 19)⟩,
    ⟨(some 21), none, .mov (.s 1)⟩,
    ⟨(some 22), none, .mov (.s 5)⟩,
    ⟨(some 23), none, .iaddr 3 (.s 21) (.s 22)⟩,
    ⟨(some 24), none, .load (some 3) (.s 23)⟩,
    ⟨(some 25), none, .call 105 [(.s 20), (.s 24)]⟩,
    ⟨(some 26), none, .un .not (.s 25)⟩] [[], [], [0, 1], [2], [], [], [4, 5], [6], [3, 7], [8]] [0, 1, 5, 26])
  (.cond (.s 26)
    (.seq (.reg [
      ⟨(some 4), none, .mov (.c (.t (.bool false)))⟩] [4])
    (.ret))
    (.skip))))
  (.reg [
    ⟨(some 15), none, .mov (.s 5)⟩,
    ⟨(some 16), none, .bin .add (.s 15) (.c (.t (.int .i64 1)))⟩,
    ⟨(some 5), none, .mov (.s 16)⟩] [0, 1, 5]))

def M_laws_eqPlanStepS : MFun := ⟨2, 27, [.tmp 4],
  .seq (.reg [
    ⟨(some 4), none, .mov (.c (.t (.bool false)))⟩] [0, 1])
  (.seq (.seq (.reg [
    ⟨(some 6), none, .mov (.s 0)⟩,
    ⟨(some 7), none, .len false (.s 6)⟩,
    ⟨(some 8), none, .mov (.s 1)⟩,
    ⟨(some 9), none, .len false (.s 8)⟩,
    ⟨(some 10), none, .bin .neq (.s 7) (.s 9)⟩] [0, 1, 10])
  (.cond (.s 10)
    (.seq (.reg [
      ⟨(some 4), none, .mov (.c (.t (.bool false)))⟩] [4])
    (.ret))
    (.skip)))
  (.seq (.seq (.reg [
    ⟨(some 5), none, .mov (.c (.t (.int .i64 0)))⟩] [0, 1, 5])
  (.block 0 (.loop [0, 1, 5] B_laws_eqPlanStepS_0)))
  (.seq (.reg [
    ⟨(some 4), none, .mov (.c (.t (.bool true)))⟩] [4])
  (.ret))))⟩
theorem t_laws_eqPlanStepS : tbl 86 = some M_laws_eqPlanStepS := tblOf_eq Try.func86 (by kernel_rfl) (by kernel_rfl)

/-- loop.example/g01921/laws.szCostStepS -/
def M_laws_szCostStepS : MFun := ⟨2, 12, [.tmp 4],
  .seq (.reg [
    ⟨(some 4), none, .mov (.c (.t (.int .i64 0)))⟩] [0, 1])
  (.seq (.reg [
    ⟨(some 5), none, .mov (.s 1)⟩,
    ⟨(some 6), none, .mov (.s 0)⟩,
    ⟨(some 7), none, .len false (.s 6)⟩,
    ⟨(some 8), none, .bin .sub (.s 5) (.s 7)⟩,
    ⟨(some 1), none, .mov (.s 8)⟩] [1])
  (.seq (.seq (.reg [
    ⟨(some 9), none, .mov (.s 1)⟩,
    ⟨(some 10), none, .bin .lss (.s 9) (.c (.t (.int .i64 0)))⟩] [1, 10])
  (.cond (.s 10)
    (.seq (.reg [
      ⟨(some 4), none, .mov (.c (.t (.int .i64 (-1))))⟩] [4])
    (.ret))
    (.skip)))
  (.seq (.reg [
    ⟨(some 11), none, .mov (.s 1)⟩,
    ⟨(some 4), none, .mov (.s 11)⟩] [4])
  (.ret))))⟩
theorem t_laws_szCostStepS : tbl 87 = some M_laws_szCostStepS := tblOf_eq Try.func87 (by kernel_rfl) (by kernel_rfl)

/-- loop.example/g01921/spec.IsValidOperator -/
def B_spec_IsValidOperator_0 : MCode :=
  .seq (.seq (.reg [
    ⟨(some 38), none, .mov (.s 3)⟩,
    ⟨(some 39), none, .faddr 5 (.s 1)⟩,
    ⟨(some 40), none, .load none (.s 39)⟩,
    ⟨(some 41), none, .len false (.s 40)⟩,
    ⟨(some 42), none, .bin .lss (.s 38) (.s 41)⟩] [1, 3, 42])
  (.cond (.s 42)
    (.skip)
    (.exit 0)))
  (.seq (.block 1 (.seq (.drw [
    ⟨(some 45), none, .faddr 5 (.s 1)⟩,
    ⟨(some 46), none, .load none (.s 45)⟩,
    ⟨(some 47), none, .mov (.s 3)⟩,
    ⟨(some 48), none, .iaddr 2 (.s 46) (.s 47)⟩,
    ⟨(some 49), none, .faddr 0 (.s 48)⟩,
    ⟨(some 50), none, .load none (.s 49)⟩,
    ⟨(some 51), none, .call 42 [(.s 50), (.c (.t (.int .i64 1))), (.c (.t (.int .i64 8192)))]⟩,
    ⟨(some 52), none, .un .not (.s 51)⟩,
    ⟨(some 53), none, .mov (.s 52)⟩,
    ⟨(some 54), (some (53, false)), .faddr 5 (.s 1)⟩,
    ⟨(some 55), (some (53, false)), .load none (.s 54)⟩,
    ⟨(some 56), (some (53, false)), .mov (.s 3)⟩,
    ⟨(some 57), (some (53, false)), .iaddr 2 (.s 55) (.s 56)⟩,
    ⟨(some 58), (some (53, false)), .faddr 1 (.s 57)⟩,
    ⟨(some 59), (some (53, false)), .load none (.s 58)⟩,
    ⟨(some 60), (some (53, false)), .call 106 [(.s 59)]⟩,
    ⟨(some 61), (some (53, false)), .un .not (.s 60)⟩,
    ⟨(some 62), none, .pick (.s 53) (.c (.t (.bool true))) (.s 61)⟩,
    ⟨(some 63), none, .mov (.s 62)⟩,
    ⟨(some 64), (some (63, false)), .mov (.s 3)⟩,
    ⟨(some 65), (some (63, false)), .bin .gtr (.s 64) (.c (.t (.int .i64 0)))⟩,
    ⟨(some 66), (some (63, false)), .mov (.s 65)⟩,
    ⟨(some 67), (some (66, true)), .faddr 5 (.s 1)⟩,
    ⟨(some 68), (some (66, true)), .load none (.s 67)⟩,
    ⟨(some 69), (some (66, true)), .mov (.s 3)⟩,
    ⟨(some 70), (some (66, true)), .bin .sub (.s 69) (.c (.t (.int .i64 1)))⟩,
    ⟨(some 71), (some (66, true)), .iaddr 2 (.s 68) (.s 70)⟩,
    ⟨(some 72), (some (66, true)), .faddr 0 (.s 71)⟩,
    ⟨(some 73), (some (66, true)), .load none (.s 72)⟩,
    ⟨(some 74), (some (66, true)), .faddr 5 (.s 1)⟩,
    ⟨(some 75), (some (66, true)), .load none (.s 74)⟩,
    ⟨(some 76), (some (66, true)), .mov (.s 3)⟩,
    ⟨(some 77), (some (66, true)), .iaddr 2 (.s 75) (.s 76)⟩,
    ⟨(some 78), (some (66, true)), .faddr 0 (.s 77)⟩,
    ⟨(some 79), (some (66, true)), .load none (.s 78)⟩,
    ⟨(some 80), (some (66, true)), .bin .geq (.s 73) (.s 79)⟩,
    ⟨(some 81), (some (63, false)), .pick (.s 66) (.s 80) (.c (.t (.bool false)))⟩,
    ⟨(some 82), none, .pick (.s 63) (.c (.t (.bool true))) (.s 81)⟩] [[], [0], [], [1, 2], [3], [4], [5], [6], [7, 6], [8], [9, 8], [8], [10, 11, 8], [12, 8], [13, 8], [14, 8, 8], [15, 8], [8, 16], [17, 15], [18], [19, 18], [20, 18, 18], [21], [22, 21], [21], [24, 21], [23, 25, 21], [26, 21], [27, 21], [21], [29, 21], [21], [30, 31, 21], [32, 21], [33, 21], [28, 34, 21], [21, 35, 18], [18, 36]] [1, 3, 82])
  (.cond (.s 82)
    (.seq (.reg [
      ⟨(some 2), none, .mov (.c (.t (.bool false)))⟩] [2])
    (.ret))
    (.skip))))
  (.reg [
    ⟨(some 43), none, .mov (.s 3)⟩,
    ⟨(some 44), none, .bin .add (.s 43) (.c (.t (.int .i64 1)))⟩,
    ⟨(some 3), none, .mov (.s 44)⟩] [1, 3]))

def M_spec_IsValidOperator : MFun := ⟨1, 83, [.tmp 2],
  .seq (.reg [
    ⟨(some 1), none, .box (.s 0)⟩,
    ⟨(some 2), none, .mov (.c (.t (.bool false)))⟩] [1])
  (.seq (.seq (.reg [
    ⟨(some 4), none, .faddr 0 (.s 1)⟩,
    ⟨(some 5), none, .load none (.s 4)⟩,
    ⟨(some 6), none, .call 106 [(.s 5)]⟩,
    ⟨(some 7), none, .un .not (.s 6)⟩,
    ⟨(some 8), none, .mov (.s 7)⟩,
    ⟨(some 9), (some (8, false)), .faddr 1 (.s 1)⟩,
    ⟨(some 10), (some (8, false)), .load none (.s 9)⟩,
    ⟨(some 11), (some (8, false)), .call 106 [(.s 10)]⟩,
    ⟨(some 12), (some (8, false)), .un .not (.s 11)⟩,
    ⟨(some 13), none, .pick (.s 8) (.c (.t (.bool true))) (.s 12)⟩,
    ⟨(some 14), none, .mov (.s 13)⟩,
    ⟨(some 15), (some (14, false)), .faddr 2 (.s 1)⟩,
    ⟨(some 16), (some (14, false)), .load none (.s 15)⟩,
    ⟨(some 17), (some (14, false)), .call 106 [(.s 16)]⟩,
    ⟨(some 18), (some (14, false)), .un .not (.s 17)⟩,
    ⟨(some 19), none, .pick (.s 14) (.c (.t (.bool true))) (.s 18)⟩,
    ⟨(some 20), none, .mov (.s 19)⟩,
    ⟨(some 21), (some (20, false)), .faddr 3 (.s 1)⟩,
    ⟨(some 22), (some (20, false)), .load none (.s 21)⟩,
    ⟨(some 23), (some (20, false)), .call 106 [(.s 22)]⟩,
    ⟨(some 24), (some (20, false)), .un .not (.s 23)⟩,
    ⟨(some 25), none, .pick (.s 20) (.c (.t (.bool true))) (.s 24)⟩,
    ⟨(some 26), none, .mov (.s 25)⟩,
    ⟨(some 27), (some (26, false)), .faddr 4 (.s 1)⟩,
    ⟨(some 28), (some (26, false)), .load none (.s 27)⟩,
    ⟨(some 29), (some (26, false)), .call 106 [(.s 28)]⟩,
    ⟨(some 30), (some (26, false)), .un .not (.s 29)⟩,
    ⟨(some 31), none, .pick (.s 26) (.c (.t (.bool true))) (.s 30)⟩,
    ⟨(some 32), none, .mov (.s 31)⟩,
    ⟨(some 33), (some (32, false)), .faddr 5 (.s 1)⟩,
    ⟨(some 34), (some (32, false)), .load none (.s 33)⟩,
    ⟨(some 35), (some (32, false)), .len false (.s 34)⟩,
    ⟨(some 36), (some (32, false)), .bin .gtr (.s 35) (.c (.t (.int .i64 4)))⟩,
    ⟨(some 37), none, .pick (.s 32) (.c (.t (.bool true))) (.s 36)⟩] [1, 37])
  (.cond (.s 37)
    (.seq (.reg [
      ⟨(some 2), none, .mov (.c (.t (.bool false)))⟩] [2])
    (.ret))
    (.skip)))
  (.seq (.seq (.reg [
    ⟨(some 3), none, .mov (.c (.t (.int .i64 0)))⟩] [1, 3])
  (.block 0 (.loop [1, 3] B_spec_IsValidOperator_0)))
  (.seq (.reg [
    ⟨(some 2), none, .mov (.c (.t (.bool true)))⟩] [2])
  (.ret))))⟩
theorem t_spec_IsValidOperator : tbl 88 = some M_spec_IsValidOperator := tblOf_eq Try.func88 (by kernel_rfl) (by kernel_rfl)

/-- loop.example/g01921/spec.ClassSize -/
def B_spec_ClassSize_0 : MCode :=
  .seq (.seq (.reg [
    ⟨(some 8), none, .mov (.s 4)⟩,
    ⟨(some 9), none, .mov (.s 0)⟩,
    ⟨(some 10), none, .bin .lss (.s 8) (.s 9)⟩] [0, 3, 4, 10])
  (.cond (.s 10)
    (.skip)
    (.exit 0)))
  (.seq (.block 1 (.reg [
    ⟨(some 13), none, .mov (.s 3)⟩,
    ⟨(some 14), none, .bin .mul (.s 13) (.c (.t (.int .i64 4)))⟩,
    ⟨(some 15), none, .mm true (.c (.t (.int .i64 1))) (.s 14)⟩,
    ⟨(some 3), none, .mov (.s 15)⟩] [0, 3, 4]))
  (.reg [
    ⟨(some 11), none, .mov (.s 4)⟩,
    ⟨(some 12), none, .bin .add (.s 11) (.c (.t (.int .i64 1)))⟩,
    ⟨(some 4), none, .mov (.s 12)⟩] [0, 3, 4]))

def M_spec_ClassSize : MFun := ⟨1, 17, [.tmp 2],
  .seq (.reg [
    ⟨(some 2), none, .mov (.c (.t (.int .i64 0)))⟩] [0])
  (.seq (.seq (.reg [
    ⟨(some 5), none, .mov (.s 0)⟩,
    ⟨(some 6), none, .call 42 [(.s 5), (.c (.t (.int .i64 0))), (.c (.t (.int .i64 7)))]⟩,
    ⟨(some 7), none, .un .not (.s 6)⟩] [0, 7])
  (.cond (.s 7)
    (.seq (.reg [
      ⟨(some 2), none, .mov (.c (.t (.int .i64 (-1))))⟩] [2])
    (.ret))
    (.skip)))
  (.seq (.reg [
    ⟨(some 3), none, .mov (.c (.t (.int .i64 0)))⟩] [0, 3])
  (.seq (.seq (.reg [
    ⟨(some 4), none, .mov (.c (.t (.int .i64 0)))⟩] [0, 3, 4])
  (.block 0 (.loop [0, 3, 4] B_spec_ClassSize_0)))
  (.seq (.reg [
    ⟨(some 16), none, .mov (.s 3)⟩,
    ⟨(some 2), none, .mov (.s 16)⟩] [2])
  (.ret)))))⟩
theorem t_spec_ClassSize : tbl 89 = some M_spec_ClassSize := tblOf_eq Try.func89 (by kernel_rfl) (by kernel_rfl)

/-- loop.example/g01921/spec.SizeClass -/
def B_spec_SizeClass_0 : MCode :=
  .seq (.seq (.reg [
    ⟨(some 6), none, .mov (.s 3)⟩,
    ⟨(some 7), none, .bin .leq (.s 6) (.c (.t (.int .i64 7)))⟩] [0, 3, 7])
  (.cond (.s 7)
    (.skip)
    (.exit 0)))
  (.seq (.block 1 (.seq (.reg [
    ⟨(some 10), none, .mov (.s 3)⟩,
    ⟨(some 11), none, .call 89 [(.s 10)]⟩,
    ⟨(some 12), none, .mov (.s 0)⟩,
    ⟨(some 13), none, .bin .geq (.s 11) (.s 12)⟩] [0, 3, 13])
  (.cond (.s 13)
    (.seq (.reg [
      ⟨(some 14), none, .mov (.s 3)⟩,
      ⟨(some 2), none, .mov (.s 14)⟩] [2])
    (.ret))
    (.skip))))
  (.reg [
    ⟨(some 8), none, .mov (.s 3)⟩,
    ⟨(some 9), none, .bin .add (.s 8) (.c (.t (.int .i64 1)))⟩,
    ⟨(some 3), none, .mov (.s 9)⟩] [0, 3]))

def M_spec_SizeClass : MFun := ⟨1, 15, [.tmp 2],
  .seq (.reg [
    ⟨(some 2), none, .mov (.c (.t (.int .i64 0)))⟩] [0])
  (.seq (.seq (.reg [
    ⟨(some 4), none, .mov (.s 0)⟩,
    ⟨(some 5), none, .bin .lss (.s 4) (.c (.t (.int .i64 0)))⟩] [0, 5])
  (.cond (.s 5)
    (.seq (.reg [
      ⟨(some 2), none, .mov (.c (.t (.int .i64 (-1))))⟩] [2])
    (.ret))
    (.skip)))
  (.seq (.seq (.reg [
    ⟨(some 3), none, .mov (.c (.t (.int .i64 0)))⟩] [0, 3])
  (.block 0 (.loop [0, 3] B_spec_SizeClass_0)))
  (.seq (.reg [
    ⟨(some 2), none, .mov (.c (.t (.int .i64 (-1))))⟩] [2])
  (.ret))))⟩
theorem t_spec_SizeClass : tbl 90 = some M_spec_SizeClass := tblOf_eq Try.func90 (by kernel_rfl) (by kernel_rfl)

/-- loop.example/g01921/laws.toCostStepS -/
def B_laws_toCostStepS_0 : MCode :=
  .seq (.seq (.reg [
    ⟨(some 8), none, .mov (.s 4)⟩,
    ⟨(some 9), none, .mov (.s 0)⟩,
    ⟨(some 10), none, .len false (.s 9)⟩,
    ⟨(some 11), none, .bin .lss (.s 8) (.s 10)⟩] [0, 3, 4, 11])
  (.cond (.s 11)
    (.skip)
    (.exit 0)))
  (.seq (.block 1 (.reg [
    ⟨(some 14), none, .mov (.s 3)⟩,
    ⟨(some 15), none, .mov (.s 4)⟩,
    ⟨(some 16), none, .mov (.s 0)⟩,
    ⟨(some 17), none, .mov (.s 4)⟩,
    ⟨(some 18), none, .iaddr 2 (.s 16) (.s 17)⟩,
    ⟨(some 19), none, .load (some 2) (.s 18)⟩,
    ⟨(some 20), none, .call 107 [(.s 19)]⟩,
    ⟨(some 21), none, .iaddr 2 (.s 14) (.s 15)⟩,
    ⟨none, none, .store 2 (.s 21) (.s 20)⟩] [0, 3, 4]))
  (.reg [
    ⟨(some 12), none, .mov (.s 4)⟩,
    ⟨(some 13), none, .bin .add (.s 12) (.c (.t (.int .i64 1)))⟩,
    ⟨(some 4), none, .mov (.s 13)⟩] [0, 3, 4]))

def M_laws_toCostStepS : MFun := ⟨1, 23, [.tmp 2],
  .seq (.reg [
    ⟨(some 2), none, .mov (.c (.t .nil))⟩] [0])
  (.seq (.reg [
    ⟨(some 5), none, .mov (.s 0)⟩,
    ⟨(some 6), none, .len false (.s 5)⟩,
    ⟨(some 7), none, .mkslice 140 2 16 [(.int .i64 0), (.int .i64 0)] (.s 6) (.s 6)⟩,
    ⟨(some 3), none, .mov (.s 7)⟩] [0, 3])
  (.seq (.seq (.reg [
    ⟨(some 4), none, .mov (.c (.t (.int .i64 0)))⟩] [0, 3, 4])
  (.block 0 (.loop [0, 3, 4] B_laws_toCostStepS_0)))
  (.seq (.reg [
    ⟨(some 22), none, .mov (.s 3)⟩,
    ⟨(some 2), none, .mov (.s 22)⟩] [2])
  (.ret))))⟩
theorem t_laws_toCostStepS : tbl 91 = some M_laws_toCostStepS := tblOf_eq Try.func91 (by kernel_rfl) (by kernel_rfl)

/-- loop.example/g01921/impl.ClassSize -/
def M_impl_ClassSize : MFun := ⟨1, 14, [.tmp 2],
  .seq (.reg [
    ⟨(some 2), none, .mov (.c (.t (.int .i64 0)))⟩] [0])
  (.seq (.block 0 (.seq (.reg [
    ⟨(some 4), none, .mov (.s 0)⟩,
    ⟨(some 5), none, .call 43 [(.s 4), (.c (.t (.int .i64 0))), (.c (.t (.int .i64 7)))]⟩,
    ⟨(some 6), none, .un .not (.s 5)⟩,
    ⟨(some 3), none, .mov (.s 6)⟩] [0, 3])
  (.cond (.s 3)
    (.seq (.reg [
      ⟨(some 2), none, .mov (.c (.t (.int .i64 (-1))))⟩] [2])
    (.ret))
    (.seq (.reg [
      ⟨(some 8), none, .mov (.s 0)⟩,
      ⟨(some 9), none, .bin .eql (.s 8) (.c (.t (.int .i64 0)))⟩,
      ⟨(some 7), none, .mov (.s 9)⟩] [0, 7])
    (.cond (.s 7)
      (.seq (.reg [
        ⟨(some 2), none, .mov (.c (.t (.int .i64 0)))⟩] [2])
      (.ret))
      (.skip))))))
  (.seq (.reg [
    ⟨(some 10), none, .mov (.s 0)⟩,
    ⟨(some 11), none, .bin .sub (.s 10) (.c (.t (.int .i64 1)))⟩,
    ⟨(some 12), none, .bin .mul (.c (.t (.int .i64 2))) (.s 11)⟩,
    ⟨(some 13), none, .bin .shl (.c (.t (.int .i64 1))) (.s 12)⟩,
    ⟨(some 2), none, .mov (.s 13)⟩] [2])
  (.ret)))⟩
theorem t_impl_ClassSize : tbl 92 = some M_impl_ClassSize := tblOf_eq Try.func92 (by kernel_rfl) (by kernel_rfl)

/-- loop.example/g01921/impl.SizeClass -/
def B_impl_SizeClass_0 : MCode :=
  .seq (.block 1 (.seq (.reg [
    ⟨(some 9), none, .mov (.s 3)⟩,
    ⟨(some 10), none, .call 92 [(.s 9)]⟩,
    ⟨(some 11), none, .mov (.s 0)⟩,
    ⟨(some 12), none, .bin .geq (.s 10) (.s 11)⟩] [0, 3, 12])
  (.cond (.s 12)
    (.seq (.reg [
      ⟨(some 13), none, .mov (.s 3)⟩,
      ⟨(some 2), none, .mov (.s 13)⟩] [2])
    (.ret))
    (.skip))))
  (.reg [
    ⟨(some 7), none, .mov (.s 3)⟩,
    ⟨(some 8), none, .bin .add (.s 7) (.c (.t (.int .i64 1)))⟩,
    ⟨(some 3), none, .mov (.s 8)⟩] [0, 3])

def M_impl_SizeClass : MFun := ⟨1, 14, [.tmp 2],
  .seq (.reg [
    ⟨(some 2), none, .mov (.c (.t (.int .i64 0)))⟩] [0])
  (.seq (.seq (.reg [
    ⟨(some 4), none, .mov (.s 0)⟩,
    ⟨(some 5), none, .call 43 [(.s 4), (.c (.t (.int .i64 0))), (.c (.t (.int .i64 4096)))]⟩,
    ⟨(some 6), none, .un .not (.s 5)⟩] [0, 6])
  (.cond (.s 6)
    (.seq (.reg [
      ⟨(some 2), none, .mov (.c (.t (.int .i64 (-1))))⟩] [2])
    (.ret))
    (.skip)))
  (.seq (.reg [
    ⟨(some 3), none, .mov (.c (.t (.int .i64 0)))⟩] [0, 3])
  (.block 0 (.loop [0, 3] B_impl_SizeClass_0))))⟩
theorem t_impl_SizeClass : tbl 93 = some M_impl_SizeClass := tblOf_eq Try.func93 (by kernel_rfl) (by kernel_rfl)

/-- loop.example/g01921/impl.IsValidOperator -/
def B_impl_IsValidOperator_0 : MCode :=
  .seq (.reg [
    ⟨(some 10), none, .bin .lss (.s 9) (.s 8)⟩] [1, 7, 8, 9, 10])
  (.seq (.cond (.s 10)
    (.skip)
    (.exit 0))
  (.seq (.block 1 (.seq (.reg [
    ⟨(some 11), none, .iaddr 1 (.s 7) (.s 9)⟩,
    ⟨(some 12), none, .load none (.s 11)⟩,
    ⟨(some 4), none, .mov (.s 12)⟩] [1, 4, 7, 8, 9])
  (.seq (.reg [
    ⟨(some 13), none, .mov (.s 4)⟩,
    ⟨(some 14), none, .nilchk (.s 13)⟩,
    ⟨(some 15), none, .load none (.s 14)⟩,
    ⟨(some 16), none, .call 43 [(.s 15), (.c (.t (.int .i64 (-99)))), (.c (.t (.int .i64 99)))]⟩,
    ⟨(some 17), none, .un .not (.s 16)⟩] [1, 7, 8, 9, 17])
  (.cond (.s 17)
    (.seq (.reg [
      ⟨(some 2), none, .mov (.c (.t (.bool false)))⟩] [2])
    (.ret))
    (.skip)))))
  (.reg [
    ⟨(some 18), none, .bin .add (.s 9) (.c (.t (.int .i64 1)))⟩,
    ⟨(some 9), none, .mov (.s 18)⟩] [1, 7, 8, 9])))

def B_impl_IsValidOperator_1 : MCode :=
  .seq (.reg [
    ⟨(some 23), none, .bin .lss (.s 22) (.s 21)⟩] [1, 20, 21, 22, 23])
  (.seq (.cond (.s 23)
    (.skip)
    (.exit 2))
  (.seq (.block 3 (.seq (.reg [
    ⟨(some 24), none, .mov (.s 22)⟩,
    ⟨(some 25), none, .iaddr 2 (.s 20) (.s 22)⟩,
    ⟨(some 26), none, .load (some 2) (.s 25)⟩,
    ⟨(some 6), none, .alloc [(.t (.int .i64 0)), (.t (.int .i64 0))]⟩,
    ⟨(some 5), none, .mov (.s 24)⟩,
    ⟨none, none, .store 2 (.s 6) (.s 26)⟩] [1, 5, 6, 20, 21, 22])
  (.seq (.drw [
    ⟨(some 27), none, .faddr 1 (.s 6)⟩,
    ⟨(some 28), none, .load none (.s 27)⟩,
    ⟨(some 29), none, .call 43 [(.s 28), (.c (.t (.int .i64 (-99)))), (.c (.t (.int .i64 99)))]⟩,
    ⟨(some 30), none, .un .not (.s 29)⟩,
    ⟨(some 31), none, .mov (.s 30)⟩,
    ⟨(some 32), (some (31, false)), .faddr 0 (.s 6)⟩,
    ⟨(some 33), (some (31, false)), .load none (.s 32)⟩,
    ⟨(some 34), (some (31, false)), .call 43 [(.s 33), (.c (.t (.int .i64 1))), (.c (.t (.int .i64 8192)))]⟩,
    ⟨(some 35), (some (31, false)), .un .not (.s 34)⟩,
    ⟨(some 36), none, .pick (.s 31) (.c (.t (.bool true))) (.s 35)⟩,
    ⟨(some 37), none, .mov (.s 36)⟩,
    ⟨(some 38), (some (37, false)), .mov (.s 5)⟩,
    ⟨(some 39), (some (37, false)), .bin .gtr (.s 38) (.c (.t (.int .i64 0)))⟩,
    ⟨(some 40), (some (37, false)), .mov (.s 39)⟩,
    ⟨(some 41), (some (40, true)), .faddr 5 (.s 1)⟩,
    ⟨(some 42), (some (40, true)), .load none (.s 41)⟩,
    ⟨(some 43), (some (40, true)), .mov (.s 5)⟩,
    ⟨(some 44), (some (40, true)), .bin .sub (.s 43) (.c (.t (.int .i64 1)))⟩,
    ⟨(some 45), (some (40, true)), .iaddr 2 (.s 42) (.s 44)⟩,
    ⟨(some 46), (some (40, true)), .faddr 0 (.s 45)⟩,
    ⟨(some 47), (some (40, true)), .load none (.s 46)⟩,
    ⟨(some 48), (some (40, true)), .faddr 0 (.s 6)⟩,
    ⟨(some 49), (some (40, true)), .load none (.s 48)⟩,
    ⟨(some 50), (some (40, true)), .bin .geq (.s 47) (.s 49)⟩,
    ⟨(some 51), (some (37, false)), .pick (.s 40) (.s 50) (.c (.t (.bool false)))⟩,
    ⟨(some 52), none, .pick (.s 37) (.c (.t (.bool true))) (.s 51)⟩] [[], [0], [1], [2], [3, 2], [4], [5, 4], [6, 4, 4], [7, 4], [4, 8], [9, 7], [10], [11, 10], [12, 10, 10], [13], [14, 13], [13], [16, 13], [15, 17, 13], [18, 13], [19, 13], [13], [21, 13], [20, 22, 13], [13, 23, 10], [10, 24]] [1, 20, 21, 22, 52])
  (.cond (.s 52)
    (.seq (.reg [
      ⟨(some 2), none, .mov (.c (.t (.bool false)))⟩] [2])
    (.ret))
    (.skip)))))
  (.reg [
    ⟨(some 53), none, .bin .add (.s 22) (.c (.t (.int .i64 1)))⟩,
    ⟨(some 22), none, .mov (.s 53)⟩] [1, 20, 21, 22])))

def M_impl_IsValidOperator : MFun := ⟨1, 58, [.tmp 2],
  .seq (.reg [
    ⟨(some 1), none, .box (.s 0)⟩,
    ⟨(some 2), none, .mov (.c (.t (.bool false)))⟩] [1])
  (.seq (.seq (.reg [
    ⟨(some 7), none, .pcall 108 [(.s 1)]⟩,
    ⟨(some 8), none, .len false (.s 7)⟩,
    ⟨(some 9), none, .mov (.c (.t (.int .i64 0)))⟩] [1, 7, 8, 9])
  (.block 0 (.loop [1, 7, 8, 9] B_impl_IsValidOperator_0)))
  (.seq (.seq (.reg [
    ⟨(some 19), none, .faddr 5 (.s 1)⟩,
    ⟨(some 20), none, .load none (.s 19)⟩,
    ⟨(some 21), none, .len false (.s 20)⟩,
    ⟨(some 22), none, .mov (.c (.t (.int .i64 0)))⟩] [1, 20, 21, 22])
  (.block 2 (.loop [1, 20, 21, 22] B_impl_IsValidOperator_1)))
  (.seq (.reg [
    ⟨(some 54), none, .faddr 5 (.s 1)⟩,
    ⟨(some 55), none, .load none (.s 54)⟩,
    ⟨(some 56), none, .len false (.s 55)⟩,
    ⟨(some 57), none, .bin .leq (.s 56) (.c (.t (.int .i64 4)))⟩,
    ⟨(some 2), none, .mov (.s 57)⟩] [2])
  (.ret))))⟩
theorem t_impl_IsValidOperator : tbl 94 = some M_impl_IsValidOperator := tblOf_eq Try.func94 (by kernel_rfl) (by kernel_rfl)

/-- loop.example/g01921/impl.operatorCost -/
def B_impl_operatorCost_0 : MCode :=
  .seq (.reg [
    ⟨(some 40), none, .bin .lss (.s 39) (.s 38)⟩] [1, 2, 9, 37, 38, 39, 40])
  (.seq (.cond (.s 40)
    (.skip)
    (.exit 0))
  (.seq (.block 1 (.seq (.reg [
    ⟨(some 41), none, .iaddr 2 (.s 37) (.s 39)⟩,
    ⟨(some 42), none, .load (some 2) (.s 41)⟩,
    ⟨(some 11), none, .alloc [(.t (.int .i64 0)), (.t (.int .i64 0))]⟩,
    ⟨none, none, .store 2 (.s 11) (.s 42)⟩] [1, 2, 9, 11, 37, 38, 39])
  (.seq (.reg [
    ⟨(some 43), none, .faddr 0 (.s 11)⟩,
    ⟨(some 44), none, .load none (.s 43)⟩,
    ⟨(some 45), none, .mov (.s 1)⟩,
    ⟨(some 46), none, .mov (.s 2)⟩,
    ⟨(some 47), none, .bin .add (.s 45) (.s 46)⟩,
    ⟨(some 48), none, .bin .leq (.s 44) (.s 47)⟩] [1, 2, 9, 11, 37, 38, 39, 48])
  (.cond (.s 48)
    (.reg [
      ⟨(some 49), none, .mov (.s 9)⟩,
      ⟨(some 50), none, .faddr 1 (.s 11)⟩,
      ⟨(some 51), none, .load none (.s 50)⟩,
      ⟨(some 52), none, .bin .add (.s 49) (.s 51)⟩,
      ⟨(some 9), none, .mov (.s 52)⟩] [1, 2, 9, 37, 38, 39])
    (.skip)))))
  (.reg [
    ⟨(some 53), none, .bin .add (.s 39) (.c (.t (.int .i64 1)))⟩,
    ⟨(some 39), none, .mov (.s 53)⟩] [1, 2, 9, 37, 38, 39])))

def M_impl_operatorCost : MFun := ⟨4, 55, [.tmp 8],
  .seq (.reg [
    ⟨(some 4), none, .box (.s 0)⟩,
    ⟨(some 8), none, .mov (.c (.t (.int .i64 0)))⟩] [1, 2, 3, 4])
  (.seq (.reg [
    ⟨(some 12), none, .faddr 0 (.s 4)⟩,
    ⟨(some 13), none, .load none (.s 12)⟩,
    ⟨(some 14), none, .faddr 1 (.s 4)⟩,
    ⟨(some 15), none, .load none (.s 14)⟩,
    ⟨(some 16), none, .mov (.s 1)⟩,
    ⟨(some 17), none, .bin .mul (.s 15) (.s 16)⟩,
    ⟨(some 18), none, .bin .add (.s 13) (.s 17)⟩,
    ⟨(some 19), none, .faddr 2 (.s 4)⟩,
    ⟨(some 20), none, .load none (.s 19)⟩,
    ⟨(some 21), none, .mov (.s 2)⟩,
    ⟨(some 22), none, .bin .mul (.s 20) (.s 21)⟩,
    ⟨(some 23), none, .bin .add (.s 18) (.s 22)⟩,
    ⟨(some 24), none, .faddr 3 (.s 4)⟩,
    ⟨(some 25), none, .load none (.s 24)⟩,
    ⟨(some 26), none, .mov (.s 3)⟩,
    ⟨(some 27), none, .bin .mul (.s 25) (.s 26)⟩,
    ⟨(some 28), none, .bin .add (.s 23) (.s 27)⟩,
    ⟨(some 29), none, .faddr 4 (.s 4)⟩,
    ⟨(some 30), none, .load none (.s 29)⟩,
    ⟨(some 31), none, .mov (.s 1)⟩,
    ⟨(some 32), none, .bin .mul (.s 30) (.s 31)⟩,
    ⟨(some 33), none, .mov (.s 2)⟩,
    ⟨(some 34), none, .bin .mul (.s 32) (.s 33)⟩,
    ⟨(some 35), none, .bin .add (.s 28) (.s 34)⟩,
    ⟨(some 9), none, .mov (.s 35)⟩] [1, 2, 4, 9])
  (.seq (.seq (.reg [
    ⟨(some 36), none, .faddr 5 (.s 4)⟩,
    ⟨(some 37), none, .load none (.s 36)⟩,
    ⟨(some 38), none, .len false (.s 37)⟩,
    ⟨(some 39), none, .mov (.c (.t (.int .i64 0)))⟩] [1, 2, 9, 37, 38, 39])
  (.block 0 (.loop [1, 2, 9, 37, 38, 39] B_impl_operatorCost_0)))
  (.seq (.reg [
    ⟨(some 54), none, .mov (.s 9)⟩,
    ⟨(some 8), none, .mov (.s 54)⟩] [8])
  (.ret))))⟩
theorem t_impl_operatorCost : tbl 95 = some M_impl_operatorCost := tblOf_eq Try.func95 (by kernel_rfl) (by kernel_rfl)

/-- loop.example/g01921/laws.eqCostStepS -/
def B_laws_eqCostStepS_0 : MCode :=
  .seq (.seq (.reg [
    ⟨(some 11), none, .mov (.s 5)⟩,
    ⟨(some 12), none, .mov (.s 0)⟩,
    ⟨(some 13), none, .len false (.s 12)⟩,
    ⟨(some 14), none, .bin .lss (.s 11) (.s 13)⟩] [0, 1, 5, 14])
  (.cond (.s 14)
    (.skip)
    (.exit 0)))
  (.seq (.block 1 (.seq (.drw [
    ⟨(some 17), none, .mov (.s 0)⟩,
    ⟨(some 18), none, .mov (.s 5)⟩,
    ⟨(some 19), none, .iaddr 2 (.s 17) (.s 18)⟩,
    ⟨(some 20), none, .load (some 2) (.s 19)⟩,
    ⟨(some 21), none, .mov (.s 1)⟩,
    ⟨(some 22), none, .mov (.s 5)⟩,
    ⟨(some 23), none, .iaddr 2 (.s 21) (.s 22)⟩,
    ⟨(some 24), none, .load (some 2) (.s 23)⟩,
    ⟨(some 25), none, .call 109 [(.s 20), (.s 24)]⟩,
    ⟨(some 26), none, .un .not (.s 25)⟩] [[], [], [0, 1], [2], [], [], [4, 5], [6], [3, 7], [8]] [0, 1, 5, 26])
  (.cond (.s 26)
    (.seq (.reg [
      ⟨(some 4), none, .mov (.c (.t (.bool false)))⟩] [4])
    (.ret))
    (.skip))))
  (.reg [
    ⟨(some 15), none, .mov (.s 5)⟩,
    ⟨(some 16), none, .bin .add (.s 15) (.c (.t (.int .i64 1)))⟩,
    ⟨(some 5), none, .mov (.s 16)⟩] [0, 1, 5]))

def M_laws_eqCostStepS : MFun := ⟨2, 27, [.tmp 4],
  .seq (.reg [
    ⟨(some 4), none, .mov (.c (.t (.bool false)))⟩] [0, 1])
  (.seq (.seq (.reg [
    ⟨(some 6), none, .mov (.s 0)⟩,
    ⟨(some 7), none, .len false (.s 6)⟩,
    ⟨(some 8), none, .mov (.s 1)⟩,
    ⟨(some 9), none, .len false (.s 8)⟩,
    ⟨(some 10), none, .bin .neq (.s 7) (.s 9)⟩] [0, 1, 10])
  (.cond (.s 10)
    (.seq (.reg [
      ⟨(some 4), none, .mov (.c (.t (.bool false)))⟩] [4])
    (.ret))
    (.skip)))
  (.seq (.seq (.reg [
    ⟨(some 5), none, .mov (.c (.t (.int .i64 0)))⟩] [0, 1, 5])
  (.block 0 (.loop [0, 1, 5] B_laws_eqCostStepS_0)))
  (.seq (.reg [
    ⟨(some 4), none, .mov (.c (.t (.bool true)))⟩] [4])
  (.ret))))⟩
theorem t_laws_eqCostStepS : tbl 96 = some M_laws_eqCostStepS := tblOf_eq Try.func96 (by kernel_rfl) (by kernel_rfl)

/-- loop.example/g01921/laws.szCacheEntry -/
def M_laws_szCacheEntry : MFun := ⟨2, 18, [.tmp 4],
  .seq (.reg [
    ⟨(some 2), none, .box (.s 0)⟩,
    ⟨(some 4), none, .mov (.c (.t (.int .i64 0)))⟩] [1, 2])
  (.seq (.reg [
    ⟨(some 5), none, .faddr 0 (.s 2)⟩,
    ⟨(some 6), none, .load (some 2) (.s 5)⟩,
    ⟨(some 7), none, .mov (.s 1)⟩,
    ⟨(some 8), none, .call 110 [(.s 6), (.s 7)]⟩,
    ⟨(some 1), none, .mov (.s 8)⟩] [1, 2])
  (.seq (.seq (.reg [
    ⟨(some 9), none, .mov (.s 1)⟩,
    ⟨(some 10), none, .bin .lss (.s 9) (.c (.t (.int .i64 0)))⟩] [1, 2, 10])
  (.cond (.s 10)
    (.seq (.reg [
      ⟨(some 4), none, .mov (.c (.t (.int .i64 (-1))))⟩] [4])
    (.ret))
    (.skip)))
  (.seq (.reg [
    ⟨(some 11), none, .faddr 2 (.s 2)⟩,
    ⟨(some 12), none, .load (some 4) (.s 11)⟩,
    ⟨(some 13), none, .mov (.s 1)⟩,
    ⟨(some 14), none, .call 25 [(.s 12), (.s 13)]⟩,
    ⟨(some 1), none, .mov (.s 14)⟩] [1])
  (.seq (.seq (.reg [
    ⟨(some 15), none, .mov (.s 1)⟩,
    ⟨(some 16), none, .bin .lss (.s 15) (.c (.t (.int .i64 0)))⟩] [1, 16])
  (.cond (.s 16)
    (.seq (.reg [
      ⟨(some 4), none, .mov (.c (.t (.int .i64 (-1))))⟩] [4])
    (.ret))
    (.skip)))
  (.seq (.reg [
    ⟨(some 17), none, .mov (.s 1)⟩,
    ⟨(some 4), none, .mov (.s 17)⟩] [4])
  (.ret))))))⟩
theorem t_laws_szCacheEntry : tbl 97 = some M_laws_szCacheEntry := tblOf_eq Try.func97 (by kernel_rfl) (by kernel_rfl)

/-- loop.example/g01921/laws.toCacheEntry -/
def M_laws_toCacheEntry : MFun := ⟨1, 19, [.cell 2 (some 8)],
  .seq (.reg [
    ⟨(some 1), none, .box (.s 0)⟩,
    ⟨(some 2), none, .alloc [(.t (.int .i64 0)), (.t .nil), (.t .nil), (.t .nil), (.t .nil), (.t (.int .i64 0)), (.t (.int .i64 0)), (.t (.int .i64 0))]⟩] [1, 2])
  (.seq (.reg [
    ⟨(some 3), none, .alloc [(.t (.int .i64 0)), (.t .nil), (.t .nil), (.t .nil), (.t .nil), (.t (.int .i64 0)), (.t (.int .i64 0)), (.t (.int .i64 0))]⟩] [1, 2, 3])
  (.seq (.reg [
    ⟨(some 4), none, .faddr 0 (.s 1)⟩,
    ⟨(some 5), none, .load (some 2) (.s 4)⟩,
    ⟨(some 6), none, .call 111 [(.s 5)]⟩,
    ⟨(some 7), none, .faddr 0 (.s 3)⟩,
    ⟨none, none, .store 2 (.s 7) (.s 6)⟩] [1, 2, 3])
  (.seq (.reg [
    ⟨(some 8), none, .faddr 2 (.s 1)⟩,
    ⟨(some 9), none, .load (some 4) (.s 8)⟩,
    ⟨(some 10), none, .call 27 [(.s 9)]⟩,
    ⟨(some 11), none, .faddr 2 (.s 3)⟩,
    ⟨none, none, .store 4 (.s 11) (.s 10)⟩] [1, 2, 3])
  (.seq (.reg [
    ⟨(some 12), none, .faddr 6 (.s 1)⟩,
    ⟨(some 13), none, .load none (.s 12)⟩,
    ⟨(some 14), none, .faddr 6 (.s 3)⟩,
    ⟨none, none, .store 1 (.s 14) (.s 13)⟩] [1, 2, 3])
  (.seq (.reg [
    ⟨(some 15), none, .faddr 7 (.s 1)⟩,
    ⟨(some 16), none, .load none (.s 15)⟩,
    ⟨(some 17), none, .faddr 7 (.s 3)⟩,
    ⟨none, none, .store 1 (.s 17) (.s 16)⟩] [2, 3])
  (.seq (.reg [
    ⟨(some 18), none, .load (some 8) (.s 3)⟩,
    ⟨none, none, .store 8 (.s 2) (.s 18)⟩] [2])
  (.ret)))))))⟩
theorem t_laws_toCacheEntry : tbl 98 = some M_laws_toCacheEntry := tblOf_eq Try.func98 (by kernel_rfl) (by kernel_rfl)

/-- loop.example/g01921/laws.eqCacheEntry -/
def M_laws_eqCacheEntry : MFun := ⟨2, 27, [.tmp 4],
  .seq (.reg [
    ⟨(some 2), none, .box (.s 0)⟩,
    ⟨(some 3), none, .box (.s 1)⟩,
    ⟨(some 4), none, .mov (.c (.t (.bool false)))⟩] [2, 3])
  (.seq (.seq (.reg [
    ⟨(some 5), none, .faddr 0 (.s 2)⟩,
    ⟨(some 6), none, .load (some 2) (.s 5)⟩,
    ⟨(some 7), none, .faddr 0 (.s 3)⟩,
    ⟨(some 8), none, .load (some 2) (.s 7)⟩,
    ⟨(some 9), none, .call 112 [(.s 6), (.s 8)]⟩,
    ⟨(some 10), none, .un .not (.s 9)⟩] [2, 3, 10])
  (.cond (.s 10)
    (.seq (.reg [
      ⟨(some 4), none, .mov (.c (.t (.bool false)))⟩] [4])
    (.ret))
    (.skip)))
  (.seq (.seq (.reg [
    ⟨(some 11), none, .faddr 2 (.s 2)⟩,
    ⟨(some 12), none, .load (some 4) (.s 11)⟩,
    ⟨(some 13), none, .faddr 2 (.s 3)⟩,
    ⟨(some 14), none, .load (some 4) (.s 13)⟩,
    ⟨(some 15), none, .call 29 [(.s 12), (.s 14)]⟩,
    ⟨(some 16), none, .un .not (.s 15)⟩] [2, 3, 16])
  (.cond (.s 16)
    (.seq (.reg [
      ⟨(some 4), none, .mov (.c (.t (.bool false)))⟩] [4])
    (.ret))
    (.skip)))
  (.seq (.seq (.reg [
    ⟨(some 17), none, .faddr 6 (.s 2)⟩,
    ⟨(some 18), none, .load none (.s 17)⟩,
    ⟨(some 19), none, .faddr 6 (.s 3)⟩,
    ⟨(some 20), none, .load none (.s 19)⟩,
    ⟨(some 21), none, .bin .neq (.s 18) (.s 20)⟩] [2, 3, 21])
  (.cond (.s 21)
    (.seq (.reg [
      ⟨(some 4), none, .mov (.c (.t (.bool false)))⟩] [4])
    (.ret))
    (.skip)))
  (.seq (.seq (.reg [
    ⟨(some 22), none, .faddr 7 (.s 2)⟩,
    ⟨(some 23), none, .load none (.s 22)⟩,
    ⟨(some 24), none, .faddr 7 (.s 3)⟩,
    ⟨(some 25), none, .load none (.s 24)⟩,
    ⟨(some 26), none, .bin .neq (.s 23) (.s 25)⟩] [26])
  (.cond (.s 26)
    (.seq (.reg [
      ⟨(some 4), none, .mov (.c (.t (.bool false)))⟩] [4])
    (.ret))
    (.skip)))
  (.seq (.reg [
    ⟨(some 4), none, .mov (.c (.t (.bool true)))⟩] [4])
  (.ret))))))⟩
theorem t_laws_eqCacheEntry : tbl 99 = some M_laws_eqCacheEntry := tblOf_eq Try.func99 (by kernel_rfl) (by kernel_rfl)

/-- loop.example/g01921/spec.RefuteModel -/
def B_spec_RefuteModel_0 : MCode :=
  .seq (.seq (.reg [
    ⟨(some 11), none, .mov (.s 5)⟩,
    ⟨(some 12), none, .bin .leq (.s 11) (.c (.t (.int .i64 5)))⟩] [1, 5, 12])
  (.cond (.s 12)
    (.skip)
    (.exit 0)))
  (.seq (.block 1 (.seq (.reg [
    ⟨(some 15), none, .load (some 30) (.s 1)⟩,
    ⟨(some 16), none, .mov (.s 5)⟩,
    ⟨(some 17), none, .call 71 [(.s 15), (.s 16)]⟩,
    ⟨(some 6), none, .alloc [(.t (.int .i64 0)), (.t (.int .i64 0)), (.t (.int .i64 0)), (.t (.int .i64 0)), (.t (.int .i64 0)), (.t .nil)]⟩,
    ⟨none, none, .store 6 (.s 6) (.s 17)⟩] [1, 5, 6])
  (.seq (.seq (.reg [
    ⟨(some 18), none, .load (some 6) (.s 6)⟩,
    ⟨(some 19), none, .call 88 [(.s 18)]⟩,
    ⟨(some 20), none, .un .not (.s 19)⟩] [1, 5, 6, 20])
  (.cond (.s 20)
    (.seq (.reg [
      ⟨(some 21), none, .mov (.s 5)⟩,
      ⟨(some 22), none, .bslice 3 1 0 [(.int .i64 0)] []⟩,
      ⟨(some 23), none, .bslice 3 1 0 [(.int .i64 0)] []⟩,
      ⟨(some 2), none, .mov (.s 21)⟩,
      ⟨(some 3), none, .mov (.s 22)⟩,
      ⟨(some 4), none, .mov (.s 23)⟩] [2, 3, 4])
    (.ret))
    (.skip)))
  (.seq (.reg [
    ⟨(some 25), none, .load (some 6) (.s 6)⟩,
    ⟨(some 26), none, .call 113 [(.s 25)]⟩,
    ⟨(some 24), none, .mov (.s 26)⟩,
    ⟨(some 27), none, .ext (.s 24) 0⟩,
    ⟨(some 28), none, .ext (.s 24) 1⟩,
    ⟨(some 29), none, .ext (.s 24) 2⟩,
    ⟨(some 7), none, .mov (.s 27)⟩,
    ⟨(some 8), none, .mov (.s 28)⟩,
    ⟨(some 9), none, .mov (.s 29)⟩] [1, 5, 6, 7, 8, 9])
  (.seq (.seq (.reg [
    ⟨(some 30), none, .mov (.s 9)⟩] [1, 5, 6, 7, 8, 30])
  (.cond (.s 30)
    (.seq (.reg [
      ⟨(some 31), none, .mov (.s 5)⟩,
      ⟨(some 32), none, .mov (.s 7)⟩,
      ⟨(some 33), none, .mov (.s 8)⟩,
      ⟨(some 2), none, .mov (.s 31)⟩,
      ⟨(some 3), none, .mov (.s 32)⟩,
      ⟨(some 4), none, .mov (.s 33)⟩] [2, 3, 4])
    (.ret))
    (.skip)))
  (.seq (.reg [
    ⟨(some 34), none, .load (some 6) (.s 6)⟩,
    ⟨(some 35), none, .call 114 [(.s 34)]⟩,
    ⟨(some 10), none, .mov (.s 35)⟩] [1, 5, 10])
  (.seq (.reg [
    ⟨(some 36), none, .mov (.s 10)⟩,
    ⟨(some 37), none, .len false (.s 36)⟩,
    ⟨(some 38), none, .bin .gtr (.s 37) (.c (.t (.int .i64 0)))⟩] [1, 5, 10, 38])
  (.cond (.s 38)
    (.seq (.reg [
      ⟨(some 39), none, .mov (.s 5)⟩,
      ⟨(some 40), none, .mov (.s 10)⟩,
      ⟨(some 41), none, .bslice 3 1 0 [(.int .i64 0)] []⟩,
      ⟨(some 2), none, .mov (.s 39)⟩,
      ⟨(some 3), none, .mov (.s 40)⟩,
      ⟨(some 4), none, .mov (.s 41)⟩] [2, 3, 4])
    (.ret))
    (.skip)))))))))
  (.reg [
    ⟨(some 13), none, .mov (.s 5)⟩,
    ⟨(some 14), none, .bin .add (.s 13) (.c (.t (.int .i64 1)))⟩,
    ⟨(some 5), none, .mov (.s 14)⟩] [1, 5]))

def M_spec_RefuteModel : MFun := ⟨1, 44, [.tmp 2, .tmp 3, .tmp 4],
  .seq (.reg [
    ⟨(some 1), none, .box (.s 0)⟩,
    ⟨(some 2), none, .mov (.c (.t (.int .i64 0)))⟩,
    ⟨(some 3), none, .mov (.c (.t .nil))⟩,
    ⟨(some 4), none, .mov (.c (.t .nil))⟩] [1])
  (.seq (.seq (.reg [
    ⟨(some 5), none, .mov (.c (.t (.int .i64 1)))⟩] [1, 5])
  (.block 0 (.loop [1, 5] B_spec_RefuteModel_0)))
  (.seq (.reg [
    ⟨(some 42), none, .bslice 3 1 0 [(.int .i64 0)] []⟩,
    ⟨(some 43), none, .bslice 3 1 0 [(.int .i64 0)] []⟩,
    ⟨(some 2), none, .mov (.c (.t (.int .i64 0)))⟩,
    ⟨(some 3), none, .mov (.s 42)⟩,
    ⟨(some 4), none, .mov (.s 43)⟩] [2, 3, 4])
  (.ret)))⟩
theorem t_spec_RefuteModel : tbl 100 = some M_spec_RefuteModel := tblOf_eq Try.func100 (by kernel_rfl) (by kernel_rfl)

/-- loop.example/g01921/impl.RefuteModel -/
def B_impl_RefuteModel_0 : MCode :=
  .seq (.reg [
    ⟨(some 43), none, .bin .lss (.s 42) (.s 41)⟩] [6, 7, 13, 14, 15, 40, 41, 42, 43])
  (.seq (.cond (.s 43)
    (.skip)
    (.exit 2))
  (.seq (.block 3 (.seq (.reg [
    ⟨(some 44), none, .iaddr 1 (.s 40) (.s 42)⟩,
    ⟨(some 45), none, .load none (.s 44)⟩,
    ⟨(some 12), none, .mov (.s 45)⟩] [6, 7, 12, 13, 14, 15, 40, 41, 42])
  (.seq (.reg [
    ⟨(some 46), none, .mov (.s 6)⟩,
    ⟨(some 47), none, .nilchk (.s 46)⟩,
    ⟨(some 48), none, .load (some 6) (.s 47)⟩,
    ⟨(some 49), none, .mov (.s 12)⟩,
    ⟨(some 50), none, .call 117 [(.s 48), (.s 49)]⟩,
    ⟨(some 51), none, .bin .lss (.s 50) (.c (.t (.int .i64 1)))⟩] [6, 7, 12, 13, 14, 15, 40, 41, 42, 51])
  (.cond (.s 51)
    (.seq (.reg [
      ⟨(some 52), none, .mov (.s 7)⟩,
      ⟨(some 53), none, .mov (.s 12)⟩,
      ⟨(some 2), none, .mov (.s 52)⟩,
      ⟨(some 3), none, .mov (.s 53)⟩,
      ⟨(some 4), none, .mov (.c (.t .nil))⟩] [2, 3, 4])
    (.ret))
    (.skip)))))
  (.reg [
    ⟨(some 54), none, .bin .add (.s 42) (.c (.t (.int .i64 1)))⟩,
    ⟨(some 42), none, .mov (.s 54)⟩] [6, 7, 13, 14, 15, 40, 41, 42])))

def B_impl_RefuteModel_1 : MCode :=
  .seq (.reg [
    ⟨(some 16), none, .bin .lss (.s 15) (.s 14)⟩] [13, 14, 15, 16])
  (.seq (.cond (.s 16)
    (.skip)
    (.exit 0))
  (.seq (.block 1 (.seq (.reg [
    ⟨(some 17), none, .mov (.s 15)⟩,
    ⟨(some 18), none, .iaddr 1 (.s 13) (.s 15)⟩,
    ⟨(some 19), none, .load none (.s 18)⟩,
    ⟨(some 5), none, .mov (.s 17)⟩,
    ⟨(some 6), none, .mov (.s 19)⟩] [5, 6, 13, 14, 15])
  (.seq (.reg [
    ⟨(some 20), none, .mov (.s 5)⟩,
    ⟨(some 21), none, .bin .add (.c (.t (.int .i64 1))) (.s 20)⟩,
    ⟨(some 7), none, .mov (.s 21)⟩] [6, 7, 13, 14, 15])
  (.seq (.seq (.reg [
    ⟨(some 22), none, .mov (.s 6)⟩,
    ⟨(some 23), none, .nilchk (.s 22)⟩,
    ⟨(some 24), none, .load (some 6) (.s 23)⟩,
    ⟨(some 25), none, .call 94 [(.s 24)]⟩,
    ⟨(some 26), none, .un .not (.s 25)⟩] [6, 7, 13, 14, 15, 26])
  (.cond (.s 26)
    (.seq (.reg [
      ⟨(some 27), none, .mov (.s 7)⟩,
      ⟨(some 2), none, .mov (.s 27)⟩,
      ⟨(some 3), none, .mov (.c (.t .nil))⟩,
      ⟨(some 4), none, .mov (.c (.t .nil))⟩] [2, 3, 4])
    (.ret))
    (.skip)))
  (.seq (.seq (.reg [
    ⟨(some 29), none, .mov (.s 6)⟩,
    ⟨(some 30), none, .nilchk (.s 29)⟩,
    ⟨(some 31), none, .load (some 6) (.s 30)⟩,
    ⟨(some 32), none, .call 115 [(.s 31)]⟩,
    ⟨(some 28), none, .mov (.s 32)⟩,
    ⟨(some 33), none, .ext (.s 28) 0⟩,
    ⟨(some 34), none, .ext (.s 28) 1⟩,
    ⟨(some 35), none, .ext (.s 28) 2⟩,
    ⟨(some 8), none, .mov (.s 33)⟩,
    ⟨(some 9), none, .mov (.s 34)⟩,
    ⟨(some 10), none, .mov (.s 35)⟩] [6, 7, 8, 9, 10, 13, 14, 15])
  (.seq (.reg [
    ⟨(some 36), none, .mov (.s 10)⟩] [6, 7, 8, 9, 13, 14, 15, 36])
  (.cond (.s 36)
    (.seq (.reg [
      ⟨(some 37), none, .mov (.s 7)⟩,
      ⟨(some 38), none, .mov (.s 8)⟩,
      ⟨(some 39), none, .mov (.s 9)⟩,
      ⟨(some 2), none, .mov (.s 37)⟩,
      ⟨(some 3), none, .mov (.s 38)⟩,
      ⟨(some 4), none, .mov (.s 39)⟩] [2, 3, 4])
    (.ret))
    (.skip))))
  (.seq (.reg [
    ⟨(some 40), none, .call 116 []⟩,
    ⟨(some 41), none, .len false (.s 40)⟩,
    ⟨(some 42), none, .mov (.c (.t (.int .i64 0)))⟩] [6, 7, 13, 14, 15, 40, 41, 42])
  (.block 2 (.loop [6, 7, 13, 14, 15, 40, 41, 42] B_impl_RefuteModel_0))))))))
  (.reg [
    ⟨(some 55), none, .bin .add (.s 15) (.c (.t (.int .i64 1)))⟩,
    ⟨(some 15), none, .mov (.s 55)⟩] [13, 14, 15])))

def M_impl_RefuteModel : MFun := ⟨1, 56, [.tmp 2, .tmp 3, .tmp 4],
  .seq (.reg [
    ⟨(some 1), none, .box (.s 0)⟩,
    ⟨(some 2), none, .mov (.c (.t (.int .i64 0)))⟩,
    ⟨(some 3), none, .mov (.c (.t .nil))⟩,
    ⟨(some 4), none, .mov (.c (.t .nil))⟩] [1])
  (.seq (.seq (.reg [
    ⟨(some 13), none, .pcall 73 [(.s 1)]⟩,
    ⟨(some 14), none, .len false (.s 13)⟩,
    ⟨(some 15), none, .mov (.c (.t (.int .i64 0)))⟩] [13, 14, 15])
  (.block 0 (.loop [13, 14, 15] B_impl_RefuteModel_1)))
  (.seq (.reg [
    ⟨(some 2), none, .mov (.c (.t (.int .i64 0)))⟩,
    ⟨(some 3), none, .mov (.c (.t .nil))⟩,
    ⟨(some 4), none, .mov (.c (.t .nil))⟩] [2, 3, 4])
  (.ret)))⟩
theorem t_impl_RefuteModel : tbl 101 = some M_impl_RefuteModel := tblOf_eq Try.func101 (by kernel_rfl) (by kernel_rfl)

/-- slices.EqualFunc[[][]int,[][]int,[]int,[]int] -/
def B_slices_EqualFunc_____int_____int___int___int__0 : MCode :=
  .seq (.reg [
    ⟨(some 18), none, .bin .lss (.s 17) (.s 16)⟩] [1, 2, 15, 16, 17, 18])
  (.seq (.cond (.s 18)
    (.skip)
    (.exit 0))
  (.seq (.block 1 (.seq (.reg [
    ⟨(some 19), none, .mov (.s 17)⟩,
    ⟨(some 20), none, .iaddr 1 (.s 15) (.s 17)⟩,
    ⟨(some 21), none, .load none (.s 20)⟩,
    ⟨(some 7), none, .mov (.s 19)⟩,
    ⟨(some 8), none, .mov (.s 21)⟩] [1, 2, 7, 8, 15, 16, 17])
  (.seq (.reg [
    ⟨(some 22), none, .mov (.s 1)⟩,
    ⟨(some 23), none, .mov (.s 7)⟩,
    ⟨(some 24), none, .iaddr 1 (.s 22) (.s 23)⟩,
    ⟨(some 25), none, .load none (.s 24)⟩,
    ⟨(some 9), none, .mov (.s 25)⟩] [1, 2, 8, 9, 15, 16, 17])
  (.seq (.reg [
    ⟨(some 26), none, .mov (.s 2)⟩,
    ⟨(some 27), none, .mov (.s 8)⟩,
    ⟨(some 28), none, .mov (.s 9)⟩,
    ⟨(some 29), none, .dcall (.s 26) [(.s 27), (.s 28)]⟩,
    ⟨(some 30), none, .un .not (.s 29)⟩] [1, 2, 15, 16, 17, 30])
  (.cond (.s 30)
    (.seq (.reg [
      ⟨(some 6), none, .mov (.c (.t (.bool false)))⟩] [6])
    (.ret))
    (.skip))))))
  (.reg [
    ⟨(some 31), none, .bin .add (.s 17) (.c (.t (.int .i64 1)))⟩,
    ⟨(some 17), none, .mov (.s 31)⟩] [1, 2, 15, 16, 17])))

def M_slices_EqualFunc_____int_____int___int___int_ : MFun := ⟨3, 32, [.tmp 6],
  .seq (.reg [
    ⟨(some 6), none, .mov (.c (.t (.bool false)))⟩] [0, 1, 2])
  (.seq (.seq (.reg [
    ⟨(some 10), none, .mov (.s 0)⟩,
    ⟨(some 11), none, .len false (.s 10)⟩,
    ⟨(some 12), none, .mov (.s 1)⟩,
    ⟨(some 13), none, .len false (.s 12)⟩,
    ⟨(some 14), none, .bin .neq (.s 11) (.s 13)⟩] [0, 1, 2, 14])
  (.cond (.s 14)
    (.seq (.reg [
      ⟨(some 6), none, .mov (.c (.t (.bool false)))⟩] [6])
    (.ret))
    (.skip)))
  (.seq (.seq (.reg [
    ⟨(some 15), none, .mov (.s 0)⟩,
    ⟨(some 16), none, .len false (.s 15)⟩,
    ⟨(some 17), none, .mov (.c (.t (.int .i64 0)))⟩] [1, 2, 15, 16, 17])
  (.block 0 (.loop [1, 2, 15, 16, 17] B_slices_EqualFunc_____int_____int___int___int__0)))
  (.seq (.reg [
    ⟨(some 6), none, .mov (.c (.t (.bool true)))⟩] [6])
  (.ret))))⟩
theorem t_slices_EqualFunc_____int_____int___int___int_ : tbl 102 = some M_slices_EqualFunc_____int_____int___int___int_ := tblOf_eq Try.func102 (by kernel_rfl) (by kernel_rfl)

/-- loop.example/g01921/impl.equalRows$1 -/
def M_impl_equalRows_1 : MFun := ⟨2, 8, [.tmp 4],
  .seq (.reg [
    ⟨(some 4), none, .mov (.c (.t (.bool false)))⟩] [0, 1])
  (.seq (.reg [
    ⟨(some 5), none, .mov (.s 0)⟩,
    ⟨(some 6), none, .mov (.s 1)⟩,
    ⟨(some 7), none, .call 79 [(.s 5), (.s 6)]⟩,
    ⟨(some 4), none, .mov (.s 7)⟩] [4])
  (.ret))⟩
theorem t_impl_equalRows_1 : tbl 103 = some M_impl_equalRows_1 := tblOf_eq Try.func103 (by kernel_rfl) (by kernel_rfl)

/-- loop.example/g01921/laws.toPlanStep -/
def M_laws_toPlanStep : MFun := ⟨1, 14, [.cell 2 (some 3)],
  .seq (.reg [
    ⟨(some 1), none, .box (.s 0)⟩,
    ⟨(some 2), none, .alloc [(.t (.int .i64 0)), (.t (.int .i64 0)), (.t (.int .i64 0))]⟩] [1, 2])
  (.seq (.reg [
    ⟨(some 3), none, .alloc [(.t (.int .i64 0)), (.t (.int .i64 0)), (.t (.int .i64 0))]⟩] [1, 2, 3])
  (.seq (.reg [
    ⟨(some 4), none, .faddr 0 (.s 1)⟩,
    ⟨(some 5), none, .load none (.s 4)⟩,
    ⟨(some 6), none, .faddr 0 (.s 3)⟩,
    ⟨none, none, .store 1 (.s 6) (.s 5)⟩] [1, 2, 3])
  (.seq (.reg [
    ⟨(some 7), none, .faddr 1 (.s 1)⟩,
    ⟨(some 8), none, .load none (.s 7)⟩,
    ⟨(some 9), none, .faddr 1 (.s 3)⟩,
    ⟨none, none, .store 1 (.s 9) (.s 8)⟩] [1, 2, 3])
  (.seq (.reg [
    ⟨(some 10), none, .faddr 2 (.s 1)⟩,
    ⟨(some 11), none, .load none (.s 10)⟩,
    ⟨(some 12), none, .faddr 2 (.s 3)⟩,
    ⟨none, none, .store 1 (.s 12) (.s 11)⟩] [2, 3])
  (.seq (.reg [
    ⟨(some 13), none, .load (some 3) (.s 3)⟩,
    ⟨none, none, .store 3 (.s 2) (.s 13)⟩] [2])
  (.ret))))))⟩
theorem t_laws_toPlanStep : tbl 104 = some M_laws_toPlanStep := tblOf_eq Try.func104 (by kernel_rfl) (by kernel_rfl)

/-- loop.example/g01921/laws.eqPlanStep -/
def M_laws_eqPlanStep : MFun := ⟨2, 20, [.tmp 4],
  .seq (.reg [
    ⟨(some 2), none, .box (.s 0)⟩,
    ⟨(some 3), none, .box (.s 1)⟩,
    ⟨(some 4), none, .mov (.c (.t (.bool false)))⟩] [2, 3])
  (.seq (.seq (.reg [
    ⟨(some 5), none, .faddr 0 (.s 2)⟩,
    ⟨(some 6), none, .load none (.s 5)⟩,
    ⟨(some 7), none, .faddr 0 (.s 3)⟩,
    ⟨(some 8), none, .load none (.s 7)⟩,
    ⟨(some 9), none, .bin .neq (.s 6) (.s 8)⟩] [2, 3, 9])
  (.cond (.s 9)
    (.seq (.reg [
      ⟨(some 4), none, .mov (.c (.t (.bool false)))⟩] [4])
    (.ret))
    (.skip)))
  (.seq (.seq (.reg [
    ⟨(some 10), none, .faddr 1 (.s 2)⟩,
    ⟨(some 11), none, .load none (.s 10)⟩,
    ⟨(some 12), none, .faddr 1 (.s 3)⟩,
    ⟨(some 13), none, .load none (.s 12)⟩,
    ⟨(some 14), none, .bin .neq (.s 11) (.s 13)⟩] [2, 3, 14])
  (.cond (.s 14)
    (.seq (.reg [
      ⟨(some 4), none, .mov (.c (.t (.bool false)))⟩] [4])
    (.ret))
    (.skip)))
  (.seq (.seq (.reg [
    ⟨(some 15), none, .faddr 2 (.s 2)⟩,
    ⟨(some 16), none, .load none (.s 15)⟩,
    ⟨(some 17), none, .faddr 2 (.s 3)⟩,
    ⟨(some 18), none, .load none (.s 17)⟩,
    ⟨(some 19), none, .bin .neq (.s 16) (.s 18)⟩] [19])
  (.cond (.s 19)
    (.seq (.reg [
      ⟨(some 4), none, .mov (.c (.t (.bool false)))⟩] [4])
    (.ret))
    (.skip)))
  (.seq (.reg [
    ⟨(some 4), none, .mov (.c (.t (.bool true)))⟩] [4])
  (.ret)))))⟩
theorem t_laws_eqPlanStep : tbl 105 = some M_laws_eqPlanStep := tblOf_eq Try.func105 (by kernel_rfl) (by kernel_rfl)

/-- loop.example/g01921/spec.l21Coefficient -/
def M_spec_l21Coefficient : MFun := ⟨1, 5, [.tmp 2],
  .seq (.reg [
    ⟨(some 2), none, .mov (.c (.t (.bool false)))⟩] [0])
  (.seq (.reg [
    ⟨(some 3), none, .mov (.s 0)⟩,
    ⟨(some 4), none, .call 42 [(.s 3), (.c (.t (.int .i64 (-99)))), (.c (.t (.int .i64 99)))]⟩,
    ⟨(some 2), none, .mov (.s 4)⟩] [2])
  (.ret))⟩
theorem t_spec_l21Coefficient : tbl 106 = some M_spec_l21Coefficient := tblOf_eq Try.func106 (by kernel_rfl) (by kernel_rfl)

/-- loop.example/g01921/laws.toCostStep -/
def M_laws_toCostStep : MFun := ⟨1, 11, [.cell 2 (some 2)],
  .seq (.reg [
    ⟨(some 1), none, .box (.s 0)⟩,
    ⟨(some 2), none, .alloc [(.t (.int .i64 0)), (.t (.int .i64 0))]⟩] [1, 2])
  (.seq (.reg [
    ⟨(some 3), none, .alloc [(.t (.int .i64 0)), (.t (.int .i64 0))]⟩] [1, 2, 3])
  (.seq (.reg [
    ⟨(some 4), none, .faddr 0 (.s 1)⟩,
    ⟨(some 5), none, .load none (.s 4)⟩,
    ⟨(some 6), none, .faddr 0 (.s 3)⟩,
    ⟨none, none, .store 1 (.s 6) (.s 5)⟩] [1, 2, 3])
  (.seq (.reg [
    ⟨(some 7), none, .faddr 1 (.s 1)⟩,
    ⟨(some 8), none, .load none (.s 7)⟩,
    ⟨(some 9), none, .faddr 1 (.s 3)⟩,
    ⟨none, none, .store 1 (.s 9) (.s 8)⟩] [2, 3])
  (.seq (.reg [
    ⟨(some 10), none, .load (some 2) (.s 3)⟩,
    ⟨none, none, .store 2 (.s 2) (.s 10)⟩] [2])
  (.ret)))))⟩
theorem t_laws_toCostStep : tbl 107 = some M_laws_toCostStep := tblOf_eq Try.func107 (by kernel_rfl) (by kernel_rfl)

/-- loop.example/g01921/impl.coefficients -/
def M_impl_coefficients : MFun := ⟨1, 19, [.tmp 2],
  .seq (.reg [
    ⟨(some 2), none, .mov (.c (.t .nil))⟩] [0])
  (.seq (.drw [
    ⟨(some 3), none, .mov (.s 0)⟩,
    ⟨(some 4), none, .nilchk (.s 3)⟩,
    ⟨(some 5), none, .faddr 0 (.s 4)⟩,
    ⟨(some 6), none, .mov (.s 0)⟩,
    ⟨(some 7), none, .nilchk (.s 6)⟩,
    ⟨(some 8), none, .faddr 1 (.s 7)⟩,
    ⟨(some 9), none, .mov (.s 0)⟩,
    ⟨(some 10), none, .nilchk (.s 9)⟩,
    ⟨(some 11), none, .faddr 2 (.s 10)⟩,
    ⟨(some 12), none, .mov (.s 0)⟩,
    ⟨(some 13), none, .nilchk (.s 12)⟩,
    ⟨(some 14), none, .faddr 3 (.s 13)⟩,
    ⟨(some 15), none, .mov (.s 0)⟩,
    ⟨(some 16), none, .nilchk (.s 15)⟩,
    ⟨(some 17), none, .faddr 4 (.s 16)⟩,
    ⟨(some 18), none, .bptrs 5 [(0, (.s 5)), (1, (.s 8)), (2, (.s 11)), (3, (.s 14)), (4, (.s 17))]⟩,
    ⟨(some 2), none, .mov (.s 18)⟩] [[], [0], [1], [], [3], [4], [], [6], [7], [], [9], [10], [], [12], [13], [2, 5, 8, 11, 14], [15, 0, 1, 2, 3, 4, 5, 6, 7, 8, 9, 10, 11, 12, 13, 14, 15]] [2])
  (.ret))⟩
theorem t_impl_coefficients : tbl 108 = some M_impl_coefficients := tblOf_eq Try.func108 (by kernel_rfl) (by kernel_rfl)

/-- loop.example/g01921/laws.eqCostStep -/
def M_laws_eqCostStep : MFun := ⟨2, 15, [.tmp 4],
  .seq (.reg [
    ⟨(some 2), none, .box (.s 0)⟩,
    ⟨(some 3), none, .box (.s 1)⟩,
    ⟨(some 4), none, .mov (.c (.t (.bool false)))⟩] [2, 3])
  (.seq (.seq (.reg [
    ⟨(some 5), none, .faddr 0 (.s 2)⟩,
    ⟨(some 6), none, .load none (.s 5)⟩,
    ⟨(some 7), none, .faddr 0 (.s 3)⟩,
    ⟨(some 8), none, .load none (.s 7)⟩,
    ⟨(some 9), none, .bin .neq (.s 6) (.s 8)⟩] [2, 3, 9])
  (.cond (.s 9)
    (.seq (.reg [
      ⟨(some 4), none, .mov (.c (.t (.bool false)))⟩] [4])
    (.ret))
    (.skip)))
  (.seq (.seq (.reg [
    ⟨(some 10), none, .faddr 1 (.s 2)⟩,
    ⟨(some 11), none, .load none (.s 10)⟩,
    ⟨(some 12), none, .faddr 1 (.s 3)⟩,
    ⟨(some 13), none, .load none (.s 12)⟩,
    ⟨(some 14), none, .bin .neq (.s 11) (.s 13)⟩] [14])
  (.cond (.s 14)
    (.seq (.reg [
      ⟨(some 4), none, .mov (.c (.t (.bool false)))⟩] [4])
    (.ret))
    (.skip)))
  (.seq (.reg [
    ⟨(some 4), none, .mov (.c (.t (.bool true)))⟩] [4])
  (.ret))))⟩
theorem t_laws_eqCostStep : tbl 109 = some M_laws_eqCostStep := tblOf_eq Try.func109 (by kernel_rfl) (by kernel_rfl)

/-- loop.example/g01921/laws.szQuery -/
def M_laws_szQuery : MFun := ⟨2, 12, [.tmp 4],
  .seq (.reg [
    ⟨(some 2), none, .box (.s 0)⟩,
    ⟨(some 4), none, .mov (.c (.t (.int .i64 0)))⟩] [1, 2])
  (.seq (.reg [
    ⟨(some 5), none, .faddr 1 (.s 2)⟩,
    ⟨(some 6), none, .load none (.s 5)⟩,
    ⟨(some 7), none, .mov (.s 1)⟩,
    ⟨(some 8), none, .call 118 [(.s 6), (.s 7)]⟩,
    ⟨(some 1), none, .mov (.s 8)⟩] [1])
  (.seq (.seq (.reg [
    ⟨(some 9), none, .mov (.s 1)⟩,
    ⟨(some 10), none, .bin .lss (.s 9) (.c (.t (.int .i64 0)))⟩] [1, 10])
  (.cond (.s 10)
    (.seq (.reg [
      ⟨(some 4), none, .mov (.c (.t (.int .i64 (-1))))⟩] [4])
    (.ret))
    (.skip)))
  (.seq (.reg [
    ⟨(some 11), none, .mov (.s 1)⟩,
    ⟨(some 4), none, .mov (.s 11)⟩] [4])
  (.ret))))⟩
theorem t_laws_szQuery : tbl 110 = some M_laws_szQuery := tblOf_eq Try.func110 (by kernel_rfl) (by kernel_rfl)

/-- loop.example/g01921/laws.toQuery -/
def M_laws_toQuery : MFun := ⟨1, 12, [.cell 2 (some 2)],
  .seq (.reg [
    ⟨(some 1), none, .box (.s 0)⟩,
    ⟨(some 2), none, .alloc [(.t (.int .i64 0)), (.t .nil)]⟩] [1, 2])
  (.seq (.reg [
    ⟨(some 3), none, .alloc [(.t (.int .i64 0)), (.t .nil)]⟩] [1, 2, 3])
  (.seq (.reg [
    ⟨(some 4), none, .faddr 0 (.s 1)⟩,
    ⟨(some 5), none, .load none (.s 4)⟩,
    ⟨(some 6), none, .faddr 0 (.s 3)⟩,
    ⟨none, none, .store 1 (.s 6) (.s 5)⟩] [1, 2, 3])
  (.seq (.reg [
    ⟨(some 7), none, .faddr 1 (.s 1)⟩,
    ⟨(some 8), none, .load none (.s 7)⟩,
    ⟨(some 9), none, .call 119 [(.s 8)]⟩,
    ⟨(some 10), none, .faddr 1 (.s 3)⟩,
    ⟨none, none, .store 1 (.s 10) (.s 9)⟩] [2, 3])
  (.seq (.reg [
    ⟨(some 11), none, .load (some 2) (.s 3)⟩,
    ⟨none, none, .store 2 (.s 2) (.s 11)⟩] [2])
  (.ret)))))⟩
theorem t_laws_toQuery : tbl 111 = some M_laws_toQuery := tblOf_eq Try.func111 (by kernel_rfl) (by kernel_rfl)

/-- loop.example/g01921/laws.eqQuery -/
def M_laws_eqQuery : MFun := ⟨2, 16, [.tmp 4],
  .seq (.reg [
    ⟨(some 2), none, .box (.s 0)⟩,
    ⟨(some 3), none, .box (.s 1)⟩,
    ⟨(some 4), none, .mov (.c (.t (.bool false)))⟩] [2, 3])
  (.seq (.seq (.reg [
    ⟨(some 5), none, .faddr 0 (.s 2)⟩,
    ⟨(some 6), none, .load none (.s 5)⟩,
    ⟨(some 7), none, .faddr 0 (.s 3)⟩,
    ⟨(some 8), none, .load none (.s 7)⟩,
    ⟨(some 9), none, .bin .neq (.s 6) (.s 8)⟩] [2, 3, 9])
  (.cond (.s 9)
    (.seq (.reg [
      ⟨(some 4), none, .mov (.c (.t (.bool false)))⟩] [4])
    (.ret))
    (.skip)))
  (.seq (.seq (.reg [
    ⟨(some 10), none, .faddr 1 (.s 2)⟩,
    ⟨(some 11), none, .load none (.s 10)⟩,
    ⟨(some 12), none, .faddr 1 (.s 3)⟩,
    ⟨(some 13), none, .load none (.s 12)⟩,
    ⟨(some 14), none, .call 120 [(.s 11), (.s 13)]⟩,
    ⟨(some 15), none, .un .not (.s 14)⟩] [15])
  (.cond (.s 15)
    (.seq (.reg [
      ⟨(some 4), none, .mov (.c (.t (.bool false)))⟩] [4])
    (.ret))
    (.skip)))
  (.seq (.reg [
    ⟨(some 4), none, .mov (.c (.t (.bool true)))⟩] [4])
  (.ret))))⟩
theorem t_laws_eqQuery : tbl 112 = some M_laws_eqQuery := tblOf_eq Try.func112 (by kernel_rfl) (by kernel_rfl)

/-- loop.example/g01921/spec.FindDecrease -/
def B_spec_FindDecrease_0 : MCode :=
  .seq (.seq (.reg [
    ⟨(some 32), none, .mov (.s 9)⟩,
    ⟨(some 33), none, .bin .lss (.s 32) (.c (.t (.int .i64 3)))⟩] [1, 5, 6, 7, 8, 9, 33])
  (.cond (.s 33)
    (.skip)
    (.exit 6)))
  (.seq (.block 7 (.seq (.reg [
    ⟨(some 36), none, .bslice 3 1 0 [(.int .i64 0)] []⟩,
    ⟨(some 37), none, .mov (.s 8)⟩,
    ⟨(some 38), none, .append 3 1 8 false (.s 36) (.s 37)⟩,
    ⟨(some 10), none, .mov (.s 38)⟩] [1, 5, 6, 7, 8, 9, 10])
  (.seq (.reg [
    ⟨(some 39), none, .mov (.s 10)⟩,
    ⟨(some 40), none, .mov (.s 9)⟩,
    ⟨(some 41), none, .mov (.s 10)⟩,
    ⟨(some 42), none, .mov (.s 9)⟩,
    ⟨(some 43), none, .iaddr 1 (.s 41) (.s 42)⟩,
    ⟨(some 44), none, .load none (.s 43)⟩,
    ⟨(some 45), none, .bin .add (.s 44) (.c (.t (.int .i64 1)))⟩,
    ⟨(some 46), none, .iaddr 1 (.s 39) (.s 40)⟩,
    ⟨none, none, .store 1 (.s 46) (.s 45)⟩] [1, 5, 6, 7, 8, 9, 10])
  (.seq (.drw [
    ⟨(some 47), none, .mov (.s 10)⟩,
    ⟨(some 48), none, .mov (.s 9)⟩,
    ⟨(some 49), none, .iaddr 1 (.s 47) (.s 48)⟩,
    ⟨(some 50), none, .load none (.s 49)⟩,
    ⟨(some 51), none, .bin .leq (.s 50) (.c (.t (.int .i64 7)))⟩,
    ⟨(some 52), none, .mov (.s 51)⟩,
    ⟨(some 53), (some (52, true)), .load (some 6) (.s 1)⟩,
    ⟨(some 54), (some (52, true)), .mov (.s 10)⟩,
    ⟨(some 55), (some (52, true)), .call 121 [(.s 53), (.s 54)]⟩,
    ⟨(some 56), (some (52, true)), .load (some 6) (.s 1)⟩,
    ⟨(some 57), (some (52, true)), .mov (.s 8)⟩,
    ⟨(some 58), (some (52, true)), .call 121 [(.s 56), (.s 57)]⟩,
    ⟨(some 59), (some (52, true)), .bin .lss (.s 55) (.s 58)⟩,
    ⟨(some 60), none, .pick (.s 52) (.s 59) (.c (.t (.bool false)))⟩] [[], [], [0, 1], [2], [3], [4], [5], [5], [6, 7, 5, 5], [5], [5], [9, 10, 8, 5], [8, 11, 5], [5, 12]] [1, 5, 6, 7, 8, 9, 10, 60])
  (.cond (.s 60)
    (.seq (.reg [
      ⟨(some 61), none, .mov (.s 8)⟩,
      ⟨(some 62), none, .mov (.s 10)⟩,
      ⟨(some 2), none, .mov (.s 61)⟩,
      ⟨(some 3), none, .mov (.s 62)⟩,
      ⟨(some 4), none, .mov (.c (.t (.bool true)))⟩] [2, 3, 4])
    (.ret))
    (.skip))))))
  (.reg [
    ⟨(some 34), none, .mov (.s 9)⟩,
    ⟨(some 35), none, .bin .add (.s 34) (.c (.t (.int .i64 1)))⟩,
    ⟨(some 9), none, .mov (.s 35)⟩] [1, 5, 6, 7, 8, 9]))

def B_spec_FindDecrease_1 : MCode :=
  .seq (.seq (.reg [
    ⟨(some 24), none, .mov (.s 7)⟩,
    ⟨(some 25), none, .bin .leq (.s 24) (.c (.t (.int .i64 7)))⟩] [1, 5, 6, 7, 25])
  (.cond (.s 25)
    (.skip)
    (.exit 4)))
  (.seq (.block 5 (.seq (.reg [
    ⟨(some 28), none, .mov (.s 5)⟩,
    ⟨(some 29), none, .mov (.s 6)⟩,
    ⟨(some 30), none, .mov (.s 7)⟩,
    ⟨(some 31), none, .bslice 3 1 3 [(.int .i64 0)] [(0, (.s 28)), (1, (.s 29)), (2, (.s 30))]⟩,
    ⟨(some 8), none, .mov (.s 31)⟩] [1, 5, 6, 7, 8])
  (.seq (.reg [
    ⟨(some 9), none, .mov (.c (.t (.int .i64 0)))⟩] [1, 5, 6, 7, 8, 9])
  (.block 6 (.loop [1, 5, 6, 7, 8, 9] B_spec_FindDecrease_0)))))
  (.reg [
    ⟨(some 26), none, .mov (.s 7)⟩,
    ⟨(some 27), none, .bin .add (.s 26) (.c (.t (.int .i64 1)))⟩,
    ⟨(some 7), none, .mov (.s 27)⟩] [1, 5, 6, 7]))

def B_spec_FindDecrease_2 : MCode :=
  .seq (.seq (.reg [
    ⟨(some 20), none, .mov (.s 6)⟩,
    ⟨(some 21), none, .bin .leq (.s 20) (.c (.t (.int .i64 7)))⟩] [1, 5, 6, 21])
  (.cond (.s 21)
    (.skip)
    (.exit 2)))
  (.seq (.block 3 (.seq (.reg [
    ⟨(some 7), none, .mov (.c (.t (.int .i64 0)))⟩] [1, 5, 6, 7])
  (.block 4 (.loop [1, 5, 6, 7] B_spec_FindDecrease_1))))
  (.reg [
    ⟨(some 22), none, .mov (.s 6)⟩,
    ⟨(some 23), none, .bin .add (.s 22) (.c (.t (.int .i64 1)))⟩,
    ⟨(some 6), none, .mov (.s 23)⟩] [1, 5, 6]))

def B_spec_FindDecrease_3 : MCode :=
  .seq (.seq (.reg [
    ⟨(some 16), none, .mov (.s 5)⟩,
    ⟨(some 17), none, .bin .leq (.s 16) (.c (.t (.int .i64 7)))⟩] [1, 5, 17])
  (.cond (.s 17)
    (.skip)
    (.exit 0)))
  (.seq (.block 1 (.seq (.reg [
    ⟨(some 6), none, .mov (.c (.t (.int .i64 0)))⟩] [1, 5, 6])
  (.block 2 (.loop [1, 5, 6] B_spec_FindDecrease_2))))
  (.reg [
    ⟨(some 18), none, .mov (.s 5)⟩,
    ⟨(some 19), none, .bin .add (.s 18) (.c (.t (.int .i64 1)))⟩,
    ⟨(some 5), none, .mov (.s 19)⟩] [1, 5]))

def M_spec_FindDecrease : MFun := ⟨1, 65, [.tmp 2, .tmp 3, .tmp 4],
  .seq (.reg [
    ⟨(some 1), none, .box (.s 0)⟩,
    ⟨(some 2), none, .mov (.c (.t .nil))⟩,
    ⟨(some 3), none, .mov (.c (.t .nil))⟩,
    ⟨(some 4), none, .mov (.c (.t (.bool false)))⟩] [1])
  (.seq (.seq (.reg [
    ⟨(some 11), none, .load (some 6) (.s 1)⟩,
    ⟨(some 12), none, .call 88 [(.s 11)]⟩,
    ⟨(some 13), none, .un .not (.s 12)⟩] [1, 13])
  (.cond (.s 13)
    (.seq (.reg [
      ⟨(some 14), none, .bslice 3 1 0 [(.int .i64 0)] []⟩,
      ⟨(some 15), none, .bslice 3 1 0 [(.int .i64 0)] []⟩,
      ⟨(some 2), none, .mov (.s 14)⟩,
      ⟨(some 3), none, .mov (.s 15)⟩,
      ⟨(some 4), none, .mov (.c (.t (.bool false)))⟩] [2, 3, 4])
    (.ret))
    (.skip)))
  (.seq (.seq (.reg [
    ⟨(some 5), none, .mov (.c (.t (.int .i64 0)))⟩] [1, 5])
  (.block 0 (.loop [1, 5] B_spec_FindDecrease_3)))
  (.seq (.reg [
    ⟨(some 63), none, .bslice 3 1 0 [(.int .i64 0)] []⟩,
    ⟨(some 64), none, .bslice 3 1 0 [(.int .i64 0)] []⟩,
    ⟨(some 2), none, .mov (.s 63)⟩,
    ⟨(some 3), none, .mov (.s 64)⟩,
    ⟨(some 4), none, .mov (.c (.t (.bool false)))⟩] [2, 3, 4])
  (.ret))))⟩
theorem t_spec_FindDecrease : tbl 113 = some M_spec_FindDecrease := tblOf_eq Try.func113 (by kernel_rfl) (by kernel_rfl)

/-- loop.example/g01921/spec.l22Cheap -/
def B_spec_l22Cheap_0 : MCode :=
  .seq (.seq (.reg [
    ⟨(some 14), none, .mov (.s 5)⟩,
    ⟨(some 15), none, .bin .leq (.s 14) (.c (.t (.int .i64 7)))⟩] [1, 3, 4, 5, 15])
  (.cond (.s 15)
    (.skip)
    (.exit 4)))
  (.seq (.block 5 (.seq (.reg [
    ⟨(some 18), none, .load (some 6) (.s 1)⟩,
    ⟨(some 19), none, .mov (.s 3)⟩,
    ⟨(some 20), none, .mov (.s 4)⟩,
    ⟨(some 21), none, .mov (.s 5)⟩,
    ⟨(some 22), none, .bslice 3 1 3 [(.int .i64 0)] [(0, (.s 19)), (1, (.s 20)), (2, (.s 21))]⟩,
    ⟨(some 23), none, .call 121 [(.s 18), (.s 22)]⟩,
    ⟨(some 24), none, .bin .lss (.s 23) (.c (.t (.int .i64 1)))⟩] [1, 3, 4, 5, 24])
  (.cond (.s 24)
    (.seq (.reg [
      ⟨(some 25), none, .mov (.s 3)⟩,
      ⟨(some 26), none, .mov (.s 4)⟩,
      ⟨(some 27), none, .mov (.s 5)⟩,
      ⟨(some 28), none, .bslice 3 1 3 [(.int .i64 0)] [(0, (.s 25)), (1, (.s 26)), (2, (.s 27))]⟩,
      ⟨(some 2), none, .mov (.s 28)⟩] [2])
    (.ret))
    (.skip))))
  (.reg [
    ⟨(some 16), none, .mov (.s 5)⟩,
    ⟨(some 17), none, .bin .add (.s 16) (.c (.t (.int .i64 1)))⟩,
    ⟨(some 5), none, .mov (.s 17)⟩] [1, 3, 4, 5]))

def B_spec_l22Cheap_1 : MCode :=
  .seq (.seq (.reg [
    ⟨(some 10), none, .mov (.s 4)⟩,
    ⟨(some 11), none, .bin .leq (.s 10) (.c (.t (.int .i64 7)))⟩] [1, 3, 4, 11])
  (.cond (.s 11)
    (.skip)
    (.exit 2)))
  (.seq (.block 3 (.seq (.reg [
    ⟨(some 5), none, .mov (.c (.t (.int .i64 0)))⟩] [1, 3, 4, 5])
  (.block 4 (.loop [1, 3, 4, 5] B_spec_l22Cheap_0))))
  (.reg [
    ⟨(some 12), none, .mov (.s 4)⟩,
    ⟨(some 13), none, .bin .add (.s 12) (.c (.t (.int .i64 1)))⟩,
    ⟨(some 4), none, .mov (.s 13)⟩] [1, 3, 4]))

def B_spec_l22Cheap_2 : MCode :=
  .seq (.seq (.reg [
    ⟨(some 6), none, .mov (.s 3)⟩,
    ⟨(some 7), none, .bin .leq (.s 6) (.c (.t (.int .i64 7)))⟩] [1, 3, 7])
  (.cond (.s 7)
    (.skip)
    (.exit 0)))
  (.seq (.block 1 (.seq (.reg [
    ⟨(some 4), none, .mov (.c (.t (.int .i64 0)))⟩] [1, 3, 4])
  (.block 2 (.loop [1, 3, 4] B_spec_l22Cheap_1))))
  (.reg [
    ⟨(some 8), none, .mov (.s 3)⟩,
    ⟨(some 9), none, .bin .add (.s 8) (.c (.t (.int .i64 1)))⟩,
    ⟨(some 3), none, .mov (.s 9)⟩] [1, 3]))

def M_spec_l22Cheap : MFun := ⟨1, 30, [.tmp 2],
  .seq (.reg [
    ⟨(some 1), none, .box (.s 0)⟩,
    ⟨(some 2), none, .mov (.c (.t .nil))⟩] [1])
  (.seq (.seq (.reg [
    ⟨(some 3), none, .mov (.c (.t (.int .i64 0)))⟩] [1, 3])
  (.block 0 (.loop [1, 3] B_spec_l22Cheap_2)))
  (.seq (.reg [
    ⟨(some 29), none, .bslice 3 1 0 [(.int .i64 0)] []⟩,
    ⟨(some 2), none, .mov (.s 29)⟩] [2])
  (.ret)))⟩
theorem t_spec_l22Cheap : tbl 114 = some M_spec_l22Cheap := tblOf_eq Try.func114 (by kernel_rfl) (by kernel_rfl)

end Go.Proofs.Ytlnnmndebmkdhaa
