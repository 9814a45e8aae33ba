/-
  The code of the functions, as printed by program.
-/
import Derived.Test.YtiniphmomjnocaaK1
namespace Go.Proofs.Ytiniphmomjnocaa
open Go.AM

/-- loop.example/g01921/laws.eqPlanS -/
def B_laws_eqPlanS_0 : MCode :=
  .seq (.seq (.reg [
    ⟨(some 11), none, .mov (.s 5)⟩,
    ⟨(some 12), none, .mov (.s 0)⟩,
    ⟨(some 13), none, .len false (.s 12)⟩,
    ⟨(some 14), none, .bin .lss (.s 11) (.s 13)⟩] [0, 1, 5, 14])
  (.cond (.s 14)
    (.skip)
    (.exit 0)))
  (.seq (.block 1 (.seq (.drw [
    ⟨(some 17), none, .mov (.s 0)⟩,
    ⟨(some 18), none, .mov (.s 5)⟩,
    ⟨(some 19), none, .iaddr 1 (.s 17) (.s 18)⟩,
    ⟨(some 20), none, .load (some 1) (.s 19)⟩,
    ⟨(some 21), none, .mov (.s 1)⟩,
    ⟨(some 22), none, .mov (.s 5)⟩,
    ⟨(some 23), none, .iaddr 1 (.s 21) (.s 22)⟩,
    ⟨(some 24), none, .load (some 1) (.s 23)⟩,
    ⟨(some 25), none, .call 17 [(.s 20), (.s 24)]⟩,
    ⟨(some 26), none, .un .not (.s 25)⟩] [[], [], [0, 1], [2], [], [], [4, 5], [6], [3, 7], [8]] [0, 1, 5, 26])
  (.cond (.s 26)
    (.seq (.reg [
      ⟨(some 4), none, .mov (.c (.t (.bool false)))⟩] [4])
    (.ret))
    (.skip))))
  (.reg [
    ⟨(some 15), none, .mov (.s 5)⟩,
    ⟨(some 16), none, .bin .add (.s 15) (.c (.t (.int .i64 1)))⟩,
    ⟨(some 5), none, .mov (.s 16)⟩] [0, 1, 5]))

def M_laws_eqPlanS : MFun := ⟨2, 27, [.tmp 4],
  .seq (.reg [
    ⟨(some 4), none, .mov (.c (.t (.bool false)))⟩] [0, 1])
  (.seq (.seq (.reg [
    ⟨(some 6), none, .mov (.s 0)⟩,
    ⟨(some 7), none, .len false (.s 6)⟩,
    ⟨(some 8), none, .mov (.s 1)⟩,
    ⟨(some 9), none, .len false (.s 8)⟩,
    ⟨(some 10), none, .bin .neq (.s 7) (.s 9)⟩] [0, 1, 10])
  (.cond (.s 10)
    (.seq (.reg [
      ⟨(some 4), none, .mov (.c (.t (.bool false)))⟩] [4])
    (.ret))
    (.skip)))
  (.seq (.seq (.reg [
    ⟨(some 5), none, .mov (.c (.t (.int .i64 0)))⟩] [0, 1, 5])
  (.block 0 (.loop [0, 1, 5] B_laws_eqPlanS_0)))
  (.seq (.reg [
    ⟨(some 4), none, .mov (.c (.t (.bool true)))⟩] [4])
  (.ret))))⟩
theorem t_laws_eqPlanS : tbl 85 = some M_laws_eqPlanS := tblOf_eq Try.func85 (by kernel_rfl) (by kernel_rfl)

/-- loop.example/g01921/laws.eqIntSS -/
def B_laws_eqIntSS_0 : MCode :=
  .seq (.seq (.reg [
    ⟨(some 11), none, .mov (.s 5)⟩,
    ⟨(some 12), none, .mov (.s 0)⟩,
    ⟨(some 13), none, .len false (.s 12)⟩,
    ⟨(some 14), none, .bin .lss (.s 11) (.s 13)⟩] [0, 1, 5, 14])
  (.cond (.s 14)
    (.skip)
    (.exit 0)))
  (.seq (.block 1 (.seq (.drw [
    ⟨(some 17), none, .mov (.s 0)⟩,
    ⟨(some 18), none, .mov (.s 5)⟩,
    ⟨(some 19), none, .iaddr 1 (.s 17) (.s 18)⟩,
    ⟨(some 20), none, .load none (.s 19)⟩,
    ⟨(some 21), none, .mov (.s 1)⟩,
    ⟨(some 22), none, .mov (.s 5)⟩,
    ⟨(some 23), none, .iaddr 1 (.s 21) (.s 22)⟩,
    ⟨(some 24), none, .load none (.s 23)⟩,
    ⟨(some 25), none, .call 63 [(.s 20), (.s 24)]⟩,
    ⟨(some 26), none, .un .not (.s 25)⟩] [[], [], [0, 1], [2], [], [], [4, 5], [6], [3, 7], [8]] [0, 1, 5, 26])
  (.cond (.s 26)
    (.seq (.reg [
      ⟨(some 4), none, .mov (.c (.t (.bool false)))⟩] [4])
    (.ret))
    (.skip))))
  (.reg [
    ⟨(some 15), none, .mov (.s 5)⟩,
    ⟨(some 16), none, .bin .add (.s 15) (.c (.t (.int .i64 1)))⟩,
    ⟨(some 5), none, .mov (.s 16)⟩] [0, 1, 5]))

def M_laws_eqIntSS : MFun := ⟨2, 27, [.tmp 4],
  .seq (.reg [
    ⟨(some 4), none, .mov (.c (.t (.bool false)))⟩] [0, 1])
  (.seq (.seq (.reg [
    ⟨(some 6), none, .mov (.s 0)⟩,
    ⟨(some 7), none, .len false (.s 6)⟩,
    ⟨(some 8), none, .mov (.s 1)⟩,
    ⟨(some 9), none, .len false (.s 8)⟩,
    ⟨(some 10), none, .bin .neq (.s 7) (.s 9)⟩] [0, 1, 10])
  (.cond (.s 10)
    (.seq (.reg [
      ⟨(some 4), none, .mov (.c (.t (.bool false)))⟩] [4])
    (.ret))
    (.skip)))
  (.seq (.seq (.reg [
    ⟨(some 5), none, .mov (.c (.t (.int .i64 0)))⟩] [0, 1, 5])
  (.block 0 (.loop [0, 1, 5] B_laws_eqIntSS_0)))
  (.seq (.reg [
    ⟨(some 4), none, .mov (.c (.t (.bool true)))⟩] [4])
  (.ret))))⟩
theorem t_laws_eqIntSS : tbl 86 = some M_laws_eqIntSS := tblOf_eq Try.func86 (by kernel_rfl) (by kernel_rfl)

/-- loop.example/g01921/laws.eqRunNote -/
def M_laws_eqRunNote : MFun := ⟨2, 30, [.tmp 4],
  .seq (.reg [
    ⟨(some 2), none, .box (.s 0)⟩,
    ⟨(some 3), none, .box (.s 1)⟩,
    ⟨(some 4), none, .mov (.c (.t (.bool false)))⟩] [2, 3])
  (.seq (.seq (.reg [
    ⟨(some 5), none, .faddr 0 (.s 2)⟩,
    ⟨(some 6), none, .load none (.s 5)⟩,
    ⟨(some 7), none, .faddr 0 (.s 3)⟩,
    ⟨(some 8), none, .load none (.s 7)⟩,
    ⟨(some 9), none, .bin .neq (.s 6) (.s 8)⟩] [2, 3, 9])
  (.cond (.s 9)
    (.seq (.reg [
      ⟨(some 4), none, .mov (.c (.t (.bool false)))⟩] [4])
    (.ret))
    (.skip)))
  (.seq (.seq (.reg [
    ⟨(some 10), none, .faddr 1 (.s 2)⟩,
    ⟨(some 11), none, .load none (.s 10)⟩,
    ⟨(some 12), none, .faddr 1 (.s 3)⟩,
    ⟨(some 13), none, .load none (.s 12)⟩,
    ⟨(some 14), none, .bin .neq (.s 11) (.s 13)⟩] [2, 3, 14])
  (.cond (.s 14)
    (.seq (.reg [
      ⟨(some 4), none, .mov (.c (.t (.bool false)))⟩] [4])
    (.ret))
    (.skip)))
  (.seq (.seq (.reg [
    ⟨(some 15), none, .faddr 2 (.s 2)⟩,
    ⟨(some 16), none, .load none (.s 15)⟩,
    ⟨(some 17), none, .faddr 2 (.s 3)⟩,
    ⟨(some 18), none, .load none (.s 17)⟩,
    ⟨(some 19), none, .bin .neq (.s 16) (.s 18)⟩] [2, 3, 19])
  (.cond (.s 19)
    (.seq (.reg [
      ⟨(some 4), none, .mov (.c (.t (.bool false)))⟩] [4])
    (.ret))
    (.skip)))
  (.seq (.seq (.reg [
    ⟨(some 20), none, .faddr 3 (.s 2)⟩,
    ⟨(some 21), none, .load none (.s 20)⟩,
    ⟨(some 22), none, .faddr 3 (.s 3)⟩,
    ⟨(some 23), none, .load none (.s 22)⟩,
    ⟨(some 24), none, .bin .neq (.s 21) (.s 23)⟩] [2, 3, 24])
  (.cond (.s 24)
    (.seq (.reg [
      ⟨(some 4), none, .mov (.c (.t (.bool false)))⟩] [4])
    (.ret))
    (.skip)))
  (.seq (.seq (.reg [
    ⟨(some 25), none, .faddr 4 (.s 2)⟩,
    ⟨(some 26), none, .load none (.s 25)⟩,
    ⟨(some 27), none, .faddr 4 (.s 3)⟩,
    ⟨(some 28), none, .load none (.s 27)⟩,
    ⟨(some 29), none, .beq true (.s 26) (.s 28)⟩] [29])
  (.cond (.s 29)
    (.seq (.reg [
      ⟨(some 4), none, .mov (.c (.t (.bool false)))⟩] [4])
    (.ret))
    (.skip)))
  (.seq (.reg [
    ⟨(some 4), none, .mov (.c (.t (.bool true)))⟩] [4])
  (.ret)))))))⟩
theorem t_laws_eqRunNote : tbl 87 = some M_laws_eqRunNote := tblOf_eq Try.func87 (by kernel_rfl) (by kernel_rfl)

/-- loop.example/g01921/spec.l1New -/
def B_spec_l1New_0 : MCode :=
  .seq (.seq (.reg [
    ⟨(some 8), none, .mov (.s 4)⟩,
    ⟨(some 9), none, .mov (.s 0)⟩,
    ⟨(some 10), none, .len false (.s 9)⟩,
    ⟨(some 11), none, .bin .lss (.s 8) (.s 10)⟩,
    ⟨(some 12), none, .mov (.s 11)⟩,
    ⟨(some 13), (some (12, true)), .mov (.s 4)⟩,
    ⟨(some 14), (some (12, true)), .bin .lss (.s 13) (.c (.t (.int .i64 4000)))⟩,
    ⟨(some 15), none, .pick (.s 12) (.s 14) (.c (.t (.bool false)))⟩] [0, 3, 4, 15])
  (.cond (.s 15)
    (.skip)
    (.exit 0)))
  (.seq (.block 1 (.reg [
    ⟨(some 18), none, .mov (.s 3)⟩,
    ⟨(some 19), none, .bin .mul (.s 18) (.c (.t (.int .i64 131)))⟩,
    ⟨(some 20), none, .mov (.s 0)⟩,
    ⟨(some 21), none, .mov (.s 4)⟩,
    ⟨(some 22), none, .iaddr 1 (.s 20) (.s 21)⟩,
    ⟨(some 23), none, .load none (.s 22)⟩,
    ⟨(some 24), none, .conv .i64 (.s 23)⟩,
    ⟨(some 25), none, .bin .add (.s 19) (.s 24)⟩,
    ⟨(some 26), none, .bin .add (.s 25) (.c (.t (.int .i64 7)))⟩,
    ⟨(some 27), none, .bin .and (.s 26) (.c (.t (.int .i64 1073741823)))⟩,
    ⟨(some 3), none, .mov (.s 27)⟩] [0, 3, 4]))
  (.reg [
    ⟨(some 16), none, .mov (.s 4)⟩,
    ⟨(some 17), none, .bin .add (.s 16) (.c (.t (.int .i64 1)))⟩,
    ⟨(some 4), none, .mov (.s 17)⟩] [0, 3, 4]))

def M_spec_l1New : MFun := ⟨1, 32, [.tmp 2],
  .seq (.reg [
    ⟨(some 2), none, .mov (.c .nilp)⟩] [0])
  (.seq (.reg [
    ⟨(some 5), none, .mov (.s 0)⟩,
    ⟨(some 6), none, .len false (.s 5)⟩,
    ⟨(some 7), none, .bin .add (.c (.t (.int .i64 10101))) (.s 6)⟩,
    ⟨(some 3), none, .mov (.s 7)⟩] [0, 3])
  (.seq (.seq (.reg [
    ⟨(some 4), none, .mov (.c (.t (.int .i64 0)))⟩] [0, 3, 4])
  (.block 0 (.loop [0, 3, 4] B_spec_l1New_0)))
  (.seq (.reg [
    ⟨(some 28), none, .mov (.s 0)⟩,
    ⟨(some 29), none, .mov (.s 3)⟩,
    ⟨(some 30), none, .build [(.t .nil), (.t (.int .i64 0)), (.t (.int .i64 0))] [(0, 1, (.s 28)), (2, 1, (.s 29))]⟩,
    ⟨(some 31), none, .box (.s 30)⟩,
    ⟨(some 2), none, .mov (.s 31)⟩] [2])
  (.ret))))⟩
theorem t_spec_l1New : tbl 88 = some M_spec_l1New := tblOf_eq Try.func88 (by kernel_rfl) (by kernel_rfl)

/-- loop.example/g01921/spec.l22Any -/
def M_spec_l22Any : MFun := ⟨1, 17, [.cell 2 (some 30)],
  .seq (.reg [
    ⟨(some 2), none, .alloc [(.t (.int .i64 0)), (.t (.int .i64 0)), (.t (.int .i64 0)), (.t (.int .i64 0)), (.t (.int .i64 0)), (.t .nil), (.t (.int .i64 0)), (.t (.int .i64 0)), (.t (.int .i64 0)), (.t (.int .i64 0)), (.t (.int .i64 0)), (.t .nil), (.t (.int .i64 0)), (.t (.int .i64 0)), (.t (.int .i64 0)), (.t (.int .i64 0)), (.t (.int .i64 0)), (.t .nil), (.t (.int .i64 0)), (.t (.int .i64 0)), (.t (.int .i64 0)), (.t (.int .i64 0)), (.t (.int .i64 0)), (.t .nil), (.t (.int .i64 0)), (.t (.int .i64 0)), (.t (.int .i64 0)), (.t (.int .i64 0)), (.t (.int .i64 0)), (.t .nil)]⟩] [0, 2])
  (.seq (.reg [
    ⟨(some 4), none, .mov (.s 0)⟩,
    ⟨(some 5), none, .call 129 [(.s 4)]⟩,
    ⟨(some 3), none, .alloc [(.t (.int .i64 0)), (.t (.int .i64 0)), (.t (.int .i64 0)), (.t (.int .i64 0)), (.t (.int .i64 0)), (.t .nil), (.t (.int .i64 0)), (.t (.int .i64 0)), (.t (.int .i64 0)), (.t (.int .i64 0)), (.t (.int .i64 0)), (.t .nil), (.t (.int .i64 0)), (.t (.int .i64 0)), (.t (.int .i64 0)), (.t (.int .i64 0)), (.t (.int .i64 0)), (.t .nil), (.t (.int .i64 0)), (.t (.int .i64 0)), (.t (.int .i64 0)), (.t (.int .i64 0)), (.t (.int .i64 0)), (.t .nil), (.t (.int .i64 0)), (.t (.int .i64 0)), (.t (.int .i64 0)), (.t (.int .i64 0)), (.t (.int .i64 0)), (.t .nil)]⟩,
    ⟨none, none, .store 30 (.s 3) (.s 5)⟩] [0, 2, 3])
  (.seq (.seq (.reg [
    ⟨(some 6), none, .mov (.s 0)⟩,
    ⟨(some 7), none, .call 130 [(.s 6), (.c (.t (.int .i64 6)))]⟩] [0, 2, 3, 7])
  (.cond (.s 7)
    (.reg [
      ⟨(some 8), none, .mov (.s 0)⟩,
      ⟨(some 9), none, .call 131 [(.s 8)]⟩,
      ⟨(some 10), none, .faddr 12 (.s 3)⟩,
      ⟨none, none, .store 6 (.s 10) (.s 9)⟩] [0, 2, 3])
    (.skip)))
  (.seq (.seq (.reg [
    ⟨(some 11), none, .mov (.s 0)⟩,
    ⟨(some 12), none, .call 130 [(.s 11), (.c (.t (.int .i64 12)))]⟩] [0, 2, 3, 12])
  (.cond (.s 12)
    (.reg [
      ⟨(some 13), none, .mov (.s 0)⟩,
      ⟨(some 14), none, .call 131 [(.s 13)]⟩,
      ⟨(some 15), none, .faddr 6 (.s 3)⟩,
      ⟨none, none, .store 6 (.s 15) (.s 14)⟩] [2, 3])
    (.skip)))
  (.seq (.reg [
    ⟨(some 16), none, .load (some 30) (.s 3)⟩,
    ⟨none, none, .store 30 (.s 2) (.s 16)⟩] [2])
  (.ret)))))⟩
theorem t_spec_l22Any : tbl 89 = some M_spec_l22Any := tblOf_eq Try.func89 (by kernel_rfl) (by kernel_rfl)

/-- loop.example/g01921/spec.l1Below -/
def M_spec_l1Below : MFun := ⟨2, 37, [.tmp 4],
  .seq (.reg [
    ⟨(some 4), none, .mov (.c (.t (.int .i64 0)))⟩] [0, 1])
  (.seq (.seq (.reg [
    ⟨(some 9), none, .mov (.s 1)⟩,
    ⟨(some 10), none, .bin .leq (.s 9) (.c (.t (.int .i64 0)))⟩] [0, 1, 10])
  (.cond (.s 10)
    (.seq (.reg [
      ⟨(some 4), none, .mov (.c (.t (.int .i64 0)))⟩] [4])
    (.ret))
    (.skip)))
  (.seq (.seq (.reg [
    ⟨(some 11), none, .mov (.s 1)⟩,
    ⟨(some 12), none, .bin .leq (.s 11) (.c (.t (.int .i64 256)))⟩] [0, 1, 12])
  (.cond (.s 12)
    (.seq (.reg [
      ⟨(some 13), none, .mov (.s 0)⟩,
      ⟨(some 14), none, .call 132 [(.s 13)]⟩,
      ⟨(some 15), none, .mov (.s 1)⟩,
      ⟨(some 16), none, .bin .rem (.s 14) (.s 15)⟩,
      ⟨(some 4), none, .mov (.s 16)⟩] [4])
    (.ret))
    (.skip)))
  (.seq (.reg [
    ⟨(some 17), none, .mov (.s 0)⟩,
    ⟨(some 18), none, .call 132 [(.s 17)]⟩,
    ⟨(some 5), none, .mov (.s 18)⟩] [0, 1, 5])
  (.seq (.reg [
    ⟨(some 19), none, .mov (.s 0)⟩,
    ⟨(some 20), none, .call 132 [(.s 19)]⟩,
    ⟨(some 6), none, .mov (.s 20)⟩] [0, 1, 5, 6])
  (.seq (.reg [
    ⟨(some 21), none, .mov (.s 0)⟩,
    ⟨(some 22), none, .call 132 [(.s 21)]⟩,
    ⟨(some 7), none, .mov (.s 22)⟩] [0, 1, 5, 6, 7])
  (.seq (.reg [
    ⟨(some 23), none, .mov (.s 0)⟩,
    ⟨(some 24), none, .call 132 [(.s 23)]⟩,
    ⟨(some 8), none, .mov (.s 24)⟩] [1, 5, 6, 7, 8])
  (.seq (.reg [
    ⟨(some 25), none, .mov (.s 5)⟩,
    ⟨(some 26), none, .bin .mul (.s 25) (.c (.t (.int .i64 16777216)))⟩,
    ⟨(some 27), none, .mov (.s 6)⟩,
    ⟨(some 28), none, .bin .mul (.s 27) (.c (.t (.int .i64 65536)))⟩,
    ⟨(some 29), none, .bin .add (.s 26) (.s 28)⟩,
    ⟨(some 30), none, .mov (.s 7)⟩,
    ⟨(some 31), none, .bin .mul (.s 30) (.c (.t (.int .i64 256)))⟩,
    ⟨(some 32), none, .bin .add (.s 29) (.s 31)⟩,
    ⟨(some 33), none, .mov (.s 8)⟩,
    ⟨(some 34), none, .bin .add (.s 32) (.s 33)⟩,
    ⟨(some 35), none, .mov (.s 1)⟩,
    ⟨(some 36), none, .bin .rem (.s 34) (.s 35)⟩,
    ⟨(some 4), none, .mov (.s 36)⟩] [4])
  (.ret))))))))⟩
theorem t_spec_l1Below : tbl 90 = some M_spec_l1Below := tblOf_eq Try.func90 (by kernel_rfl) (by kernel_rfl)

/-- loop.example/g01921/spec.l1PickInt -/
def M_spec_l1PickInt : MFun := ⟨2, 12, [.tmp 4],
  .seq (.reg [
    ⟨(some 4), none, .mov (.c (.t (.int .i64 0)))⟩] [0, 1])
  (.seq (.reg [
    ⟨(some 5), none, .mov (.s 1)⟩,
    ⟨(some 6), none, .mov (.s 0)⟩,
    ⟨(some 7), none, .mov (.s 1)⟩,
    ⟨(some 8), none, .len false (.s 7)⟩,
    ⟨(some 9), none, .call 90 [(.s 6), (.s 8)]⟩,
    ⟨(some 10), none, .iaddr 1 (.s 5) (.s 9)⟩,
    ⟨(some 11), none, .load none (.s 10)⟩,
    ⟨(some 4), none, .mov (.s 11)⟩] [4])
  (.ret))⟩
theorem t_spec_l1PickInt : tbl 91 = some M_spec_l1PickInt := tblOf_eq Try.func91 (by kernel_rfl) (by kernel_rfl)

/-- loop.example/g01921/impl.IsAdmitted -/
def M_impl_IsAdmitted : MFun := ⟨1, 14, [.tmp 2],
  .seq (.reg [
    ⟨(some 1), none, .box (.s 0)⟩,
    ⟨(some 2), none, .mov (.c (.t (.bool false)))⟩] [1])
  (.seq (.reg [
    ⟨(some 7), none, .load (some 30) (.s 1)⟩,
    ⟨(some 8), none, .call 133 [(.s 7)]⟩,
    ⟨(some 6), none, .mov (.s 8)⟩,
    ⟨(some 9), none, .ext (.s 6) 0⟩,
    ⟨(some 10), none, .ext (.s 6) 1⟩,
    ⟨(some 11), none, .ext (.s 6) 2⟩,
    ⟨(some 3), none, .mov (.s 9)⟩,
    ⟨(some 4), none, .mov (.s 10)⟩,
    ⟨(some 5), none, .mov (.s 11)⟩] [3])
  (.seq (.reg [
    ⟨(some 12), none, .mov (.s 3)⟩,
    ⟨(some 13), none, .bin .eql (.s 12) (.c (.t (.int .i64 0)))⟩,
    ⟨(some 2), none, .mov (.s 13)⟩] [2])
  (.ret)))⟩
theorem t_impl_IsAdmitted : tbl 92 = some M_impl_IsAdmitted := tblOf_eq Try.func92 (by kernel_rfl) (by kernel_rfl)

/-- loop.example/g01921/impl.OperatorCost -/
def M_impl_OperatorCost : MFun := ⟨4, 32, [.tmp 8],
  .seq (.reg [
    ⟨(some 4), none, .box (.s 0)⟩,
    ⟨(some 8), none, .mov (.c (.t (.int .i64 0)))⟩] [1, 2, 3, 4])
  (.seq (.seq (.reg [
    ⟨(some 9), none, .load (some 6) (.s 4)⟩,
    ⟨(some 10), none, .call 134 [(.s 9)]⟩,
    ⟨(some 11), none, .un .not (.s 10)⟩,
    ⟨(some 12), none, .mov (.s 11)⟩,
    ⟨(some 13), (some (12, false)), .mov (.s 1)⟩,
    ⟨(some 14), (some (12, false)), .call 74 [(.s 13), (.c (.t (.int .i64 0))), (.c (.t (.int .i64 4096)))]⟩,
    ⟨(some 15), (some (12, false)), .un .not (.s 14)⟩,
    ⟨(some 16), none, .pick (.s 12) (.c (.t (.bool true))) (.s 15)⟩,
    ⟨(some 17), none, .mov (.s 16)⟩,
    ⟨(some 18), (some (17, false)), .mov (.s 2)⟩,
    ⟨(some 19), (some (17, false)), .call 74 [(.s 18), (.c (.t (.int .i64 0))), (.c (.t (.int .i64 4096)))]⟩,
    ⟨(some 20), (some (17, false)), .un .not (.s 19)⟩,
    ⟨(some 21), none, .pick (.s 17) (.c (.t (.bool true))) (.s 20)⟩,
    ⟨(some 22), none, .mov (.s 21)⟩,
    ⟨(some 23), (some (22, false)), .mov (.s 3)⟩,
    ⟨(some 24), (some (22, false)), .call 74 [(.s 23), (.c (.t (.int .i64 0))), (.c (.t (.int .i64 4096)))]⟩,
    ⟨(some 25), (some (22, false)), .un .not (.s 24)⟩,
    ⟨(some 26), none, .pick (.s 22) (.c (.t (.bool true))) (.s 25)⟩] [1, 2, 3, 4, 26])
  (.cond (.s 26)
    (.seq (.reg [
      ⟨(some 8), none, .mov (.c (.t (.int .i64 0)))⟩] [8])
    (.ret))
    (.skip)))
  (.seq (.reg [
    ⟨(some 27), none, .load (some 6) (.s 4)⟩,
    ⟨(some 28), none, .mov (.s 1)⟩,
    ⟨(some 29), none, .mov (.s 2)⟩,
    ⟨(some 30), none, .mov (.s 3)⟩,
    ⟨(some 31), none, .call 135 [(.s 27), (.s 28), (.s 29), (.s 30)]⟩,
    ⟨(some 8), none, .mov (.s 31)⟩] [8])
  (.ret)))⟩
theorem t_impl_OperatorCost : tbl 93 = some M_impl_OperatorCost := tblOf_eq Try.func93 (by kernel_rfl) (by kernel_rfl)

/-- loop.example/g01921/impl.operators -/
def M_impl_operators : MFun := ⟨1, 19, [.tmp 2],
  .seq (.reg [
    ⟨(some 2), none, .mov (.c (.t .nil))⟩] [0])
  (.seq (.drw [
    ⟨(some 3), none, .mov (.s 0)⟩,
    ⟨(some 4), none, .nilchk (.s 3)⟩,
    ⟨(some 5), none, .faddr 0 (.s 4)⟩,
    ⟨(some 6), none, .mov (.s 0)⟩,
    ⟨(some 7), none, .nilchk (.s 6)⟩,
    ⟨(some 8), none, .faddr 6 (.s 7)⟩,
    ⟨(some 9), none, .mov (.s 0)⟩,
    ⟨(some 10), none, .nilchk (.s 9)⟩,
    ⟨(some 11), none, .faddr 12 (.s 10)⟩,
    ⟨(some 12), none, .mov (.s 0)⟩,
    ⟨(some 13), none, .nilchk (.s 12)⟩,
    ⟨(some 14), none, .faddr 18 (.s 13)⟩,
    ⟨(some 15), none, .mov (.s 0)⟩,
    ⟨(some 16), none, .nilchk (.s 15)⟩,
    ⟨(some 17), none, .faddr 24 (.s 16)⟩,
    ⟨(some 18), none, .bptrs 5 [(0, (.s 5)), (1, (.s 8)), (2, (.s 11)), (3, (.s 14)), (4, (.s 17))]⟩,
    ⟨(some 2), none, .mov (.s 18)⟩] [[], [0], [1], [], [3], [4], [], [6], [7], [], [9], [10], [], [12], [13], [2, 5, 8, 11, 14], [15, 0, 1, 2, 3, 4, 5, 6, 7, 8, 9, 10, 11, 12, 13, 14, 15]] [2])
  (.ret))⟩
theorem t_impl_operators : tbl 94 = some M_impl_operators := tblOf_eq Try.func94 (by kernel_rfl) (by kernel_rfl)

/-- loop.example/g01921/impl.RoundUpSize -/
def M_impl_RoundUpSize : MFun := ⟨1, 6, [.tmp 2],
  .seq (.reg [
    ⟨(some 2), none, .mov (.c (.t (.int .i64 0)))⟩] [0])
  (.seq (.reg [
    ⟨(some 3), none, .mov (.s 0)⟩,
    ⟨(some 4), none, .call 137 [(.s 3)]⟩,
    ⟨(some 5), none, .call 136 [(.s 4)]⟩,
    ⟨(some 2), none, .mov (.s 5)⟩] [2])
  (.ret))⟩
theorem t_impl_RoundUpSize : tbl 95 = some M_impl_RoundUpSize := tblOf_eq Try.func95 (by kernel_rfl) (by kernel_rfl)

/-- loop.example/g01921/spec.IsAdmitted -/
def M_spec_IsAdmitted : MFun := ⟨1, 14, [.tmp 2],
  .seq (.reg [
    ⟨(some 1), none, .box (.s 0)⟩,
    ⟨(some 2), none, .mov (.c (.t (.bool false)))⟩] [1])
  (.seq (.reg [
    ⟨(some 7), none, .load (some 30) (.s 1)⟩,
    ⟨(some 8), none, .call 138 [(.s 7)]⟩,
    ⟨(some 6), none, .mov (.s 8)⟩,
    ⟨(some 9), none, .ext (.s 6) 0⟩,
    ⟨(some 10), none, .ext (.s 6) 1⟩,
    ⟨(some 11), none, .ext (.s 6) 2⟩,
    ⟨(some 3), none, .mov (.s 9)⟩,
    ⟨(some 4), none, .mov (.s 10)⟩,
    ⟨(some 5), none, .mov (.s 11)⟩] [3])
  (.seq (.reg [
    ⟨(some 12), none, .mov (.s 3)⟩,
    ⟨(some 13), none, .bin .eql (.s 12) (.c (.t (.int .i64 0)))⟩,
    ⟨(some 2), none, .mov (.s 13)⟩] [2])
  (.ret)))⟩
theorem t_spec_IsAdmitted : tbl 96 = some M_spec_IsAdmitted := tblOf_eq Try.func96 (by kernel_rfl) (by kernel_rfl)

/-- loop.example/g01921/spec.l22Op -/
def M_spec_l22Op : MFun := ⟨2, 24, [.cell 4 (some 6)],
  .seq (.reg [
    ⟨(some 2), none, .box (.s 0)⟩,
    ⟨(some 4), none, .alloc [(.t (.int .i64 0)), (.t (.int .i64 0)), (.t (.int .i64 0)), (.t (.int .i64 0)), (.t (.int .i64 0)), (.t .nil)]⟩] [1, 2, 4])
  (.seq (.seq (.reg [
    ⟨(some 5), none, .mov (.s 1)⟩] [2, 4, 5])
  (.block 0 (.seq (.reg [
    ⟨(some 7), none, .bin .eql (.s 5) (.c (.t (.int .i64 1)))⟩,
    ⟨(some 6), none, .mov (.s 7)⟩] [2, 4, 5, 6])
  (.cond (.s 6)
    (.seq (.reg [
      ⟨(some 8), none, .faddr 0 (.s 2)⟩,
      ⟨(some 9), none, .load (some 6) (.s 8)⟩,
      ⟨none, none, .store 6 (.s 4) (.s 9)⟩] [4])
    (.ret))
    (.seq (.reg [
      ⟨(some 11), none, .bin .eql (.s 5) (.c (.t (.int .i64 2)))⟩,
      ⟨(some 10), none, .mov (.s 11)⟩] [2, 4, 5, 10])
    (.cond (.s 10)
      (.seq (.reg [
        ⟨(some 12), none, .faddr 6 (.s 2)⟩,
        ⟨(some 13), none, .load (some 6) (.s 12)⟩,
        ⟨none, none, .store 6 (.s 4) (.s 13)⟩] [4])
      (.ret))
      (.seq (.reg [
        ⟨(some 15), none, .bin .eql (.s 5) (.c (.t (.int .i64 3)))⟩,
        ⟨(some 14), none, .mov (.s 15)⟩] [2, 4, 5, 14])
      (.cond (.s 14)
        (.seq (.reg [
          ⟨(some 16), none, .faddr 12 (.s 2)⟩,
          ⟨(some 17), none, .load (some 6) (.s 16)⟩,
          ⟨none, none, .store 6 (.s 4) (.s 17)⟩] [4])
        (.ret))
        (.seq (.reg [
          ⟨(some 19), none, .bin .eql (.s 5) (.c (.t (.int .i64 4)))⟩,
          ⟨(some 18), none, .mov (.s 19)⟩] [2, 4, 18])
        (.cond (.s 18)
          (.seq (.reg [
            ⟨(some 20), none, .faddr 18 (.s 2)⟩,
            ⟨(some 21), none, .load (some 6) (.s 20)⟩,
            ⟨none, none, .store 6 (.s 4) (.s 21)⟩] [4])
          (.ret))
          (.skip)))))))))))
  (.seq (.reg [
    ⟨(some 22), none, .faddr 24 (.s 2)⟩,
    ⟨(some 23), none, .load (some 6) (.s 22)⟩,
    ⟨none, none, .store 6 (.s 4) (.s 23)⟩] [4])
  (.ret)))⟩
theorem t_spec_l22Op : tbl 97 = some M_spec_l22Op := tblOf_eq Try.func97 (by kernel_rfl) (by kernel_rfl)

/-- loop.example/g01921/spec.l21Copy -/
def M_spec_l21Copy : MFun := ⟨1, 11, [.cell 2 (some 6)],
  .seq (.reg [
    ⟨(some 1), none, .box (.s 0)⟩,
    ⟨(some 2), none, .alloc [(.t (.int .i64 0)), (.t (.int .i64 0)), (.t (.int .i64 0)), (.t (.int .i64 0)), (.t (.int .i64 0)), (.t .nil)]⟩] [1, 2])
  (.seq (.reg [
    ⟨(some 4), none, .load (some 6) (.s 1)⟩,
    ⟨(some 3), none, .alloc [(.t (.int .i64 0)), (.t (.int .i64 0)), (.t (.int .i64 0)), (.t (.int .i64 0)), (.t (.int .i64 0)), (.t .nil)]⟩,
    ⟨none, none, .store 6 (.s 3) (.s 4)⟩] [1, 2, 3])
  (.seq (.reg [
    ⟨(some 5), none, .bslice 153 2 0 [(.int .i64 0), (.int .i64 0)] []⟩,
    ⟨(some 6), none, .faddr 5 (.s 1)⟩,
    ⟨(some 7), none, .load none (.s 6)⟩,
    ⟨(some 8), none, .append 153 2 16 false (.s 5) (.s 7)⟩,
    ⟨(some 9), none, .faddr 5 (.s 3)⟩,
    ⟨none, none, .store 1 (.s 9) (.s 8)⟩] [2, 3])
  (.seq (.reg [
    ⟨(some 10), none, .load (some 6) (.s 3)⟩,
    ⟨none, none, .store 6 (.s 2) (.s 10)⟩] [2])
  (.ret))))⟩
theorem t_spec_l21Copy : tbl 98 = some M_spec_l21Copy := tblOf_eq Try.func98 (by kernel_rfl) (by kernel_rfl)

/-- loop.example/g01921/spec.IsValidOperator -/
def B_spec_IsValidOperator_0 : MCode :=
  .seq (.seq (.reg [
    ⟨(some 38), none, .mov (.s 3)⟩,
    ⟨(some 39), none, .faddr 5 (.s 1)⟩,
    ⟨(some 40), none, .load none (.s 39)⟩,
    ⟨(some 41), none, .len false (.s 40)⟩,
    ⟨(some 42), none, .bin .lss (.s 38) (.s 41)⟩] [1, 3, 42])
  (.cond (.s 42)
    (.skip)
    (.exit 0)))
  (.seq (.block 1 (.seq (.drw [
    ⟨(some 45), none, .faddr 5 (.s 1)⟩,
    ⟨(some 46), none, .load none (.s 45)⟩,
    ⟨(some 47), none, .mov (.s 3)⟩,
    ⟨(some 48), none, .iaddr 2 (.s 46) (.s 47)⟩,
    ⟨(some 49), none, .faddr 0 (.s 48)⟩,
    ⟨(some 50), none, .load none (.s 49)⟩,
    ⟨(some 51), none, .call 70 [(.s 50), (.c (.t (.int .i64 1))), (.c (.t (.int .i64 8192)))]⟩,
    ⟨(some 52), none, .un .not (.s 51)⟩,
    ⟨(some 53), none, .mov (.s 52)⟩,
    ⟨(some 54), (some (53, false)), .faddr 5 (.s 1)⟩,
    ⟨(some 55), (some (53, false)), .load none (.s 54)⟩,
    ⟨(some 56), (some (53, false)), .mov (.s 3)⟩,
    ⟨(some 57), (some (53, false)), .iaddr 2 (.s 55) (.s 56)⟩,
    ⟨(some 58), (some (53, false)), .faddr 1 (.s 57)⟩,
    ⟨(some 59), (some (53, false)), .load none (.s 58)⟩,
    ⟨(some 60), (some (53, false)), .call 139 [(.s 59)]⟩,
    ⟨(some 61), (some (53, false)), .un .not (.s 60)⟩,
    ⟨(some 62), none, .pick (.s 53) (.c (.t (.bool true))) (.s 61)⟩,
    ⟨(some 63), none, .mov (.s 62)⟩,
    ⟨(some 64), (some (63, false)), .mov (.s 3)⟩,
    ⟨(some 65), (some (63, false)), .bin .gtr (.s 64) (.c (.t (.int .i64 0)))⟩,
    ⟨(some 66), (some (63, false)), .mov (.s 65)⟩,
    ⟨(some 67), (some (66, true)), .faddr 5 (.s 1)⟩,
    ⟨(some 68), (some (66, true)), .load none (.s 67)⟩,
    ⟨(some 69), (some (66, true)), .mov (.s 3)⟩,
    ⟨(some 70), (some (66, true)), .bin .sub (.s 69) (.c (.t (.int .i64 1)))⟩,
    ⟨(some 71), (some (66, true)), .iaddr 2 (.s 68) (.s 70)⟩,
    ⟨(some 72), (some (66, true)), .faddr 0 (.s 71)⟩,
    ⟨(some 73), (some (66, true)), .load none (.s 72)⟩,
    ⟨(some 74), (some (66, true)), .faddr 5 (.s 1)⟩,
    ⟨(some 75), (some (66, true)), .load none (.s 74)⟩,
    ⟨(some 76), (some (66, true)), .mov (.s 3)⟩,
    ⟨(some 77), (some (66, true)), .iaddr 2 (.s 75) (.s 76)⟩,
    ⟨(some 78), (some (66, true)), .faddr 0 (.s 77)⟩,
    ⟨(some 79), (some (66, true)), .load none (.s 78)⟩,
    ⟨(some 80), (some (66, true)), .bin .geq (.s 73) (.s 79)⟩,
    ⟨(some 81), (some (63, false)), .pick (.s 66) (.s 80) (.c (.t (.bool false)))⟩,
    ⟨(some 82), none, .pick (.s 63) (.c (.t (.bool true))) (.s 81)⟩] [[], [0], [], [1, 2], [3], [4], [5], [6], [7, 6], [8], [9, 8], [8], [10, 11, 8], [12, 8], [13, 8], [14, 8, 8], [15, 8], [8, 16], [17, 15], [18], [19, 18], [20, 18, 18], [21], [22, 21], [21], [24, 21], [23, 25, 21], [26, 21], [27, 21], [21], [29, 21], [21], [30, 31, 21], [32, 21], [33, 21], [28, 34, 21], [21, 35, 18], [18, 36]] [1, 3, 82])
  (.cond (.s 82)
    (.seq (.reg [
      ⟨(some 2), none, .mov (.c (.t (.bool false)))⟩] [2])
    (.ret))
    (.skip))))
  (.reg [
    ⟨(some 43), none, .mov (.s 3)⟩,
    ⟨(some 44), none, .bin .add (.s 43) (.c (.t (.int .i64 1)))⟩,
    ⟨(some 3), none, .mov (.s 44)⟩] [1, 3]))

def M_spec_IsValidOperator : MFun := ⟨1, 83, [.tmp 2],
  .seq (.reg [
    ⟨(some 1), none, .box (.s 0)⟩,
    ⟨(some 2), none, .mov (.c (.t (.bool false)))⟩] [1])
  (.seq (.seq (.reg [
    ⟨(some 4), none, .faddr 0 (.s 1)⟩,
    ⟨(some 5), none, .load none (.s 4)⟩,
    ⟨(some 6), none, .call 139 [(.s 5)]⟩,
    ⟨(some 7), none, .un .not (.s 6)⟩,
    ⟨(some 8), none, .mov (.s 7)⟩,
    ⟨(some 9), (some (8, false)), .faddr 1 (.s 1)⟩,
    ⟨(some 10), (some (8, false)), .load none (.s 9)⟩,
    ⟨(some 11), (some (8, false)), .call 139 [(.s 10)]⟩,
    ⟨(some 12), (some (8, false)), .un .not (.s 11)⟩,
    ⟨(some 13), none, .pick (.s 8) (.c (.t (.bool true))) (.s 12)⟩,
    ⟨(some 14), none, .mov (.s 13)⟩,
    ⟨(some 15), (some (14, false)), .faddr 2 (.s 1)⟩,
    ⟨(some 16), (some (14, false)), .load none (.s 15)⟩,
    ⟨(some 17), (some (14, false)), .call 139 [(.s 16)]⟩,
    ⟨(some 18), (some (14, false)), .un .not (.s 17)⟩,
    ⟨(some 19), none, .pick (.s 14) (.c (.t (.bool true))) (.s 18)⟩,
    ⟨(some 20), none, .mov (.s 19)⟩,
    ⟨(some 21), (some (20, false)), .faddr 3 (.s 1)⟩,
    ⟨(some 22), (some (20, false)), .load none (.s 21)⟩,
    ⟨(some 23), (some (20, false)), .call 139 [(.s 22)]⟩,
    ⟨(some 24), (some (20, false)), .un .not (.s 23)⟩,
    ⟨(some 25), none, .pick (.s 20) (.c (.t (.bool true))) (.s 24)⟩,
    ⟨(some 26), none, .mov (.s 25)⟩,
    ⟨(some 27), (some (26, false)), .faddr 4 (.s 1)⟩,
    ⟨(some 28), (some (26, false)), .load none (.s 27)⟩,
    ⟨(some 29), (some (26, false)), .call 139 [(.s 28)]⟩,
    ⟨(some 30), (some (26, false)), .un .not (.s 29)⟩,
    ⟨(some 31), none, .pick (.s 26) (.c (.t (.bool true))) (.s 30)⟩,
    ⟨(some 32), none, .mov (.s 31)⟩,
    ⟨(some 33), (some (32, false)), .faddr 5 (.s 1)⟩,
    ⟨(some 34), (some (32, false)), .load none (.s 33)⟩,
    ⟨(some 35), (some (32, false)), .len false (.s 34)⟩,
    ⟨(some 36), (some (32, false)), .bin .gtr (.s 35) (.c (.t (.int .i64 4)))⟩,
    ⟨(some 37), none, .pick (.s 32) (.c (.t (.bool true))) (.s 36)⟩] [1, 37])
  (.cond (.s 37)
    (.seq (.reg [
      ⟨(some 2), none, .mov (.c (.t (.bool false)))⟩] [2])
    (.ret))
    (.skip)))
  (.seq (.seq (.reg [
    ⟨(some 3), none, .mov (.c (.t (.int .i64 0)))⟩] [1, 3])
  (.block 0 (.loop [1, 3] B_spec_IsValidOperator_0)))
  (.seq (.reg [
    ⟨(some 2), none, .mov (.c (.t (.bool true)))⟩] [2])
  (.ret))))⟩
theorem t_spec_IsValidOperator : tbl 99 = some M_spec_IsValidOperator := tblOf_eq Try.func99 (by kernel_rfl) (by kernel_rfl)

/-- loop.example/g01921/spec.ClassSize -/
def B_spec_ClassSize_0 : MCode :=
  .seq (.seq (.reg [
    ⟨(some 8), none, .mov (.s 4)⟩,
    ⟨(some 9), none, .mov (.s 0)⟩,
    ⟨(some 10), none, .bin .lss (.s 8) (.s 9)⟩] [0, 3, 4, 10])
  (.cond (.s 10)
    (.skip)
    (.exit 0)))
  (.seq (.block 1 (.reg [
    ⟨(some 13), none, .mov (.s 3)⟩,
    ⟨(some 14), none, .bin .mul (.s 13) (.c (.t (.int .i64 4)))⟩,
    ⟨(some 15), none, .mm true (.c (.t (.int .i64 1))) (.s 14)⟩,
    ⟨(some 3), none, .mov (.s 15)⟩] [0, 3, 4]))
  (.reg [
    ⟨(some 11), none, .mov (.s 4)⟩,
    ⟨(some 12), none, .bin .add (.s 11) (.c (.t (.int .i64 1)))⟩,
    ⟨(some 4), none, .mov (.s 12)⟩] [0, 3, 4]))

def M_spec_ClassSize : MFun := ⟨1, 17, [.tmp 2],
  .seq (.reg [
    ⟨(some 2), none, .mov (.c (.t (.int .i64 0)))⟩] [0])
  (.seq (.seq (.reg [
    ⟨(some 5), none, .mov (.s 0)⟩,
    ⟨(some 6), none, .call 70 [(.s 5), (.c (.t (.int .i64 0))), (.c (.t (.int .i64 7)))]⟩,
    ⟨(some 7), none, .un .not (.s 6)⟩] [0, 7])
  (.cond (.s 7)
    (.seq (.reg [
      ⟨(some 2), none, .mov (.c (.t (.int .i64 (-1))))⟩] [2])
    (.ret))
    (.skip)))
  (.seq (.reg [
    ⟨(some 3), none, .mov (.c (.t (.int .i64 0)))⟩] [0, 3])
  (.seq (.seq (.reg [
    ⟨(some 4), none, .mov (.c (.t (.int .i64 0)))⟩] [0, 3, 4])
  (.block 0 (.loop [0, 3, 4] B_spec_ClassSize_0)))
  (.seq (.reg [
    ⟨(some 16), none, .mov (.s 3)⟩,
    ⟨(some 2), none, .mov (.s 16)⟩] [2])
  (.ret)))))⟩
theorem t_spec_ClassSize : tbl 100 = some M_spec_ClassSize := tblOf_eq Try.func100 (by kernel_rfl) (by kernel_rfl)

/-- loop.example/g01921/spec.SizeClass -/
def B_spec_SizeClass_0 : MCode :=
  .seq (.seq (.reg [
    ⟨(some 6), none, .mov (.s 3)⟩,
    ⟨(some 7), none, .bin .leq (.s 6) (.c (.t (.int .i64 7)))⟩] [0, 3, 7])
  (.cond (.s 7)
    (.skip)
    (.exit 0)))
  (.seq (.block 1 (.seq (.reg [
    ⟨(some 10), none, .mov (.s 3)⟩,
    ⟨(some 11), none, .call 100 [(.s 10)]⟩,
    ⟨(some 12), none, .mov (.s 0)⟩,
    ⟨(some 13), none, .bin .geq (.s 11) (.s 12)⟩] [0, 3, 13])
  (.cond (.s 13)
    (.seq (.reg [
      ⟨(some 14), none, .mov (.s 3)⟩,
      ⟨(some 2), none, .mov (.s 14)⟩] [2])
    (.ret))
    (.skip))))
  (.reg [
    ⟨(some 8), none, .mov (.s 3)⟩,
    ⟨(some 9), none, .bin .add (.s 8) (.c (.t (.int .i64 1)))⟩,
    ⟨(some 3), none, .mov (.s 9)⟩] [0, 3]))

def M_spec_SizeClass : MFun := ⟨1, 15, [.tmp 2],
  .seq (.reg [
    ⟨(some 2), none, .mov (.c (.t (.int .i64 0)))⟩] [0])
  (.seq (.seq (.reg [
    ⟨(some 4), none, .mov (.s 0)⟩,
    ⟨(some 5), none, .bin .lss (.s 4) (.c (.t (.int .i64 0)))⟩] [0, 5])
  (.cond (.s 5)
    (.seq (.reg [
      ⟨(some 2), none, .mov (.c (.t (.int .i64 (-1))))⟩] [2])
    (.ret))
    (.skip)))
  (.seq (.seq (.reg [
    ⟨(some 3), none, .mov (.c (.t (.int .i64 0)))⟩] [0, 3])
  (.block 0 (.loop [0, 3] B_spec_SizeClass_0)))
  (.seq (.reg [
    ⟨(some 2), none, .mov (.c (.t (.int .i64 (-1))))⟩] [2])
  (.ret))))⟩
theorem t_spec_SizeClass : tbl 101 = some M_spec_SizeClass := tblOf_eq Try.func101 (by kernel_rfl) (by kernel_rfl)

/-- loop.example/g01921/spec.l28All -/
def M_spec_l28All : MFun := ⟨1, 32, [.tmp 2, .cell 3 (some 30), .cell 4 (some 1), .cell 5 (some 2), .cell 6 (some 1)],
  .seq (.reg [
    ⟨(some 2), none, .mov (.c .nilp)⟩,
    ⟨(some 3), none, .alloc [(.t (.int .i64 0)), (.t (.int .i64 0)), (.t (.int .i64 0)), (.t (.int .i64 0)), (.t (.int .i64 0)), (.t .nil), (.t (.int .i64 0)), (.t (.int .i64 0)), (.t (.int .i64 0)), (.t (.int .i64 0)), (.t (.int .i64 0)), (.t .nil), (.t (.int .i64 0)), (.t (.int .i64 0)), (.t (.int .i64 0)), (.t (.int .i64 0)), (.t (.int .i64 0)), (.t .nil), (.t (.int .i64 0)), (.t (.int .i64 0)), (.t (.int .i64 0)), (.t (.int .i64 0)), (.t (.int .i64 0)), (.t .nil), (.t (.int .i64 0)), (.t (.int .i64 0)), (.t (.int .i64 0)), (.t (.int .i64 0)), (.t (.int .i64 0)), (.t .nil)]⟩,
    ⟨(some 4), none, .alloc [(.t .nil)]⟩,
    ⟨(some 5), none, .alloc [(.t (.int .i64 0)), (.t .nil)]⟩,
    ⟨(some 6), none, .alloc [(.t .nil)]⟩] [0, 3, 4, 5, 6])
  (.seq (.reg [
    ⟨(some 12), none, .mov (.s 0)⟩,
    ⟨(some 13), none, .call 88 [(.s 12)]⟩,
    ⟨(some 7), none, .mov (.s 13)⟩] [3, 4, 5, 6, 7])
  (.seq (.reg [
    ⟨(some 14), none, .mov (.s 7)⟩,
    ⟨(some 15), none, .call 129 [(.s 14)]⟩,
    ⟨(some 8), none, .alloc [(.t (.int .i64 0)), (.t (.int .i64 0)), (.t (.int .i64 0)), (.t (.int .i64 0)), (.t (.int .i64 0)), (.t .nil), (.t (.int .i64 0)), (.t (.int .i64 0)), (.t (.int .i64 0)), (.t (.int .i64 0)), (.t (.int .i64 0)), (.t .nil), (.t (.int .i64 0)), (.t (.int .i64 0)), (.t (.int .i64 0)), (.t (.int .i64 0)), (.t (.int .i64 0)), (.t .nil), (.t (.int .i64 0)), (.t (.int .i64 0)), (.t (.int .i64 0)), (.t (.int .i64 0)), (.t (.int .i64 0)), (.t .nil), (.t (.int .i64 0)), (.t (.int .i64 0)), (.t (.int .i64 0)), (.t (.int .i64 0)), (.t (.int .i64 0)), (.t .nil)]⟩,
    ⟨none, none, .store 30 (.s 8) (.s 15)⟩] [3, 4, 5, 6, 7, 8])
  (.seq (.seq (.reg [
    ⟨(some 16), none, .mov (.s 7)⟩,
    ⟨(some 17), none, .call 130 [(.s 16), (.c (.t (.int .i64 10)))]⟩] [3, 4, 5, 6, 7, 8, 17])
  (.cond (.s 17)
    (.reg [
      ⟨(some 18), none, .mov (.s 7)⟩,
      ⟨(some 19), none, .call 89 [(.s 18)]⟩,
      ⟨none, none, .store 30 (.s 8) (.s 19)⟩] [3, 4, 5, 6, 7, 8])
    (.skip)))
  (.seq (.reg [
    ⟨(some 20), none, .mov (.s 7)⟩,
    ⟨(some 21), none, .call 140 [(.s 20)]⟩,
    ⟨(some 9), none, .alloc [(.t .nil)]⟩,
    ⟨none, none, .store 1 (.s 9) (.s 21)⟩] [3, 4, 5, 6, 7, 8, 9])
  (.seq (.reg [
    ⟨(some 23), none, .mov (.s 7)⟩,
    ⟨(some 24), none, .call 141 [(.s 23)]⟩,
    ⟨(some 22), none, .mov (.s 24)⟩,
    ⟨(some 25), none, .ext (.s 22) 0⟩,
    ⟨(some 26), none, .ext (.s 22) 1⟩,
    ⟨(some 10), none, .alloc [(.t (.int .i64 0)), (.t .nil)]⟩,
    ⟨(some 11), none, .alloc [(.t .nil)]⟩,
    ⟨none, none, .store 2 (.s 10) (.s 25)⟩,
    ⟨none, none, .store 1 (.s 11) (.s 26)⟩] [3, 4, 5, 6, 7, 8, 9, 10, 11])
  (.seq (.drw [
    ⟨(some 27), none, .mov (.s 7)⟩,
    ⟨(some 28), none, .load (some 30) (.s 8)⟩,
    ⟨(some 29), none, .load (some 1) (.s 9)⟩,
    ⟨(some 30), none, .load (some 2) (.s 10)⟩,
    ⟨(some 31), none, .load (some 1) (.s 11)⟩,
    ⟨(some 2), none, .mov (.s 27)⟩,
    ⟨none, none, .store 30 (.s 3) (.s 28)⟩,
    ⟨none, none, .store 1 (.s 4) (.s 29)⟩,
    ⟨none, none, .store 2 (.s 5) (.s 30)⟩,
    ⟨none, none, .store 1 (.s 6) (.s 31)⟩] [[], [], [], [], [], [0, 0], [1, 5, 0, 1, 5], [2, 6, 0, 1, 2, 5, 6], [3, 7, 0, 1, 2, 3, 5, 6, 7], [4, 8, 0, 1, 2, 3, 4, 5, 6, 7, 8]] [2, 3, 4, 5, 6])
  (.ret)))))))⟩
theorem t_spec_l28All : tbl 102 = some M_spec_l28All := tblOf_eq Try.func102 (by kernel_rfl) (by kernel_rfl)

/-- loop.example/g01921/spec.l37Kept -/
def B_spec_l37Kept_0 : MCode :=
  .seq (.seq (.reg [
    ⟨(some 14), none, .mov (.s 8)⟩,
    ⟨(some 15), none, .bin .gtr (.s 14) (.c (.t (.int .i64 0)))⟩] [0, 4, 5, 7, 8, 15])
  (.cond (.s 15)
    (.skip)
    (.exit 0)))
  (.seq (.block 1 (.seq (.reg [
    ⟨(some 18), none, .mov (.s 0)⟩,
    ⟨(some 19), none, .load (some 2) (.s 5)⟩,
    ⟨(some 20), none, .call 142 [(.s 18), (.s 19)]⟩,
    ⟨(some 9), none, .mov (.s 20)⟩] [0, 4, 5, 7, 8, 9])
  (.seq (.reg [
    ⟨(some 21), none, .load (some 1) (.s 4)⟩,
    ⟨(some 22), none, .load (some 2) (.s 5)⟩,
    ⟨(some 23), none, .mov (.s 9)⟩,
    ⟨(some 24), none, .call 143 [(.s 21), (.s 22), (.s 23)]⟩,
    ⟨(some 10), none, .mov (.s 24)⟩] [0, 4, 5, 7, 8, 9, 10])
  (.seq (.seq (.reg [
    ⟨(some 25), none, .mov (.s 0)⟩,
    ⟨(some 26), none, .call 130 [(.s 25), (.c (.t (.int .i64 8)))]⟩] [0, 4, 5, 7, 8, 9, 10, 26])
  (.cond (.s 26)
    (.reg [
      ⟨(some 27), none, .mov (.s 0)⟩,
      ⟨(some 28), none, .bslice 3 1 4 [(.int .i64 0)] [(0, (.c (.t (.int .i64 (-1))))), (1, (.c (.t (.int .i64 0)))), (2, (.c (.t (.int .i64 3)))), (3, (.c (.t (.int .i64 4097))))]⟩,
      ⟨(some 29), none, .call 91 [(.s 27), (.s 28)]⟩,
      ⟨(some 10), none, .mov (.s 29)⟩] [0, 4, 5, 7, 8, 9, 10])
    (.skip)))
  (.reg [
    ⟨(some 30), none, .mov (.s 7)⟩,
    ⟨(some 31), none, .mov (.s 9)⟩,
    ⟨(some 32), none, .mov (.s 10)⟩,
    ⟨(some 33), none, .build [(.t (.int .i64 0)), (.t (.int .i64 0))] [(0, 1, (.s 31)), (1, 1, (.s 32))]⟩,
    ⟨(some 34), none, .call 144 [(.s 30), (.s 33)]⟩,
    ⟨(some 7), none, .mov (.s 34)⟩] [0, 4, 5, 7, 8])))))
  (.reg [
    ⟨(some 16), none, .mov (.s 8)⟩,
    ⟨(some 17), none, .bin .sub (.s 16) (.c (.t (.int .i64 1)))⟩,
    ⟨(some 8), none, .mov (.s 17)⟩] [0, 4, 5, 7, 8]))

def M_spec_l37Kept : MFun := ⟨3, 36, [.tmp 6],
  .seq (.reg [
    ⟨(some 4), none, .box (.s 1)⟩,
    ⟨(some 5), none, .box (.s 2)⟩,
    ⟨(some 6), none, .mov (.c (.t .nil))⟩] [0, 4, 5])
  (.seq (.reg [
    ⟨(some 11), none, .bslice 98 2 0 [(.int .i64 0), (.int .i64 0)] []⟩,
    ⟨(some 7), none, .mov (.s 11)⟩] [0, 4, 5, 7])
  (.seq (.seq (.reg [
    ⟨(some 12), none, .mov (.s 0)⟩,
    ⟨(some 13), none, .call 90 [(.s 12), (.c (.t (.int .i64 4)))]⟩,
    ⟨(some 8), none, .mov (.s 13)⟩] [0, 4, 5, 7, 8])
  (.block 0 (.loop [0, 4, 5, 7, 8] B_spec_l37Kept_0)))
  (.seq (.reg [
    ⟨(some 35), none, .mov (.s 7)⟩,
    ⟨(some 6), none, .mov (.s 35)⟩] [6])
  (.ret))))⟩
theorem t_spec_l37Kept : tbl 103 = some M_spec_l37Kept := tblOf_eq Try.func103 (by kernel_rfl) (by kernel_rfl)

/-- loop.example/g01921/laws.szAtom -/
def M_laws_szAtom : MFun := ⟨2, 19, [.tmp 4],
  .seq (.reg [
    ⟨(some 2), none, .box (.s 0)⟩,
    ⟨(some 4), none, .mov (.c (.t (.int .i64 0)))⟩] [1, 2])
  (.seq (.reg [
    ⟨(some 5), none, .mov (.s 1)⟩,
    ⟨(some 6), none, .faddr 0 (.s 2)⟩,
    ⟨(some 7), none, .load none (.s 6)⟩,
    ⟨(some 8), none, .len true (.s 7)⟩,
    ⟨(some 9), none, .bin .sub (.s 5) (.s 8)⟩,
    ⟨(some 1), none, .mov (.s 9)⟩] [1, 2])
  (.seq (.seq (.reg [
    ⟨(some 10), none, .mov (.s 1)⟩,
    ⟨(some 11), none, .bin .lss (.s 10) (.c (.t (.int .i64 0)))⟩] [1, 2, 11])
  (.cond (.s 11)
    (.seq (.reg [
      ⟨(some 4), none, .mov (.c (.t (.int .i64 (-1))))⟩] [4])
    (.ret))
    (.skip)))
  (.seq (.reg [
    ⟨(some 12), none, .faddr 1 (.s 2)⟩,
    ⟨(some 13), none, .load none (.s 12)⟩,
    ⟨(some 14), none, .mov (.s 1)⟩,
    ⟨(some 15), none, .call 51 [(.s 13), (.s 14)]⟩,
    ⟨(some 1), none, .mov (.s 15)⟩] [1])
  (.seq (.seq (.reg [
    ⟨(some 16), none, .mov (.s 1)⟩,
    ⟨(some 17), none, .bin .lss (.s 16) (.c (.t (.int .i64 0)))⟩] [1, 17])
  (.cond (.s 17)
    (.seq (.reg [
      ⟨(some 4), none, .mov (.c (.t (.int .i64 (-1))))⟩] [4])
    (.ret))
    (.skip)))
  (.seq (.reg [
    ⟨(some 18), none, .mov (.s 1)⟩,
    ⟨(some 4), none, .mov (.s 18)⟩] [4])
  (.ret))))))⟩
theorem t_laws_szAtom : tbl 104 = some M_laws_szAtom := tblOf_eq Try.func104 (by kernel_rfl) (by kernel_rfl)

/-- loop.example/g01921/spec.IsValidQuery -/
def B_spec_IsValidQuery_0 : MCode :=
  .seq (.seq (.reg [
    ⟨(some 41), none, .mov (.s 6)⟩,
    ⟨(some 42), none, .faddr 1 (.s 5)⟩,
    ⟨(some 43), none, .load none (.s 42)⟩,
    ⟨(some 44), none, .len false (.s 43)⟩,
    ⟨(some 45), none, .bin .lss (.s 41) (.s 44)⟩] [1, 3, 4, 5, 6, 45])
  (.cond (.s 45)
    (.skip)
    (.exit 2)))
  (.seq (.block 3 (.seq (.seq (.drw [
    ⟨(some 48), none, .faddr 1 (.s 5)⟩,
    ⟨(some 49), none, .load none (.s 48)⟩,
    ⟨(some 50), none, .mov (.s 6)⟩,
    ⟨(some 51), none, .iaddr 1 (.s 49) (.s 50)⟩,
    ⟨(some 52), none, .load none (.s 51)⟩,
    ⟨(some 53), none, .faddr 0 (.s 1)⟩,
    ⟨(some 54), none, .load none (.s 53)⟩,
    ⟨(some 55), none, .bin .sub (.s 54) (.c (.t (.int .i64 1)))⟩,
    ⟨(some 56), none, .call 70 [(.s 52), (.c (.t (.int .i64 0))), (.s 55)]⟩,
    ⟨(some 57), none, .un .not (.s 56)⟩,
    ⟨(some 58), none, .mov (.s 57)⟩,
    ⟨(some 59), (some (58, false)), .faddr 1 (.s 5)⟩,
    ⟨(some 60), (some (58, false)), .load none (.s 59)⟩,
    ⟨(some 61), (some (58, false)), .mov (.s 6)⟩,
    ⟨(some 62), (some (58, false)), .slice (some 1) (.s 60) none (some (.s 61))⟩,
    ⟨(some 63), (some (58, false)), .faddr 1 (.s 5)⟩,
    ⟨(some 64), (some (58, false)), .load none (.s 63)⟩,
    ⟨(some 65), (some (58, false)), .mov (.s 6)⟩,
    ⟨(some 66), (some (58, false)), .iaddr 1 (.s 64) (.s 65)⟩,
    ⟨(some 67), (some (58, false)), .load none (.s 66)⟩,
    ⟨(some 68), (some (58, false)), .call 124 [(.s 62), (.s 67)]⟩,
    ⟨(some 69), none, .pick (.s 58) (.c (.t (.bool true))) (.s 68)⟩] [[], [0], [], [1, 2], [3], [], [5], [6], [4, 7], [8], [9, 8], [10], [11, 10], [10], [12, 13, 10], [10], [15, 10], [10], [16, 17, 10], [18, 10], [14, 19, 10, 10], [10, 20]] [1, 3, 4, 5, 6, 69])
  (.cond (.s 69)
    (.seq (.reg [
      ⟨(some 2), none, .mov (.c (.t (.bool false)))⟩] [2])
    (.ret))
    (.skip)))
  (.reg [
    ⟨(some 70), none, .mov (.s 3)⟩,
    ⟨(some 71), none, .faddr 1 (.s 5)⟩,
    ⟨(some 72), none, .load none (.s 71)⟩,
    ⟨(some 73), none, .mov (.s 6)⟩,
    ⟨(some 74), none, .iaddr 1 (.s 72) (.s 73)⟩,
    ⟨(some 75), none, .load none (.s 74)⟩,
    ⟨(some 76), none, .bin .shl (.c (.t (.int .i64 1))) (.s 75)⟩,
    ⟨(some 77), none, .bin .or (.s 70) (.s 76)⟩,
    ⟨(some 3), none, .mov (.s 77)⟩] [1, 3, 4, 5, 6])))
  (.reg [
    ⟨(some 46), none, .mov (.s 6)⟩,
    ⟨(some 47), none, .bin .add (.s 46) (.c (.t (.int .i64 1)))⟩,
    ⟨(some 6), none, .mov (.s 47)⟩] [1, 3, 4, 5, 6]))

def B_spec_IsValidQuery_1 : MCode :=
  .seq (.seq (.reg [
    ⟨(some 18), none, .mov (.s 4)⟩,
    ⟨(some 19), none, .faddr 1 (.s 1)⟩,
    ⟨(some 20), none, .load none (.s 19)⟩,
    ⟨(some 21), none, .len false (.s 20)⟩,
    ⟨(some 22), none, .bin .lss (.s 18) (.s 21)⟩] [1, 3, 4, 22])
  (.cond (.s 22)
    (.skip)
    (.exit 0)))
  (.seq (.block 1 (.seq (.reg [
    ⟨(some 25), none, .faddr 1 (.s 1)⟩,
    ⟨(some 26), none, .load none (.s 25)⟩,
    ⟨(some 27), none, .mov (.s 4)⟩,
    ⟨(some 28), none, .iaddr 2 (.s 26) (.s 27)⟩,
    ⟨(some 29), none, .load (some 2) (.s 28)⟩,
    ⟨(some 5), none, .alloc [(.t (.str ⟨#[]⟩)), (.t .nil)]⟩,
    ⟨none, none, .store 2 (.s 5) (.s 29)⟩] [1, 3, 4, 5])
  (.seq (.seq (.reg [
    ⟨(some 30), none, .faddr 0 (.s 5)⟩,
    ⟨(some 31), none, .load none (.s 30)⟩,
    ⟨(some 32), none, .call 145 [(.s 31)]⟩,
    ⟨(some 33), none, .un .not (.s 32)⟩,
    ⟨(some 34), none, .mov (.s 33)⟩,
    ⟨(some 35), (some (34, false)), .faddr 1 (.s 5)⟩,
    ⟨(some 36), (some (34, false)), .load none (.s 35)⟩,
    ⟨(some 37), (some (34, false)), .len false (.s 36)⟩,
    ⟨(some 38), (some (34, false)), .call 70 [(.s 37), (.c (.t (.int .i64 1))), (.c (.t (.int .i64 3)))]⟩,
    ⟨(some 39), (some (34, false)), .un .not (.s 38)⟩,
    ⟨(some 40), none, .pick (.s 34) (.c (.t (.bool true))) (.s 39)⟩] [1, 3, 4, 5, 40])
  (.cond (.s 40)
    (.seq (.reg [
      ⟨(some 2), none, .mov (.c (.t (.bool false)))⟩] [2])
    (.ret))
    (.skip)))
  (.seq (.reg [
    ⟨(some 6), none, .mov (.c (.t (.int .i64 0)))⟩] [1, 3, 4, 5, 6])
  (.block 2 (.loop [1, 3, 4, 5, 6] B_spec_IsValidQuery_0))))))
  (.reg [
    ⟨(some 23), none, .mov (.s 4)⟩,
    ⟨(some 24), none, .bin .add (.s 23) (.c (.t (.int .i64 1)))⟩,
    ⟨(some 4), none, .mov (.s 24)⟩] [1, 3, 4]))

def M_spec_IsValidQuery : MFun := ⟨1, 84, [.tmp 2],
  .seq (.reg [
    ⟨(some 1), none, .box (.s 0)⟩,
    ⟨(some 2), none, .mov (.c (.t (.bool false)))⟩] [1])
  (.seq (.seq (.reg [
    ⟨(some 7), none, .faddr 0 (.s 1)⟩,
    ⟨(some 8), none, .load none (.s 7)⟩,
    ⟨(some 9), none, .call 70 [(.s 8), (.c (.t (.int .i64 1))), (.c (.t (.int .i64 4)))]⟩,
    ⟨(some 10), none, .un .not (.s 9)⟩,
    ⟨(some 11), none, .mov (.s 10)⟩,
    ⟨(some 12), (some (11, false)), .faddr 1 (.s 1)⟩,
    ⟨(some 13), (some (11, false)), .load none (.s 12)⟩,
    ⟨(some 14), (some (11, false)), .len false (.s 13)⟩,
    ⟨(some 15), (some (11, false)), .call 70 [(.s 14), (.c (.t (.int .i64 1))), (.c (.t (.int .i64 4)))]⟩,
    ⟨(some 16), (some (11, false)), .un .not (.s 15)⟩,
    ⟨(some 17), none, .pick (.s 11) (.c (.t (.bool true))) (.s 16)⟩] [1, 17])
  (.cond (.s 17)
    (.seq (.reg [
      ⟨(some 2), none, .mov (.c (.t (.bool false)))⟩] [2])
    (.ret))
    (.skip)))
  (.seq (.reg [
    ⟨(some 3), none, .mov (.c (.t (.int .i64 0)))⟩] [1, 3])
  (.seq (.seq (.reg [
    ⟨(some 4), none, .mov (.c (.t (.int .i64 0)))⟩] [1, 3, 4])
  (.block 0 (.loop [1, 3, 4] B_spec_IsValidQuery_1)))
  (.seq (.reg [
    ⟨(some 78), none, .mov (.s 3)⟩,
    ⟨(some 79), none, .faddr 0 (.s 1)⟩,
    ⟨(some 80), none, .load none (.s 79)⟩,
    ⟨(some 81), none, .bin .shl (.c (.t (.int .i64 1))) (.s 80)⟩,
    ⟨(some 82), none, .bin .sub (.s 81) (.c (.t (.int .i64 1)))⟩,
    ⟨(some 83), none, .bin .eql (.s 78) (.s 82)⟩,
    ⟨(some 2), none, .mov (.s 83)⟩] [2])
  (.ret)))))⟩
theorem t_spec_IsValidQuery : tbl 105 = some M_spec_IsValidQuery := tblOf_eq Try.func105 (by kernel_rfl) (by kernel_rfl)

/-- loop.example/g01921/spec.l23Step -/
def M_spec_l23Step : MFun := ⟨4, 214, [.cell 8 (some 4), .tmp 9],
  .seq (.reg [
    ⟨(some 4), none, .box (.s 0)⟩,
    ⟨(some 5), none, .box (.s 1)⟩,
    ⟨(some 8), none, .alloc [(.t (.int .i64 0)), (.t (.int .i64 0)), (.t (.int .i64 0)), (.t (.int .i64 0))]⟩,
    ⟨(some 9), none, .mov (.c (.t (.int .i64 0)))⟩] [2, 3, 4, 5, 8])
  (.seq (.reg [
    ⟨(some 15), none, .mov (.s 3)⟩,
    ⟨(some 16), none, .len false (.s 15)⟩,
    ⟨(some 10), none, .mov (.s 16)⟩] [2, 3, 4, 5, 8, 10])
  (.seq (.seq (.reg [
    ⟨(some 17), none, .faddr 0 (.s 5)⟩,
    ⟨(some 18), none, .load none (.s 17)⟩] [2, 3, 4, 5, 8, 10, 18])
  (.block 0 (.seq (.reg [
    ⟨(some 20), none, .bin .eql (.s 18) (.c (.t (.int .i64 1)))⟩,
    ⟨(some 19), none, .mov (.s 20)⟩] [2, 3, 4, 5, 8, 10, 18, 19])
  (.cond (.s 19)
    (.seq (.seq (.reg [
      ⟨(some 21), none, .faddr 1 (.s 5)⟩,
      ⟨(some 22), none, .load none (.s 21)⟩,
      ⟨(some 23), none, .faddr 1 (.s 4)⟩,
      ⟨(some 24), none, .load none (.s 23)⟩,
      ⟨(some 25), none, .len false (.s 24)⟩,
      ⟨(some 26), none, .bin .sub (.s 25) (.c (.t (.int .i64 1)))⟩,
      ⟨(some 27), none, .call 70 [(.s 22), (.c (.t (.int .i64 0))), (.s 26)]⟩,
      ⟨(some 28), none, .un .not (.s 27)⟩,
      ⟨(some 29), none, .mov (.s 28)⟩,
      ⟨(some 30), (some (29, false)), .faddr 2 (.s 5)⟩,
      ⟨(some 31), (some (29, false)), .load none (.s 30)⟩,
      ⟨(some 32), (some (29, false)), .bin .neq (.s 31) (.c (.t (.int .i64 0)))⟩,
      ⟨(some 33), none, .pick (.s 29) (.c (.t (.bool true))) (.s 32)⟩] [4, 5, 8, 33])
    (.cond (.s 33)
      (.seq (.reg [
        ⟨(some 34), none, .build [(.t (.int .i64 0)), (.t (.int .i64 0)), (.t (.int .i64 0)), (.t (.int .i64 0))] []⟩,
        ⟨none, none, .store 4 (.s 8) (.s 34)⟩,
        ⟨(some 9), none, .mov (.c (.t (.int .i64 (-1))))⟩] [8, 9])
      (.ret))
      (.skip)))
    (.seq (.drw [
      ⟨(some 35), none, .faddr 1 (.s 5)⟩,
      ⟨(some 36), none, .load none (.s 35)⟩,
      ⟨(some 37), none, .bin .shl (.c (.t (.int .i64 1))) (.s 36)⟩,
      ⟨(some 38), none, .faddr 1 (.s 4)⟩,
      ⟨(some 39), none, .load none (.s 38)⟩,
      ⟨(some 40), none, .faddr 1 (.s 5)⟩,
      ⟨(some 41), none, .load none (.s 40)⟩,
      ⟨(some 42), none, .iaddr 2 (.s 39) (.s 41)⟩,
      ⟨(some 43), none, .faddr 1 (.s 42)⟩,
      ⟨(some 44), none, .load none (.s 43)⟩,
      ⟨(some 45), none, .iaddr 1 (.s 44) (.c (.t (.int .i64 0)))⟩,
      ⟨(some 46), none, .load none (.s 45)⟩,
      ⟨(some 47), none, .build [(.t (.int .i64 0)), (.t (.int .i64 0)), (.t (.int .i64 0)), (.t (.int .i64 0))] [(0, 1, (.s 37)), (1, 1, (.s 46)), (2, 1, (.c (.t (.int .i64 (-1))))), (3, 1, (.c (.t (.int .i64 (-1)))))]⟩,
      ⟨none, none, .store 4 (.s 8) (.s 47)⟩,
      ⟨(some 9), none, .mov (.c (.t (.int .i64 0)))⟩] [[], [0], [1], [], [3], [], [5], [4, 6], [7], [8], [9], [10], [2, 11], [12, 0, 1, 2, 3, 4, 5, 6, 7, 8, 9, 10, 11, 12], [13, 0, 1, 2, 3, 4, 5, 6, 7, 8, 9, 10, 11, 12, 13]] [8, 9])
    (.ret)))
    (.seq (.reg [
      ⟨(some 49), none, .bin .eql (.s 18) (.c (.t (.int .i64 2)))⟩,
      ⟨(some 48), none, .mov (.s 49)⟩] [2, 3, 4, 5, 8, 10, 18, 48])
    (.cond (.s 48)
      (.seq (.seq (.drw [
        ⟨(some 50), none, .faddr 1 (.s 5)⟩,
        ⟨(some 51), none, .load none (.s 50)⟩,
        ⟨(some 52), none, .bin .neq (.s 51) (.c (.t (.int .i64 0)))⟩,
        ⟨(some 53), none, .mov (.s 52)⟩,
        ⟨(some 54), (some (53, false)), .mov (.s 10)⟩,
        ⟨(some 55), (some (53, false)), .bin .lss (.s 54) (.c (.t (.int .i64 1)))⟩,
        ⟨(some 56), none, .pick (.s 53) (.c (.t (.bool true))) (.s 55)⟩,
        ⟨(some 57), none, .mov (.s 56)⟩,
        ⟨(some 58), (some (57, false)), .mov (.s 2)⟩,
        ⟨(some 59), (some (57, false)), .mov (.s 3)⟩,
        ⟨(some 60), (some (57, false)), .mov (.s 10)⟩,
        ⟨(some 61), (some (57, false)), .bin .sub (.s 60) (.c (.t (.int .i64 1)))⟩,
        ⟨(some 62), (some (57, false)), .iaddr 1 (.s 59) (.s 61)⟩,
        ⟨(some 63), (some (57, false)), .load none (.s 62)⟩,
        ⟨(some 64), (some (57, false)), .iaddr 4 (.s 58) (.s 63)⟩,
        ⟨(some 65), (some (57, false)), .faddr 1 (.s 64)⟩,
        ⟨(some 66), (some (57, false)), .load none (.s 65)⟩,
        ⟨(some 67), (some (57, false)), .faddr 2 (.s 5)⟩,
        ⟨(some 68), (some (57, false)), .load none (.s 67)⟩,
        ⟨(some 69), (some (57, false)), .bin .eql (.s 66) (.s 68)⟩,
        ⟨(some 70), none, .pick (.s 57) (.c (.t (.bool true))) (.s 69)⟩,
        ⟨(some 71), none, .mov (.s 70)⟩,
        ⟨(some 72), (some (71, false)), .load (some 2) (.s 4)⟩,
        ⟨(some 73), (some (71, false)), .mov (.s 2)⟩,
        ⟨(some 74), (some (71, false)), .mov (.s 3)⟩,
        ⟨(some 75), (some (71, false)), .mov (.s 10)⟩,
        ⟨(some 76), (some (71, false)), .bin .sub (.s 75) (.c (.t (.int .i64 1)))⟩,
        ⟨(some 77), (some (71, false)), .iaddr 1 (.s 74) (.s 76)⟩,
        ⟨(some 78), (some (71, false)), .load none (.s 77)⟩,
        ⟨(some 79), (some (71, false)), .iaddr 4 (.s 73) (.s 78)⟩,
        ⟨(some 80), (some (71, false)), .faddr 0 (.s 79)⟩,
        ⟨(some 81), (some (71, false)), .load none (.s 80)⟩,
        ⟨(some 82), (some (71, false)), .call 147 [(.s 72), (.s 81)]⟩,
        ⟨(some 83), (some (71, false)), .faddr 2 (.s 5)⟩,
        ⟨(some 84), (some (71, false)), .load none (.s 83)⟩,
        ⟨(some 85), (some (71, false)), .call 146 [(.s 82), (.s 84)]⟩,
        ⟨(some 86), (some (71, false)), .un .not (.s 85)⟩,
        ⟨(some 87), none, .pick (.s 71) (.c (.t (.bool true))) (.s 86)⟩] [[], [0], [1], [2], [3], [4, 3], [3, 5], [6, 3], [7], [7], [7], [10, 7], [9, 11, 7], [12, 7], [8, 13, 7], [14, 7], [15, 7], [7], [17, 7], [16, 18, 7], [7, 19], [20, 7], [21], [21], [21], [21], [25, 21], [24, 26, 21], [27, 21], [23, 28, 21], [29, 21], [30, 21], [22, 31, 21, 21], [21], [33, 21], [32, 34, 32, 21], [35, 21], [21, 36]] [2, 3, 5, 8, 10, 87])
      (.cond (.s 87)
        (.seq (.reg [
          ⟨(some 88), none, .build [(.t (.int .i64 0)), (.t (.int .i64 0)), (.t (.int .i64 0)), (.t (.int .i64 0))] []⟩,
          ⟨none, none, .store 4 (.s 8) (.s 88)⟩,
          ⟨(some 9), none, .mov (.c (.t (.int .i64 (-1))))⟩] [8, 9])
        (.ret))
        (.skip)))
      (.seq (.drw [
        ⟨(some 89), none, .mov (.s 2)⟩,
        ⟨(some 90), none, .mov (.s 3)⟩,
        ⟨(some 91), none, .mov (.s 10)⟩,
        ⟨(some 92), none, .bin .sub (.s 91) (.c (.t (.int .i64 1)))⟩,
        ⟨(some 93), none, .iaddr 1 (.s 90) (.s 92)⟩,
        ⟨(some 94), none, .load none (.s 93)⟩,
        ⟨(some 95), none, .iaddr 4 (.s 89) (.s 94)⟩,
        ⟨(some 96), none, .faddr 0 (.s 95)⟩,
        ⟨(some 97), none, .load none (.s 96)⟩,
        ⟨(some 98), none, .faddr 2 (.s 5)⟩,
        ⟨(some 99), none, .load none (.s 98)⟩,
        ⟨(some 100), none, .mov (.s 3)⟩,
        ⟨(some 101), none, .mov (.s 10)⟩,
        ⟨(some 102), none, .bin .sub (.s 101) (.c (.t (.int .i64 1)))⟩,
        ⟨(some 103), none, .iaddr 1 (.s 100) (.s 102)⟩,
        ⟨(some 104), none, .load none (.s 103)⟩,
        ⟨(some 105), none, .build [(.t (.int .i64 0)), (.t (.int .i64 0)), (.t (.int .i64 0)), (.t (.int .i64 0))] [(0, 1, (.s 97)), (1, 1, (.s 99)), (2, 1, (.s 104)), (3, 1, (.c (.t (.int .i64 (-1)))))]⟩,
        ⟨none, none, .store 4 (.s 8) (.s 105)⟩,
        ⟨(some 9), none, .mov (.c (.t (.int .i64 1)))⟩] [[], [], [], [2], [1, 3], [4], [0, 5], [6], [7], [], [9], [], [], [12], [11, 13], [14], [8, 10, 15], [16, 0, 1, 2, 3, 4, 5, 6, 7, 8, 9, 10, 11, 12, 13, 14, 15, 16], [17, 0, 1, 2, 3, 4, 5, 6, 7, 8, 9, 10, 11, 12, 13, 14, 15, 16, 17]] [8, 9])
      (.ret)))
      (.seq (.seq (.reg [
        ⟨(some 107), none, .bin .eql (.s 18) (.c (.t (.int .i64 3)))⟩,
        ⟨(some 106), none, .mov (.s 107)⟩] [2, 3, 4, 5, 8, 10, 18, 106])
      (.cond (.s 106)
        (.skip)
        (.seq (.reg [
          ⟨(some 108), none, .bin .eql (.s 18) (.c (.t (.int .i64 4)))⟩,
          ⟨(some 106), none, .mov (.s 108)⟩] [2, 3, 4, 5, 8, 10, 18, 106])
        (.cond (.s 106)
          (.skip)
          (.reg [
            ⟨(some 109), none, .bin .eql (.s 18) (.c (.t (.int .i64 5)))⟩,
            ⟨(some 106), none, .mov (.s 109)⟩] [2, 3, 4, 5, 8, 10, 106])))))
      (.cond (.s 106)
        (.seq (.seq (.reg [
          ⟨(some 110), none, .faddr 1 (.s 5)⟩,
          ⟨(some 111), none, .load none (.s 110)⟩,
          ⟨(some 112), none, .bin .neq (.s 111) (.c (.t (.int .i64 0)))⟩,
          ⟨(some 113), none, .mov (.s 112)⟩,
          ⟨(some 114), (some (113, false)), .mov (.s 10)⟩,
          ⟨(some 115), (some (113, false)), .bin .lss (.s 114) (.c (.t (.int .i64 2)))⟩,
          ⟨(some 116), none, .pick (.s 113) (.c (.t (.bool true))) (.s 115)⟩] [2, 3, 4, 5, 8, 10, 116])
        (.cond (.s 116)
          (.seq (.reg [
            ⟨(some 117), none, .build [(.t (.int .i64 0)), (.t (.int .i64 0)), (.t (.int .i64 0)), (.t (.int .i64 0))] []⟩,
            ⟨none, none, .store 4 (.s 8) (.s 117)⟩,
            ⟨(some 9), none, .mov (.c (.t (.int .i64 (-1))))⟩] [8, 9])
          (.ret))
          (.skip)))
        (.seq (.reg [
          ⟨(some 118), none, .mov (.s 2)⟩,
          ⟨(some 119), none, .mov (.s 3)⟩,
          ⟨(some 120), none, .mov (.s 10)⟩,
          ⟨(some 121), none, .bin .sub (.s 120) (.c (.t (.int .i64 2)))⟩,
          ⟨(some 122), none, .iaddr 1 (.s 119) (.s 121)⟩,
          ⟨(some 123), none, .load none (.s 122)⟩,
          ⟨(some 124), none, .iaddr 4 (.s 118) (.s 123)⟩,
          ⟨(some 125), none, .load (some 4) (.s 124)⟩,
          ⟨(some 11), none, .alloc [(.t (.int .i64 0)), (.t (.int .i64 0)), (.t (.int .i64 0)), (.t (.int .i64 0))]⟩,
          ⟨none, none, .store 4 (.s 11) (.s 125)⟩] [2, 3, 4, 5, 8, 10, 11])
        (.seq (.reg [
          ⟨(some 126), none, .mov (.s 2)⟩,
          ⟨(some 127), none, .mov (.s 3)⟩,
          ⟨(some 128), none, .mov (.s 10)⟩,
          ⟨(some 129), none, .bin .sub (.s 128) (.c (.t (.int .i64 1)))⟩,
          ⟨(some 130), none, .iaddr 1 (.s 127) (.s 129)⟩,
          ⟨(some 131), none, .load none (.s 130)⟩,
          ⟨(some 132), none, .iaddr 4 (.s 126) (.s 131)⟩,
          ⟨(some 133), none, .load (some 4) (.s 132)⟩,
          ⟨(some 12), none, .alloc [(.t (.int .i64 0)), (.t (.int .i64 0)), (.t (.int .i64 0)), (.t (.int .i64 0))]⟩,
          ⟨none, none, .store 4 (.s 12) (.s 133)⟩] [3, 4, 5, 8, 10, 11, 12])
        (.seq (.drw [
          ⟨(some 134), none, .load (some 2) (.s 4)⟩,
          ⟨(some 135), none, .faddr 0 (.s 11)⟩,
          ⟨(some 136), none, .load none (.s 135)⟩,
          ⟨(some 137), none, .call 147 [(.s 134), (.s 136)]⟩,
          ⟨(some 138), none, .load (some 2) (.s 4)⟩,
          ⟨(some 139), none, .faddr 0 (.s 12)⟩,
          ⟨(some 140), none, .load none (.s 139)⟩,
          ⟨(some 141), none, .call 147 [(.s 138), (.s 140)]⟩,
          ⟨(some 142), none, .bin .and (.s 137) (.s 141)⟩,
          ⟨(some 13), none, .mov (.s 142)⟩] [[], [], [1], [0, 2], [], [], [5], [4, 6, 3], [3, 7], [8, 7, 0, 1, 2, 3, 4, 5, 6, 7, 8]] [3, 5, 8, 10, 11, 12, 13])
        (.seq (.seq (.reg [
          ⟨(some 143), none, .faddr 0 (.s 11)⟩,
          ⟨(some 144), none, .load none (.s 143)⟩,
          ⟨(some 145), none, .faddr 0 (.s 12)⟩,
          ⟨(some 146), none, .load none (.s 145)⟩,
          ⟨(some 147), none, .bin .and (.s 144) (.s 146)⟩,
          ⟨(some 148), none, .bin .neq (.s 147) (.c (.t (.int .i64 0)))⟩,
          ⟨(some 149), none, .mov (.s 148)⟩,
          ⟨(some 150), (some (149, false)), .mov (.s 13)⟩,
          ⟨(some 151), (some (149, false)), .bin .eql (.s 150) (.c (.t (.int .i64 0)))⟩,
          ⟨(some 152), none, .pick (.s 149) (.c (.t (.bool true))) (.s 151)⟩,
          ⟨(some 153), none, .mov (.s 152)⟩,
          ⟨(some 154), (some (153, false)), .faddr 0 (.s 5)⟩,
          ⟨(some 155), (some (153, false)), .load none (.s 154)⟩,
          ⟨(some 156), (some (153, false)), .bin .neq (.s 155) (.c (.t (.int .i64 4)))⟩,
          ⟨(some 157), (some (153, false)), .mov (.s 156)⟩,
          ⟨(some 158), (some (157, true)), .faddr 2 (.s 5)⟩,
          ⟨(some 159), (some (157, true)), .load none (.s 158)⟩,
          ⟨(some 160), (some (157, true)), .bin .neq (.s 159) (.c (.t (.int .i64 0)))⟩,
          ⟨(some 161), (some (153, false)), .pick (.s 157) (.s 160) (.c (.t (.bool false)))⟩,
          ⟨(some 162), none, .pick (.s 153) (.c (.t (.bool true))) (.s 161)⟩] [3, 5, 8, 10, 11, 12, 13, 162])
        (.cond (.s 162)
          (.seq (.reg [
            ⟨(some 163), none, .build [(.t (.int .i64 0)), (.t (.int .i64 0)), (.t (.int .i64 0)), (.t (.int .i64 0))] []⟩,
            ⟨none, none, .store 4 (.s 8) (.s 163)⟩,
            ⟨(some 9), none, .mov (.c (.t (.int .i64 (-1))))⟩] [8, 9])
          (.ret))
          (.skip)))
        (.seq (.drw [
          ⟨(some 164), none, .faddr 0 (.s 11)⟩,
          ⟨(some 165), none, .load none (.s 164)⟩,
          ⟨(some 166), none, .faddr 0 (.s 12)⟩,
          ⟨(some 167), none, .load none (.s 166)⟩,
          ⟨(some 168), none, .bin .or (.s 165) (.s 167)⟩,
          ⟨(some 169), none, .mov (.s 3)⟩,
          ⟨(some 170), none, .mov (.s 10)⟩,
          ⟨(some 171), none, .bin .sub (.s 170) (.c (.t (.int .i64 2)))⟩,
          ⟨(some 172), none, .iaddr 1 (.s 169) (.s 171)⟩,
          ⟨(some 173), none, .load none (.s 172)⟩,
          ⟨(some 174), none, .mov (.s 3)⟩,
          ⟨(some 175), none, .mov (.s 10)⟩,
          ⟨(some 176), none, .bin .sub (.s 175) (.c (.t (.int .i64 1)))⟩,
          ⟨(some 177), none, .iaddr 1 (.s 174) (.s 176)⟩,
          ⟨(some 178), none, .load none (.s 177)⟩,
          ⟨(some 179), none, .build [(.t (.int .i64 0)), (.t (.int .i64 0)), (.t (.int .i64 0)), (.t (.int .i64 0))] [(0, 1, (.s 168)), (1, 1, (.c (.t (.int .i64 (-1))))), (2, 1, (.s 173)), (3, 1, (.s 178))]⟩,
          ⟨(some 14), none, .alloc [(.t (.int .i64 0)), (.t (.int .i64 0)), (.t (.int .i64 0)), (.t (.int .i64 0))]⟩,
          ⟨none, none, .store 4 (.s 14) (.s 179)⟩] [[], [0], [], [2], [1, 3], [], [], [6], [5, 7], [8], [], [], [11], [10, 12], [13], [4, 9, 14], [], [16, 15, 0, 1, 2, 3, 4, 5, 6, 7, 8, 9, 10, 11, 12, 13, 14, 15, 16]] [5, 8, 11, 12, 13, 14])
        (.seq (.seq (.reg [
          ⟨(some 180), none, .faddr 0 (.s 5)⟩,
          ⟨(some 181), none, .load none (.s 180)⟩,
          ⟨(some 182), none, .bin .eql (.s 181) (.c (.t (.int .i64 5)))⟩] [5, 8, 11, 12, 13, 14, 182])
        (.cond (.s 182)
          (.reg [
            ⟨(some 183), none, .faddr 1 (.s 11)⟩,
            ⟨(some 184), none, .load none (.s 183)⟩,
            ⟨(some 185), none, .faddr 1 (.s 14)⟩,
            ⟨none, none, .store 1 (.s 185) (.s 184)⟩] [5, 8, 11, 12, 13, 14])
          (.skip)))
        (.seq (.seq (.reg [
          ⟨(some 186), none, .faddr 0 (.s 5)⟩,
          ⟨(some 187), none, .load none (.s 186)⟩,
          ⟨(some 188), none, .bin .eql (.s 187) (.c (.t (.int .i64 4)))⟩] [5, 8, 11, 12, 13, 14, 188])
        (.cond (.s 188)
          (.seq (.seq (.reg [
            ⟨(some 189), none, .mov (.s 13)⟩,
            ⟨(some 190), none, .faddr 2 (.s 5)⟩,
            ⟨(some 191), none, .load none (.s 190)⟩,
            ⟨(some 192), none, .call 146 [(.s 189), (.s 191)]⟩,
            ⟨(some 193), none, .un .not (.s 192)⟩,
            ⟨(some 194), none, .mov (.s 193)⟩,
            ⟨(some 195), (some (194, false)), .faddr 1 (.s 11)⟩,
            ⟨(some 196), (some (194, false)), .load none (.s 195)⟩,
            ⟨(some 197), (some (194, false)), .faddr 2 (.s 5)⟩,
            ⟨(some 198), (some (194, false)), .load none (.s 197)⟩,
            ⟨(some 199), (some (194, false)), .bin .neq (.s 196) (.s 198)⟩,
            ⟨(some 200), none, .pick (.s 194) (.c (.t (.bool true))) (.s 199)⟩,
            ⟨(some 201), none, .mov (.s 200)⟩,
            ⟨(some 202), (some (201, false)), .faddr 1 (.s 12)⟩,
            ⟨(some 203), (some (201, false)), .load none (.s 202)⟩,
            ⟨(some 204), (some (201, false)), .faddr 2 (.s 5)⟩,
            ⟨(some 205), (some (201, false)), .load none (.s 204)⟩,
            ⟨(some 206), (some (201, false)), .bin .neq (.s 203) (.s 205)⟩,
            ⟨(some 207), none, .pick (.s 201) (.c (.t (.bool true))) (.s 206)⟩] [5, 8, 14, 207])
          (.cond (.s 207)
            (.seq (.reg [
              ⟨(some 208), none, .build [(.t (.int .i64 0)), (.t (.int .i64 0)), (.t (.int .i64 0)), (.t (.int .i64 0))] []⟩,
              ⟨none, none, .store 4 (.s 8) (.s 208)⟩,
              ⟨(some 9), none, .mov (.c (.t (.int .i64 (-1))))⟩] [8, 9])
            (.ret))
            (.skip)))
          (.reg [
            ⟨(some 209), none, .faddr 2 (.s 5)⟩,
            ⟨(some 210), none, .load none (.s 209)⟩,
            ⟨(some 211), none, .faddr 1 (.s 14)⟩,
            ⟨none, none, .store 1 (.s 211) (.s 210)⟩] [8, 14]))
          (.skip)))
        (.seq (.reg [
          ⟨(some 212), none, .load (some 4) (.s 14)⟩,
          ⟨none, none, .store 4 (.s 8) (.s 212)⟩,
          ⟨(some 9), none, .mov (.c (.t (.int .i64 2)))⟩] [8, 9])
        (.ret))))))))))
        (.skip)))))))))
  (.seq (.reg [
    ⟨(some 213), none, .build [(.t (.int .i64 0)), (.t (.int .i64 0)), (.t (.int .i64 0)), (.t (.int .i64 0))] []⟩,
    ⟨none, none, .store 4 (.s 8) (.s 213)⟩,
    ⟨(some 9), none, .mov (.c (.t (.int .i64 (-1))))⟩] [8, 9])
  (.ret))))⟩
theorem t_spec_l23Step : tbl 106 = some M_spec_l23Step := tblOf_eq Try.func106 (by kernel_rfl) (by kernel_rfl)

/-- loop.example/g01921/spec.IsLocation -/
def B_spec_IsLocation_0 : MCode :=
  .seq (.seq (.reg [
    ⟨(some 4), none, .mov (.s 3)⟩,
    ⟨(some 5), none, .mov (.s 0)⟩,
    ⟨(some 6), none, .len false (.s 5)⟩,
    ⟨(some 7), none, .bin .lss (.s 4) (.s 6)⟩] [0, 3, 7])
  (.cond (.s 7)
    (.skip)
    (.exit 0)))
  (.seq (.block 1 (.seq (.reg [
    ⟨(some 10), none, .mov (.s 0)⟩,
    ⟨(some 11), none, .mov (.s 3)⟩,
    ⟨(some 12), none, .iaddr 1 (.s 10) (.s 11)⟩,
    ⟨(some 13), none, .load none (.s 12)⟩,
    ⟨(some 14), none, .call 70 [(.s 13), (.c (.t (.int .i64 0))), (.c (.t (.int .i64 7)))]⟩,
    ⟨(some 15), none, .un .not (.s 14)⟩] [0, 3, 15])
  (.cond (.s 15)
    (.seq (.reg [
      ⟨(some 2), none, .mov (.c (.t (.bool false)))⟩] [2])
    (.ret))
    (.skip))))
  (.reg [
    ⟨(some 8), none, .mov (.s 3)⟩,
    ⟨(some 9), none, .bin .add (.s 8) (.c (.t (.int .i64 1)))⟩,
    ⟨(some 3), none, .mov (.s 9)⟩] [0, 3]))

def M_spec_IsLocation : MFun := ⟨1, 19, [.tmp 2],
  .seq (.reg [
    ⟨(some 2), none, .mov (.c (.t (.bool false)))⟩] [0])
  (.seq (.seq (.reg [
    ⟨(some 3), none, .mov (.c (.t (.int .i64 0)))⟩] [0, 3])
  (.block 0 (.loop [0, 3] B_spec_IsLocation_0)))
  (.seq (.reg [
    ⟨(some 16), none, .mov (.s 0)⟩,
    ⟨(some 17), none, .len false (.s 16)⟩,
    ⟨(some 18), none, .bin .leq (.s 17) (.c (.t (.int .i64 16)))⟩,
    ⟨(some 2), none, .mov (.s 18)⟩] [2])
  (.ret)))⟩
theorem t_spec_IsLocation : tbl 107 = some M_spec_IsLocation := tblOf_eq Try.func107 (by kernel_rfl) (by kernel_rfl)

/-- loop.example/g01921/spec.DominatesLocation -/
def B_spec_DominatesLocation_0 : MCode :=
  .seq (.seq (.reg [
    ⟨(some 11), none, .mov (.s 5)⟩,
    ⟨(some 12), none, .mov (.s 0)⟩,
    ⟨(some 13), none, .len false (.s 12)⟩,
    ⟨(some 14), none, .bin .lss (.s 11) (.s 13)⟩] [0, 1, 5, 14])
  (.cond (.s 14)
    (.skip)
    (.exit 0)))
  (.seq (.block 1 (.seq (.drw [
    ⟨(some 17), none, .mov (.s 0)⟩,
    ⟨(some 18), none, .mov (.s 5)⟩,
    ⟨(some 19), none, .iaddr 1 (.s 17) (.s 18)⟩,
    ⟨(some 20), none, .load none (.s 19)⟩,
    ⟨(some 21), none, .mov (.s 1)⟩,
    ⟨(some 22), none, .mov (.s 5)⟩,
    ⟨(some 23), none, .iaddr 1 (.s 21) (.s 22)⟩,
    ⟨(some 24), none, .load none (.s 23)⟩,
    ⟨(some 25), none, .bin .lss (.s 20) (.s 24)⟩] [[], [], [0, 1], [2], [], [], [4, 5], [6], [3, 7]] [0, 1, 5, 25])
  (.cond (.s 25)
    (.seq (.reg [
      ⟨(some 4), none, .mov (.c (.t (.bool false)))⟩] [4])
    (.ret))
    (.skip))))
  (.reg [
    ⟨(some 15), none, .mov (.s 5)⟩,
    ⟨(some 16), none, .bin .add (.s 15) (.c (.t (.int .i64 1)))⟩,
    ⟨(some 5), none, .mov (.s 16)⟩] [0, 1, 5]))

def M_spec_DominatesLocation : MFun := ⟨2, 26, [.tmp 4],
  .seq (.reg [
    ⟨(some 4), none, .mov (.c (.t (.bool false)))⟩] [0, 1])
  (.seq (.seq (.reg [
    ⟨(some 6), none, .mov (.s 0)⟩,
    ⟨(some 7), none, .len false (.s 6)⟩,
    ⟨(some 8), none, .mov (.s 1)⟩,
    ⟨(some 9), none, .len false (.s 8)⟩,
    ⟨(some 10), none, .bin .neq (.s 7) (.s 9)⟩] [0, 1, 10])
  (.cond (.s 10)
    (.seq (.reg [
      ⟨(some 4), none, .mov (.c (.t (.bool false)))⟩] [4])
    (.ret))
    (.skip)))
  (.seq (.seq (.reg [
    ⟨(some 5), none, .mov (.c (.t (.int .i64 0)))⟩] [0, 1, 5])
  (.block 0 (.loop [0, 1, 5] B_spec_DominatesLocation_0)))
  (.seq (.reg [
    ⟨(some 4), none, .mov (.c (.t (.bool true)))⟩] [4])
  (.ret))))⟩
theorem t_spec_DominatesLocation : tbl 108 = some M_spec_DominatesLocation := tblOf_eq Try.func108 (by kernel_rfl) (by kernel_rfl)

/-- loop.example/g01921/laws.toAtom -/
def M_laws_toAtom : MFun := ⟨1, 12, [.cell 2 (some 2)],
  .seq (.reg [
    ⟨(some 1), none, .box (.s 0)⟩,
    ⟨(some 2), none, .alloc [(.t (.str ⟨#[]⟩)), (.t .nil)]⟩] [1, 2])
  (.seq (.reg [
    ⟨(some 3), none, .alloc [(.t (.str ⟨#[]⟩)), (.t .nil)]⟩] [1, 2, 3])
  (.seq (.reg [
    ⟨(some 4), none, .faddr 0 (.s 1)⟩,
    ⟨(some 5), none, .load none (.s 4)⟩,
    ⟨(some 6), none, .faddr 0 (.s 3)⟩,
    ⟨none, none, .store 1 (.s 6) (.s 5)⟩] [1, 2, 3])
  (.seq (.reg [
    ⟨(some 7), none, .faddr 1 (.s 1)⟩,
    ⟨(some 8), none, .load none (.s 7)⟩,
    ⟨(some 9), none, .call 57 [(.s 8)]⟩,
    ⟨(some 10), none, .faddr 1 (.s 3)⟩,
    ⟨none, none, .store 1 (.s 10) (.s 9)⟩] [2, 3])
  (.seq (.reg [
    ⟨(some 11), none, .load (some 2) (.s 3)⟩,
    ⟨none, none, .store 2 (.s 2) (.s 11)⟩] [2])
  (.ret)))))⟩
theorem t_laws_toAtom : tbl 109 = some M_laws_toAtom := tblOf_eq Try.func109 (by kernel_rfl) (by kernel_rfl)

/-- loop.example/g01921/laws.toPlanStep -/
def M_laws_toPlanStep : MFun := ⟨1, 14, [.cell 2 (some 3)],
  .seq (.reg [
    ⟨(some 1), none, .box (.s 0)⟩,
    ⟨(some 2), none, .alloc [(.t (.int .i64 0)), (.t (.int .i64 0)), (.t (.int .i64 0))]⟩] [1, 2])
  (.seq (.reg [
    ⟨(some 3), none, .alloc [(.t (.int .i64 0)), (.t (.int .i64 0)), (.t (.int .i64 0))]⟩] [1, 2, 3])
  (.seq (.reg [
    ⟨(some 4), none, .faddr 0 (.s 1)⟩,
    ⟨(some 5), none, .load none (.s 4)⟩,
    ⟨(some 6), none, .faddr 0 (.s 3)⟩,
    ⟨none, none, .store 1 (.s 6) (.s 5)⟩] [1, 2, 3])
  (.seq (.reg [
    ⟨(some 7), none, .faddr 1 (.s 1)⟩,
    ⟨(some 8), none, .load none (.s 7)⟩,
    ⟨(some 9), none, .faddr 1 (.s 3)⟩,
    ⟨none, none, .store 1 (.s 9) (.s 8)⟩] [1, 2, 3])
  (.seq (.reg [
    ⟨(some 10), none, .faddr 2 (.s 1)⟩,
    ⟨(some 11), none, .load none (.s 10)⟩,
    ⟨(some 12), none, .faddr 2 (.s 3)⟩,
    ⟨none, none, .store 1 (.s 12) (.s 11)⟩] [2, 3])
  (.seq (.reg [
    ⟨(some 13), none, .load (some 3) (.s 3)⟩,
    ⟨none, none, .store 3 (.s 2) (.s 13)⟩] [2])
  (.ret))))))⟩
theorem t_laws_toPlanStep : tbl 110 = some M_laws_toPlanStep := tblOf_eq Try.func110 (by kernel_rfl) (by kernel_rfl)

/-- loop.example/g01921/impl.stepInfo -/
def M_impl_stepInfo : MFun := ⟨4, 202, [.cell 8 (some 4), .tmp 9],
  .seq (.reg [
    ⟨(some 4), none, .box (.s 0)⟩,
    ⟨(some 5), none, .box (.s 1)⟩,
    ⟨(some 8), none, .alloc [(.t (.int .i64 0)), (.t (.int .i64 0)), (.t (.int .i64 0)), (.t (.int .i64 0))]⟩,
    ⟨(some 9), none, .mov (.c (.t (.bool false)))⟩] [2, 3, 4, 5, 8])
  (.seq (.reg [
    ⟨(some 15), none, .build [(.t (.int .i64 0)), (.t (.int .i64 0)), (.t (.int .i64 0)), (.t (.int .i64 0))] [(1, 1, (.c (.t (.int .i64 (-1))))), (2, 1, (.c (.t (.int .i64 (-1))))), (3, 1, (.c (.t (.int .i64 (-1)))))]⟩,
    ⟨(some 10), none, .alloc [(.t (.int .i64 0)), (.t (.int .i64 0)), (.t (.int .i64 0)), (.t (.int .i64 0))]⟩,
    ⟨none, none, .store 4 (.s 10) (.s 15)⟩] [2, 3, 4, 5, 8, 10])
  (.seq (.seq (.reg [
    ⟨(some 16), none, .faddr 0 (.s 5)⟩,
    ⟨(some 17), none, .load none (.s 16)⟩,
    ⟨(some 18), none, .bin .eql (.s 17) (.c (.t (.int .i64 1)))⟩] [2, 3, 4, 5, 8, 10, 18])
  (.cond (.s 18)
    (.seq (.seq (.reg [
      ⟨(some 19), none, .faddr 1 (.s 5)⟩,
      ⟨(some 20), none, .load none (.s 19)⟩,
      ⟨(some 21), none, .faddr 1 (.s 4)⟩,
      ⟨(some 22), none, .load none (.s 21)⟩,
      ⟨(some 23), none, .len false (.s 22)⟩,
      ⟨(some 24), none, .bin .sub (.s 23) (.c (.t (.int .i64 1)))⟩,
      ⟨(some 25), none, .call 74 [(.s 20), (.c (.t (.int .i64 0))), (.s 24)]⟩,
      ⟨(some 26), none, .un .not (.s 25)⟩,
      ⟨(some 27), none, .mov (.s 26)⟩,
      ⟨(some 28), (some (27, false)), .faddr 2 (.s 5)⟩,
      ⟨(some 29), (some (27, false)), .load none (.s 28)⟩,
      ⟨(some 30), (some (27, false)), .bin .neq (.s 29) (.c (.t (.int .i64 0)))⟩,
      ⟨(some 31), none, .pick (.s 27) (.c (.t (.bool true))) (.s 30)⟩] [4, 5, 8, 10, 31])
    (.cond (.s 31)
      (.seq (.reg [
        ⟨(some 32), none, .load (some 4) (.s 10)⟩,
        ⟨none, none, .store 4 (.s 8) (.s 32)⟩,
        ⟨(some 9), none, .mov (.c (.t (.bool false)))⟩] [8, 9])
      (.ret))
      (.skip)))
    (.seq (.reg [
      ⟨(some 33), none, .faddr 1 (.s 5)⟩,
      ⟨(some 34), none, .load none (.s 33)⟩,
      ⟨(some 35), none, .bin .shl (.c (.t (.int .i64 1))) (.s 34)⟩,
      ⟨(some 36), none, .faddr 0 (.s 10)⟩,
      ⟨none, none, .store 1 (.s 36) (.s 35)⟩] [4, 5, 8, 10])
    (.seq (.reg [
      ⟨(some 37), none, .faddr 1 (.s 4)⟩,
      ⟨(some 38), none, .load none (.s 37)⟩,
      ⟨(some 39), none, .faddr 1 (.s 5)⟩,
      ⟨(some 40), none, .load none (.s 39)⟩,
      ⟨(some 41), none, .iaddr 2 (.s 38) (.s 40)⟩,
      ⟨(some 42), none, .faddr 1 (.s 41)⟩,
      ⟨(some 43), none, .load none (.s 42)⟩,
      ⟨(some 44), none, .iaddr 1 (.s 43) (.c (.t (.int .i64 0)))⟩,
      ⟨(some 45), none, .load none (.s 44)⟩,
      ⟨(some 46), none, .faddr 1 (.s 10)⟩,
      ⟨none, none, .store 1 (.s 46) (.s 45)⟩] [8, 10])
    (.seq (.reg [
      ⟨(some 47), none, .load (some 4) (.s 10)⟩,
      ⟨none, none, .store 4 (.s 8) (.s 47)⟩,
      ⟨(some 9), none, .mov (.c (.t (.bool true)))⟩] [8, 9])
    (.ret)))))
    (.skip)))
  (.seq (.reg [
    ⟨(some 48), none, .mov (.s 3)⟩,
    ⟨(some 49), none, .len false (.s 48)⟩,
    ⟨(some 11), none, .mov (.s 49)⟩] [2, 3, 4, 5, 8, 10, 11])
  (.seq (.seq (.reg [
    ⟨(some 50), none, .faddr 1 (.s 5)⟩,
    ⟨(some 51), none, .load none (.s 50)⟩,
    ⟨(some 52), none, .bin .neq (.s 51) (.c (.t (.int .i64 0)))⟩] [2, 3, 4, 5, 8, 10, 11, 52])
  (.cond (.s 52)
    (.seq (.reg [
      ⟨(some 53), none, .load (some 4) (.s 10)⟩,
      ⟨none, none, .store 4 (.s 8) (.s 53)⟩,
      ⟨(some 9), none, .mov (.c (.t (.bool false)))⟩] [8, 9])
    (.ret))
    (.skip)))
  (.seq (.seq (.reg [
    ⟨(some 54), none, .faddr 0 (.s 5)⟩,
    ⟨(some 55), none, .load none (.s 54)⟩,
    ⟨(some 56), none, .bin .eql (.s 55) (.c (.t (.int .i64 2)))⟩] [2, 3, 4, 5, 8, 10, 11, 56])
  (.cond (.s 56)
    (.seq (.seq (.drw [
      ⟨(some 57), none, .mov (.s 11)⟩,
      ⟨(some 58), none, .bin .lss (.s 57) (.c (.t (.int .i64 1)))⟩,
      ⟨(some 59), none, .mov (.s 58)⟩,
      ⟨(some 60), (some (59, false)), .load (some 2) (.s 4)⟩,
      ⟨(some 61), (some (59, false)), .mov (.s 2)⟩,
      ⟨(some 62), (some (59, false)), .mov (.s 3)⟩,
      ⟨(some 63), (some (59, false)), .mov (.s 11)⟩,
      ⟨(some 64), (some (59, false)), .bin .sub (.s 63) (.c (.t (.int .i64 1)))⟩,
      ⟨(some 65), (some (59, false)), .iaddr 1 (.s 62) (.s 64)⟩,
      ⟨(some 66), (some (59, false)), .load none (.s 65)⟩,
      ⟨(some 67), (some (59, false)), .iaddr 4 (.s 61) (.s 66)⟩,
      ⟨(some 68), (some (59, false)), .faddr 0 (.s 67)⟩,
      ⟨(some 69), (some (59, false)), .load none (.s 68)⟩,
      ⟨(some 70), (some (59, false)), .call 148 [(.s 60), (.s 69)]⟩,
      ⟨(some 71), (some (59, false)), .faddr 2 (.s 5)⟩,
      ⟨(some 72), (some (59, false)), .load none (.s 71)⟩,
      ⟨(some 73), (some (59, false)), .call 121 [(.s 70), (.s 72)]⟩,
      ⟨(some 74), (some (59, false)), .un .not (.s 73)⟩,
      ⟨(some 75), none, .pick (.s 59) (.c (.t (.bool true))) (.s 74)⟩,
      ⟨(some 76), none, .mov (.s 75)⟩,
      ⟨(some 77), (some (76, false)), .mov (.s 2)⟩,
      ⟨(some 78), (some (76, false)), .mov (.s 3)⟩,
      ⟨(some 79), (some (76, false)), .mov (.s 11)⟩,
      ⟨(some 80), (some (76, false)), .bin .sub (.s 79) (.c (.t (.int .i64 1)))⟩,
      ⟨(some 81), (some (76, false)), .iaddr 1 (.s 78) (.s 80)⟩,
      ⟨(some 82), (some (76, false)), .load none (.s 81)⟩,
      ⟨(some 83), (some (76, false)), .iaddr 4 (.s 77) (.s 82)⟩,
      ⟨(some 84), (some (76, false)), .faddr 1 (.s 83)⟩,
      ⟨(some 85), (some (76, false)), .load none (.s 84)⟩,
      ⟨(some 86), (some (76, false)), .faddr 2 (.s 5)⟩,
      ⟨(some 87), (some (76, false)), .load none (.s 86)⟩,
      ⟨(some 88), (some (76, false)), .bin .eql (.s 85) (.s 87)⟩,
      ⟨(some 89), none, .pick (.s 76) (.c (.t (.bool true))) (.s 88)⟩] [[], [0], [1], [2], [2], [2], [2], [6, 2], [5, 7, 2], [8, 2], [4, 9, 2], [10, 2], [11, 2], [3, 12, 2, 2], [2], [14, 2], [13, 15, 13, 2], [16, 2], [2, 17], [18, 16], [19], [19], [19], [22, 19], [21, 23, 19], [24, 19], [20, 25, 19], [26, 19], [27, 19], [19], [29, 19], [28, 30, 19], [19, 31]] [2, 3, 5, 8, 10, 11, 89])
    (.cond (.s 89)
      (.seq (.reg [
        ⟨(some 90), none, .load (some 4) (.s 10)⟩,
        ⟨none, none, .store 4 (.s 8) (.s 90)⟩,
        ⟨(some 9), none, .mov (.c (.t (.bool false)))⟩] [8, 9])
      (.ret))
      (.skip)))
    (.seq (.reg [
      ⟨(some 91), none, .mov (.s 3)⟩,
      ⟨(some 92), none, .mov (.s 11)⟩,
      ⟨(some 93), none, .bin .sub (.s 92) (.c (.t (.int .i64 1)))⟩,
      ⟨(some 94), none, .iaddr 1 (.s 91) (.s 93)⟩,
      ⟨(some 95), none, .load none (.s 94)⟩,
      ⟨(some 96), none, .faddr 2 (.s 10)⟩,
      ⟨none, none, .store 1 (.s 96) (.s 95)⟩] [2, 5, 8, 10])
    (.seq (.reg [
      ⟨(some 97), none, .mov (.s 2)⟩,
      ⟨(some 98), none, .faddr 2 (.s 10)⟩,
      ⟨(some 99), none, .load none (.s 98)⟩,
      ⟨(some 100), none, .iaddr 4 (.s 97) (.s 99)⟩,
      ⟨(some 101), none, .faddr 0 (.s 100)⟩,
      ⟨(some 102), none, .load none (.s 101)⟩,
      ⟨(some 103), none, .faddr 0 (.s 10)⟩,
      ⟨none, none, .store 1 (.s 103) (.s 102)⟩] [5, 8, 10])
    (.seq (.reg [
      ⟨(some 104), none, .faddr 2 (.s 5)⟩,
      ⟨(some 105), none, .load none (.s 104)⟩,
      ⟨(some 106), none, .faddr 1 (.s 10)⟩,
      ⟨none, none, .store 1 (.s 106) (.s 105)⟩] [8, 10])
    (.seq (.reg [
      ⟨(some 107), none, .load (some 4) (.s 10)⟩,
      ⟨none, none, .store 4 (.s 8) (.s 107)⟩,
      ⟨(some 9), none, .mov (.c (.t (.bool true)))⟩] [8, 9])
    (.ret))))))
    (.skip)))
  (.seq (.seq (.reg [
    ⟨(some 108), none, .mov (.s 11)⟩,
    ⟨(some 109), none, .bin .lss (.s 108) (.c (.t (.int .i64 2)))⟩] [2, 3, 4, 5, 8, 10, 11, 109])
  (.cond (.s 109)
    (.seq (.reg [
      ⟨(some 110), none, .load (some 4) (.s 10)⟩,
      ⟨none, none, .store 4 (.s 8) (.s 110)⟩,
      ⟨(some 9), none, .mov (.c (.t (.bool false)))⟩] [8, 9])
    (.ret))
    (.skip)))
  (.seq (.drw [
    ⟨(some 111), none, .mov (.s 3)⟩,
    ⟨(some 112), none, .mov (.s 11)⟩,
    ⟨(some 113), none, .bin .sub (.s 112) (.c (.t (.int .i64 2)))⟩,
    ⟨(some 114), none, .iaddr 1 (.s 111) (.s 113)⟩,
    ⟨(some 115), none, .load none (.s 114)⟩,
    ⟨(some 116), none, .mov (.s 3)⟩,
    ⟨(some 117), none, .mov (.s 11)⟩,
    ⟨(some 118), none, .bin .sub (.s 117) (.c (.t (.int .i64 1)))⟩,
    ⟨(some 119), none, .iaddr 1 (.s 116) (.s 118)⟩,
    ⟨(some 120), none, .load none (.s 119)⟩,
    ⟨(some 121), none, .faddr 2 (.s 10)⟩,
    ⟨none, none, .store 1 (.s 121) (.s 115)⟩,
    ⟨(some 122), none, .faddr 3 (.s 10)⟩,
    ⟨none, none, .store 1 (.s 122) (.s 120)⟩] [[], [], [1], [0, 2], [3], [], [], [6], [5, 7], [8], [0, 1, 2, 3, 4], [10, 4, 0, 1, 2, 3, 4], [0, 1, 2, 3, 4, 5, 6, 7, 8, 9, 10, 11], [12, 9, 11, 0, 1, 2, 3, 4, 5, 6, 7, 8, 9, 10, 11]] [2, 4, 5, 8, 10])
  (.seq (.drw [
    ⟨(some 123), none, .mov (.s 2)⟩,
    ⟨(some 124), none, .faddr 2 (.s 10)⟩,
    ⟨(some 125), none, .load none (.s 124)⟩,
    ⟨(some 126), none, .iaddr 4 (.s 123) (.s 125)⟩,
    ⟨(some 127), none, .load (some 4) (.s 126)⟩,
    ⟨(some 128), none, .mov (.s 2)⟩,
    ⟨(some 129), none, .faddr 3 (.s 10)⟩,
    ⟨(some 130), none, .load none (.s 129)⟩,
    ⟨(some 131), none, .iaddr 4 (.s 128) (.s 130)⟩,
    ⟨(some 132), none, .load (some 4) (.s 131)⟩,
    ⟨(some 12), none, .alloc [(.t (.int .i64 0)), (.t (.int .i64 0)), (.t (.int .i64 0)), (.t (.int .i64 0))]⟩,
    ⟨(some 13), none, .alloc [(.t (.int .i64 0)), (.t (.int .i64 0)), (.t (.int .i64 0)), (.t (.int .i64 0))]⟩,
    ⟨none, none, .store 4 (.s 12) (.s 127)⟩,
    ⟨none, none, .store 4 (.s 13) (.s 132)⟩] [[], [], [1], [0, 2], [3], [], [], [6], [5, 7], [8], [], [], [10, 4, 0, 1, 2, 3, 4, 10, 11], [11, 9, 12, 0, 1, 2, 3, 4, 5, 6, 7, 8, 9, 10, 11, 12]] [4, 5, 8, 10, 12, 13])
  (.seq (.drw [
    ⟨(some 133), none, .load (some 2) (.s 4)⟩,
    ⟨(some 134), none, .faddr 0 (.s 12)⟩,
    ⟨(some 135), none, .load none (.s 134)⟩,
    ⟨(some 136), none, .call 148 [(.s 133), (.s 135)]⟩,
    ⟨(some 137), none, .load (some 2) (.s 4)⟩,
    ⟨(some 138), none, .faddr 0 (.s 13)⟩,
    ⟨(some 139), none, .load none (.s 138)⟩,
    ⟨(some 140), none, .call 148 [(.s 137), (.s 139)]⟩,
    ⟨(some 141), none, .call 149 [(.s 136), (.s 140)]⟩,
    ⟨(some 14), none, .mov (.s 141)⟩] [[], [], [1], [0, 2], [], [], [5], [4, 6, 3], [3, 7, 7], [8, 8, 0, 1, 2, 3, 4, 5, 6, 7, 8]] [5, 8, 10, 12, 13, 14])
  (.seq (.reg [
    ⟨(some 142), none, .faddr 0 (.s 12)⟩,
    ⟨(some 143), none, .load none (.s 142)⟩,
    ⟨(some 144), none, .faddr 0 (.s 13)⟩,
    ⟨(some 145), none, .load none (.s 144)⟩,
    ⟨(some 146), none, .bin .or (.s 143) (.s 145)⟩,
    ⟨(some 147), none, .faddr 0 (.s 10)⟩,
    ⟨none, none, .store 1 (.s 147) (.s 146)⟩] [5, 8, 10, 12, 13, 14])
  (.seq (.seq (.reg [
    ⟨(some 148), none, .faddr 0 (.s 12)⟩,
    ⟨(some 149), none, .load none (.s 148)⟩,
    ⟨(some 150), none, .faddr 0 (.s 13)⟩,
    ⟨(some 151), none, .load none (.s 150)⟩,
    ⟨(some 152), none, .bin .and (.s 149) (.s 151)⟩,
    ⟨(some 153), none, .bin .neq (.s 152) (.c (.t (.int .i64 0)))⟩,
    ⟨(some 154), none, .mov (.s 153)⟩,
    ⟨(some 155), (some (154, false)), .mov (.s 14)⟩,
    ⟨(some 156), (some (154, false)), .len false (.s 155)⟩,
    ⟨(some 157), (some (154, false)), .bin .eql (.s 156) (.c (.t (.int .i64 0)))⟩,
    ⟨(some 158), none, .pick (.s 154) (.c (.t (.bool true))) (.s 157)⟩] [5, 8, 10, 12, 13, 14, 158])
  (.cond (.s 158)
    (.seq (.reg [
      ⟨(some 159), none, .load (some 4) (.s 10)⟩,
      ⟨none, none, .store 4 (.s 8) (.s 159)⟩,
      ⟨(some 9), none, .mov (.c (.t (.bool false)))⟩] [8, 9])
    (.ret))
    (.skip)))
  (.seq (.seq (.reg [
    ⟨(some 160), none, .faddr 0 (.s 5)⟩,
    ⟨(some 161), none, .load none (.s 160)⟩] [5, 8, 10, 12, 13, 14, 161])
  (.block 0 (.seq (.reg [
    ⟨(some 163), none, .bin .eql (.s 161) (.c (.t (.int .i64 3)))⟩,
    ⟨(some 162), none, .mov (.s 163)⟩] [5, 8, 10, 12, 13, 14, 161, 162])
  (.cond (.s 162)
    (.seq (.drw [
      ⟨(some 164), none, .load (some 4) (.s 10)⟩,
      ⟨(some 165), none, .faddr 2 (.s 5)⟩,
      ⟨(some 166), none, .load none (.s 165)⟩,
      ⟨(some 167), none, .bin .eql (.s 166) (.c (.t (.int .i64 0)))⟩,
      ⟨none, none, .store 4 (.s 8) (.s 164)⟩,
      ⟨(some 9), none, .mov (.s 167)⟩] [[], [], [1], [2], [0, 0], [3, 4, 0, 1, 2, 3, 4]] [8, 9])
    (.ret))
    (.seq (.reg [
      ⟨(some 169), none, .bin .eql (.s 161) (.c (.t (.int .i64 5)))⟩,
      ⟨(some 168), none, .mov (.s 169)⟩] [5, 8, 10, 12, 13, 14, 161, 168])
    (.cond (.s 168)
      (.seq (.reg [
        ⟨(some 170), none, .faddr 1 (.s 12)⟩,
        ⟨(some 171), none, .load none (.s 170)⟩,
        ⟨(some 172), none, .faddr 1 (.s 10)⟩,
        ⟨none, none, .store 1 (.s 172) (.s 171)⟩] [5, 8, 10])
      (.seq (.drw [
        ⟨(some 173), none, .load (some 4) (.s 10)⟩,
        ⟨(some 174), none, .faddr 2 (.s 5)⟩,
        ⟨(some 175), none, .load none (.s 174)⟩,
        ⟨(some 176), none, .bin .eql (.s 175) (.c (.t (.int .i64 0)))⟩,
        ⟨none, none, .store 4 (.s 8) (.s 173)⟩,
        ⟨(some 9), none, .mov (.s 176)⟩] [[], [], [1], [2], [0, 0], [3, 4, 0, 1, 2, 3, 4]] [8, 9])
      (.ret)))
      (.seq (.reg [
        ⟨(some 178), none, .bin .eql (.s 161) (.c (.t (.int .i64 4)))⟩,
        ⟨(some 177), none, .mov (.s 178)⟩] [5, 8, 10, 12, 13, 14, 177])
      (.cond (.s 177)
        (.seq (.reg [
          ⟨(some 179), none, .faddr 2 (.s 5)⟩,
          ⟨(some 180), none, .load none (.s 179)⟩,
          ⟨(some 181), none, .faddr 1 (.s 10)⟩,
          ⟨none, none, .store 1 (.s 181) (.s 180)⟩] [5, 8, 10, 12, 13, 14])
        (.seq (.drw [
          ⟨(some 182), none, .load (some 4) (.s 10)⟩,
          ⟨(some 183), none, .mov (.s 14)⟩,
          ⟨(some 184), none, .faddr 2 (.s 5)⟩,
          ⟨(some 185), none, .load none (.s 184)⟩,
          ⟨(some 186), none, .call 121 [(.s 183), (.s 185)]⟩,
          ⟨(some 187), none, .mov (.s 186)⟩,
          ⟨(some 188), (some (187, true)), .faddr 1 (.s 12)⟩,
          ⟨(some 189), (some (187, true)), .load none (.s 188)⟩,
          ⟨(some 190), (some (187, true)), .faddr 2 (.s 5)⟩,
          ⟨(some 191), (some (187, true)), .load none (.s 190)⟩,
          ⟨(some 192), (some (187, true)), .bin .eql (.s 189) (.s 191)⟩,
          ⟨(some 193), none, .pick (.s 187) (.s 192) (.c (.t (.bool false)))⟩,
          ⟨(some 194), none, .mov (.s 193)⟩,
          ⟨(some 195), (some (194, true)), .faddr 1 (.s 13)⟩,
          ⟨(some 196), (some (194, true)), .load none (.s 195)⟩,
          ⟨(some 197), (some (194, true)), .faddr 2 (.s 5)⟩,
          ⟨(some 198), (some (194, true)), .load none (.s 197)⟩,
          ⟨(some 199), (some (194, true)), .bin .eql (.s 196) (.s 198)⟩,
          ⟨(some 200), none, .pick (.s 194) (.s 199) (.c (.t (.bool false)))⟩,
          ⟨none, none, .store 4 (.s 8) (.s 182)⟩,
          ⟨(some 9), none, .mov (.s 200)⟩] [[], [], [], [2], [1, 3], [4, 4], [5], [6, 5], [5], [8, 5], [7, 9, 5], [5, 10], [11, 5], [12], [13, 12], [12], [15, 12], [14, 16, 12], [12, 17], [0, 12, 0], [18, 19, 0, 1, 2, 3, 4, 5, 6, 7, 8, 9, 10, 11, 12, 13, 14, 15, 16, 17, 18, 19]] [8, 9])
        (.ret)))
        (.skip)))))))))
  (.seq (.reg [
    ⟨(some 201), none, .load (some 4) (.s 10)⟩,
    ⟨none, none, .store 4 (.s 8) (.s 201)⟩,
    ⟨(some 9), none, .mov (.c (.t (.bool false)))⟩] [8, 9])
  (.ret))))))))))))))⟩
theorem t_impl_stepInfo : tbl 111 = some M_impl_stepInfo := tblOf_eq Try.func111 (by kernel_rfl) (by kernel_rfl)

/-- loop.example/g01921/impl.IsValidBox -/
def M_impl_IsValidBox : MFun := ⟨1, 24, [.tmp 2],
  .seq (.reg [
    ⟨(some 1), none, .box (.s 0)⟩,
    ⟨(some 2), none, .mov (.c (.t (.bool false)))⟩] [1])
  (.seq (.reg [
    ⟨(some 3), none, .faddr 0 (.s 1)⟩,
    ⟨(some 4), none, .load none (.s 3)⟩,
    ⟨(some 5), none, .call 150 [(.s 4)]⟩,
    ⟨(some 6), none, .mov (.s 5)⟩,
    ⟨(some 7), (some (6, true)), .faddr 1 (.s 1)⟩,
    ⟨(some 8), (some (6, true)), .load none (.s 7)⟩,
    ⟨(some 9), (some (6, true)), .call 150 [(.s 8)]⟩,
    ⟨(some 10), none, .pick (.s 6) (.s 9) (.c (.t (.bool false)))⟩,
    ⟨(some 11), none, .mov (.s 10)⟩,
    ⟨(some 12), (some (11, true)), .faddr 0 (.s 1)⟩,
    ⟨(some 13), (some (11, true)), .load none (.s 12)⟩,
    ⟨(some 14), (some (11, true)), .len false (.s 13)⟩,
    ⟨(some 15), (some (11, true)), .bin .gtr (.s 14) (.c (.t (.int .i64 0)))⟩,
    ⟨(some 16), none, .pick (.s 11) (.s 15) (.c (.t (.bool false)))⟩,
    ⟨(some 17), none, .mov (.s 16)⟩,
    ⟨(some 18), (some (17, true)), .faddr 1 (.s 1)⟩,
    ⟨(some 19), (some (17, true)), .load none (.s 18)⟩,
    ⟨(some 20), (some (17, true)), .faddr 0 (.s 1)⟩,
    ⟨(some 21), (some (17, true)), .load none (.s 20)⟩,
    ⟨(some 22), (some (17, true)), .call 151 [(.s 19), (.s 21)]⟩,
    ⟨(some 23), none, .pick (.s 17) (.s 22) (.c (.t (.bool false)))⟩,
    ⟨(some 2), none, .mov (.s 23)⟩] [2])
  (.ret))⟩
theorem t_impl_IsValidBox : tbl 112 = some M_impl_IsValidBox := tblOf_eq Try.func112 (by kernel_rfl) (by kernel_rfl)

/-- loop.example/g01921/laws.eqAtom -/
def M_laws_eqAtom : MFun := ⟨2, 16, [.tmp 4],
  .seq (.reg [
    ⟨(some 2), none, .box (.s 0)⟩,
    ⟨(some 3), none, .box (.s 1)⟩,
    ⟨(some 4), none, .mov (.c (.t (.bool false)))⟩] [2, 3])
  (.seq (.seq (.reg [
    ⟨(some 5), none, .faddr 0 (.s 2)⟩,
    ⟨(some 6), none, .load none (.s 5)⟩,
    ⟨(some 7), none, .faddr 0 (.s 3)⟩,
    ⟨(some 8), none, .load none (.s 7)⟩,
    ⟨(some 9), none, .bin .neq (.s 6) (.s 8)⟩] [2, 3, 9])
  (.cond (.s 9)
    (.seq (.reg [
      ⟨(some 4), none, .mov (.c (.t (.bool false)))⟩] [4])
    (.ret))
    (.skip)))
  (.seq (.seq (.reg [
    ⟨(some 10), none, .faddr 1 (.s 2)⟩,
    ⟨(some 11), none, .load none (.s 10)⟩,
    ⟨(some 12), none, .faddr 1 (.s 3)⟩,
    ⟨(some 13), none, .load none (.s 12)⟩,
    ⟨(some 14), none, .call 63 [(.s 11), (.s 13)]⟩,
    ⟨(some 15), none, .un .not (.s 14)⟩] [15])
  (.cond (.s 15)
    (.seq (.reg [
      ⟨(some 4), none, .mov (.c (.t (.bool false)))⟩] [4])
    (.ret))
    (.skip)))
  (.seq (.reg [
    ⟨(some 4), none, .mov (.c (.t (.bool true)))⟩] [4])
  (.ret))))⟩
theorem t_laws_eqAtom : tbl 113 = some M_laws_eqAtom := tblOf_eq Try.func113 (by kernel_rfl) (by kernel_rfl)

/-- loop.example/g01921/laws.eqPlanStep -/
def M_laws_eqPlanStep : MFun := ⟨2, 20, [.tmp 4],
  .seq (.reg [
    ⟨(some 2), none, .box (.s 0)⟩,
    ⟨(some 3), none, .box (.s 1)⟩,
    ⟨(some 4), none, .mov (.c (.t (.bool false)))⟩] [2, 3])
  (.seq (.seq (.reg [
    ⟨(some 5), none, .faddr 0 (.s 2)⟩,
    ⟨(some 6), none, .load none (.s 5)⟩,
    ⟨(some 7), none, .faddr 0 (.s 3)⟩,
    ⟨(some 8), none, .load none (.s 7)⟩,
    ⟨(some 9), none, .bin .neq (.s 6) (.s 8)⟩] [2, 3, 9])
  (.cond (.s 9)
    (.seq (.reg [
      ⟨(some 4), none, .mov (.c (.t (.bool false)))⟩] [4])
    (.ret))
    (.skip)))
  (.seq (.seq (.reg [
    ⟨(some 10), none, .faddr 1 (.s 2)⟩,
    ⟨(some 11), none, .load none (.s 10)⟩,
    ⟨(some 12), none, .faddr 1 (.s 3)⟩,
    ⟨(some 13), none, .load none (.s 12)⟩,
    ⟨(some 14), none, .bin .neq (.s 11) (.s 13)⟩] [2, 3, 14])
  (.cond (.s 14)
    (.seq (.reg [
      ⟨(some 4), none, .mov (.c (.t (.bool false)))⟩] [4])
    (.ret))
    (.skip)))
  (.seq (.seq (.reg [
    ⟨(some 15), none, .faddr 2 (.s 2)⟩,
    ⟨(some 16), none, .load none (.s 15)⟩,
    ⟨(some 17), none, .faddr 2 (.s 3)⟩,
    ⟨(some 18), none, .load none (.s 17)⟩,
    ⟨(some 19), none, .bin .neq (.s 16) (.s 18)⟩] [19])
  (.cond (.s 19)
    (.seq (.reg [
      ⟨(some 4), none, .mov (.c (.t (.bool false)))⟩] [4])
    (.ret))
    (.skip)))
  (.seq (.reg [
    ⟨(some 4), none, .mov (.c (.t (.bool true)))⟩] [4])
  (.ret)))))⟩
theorem t_laws_eqPlanStep : tbl 114 = some M_laws_eqPlanStep := tblOf_eq Try.func114 (by kernel_rfl) (by kernel_rfl)

/-- loop.example/g01921/spec.l23First -/
def B_spec_l23First_0 : MCode :=
  .seq (.seq (.reg [
    ⟨(some 5), none, .mov (.s 0)⟩,
    ⟨(some 6), none, .mov (.s 1)⟩,
    ⟨(some 7), none, .iaddr 4 (.s 5) (.s 6)⟩,
    ⟨(some 8), none, .faddr 2 (.s 7)⟩,
    ⟨(some 9), none, .load none (.s 8)⟩,
    ⟨(some 10), none, .bin .geq (.s 9) (.c (.t (.int .i64 0)))⟩] [0, 1, 10])
  (.cond (.s 10)
    (.skip)
    (.exit 0)))
  (.block 1 (.reg [
    ⟨(some 11), none, .mov (.s 0)⟩,
    ⟨(some 12), none, .mov (.s 1)⟩,
    ⟨(some 13), none, .iaddr 4 (.s 11) (.s 12)⟩,
    ⟨(some 14), none, .faddr 2 (.s 13)⟩,
    ⟨(some 15), none, .load none (.s 14)⟩,
    ⟨(some 1), none, .mov (.s 15)⟩] [0, 1]))

def M_spec_l23First : MFun := ⟨2, 17, [.tmp 4],
  .seq (.reg [
    ⟨(some 4), none, .mov (.c (.t (.int .i64 0)))⟩] [0, 1])
  (.seq (.block 0 (.loop [0, 1] B_spec_l23First_0))
  (.seq (.reg [
    ⟨(some 16), none, .mov (.s 1)⟩,
    ⟨(some 4), none, .mov (.s 16)⟩] [4])
  (.ret)))⟩
theorem t_spec_l23First : tbl 115 = some M_spec_l23First := tblOf_eq Try.func115 (by kernel_rfl) (by kernel_rfl)

/-- loop.example/g01921/impl.copyPlan -/
def M_impl_copyPlan : MFun := ⟨1, 8, [.cell 2 (some 1)],
  .seq (.reg [
    ⟨(some 1), none, .box (.s 0)⟩,
    ⟨(some 2), none, .alloc [(.t .nil)]⟩] [1, 2])
  (.seq (.reg [
    ⟨(some 3), none, .bslice 166 3 0 [(.int .i64 0), (.int .i64 0), (.int .i64 0)] []⟩,
    ⟨(some 4), none, .faddr 0 (.s 1)⟩,
    ⟨(some 5), none, .load none (.s 4)⟩,
    ⟨(some 6), none, .append 166 3 24 false (.s 3) (.s 5)⟩,
    ⟨(some 7), none, .build [(.t .nil)] [(0, 1, (.s 6))]⟩,
    ⟨none, none, .store 1 (.s 2) (.s 7)⟩] [2])
  (.ret))⟩
theorem t_impl_copyPlan : tbl 116 = some M_impl_copyPlan := tblOf_eq Try.func116 (by kernel_rfl) (by kernel_rfl)

/-- loop.example/g01921/impl.begins -/
def B_impl_begins_0 : MCode :=
  .seq (.seq (.reg [
    ⟨(some 5), none, .mov (.s 0)⟩,
    ⟨(some 6), none, .mov (.s 1)⟩,
    ⟨(some 7), none, .iaddr 4 (.s 5) (.s 6)⟩,
    ⟨(some 8), none, .faddr 2 (.s 7)⟩,
    ⟨(some 9), none, .load none (.s 8)⟩,
    ⟨(some 10), none, .bin .geq (.s 9) (.c (.t (.int .i64 0)))⟩] [0, 1, 10])
  (.cond (.s 10)
    (.skip)
    (.exit 0)))
  (.block 1 (.reg [
    ⟨(some 11), none, .mov (.s 0)⟩,
    ⟨(some 12), none, .mov (.s 1)⟩,
    ⟨(some 13), none, .iaddr 4 (.s 11) (.s 12)⟩,
    ⟨(some 14), none, .faddr 2 (.s 13)⟩,
    ⟨(some 15), none, .load none (.s 14)⟩,
    ⟨(some 1), none, .mov (.s 15)⟩] [0, 1]))

def M_impl_begins : MFun := ⟨2, 17, [.tmp 4],
  .seq (.reg [
    ⟨(some 4), none, .mov (.c (.t (.int .i64 0)))⟩] [0, 1])
  (.seq (.block 0 (.loop [0, 1] B_impl_begins_0))
  (.seq (.reg [
    ⟨(some 16), none, .mov (.s 1)⟩,
    ⟨(some 4), none, .mov (.s 16)⟩] [4])
  (.ret)))⟩
theorem t_impl_begins : tbl 117 = some M_impl_begins := tblOf_eq Try.func117 (by kernel_rfl) (by kernel_rfl)

-- FAIL 118 loop.example/g01921/laws.markText: [convert 80 9]
/-- loop.example/g01921/laws.markIntS -/
def B_laws_markIntS_0 : MCode :=
  .seq (.seq (.reg [
    ⟨(some 6), none, .mov (.s 5)⟩,
    ⟨(some 7), none, .mov (.s 0)⟩,
    ⟨(some 8), none, .len false (.s 7)⟩,
    ⟨(some 9), none, .bin .lss (.s 6) (.s 8)⟩] [0, 1, 5, 9])
  (.cond (.s 9)
    (.skip)
    (.exit 0)))
  (.seq (.block 1 (.seq (.reg [
    ⟨(some 12), none, .mov (.s 0)⟩,
    ⟨(some 13), none, .mov (.s 5)⟩,
    ⟨(some 14), none, .mov (.s 1)⟩,
    ⟨(some 15), none, .iaddr 1 (.s 12) (.s 13)⟩,
    ⟨none, none, .store 1 (.s 15) (.s 14)⟩] [0, 1, 5])
  (.reg [
    ⟨(some 16), none, .mov (.s 1)⟩,
    ⟨(some 17), none, .bin .add (.s 16) (.c (.t (.int .i64 1)))⟩,
    ⟨(some 1), none, .mov (.s 17)⟩] [0, 1, 5])))
  (.reg [
    ⟨(some 10), none, .mov (.s 5)⟩,
    ⟨(some 11), none, .bin .add (.s 10) (.c (.t (.int .i64 1)))⟩,
    ⟨(some 5), none, .mov (.s 11)⟩] [0, 1, 5]))

def M_laws_markIntS : MFun := ⟨2, 19, [.tmp 4],
  .seq (.reg [
    ⟨(some 4), none, .mov (.c (.t (.int .i64 0)))⟩] [0, 1])
  (.seq (.seq (.reg [
    ⟨(some 5), none, .mov (.c (.t (.int .i64 0)))⟩] [0, 1, 5])
  (.block 0 (.loop [0, 1, 5] B_laws_markIntS_0)))
  (.seq (.reg [
    ⟨(some 18), none, .mov (.s 1)⟩,
    ⟨(some 4), none, .mov (.s 18)⟩] [4])
  (.ret)))⟩
theorem t_laws_markIntS : tbl 119 = some M_laws_markIntS := tblOf_eq Try.func119 (by kernel_rfl) (by kernel_rfl)

/-- loop.example/g01921/impl.nameOk -/
def M_impl_nameOk : MFun := ⟨1, 16, [.tmp 2],
  .seq (.reg [
    ⟨(some 2), none, .mov (.c (.t (.bool false)))⟩] [0])
  (.seq (.reg [
    ⟨(some 3), none, .mov (.s 0)⟩,
    ⟨(some 4), none, .len true (.s 3)⟩,
    ⟨(some 5), none, .bin .eql (.s 4) (.c (.t (.int .i64 1)))⟩,
    ⟨(some 6), none, .mov (.s 5)⟩,
    ⟨(some 7), (some (6, true)), .mov (.s 0)⟩,
    ⟨(some 8), (some (6, true)), .index (.s 7) (.c (.t (.int .i64 0)))⟩,
    ⟨(some 9), (some (6, true)), .bin .geq (.s 8) (.c (.t (.int .u8 97)))⟩,
    ⟨(some 10), none, .pick (.s 6) (.s 9) (.c (.t (.bool false)))⟩,
    ⟨(some 11), none, .mov (.s 10)⟩,
    ⟨(some 12), (some (11, true)), .mov (.s 0)⟩,
    ⟨(some 13), (some (11, true)), .index (.s 12) (.c (.t (.int .i64 0)))⟩,
    ⟨(some 14), (some (11, true)), .bin .leq (.s 13) (.c (.t (.int .u8 122)))⟩,
    ⟨(some 15), none, .pick (.s 11) (.s 14) (.c (.t (.bool false)))⟩,
    ⟨(some 2), none, .mov (.s 15)⟩] [2])
  (.ret))⟩
theorem t_impl_nameOk : tbl 120 = some M_impl_nameOk := tblOf_eq Try.func120 (by kernel_rfl) (by kernel_rfl)

/-- slices.Contains[[]int,int] -/
def M_slices_Contains___int_int_ : MFun := ⟨2, 9, [.tmp 4],
  .seq (.reg [
    ⟨(some 4), none, .mov (.c (.t (.bool false)))⟩] [0, 1])
  (.seq (.reg [
    ⟨(some 5), none, .mov (.s 0)⟩,
    ⟨(some 6), none, .mov (.s 1)⟩,
    ⟨(some 7), none, .call 128 [(.s 5), (.s 6)]⟩,
    ⟨(some 8), none, .bin .geq (.s 7) (.c (.t (.int .i64 0)))⟩,
    ⟨(some 4), none, .mov (.s 8)⟩] [4])
  (.ret))⟩
theorem t_slices_Contains___int_int_ : tbl 121 = some M_slices_Contains___int_int_ := tblOf_eq Try.func121 (by kernel_rfl) (by kernel_rfl)

/-- slices.Contains[[]bool,bool] -/
def M_slices_Contains___bool_bool_ : MFun := ⟨2, 9, [.tmp 4],
  .seq (.reg [
    ⟨(some 4), none, .mov (.c (.t (.bool false)))⟩] [0, 1])
  (.seq (.reg [
    ⟨(some 5), none, .mov (.s 0)⟩,
    ⟨(some 6), none, .mov (.s 1)⟩,
    ⟨(some 7), none, .call 152 [(.s 5), (.s 6)]⟩,
    ⟨(some 8), none, .bin .geq (.s 7) (.c (.t (.int .i64 0)))⟩,
    ⟨(some 4), none, .mov (.s 8)⟩] [4])
  (.ret))⟩
theorem t_slices_Contains___bool_bool_ : tbl 122 = some M_slices_Contains___bool_bool_ := tblOf_eq Try.func122 (by kernel_rfl) (by kernel_rfl)

/-- loop.example/g01921/spec.BoxVolume -/
def B_spec_BoxVolume_0 : MCode :=
  .seq (.seq (.reg [
    ⟨(some 8), none, .mov (.s 4)⟩,
    ⟨(some 9), none, .faddr 0 (.s 1)⟩,
    ⟨(some 10), none, .load none (.s 9)⟩,
    ⟨(some 11), none, .len false (.s 10)⟩,
    ⟨(some 12), none, .bin .lss (.s 8) (.s 11)⟩] [1, 3, 4, 12])
  (.cond (.s 12)
    (.skip)
    (.exit 0)))
  (.seq (.block 1 (.drw [
    ⟨(some 15), none, .mov (.s 3)⟩,
    ⟨(some 16), none, .faddr 1 (.s 1)⟩,
    ⟨(some 17), none, .load none (.s 16)⟩,
    ⟨(some 18), none, .mov (.s 4)⟩,
    ⟨(some 19), none, .iaddr 1 (.s 17) (.s 18)⟩,
    ⟨(some 20), none, .load none (.s 19)⟩,
    ⟨(some 21), none, .faddr 0 (.s 1)⟩,
    ⟨(some 22), none, .load none (.s 21)⟩,
    ⟨(some 23), none, .mov (.s 4)⟩,
    ⟨(some 24), none, .iaddr 1 (.s 22) (.s 23)⟩,
    ⟨(some 25), none, .load none (.s 24)⟩,
    ⟨(some 26), none, .bin .sub (.s 20) (.s 25)⟩,
    ⟨(some 27), none, .bin .add (.s 26) (.c (.t (.int .i64 1)))⟩,
    ⟨(some 28), none, .bin .mul (.s 15) (.s 27)⟩,
    ⟨(some 29), none, .mm false (.c (.t (.int .i64 401))) (.s 28)⟩,
    ⟨(some 3), none, .mov (.s 29)⟩] [[], [], [1], [], [2, 3], [4], [], [6], [], [7, 8], [9], [5, 10], [11], [0, 12], [13], [14, 0, 1, 2, 3, 4, 5, 6, 7, 8, 9, 10, 11, 12, 13, 14]] [1, 3, 4]))
  (.reg [
    ⟨(some 13), none, .mov (.s 4)⟩,
    ⟨(some 14), none, .bin .add (.s 13) (.c (.t (.int .i64 1)))⟩,
    ⟨(some 4), none, .mov (.s 14)⟩] [1, 3, 4]))

def M_spec_BoxVolume : MFun := ⟨1, 31, [.tmp 2],
  .seq (.reg [
    ⟨(some 1), none, .box (.s 0)⟩,
    ⟨(some 2), none, .mov (.c (.t (.int .i64 0)))⟩] [1])
  (.seq (.seq (.reg [
    ⟨(some 5), none, .load (some 2) (.s 1)⟩,
    ⟨(some 6), none, .call 53 [(.s 5)]⟩,
    ⟨(some 7), none, .un .not (.s 6)⟩] [1, 7])
  (.cond (.s 7)
    (.seq (.reg [
      ⟨(some 2), none, .mov (.c (.t (.int .i64 0)))⟩] [2])
    (.ret))
    (.skip)))
  (.seq (.reg [
    ⟨(some 3), none, .mov (.c (.t (.int .i64 1)))⟩] [1, 3])
  (.seq (.seq (.reg [
    ⟨(some 4), none, .mov (.c (.t (.int .i64 0)))⟩] [1, 3, 4])
  (.block 0 (.loop [1, 3, 4] B_spec_BoxVolume_0)))
  (.seq (.reg [
    ⟨(some 30), none, .mov (.s 3)⟩,
    ⟨(some 2), none, .mov (.s 30)⟩] [2])
  (.ret)))))⟩
theorem t_spec_BoxVolume : tbl 123 = some M_spec_BoxVolume := tblOf_eq Try.func123 (by kernel_rfl) (by kernel_rfl)

/-- loop.example/g01921/spec.l7Has -/
def B_spec_l7Has_0 : MCode :=
  .seq (.seq (.reg [
    ⟨(some 6), none, .mov (.s 5)⟩,
    ⟨(some 7), none, .mov (.s 0)⟩,
    ⟨(some 8), none, .len false (.s 7)⟩,
    ⟨(some 9), none, .bin .lss (.s 6) (.s 8)⟩] [0, 1, 5, 9])
  (.cond (.s 9)
    (.skip)
    (.exit 0)))
  (.seq (.block 1 (.seq (.reg [
    ⟨(some 12), none, .mov (.s 0)⟩,
    ⟨(some 13), none, .mov (.s 5)⟩,
    ⟨(some 14), none, .iaddr 1 (.s 12) (.s 13)⟩,
    ⟨(some 15), none, .load none (.s 14)⟩,
    ⟨(some 16), none, .mov (.s 1)⟩,
    ⟨(some 17), none, .bin .eql (.s 15) (.s 16)⟩] [0, 1, 5, 17])
  (.cond (.s 17)
    (.seq (.reg [
      ⟨(some 4), none, .mov (.c (.t (.bool true)))⟩] [4])
    (.ret))
    (.skip))))
  (.reg [
    ⟨(some 10), none, .mov (.s 5)⟩,
    ⟨(some 11), none, .bin .add (.s 10) (.c (.t (.int .i64 1)))⟩,
    ⟨(some 5), none, .mov (.s 11)⟩] [0, 1, 5]))

def M_spec_l7Has : MFun := ⟨2, 18, [.tmp 4],
  .seq (.reg [
    ⟨(some 4), none, .mov (.c (.t (.bool false)))⟩] [0, 1])
  (.seq (.seq (.reg [
    ⟨(some 5), none, .mov (.c (.t (.int .i64 0)))⟩] [0, 1, 5])
  (.block 0 (.loop [0, 1, 5] B_spec_l7Has_0)))
  (.seq (.reg [
    ⟨(some 4), none, .mov (.c (.t (.bool false)))⟩] [4])
  (.ret)))⟩
theorem t_spec_l7Has : tbl 124 = some M_spec_l7Has := tblOf_eq Try.func124 (by kernel_rfl) (by kernel_rfl)

/-- loop.example/g01921/impl.BoxVolume -/
def M_impl_BoxVolume : MFun := ⟨1, 9, [.tmp 2],
  .seq (.reg [
    ⟨(some 1), none, .box (.s 0)⟩,
    ⟨(some 2), none, .mov (.c (.t (.int .i64 0)))⟩] [1])
  (.seq (.seq (.reg [
    ⟨(some 3), none, .load (some 2) (.s 1)⟩,
    ⟨(some 4), none, .call 112 [(.s 3)]⟩,
    ⟨(some 5), none, .un .not (.s 4)⟩] [1, 5])
  (.cond (.s 5)
    (.seq (.reg [
      ⟨(some 2), none, .mov (.c (.t (.int .i64 0)))⟩] [2])
    (.ret))
    (.skip)))
  (.seq (.reg [
    ⟨(some 6), none, .load (some 2) (.s 1)⟩,
    ⟨(some 7), none, .call 153 [(.s 6)]⟩,
    ⟨(some 8), none, .mm false (.s 7) (.c (.t (.int .i64 401)))⟩,
    ⟨(some 2), none, .mov (.s 8)⟩] [2])
  (.ret)))⟩
theorem t_impl_BoxVolume : tbl 125 = some M_impl_BoxVolume := tblOf_eq Try.func125 (by kernel_rfl) (by kernel_rfl)

/-- loop.example/g01921/impl.differentIndices -/
def B_impl_differentIndices_0 : MCode :=
  .seq (.reg [
    ⟨(some 10), none, .bin .lss (.s 9) (.s 8)⟩] [0, 1, 7, 8, 9, 10])
  (.seq (.cond (.s 10)
    (.skip)
    (.exit 0))
  (.seq (.block 1 (.seq (.reg [
    ⟨(some 11), none, .mov (.s 9)⟩,
    ⟨(some 12), none, .iaddr 1 (.s 7) (.s 9)⟩,
    ⟨(some 13), none, .load none (.s 12)⟩,
    ⟨(some 5), none, .mov (.s 11)⟩,
    ⟨(some 6), none, .mov (.s 13)⟩] [0, 1, 5, 6, 7, 8, 9])
  (.seq (.reg [
    ⟨(some 14), none, .mov (.s 6)⟩,
    ⟨(some 15), none, .mov (.s 1)⟩,
    ⟨(some 16), none, .bin .sub (.s 15) (.c (.t (.int .i64 1)))⟩,
    ⟨(some 17), none, .call 74 [(.s 14), (.c (.t (.int .i64 0))), (.s 16)]⟩,
    ⟨(some 18), none, .un .not (.s 17)⟩,
    ⟨(some 19), none, .mov (.s 18)⟩,
    ⟨(some 20), (some (19, false)), .mov (.s 0)⟩,
    ⟨(some 21), (some (19, false)), .mov (.s 5)⟩,
    ⟨(some 22), (some (19, false)), .slice (some 1) (.s 20) none (some (.s 21))⟩,
    ⟨(some 23), (some (19, false)), .mov (.s 6)⟩,
    ⟨(some 24), (some (19, false)), .call 121 [(.s 22), (.s 23)]⟩,
    ⟨(some 25), none, .pick (.s 19) (.c (.t (.bool true))) (.s 24)⟩] [0, 1, 7, 8, 9, 25])
  (.cond (.s 25)
    (.seq (.reg [
      ⟨(some 4), none, .mov (.c (.t (.bool false)))⟩] [4])
    (.ret))
    (.skip)))))
  (.reg [
    ⟨(some 26), none, .bin .add (.s 9) (.c (.t (.int .i64 1)))⟩,
    ⟨(some 9), none, .mov (.s 26)⟩] [0, 1, 7, 8, 9])))

def M_impl_differentIndices : MFun := ⟨2, 30, [.tmp 4],
  .seq (.reg [
    ⟨(some 4), none, .mov (.c (.t (.bool false)))⟩] [0, 1])
  (.seq (.seq (.reg [
    ⟨(some 7), none, .mov (.s 0)⟩,
    ⟨(some 8), none, .len false (.s 7)⟩,
    ⟨(some 9), none, .mov (.c (.t (.int .i64 0)))⟩] [0, 1, 7, 8, 9])
  (.block 0 (.loop [0, 1, 7, 8, 9] B_impl_differentIndices_0)))
  (.seq (.reg [
    ⟨(some 27), none, .mov (.s 0)⟩,
    ⟨(some 28), none, .len false (.s 27)⟩,
    ⟨(some 29), none, .bin .gtr (.s 28) (.c (.t (.int .i64 0)))⟩,
    ⟨(some 4), none, .mov (.s 29)⟩] [4])
  (.ret)))⟩
theorem t_impl_differentIndices : tbl 126 = some M_impl_differentIndices := tblOf_eq Try.func126 (by kernel_rfl) (by kernel_rfl)

/-- loop.example/g01921/impl.SlackBudget -/
def M_impl_SlackBudget : MFun := ⟨2, 18, [.tmp 4],
  .seq (.reg [
    ⟨(some 4), none, .mov (.c (.t (.int .i64 0)))⟩] [0, 1])
  (.seq (.seq (.reg [
    ⟨(some 5), none, .mov (.s 0)⟩,
    ⟨(some 6), none, .call 74 [(.s 5), (.c (.t (.int .i64 0))), (.c (.t (.int .i64 1000000000000)))]⟩,
    ⟨(some 7), none, .un .not (.s 6)⟩,
    ⟨(some 8), none, .mov (.s 7)⟩,
    ⟨(some 9), (some (8, false)), .mov (.s 1)⟩,
    ⟨(some 10), (some (8, false)), .call 74 [(.s 9), (.c (.t (.int .i64 0))), (.c (.t (.int .i64 100)))]⟩,
    ⟨(some 11), (some (8, false)), .un .not (.s 10)⟩,
    ⟨(some 12), none, .pick (.s 8) (.c (.t (.bool true))) (.s 11)⟩] [0, 1, 12])
  (.cond (.s 12)
    (.seq (.reg [
      ⟨(some 4), none, .mov (.c (.t (.int .i64 (-1))))⟩] [4])
    (.ret))
    (.skip)))
  (.seq (.reg [
    ⟨(some 13), none, .mov (.s 0)⟩,
    ⟨(some 14), none, .mov (.s 1)⟩,
    ⟨(some 15), none, .bin .add (.c (.t (.int .i64 100))) (.s 14)⟩,
    ⟨(some 16), none, .bin .mul (.s 13) (.s 15)⟩,
    ⟨(some 17), none, .bin .quo (.s 16) (.c (.t (.int .i64 100)))⟩,
    ⟨(some 4), none, .mov (.s 17)⟩] [4])
  (.ret)))⟩
theorem t_impl_SlackBudget : tbl 127 = some M_impl_SlackBudget := tblOf_eq Try.func127 (by kernel_rfl) (by kernel_rfl)

/-- slices.Index[[]int,int] -/
def B_slices_Index___int_int__0 : MCode :=
  .seq (.reg [
    ⟨(some 9), none, .bin .lss (.s 8) (.s 7)⟩] [0, 1, 7, 8, 9])
  (.seq (.cond (.s 9)
    (.skip)
    (.exit 0))
  (.seq (.block 1 (.seq (.reg [
    ⟨(some 10), none, .mov (.s 8)⟩,
    ⟨(some 5), none, .mov (.s 10)⟩] [0, 1, 5, 7, 8])
  (.seq (.reg [
    ⟨(some 11), none, .mov (.s 1)⟩,
    ⟨(some 12), none, .mov (.s 0)⟩,
    ⟨(some 13), none, .mov (.s 5)⟩,
    ⟨(some 14), none, .iaddr 1 (.s 12) (.s 13)⟩,
    ⟨(some 15), none, .load none (.s 14)⟩,
    ⟨(some 16), none, .bin .eql (.s 11) (.s 15)⟩] [0, 1, 5, 7, 8, 16])
  (.cond (.s 16)
    (.seq (.reg [
      ⟨(some 17), none, .mov (.s 5)⟩,
      ⟨(some 4), none, .mov (.s 17)⟩] [4])
    (.ret))
    (.skip)))))
  (.reg [
    ⟨(some 18), none, .bin .add (.s 8) (.c (.t (.int .i64 1)))⟩,
    ⟨(some 8), none, .mov (.s 18)⟩] [0, 1, 7, 8])))

def M_slices_Index___int_int_ : MFun := ⟨2, 19, [.tmp 4],
  .seq (.reg [
    ⟨(some 4), none, .mov (.c (.t (.int .i64 0)))⟩] [0, 1])
  (.seq (.seq (.reg [
    ⟨(some 6), none, .mov (.s 0)⟩,
    ⟨(some 7), none, .len false (.s 6)⟩,
    ⟨(some 8), none, .mov (.c (.t (.int .i64 0)))⟩] [0, 1, 7, 8])
  (.block 0 (.loop [0, 1, 7, 8] B_slices_Index___int_int__0)))
  (.seq (.reg [
    ⟨(some 4), none, .mov (.c (.t (.int .i64 (-1))))⟩] [4])
  (.ret)))⟩
theorem t_slices_Index___int_int_ : tbl 128 = some M_slices_Index___int_int_ := tblOf_eq Try.func128 (by kernel_rfl) (by kernel_rfl)

/-- loop.example/g01921/spec.l22Model -/
def M_spec_l22Model : MFun := ⟨1, 17, [.cell 2 (some 30)],
  .seq (.reg [
    ⟨(some 2), none, .alloc [(.t (.int .i64 0)), (.t (.int .i64 0)), (.t (.int .i64 0)), (.t (.int .i64 0)), (.t (.int .i64 0)), (.t .nil), (.t (.int .i64 0)), (.t (.int .i64 0)), (.t (.int .i64 0)), (.t (.int .i64 0)), (.t (.int .i64 0)), (.t .nil), (.t (.int .i64 0)), (.t (.int .i64 0)), (.t (.int .i64 0)), (.t (.int .i64 0)), (.t (.int .i64 0)), (.t .nil), (.t (.int .i64 0)), (.t (.int .i64 0)), (.t (.int .i64 0)), (.t (.int .i64 0)), (.t (.int .i64 0)), (.t .nil), (.t (.int .i64 0)), (.t (.int .i64 0)), (.t (.int .i64 0)), (.t (.int .i64 0)), (.t (.int .i64 0)), (.t .nil)]⟩] [0, 2])
  (.seq (.seq (.reg [
    ⟨(some 3), none, .mov (.s 0)⟩,
    ⟨(some 4), none, .call 130 [(.s 3), (.c (.t (.int .i64 3)))]⟩] [0, 2, 4])
  (.cond (.s 4)
    (.seq (.reg [
      ⟨(some 5), none, .call 154 []⟩,
      ⟨none, none, .store 30 (.s 2) (.s 5)⟩] [2])
    (.ret))
    (.skip)))
  (.seq (.reg [
    ⟨(some 6), none, .mov (.s 0)⟩,
    ⟨(some 7), none, .call 155 [(.s 6)]⟩,
    ⟨(some 8), none, .mov (.s 0)⟩,
    ⟨(some 9), none, .call 155 [(.s 8)]⟩,
    ⟨(some 10), none, .mov (.s 0)⟩,
    ⟨(some 11), none, .call 155 [(.s 10)]⟩,
    ⟨(some 12), none, .mov (.s 0)⟩,
    ⟨(some 13), none, .call 155 [(.s 12)]⟩,
    ⟨(some 14), none, .mov (.s 0)⟩,
    ⟨(some 15), none, .call 155 [(.s 14)]⟩,
    ⟨(some 16), none, .build [(.t (.int .i64 0)), (.t (.int .i64 0)), (.t (.int .i64 0)), (.t (.int .i64 0)), (.t (.int .i64 0)), (.t .nil), (.t (.int .i64 0)), (.t (.int .i64 0)), (.t (.int .i64 0)), (.t (.int .i64 0)), (.t (.int .i64 0)), (.t .nil), (.t (.int .i64 0)), (.t (.int .i64 0)), (.t (.int .i64 0)), (.t (.int .i64 0)), (.t (.int .i64 0)), (.t .nil), (.t (.int .i64 0)), (.t (.int .i64 0)), (.t (.int .i64 0)), (.t (.int .i64 0)), (.t (.int .i64 0)), (.t .nil), (.t (.int .i64 0)), (.t (.int .i64 0)), (.t (.int .i64 0)), (.t (.int .i64 0)), (.t (.int .i64 0)), (.t .nil)] [(0, 6, (.s 7)), (6, 6, (.s 9)), (12, 6, (.s 11)), (18, 6, (.s 13)), (24, 6, (.s 15))]⟩,
    ⟨none, none, .store 30 (.s 2) (.s 16)⟩] [2])
  (.ret)))⟩
theorem t_spec_l22Model : tbl 129 = some M_spec_l22Model := tblOf_eq Try.func129 (by kernel_rfl) (by kernel_rfl)

/-- loop.example/g01921/spec.l1Once -/
def M_spec_l1Once : MFun := ⟨2, 9, [.tmp 4],
  .seq (.reg [
    ⟨(some 4), none, .mov (.c (.t (.bool false)))⟩] [0, 1])
  (.seq (.reg [
    ⟨(some 5), none, .mov (.s 0)⟩,
    ⟨(some 6), none, .mov (.s 1)⟩,
    ⟨(some 7), none, .call 90 [(.s 5), (.s 6)]⟩,
    ⟨(some 8), none, .bin .eql (.s 7) (.c (.t (.int .i64 0)))⟩,
    ⟨(some 4), none, .mov (.s 8)⟩] [4])
  (.ret))⟩
theorem t_spec_l1Once : tbl 130 = some M_spec_l1Once := tblOf_eq Try.func130 (by kernel_rfl) (by kernel_rfl)

/-- loop.example/g01921/spec.l21Any -/
def M_spec_l21Any : MFun := ⟨1, 35, [.cell 2 (some 6)],
  .seq (.reg [
    ⟨(some 2), none, .alloc [(.t (.int .i64 0)), (.t (.int .i64 0)), (.t (.int .i64 0)), (.t (.int .i64 0)), (.t (.int .i64 0)), (.t .nil)]⟩] [0, 2])
  (.seq (.reg [
    ⟨(some 4), none, .mov (.s 0)⟩,
    ⟨(some 5), none, .call 155 [(.s 4)]⟩,
    ⟨(some 3), none, .alloc [(.t (.int .i64 0)), (.t (.int .i64 0)), (.t (.int .i64 0)), (.t (.int .i64 0)), (.t (.int .i64 0)), (.t .nil)]⟩,
    ⟨none, none, .store 6 (.s 3) (.s 5)⟩] [0, 2, 3])
  (.seq (.seq (.reg [
    ⟨(some 6), none, .mov (.s 0)⟩,
    ⟨(some 7), none, .call 90 [(.s 6), (.c (.t (.int .i64 10)))]⟩] [0, 2, 3, 7])
  (.block 0 (.seq (.reg [
    ⟨(some 9), none, .bin .eql (.s 7) (.c (.t (.int .i64 0)))⟩,
    ⟨(some 8), none, .mov (.s 9)⟩] [0, 2, 3, 7, 8])
  (.cond (.s 8)
    (.reg [
      ⟨(some 10), none, .mov (.s 0)⟩,
      ⟨(some 11), none, .bslice 3 1 4 [(.int .i64 0)] [(0, (.c (.t (.int .i64 (-1))))), (1, (.c (.t (.int .i64 99)))), (2, (.c (.t (.int .i64 100)))), (3, (.c (.t (.int .i64 (-100)))))]⟩,
      ⟨(some 12), none, .call 91 [(.s 10), (.s 11)]⟩,
      ⟨(some 13), none, .faddr 1 (.s 3)⟩,
      ⟨none, none, .store 1 (.s 13) (.s 12)⟩] [2, 3])
    (.seq (.reg [
      ⟨(some 15), none, .bin .eql (.s 7) (.c (.t (.int .i64 1)))⟩,
      ⟨(some 14), none, .mov (.s 15)⟩] [0, 2, 3, 7, 14])
    (.cond (.s 14)
      (.drw [
        ⟨(some 16), none, .faddr 5 (.s 3)⟩,
        ⟨(some 17), none, .load none (.s 16)⟩,
        ⟨(some 18), none, .mov (.s 0)⟩,
        ⟨(some 19), none, .bslice 3 1 5 [(.int .i64 0)] [(0, (.c (.t (.int .i64 0)))), (1, (.c (.t (.int .i64 1)))), (2, (.c (.t (.int .i64 64)))), (3, (.c (.t (.int .i64 8192)))), (4, (.c (.t (.int .i64 8193))))]⟩,
        ⟨(some 20), none, .call 91 [(.s 18), (.s 19)]⟩,
        ⟨(some 21), none, .mov (.s 0)⟩,
        ⟨(some 22), none, .bslice 3 1 4 [(.int .i64 0)] [(0, (.c (.t (.int .i64 (-3))))), (1, (.c (.t (.int .i64 (-99))))), (2, (.c (.t (.int .i64 4)))), (3, (.c (.t (.int .i64 100))))]⟩,
        ⟨(some 23), none, .call 91 [(.s 21), (.s 22)]⟩,
        ⟨(some 24), none, .build [(.t (.int .i64 0)), (.t (.int .i64 0))] [(0, 1, (.s 20)), (1, 1, (.s 23))]⟩,
        ⟨(some 25), none, .bslice 153 2 1 [(.int .i64 0), (.int .i64 0)] [(0, (.s 24))]⟩,
        ⟨(some 26), none, .append 153 2 16 true (.s 17) (.s 25)⟩,
        ⟨(some 27), none, .faddr 5 (.s 3)⟩,
        ⟨none, none, .store 1 (.s 27) (.s 26)⟩] [[], [0], [], [], [2, 3], [], [], [5, 6, 4], [4, 7], [8], [1, 9, 7], [0, 1, 2, 3, 4, 5, 6, 7, 8, 9, 10], [11, 10, 10, 0, 1, 2, 3, 4, 5, 6, 7, 8, 9, 10]] [2, 3])
      (.seq (.reg [
        ⟨(some 29), none, .bin .eql (.s 7) (.c (.t (.int .i64 2)))⟩,
        ⟨(some 28), none, .mov (.s 29)⟩] [0, 2, 3, 28])
      (.cond (.s 28)
        (.reg [
          ⟨(some 30), none, .mov (.s 0)⟩,
          ⟨(some 31), none, .bslice 3 1 4 [(.int .i64 0)] [(0, (.c (.t (.int .i64 0)))), (1, (.c (.t (.int .i64 (-5))))), (2, (.c (.t (.int .i64 99)))), (3, (.c (.t (.int .i64 9223372036854775807))))]⟩,
          ⟨(some 32), none, .call 91 [(.s 30), (.s 31)]⟩,
          ⟨(some 33), none, .faddr 0 (.s 3)⟩,
          ⟨none, none, .store 1 (.s 33) (.s 32)⟩] [2, 3])
        (.skip)))))))))
  (.seq (.reg [
    ⟨(some 34), none, .load (some 6) (.s 3)⟩,
    ⟨none, none, .store 6 (.s 2) (.s 34)⟩] [2])
  (.ret))))⟩
theorem t_spec_l21Any : tbl 131 = some M_spec_l21Any := tblOf_eq Try.func131 (by kernel_rfl) (by kernel_rfl)

/-- loop.example/g01921/spec.l1Byte -/
def M_spec_l1Byte : MFun := ⟨1, 58, [.tmp 2],
  .seq (.reg [
    ⟨(some 2), none, .mov (.c (.t (.int .i64 0)))⟩] [0])
  (.seq (.reg [
    ⟨(some 4), none, .mov (.s 0)⟩,
    ⟨(some 5), none, .mov (.s 0)⟩,
    ⟨(some 6), none, .nilchk (.s 5)⟩,
    ⟨(some 7), none, .faddr 2 (.s 6)⟩,
    ⟨(some 8), none, .load none (.s 7)⟩,
    ⟨(some 9), none, .bin .mul (.s 8) (.c (.t (.int .i64 6364136223846793005)))⟩,
    ⟨(some 10), none, .bin .add (.s 9) (.c (.t (.int .i64 1442695040888963407)))⟩,
    ⟨(some 11), none, .nilchk (.s 4)⟩,
    ⟨(some 12), none, .faddr 2 (.s 11)⟩,
    ⟨none, none, .store 1 (.s 12) (.s 10)⟩] [0])
  (.seq (.drw [
    ⟨(some 13), none, .mov (.s 0)⟩,
    ⟨(some 14), none, .nilchk (.s 13)⟩,
    ⟨(some 15), none, .faddr 2 (.s 14)⟩,
    ⟨(some 16), none, .load none (.s 15)⟩,
    ⟨(some 17), none, .bin .shr (.s 16) (.c (.t (.int .u64 33)))⟩,
    ⟨(some 18), none, .mov (.s 0)⟩,
    ⟨(some 19), none, .nilchk (.s 18)⟩,
    ⟨(some 20), none, .faddr 2 (.s 19)⟩,
    ⟨(some 21), none, .load none (.s 20)⟩,
    ⟨(some 22), none, .bin .shr (.s 21) (.c (.t (.int .u64 45)))⟩,
    ⟨(some 23), none, .bin .xor (.s 17) (.s 22)⟩,
    ⟨(some 24), none, .bin .and (.s 23) (.c (.t (.int .i64 255)))⟩,
    ⟨(some 3), none, .mov (.s 24)⟩] [[], [0], [1], [2], [3], [], [5], [6], [7], [8], [4, 9], [10], [11, 0, 1, 2, 3, 4, 5, 6, 7, 8, 9, 10, 11]] [0, 3])
  (.seq (.seq (.drw [
    ⟨(some 25), none, .mov (.s 0)⟩,
    ⟨(some 26), none, .nilchk (.s 25)⟩,
    ⟨(some 27), none, .faddr 1 (.s 26)⟩,
    ⟨(some 28), none, .load none (.s 27)⟩,
    ⟨(some 29), none, .mov (.s 0)⟩,
    ⟨(some 30), none, .nilchk (.s 29)⟩,
    ⟨(some 31), none, .faddr 0 (.s 30)⟩,
    ⟨(some 32), none, .load none (.s 31)⟩,
    ⟨(some 33), none, .len false (.s 32)⟩,
    ⟨(some 34), none, .bin .lss (.s 28) (.s 33)⟩] [[], [0], [1], [2], [], [4], [5], [6], [7], [3, 8]] [0, 3, 34])
  (.cond (.s 34)
    (.seq (.drw [
      ⟨(some 35), none, .mov (.s 3)⟩,
      ⟨(some 36), none, .mov (.s 0)⟩,
      ⟨(some 37), none, .nilchk (.s 36)⟩,
      ⟨(some 38), none, .faddr 0 (.s 37)⟩,
      ⟨(some 39), none, .load none (.s 38)⟩,
      ⟨(some 40), none, .mov (.s 0)⟩,
      ⟨(some 41), none, .nilchk (.s 40)⟩,
      ⟨(some 42), none, .faddr 1 (.s 41)⟩,
      ⟨(some 43), none, .load none (.s 42)⟩,
      ⟨(some 44), none, .iaddr 1 (.s 39) (.s 43)⟩,
      ⟨(some 45), none, .load none (.s 44)⟩,
      ⟨(some 46), none, .conv .i64 (.s 45)⟩,
      ⟨(some 47), none, .bin .add (.s 35) (.s 46)⟩,
      ⟨(some 48), none, .bin .and (.s 47) (.c (.t (.int .i64 255)))⟩,
      ⟨(some 3), none, .mov (.s 48)⟩] [[], [], [1], [2], [3], [], [5], [6], [7], [4, 8], [9], [10], [0, 11], [12], [13, 0, 1, 2, 3, 4, 5, 6, 7, 8, 9, 10, 11, 12, 13]] [0, 3])
    (.reg [
      ⟨(some 49), none, .mov (.s 0)⟩,
      ⟨(some 50), none, .mov (.s 0)⟩,
      ⟨(some 51), none, .nilchk (.s 50)⟩,
      ⟨(some 52), none, .faddr 1 (.s 51)⟩,
      ⟨(some 53), none, .load none (.s 52)⟩,
      ⟨(some 54), none, .bin .add (.s 53) (.c (.t (.int .i64 1)))⟩,
      ⟨(some 55), none, .nilchk (.s 49)⟩,
      ⟨(some 56), none, .faddr 1 (.s 55)⟩,
      ⟨none, none, .store 1 (.s 56) (.s 54)⟩] [3]))
    (.skip)))
  (.seq (.reg [
    ⟨(some 57), none, .mov (.s 3)⟩,
    ⟨(some 2), none, .mov (.s 57)⟩] [2])
  (.ret)))))⟩
theorem t_spec_l1Byte : tbl 132 = some M_spec_l1Byte := tblOf_eq Try.func132 (by kernel_rfl) (by kernel_rfl)

/-- loop.example/g01921/impl.RefuteModel -/
def B_impl_RefuteModel_0 : MCode :=
  .seq (.reg [
    ⟨(some 43), none, .bin .lss (.s 42) (.s 41)⟩] [6, 7, 13, 14, 15, 40, 41, 42, 43])
  (.seq (.cond (.s 43)
    (.skip)
    (.exit 2))
  (.seq (.block 3 (.seq (.reg [
    ⟨(some 44), none, .iaddr 1 (.s 40) (.s 42)⟩,
    ⟨(some 45), none, .load none (.s 44)⟩,
    ⟨(some 12), none, .mov (.s 45)⟩] [6, 7, 12, 13, 14, 15, 40, 41, 42])
  (.seq (.reg [
    ⟨(some 46), none, .mov (.s 6)⟩,
    ⟨(some 47), none, .nilchk (.s 46)⟩,
    ⟨(some 48), none, .load (some 6) (.s 47)⟩,
    ⟨(some 49), none, .mov (.s 12)⟩,
    ⟨(some 50), none, .call 158 [(.s 48), (.s 49)]⟩,
    ⟨(some 51), none, .bin .lss (.s 50) (.c (.t (.int .i64 1)))⟩] [6, 7, 12, 13, 14, 15, 40, 41, 42, 51])
  (.cond (.s 51)
    (.seq (.reg [
      ⟨(some 52), none, .mov (.s 7)⟩,
      ⟨(some 53), none, .mov (.s 12)⟩,
      ⟨(some 2), none, .mov (.s 52)⟩,
      ⟨(some 3), none, .mov (.s 53)⟩,
      ⟨(some 4), none, .mov (.c (.t .nil))⟩] [2, 3, 4])
    (.ret))
    (.skip)))))
  (.reg [
    ⟨(some 54), none, .bin .add (.s 42) (.c (.t (.int .i64 1)))⟩,
    ⟨(some 42), none, .mov (.s 54)⟩] [6, 7, 13, 14, 15, 40, 41, 42])))

def B_impl_RefuteModel_1 : MCode :=
  .seq (.reg [
    ⟨(some 16), none, .bin .lss (.s 15) (.s 14)⟩] [13, 14, 15, 16])
  (.seq (.cond (.s 16)
    (.skip)
    (.exit 0))
  (.seq (.block 1 (.seq (.reg [
    ⟨(some 17), none, .mov (.s 15)⟩,
    ⟨(some 18), none, .iaddr 1 (.s 13) (.s 15)⟩,
    ⟨(some 19), none, .load none (.s 18)⟩,
    ⟨(some 5), none, .mov (.s 17)⟩,
    ⟨(some 6), none, .mov (.s 19)⟩] [5, 6, 13, 14, 15])
  (.seq (.reg [
    ⟨(some 20), none, .mov (.s 5)⟩,
    ⟨(some 21), none, .bin .add (.c (.t (.int .i64 1))) (.s 20)⟩,
    ⟨(some 7), none, .mov (.s 21)⟩] [6, 7, 13, 14, 15])
  (.seq (.seq (.reg [
    ⟨(some 22), none, .mov (.s 6)⟩,
    ⟨(some 23), none, .nilchk (.s 22)⟩,
    ⟨(some 24), none, .load (some 6) (.s 23)⟩,
    ⟨(some 25), none, .call 134 [(.s 24)]⟩,
    ⟨(some 26), none, .un .not (.s 25)⟩] [6, 7, 13, 14, 15, 26])
  (.cond (.s 26)
    (.seq (.reg [
      ⟨(some 27), none, .mov (.s 7)⟩,
      ⟨(some 2), none, .mov (.s 27)⟩,
      ⟨(some 3), none, .mov (.c (.t .nil))⟩,
      ⟨(some 4), none, .mov (.c (.t .nil))⟩] [2, 3, 4])
    (.ret))
    (.skip)))
  (.seq (.seq (.reg [
    ⟨(some 29), none, .mov (.s 6)⟩,
    ⟨(some 30), none, .nilchk (.s 29)⟩,
    ⟨(some 31), none, .load (some 6) (.s 30)⟩,
    ⟨(some 32), none, .call 156 [(.s 31)]⟩,
    ⟨(some 28), none, .mov (.s 32)⟩,
    ⟨(some 33), none, .ext (.s 28) 0⟩,
    ⟨(some 34), none, .ext (.s 28) 1⟩,
    ⟨(some 35), none, .ext (.s 28) 2⟩,
    ⟨(some 8), none, .mov (.s 33)⟩,
    ⟨(some 9), none, .mov (.s 34)⟩,
    ⟨(some 10), none, .mov (.s 35)⟩] [6, 7, 8, 9, 10, 13, 14, 15])
  (.seq (.reg [
    ⟨(some 36), none, .mov (.s 10)⟩] [6, 7, 8, 9, 13, 14, 15, 36])
  (.cond (.s 36)
    (.seq (.reg [
      ⟨(some 37), none, .mov (.s 7)⟩,
      ⟨(some 38), none, .mov (.s 8)⟩,
      ⟨(some 39), none, .mov (.s 9)⟩,
      ⟨(some 2), none, .mov (.s 37)⟩,
      ⟨(some 3), none, .mov (.s 38)⟩,
      ⟨(some 4), none, .mov (.s 39)⟩] [2, 3, 4])
    (.ret))
    (.skip))))
  (.seq (.reg [
    ⟨(some 40), none, .call 157 []⟩,
    ⟨(some 41), none, .len false (.s 40)⟩,
    ⟨(some 42), none, .mov (.c (.t (.int .i64 0)))⟩] [6, 7, 13, 14, 15, 40, 41, 42])
  (.block 2 (.loop [6, 7, 13, 14, 15, 40, 41, 42] B_impl_RefuteModel_0))))))))
  (.reg [
    ⟨(some 55), none, .bin .add (.s 15) (.c (.t (.int .i64 1)))⟩,
    ⟨(some 15), none, .mov (.s 55)⟩] [13, 14, 15])))

def M_impl_RefuteModel : MFun := ⟨1, 56, [.tmp 2, .tmp 3, .tmp 4],
  .seq (.reg [
    ⟨(some 1), none, .box (.s 0)⟩,
    ⟨(some 2), none, .mov (.c (.t (.int .i64 0)))⟩,
    ⟨(some 3), none, .mov (.c (.t .nil))⟩,
    ⟨(some 4), none, .mov (.c (.t .nil))⟩] [1])
  (.seq (.seq (.reg [
    ⟨(some 13), none, .pcall 94 [(.s 1)]⟩,
    ⟨(some 14), none, .len false (.s 13)⟩,
    ⟨(some 15), none, .mov (.c (.t (.int .i64 0)))⟩] [13, 14, 15])
  (.block 0 (.loop [13, 14, 15] B_impl_RefuteModel_1)))
  (.seq (.reg [
    ⟨(some 2), none, .mov (.c (.t (.int .i64 0)))⟩,
    ⟨(some 3), none, .mov (.c (.t .nil))⟩,
    ⟨(some 4), none, .mov (.c (.t .nil))⟩] [2, 3, 4])
  (.ret)))⟩
theorem t_impl_RefuteModel : tbl 133 = some M_impl_RefuteModel := tblOf_eq Try.func133 (by kernel_rfl) (by kernel_rfl)

/-- loop.example/g01921/impl.IsValidOperator -/
def B_impl_IsValidOperator_0 : MCode :=
  .seq (.reg [
    ⟨(some 10), none, .bin .lss (.s 9) (.s 8)⟩] [1, 7, 8, 9, 10])
  (.seq (.cond (.s 10)
    (.skip)
    (.exit 0))
  (.seq (.block 1 (.seq (.reg [
    ⟨(some 11), none, .iaddr 1 (.s 7) (.s 9)⟩,
    ⟨(some 12), none, .load none (.s 11)⟩,
    ⟨(some 4), none, .mov (.s 12)⟩] [1, 4, 7, 8, 9])
  (.seq (.reg [
    ⟨(some 13), none, .mov (.s 4)⟩,
    ⟨(some 14), none, .nilchk (.s 13)⟩,
    ⟨(some 15), none, .load none (.s 14)⟩,
    ⟨(some 16), none, .call 74 [(.s 15), (.c (.t (.int .i64 (-99)))), (.c (.t (.int .i64 99)))]⟩,
    ⟨(some 17), none, .un .not (.s 16)⟩] [1, 7, 8, 9, 17])
  (.cond (.s 17)
    (.seq (.reg [
      ⟨(some 2), none, .mov (.c (.t (.bool false)))⟩] [2])
    (.ret))
    (.skip)))))
  (.reg [
    ⟨(some 18), none, .bin .add (.s 9) (.c (.t (.int .i64 1)))⟩,
    ⟨(some 9), none, .mov (.s 18)⟩] [1, 7, 8, 9])))

def B_impl_IsValidOperator_1 : MCode :=
  .seq (.reg [
    ⟨(some 23), none, .bin .lss (.s 22) (.s 21)⟩] [1, 20, 21, 22, 23])
  (.seq (.cond (.s 23)
    (.skip)
    (.exit 2))
  (.seq (.block 3 (.seq (.reg [
    ⟨(some 24), none, .mov (.s 22)⟩,
    ⟨(some 25), none, .iaddr 2 (.s 20) (.s 22)⟩,
    ⟨(some 26), none, .load (some 2) (.s 25)⟩,
    ⟨(some 6), none, .alloc [(.t (.int .i64 0)), (.t (.int .i64 0))]⟩,
    ⟨(some 5), none, .mov (.s 24)⟩,
    ⟨none, none, .store 2 (.s 6) (.s 26)⟩] [1, 5, 6, 20, 21, 22])
  (.seq (.drw [
    ⟨(some 27), none, .faddr 1 (.s 6)⟩,
    ⟨(some 28), none, .load none (.s 27)⟩,
    ⟨(some 29), none, .call 74 [(.s 28), (.c (.t (.int .i64 (-99)))), (.c (.t (.int .i64 99)))]⟩,
    ⟨(some 30), none, .un .not (.s 29)⟩,
    ⟨(some 31), none, .mov (.s 30)⟩,
    ⟨(some 32), (some (31, false)), .faddr 0 (.s 6)⟩,
    ⟨(some 33), (some (31, false)), .load none (.s 32)⟩,
    ⟨(some 34), (some (31, false)), .call 74 [(.s 33), (.c (.t (.int .i64 1))), (.c (.t (.int .i64 8192)))]⟩,
    ⟨(some 35), (some (31, false)), .un .not (.s 34)⟩,
    ⟨(some 36), none, .pick (.s 31) (.c (.t (.bool true))) (.s 35)⟩,
    ⟨(some 37), none, .mov (.s 36)⟩,
    ⟨(some 38), (some (37, false)), .mov (.s 5)⟩,
    ⟨(some 39), (some (37, false)), .bin .gtr (.s 38) (.c (.t (.int .i64 0)))⟩,
    ⟨(some 40), (some (37, false)), .mov (.s 39)⟩,
    ⟨(some 41), (some (40, true)), .faddr 5 (.s 1)⟩,
    ⟨(some 42), (some (40, true)), .load none (.s 41)⟩,
    ⟨(some 43), (some (40, true)), .mov (.s 5)⟩,
    ⟨(some 44), (some (40, true)), .bin .sub (.s 43) (.c (.t (.int .i64 1)))⟩,
    ⟨(some 45), (some (40, true)), .iaddr 2 (.s 42) (.s 44)⟩,
    ⟨(some 46), (some (40, true)), .faddr 0 (.s 45)⟩,
    ⟨(some 47), (some (40, true)), .load none (.s 46)⟩,
    ⟨(some 48), (some (40, true)), .faddr 0 (.s 6)⟩,
    ⟨(some 49), (some (40, true)), .load none (.s 48)⟩,
    ⟨(some 50), (some (40, true)), .bin .geq (.s 47) (.s 49)⟩,
    ⟨(some 51), (some (37, false)), .pick (.s 40) (.s 50) (.c (.t (.bool false)))⟩,
    ⟨(some 52), none, .pick (.s 37) (.c (.t (.bool true))) (.s 51)⟩] [[], [0], [1], [2], [3, 2], [4], [5, 4], [6, 4, 4], [7, 4], [4, 8], [9, 7], [10], [11, 10], [12, 10, 10], [13], [14, 13], [13], [16, 13], [15, 17, 13], [18, 13], [19, 13], [13], [21, 13], [20, 22, 13], [13, 23, 10], [10, 24]] [1, 20, 21, 22, 52])
  (.cond (.s 52)
    (.seq (.reg [
      ⟨(some 2), none, .mov (.c (.t (.bool false)))⟩] [2])
    (.ret))
    (.skip)))))
  (.reg [
    ⟨(some 53), none, .bin .add (.s 22) (.c (.t (.int .i64 1)))⟩,
    ⟨(some 22), none, .mov (.s 53)⟩] [1, 20, 21, 22])))

def M_impl_IsValidOperator : MFun := ⟨1, 58, [.tmp 2],
  .seq (.reg [
    ⟨(some 1), none, .box (.s 0)⟩,
    ⟨(some 2), none, .mov (.c (.t (.bool false)))⟩] [1])
  (.seq (.seq (.reg [
    ⟨(some 7), none, .pcall 159 [(.s 1)]⟩,
    ⟨(some 8), none, .len false (.s 7)⟩,
    ⟨(some 9), none, .mov (.c (.t (.int .i64 0)))⟩] [1, 7, 8, 9])
  (.block 0 (.loop [1, 7, 8, 9] B_impl_IsValidOperator_0)))
  (.seq (.seq (.reg [
    ⟨(some 19), none, .faddr 5 (.s 1)⟩,
    ⟨(some 20), none, .load none (.s 19)⟩,
    ⟨(some 21), none, .len false (.s 20)⟩,
    ⟨(some 22), none, .mov (.c (.t (.int .i64 0)))⟩] [1, 20, 21, 22])
  (.block 2 (.loop [1, 20, 21, 22] B_impl_IsValidOperator_1)))
  (.seq (.reg [
    ⟨(some 54), none, .faddr 5 (.s 1)⟩,
    ⟨(some 55), none, .load none (.s 54)⟩,
    ⟨(some 56), none, .len false (.s 55)⟩,
    ⟨(some 57), none, .bin .leq (.s 56) (.c (.t (.int .i64 4)))⟩,
    ⟨(some 2), none, .mov (.s 57)⟩] [2])
  (.ret))))⟩
theorem t_impl_IsValidOperator : tbl 134 = some M_impl_IsValidOperator := tblOf_eq Try.func134 (by kernel_rfl) (by kernel_rfl)

/-- loop.example/g01921/impl.operatorCost -/
def B_impl_operatorCost_0 : MCode :=
  .seq (.reg [
    ⟨(some 40), none, .bin .lss (.s 39) (.s 38)⟩] [1, 2, 9, 37, 38, 39, 40])
  (.seq (.cond (.s 40)
    (.skip)
    (.exit 0))
  (.seq (.block 1 (.seq (.reg [
    ⟨(some 41), none, .iaddr 2 (.s 37) (.s 39)⟩,
    ⟨(some 42), none, .load (some 2) (.s 41)⟩,
    ⟨(some 11), none, .alloc [(.t (.int .i64 0)), (.t (.int .i64 0))]⟩,
    ⟨none, none, .store 2 (.s 11) (.s 42)⟩] [1, 2, 9, 11, 37, 38, 39])
  (.seq (.reg [
    ⟨(some 43), none, .faddr 0 (.s 11)⟩,
    ⟨(some 44), none, .load none (.s 43)⟩,
    ⟨(some 45), none, .mov (.s 1)⟩,
    ⟨(some 46), none, .mov (.s 2)⟩,
    ⟨(some 47), none, .bin .add (.s 45) (.s 46)⟩,
    ⟨(some 48), none, .bin .leq (.s 44) (.s 47)⟩] [1, 2, 9, 11, 37, 38, 39, 48])
  (.cond (.s 48)
    (.reg [
      ⟨(some 49), none, .mov (.s 9)⟩,
      ⟨(some 50), none, .faddr 1 (.s 11)⟩,
      ⟨(some 51), none, .load none (.s 50)⟩,
      ⟨(some 52), none, .bin .add (.s 49) (.s 51)⟩,
      ⟨(some 9), none, .mov (.s 52)⟩] [1, 2, 9, 37, 38, 39])
    (.skip)))))
  (.reg [
    ⟨(some 53), none, .bin .add (.s 39) (.c (.t (.int .i64 1)))⟩,
    ⟨(some 39), none, .mov (.s 53)⟩] [1, 2, 9, 37, 38, 39])))

def M_impl_operatorCost : MFun := ⟨4, 55, [.tmp 8],
  .seq (.reg [
    ⟨(some 4), none, .box (.s 0)⟩,
    ⟨(some 8), none, .mov (.c (.t (.int .i64 0)))⟩] [1, 2, 3, 4])
  (.seq (.reg [
    ⟨(some 12), none, .faddr 0 (.s 4)⟩,
    ⟨(some 13), none, .load none (.s 12)⟩,
    ⟨(some 14), none, .faddr 1 (.s 4)⟩,
    ⟨(some 15), none, .load none (.s 14)⟩,
    ⟨(some 16), none, .mov (.s 1)⟩,
    ⟨(some 17), none, .bin .mul (.s 15) (.s 16)⟩,
    ⟨(some 18), none, .bin .add (.s 13) (.s 17)⟩,
    ⟨(some 19), none, .faddr 2 (.s 4)⟩,
    ⟨(some 20), none, .load none (.s 19)⟩,
    ⟨(some 21), none, .mov (.s 2)⟩,
    ⟨(some 22), none, .bin .mul (.s 20) (.s 21)⟩,
    ⟨(some 23), none, .bin .add (.s 18) (.s 22)⟩,
    ⟨(some 24), none, .faddr 3 (.s 4)⟩,
    ⟨(some 25), none, .load none (.s 24)⟩,
    ⟨(some 26), none, .mov (.s 3)⟩,
    ⟨(some 27), none, .bin .mul (.s 25) (.s 26)⟩,
    ⟨(some 28), none, .bin .add (.s 23) (.s 27)⟩,
    ⟨(some 29), none, .faddr 4 (.s 4)⟩,
    ⟨(some 30), none, .load none (.s 29)⟩,
    ⟨(some 31), none, .mov (.s 1)⟩,
    ⟨(some 32), none, .bin .mul (.s 30) (.s 31)⟩,
    ⟨(some 33), none, .mov (.s 2)⟩,
    ⟨(some 34), none, .bin .mul (.s 32) (.s 33)⟩,
    ⟨(some 35), none, .bin .add (.s 28) (.s 34)⟩,
    ⟨(some 9), none, .mov (.s 35)⟩] [1, 2, 4, 9])
  (.seq (.seq (.reg [
    ⟨(some 36), none, .faddr 5 (.s 4)⟩,
    ⟨(some 37), none, .load none (.s 36)⟩,
    ⟨(some 38), none, .len false (.s 37)⟩,
    ⟨(some 39), none, .mov (.c (.t (.int .i64 0)))⟩] [1, 2, 9, 37, 38, 39])
  (.block 0 (.loop [1, 2, 9, 37, 38, 39] B_impl_operatorCost_0)))
  (.seq (.reg [
    ⟨(some 54), none, .mov (.s 9)⟩,
    ⟨(some 8), none, .mov (.s 54)⟩] [8])
  (.ret))))⟩
theorem t_impl_operatorCost : tbl 135 = some M_impl_operatorCost := tblOf_eq Try.func135 (by kernel_rfl) (by kernel_rfl)

/-- loop.example/g01921/impl.ClassSize -/
def M_impl_ClassSize : MFun := ⟨1, 14, [.tmp 2],
  .seq (.reg [
    ⟨(some 2), none, .mov (.c (.t (.int .i64 0)))⟩] [0])
  (.seq (.block 0 (.seq (.reg [
    ⟨(some 4), none, .mov (.s 0)⟩,
    ⟨(some 5), none, .call 74 [(.s 4), (.c (.t (.int .i64 0))), (.c (.t (.int .i64 7)))]⟩,
    ⟨(some 6), none, .un .not (.s 5)⟩,
    ⟨(some 3), none, .mov (.s 6)⟩] [0, 3])
  (.cond (.s 3)
    (.seq (.reg [
      ⟨(some 2), none, .mov (.c (.t (.int .i64 (-1))))⟩] [2])
    (.ret))
    (.seq (.reg [
      ⟨(some 8), none, .mov (.s 0)⟩,
      ⟨(some 9), none, .bin .eql (.s 8) (.c (.t (.int .i64 0)))⟩,
      ⟨(some 7), none, .mov (.s 9)⟩] [0, 7])
    (.cond (.s 7)
      (.seq (.reg [
        ⟨(some 2), none, .mov (.c (.t (.int .i64 0)))⟩] [2])
      (.ret))
      (.skip))))))
  (.seq (.reg [
    ⟨(some 10), none, .mov (.s 0)⟩,
    ⟨(some 11), none, .bin .sub (.s 10) (.c (.t (.int .i64 1)))⟩,
    ⟨(some 12), none, .bin .mul (.c (.t (.int .i64 2))) (.s 11)⟩,
    ⟨(some 13), none, .bin .shl (.c (.t (.int .i64 1))) (.s 12)⟩,
    ⟨(some 2), none, .mov (.s 13)⟩] [2])
  (.ret)))⟩
theorem t_impl_ClassSize : tbl 136 = some M_impl_ClassSize := tblOf_eq Try.func136 (by kernel_rfl) (by kernel_rfl)

/-- loop.example/g01921/impl.SizeClass -/
def B_impl_SizeClass_0 : MCode :=
  .seq (.block 1 (.seq (.reg [
    ⟨(some 9), none, .mov (.s 3)⟩,
    ⟨(some 10), none, .call 136 [(.s 9)]⟩,
    ⟨(some 11), none, .mov (.s 0)⟩,
    ⟨(some 12), none, .bin .geq (.s 10) (.s 11)⟩] [0, 3, 12])
  (.cond (.s 12)
    (.seq (.reg [
      ⟨(some 13), none, .mov (.s 3)⟩,
      ⟨(some 2), none, .mov (.s 13)⟩] [2])
    (.ret))
    (.skip))))
  (.reg [
    ⟨(some 7), none, .mov (.s 3)⟩,
    ⟨(some 8), none, .bin .add (.s 7) (.c (.t (.int .i64 1)))⟩,
    ⟨(some 3), none, .mov (.s 8)⟩] [0, 3])

def M_impl_SizeClass : MFun := ⟨1, 14, [.tmp 2],
  .seq (.reg [
    ⟨(some 2), none, .mov (.c (.t (.int .i64 0)))⟩] [0])
  (.seq (.seq (.reg [
    ⟨(some 4), none, .mov (.s 0)⟩,
    ⟨(some 5), none, .call 74 [(.s 4), (.c (.t (.int .i64 0))), (.c (.t (.int .i64 4096)))]⟩,
    ⟨(some 6), none, .un .not (.s 5)⟩] [0, 6])
  (.cond (.s 6)
    (.seq (.reg [
      ⟨(some 2), none, .mov (.c (.t (.int .i64 (-1))))⟩] [2])
    (.ret))
    (.skip)))
  (.seq (.reg [
    ⟨(some 3), none, .mov (.c (.t (.int .i64 0)))⟩] [0, 3])
  (.block 0 (.loop [0, 3] B_impl_SizeClass_0))))⟩
theorem t_impl_SizeClass : tbl 137 = some M_impl_SizeClass := tblOf_eq Try.func137 (by kernel_rfl) (by kernel_rfl)

/-- loop.example/g01921/spec.RefuteModel -/
def B_spec_RefuteModel_0 : MCode :=
  .seq (.seq (.reg [
    ⟨(some 11), none, .mov (.s 5)⟩,
    ⟨(some 12), none, .bin .leq (.s 11) (.c (.t (.int .i64 5)))⟩] [1, 5, 12])
  (.cond (.s 12)
    (.skip)
    (.exit 0)))
  (.seq (.block 1 (.seq (.reg [
    ⟨(some 15), none, .load (some 30) (.s 1)⟩,
    ⟨(some 16), none, .mov (.s 5)⟩,
    ⟨(some 17), none, .call 97 [(.s 15), (.s 16)]⟩,
    ⟨(some 6), none, .alloc [(.t (.int .i64 0)), (.t (.int .i64 0)), (.t (.int .i64 0)), (.t (.int .i64 0)), (.t (.int .i64 0)), (.t .nil)]⟩,
    ⟨none, none, .store 6 (.s 6) (.s 17)⟩] [1, 5, 6])
  (.seq (.seq (.reg [
    ⟨(some 18), none, .load (some 6) (.s 6)⟩,
    ⟨(some 19), none, .call 99 [(.s 18)]⟩,
    ⟨(some 20), none, .un .not (.s 19)⟩] [1, 5, 6, 20])
  (.cond (.s 20)
    (.seq (.reg [
      ⟨(some 21), none, .mov (.s 5)⟩,
      ⟨(some 22), none, .bslice 3 1 0 [(.int .i64 0)] []⟩,
      ⟨(some 23), none, .bslice 3 1 0 [(.int .i64 0)] []⟩,
      ⟨(some 2), none, .mov (.s 21)⟩,
      ⟨(some 3), none, .mov (.s 22)⟩,
      ⟨(some 4), none, .mov (.s 23)⟩] [2, 3, 4])
    (.ret))
    (.skip)))
  (.seq (.reg [
    ⟨(some 25), none, .load (some 6) (.s 6)⟩,
    ⟨(some 26), none, .call 160 [(.s 25)]⟩,
    ⟨(some 24), none, .mov (.s 26)⟩,
    ⟨(some 27), none, .ext (.s 24) 0⟩,
    ⟨(some 28), none, .ext (.s 24) 1⟩,
    ⟨(some 29), none, .ext (.s 24) 2⟩,
    ⟨(some 7), none, .mov (.s 27)⟩,
    ⟨(some 8), none, .mov (.s 28)⟩,
    ⟨(some 9), none, .mov (.s 29)⟩] [1, 5, 6, 7, 8, 9])
  (.seq (.seq (.reg [
    ⟨(some 30), none, .mov (.s 9)⟩] [1, 5, 6, 7, 8, 30])
  (.cond (.s 30)
    (.seq (.reg [
      ⟨(some 31), none, .mov (.s 5)⟩,
      ⟨(some 32), none, .mov (.s 7)⟩,
      ⟨(some 33), none, .mov (.s 8)⟩,
      ⟨(some 2), none, .mov (.s 31)⟩,
      ⟨(some 3), none, .mov (.s 32)⟩,
      ⟨(some 4), none, .mov (.s 33)⟩] [2, 3, 4])
    (.ret))
    (.skip)))
  (.seq (.reg [
    ⟨(some 34), none, .load (some 6) (.s 6)⟩,
    ⟨(some 35), none, .call 161 [(.s 34)]⟩,
    ⟨(some 10), none, .mov (.s 35)⟩] [1, 5, 10])
  (.seq (.reg [
    ⟨(some 36), none, .mov (.s 10)⟩,
    ⟨(some 37), none, .len false (.s 36)⟩,
    ⟨(some 38), none, .bin .gtr (.s 37) (.c (.t (.int .i64 0)))⟩] [1, 5, 10, 38])
  (.cond (.s 38)
    (.seq (.reg [
      ⟨(some 39), none, .mov (.s 5)⟩,
      ⟨(some 40), none, .mov (.s 10)⟩,
      ⟨(some 41), none, .bslice 3 1 0 [(.int .i64 0)] []⟩,
      ⟨(some 2), none, .mov (.s 39)⟩,
      ⟨(some 3), none, .mov (.s 40)⟩,
      ⟨(some 4), none, .mov (.s 41)⟩] [2, 3, 4])
    (.ret))
    (.skip)))))))))
  (.reg [
    ⟨(some 13), none, .mov (.s 5)⟩,
    ⟨(some 14), none, .bin .add (.s 13) (.c (.t (.int .i64 1)))⟩,
    ⟨(some 5), none, .mov (.s 14)⟩] [1, 5]))

def M_spec_RefuteModel : MFun := ⟨1, 44, [.tmp 2, .tmp 3, .tmp 4],
  .seq (.reg [
    ⟨(some 1), none, .box (.s 0)⟩,
    ⟨(some 2), none, .mov (.c (.t (.int .i64 0)))⟩,
    ⟨(some 3), none, .mov (.c (.t .nil))⟩,
    ⟨(some 4), none, .mov (.c (.t .nil))⟩] [1])
  (.seq (.seq (.reg [
    ⟨(some 5), none, .mov (.c (.t (.int .i64 1)))⟩] [1, 5])
  (.block 0 (.loop [1, 5] B_spec_RefuteModel_0)))
  (.seq (.reg [
    ⟨(some 42), none, .bslice 3 1 0 [(.int .i64 0)] []⟩,
    ⟨(some 43), none, .bslice 3 1 0 [(.int .i64 0)] []⟩,
    ⟨(some 2), none, .mov (.c (.t (.int .i64 0)))⟩,
    ⟨(some 3), none, .mov (.s 42)⟩,
    ⟨(some 4), none, .mov (.s 43)⟩] [2, 3, 4])
  (.ret)))⟩
theorem t_spec_RefuteModel : tbl 138 = some M_spec_RefuteModel := tblOf_eq Try.func138 (by kernel_rfl) (by kernel_rfl)

/-- loop.example/g01921/spec.l21Coefficient -/
def M_spec_l21Coefficient : MFun := ⟨1, 5, [.tmp 2],
  .seq (.reg [
    ⟨(some 2), none, .mov (.c (.t (.bool false)))⟩] [0])
  (.seq (.reg [
    ⟨(some 3), none, .mov (.s 0)⟩,
    ⟨(some 4), none, .call 70 [(.s 3), (.c (.t (.int .i64 (-99)))), (.c (.t (.int .i64 99)))]⟩,
    ⟨(some 2), none, .mov (.s 4)⟩] [2])
  (.ret))⟩
theorem t_spec_l21Coefficient : tbl 139 = some M_spec_l21Coefficient := tblOf_eq Try.func139 (by kernel_rfl) (by kernel_rfl)

/-- loop.example/g01921/spec.l5Db -/
def B_spec_l5Db_0 : MCode :=
  .seq (.reg [
    ⟨(some 20), none, .bin .lss (.s 19) (.s 18)⟩] [0, 2, 3, 4, 5, 17, 18, 19, 20])
  (.seq (.cond (.s 20)
    (.skip)
    (.exit 0))
  (.seq (.block 1 (.seq (.reg [
    ⟨(some 21), none, .iaddr 1 (.s 17) (.s 19)⟩,
    ⟨(some 22), none, .load none (.s 21)⟩,
    ⟨(some 7), none, .mov (.s 22)⟩] [0, 2, 3, 4, 5, 7, 17, 18, 19])
  (.seq (.reg [
    ⟨(some 8), none, .mov (.c (.t (.int .i64 2)))⟩] [0, 2, 3, 4, 5, 7, 8, 17, 18, 19])
  (.seq (.seq (.reg [
    ⟨(some 23), none, .mov (.s 7)⟩,
    ⟨(some 24), none, .bin .eql (.s 23) (.c (.t (.str ⟨#[117]⟩)))⟩] [0, 2, 3, 4, 5, 7, 8, 17, 18, 19, 24])
  (.cond (.s 24)
    (.reg [
      ⟨(some 8), none, .mov (.c (.t (.int .i64 3)))⟩] [0, 2, 3, 4, 5, 7, 8, 17, 18, 19])
    (.skip)))
  (.seq (.seq (.reg [
    ⟨(some 25), none, .mov (.s 7)⟩,
    ⟨(some 26), none, .bin .eql (.s 25) (.c (.t (.str ⟨#[118]⟩)))⟩] [0, 2, 3, 4, 5, 7, 8, 17, 18, 19, 26])
  (.cond (.s 26)
    (.reg [
      ⟨(some 8), none, .mov (.c (.t (.int .i64 1)))⟩] [0, 2, 3, 4, 5, 7, 8, 17, 18, 19])
    (.skip)))
  (.seq (.reg [
    ⟨(some 27), none, .mov (.s 0)⟩,
    ⟨(some 28), none, .mov (.s 7)⟩,
    ⟨(some 29), none, .mov (.s 8)⟩,
    ⟨(some 30), none, .mov (.s 4)⟩,
    ⟨(some 31), none, .mov (.s 3)⟩,
    ⟨(some 32), none, .call 162 [(.s 27), (.s 28), (.s 29), (.s 30), (.s 31)]⟩,
    ⟨(some 9), none, .alloc [(.t (.str ⟨#[]⟩)), (.t (.int .i64 0)), (.t .nil)]⟩,
    ⟨none, none, .store 3 (.s 9) (.s 32)⟩] [0, 2, 3, 4, 5, 9, 17, 18, 19])
  (.reg [
    ⟨(some 33), none, .faddr 0 (.s 5)⟩,
    ⟨(some 34), none, .load none (.s 33)⟩,
    ⟨(some 35), none, .load (some 3) (.s 9)⟩,
    ⟨(some 36), none, .bslice 213 3 1 [(.str ⟨#[]⟩), (.int .i64 0), .nil] [(0, (.s 35))]⟩,
    ⟨(some 37), none, .append 213 3 48 true (.s 34) (.s 36)⟩,
    ⟨(some 38), none, .faddr 0 (.s 5)⟩,
    ⟨none, none, .store 1 (.s 38) (.s 37)⟩] [0, 2, 3, 4, 5, 17, 18, 19])))))))
  (.reg [
    ⟨(some 39), none, .bin .add (.s 19) (.c (.t (.int .i64 1)))⟩,
    ⟨(some 19), none, .mov (.s 39)⟩] [0, 2, 3, 4, 5, 17, 18, 19])))

def M_spec_l5Db : MFun := ⟨1, 49, [.cell 2 (some 1)],
  .seq (.reg [
    ⟨(some 2), none, .alloc [(.t .nil)]⟩] [0, 2])
  (.seq (.reg [
    ⟨(some 10), none, .mov (.s 0)⟩,
    ⟨(some 11), none, .bslice 3 1 4 [(.int .i64 0)] [(0, (.c (.t (.int .i64 2)))), (1, (.c (.t (.int .i64 3)))), (2, (.c (.t (.int .i64 4)))), (3, (.c (.t (.int .i64 6))))]⟩,
    ⟨(some 12), none, .call 91 [(.s 10), (.s 11)]⟩,
    ⟨(some 3), none, .mov (.s 12)⟩] [0, 2, 3])
  (.seq (.reg [
    ⟨(some 13), none, .mov (.s 0)⟩,
    ⟨(some 14), none, .bslice 3 1 4 [(.int .i64 0)] [(0, (.c (.t (.int .i64 2)))), (1, (.c (.t (.int .i64 4)))), (2, (.c (.t (.int .i64 6)))), (3, (.c (.t (.int .i64 8))))]⟩,
    ⟨(some 15), none, .call 91 [(.s 13), (.s 14)]⟩,
    ⟨(some 4), none, .mov (.s 15)⟩] [0, 2, 3, 4])
  (.seq (.reg [
    ⟨(some 16), none, .build [(.t .nil)] []⟩,
    ⟨(some 5), none, .alloc [(.t .nil)]⟩,
    ⟨none, none, .store 1 (.s 5) (.s 16)⟩] [0, 2, 3, 4, 5])
  (.seq (.seq (.reg [
    ⟨(some 17), none, .bslice 9 1 5 [(.str ⟨#[]⟩)] [(0, (.c (.t (.str ⟨#[114]⟩)))), (1, (.c (.t (.str ⟨#[115]⟩)))), (2, (.c (.t (.str ⟨#[116]⟩)))), (3, (.c (.t (.str ⟨#[117]⟩)))), (4, (.c (.t (.str ⟨#[118]⟩))))]⟩,
    ⟨(some 18), none, .len false (.s 17)⟩,
    ⟨(some 19), none, .mov (.c (.t (.int .i64 0)))⟩] [0, 2, 3, 4, 5, 17, 18, 19])
  (.block 0 (.loop [0, 2, 3, 4, 5, 17, 18, 19] B_spec_l5Db_0)))
  (.seq (.seq (.reg [
    ⟨(some 40), none, .mov (.s 0)⟩,
    ⟨(some 41), none, .call 130 [(.s 40), (.c (.t (.int .i64 8)))]⟩] [0, 2, 5, 41])
  (.cond (.s 41)
    (.drw [
      ⟨(some 42), none, .faddr 0 (.s 5)⟩,
      ⟨(some 43), none, .load none (.s 42)⟩,
      ⟨(some 44), none, .mov (.s 0)⟩,
      ⟨(some 45), none, .call 90 [(.s 44), (.c (.t (.int .i64 5)))]⟩,
      ⟨(some 46), none, .iaddr 3 (.s 43) (.s 45)⟩,
      ⟨(some 47), none, .faddr 2 (.s 46)⟩,
      ⟨none, none, .store 1 (.s 47) (.c (.t .nil))⟩] [[], [0], [], [2], [1, 3, 0, 1, 2, 3], [4, 0, 1, 2, 3], [5, 3, 0, 1, 2, 3]] [2, 5])
    (.skip)))
  (.seq (.reg [
    ⟨(some 48), none, .load (some 1) (.s 5)⟩,
    ⟨none, none, .store 1 (.s 2) (.s 48)⟩] [2])
  (.ret)))))))⟩
theorem t_spec_l5Db : tbl 140 = some M_spec_l5Db := tblOf_eq Try.func140 (by kernel_rfl) (by kernel_rfl)

/-- loop.example/g01921/spec.l23Any -/
def M_spec_l23Any : MFun := ⟨1, 67, [.cell 2 (some 2), .cell 3 (some 1)],
  .seq (.reg [
    ⟨(some 2), none, .alloc [(.t (.int .i64 0)), (.t .nil)]⟩,
    ⟨(some 3), none, .alloc [(.t .nil)]⟩] [0, 2, 3])
  (.seq (.reg [
    ⟨(some 6), none, .mov (.s 0)⟩,
    ⟨(some 7), none, .call 163 [(.s 6)]⟩,
    ⟨(some 4), none, .alloc [(.t (.int .i64 0)), (.t .nil)]⟩,
    ⟨none, none, .store 2 (.s 4) (.s 7)⟩] [0, 2, 3, 4])
  (.seq (.drw [
    ⟨(some 8), none, .mov (.s 0)⟩,
    ⟨(some 9), none, .load (some 2) (.s 4)⟩,
    ⟨(some 10), none, .load (some 2) (.s 4)⟩,
    ⟨(some 11), none, .call 54 [(.s 10)]⟩,
    ⟨(some 12), none, .call 164 [(.s 8), (.s 9), (.s 11)]⟩,
    ⟨(some 5), none, .alloc [(.t .nil)]⟩,
    ⟨none, none, .store 1 (.s 5) (.s 12)⟩] [[], [], [], [2], [0, 1, 3, 3], [], [5, 4, 4, 0, 1, 2, 3, 4, 5]] [0, 2, 3, 4, 5])
  (.seq (.seq (.reg [
    ⟨(some 13), none, .mov (.s 0)⟩,
    ⟨(some 14), none, .call 90 [(.s 13), (.c (.t (.int .i64 12)))]⟩] [0, 2, 3, 4, 5, 14])
  (.block 0 (.seq (.reg [
    ⟨(some 16), none, .bin .eql (.s 14) (.c (.t (.int .i64 0)))⟩,
    ⟨(some 15), none, .mov (.s 16)⟩] [0, 2, 3, 4, 5, 14, 15])
  (.cond (.s 15)
    (.reg [
      ⟨(some 17), none, .faddr 0 (.s 5)⟩,
      ⟨(some 18), none, .load none (.s 17)⟩,
      ⟨(some 19), none, .faddr 0 (.s 5)⟩,
      ⟨(some 20), none, .load none (.s 19)⟩,
      ⟨(some 21), none, .len false (.s 20)⟩,
      ⟨(some 22), none, .bin .sub (.s 21) (.c (.t (.int .i64 1)))⟩,
      ⟨(some 23), none, .slice (some 3) (.s 18) none (some (.s 22))⟩,
      ⟨(some 24), none, .faddr 0 (.s 5)⟩,
      ⟨none, none, .store 1 (.s 24) (.s 23)⟩] [2, 3, 4, 5])
    (.seq (.reg [
      ⟨(some 26), none, .bin .eql (.s 14) (.c (.t (.int .i64 1)))⟩,
      ⟨(some 25), none, .mov (.s 26)⟩] [0, 2, 3, 4, 5, 14, 25])
    (.cond (.s 25)
      (.drw [
        ⟨(some 27), none, .faddr 0 (.s 5)⟩,
        ⟨(some 28), none, .load none (.s 27)⟩,
        ⟨(some 29), none, .mov (.s 0)⟩,
        ⟨(some 30), none, .faddr 0 (.s 5)⟩,
        ⟨(some 31), none, .load none (.s 30)⟩,
        ⟨(some 32), none, .len false (.s 31)⟩,
        ⟨(some 33), none, .call 90 [(.s 29), (.s 32)]⟩,
        ⟨(some 34), none, .mov (.s 0)⟩,
        ⟨(some 35), none, .call 90 [(.s 34), (.c (.t (.int .i64 7)))]⟩,
        ⟨(some 36), none, .iaddr 3 (.s 28) (.s 33)⟩,
        ⟨(some 37), none, .faddr 0 (.s 36)⟩,
        ⟨none, none, .store 1 (.s 37) (.s 35)⟩] [[], [0], [], [], [3], [4], [2, 5], [], [7, 6], [1, 6, 0, 1, 2, 3, 4, 5, 6, 7, 8], [9, 0, 1, 2, 3, 4, 5, 6, 7, 8], [10, 8, 8, 0, 1, 2, 3, 4, 5, 6, 7, 8]] [2, 3, 4, 5])
      (.seq (.reg [
        ⟨(some 39), none, .bin .eql (.s 14) (.c (.t (.int .i64 2)))⟩,
        ⟨(some 38), none, .mov (.s 39)⟩] [0, 2, 3, 4, 5, 14, 38])
      (.cond (.s 38)
        (.drw [
          ⟨(some 40), none, .faddr 0 (.s 5)⟩,
          ⟨(some 41), none, .load none (.s 40)⟩,
          ⟨(some 42), none, .mov (.s 0)⟩,
          ⟨(some 43), none, .faddr 0 (.s 5)⟩,
          ⟨(some 44), none, .load none (.s 43)⟩,
          ⟨(some 45), none, .len false (.s 44)⟩,
          ⟨(some 46), none, .call 90 [(.s 42), (.s 45)]⟩,
          ⟨(some 47), none, .mov (.s 0)⟩,
          ⟨(some 48), none, .call 90 [(.s 47), (.c (.t (.int .i64 5)))]⟩,
          ⟨(some 49), none, .bin .sub (.s 48) (.c (.t (.int .i64 1)))⟩,
          ⟨(some 50), none, .iaddr 3 (.s 41) (.s 46)⟩,
          ⟨(some 51), none, .faddr 2 (.s 50)⟩,
          ⟨none, none, .store 1 (.s 51) (.s 49)⟩] [[], [0], [], [], [3], [4], [2, 5], [], [7, 6], [8], [1, 6, 0, 1, 2, 3, 4, 5, 6, 7, 8, 9], [10, 0, 1, 2, 3, 4, 5, 6, 7, 8, 9], [11, 9, 8, 0, 1, 2, 3, 4, 5, 6, 7, 8, 9]] [2, 3, 4, 5])
        (.seq (.reg [
          ⟨(some 53), none, .bin .eql (.s 14) (.c (.t (.int .i64 3)))⟩,
          ⟨(some 52), none, .mov (.s 53)⟩] [0, 2, 3, 4, 5, 14, 52])
        (.cond (.s 52)
          (.drw [
            ⟨(some 54), none, .faddr 0 (.s 5)⟩,
            ⟨(some 55), none, .load none (.s 54)⟩,
            ⟨(some 56), none, .mov (.s 0)⟩,
            ⟨(some 57), none, .bslice 3 1 3 [(.int .i64 0)] [(0, (.c (.t (.int .i64 (-1))))), (1, (.c (.t (.int .i64 4)))), (2, (.c (.t (.int .i64 1))))]⟩,
            ⟨(some 58), none, .call 91 [(.s 56), (.s 57)]⟩,
            ⟨(some 59), none, .iaddr 3 (.s 55) (.c (.t (.int .i64 0)))⟩,
            ⟨(some 60), none, .faddr 1 (.s 59)⟩,
            ⟨none, none, .store 1 (.s 60) (.s 58)⟩] [[], [0], [], [], [2, 3], [1, 0, 1, 2, 3, 4], [5, 0, 1, 2, 3, 4], [6, 4, 4, 0, 1, 2, 3, 4]] [2, 3, 4, 5])
          (.seq (.reg [
            ⟨(some 62), none, .bin .eql (.s 14) (.c (.t (.int .i64 4)))⟩,
            ⟨(some 61), none, .mov (.s 62)⟩] [0, 2, 3, 4, 5, 61])
          (.cond (.s 61)
            (.reg [
              ⟨(some 63), none, .mov (.s 0)⟩,
              ⟨(some 64), none, .call 165 [(.s 63)]⟩,
              ⟨none, none, .store 2 (.s 4) (.s 64)⟩] [2, 3, 4, 5])
            (.skip)))))))))))))
  (.seq (.drw [
    ⟨(some 65), none, .load (some 2) (.s 4)⟩,
    ⟨(some 66), none, .load (some 1) (.s 5)⟩,
    ⟨none, none, .store 2 (.s 2) (.s 65)⟩,
    ⟨none, none, .store 1 (.s 3) (.s 66)⟩] [[], [], [0, 0], [1, 2, 0, 1, 2]] [2, 3])
  (.ret)))))⟩
theorem t_spec_l23Any : tbl 141 = some M_spec_l23Any := tblOf_eq Try.func141 (by kernel_rfl) (by kernel_rfl)

/-- loop.example/g01921/spec.l8Mask -/
def M_spec_l8Mask : MFun := ⟨2, 17, [.tmp 4],
  .seq (.reg [
    ⟨(some 3), none, .box (.s 1)⟩,
    ⟨(some 4), none, .mov (.c (.t (.int .i64 0)))⟩] [0, 3])
  (.seq (.seq (.reg [
    ⟨(some 5), none, .mov (.s 0)⟩,
    ⟨(some 6), none, .call 130 [(.s 5), (.c (.t (.int .i64 10)))]⟩] [0, 3, 6])
  (.cond (.s 6)
    (.seq (.reg [
      ⟨(some 7), none, .mov (.s 0)⟩,
      ⟨(some 8), none, .bslice 3 1 4 [(.int .i64 0)] [(0, (.c (.t (.int .i64 (-1))))), (1, (.c (.t (.int .i64 0)))), (2, (.c (.t (.int .i64 16)))), (3, (.c (.t (.int .i64 9223372036854775807))))]⟩,
      ⟨(some 9), none, .call 91 [(.s 7), (.s 8)]⟩,
      ⟨(some 4), none, .mov (.s 9)⟩] [4])
    (.ret))
    (.skip)))
  (.seq (.reg [
    ⟨(some 10), none, .mov (.s 0)⟩,
    ⟨(some 11), none, .faddr 1 (.s 3)⟩,
    ⟨(some 12), none, .load none (.s 11)⟩,
    ⟨(some 13), none, .len false (.s 12)⟩,
    ⟨(some 14), none, .mm false (.c (.t (.int .i64 4))) (.s 13)⟩,
    ⟨(some 15), none, .bin .shl (.c (.t (.int .i64 1))) (.s 14)⟩,
    ⟨(some 16), none, .call 90 [(.s 10), (.s 15)]⟩,
    ⟨(some 4), none, .mov (.s 16)⟩] [4])
  (.ret)))⟩
theorem t_spec_l8Mask : tbl 142 = some M_spec_l8Mask := tblOf_eq Try.func142 (by kernel_rfl) (by kernel_rfl)

/-- loop.example/g01921/spec.SubquerySize -/
def M_spec_SubquerySize : MFun := ⟨3, 21, [.tmp 6],
  .seq (.reg [
    ⟨(some 3), none, .box (.s 0)⟩,
    ⟨(some 4), none, .box (.s 1)⟩,
    ⟨(some 6), none, .mov (.c (.t (.int .i64 0)))⟩] [2, 3, 4])
  (.seq (.reg [
    ⟨(some 10), none, .load (some 1) (.s 3)⟩,
    ⟨(some 11), none, .load (some 2) (.s 4)⟩,
    ⟨(some 12), none, .mov (.s 2)⟩,
    ⟨(some 13), none, .call 166 [(.s 10), (.s 11), (.s 12)]⟩,
    ⟨(some 9), none, .mov (.s 13)⟩,
    ⟨(some 14), none, .ext (.s 9) 0⟩,
    ⟨(some 15), none, .ext (.s 9) 1⟩,
    ⟨(some 7), none, .alloc [(.t .nil), (.t .nil)]⟩,
    ⟨none, none, .store 2 (.s 7) (.s 14)⟩,
    ⟨(some 8), none, .mov (.s 15)⟩] [7, 8])
  (.seq (.seq (.reg [
    ⟨(some 16), none, .mov (.s 8)⟩,
    ⟨(some 17), none, .un .not (.s 16)⟩] [7, 17])
  (.cond (.s 17)
    (.seq (.reg [
      ⟨(some 6), none, .mov (.c (.t (.int .i64 (-1))))⟩] [6])
    (.ret))
    (.skip)))
  (.seq (.reg [
    ⟨(some 18), none, .faddr 1 (.s 7)⟩,
    ⟨(some 19), none, .load none (.s 18)⟩,
    ⟨(some 20), none, .len false (.s 19)⟩,
    ⟨(some 6), none, .mov (.s 20)⟩] [6])
  (.ret))))⟩
theorem t_spec_SubquerySize : tbl 143 = some M_spec_SubquerySize := tblOf_eq Try.func143 (by kernel_rfl) (by kernel_rfl)

/-- loop.example/g01921/spec.KeepResult -/
def B_spec_KeepResult_0 : MCode :=
  .seq (.seq (.reg [
    ⟨(some 9), none, .mov (.s 7)⟩,
    ⟨(some 10), none, .mov (.s 0)⟩,
    ⟨(some 11), none, .len false (.s 10)⟩,
    ⟨(some 12), none, .bin .lss (.s 9) (.s 11)⟩] [0, 3, 5, 6, 7, 12])
  (.cond (.s 12)
    (.skip)
    (.exit 0)))
  (.seq (.block 1 (.seq (.seq (.drw [
    ⟨(some 15), none, .mov (.s 6)⟩,
    ⟨(some 16), none, .un .not (.s 15)⟩,
    ⟨(some 17), none, .mov (.s 16)⟩,
    ⟨(some 18), (some (17, true)), .mov (.s 0)⟩,
    ⟨(some 19), (some (17, true)), .mov (.s 7)⟩,
    ⟨(some 20), (some (17, true)), .iaddr 2 (.s 18) (.s 19)⟩,
    ⟨(some 21), (some (17, true)), .faddr 0 (.s 20)⟩,
    ⟨(some 22), (some (17, true)), .load none (.s 21)⟩,
    ⟨(some 23), (some (17, true)), .faddr 0 (.s 3)⟩,
    ⟨(some 24), (some (17, true)), .load none (.s 23)⟩,
    ⟨(some 25), (some (17, true)), .bin .geq (.s 22) (.s 24)⟩,
    ⟨(some 26), none, .pick (.s 17) (.s 25) (.c (.t (.bool false)))⟩] [[], [0], [1], [2], [2], [3, 4, 2], [5, 2], [6, 2], [2], [8, 2], [7, 9, 2], [2, 10]] [0, 3, 5, 6, 7, 26])
  (.cond (.s 26)
    (.seq (.reg [
      ⟨(some 27), none, .mov (.s 5)⟩,
      ⟨(some 28), none, .load (some 2) (.s 3)⟩,
      ⟨(some 29), none, .bslice 98 2 1 [(.int .i64 0), (.int .i64 0)] [(0, (.s 28))]⟩,
      ⟨(some 30), none, .append 98 2 16 true (.s 27) (.s 29)⟩,
      ⟨(some 5), none, .mov (.s 30)⟩] [0, 3, 5, 7])
    (.reg [
      ⟨(some 6), none, .mov (.c (.t (.bool true)))⟩] [0, 3, 5, 6, 7]))
    (.skip)))
  (.seq (.drw [
    ⟨(some 31), none, .mov (.s 0)⟩,
    ⟨(some 32), none, .mov (.s 7)⟩,
    ⟨(some 33), none, .iaddr 2 (.s 31) (.s 32)⟩,
    ⟨(some 34), none, .faddr 0 (.s 33)⟩,
    ⟨(some 35), none, .load none (.s 34)⟩,
    ⟨(some 36), none, .faddr 0 (.s 3)⟩,
    ⟨(some 37), none, .load none (.s 36)⟩,
    ⟨(some 38), none, .bin .neq (.s 35) (.s 37)⟩] [[], [], [0, 1], [2], [3], [], [5], [4, 6]] [0, 3, 5, 6, 7, 38])
  (.cond (.s 38)
    (.reg [
      ⟨(some 39), none, .mov (.s 5)⟩,
      ⟨(some 40), none, .mov (.s 0)⟩,
      ⟨(some 41), none, .mov (.s 7)⟩,
      ⟨(some 42), none, .iaddr 2 (.s 40) (.s 41)⟩,
      ⟨(some 43), none, .load (some 2) (.s 42)⟩,
      ⟨(some 44), none, .bslice 98 2 1 [(.int .i64 0), (.int .i64 0)] [(0, (.s 43))]⟩,
      ⟨(some 45), none, .append 98 2 16 true (.s 39) (.s 44)⟩,
      ⟨(some 5), none, .mov (.s 45)⟩] [0, 3, 5, 6, 7])
    (.skip)))))
  (.reg [
    ⟨(some 13), none, .mov (.s 7)⟩,
    ⟨(some 14), none, .bin .add (.s 13) (.c (.t (.int .i64 1)))⟩,
    ⟨(some 7), none, .mov (.s 14)⟩] [0, 3, 5, 6, 7]))

def M_spec_KeepResult : MFun := ⟨2, 53, [.tmp 4],
  .seq (.reg [
    ⟨(some 3), none, .box (.s 1)⟩,
    ⟨(some 4), none, .mov (.c (.t .nil))⟩] [0, 3])
  (.seq (.reg [
    ⟨(some 8), none, .bslice 98 2 0 [(.int .i64 0), (.int .i64 0)] []⟩,
    ⟨(some 5), none, .mov (.s 8)⟩] [0, 3, 5])
  (.seq (.reg [
    ⟨(some 6), none, .mov (.c (.t (.bool false)))⟩] [0, 3, 5, 6])
  (.seq (.seq (.reg [
    ⟨(some 7), none, .mov (.c (.t (.int .i64 0)))⟩] [0, 3, 5, 6, 7])
  (.block 0 (.loop [0, 3, 5, 6, 7] B_spec_KeepResult_0)))
  (.seq (.seq (.reg [
    ⟨(some 46), none, .mov (.s 6)⟩,
    ⟨(some 47), none, .un .not (.s 46)⟩] [3, 5, 47])
  (.cond (.s 47)
    (.reg [
      ⟨(some 48), none, .mov (.s 5)⟩,
      ⟨(some 49), none, .load (some 2) (.s 3)⟩,
      ⟨(some 50), none, .bslice 98 2 1 [(.int .i64 0), (.int .i64 0)] [(0, (.s 49))]⟩,
      ⟨(some 51), none, .append 98 2 16 true (.s 48) (.s 50)⟩,
      ⟨(some 5), none, .mov (.s 51)⟩] [5])
    (.skip)))
  (.seq (.reg [
    ⟨(some 52), none, .mov (.s 5)⟩,
    ⟨(some 4), none, .mov (.s 52)⟩] [4])
  (.ret))))))⟩
theorem t_spec_KeepResult : tbl 144 = some M_spec_KeepResult := tblOf_eq Try.func144 (by kernel_rfl) (by kernel_rfl)

/-- loop.example/g01921/spec.l4Name -/
def M_spec_l4Name : MFun := ⟨1, 16, [.tmp 2],
  .seq (.reg [
    ⟨(some 2), none, .mov (.c (.t (.bool false)))⟩] [0])
  (.seq (.reg [
    ⟨(some 3), none, .mov (.s 0)⟩,
    ⟨(some 4), none, .len true (.s 3)⟩,
    ⟨(some 5), none, .bin .eql (.s 4) (.c (.t (.int .i64 1)))⟩,
    ⟨(some 6), none, .mov (.s 5)⟩,
    ⟨(some 7), (some (6, true)), .mov (.s 0)⟩,
    ⟨(some 8), (some (6, true)), .index (.s 7) (.c (.t (.int .i64 0)))⟩,
    ⟨(some 9), (some (6, true)), .bin .geq (.s 8) (.c (.t (.int .u8 97)))⟩,
    ⟨(some 10), none, .pick (.s 6) (.s 9) (.c (.t (.bool false)))⟩,
    ⟨(some 11), none, .mov (.s 10)⟩,
    ⟨(some 12), (some (11, true)), .mov (.s 0)⟩,
    ⟨(some 13), (some (11, true)), .index (.s 12) (.c (.t (.int .i64 0)))⟩,
    ⟨(some 14), (some (11, true)), .bin .leq (.s 13) (.c (.t (.int .u8 122)))⟩,
    ⟨(some 15), none, .pick (.s 11) (.s 14) (.c (.t (.bool false)))⟩,
    ⟨(some 2), none, .mov (.s 15)⟩] [2])
  (.ret))⟩
theorem t_spec_l4Name : tbl 145 = some M_spec_l4Name := tblOf_eq Try.func145 (by kernel_rfl) (by kernel_rfl)

/-- loop.example/g01921/spec.l23In -/
def M_spec_l23In : MFun := ⟨2, 14, [.tmp 4],
  .seq (.reg [
    ⟨(some 4), none, .mov (.c (.t (.bool false)))⟩] [0, 1])
  (.seq (.reg [
    ⟨(some 5), none, .mov (.s 1)⟩,
    ⟨(some 6), none, .call 70 [(.s 5), (.c (.t (.int .i64 0))), (.c (.t (.int .i64 3)))]⟩,
    ⟨(some 7), none, .mov (.s 6)⟩,
    ⟨(some 8), (some (7, true)), .mov (.s 0)⟩,
    ⟨(some 9), (some (7, true)), .mov (.s 1)⟩,
    ⟨(some 10), (some (7, true)), .bin .shr (.s 8) (.s 9)⟩,
    ⟨(some 11), (some (7, true)), .bin .and (.s 10) (.c (.t (.int .i64 1)))⟩,
    ⟨(some 12), (some (7, true)), .bin .eql (.s 11) (.c (.t (.int .i64 1)))⟩,
    ⟨(some 13), none, .pick (.s 7) (.s 12) (.c (.t (.bool false)))⟩,
    ⟨(some 4), none, .mov (.s 13)⟩] [4])
  (.ret))⟩
theorem t_spec_l23In : tbl 146 = some M_spec_l23In := tblOf_eq Try.func146 (by kernel_rfl) (by kernel_rfl)

/-- loop.example/g01921/spec.l7Bits -/
def B_spec_l7Bits_0 : MCode :=
  .seq (.seq (.reg [
    ⟨(some 15), none, .mov (.s 7)⟩,
    ⟨(some 16), none, .faddr 1 (.s 2)⟩,
    ⟨(some 17), none, .load none (.s 16)⟩,
    ⟨(some 18), none, .mov (.s 6)⟩,
    ⟨(some 19), none, .iaddr 2 (.s 17) (.s 18)⟩,
    ⟨(some 20), none, .faddr 1 (.s 19)⟩,
    ⟨(some 21), none, .load none (.s 20)⟩,
    ⟨(some 22), none, .len false (.s 21)⟩,
    ⟨(some 23), none, .bin .lss (.s 15) (.s 22)⟩,
    ⟨(some 24), none, .mov (.s 23)⟩,
    ⟨(some 25), (some (24, true)), .mov (.s 1)⟩,
    ⟨(some 26), (some (24, true)), .mov (.s 6)⟩,
    ⟨(some 27), (some (24, true)), .bin .shr (.s 25) (.s 26)⟩,
    ⟨(some 28), (some (24, true)), .bin .and (.s 27) (.c (.t (.int .i64 1)))⟩,
    ⟨(some 29), (some (24, true)), .bin .eql (.s 28) (.c (.t (.int .i64 1)))⟩,
    ⟨(some 30), none, .pick (.s 24) (.s 29) (.c (.t (.bool false)))⟩] [1, 2, 5, 6, 7, 30])
  (.cond (.s 30)
    (.skip)
    (.exit 2)))
  (.seq (.block 3 (.reg [
    ⟨(some 33), none, .mov (.s 5)⟩,
    ⟨(some 34), none, .faddr 1 (.s 2)⟩,
    ⟨(some 35), none, .load none (.s 34)⟩,
    ⟨(some 36), none, .mov (.s 6)⟩,
    ⟨(some 37), none, .iaddr 2 (.s 35) (.s 36)⟩,
    ⟨(some 38), none, .faddr 1 (.s 37)⟩,
    ⟨(some 39), none, .load none (.s 38)⟩,
    ⟨(some 40), none, .mov (.s 7)⟩,
    ⟨(some 41), none, .iaddr 1 (.s 39) (.s 40)⟩,
    ⟨(some 42), none, .load none (.s 41)⟩,
    ⟨(some 43), none, .bin .shl (.c (.t (.int .i64 1))) (.s 42)⟩,
    ⟨(some 44), none, .bin .or (.s 33) (.s 43)⟩,
    ⟨(some 5), none, .mov (.s 44)⟩] [1, 2, 5, 6, 7]))
  (.reg [
    ⟨(some 31), none, .mov (.s 7)⟩,
    ⟨(some 32), none, .bin .add (.s 31) (.c (.t (.int .i64 1)))⟩,
    ⟨(some 7), none, .mov (.s 32)⟩] [1, 2, 5, 6, 7]))

def B_spec_l7Bits_1 : MCode :=
  .seq (.seq (.reg [
    ⟨(some 8), none, .mov (.s 6)⟩,
    ⟨(some 9), none, .faddr 1 (.s 2)⟩,
    ⟨(some 10), none, .load none (.s 9)⟩,
    ⟨(some 11), none, .len false (.s 10)⟩,
    ⟨(some 12), none, .bin .lss (.s 8) (.s 11)⟩] [1, 2, 5, 6, 12])
  (.cond (.s 12)
    (.skip)
    (.exit 0)))
  (.seq (.block 1 (.seq (.reg [
    ⟨(some 7), none, .mov (.c (.t (.int .i64 0)))⟩] [1, 2, 5, 6, 7])
  (.block 2 (.loop [1, 2, 5, 6, 7] B_spec_l7Bits_0))))
  (.reg [
    ⟨(some 13), none, .mov (.s 6)⟩,
    ⟨(some 14), none, .bin .add (.s 13) (.c (.t (.int .i64 1)))⟩,
    ⟨(some 6), none, .mov (.s 14)⟩] [1, 2, 5, 6]))

def M_spec_l7Bits : MFun := ⟨2, 46, [.tmp 4],
  .seq (.reg [
    ⟨(some 2), none, .box (.s 0)⟩,
    ⟨(some 4), none, .mov (.c (.t (.int .i64 0)))⟩] [1, 2])
  (.seq (.reg [
    ⟨(some 5), none, .mov (.c (.t (.int .i64 0)))⟩] [1, 2, 5])
  (.seq (.seq (.reg [
    ⟨(some 6), none, .mov (.c (.t (.int .i64 0)))⟩] [1, 2, 5, 6])
  (.block 0 (.loop [1, 2, 5, 6] B_spec_l7Bits_1)))
  (.seq (.reg [
    ⟨(some 45), none, .mov (.s 5)⟩,
    ⟨(some 4), none, .mov (.s 45)⟩] [4])
  (.ret))))⟩
theorem t_spec_l7Bits : tbl 147 = some M_spec_l7Bits := tblOf_eq Try.func147 (by kernel_rfl) (by kernel_rfl)

/-- loop.example/g01921/impl.variables -/
def B_impl_variables_0 : MCode :=
  .seq (.reg [
    ⟨(some 20), none, .bin .lss (.s 19) (.s 18)⟩] [1, 2, 5, 6, 17, 18, 19, 20])
  (.seq (.cond (.s 20)
    (.skip)
    (.exit 2))
  (.seq (.block 3 (.seq (.reg [
    ⟨(some 21), none, .mov (.s 19)⟩,
    ⟨(some 22), none, .iaddr 2 (.s 17) (.s 19)⟩,
    ⟨(some 23), none, .load (some 2) (.s 22)⟩,
    ⟨(some 8), none, .alloc [(.t (.str ⟨#[]⟩)), (.t .nil)]⟩,
    ⟨(some 7), none, .mov (.s 21)⟩,
    ⟨none, none, .store 2 (.s 8) (.s 23)⟩] [1, 2, 5, 6, 7, 8, 17, 18, 19])
  (.seq (.reg [
    ⟨(some 24), none, .mov (.s 1)⟩,
    ⟨(some 25), none, .mov (.s 7)⟩,
    ⟨(some 26), none, .bin .shr (.s 24) (.s 25)⟩,
    ⟨(some 27), none, .bin .and (.s 26) (.c (.t (.int .i64 1)))⟩,
    ⟨(some 28), none, .bin .eql (.s 27) (.c (.t (.int .i64 1)))⟩,
    ⟨(some 29), none, .mov (.s 28)⟩,
    ⟨(some 30), (some (29, true)), .faddr 1 (.s 8)⟩,
    ⟨(some 31), (some (29, true)), .load none (.s 30)⟩,
    ⟨(some 32), (some (29, true)), .mov (.s 6)⟩,
    ⟨(some 33), (some (29, true)), .call 121 [(.s 31), (.s 32)]⟩,
    ⟨(some 34), none, .pick (.s 29) (.s 33) (.c (.t (.bool false)))⟩] [1, 2, 5, 6, 17, 18, 19, 34])
  (.cond (.s 34)
    (.seq (.reg [
      ⟨(some 35), none, .mov (.s 5)⟩,
      ⟨(some 36), none, .mov (.s 6)⟩,
      ⟨(some 37), none, .bslice 3 1 1 [(.int .i64 0)] [(0, (.s 36))]⟩,
      ⟨(some 38), none, .append 3 1 8 true (.s 35) (.s 37)⟩,
      ⟨(some 5), none, .mov (.s 38)⟩] [1, 2, 5, 6])
    (.exit 2))
    (.skip)))))
  (.reg [
    ⟨(some 39), none, .bin .add (.s 19) (.c (.t (.int .i64 1)))⟩,
    ⟨(some 19), none, .mov (.s 39)⟩] [1, 2, 5, 6, 17, 18, 19])))

def B_impl_variables_1 : MCode :=
  .seq (.seq (.reg [
    ⟨(some 10), none, .mov (.s 6)⟩,
    ⟨(some 11), none, .faddr 0 (.s 2)⟩,
    ⟨(some 12), none, .load none (.s 11)⟩,
    ⟨(some 13), none, .bin .lss (.s 10) (.s 12)⟩] [1, 2, 5, 6, 13])
  (.cond (.s 13)
    (.skip)
    (.exit 0)))
  (.seq (.block 1 (.seq (.reg [
    ⟨(some 16), none, .faddr 1 (.s 2)⟩,
    ⟨(some 17), none, .load none (.s 16)⟩,
    ⟨(some 18), none, .len false (.s 17)⟩,
    ⟨(some 19), none, .mov (.c (.t (.int .i64 0)))⟩] [1, 2, 5, 6, 17, 18, 19])
  (.block 2 (.loop [1, 2, 5, 6, 17, 18, 19] B_impl_variables_0))))
  (.reg [
    ⟨(some 14), none, .mov (.s 6)⟩,
    ⟨(some 15), none, .bin .add (.s 14) (.c (.t (.int .i64 1)))⟩,
    ⟨(some 6), none, .mov (.s 15)⟩] [1, 2, 5, 6]))

def M_impl_variables : MFun := ⟨2, 41, [.tmp 4],
  .seq (.reg [
    ⟨(some 2), none, .box (.s 0)⟩,
    ⟨(some 4), none, .mov (.c (.t .nil))⟩] [1, 2])
  (.seq (.reg [
    ⟨(some 9), none, .bslice 3 1 0 [(.int .i64 0)] []⟩,
    ⟨(some 5), none, .mov (.s 9)⟩] [1, 2, 5])
  (.seq (.seq (.reg [
    ⟨(some 6), none, .mov (.c (.t (.int .i64 0)))⟩] [1, 2, 5, 6])
  (.block 0 (.loop [1, 2, 5, 6] B_impl_variables_1)))
  (.seq (.reg [
    ⟨(some 40), none, .mov (.s 5)⟩,
    ⟨(some 4), none, .mov (.s 40)⟩] [4])
  (.ret))))⟩
theorem t_impl_variables : tbl 148 = some M_impl_variables := tblOf_eq Try.func148 (by kernel_rfl) (by kernel_rfl)

/-- loop.example/g01921/impl.both -/
def B_impl_both_0 : MCode :=
  .seq (.reg [
    ⟨(some 12), none, .bin .lss (.s 11) (.s 10)⟩] [1, 5, 9, 10, 11, 12])
  (.seq (.cond (.s 12)
    (.skip)
    (.exit 0))
  (.seq (.block 1 (.seq (.reg [
    ⟨(some 13), none, .iaddr 1 (.s 9) (.s 11)⟩,
    ⟨(some 14), none, .load none (.s 13)⟩,
    ⟨(some 7), none, .mov (.s 14)⟩] [1, 5, 7, 9, 10, 11])
  (.seq (.reg [
    ⟨(some 15), none, .mov (.s 1)⟩,
    ⟨(some 16), none, .mov (.s 7)⟩,
    ⟨(some 17), none, .call 121 [(.s 15), (.s 16)]⟩] [1, 5, 7, 9, 10, 11, 17])
  (.cond (.s 17)
    (.reg [
      ⟨(some 18), none, .mov (.s 5)⟩,
      ⟨(some 19), none, .mov (.s 7)⟩,
      ⟨(some 20), none, .bslice 3 1 1 [(.int .i64 0)] [(0, (.s 19))]⟩,
      ⟨(some 21), none, .append 3 1 8 true (.s 18) (.s 20)⟩,
      ⟨(some 5), none, .mov (.s 21)⟩] [1, 5, 9, 10, 11])
    (.skip)))))
  (.reg [
    ⟨(some 22), none, .bin .add (.s 11) (.c (.t (.int .i64 1)))⟩,
    ⟨(some 11), none, .mov (.s 22)⟩] [1, 5, 9, 10, 11])))

def M_impl_both : MFun := ⟨2, 24, [.tmp 4],
  .seq (.reg [
    ⟨(some 4), none, .mov (.c (.t .nil))⟩] [0, 1])
  (.seq (.reg [
    ⟨(some 8), none, .bslice 3 1 0 [(.int .i64 0)] []⟩,
    ⟨(some 5), none, .mov (.s 8)⟩] [0, 1, 5])
  (.seq (.seq (.reg [
    ⟨(some 9), none, .mov (.s 0)⟩,
    ⟨(some 10), none, .len false (.s 9)⟩,
    ⟨(some 11), none, .mov (.c (.t (.int .i64 0)))⟩] [1, 5, 9, 10, 11])
  (.block 0 (.loop [1, 5, 9, 10, 11] B_impl_both_0)))
  (.seq (.reg [
    ⟨(some 23), none, .mov (.s 5)⟩,
    ⟨(some 4), none, .mov (.s 23)⟩] [4])
  (.ret))))⟩
theorem t_impl_both : tbl 149 = some M_impl_both := tblOf_eq Try.func149 (by kernel_rfl) (by kernel_rfl)

/-- loop.example/g01921/impl.IsLocation -/
def B_impl_IsLocation_0 : MCode :=
  .seq (.reg [
    ⟨(some 8), none, .bin .lss (.s 7) (.s 6)⟩] [0, 5, 6, 7, 8])
  (.seq (.cond (.s 8)
    (.skip)
    (.exit 0))
  (.seq (.block 1 (.seq (.reg [
    ⟨(some 9), none, .iaddr 1 (.s 5) (.s 7)⟩,
    ⟨(some 10), none, .load none (.s 9)⟩,
    ⟨(some 4), none, .mov (.s 10)⟩] [0, 4, 5, 6, 7])
  (.seq (.reg [
    ⟨(some 11), none, .mov (.s 4)⟩,
    ⟨(some 12), none, .call 74 [(.s 11), (.c (.t (.int .i64 0))), (.c (.t (.int .i64 7)))]⟩,
    ⟨(some 13), none, .un .not (.s 12)⟩] [0, 5, 6, 7, 13])
  (.cond (.s 13)
    (.seq (.reg [
      ⟨(some 2), none, .mov (.c (.t (.bool false)))⟩] [2])
    (.ret))
    (.skip)))))
  (.reg [
    ⟨(some 14), none, .bin .add (.s 7) (.c (.t (.int .i64 1)))⟩,
    ⟨(some 7), none, .mov (.s 14)⟩] [0, 5, 6, 7])))

def M_impl_IsLocation : MFun := ⟨1, 18, [.tmp 2],
  .seq (.reg [
    ⟨(some 2), none, .mov (.c (.t (.bool false)))⟩] [0])
  (.seq (.seq (.reg [
    ⟨(some 5), none, .mov (.s 0)⟩,
    ⟨(some 6), none, .len false (.s 5)⟩,
    ⟨(some 7), none, .mov (.c (.t (.int .i64 0)))⟩] [0, 5, 6, 7])
  (.block 0 (.loop [0, 5, 6, 7] B_impl_IsLocation_0)))
  (.seq (.reg [
    ⟨(some 15), none, .mov (.s 0)⟩,
    ⟨(some 16), none, .len false (.s 15)⟩,
    ⟨(some 17), none, .bin .leq (.s 16) (.c (.t (.int .i64 16)))⟩,
    ⟨(some 2), none, .mov (.s 17)⟩] [2])
  (.ret)))⟩
theorem t_impl_IsLocation : tbl 150 = some M_impl_IsLocation := tblOf_eq Try.func150 (by kernel_rfl) (by kernel_rfl)

/-- loop.example/g01921/impl.DominatesLocation -/
def B_impl_DominatesLocation_0 : MCode :=
  .seq (.reg [
    ⟨(some 14), none, .bin .lss (.s 13) (.s 12)⟩] [0, 1, 12, 13, 14])
  (.seq (.cond (.s 14)
    (.skip)
    (.exit 0))
  (.seq (.block 1 (.seq (.reg [
    ⟨(some 15), none, .mov (.s 13)⟩,
    ⟨(some 5), none, .mov (.s 15)⟩] [0, 1, 5, 12, 13])
  (.seq (.drw [
    ⟨(some 16), none, .mov (.s 0)⟩,
    ⟨(some 17), none, .mov (.s 5)⟩,
    ⟨(some 18), none, .iaddr 1 (.s 16) (.s 17)⟩,
    ⟨(some 19), none, .load none (.s 18)⟩,
    ⟨(some 20), none, .mov (.s 1)⟩,
    ⟨(some 21), none, .mov (.s 5)⟩,
    ⟨(some 22), none, .iaddr 1 (.s 20) (.s 21)⟩,
    ⟨(some 23), none, .load none (.s 22)⟩,
    ⟨(some 24), none, .bin .lss (.s 19) (.s 23)⟩] [[], [], [0, 1], [2], [], [], [4, 5], [6], [3, 7]] [0, 1, 12, 13, 24])
  (.cond (.s 24)
    (.seq (.reg [
      ⟨(some 4), none, .mov (.c (.t (.bool false)))⟩] [4])
    (.ret))
    (.skip)))))
  (.reg [
    ⟨(some 25), none, .bin .add (.s 13) (.c (.t (.int .i64 1)))⟩,
    ⟨(some 13), none, .mov (.s 25)⟩] [0, 1, 12, 13])))

def M_impl_DominatesLocation : MFun := ⟨2, 26, [.tmp 4],
  .seq (.reg [
    ⟨(some 4), none, .mov (.c (.t (.bool false)))⟩] [0, 1])
  (.seq (.seq (.reg [
    ⟨(some 6), none, .mov (.s 0)⟩,
    ⟨(some 7), none, .len false (.s 6)⟩,
    ⟨(some 8), none, .mov (.s 1)⟩,
    ⟨(some 9), none, .len false (.s 8)⟩,
    ⟨(some 10), none, .bin .neq (.s 7) (.s 9)⟩] [0, 1, 10])
  (.cond (.s 10)
    (.seq (.reg [
      ⟨(some 4), none, .mov (.c (.t (.bool false)))⟩] [4])
    (.ret))
    (.skip)))
  (.seq (.seq (.reg [
    ⟨(some 11), none, .mov (.s 0)⟩,
    ⟨(some 12), none, .len false (.s 11)⟩,
    ⟨(some 13), none, .mov (.c (.t (.int .i64 0)))⟩] [0, 1, 12, 13])
  (.block 0 (.loop [0, 1, 12, 13] B_impl_DominatesLocation_0)))
  (.seq (.reg [
    ⟨(some 4), none, .mov (.c (.t (.bool true)))⟩] [4])
  (.ret))))⟩
theorem t_impl_DominatesLocation : tbl 151 = some M_impl_DominatesLocation := tblOf_eq Try.func151 (by kernel_rfl) (by kernel_rfl)

/-- slices.Index[[]bool,bool] -/
def B_slices_Index___bool_bool__0 : MCode :=
  .seq (.reg [
    ⟨(some 9), none, .bin .lss (.s 8) (.s 7)⟩] [0, 1, 7, 8, 9])
  (.seq (.cond (.s 9)
    (.skip)
    (.exit 0))
  (.seq (.block 1 (.seq (.reg [
    ⟨(some 10), none, .mov (.s 8)⟩,
    ⟨(some 5), none, .mov (.s 10)⟩] [0, 1, 5, 7, 8])
  (.seq (.reg [
    ⟨(some 11), none, .mov (.s 1)⟩,
    ⟨(some 12), none, .mov (.s 0)⟩,
    ⟨(some 13), none, .mov (.s 5)⟩,
    ⟨(some 14), none, .iaddr 1 (.s 12) (.s 13)⟩,
    ⟨(some 15), none, .load none (.s 14)⟩,
    ⟨(some 16), none, .beq false (.s 11) (.s 15)⟩] [0, 1, 5, 7, 8, 16])
  (.cond (.s 16)
    (.seq (.reg [
      ⟨(some 17), none, .mov (.s 5)⟩,
      ⟨(some 4), none, .mov (.s 17)⟩] [4])
    (.ret))
    (.skip)))))
  (.reg [
    ⟨(some 18), none, .bin .add (.s 8) (.c (.t (.int .i64 1)))⟩,
    ⟨(some 8), none, .mov (.s 18)⟩] [0, 1, 7, 8])))

def M_slices_Index___bool_bool_ : MFun := ⟨2, 19, [.tmp 4],
  .seq (.reg [
    ⟨(some 4), none, .mov (.c (.t (.int .i64 0)))⟩] [0, 1])
  (.seq (.seq (.reg [
    ⟨(some 6), none, .mov (.s 0)⟩,
    ⟨(some 7), none, .len false (.s 6)⟩,
    ⟨(some 8), none, .mov (.c (.t (.int .i64 0)))⟩] [0, 1, 7, 8])
  (.block 0 (.loop [0, 1, 7, 8] B_slices_Index___bool_bool__0)))
  (.seq (.reg [
    ⟨(some 4), none, .mov (.c (.t (.int .i64 (-1))))⟩] [4])
  (.ret)))⟩
theorem t_slices_Index___bool_bool_ : tbl 152 = some M_slices_Index___bool_bool_ := tblOf_eq Try.func152 (by kernel_rfl) (by kernel_rfl)

/-- loop.example/g01921/impl.volume -/
def B_impl_volume_0 : MCode :=
  .seq (.reg [
    ⟨(some 9), none, .bin .lss (.s 8) (.s 7)⟩] [1, 3, 7, 8, 9])
  (.seq (.cond (.s 9)
    (.skip)
    (.exit 0))
  (.seq (.block 1 (.seq (.reg [
    ⟨(some 10), none, .mov (.s 8)⟩,
    ⟨(some 4), none, .mov (.s 10)⟩] [1, 3, 4, 7, 8])
  (.drw [
    ⟨(some 11), none, .mov (.s 3)⟩,
    ⟨(some 12), none, .faddr 1 (.s 1)⟩,
    ⟨(some 13), none, .load none (.s 12)⟩,
    ⟨(some 14), none, .mov (.s 4)⟩,
    ⟨(some 15), none, .iaddr 1 (.s 13) (.s 14)⟩,
    ⟨(some 16), none, .load none (.s 15)⟩,
    ⟨(some 17), none, .faddr 0 (.s 1)⟩,
    ⟨(some 18), none, .load none (.s 17)⟩,
    ⟨(some 19), none, .mov (.s 4)⟩,
    ⟨(some 20), none, .iaddr 1 (.s 18) (.s 19)⟩,
    ⟨(some 21), none, .load none (.s 20)⟩,
    ⟨(some 22), none, .bin .sub (.s 16) (.s 21)⟩,
    ⟨(some 23), none, .bin .add (.s 22) (.c (.t (.int .i64 1)))⟩,
    ⟨(some 24), none, .bin .mul (.s 11) (.s 23)⟩,
    ⟨(some 3), none, .mov (.s 24)⟩] [[], [], [1], [], [2, 3], [4], [], [6], [], [7, 8], [9], [5, 10], [11], [0, 12], [13, 0, 1, 2, 3, 4, 5, 6, 7, 8, 9, 10, 11, 12, 13]] [1, 3, 7, 8])))
  (.reg [
    ⟨(some 25), none, .bin .add (.s 8) (.c (.t (.int .i64 1)))⟩,
    ⟨(some 8), none, .mov (.s 25)⟩] [1, 3, 7, 8])))

def M_impl_volume : MFun := ⟨1, 27, [.tmp 2],
  .seq (.reg [
    ⟨(some 1), none, .box (.s 0)⟩,
    ⟨(some 2), none, .mov (.c (.t (.int .i64 0)))⟩] [1])
  (.seq (.reg [
    ⟨(some 3), none, .mov (.c (.t (.int .i64 1)))⟩] [1, 3])
  (.seq (.seq (.reg [
    ⟨(some 5), none, .faddr 0 (.s 1)⟩,
    ⟨(some 6), none, .load none (.s 5)⟩,
    ⟨(some 7), none, .len false (.s 6)⟩,
    ⟨(some 8), none, .mov (.c (.t (.int .i64 0)))⟩] [1, 3, 7, 8])
  (.block 0 (.loop [1, 3, 7, 8] B_impl_volume_0)))
  (.seq (.reg [
    ⟨(some 26), none, .mov (.s 3)⟩,
    ⟨(some 2), none, .mov (.s 26)⟩] [2])
  (.ret))))⟩
theorem t_impl_volume : tbl 153 = some M_impl_volume := tblOf_eq Try.func153 (by kernel_rfl) (by kernel_rfl)

/-- loop.example/g01921/spec.DefaultModel -/
def M_spec_DefaultModel : MFun := ⟨0, 9, [.cell 0 (some 30)],
  .seq (.reg [
    ⟨(some 0), none, .alloc [(.t (.int .i64 0)), (.t (.int .i64 0)), (.t (.int .i64 0)), (.t (.int .i64 0)), (.t (.int .i64 0)), (.t .nil), (.t (.int .i64 0)), (.t (.int .i64 0)), (.t (.int .i64 0)), (.t (.int .i64 0)), (.t (.int .i64 0)), (.t .nil), (.t (.int .i64 0)), (.t (.int .i64 0)), (.t (.int .i64 0)), (.t (.int .i64 0)), (.t (.int .i64 0)), (.t .nil), (.t (.int .i64 0)), (.t (.int .i64 0)), (.t (.int .i64 0)), (.t (.int .i64 0)), (.t (.int .i64 0)), (.t .nil), (.t (.int .i64 0)), (.t (.int .i64 0)), (.t (.int .i64 0)), (.t (.int .i64 0)), (.t (.int .i64 0)), (.t .nil)]⟩] [0])
  (.seq (.reg [
    ⟨(some 1), none, .build [(.t (.int .i64 0)), (.t (.int .i64 0)), (.t (.int .i64 0)), (.t (.int .i64 0)), (.t (.int .i64 0)), (.t .nil)] [(0, 1, (.c (.t (.int .i64 1)))), (1, 1, (.c (.t (.int .i64 1))))]⟩,
    ⟨(some 2), none, .build [(.t (.int .i64 0)), (.t (.int .i64 0))] [(0, 1, (.c (.t (.int .i64 17)))), (1, 1, (.c (.t (.int .i64 20))))]⟩,
    ⟨(some 3), none, .bslice 153 2 1 [(.int .i64 0), (.int .i64 0)] [(0, (.s 2))]⟩,
    ⟨(some 4), none, .build [(.t (.int .i64 0)), (.t (.int .i64 0)), (.t (.int .i64 0)), (.t (.int .i64 0)), (.t (.int .i64 0)), (.t .nil)] [(0, 1, (.c (.t (.int .i64 2)))), (1, 1, (.c (.t (.int .i64 3)))), (5, 1, (.s 3))]⟩,
    ⟨(some 5), none, .build [(.t (.int .i64 0)), (.t (.int .i64 0)), (.t (.int .i64 0)), (.t (.int .i64 0)), (.t (.int .i64 0)), (.t .nil)] [(0, 1, (.c (.t (.int .i64 4)))), (1, 1, (.c (.t (.int .i64 2)))), (2, 1, (.c (.t (.int .i64 1)))), (3, 1, (.c (.t (.int .i64 1))))]⟩,
    ⟨(some 6), none, .build [(.t (.int .i64 0)), (.t (.int .i64 0)), (.t (.int .i64 0)), (.t (.int .i64 0)), (.t (.int .i64 0)), (.t .nil)] [(0, 1, (.c (.t (.int .i64 1)))), (1, 1, (.c (.t (.int .i64 1)))), (2, 1, (.c (.t (.int .i64 1)))), (3, 1, (.c (.t (.int .i64 1))))]⟩,
    ⟨(some 7), none, .build [(.t (.int .i64 0)), (.t (.int .i64 0)), (.t (.int .i64 0)), (.t (.int .i64 0)), (.t (.int .i64 0)), (.t .nil)] [(0, 1, (.c (.t (.int .i64 1)))), (3, 1, (.c (.t (.int .i64 1)))), (4, 1, (.c (.t (.int .i64 1))))]⟩,
    ⟨(some 8), none, .build [(.t (.int .i64 0)), (.t (.int .i64 0)), (.t (.int .i64 0)), (.t (.int .i64 0)), (.t (.int .i64 0)), (.t .nil), (.t (.int .i64 0)), (.t (.int .i64 0)), (.t (.int .i64 0)), (.t (.int .i64 0)), (.t (.int .i64 0)), (.t .nil), (.t (.int .i64 0)), (.t (.int .i64 0)), (.t (.int .i64 0)), (.t (.int .i64 0)), (.t (.int .i64 0)), (.t .nil), (.t (.int .i64 0)), (.t (.int .i64 0)), (.t (.int .i64 0)), (.t (.int .i64 0)), (.t (.int .i64 0)), (.t .nil), (.t (.int .i64 0)), (.t (.int .i64 0)), (.t (.int .i64 0)), (.t (.int .i64 0)), (.t (.int .i64 0)), (.t .nil)] [(0, 6, (.s 1)), (6, 6, (.s 4)), (12, 6, (.s 5)), (18, 6, (.s 6)), (24, 6, (.s 7))]⟩,
    ⟨none, none, .store 30 (.s 0) (.s 8)⟩] [0])
  (.ret))⟩
theorem t_spec_DefaultModel : tbl 154 = some M_spec_DefaultModel := tblOf_eq Try.func154 (by kernel_rfl) (by kernel_rfl)

/-- loop.example/g01921/spec.l21Op -/
def M_spec_l21Op : MFun := ⟨1, 33, [.cell 2 (some 6)],
  .seq (.reg [
    ⟨(some 2), none, .alloc [(.t (.int .i64 0)), (.t (.int .i64 0)), (.t (.int .i64 0)), (.t (.int .i64 0)), (.t (.int .i64 0)), (.t .nil)]⟩] [0, 2])
  (.seq (.reg [
    ⟨(some 4), none, .mov (.s 0)⟩,
    ⟨(some 5), none, .call 90 [(.s 4), (.c (.t (.int .i64 5)))]⟩,
    ⟨(some 6), none, .bin .add (.c (.t (.int .i64 1))) (.s 5)⟩,
    ⟨(some 7), none, .mov (.s 0)⟩,
    ⟨(some 8), none, .call 90 [(.s 7), (.c (.t (.int .i64 4)))]⟩,
    ⟨(some 9), none, .mov (.s 0)⟩,
    ⟨(some 10), none, .call 90 [(.s 9), (.c (.t (.int .i64 4)))]⟩,
    ⟨(some 11), none, .mov (.s 0)⟩,
    ⟨(some 12), none, .call 90 [(.s 11), (.c (.t (.int .i64 3)))]⟩,
    ⟨(some 13), none, .build [(.t (.int .i64 0)), (.t (.int .i64 0)), (.t (.int .i64 0)), (.t (.int .i64 0)), (.t (.int .i64 0)), (.t .nil)] [(0, 1, (.s 6)), (1, 1, (.s 8)), (2, 1, (.s 10)), (3, 1, (.s 12))]⟩,
    ⟨(some 3), none, .alloc [(.t (.int .i64 0)), (.t (.int .i64 0)), (.t (.int .i64 0)), (.t (.int .i64 0)), (.t (.int .i64 0)), (.t .nil)]⟩,
    ⟨none, none, .store 6 (.s 3) (.s 13)⟩] [0, 2, 3])
  (.seq (.seq (.reg [
    ⟨(some 14), none, .mov (.s 0)⟩,
    ⟨(some 15), none, .call 130 [(.s 14), (.c (.t (.int .i64 3)))]⟩] [0, 2, 3, 15])
  (.cond (.s 15)
    (.reg [
      ⟨(some 16), none, .mov (.s 0)⟩,
      ⟨(some 17), none, .call 90 [(.s 16), (.c (.t (.int .i64 3)))]⟩,
      ⟨(some 18), none, .faddr 4 (.s 3)⟩,
      ⟨none, none, .store 1 (.s 18) (.s 17)⟩] [0, 2, 3])
    (.skip)))
  (.seq (.seq (.reg [
    ⟨(some 19), none, .mov (.s 0)⟩,
    ⟨(some 20), none, .call 130 [(.s 19), (.c (.t (.int .i64 3)))]⟩] [0, 2, 3, 20])
  (.cond (.s 20)
    (.drw [
      ⟨(some 21), none, .faddr 5 (.s 3)⟩,
      ⟨(some 22), none, .load none (.s 21)⟩,
      ⟨(some 23), none, .mov (.s 0)⟩,
      ⟨(some 24), none, .bslice 3 1 4 [(.int .i64 0)] [(0, (.c (.t (.int .i64 1)))), (1, (.c (.t (.int .i64 5)))), (2, (.c (.t (.int .i64 17)))), (3, (.c (.t (.int .i64 32))))]⟩,
      ⟨(some 25), none, .call 91 [(.s 23), (.s 24)]⟩,
      ⟨(some 26), none, .mov (.s 0)⟩,
      ⟨(some 27), none, .call 90 [(.s 26), (.c (.t (.int .i64 20)))]⟩,
      ⟨(some 28), none, .build [(.t (.int .i64 0)), (.t (.int .i64 0))] [(0, 1, (.s 25)), (1, 1, (.s 27))]⟩,
      ⟨(some 29), none, .bslice 153 2 1 [(.int .i64 0), (.int .i64 0)] [(0, (.s 28))]⟩,
      ⟨(some 30), none, .append 153 2 16 true (.s 22) (.s 29)⟩,
      ⟨(some 31), none, .faddr 5 (.s 3)⟩,
      ⟨none, none, .store 1 (.s 31) (.s 30)⟩] [[], [0], [], [], [2, 3], [], [5, 4], [4, 6], [7], [1, 8, 6], [0, 1, 2, 3, 4, 5, 6, 7, 8, 9], [10, 9, 9, 0, 1, 2, 3, 4, 5, 6, 7, 8, 9]] [2, 3])
    (.skip)))
  (.seq (.reg [
    ⟨(some 32), none, .load (some 6) (.s 3)⟩,
    ⟨none, none, .store 6 (.s 2) (.s 32)⟩] [2])
  (.ret)))))⟩
theorem t_spec_l21Op : tbl 155 = some M_spec_l21Op := tblOf_eq Try.func155 (by kernel_rfl) (by kernel_rfl)

/-- loop.example/g01921/impl.FindDecrease -/
def B_impl_FindDecrease_0 : MCode :=
  .seq (.reg [
    ⟨(some 21), none, .bin .lss (.s 20) (.s 19)⟩] [1, 6, 12, 13, 14, 19, 20, 21])
  (.seq (.cond (.s 21)
    (.skip)
    (.exit 2))
  (.seq (.block 3 (.seq (.reg [
    ⟨(some 22), none, .mov (.s 20)⟩,
    ⟨(some 7), none, .mov (.s 22)⟩] [1, 6, 7, 12, 13, 14, 19, 20])
  (.seq (.seq (.reg [
    ⟨(some 23), none, .mov (.s 6)⟩,
    ⟨(some 24), none, .mov (.s 7)⟩,
    ⟨(some 25), none, .iaddr 1 (.s 23) (.s 24)⟩,
    ⟨(some 26), none, .load none (.s 25)⟩,
    ⟨(some 27), none, .bin .eql (.s 26) (.c (.t (.int .i64 7)))⟩] [1, 6, 7, 12, 13, 14, 19, 20, 27])
  (.cond (.s 27)
    (.exit 3)
    (.skip)))
  (.seq (.reg [
    ⟨(some 28), none, .mov (.s 6)⟩,
    ⟨(some 29), none, .call 167 [(.s 28)]⟩,
    ⟨(some 8), none, .mov (.s 29)⟩] [1, 6, 7, 8, 12, 13, 14, 19, 20])
  (.seq (.reg [
    ⟨(some 30), none, .mov (.s 8)⟩,
    ⟨(some 31), none, .mov (.s 7)⟩,
    ⟨(some 32), none, .iaddr 1 (.s 30) (.s 31)⟩,
    ⟨(some 33), none, .load none (.s 32)⟩,
    ⟨(some 34), none, .bin .add (.s 33) (.c (.t (.int .i64 1)))⟩,
    ⟨(some 35), none, .iaddr 1 (.s 30) (.s 31)⟩,
    ⟨none, none, .store 1 (.s 35) (.s 34)⟩] [1, 6, 8, 12, 13, 14, 19, 20])
  (.seq (.drw [
    ⟨(some 36), none, .load (some 6) (.s 1)⟩,
    ⟨(some 37), none, .mov (.s 8)⟩,
    ⟨(some 38), none, .call 158 [(.s 36), (.s 37)]⟩,
    ⟨(some 39), none, .load (some 6) (.s 1)⟩,
    ⟨(some 40), none, .mov (.s 6)⟩,
    ⟨(some 41), none, .call 158 [(.s 39), (.s 40)]⟩,
    ⟨(some 42), none, .bin .lss (.s 38) (.s 41)⟩] [[], [], [0, 1], [], [], [3, 4, 2], [2, 5]] [1, 6, 8, 12, 13, 14, 19, 20, 42])
  (.cond (.s 42)
    (.seq (.reg [
      ⟨(some 43), none, .mov (.s 6)⟩,
      ⟨(some 44), none, .mov (.s 8)⟩,
      ⟨(some 2), none, .mov (.s 43)⟩,
      ⟨(some 3), none, .mov (.s 44)⟩,
      ⟨(some 4), none, .mov (.c (.t (.bool true)))⟩] [2, 3, 4])
    (.ret))
    (.skip))))))))
  (.reg [
    ⟨(some 45), none, .bin .add (.s 20) (.c (.t (.int .i64 1)))⟩,
    ⟨(some 20), none, .mov (.s 45)⟩] [1, 6, 12, 13, 14, 19, 20])))

def B_impl_FindDecrease_1 : MCode :=
  .seq (.reg [
    ⟨(some 15), none, .bin .lss (.s 14) (.s 13)⟩] [1, 12, 13, 14, 15])
  (.seq (.cond (.s 15)
    (.skip)
    (.exit 0))
  (.seq (.block 1 (.seq (.reg [
    ⟨(some 16), none, .iaddr 1 (.s 12) (.s 14)⟩,
    ⟨(some 17), none, .load none (.s 16)⟩,
    ⟨(some 6), none, .mov (.s 17)⟩] [1, 6, 12, 13, 14])
  (.seq (.reg [
    ⟨(some 18), none, .mov (.s 6)⟩,
    ⟨(some 19), none, .len false (.s 18)⟩,
    ⟨(some 20), none, .mov (.c (.t (.int .i64 0)))⟩] [1, 6, 12, 13, 14, 19, 20])
  (.block 2 (.loop [1, 6, 12, 13, 14, 19, 20] B_impl_FindDecrease_0)))))
  (.reg [
    ⟨(some 46), none, .bin .add (.s 14) (.c (.t (.int .i64 1)))⟩,
    ⟨(some 14), none, .mov (.s 46)⟩] [1, 12, 13, 14])))

def M_impl_FindDecrease : MFun := ⟨1, 47, [.tmp 2, .tmp 3, .tmp 4],
  .seq (.reg [
    ⟨(some 1), none, .box (.s 0)⟩,
    ⟨(some 2), none, .mov (.c (.t .nil))⟩,
    ⟨(some 3), none, .mov (.c (.t .nil))⟩,
    ⟨(some 4), none, .mov (.c (.t (.bool false)))⟩] [1])
  (.seq (.seq (.reg [
    ⟨(some 9), none, .load (some 6) (.s 1)⟩,
    ⟨(some 10), none, .call 134 [(.s 9)]⟩,
    ⟨(some 11), none, .un .not (.s 10)⟩] [1, 11])
  (.cond (.s 11)
    (.seq (.reg [
      ⟨(some 2), none, .mov (.c (.t .nil))⟩,
      ⟨(some 3), none, .mov (.c (.t .nil))⟩,
      ⟨(some 4), none, .mov (.c (.t (.bool false)))⟩] [2, 3, 4])
    (.ret))
    (.skip)))
  (.seq (.seq (.reg [
    ⟨(some 12), none, .call 157 []⟩,
    ⟨(some 13), none, .len false (.s 12)⟩,
    ⟨(some 14), none, .mov (.c (.t (.int .i64 0)))⟩] [1, 12, 13, 14])
  (.block 0 (.loop [1, 12, 13, 14] B_impl_FindDecrease_1)))
  (.seq (.reg [
    ⟨(some 2), none, .mov (.c (.t .nil))⟩,
    ⟨(some 3), none, .mov (.c (.t .nil))⟩,
    ⟨(some 4), none, .mov (.c (.t (.bool false)))⟩] [2, 3, 4])
  (.ret))))⟩
theorem t_impl_FindDecrease : tbl 156 = some M_impl_FindDecrease := tblOf_eq Try.func156 (by kernel_rfl) (by kernel_rfl)

/-- loop.example/g01921/impl.triples -/
def B_impl_triples_0 : MCode :=
  .seq (.seq (.reg [
    ⟨(some 14), none, .mov (.s 4)⟩,
    ⟨(some 15), none, .bin .leq (.s 14) (.c (.t (.int .i64 7)))⟩] [1, 2, 3, 4, 15])
  (.cond (.s 15)
    (.skip)
    (.exit 4)))
  (.seq (.block 5 (.reg [
    ⟨(some 18), none, .mov (.s 1)⟩,
    ⟨(some 19), none, .mov (.s 2)⟩,
    ⟨(some 20), none, .mov (.s 3)⟩,
    ⟨(some 21), none, .mov (.s 4)⟩,
    ⟨(some 22), none, .bslice 3 1 3 [(.int .i64 0)] [(0, (.s 19)), (1, (.s 20)), (2, (.s 21))]⟩,
    ⟨(some 23), none, .bslice 28 1 1 [.nil] [(0, (.s 22))]⟩,
    ⟨(some 24), none, .append 28 1 24 true (.s 18) (.s 23)⟩,
    ⟨(some 1), none, .mov (.s 24)⟩] [1, 2, 3, 4]))
  (.reg [
    ⟨(some 16), none, .mov (.s 4)⟩,
    ⟨(some 17), none, .bin .add (.s 16) (.c (.t (.int .i64 1)))⟩,
    ⟨(some 4), none, .mov (.s 17)⟩] [1, 2, 3, 4]))

def B_impl_triples_1 : MCode :=
  .seq (.seq (.reg [
    ⟨(some 10), none, .mov (.s 3)⟩,
    ⟨(some 11), none, .bin .leq (.s 10) (.c (.t (.int .i64 7)))⟩] [1, 2, 3, 11])
  (.cond (.s 11)
    (.skip)
    (.exit 2)))
  (.seq (.block 3 (.seq (.reg [
    ⟨(some 4), none, .mov (.c (.t (.int .i64 0)))⟩] [1, 2, 3, 4])
  (.block 4 (.loop [1, 2, 3, 4] B_impl_triples_0))))
  (.reg [
    ⟨(some 12), none, .mov (.s 3)⟩,
    ⟨(some 13), none, .bin .add (.s 12) (.c (.t (.int .i64 1)))⟩,
    ⟨(some 3), none, .mov (.s 13)⟩] [1, 2, 3]))

def B_impl_triples_2 : MCode :=
  .seq (.seq (.reg [
    ⟨(some 6), none, .mov (.s 2)⟩,
    ⟨(some 7), none, .bin .leq (.s 6) (.c (.t (.int .i64 7)))⟩] [1, 2, 7])
  (.cond (.s 7)
    (.skip)
    (.exit 0)))
  (.seq (.block 1 (.seq (.reg [
    ⟨(some 3), none, .mov (.c (.t (.int .i64 0)))⟩] [1, 2, 3])
  (.block 2 (.loop [1, 2, 3] B_impl_triples_1))))
  (.reg [
    ⟨(some 8), none, .mov (.s 2)⟩,
    ⟨(some 9), none, .bin .add (.s 8) (.c (.t (.int .i64 1)))⟩,
    ⟨(some 2), none, .mov (.s 9)⟩] [1, 2]))

def M_impl_triples : MFun := ⟨0, 26, [.tmp 0],
  .seq (.reg [
    ⟨(some 0), none, .mov (.c (.t .nil))⟩] [])
  (.seq (.reg [
    ⟨(some 5), none, .bslice 28 1 0 [.nil] []⟩,
    ⟨(some 1), none, .mov (.s 5)⟩] [1])
  (.seq (.seq (.reg [
    ⟨(some 2), none, .mov (.c (.t (.int .i64 0)))⟩] [1, 2])
  (.block 0 (.loop [1, 2] B_impl_triples_2)))
  (.seq (.reg [
    ⟨(some 25), none, .mov (.s 1)⟩,
    ⟨(some 0), none, .mov (.s 25)⟩] [0])
  (.ret))))⟩
theorem t_impl_triples : tbl 157 = some M_impl_triples := tblOf_eq Try.func157 (by kernel_rfl) (by kernel_rfl)

/-- loop.example/g01921/impl.tripleCost -/
def M_impl_tripleCost : MFun := ⟨2, 19, [.tmp 4],
  .seq (.reg [
    ⟨(some 2), none, .box (.s 0)⟩,
    ⟨(some 4), none, .mov (.c (.t (.int .i64 0)))⟩] [1, 2])
  (.seq (.drw [
    ⟨(some 5), none, .load (some 6) (.s 2)⟩,
    ⟨(some 6), none, .mov (.s 1)⟩,
    ⟨(some 7), none, .iaddr 1 (.s 6) (.c (.t (.int .i64 0)))⟩,
    ⟨(some 8), none, .load none (.s 7)⟩,
    ⟨(some 9), none, .call 136 [(.s 8)]⟩,
    ⟨(some 10), none, .mov (.s 1)⟩,
    ⟨(some 11), none, .iaddr 1 (.s 10) (.c (.t (.int .i64 1)))⟩,
    ⟨(some 12), none, .load none (.s 11)⟩,
    ⟨(some 13), none, .call 136 [(.s 12)]⟩,
    ⟨(some 14), none, .mov (.s 1)⟩,
    ⟨(some 15), none, .iaddr 1 (.s 14) (.c (.t (.int .i64 2)))⟩,
    ⟨(some 16), none, .load none (.s 15)⟩,
    ⟨(some 17), none, .call 136 [(.s 16)]⟩,
    ⟨(some 18), none, .call 135 [(.s 5), (.s 9), (.s 13), (.s 17)]⟩,
    ⟨(some 4), none, .mov (.s 18)⟩] [[], [], [1], [2], [3], [], [5], [6], [7, 4], [], [9], [10], [11, 8], [0, 4, 8, 12, 12], [13, 13, 0, 1, 2, 3, 4, 5, 6, 7, 8, 9, 10, 11, 12, 13]] [4])
  (.ret))⟩
theorem t_impl_tripleCost : tbl 158 = some M_impl_tripleCost := tblOf_eq Try.func158 (by kernel_rfl) (by kernel_rfl)

/-- loop.example/g01921/impl.coefficients -/
def M_impl_coefficients : MFun := ⟨1, 19, [.tmp 2],
  .seq (.reg [
    ⟨(some 2), none, .mov (.c (.t .nil))⟩] [0])
  (.seq (.drw [
    ⟨(some 3), none, .mov (.s 0)⟩,
    ⟨(some 4), none, .nilchk (.s 3)⟩,
    ⟨(some 5), none, .faddr 0 (.s 4)⟩,
    ⟨(some 6), none, .mov (.s 0)⟩,
    ⟨(some 7), none, .nilchk (.s 6)⟩,
    ⟨(some 8), none, .faddr 1 (.s 7)⟩,
    ⟨(some 9), none, .mov (.s 0)⟩,
    ⟨(some 10), none, .nilchk (.s 9)⟩,
    ⟨(some 11), none, .faddr 2 (.s 10)⟩,
    ⟨(some 12), none, .mov (.s 0)⟩,
    ⟨(some 13), none, .nilchk (.s 12)⟩,
    ⟨(some 14), none, .faddr 3 (.s 13)⟩,
    ⟨(some 15), none, .mov (.s 0)⟩,
    ⟨(some 16), none, .nilchk (.s 15)⟩,
    ⟨(some 17), none, .faddr 4 (.s 16)⟩,
    ⟨(some 18), none, .bptrs 5 [(0, (.s 5)), (1, (.s 8)), (2, (.s 11)), (3, (.s 14)), (4, (.s 17))]⟩,
    ⟨(some 2), none, .mov (.s 18)⟩] [[], [0], [1], [], [3], [4], [], [6], [7], [], [9], [10], [], [12], [13], [2, 5, 8, 11, 14], [15, 0, 1, 2, 3, 4, 5, 6, 7, 8, 9, 10, 11, 12, 13, 14, 15]] [2])
  (.ret))⟩
theorem t_impl_coefficients : tbl 159 = some M_impl_coefficients := tblOf_eq Try.func159 (by kernel_rfl) (by kernel_rfl)

/-- loop.example/g01921/spec.FindDecrease -/
def B_spec_FindDecrease_0 : MCode :=
  .seq (.seq (.reg [
    ⟨(some 32), none, .mov (.s 9)⟩,
    ⟨(some 33), none, .bin .lss (.s 32) (.c (.t (.int .i64 3)))⟩] [1, 5, 6, 7, 8, 9, 33])
  (.cond (.s 33)
    (.skip)
    (.exit 6)))
  (.seq (.block 7 (.seq (.reg [
    ⟨(some 36), none, .bslice 3 1 0 [(.int .i64 0)] []⟩,
    ⟨(some 37), none, .mov (.s 8)⟩,
    ⟨(some 38), none, .append 3 1 8 false (.s 36) (.s 37)⟩,
    ⟨(some 10), none, .mov (.s 38)⟩] [1, 5, 6, 7, 8, 9, 10])
  (.seq (.reg [
    ⟨(some 39), none, .mov (.s 10)⟩,
    ⟨(some 40), none, .mov (.s 9)⟩,
    ⟨(some 41), none, .mov (.s 10)⟩,
    ⟨(some 42), none, .mov (.s 9)⟩,
    ⟨(some 43), none, .iaddr 1 (.s 41) (.s 42)⟩,
    ⟨(some 44), none, .load none (.s 43)⟩,
    ⟨(some 45), none, .bin .add (.s 44) (.c (.t (.int .i64 1)))⟩,
    ⟨(some 46), none, .iaddr 1 (.s 39) (.s 40)⟩,
    ⟨none, none, .store 1 (.s 46) (.s 45)⟩] [1, 5, 6, 7, 8, 9, 10])
  (.seq (.drw [
    ⟨(some 47), none, .mov (.s 10)⟩,
    ⟨(some 48), none, .mov (.s 9)⟩,
    ⟨(some 49), none, .iaddr 1 (.s 47) (.s 48)⟩,
    ⟨(some 50), none, .load none (.s 49)⟩,
    ⟨(some 51), none, .bin .leq (.s 50) (.c (.t (.int .i64 7)))⟩,
    ⟨(some 52), none, .mov (.s 51)⟩,
    ⟨(some 53), (some (52, true)), .load (some 6) (.s 1)⟩,
    ⟨(some 54), (some (52, true)), .mov (.s 10)⟩,
    ⟨(some 55), (some (52, true)), .call 168 [(.s 53), (.s 54)]⟩,
    ⟨(some 56), (some (52, true)), .load (some 6) (.s 1)⟩,
    ⟨(some 57), (some (52, true)), .mov (.s 8)⟩,
    ⟨(some 58), (some (52, true)), .call 168 [(.s 56), (.s 57)]⟩,
    ⟨(some 59), (some (52, true)), .bin .lss (.s 55) (.s 58)⟩,
    ⟨(some 60), none, .pick (.s 52) (.s 59) (.c (.t (.bool false)))⟩] [[], [], [0, 1], [2], [3], [4], [5], [5], [6, 7, 5, 5], [5], [5], [9, 10, 8, 5], [8, 11, 5], [5, 12]] [1, 5, 6, 7, 8, 9, 10, 60])
  (.cond (.s 60)
    (.seq (.reg [
      ⟨(some 61), none, .mov (.s 8)⟩,
      ⟨(some 62), none, .mov (.s 10)⟩,
      ⟨(some 2), none, .mov (.s 61)⟩,
      ⟨(some 3), none, .mov (.s 62)⟩,
      ⟨(some 4), none, .mov (.c (.t (.bool true)))⟩] [2, 3, 4])
    (.ret))
    (.skip))))))
  (.reg [
    ⟨(some 34), none, .mov (.s 9)⟩,
    ⟨(some 35), none, .bin .add (.s 34) (.c (.t (.int .i64 1)))⟩,
    ⟨(some 9), none, .mov (.s 35)⟩] [1, 5, 6, 7, 8, 9]))

def B_spec_FindDecrease_1 : MCode :=
  .seq (.seq (.reg [
    ⟨(some 24), none, .mov (.s 7)⟩,
    ⟨(some 25), none, .bin .leq (.s 24) (.c (.t (.int .i64 7)))⟩] [1, 5, 6, 7, 25])
  (.cond (.s 25)
    (.skip)
    (.exit 4)))
  (.seq (.block 5 (.seq (.reg [
    ⟨(some 28), none, .mov (.s 5)⟩,
    ⟨(some 29), none, .mov (.s 6)⟩,
    ⟨(some 30), none, .mov (.s 7)⟩,
    ⟨(some 31), none, .bslice 3 1 3 [(.int .i64 0)] [(0, (.s 28)), (1, (.s 29)), (2, (.s 30))]⟩,
    ⟨(some 8), none, .mov (.s 31)⟩] [1, 5, 6, 7, 8])
  (.seq (.reg [
    ⟨(some 9), none, .mov (.c (.t (.int .i64 0)))⟩] [1, 5, 6, 7, 8, 9])
  (.block 6 (.loop [1, 5, 6, 7, 8, 9] B_spec_FindDecrease_0)))))
  (.reg [
    ⟨(some 26), none, .mov (.s 7)⟩,
    ⟨(some 27), none, .bin .add (.s 26) (.c (.t (.int .i64 1)))⟩,
    ⟨(some 7), none, .mov (.s 27)⟩] [1, 5, 6, 7]))

def B_spec_FindDecrease_2 : MCode :=
  .seq (.seq (.reg [
    ⟨(some 20), none, .mov (.s 6)⟩,
    ⟨(some 21), none, .bin .leq (.s 20) (.c (.t (.int .i64 7)))⟩] [1, 5, 6, 21])
  (.cond (.s 21)
    (.skip)
    (.exit 2)))
  (.seq (.block 3 (.seq (.reg [
    ⟨(some 7), none, .mov (.c (.t (.int .i64 0)))⟩] [1, 5, 6, 7])
  (.block 4 (.loop [1, 5, 6, 7] B_spec_FindDecrease_1))))
  (.reg [
    ⟨(some 22), none, .mov (.s 6)⟩,
    ⟨(some 23), none, .bin .add (.s 22) (.c (.t (.int .i64 1)))⟩,
    ⟨(some 6), none, .mov (.s 23)⟩] [1, 5, 6]))

def B_spec_FindDecrease_3 : MCode :=
  .seq (.seq (.reg [
    ⟨(some 16), none, .mov (.s 5)⟩,
    ⟨(some 17), none, .bin .leq (.s 16) (.c (.t (.int .i64 7)))⟩] [1, 5, 17])
  (.cond (.s 17)
    (.skip)
    (.exit 0)))
  (.seq (.block 1 (.seq (.reg [
    ⟨(some 6), none, .mov (.c (.t (.int .i64 0)))⟩] [1, 5, 6])
  (.block 2 (.loop [1, 5, 6] B_spec_FindDecrease_2))))
  (.reg [
    ⟨(some 18), none, .mov (.s 5)⟩,
    ⟨(some 19), none, .bin .add (.s 18) (.c (.t (.int .i64 1)))⟩,
    ⟨(some 5), none, .mov (.s 19)⟩] [1, 5]))

def M_spec_FindDecrease : MFun := ⟨1, 65, [.tmp 2, .tmp 3, .tmp 4],
  .seq (.reg [
    ⟨(some 1), none, .box (.s 0)⟩,
    ⟨(some 2), none, .mov (.c (.t .nil))⟩,
    ⟨(some 3), none, .mov (.c (.t .nil))⟩,
    ⟨(some 4), none, .mov (.c (.t (.bool false)))⟩] [1])
  (.seq (.seq (.reg [
    ⟨(some 11), none, .load (some 6) (.s 1)⟩,
    ⟨(some 12), none, .call 99 [(.s 11)]⟩,
    ⟨(some 13), none, .un .not (.s 12)⟩] [1, 13])
  (.cond (.s 13)
    (.seq (.reg [
      ⟨(some 14), none, .bslice 3 1 0 [(.int .i64 0)] []⟩,
      ⟨(some 15), none, .bslice 3 1 0 [(.int .i64 0)] []⟩,
      ⟨(some 2), none, .mov (.s 14)⟩,
      ⟨(some 3), none, .mov (.s 15)⟩,
      ⟨(some 4), none, .mov (.c (.t (.bool false)))⟩] [2, 3, 4])
    (.ret))
    (.skip)))
  (.seq (.seq (.reg [
    ⟨(some 5), none, .mov (.c (.t (.int .i64 0)))⟩] [1, 5])
  (.block 0 (.loop [1, 5] B_spec_FindDecrease_3)))
  (.seq (.reg [
    ⟨(some 63), none, .bslice 3 1 0 [(.int .i64 0)] []⟩,
    ⟨(some 64), none, .bslice 3 1 0 [(.int .i64 0)] []⟩,
    ⟨(some 2), none, .mov (.s 63)⟩,
    ⟨(some 3), none, .mov (.s 64)⟩,
    ⟨(some 4), none, .mov (.c (.t (.bool false)))⟩] [2, 3, 4])
  (.ret))))⟩
theorem t_spec_FindDecrease : tbl 160 = some M_spec_FindDecrease := tblOf_eq Try.func160 (by kernel_rfl) (by kernel_rfl)

/-- loop.example/g01921/spec.l22Cheap -/
def B_spec_l22Cheap_0 : MCode :=
  .seq (.seq (.reg [
    ⟨(some 14), none, .mov (.s 5)⟩,
    ⟨(some 15), none, .bin .leq (.s 14) (.c (.t (.int .i64 7)))⟩] [1, 3, 4, 5, 15])
  (.cond (.s 15)
    (.skip)
    (.exit 4)))
  (.seq (.block 5 (.seq (.reg [
    ⟨(some 18), none, .load (some 6) (.s 1)⟩,
    ⟨(some 19), none, .mov (.s 3)⟩,
    ⟨(some 20), none, .mov (.s 4)⟩,
    ⟨(some 21), none, .mov (.s 5)⟩,
    ⟨(some 22), none, .bslice 3 1 3 [(.int .i64 0)] [(0, (.s 19)), (1, (.s 20)), (2, (.s 21))]⟩,
    ⟨(some 23), none, .call 168 [(.s 18), (.s 22)]⟩,
    ⟨(some 24), none, .bin .lss (.s 23) (.c (.t (.int .i64 1)))⟩] [1, 3, 4, 5, 24])
  (.cond (.s 24)
    (.seq (.reg [
      ⟨(some 25), none, .mov (.s 3)⟩,
      ⟨(some 26), none, .mov (.s 4)⟩,
      ⟨(some 27), none, .mov (.s 5)⟩,
      ⟨(some 28), none, .bslice 3 1 3 [(.int .i64 0)] [(0, (.s 25)), (1, (.s 26)), (2, (.s 27))]⟩,
      ⟨(some 2), none, .mov (.s 28)⟩] [2])
    (.ret))
    (.skip))))
  (.reg [
    ⟨(some 16), none, .mov (.s 5)⟩,
    ⟨(some 17), none, .bin .add (.s 16) (.c (.t (.int .i64 1)))⟩,
    ⟨(some 5), none, .mov (.s 17)⟩] [1, 3, 4, 5]))

def B_spec_l22Cheap_1 : MCode :=
  .seq (.seq (.reg [
    ⟨(some 10), none, .mov (.s 4)⟩,
    ⟨(some 11), none, .bin .leq (.s 10) (.c (.t (.int .i64 7)))⟩] [1, 3, 4, 11])
  (.cond (.s 11)
    (.skip)
    (.exit 2)))
  (.seq (.block 3 (.seq (.reg [
    ⟨(some 5), none, .mov (.c (.t (.int .i64 0)))⟩] [1, 3, 4, 5])
  (.block 4 (.loop [1, 3, 4, 5] B_spec_l22Cheap_0))))
  (.reg [
    ⟨(some 12), none, .mov (.s 4)⟩,
    ⟨(some 13), none, .bin .add (.s 12) (.c (.t (.int .i64 1)))⟩,
    ⟨(some 4), none, .mov (.s 13)⟩] [1, 3, 4]))

def B_spec_l22Cheap_2 : MCode :=
  .seq (.seq (.reg [
    ⟨(some 6), none, .mov (.s 3)⟩,
    ⟨(some 7), none, .bin .leq (.s 6) (.c (.t (.int .i64 7)))⟩] [1, 3, 7])
  (.cond (.s 7)
    (.skip)
    (.exit 0)))
  (.seq (.block 1 (.seq (.reg [
    ⟨(some 4), none, .mov (.c (.t (.int .i64 0)))⟩] [1, 3, 4])
  (.block 2 (.loop [1, 3, 4] B_spec_l22Cheap_1))))
  (.reg [
    ⟨(some 8), none, .mov (.s 3)⟩,
    ⟨(some 9), none, .bin .add (.s 8) (.c (.t (.int .i64 1)))⟩,
    ⟨(some 3), none, .mov (.s 9)⟩] [1, 3]))

def M_spec_l22Cheap : MFun := ⟨1, 30, [.tmp 2],
  .seq (.reg [
    ⟨(some 1), none, .box (.s 0)⟩,
    ⟨(some 2), none, .mov (.c (.t .nil))⟩] [1])
  (.seq (.seq (.reg [
    ⟨(some 3), none, .mov (.c (.t (.int .i64 0)))⟩] [1, 3])
  (.block 0 (.loop [1, 3] B_spec_l22Cheap_2)))
  (.seq (.reg [
    ⟨(some 29), none, .bslice 3 1 0 [(.int .i64 0)] []⟩,
    ⟨(some 2), none, .mov (.s 29)⟩] [2])
  (.ret)))⟩
theorem t_spec_l22Cheap : tbl 161 = some M_spec_l22Cheap := tblOf_eq Try.func161 (by kernel_rfl) (by kernel_rfl)

/-- loop.example/g01921/spec.l4Tab -/
def B_spec_l4Tab_0 : MCode :=
  .seq (.seq (.reg [
    ⟨(some 27), none, .mov (.s 14)⟩,
    ⟨(some 28), none, .mov (.s 2)⟩,
    ⟨(some 29), none, .bin .lss (.s 27) (.s 28)⟩] [0, 2, 4, 10, 11, 12, 13, 14, 29])
  (.cond (.s 29)
    (.skip)
    (.exit 2)))
  (.seq (.block 3 (.reg [
    ⟨(some 32), none, .mov (.s 13)⟩,
    ⟨(some 33), none, .mov (.s 0)⟩,
    ⟨(some 34), none, .mov (.s 4)⟩,
    ⟨(some 35), none, .call 90 [(.s 33), (.s 34)]⟩,
    ⟨(some 36), none, .bslice 3 1 1 [(.int .i64 0)] [(0, (.s 35))]⟩,
    ⟨(some 37), none, .append 3 1 8 true (.s 32) (.s 36)⟩,
    ⟨(some 13), none, .mov (.s 37)⟩] [0, 2, 4, 10, 11, 12, 13, 14]))
  (.reg [
    ⟨(some 30), none, .mov (.s 14)⟩,
    ⟨(some 31), none, .bin .add (.s 30) (.c (.t (.int .i64 1)))⟩,
    ⟨(some 14), none, .mov (.s 31)⟩] [0, 2, 4, 10, 11, 12, 13, 14]))

def B_spec_l4Tab_1 : MCode :=
  .seq (.seq (.reg [
    ⟨(some 22), none, .mov (.s 12)⟩,
    ⟨(some 23), none, .bin .gtr (.s 22) (.c (.t (.int .i64 0)))⟩] [0, 2, 4, 10, 11, 12, 23])
  (.cond (.s 23)
    (.skip)
    (.exit 0)))
  (.seq (.block 1 (.seq (.reg [
    ⟨(some 26), none, .bslice 3 1 0 [(.int .i64 0)] []⟩,
    ⟨(some 13), none, .mov (.s 26)⟩] [0, 2, 4, 10, 11, 12, 13])
  (.seq (.seq (.reg [
    ⟨(some 14), none, .mov (.c (.t (.int .i64 0)))⟩] [0, 2, 4, 10, 11, 12, 13, 14])
  (.block 2 (.loop [0, 2, 4, 10, 11, 12, 13, 14] B_spec_l4Tab_0)))
  (.reg [
    ⟨(some 38), none, .faddr 2 (.s 11)⟩,
    ⟨(some 39), none, .load none (.s 38)⟩,
    ⟨(some 40), none, .mov (.s 13)⟩,
    ⟨(some 41), none, .call 169 [(.s 39), (.s 40)]⟩,
    ⟨(some 42), none, .faddr 2 (.s 11)⟩,
    ⟨none, none, .store 1 (.s 42) (.s 41)⟩] [0, 2, 4, 10, 11, 12]))))
  (.reg [
    ⟨(some 24), none, .mov (.s 12)⟩,
    ⟨(some 25), none, .bin .sub (.s 24) (.c (.t (.int .i64 1)))⟩,
    ⟨(some 12), none, .mov (.s 25)⟩] [0, 2, 4, 10, 11, 12]))

def M_spec_l4Tab : MFun := ⟨5, 44, [.cell 10 (some 3)],
  .seq (.reg [
    ⟨(some 10), none, .alloc [(.t (.str ⟨#[]⟩)), (.t (.int .i64 0)), (.t .nil)]⟩] [0, 1, 2, 3, 4, 10])
  (.seq (.reg [
    ⟨(some 15), none, .mov (.s 1)⟩,
    ⟨(some 16), none, .mov (.s 2)⟩,
    ⟨(some 17), none, .build [(.t (.str ⟨#[]⟩)), (.t (.int .i64 0)), (.t .nil)] [(0, 1, (.s 15)), (1, 1, (.s 16))]⟩,
    ⟨(some 11), none, .alloc [(.t (.str ⟨#[]⟩)), (.t (.int .i64 0)), (.t .nil)]⟩,
    ⟨none, none, .store 3 (.s 11) (.s 17)⟩] [0, 2, 3, 4, 10, 11])
  (.seq (.seq (.reg [
    ⟨(some 18), none, .mov (.s 0)⟩,
    ⟨(some 19), none, .mov (.s 3)⟩,
    ⟨(some 20), none, .bin .add (.s 19) (.c (.t (.int .i64 1)))⟩,
    ⟨(some 21), none, .call 90 [(.s 18), (.s 20)]⟩,
    ⟨(some 12), none, .mov (.s 21)⟩] [0, 2, 4, 10, 11, 12])
  (.block 0 (.loop [0, 2, 4, 10, 11, 12] B_spec_l4Tab_1)))
  (.seq (.reg [
    ⟨(some 43), none, .load (some 3) (.s 11)⟩,
    ⟨none, none, .store 3 (.s 10) (.s 43)⟩] [10])
  (.ret))))⟩
theorem t_spec_l4Tab : tbl 162 = some M_spec_l4Tab := tblOf_eq Try.func162 (by kernel_rfl) (by kernel_rfl)

/-- loop.example/g01921/spec.l7Query -/
def B_spec_l7Query_0 : MCode :=
  .seq (.seq (.reg [
    ⟨(some 46), none, .mov (.s 12)⟩,
    ⟨(some 47), none, .mov (.s 10)⟩,
    ⟨(some 48), none, .bin .lss (.s 46) (.s 47)⟩] [0, 2, 4, 6, 7, 9, 10, 11, 12, 48])
  (.cond (.s 48)
    (.skip)
    (.exit 2)))
  (.seq (.block 3 (.seq (.reg [
    ⟨(some 51), none, .faddr 1 (.s 9)⟩,
    ⟨(some 52), none, .load none (.s 51)⟩,
    ⟨(some 53), none, .mov (.s 11)⟩,
    ⟨(some 54), none, .bslice 3 1 1 [(.int .i64 0)] [(0, (.s 53))]⟩,
    ⟨(some 55), none, .append 3 1 8 true (.s 52) (.s 54)⟩,
    ⟨(some 56), none, .faddr 1 (.s 9)⟩,
    ⟨none, none, .store 1 (.s 56) (.s 55)⟩] [0, 2, 4, 6, 7, 9, 10, 11, 12])
  (.seq (.reg [
    ⟨(some 57), none, .faddr 0 (.s 6)⟩,
    ⟨(some 58), none, .load none (.s 57)⟩,
    ⟨(some 59), none, .mov (.s 11)⟩,
    ⟨(some 60), none, .bin .add (.s 59) (.c (.t (.int .i64 1)))⟩,
    ⟨(some 61), none, .mm true (.s 58) (.s 60)⟩,
    ⟨(some 62), none, .faddr 0 (.s 6)⟩,
    ⟨none, none, .store 1 (.s 62) (.s 61)⟩] [0, 2, 4, 6, 7, 9, 10, 11, 12])
  (.reg [
    ⟨(some 63), none, .mov (.s 11)⟩,
    ⟨(some 64), none, .bin .add (.s 63) (.c (.t (.int .i64 1)))⟩,
    ⟨(some 65), none, .bin .rem (.s 64) (.c (.t (.int .i64 4)))⟩,
    ⟨(some 11), none, .mov (.s 65)⟩] [0, 2, 4, 6, 7, 9, 10, 11, 12]))))
  (.reg [
    ⟨(some 49), none, .mov (.s 12)⟩,
    ⟨(some 50), none, .bin .add (.s 49) (.c (.t (.int .i64 1)))⟩,
    ⟨(some 12), none, .mov (.s 50)⟩] [0, 2, 4, 6, 7, 9, 10, 11, 12]))

def B_spec_l7Query_1 : MCode :=
  .seq (.seq (.reg [
    ⟨(some 29), none, .mov (.s 7)⟩,
    ⟨(some 30), none, .bin .gtr (.s 29) (.c (.t (.int .i64 0)))⟩] [0, 2, 4, 6, 7, 30])
  (.cond (.s 30)
    (.skip)
    (.exit 0)))
  (.seq (.block 1 (.seq (.reg [
    ⟨(some 33), none, .mov (.s 0)⟩,
    ⟨(some 34), none, .call 90 [(.s 33), (.c (.t (.int .i64 5)))]⟩,
    ⟨(some 8), none, .mov (.s 34)⟩] [0, 2, 4, 6, 7, 8])
  (.seq (.reg [
    ⟨(some 35), none, .bslice 9 1 5 [(.str ⟨#[]⟩)] [(0, (.c (.t (.str ⟨#[114]⟩)))), (1, (.c (.t (.str ⟨#[115]⟩)))), (2, (.c (.t (.str ⟨#[116]⟩)))), (3, (.c (.t (.str ⟨#[117]⟩)))), (4, (.c (.t (.str ⟨#[118]⟩))))]⟩,
    ⟨(some 36), none, .mov (.s 8)⟩,
    ⟨(some 37), none, .iaddr 1 (.s 35) (.s 36)⟩,
    ⟨(some 38), none, .load none (.s 37)⟩,
    ⟨(some 39), none, .build [(.t (.str ⟨#[]⟩)), (.t .nil)] [(0, 1, (.s 38))]⟩,
    ⟨(some 9), none, .alloc [(.t (.str ⟨#[]⟩)), (.t .nil)]⟩,
    ⟨none, none, .store 2 (.s 9) (.s 39)⟩] [0, 2, 4, 6, 7, 8, 9])
  (.seq (.reg [
    ⟨(some 40), none, .bslice 3 1 5 [(.int .i64 0)] [(0, (.c (.t (.int .i64 2)))), (1, (.c (.t (.int .i64 2)))), (2, (.c (.t (.int .i64 2)))), (3, (.c (.t (.int .i64 3)))), (4, (.c (.t (.int .i64 1))))]⟩,
    ⟨(some 41), none, .mov (.s 8)⟩,
    ⟨(some 42), none, .iaddr 1 (.s 40) (.s 41)⟩,
    ⟨(some 43), none, .load none (.s 42)⟩,
    ⟨(some 10), none, .mov (.s 43)⟩] [0, 2, 4, 6, 7, 9, 10])
  (.seq (.reg [
    ⟨(some 44), none, .mov (.s 0)⟩,
    ⟨(some 45), none, .call 90 [(.s 44), (.c (.t (.int .i64 4)))]⟩,
    ⟨(some 11), none, .mov (.s 45)⟩] [0, 2, 4, 6, 7, 9, 10, 11])
  (.seq (.seq (.reg [
    ⟨(some 12), none, .mov (.c (.t (.int .i64 0)))⟩] [0, 2, 4, 6, 7, 9, 10, 11, 12])
  (.block 2 (.loop [0, 2, 4, 6, 7, 9, 10, 11, 12] B_spec_l7Query_0)))
  (.reg [
    ⟨(some 66), none, .faddr 1 (.s 6)⟩,
    ⟨(some 67), none, .load none (.s 66)⟩,
    ⟨(some 68), none, .load (some 2) (.s 9)⟩,
    ⟨(some 69), none, .bslice 168 2 1 [(.str ⟨#[]⟩), .nil] [(0, (.s 68))]⟩,
    ⟨(some 70), none, .append 168 2 40 true (.s 67) (.s 69)⟩,
    ⟨(some 71), none, .faddr 1 (.s 6)⟩,
    ⟨none, none, .store 1 (.s 71) (.s 70)⟩] [0, 2, 4, 6, 7])))))))
  (.reg [
    ⟨(some 31), none, .mov (.s 7)⟩,
    ⟨(some 32), none, .bin .sub (.s 31) (.c (.t (.int .i64 1)))⟩,
    ⟨(some 7), none, .mov (.s 32)⟩] [0, 2, 4, 6, 7]))

def M_spec_l7Query : MFun := ⟨1, 77, [.cell 2 (some 2)],
  .seq (.reg [
    ⟨(some 2), none, .alloc [(.t (.int .i64 0)), (.t .nil)]⟩] [0, 2])
  (.seq (.reg [
    ⟨(some 13), none, .bslice 9 1 13 [(.str ⟨#[]⟩)] [(0, (.c (.t (.str ⟨#[114, 40, 88, 89, 41]⟩)))), (1, (.c (.t (.str ⟨#[114, 40, 88, 89, 41, 32, 115, 40, 89, 90, 41]⟩)))), (2, (.c (.t (.str ⟨#[114, 40, 88, 89, 41, 32, 115, 40, 89, 90, 41, 32, 116, 40, 90, 85, 41]⟩)))), (3, (.c (.t (.str ⟨#[114, 40, 88, 89, 41, 32, 115, 40, 89, 90, 41, 32, 116, 40, 90, 88, 41]⟩)))), (4, (.c (.t (.str ⟨#[114, 40, 88, 89, 41, 32, 115, 40, 88, 90, 41, 32, 116, 40, 88, 85, 41]⟩)))), (5, (.c (.t (.str ⟨#[114, 40, 88, 89, 41, 32, 115, 40, 89, 90, 41, 32, 118, 40, 89, 41]⟩)))), (6, (.c (.t (.str ⟨#[117, 40, 88, 89, 90, 41, 32, 115, 40, 90, 85, 41]⟩)))), (7, (.c (.t (.str ⟨#[117, 40, 88, 89, 90, 41, 32, 114, 40, 88, 89, 41, 32, 118, 40, 90, 41]⟩)))), (8, (.c (.t (.str ⟨#[114, 40, 88, 89, 41, 32, 115, 40, 89, 90, 41, 32, 116, 40, 90, 85, 41, 32, 118, 40, 88, 41]⟩)))), (9, (.c (.t (.str ⟨#[114, 40, 88, 89, 41, 32, 114, 40, 89, 90, 41]⟩)))), (10, (.c (.t (.str ⟨#[114, 40, 88, 89, 41, 32, 115, 40, 89, 88, 41]⟩)))), (11, (.c (.t (.str ⟨#[118, 40, 88, 41, 32, 114, 40, 88, 89, 41, 32, 115, 40, 89, 90, 41, 32, 116, 40, 90, 85, 41]⟩)))), (12, (.c (.t (.str ⟨#[114, 40, 88, 89, 41, 32, 115, 40, 89, 90, 41, 32, 116, 40, 90, 85, 41, 32, 115, 40, 85, 88, 41]⟩))))]⟩,
    ⟨(some 3), none, .mov (.s 13)⟩] [0, 2, 3])
  (.seq (.reg [
    ⟨(some 15), none, .mov (.s 0)⟩,
    ⟨(some 16), none, .mov (.s 3)⟩,
    ⟨(some 17), none, .call 171 [(.s 15), (.s 16)]⟩,
    ⟨(some 18), none, .call 170 [(.s 17)]⟩,
    ⟨(some 14), none, .mov (.s 18)⟩,
    ⟨(some 19), none, .ext (.s 14) 0⟩,
    ⟨(some 20), none, .ext (.s 14) 1⟩,
    ⟨(some 4), none, .alloc [(.t (.int .i64 0)), (.t .nil)]⟩,
    ⟨none, none, .store 2 (.s 4) (.s 19)⟩,
    ⟨(some 5), none, .mov (.s 20)⟩] [0, 2, 4])
  (.seq (.seq (.reg [
    ⟨(some 21), none, .mov (.s 0)⟩,
    ⟨(some 22), none, .call 130 [(.s 21), (.c (.t (.int .i64 4)))]⟩,
    ⟨(some 23), none, .un .not (.s 22)⟩] [0, 2, 4, 23])
  (.cond (.s 23)
    (.seq (.reg [
      ⟨(some 24), none, .load (some 2) (.s 4)⟩,
      ⟨none, none, .store 2 (.s 2) (.s 24)⟩] [2])
    (.ret))
    (.skip)))
  (.seq (.reg [
    ⟨(some 25), none, .build [(.t (.int .i64 0)), (.t .nil)] []⟩,
    ⟨(some 6), none, .alloc [(.t (.int .i64 0)), (.t .nil)]⟩,
    ⟨none, none, .store 2 (.s 6) (.s 25)⟩] [0, 2, 4, 6])
  (.seq (.seq (.reg [
    ⟨(some 26), none, .mov (.s 0)⟩,
    ⟨(some 27), none, .call 90 [(.s 26), (.c (.t (.int .i64 4)))]⟩,
    ⟨(some 28), none, .bin .add (.c (.t (.int .i64 1))) (.s 27)⟩,
    ⟨(some 7), none, .mov (.s 28)⟩] [0, 2, 4, 6, 7])
  (.block 0 (.loop [0, 2, 4, 6, 7] B_spec_l7Query_1)))
  (.seq (.seq (.reg [
    ⟨(some 72), none, .load (some 2) (.s 6)⟩,
    ⟨(some 73), none, .call 105 [(.s 72)]⟩,
    ⟨(some 74), none, .un .not (.s 73)⟩] [2, 4, 6, 74])
  (.cond (.s 74)
    (.seq (.reg [
      ⟨(some 75), none, .load (some 2) (.s 4)⟩,
      ⟨none, none, .store 2 (.s 2) (.s 75)⟩] [2])
    (.ret))
    (.skip)))
  (.seq (.reg [
    ⟨(some 76), none, .load (some 2) (.s 6)⟩,
    ⟨none, none, .store 2 (.s 2) (.s 76)⟩] [2])
  (.ret))))))))⟩
theorem t_spec_l7Query : tbl 163 = some M_spec_l7Query := tblOf_eq Try.func163 (by kernel_rfl) (by kernel_rfl)

end Go.Proofs.Ytiniphmomjnocaa
