/-
  Parts of the proofs for this seat: D2 T1 T2 T3 G1 G2 G3.
-/
import Derived.Test.YtbapkgocloaaeaaGreatP8
set_option linter.unusedSimpArgs false
set_option linter.unusedVariables false
set_option maxRecDepth 100000
set_option maxHeartbeats 4000000
/- part: D2 -/
namespace Go.Proofs.YtbapkgocloaaeaaGreat
open Go.AM
def Zkq : MCode := .seq (.seq (.reg [.m 28 7, .o 29 (.faddr 1 (.s 6)), .o 30 (.load none (.s 29)), .o 31 (.len false (.s 30)), .o 32 (.bin .lss (.s 28) (.s 31))] [1, 3, 4, 5, 6, 7, 32]) (.cond (.s 32) (.skip) (.exit 2))) (.seq (.block 3 (.drw [.o 35 (.faddr 2 (.s 6)), .o 36 (.load none (.s 35)), .o 37 (.load (some 2) (.s 1)), .o 38 (.faddr 1 (.s 6)), .o 39 (.load none (.s 38)), .m 40 7, .o 41 (.iaddr 1 (.s 39) (.s 40)), .o 42 (.load none (.s 41)), .m 43 4, .m 44 5, .o 45 (.iaddr 1 (.s 43) (.s 44)), .o 46 (.load none (.s 45)), .o 47 (.faddr 1 (.s 6)), .o 48 (.load none (.s 47)), .m 49 7, .o 50 (.iaddr 1 (.s 48) (.s 49)), .o 51 (.load none (.s 50)), .o 52 (.bin .sub (.s 46) (.s 51)), .o 53 (.call 207 [.s 37, .s 42, .s 52]), .o 54 (.bslice 38 1 1 [.lst 1 []] [(0, .s 53)]), .o 55 (.append 38 1 24 true (.s 36) (.s 54)), .o 56 (.faddr 2 (.s 6)), .n (.store 1 (.s 56) (.s 55))] [[], [0], [], [], [3], [], [4, 5], [6], [], [], [8, 9], [10], [], [12], [], [13, 14], [15], [11, 16], [2, 7, 17], [18], [1, 19, 18], [0, 1, 2, 3, 4, 5, 6, 7, 8, 9, 10, 11, 12, 13, 14, 15, 16, 17, 18, 19, 20], [21, 20, 20, 0, 1, 2, 3, 4, 5, 6, 7, 8, 9, 10, 11, 12, 13, 14, 15, 16, 17, 18, 19, 20]] [1, 3, 4, 5, 6, 7])) (.reg [.m 33 7, .o 34 (.bin .add (.s 33) (.k 1)), .m 7 34] [1, 3, 4, 5, 6, 7]))
def Zkr : MCode := .reg [.m 57 3, .o 58 (.load (some 3) (.s 6)), .o 59 (.bslice 242 3 1 [.int .i64 0, .lst 1 [], .lst 1 []] [(0, .s 58)]), .o 60 (.append 242 3 56 true (.s 57) (.s 59)), .m 3 60] [1, 3, 4, 5]
def Zks : MCode := .reg [.m 15 5, .o 16 (.bin .add (.s 15) (.k 1)), .m 5 16] [1, 3, 4, 5]
def Zkt : MCode := .seq (.seq (.reg [.m 11 5, .m 12 4, .o 13 (.len false (.s 12)), .o 14 (.bin .lss (.s 11) (.s 13))] [1, 3, 4, 5, 14]) (.cond (.s 14) (.skip) (.exit 0))) (.seq (.block 1 (.seq (.drw [.m 17 4, .m 18 5, .o 19 (.iaddr 1 (.s 17) (.s 18)), .o 20 (.load none (.s 19)), .o 21 (.load (some 2) (.s 1)), .m 22 4, .m 23 5, .o 24 (.iaddr 1 (.s 22) (.s 23)), .o 25 (.load none (.s 24)), .o 26 (.call 206 [.s 21, .s 25]), .o 27 (.build [.t (.int .i64 0), .t .nil, .t .nil] [(0, 1, .s 20), (1, 1, .s 26)]), .o 6 (.alloc [.t (.int .i64 0), .t .nil, .t .nil]), .n (.store 3 (.s 6) (.s 27))] [[], [], [0, 1], [2], [], [], [], [5, 6], [7], [4, 8], [3, 9], [], [11, 10, 9, 0, 1, 2, 3, 4, 5, 6, 7, 8, 9, 10, 11]] [1, 3, 4, 5, 6]) (.seq (.seq (.reg [.o 7 (.mov (.k 0))] [1, 3, 4, 5, 6, 7]) (.block 2 (.loop [1, 3, 4, 5, 6, 7] Zkq))) Zkr))) Zks)
def Zku : MCode := .seq (.reg [.m 61 3, .m 2 61] [2]) (.ret)
def Zwl : MFun := ⟨1, 62, [.tmp 2], .seq (.reg [.o 1 (.box (.s 0)), .o 2 (.mov (.c (.t .nil)))] [1]) (.seq (.reg [.o 8 (.bslice 242 3 0 [.int .i64 0, .lst 1 [], .lst 1 []] []), .m 3 8] [1, 3]) (.seq (.reg [.o 9 (.load (some 2) (.s 1)), .o 10 (.call 205 [.s 9]), .m 4 10] [1, 3, 4]) (.seq (.seq (.reg [.o 5 (.mov (.k 0))] [1, 3, 4, 5]) (.block 0 (.loop [1, 3, 4, 5] Zkt))) Zku)))⟩
noncomputable def Zkv (a : Zb) : Rs := C 121 [.agg (a.c.map .t)] []
noncomputable def Zdo (q : Zb) (out : List Zr) (masks : List Int) (i : Int) : Rs := EvL C [.blk 0, .seq Zku, .fin 0 [.tmp 2]] [1, 3, 4, 5] Zkt ⟨[(1, .ptr 0 0), (3, .own 1), (4, .own 2), (5, I i)], [[]], [.box (q.c.map .t), .arr 242 3 true (out.map Zr.c), .arr 3 1 true (masks.map ic)]⟩
noncomputable def Zkw (q : Zb) (out : List Zr) (masks : List Int) (mask : Int) (x : List Int) (i : Int) (k : Int) : Rs := EvL C [.blk 2, .seq Zkr, .blk 1, .seq Zks, .loop [1, 3, 4, 5] Zkt, .blk 0, .seq Zku, .fin 0 [.tmp 2]] [1, 3, 4, 5, 6, 7] Zkq ⟨[(1, .ptr 0 0), (3, .own 1), (4, .own 2), (5, I i), (6, .ptr 3 0), (7, I k)], [[]], [.box (q.c.map .t), .arr 242 3 true (out.map Zr.c), .arr 3 1 true (masks.map ic), .box [I mask, .own 4, .t .nil], .arr 3 1 true (x.map ic)]⟩
noncomputable def Zhs (q : Zb) (out : List Zr) (masks : List Int) (mask : Int) (x : List Int) (x1 : List (List Int)) (i : Int) (k : Int) : Rs := EvL C [.blk 2, .seq Zkr, .blk 1, .seq Zks, .loop [1, 3, 4, 5] Zkt, .blk 0, .seq Zku, .fin 0 [.tmp 2]] [1, 3, 4, 5, 6, 7] Zkq ⟨[(1, .ptr 0 0), (3, .own 1), (4, .own 2), (5, I i), (6, .ptr 3 0), (7, I k)], [[]], [.box (q.c.map .t), .arr 242 3 true (out.map Zr.c), .arr 3 1 true (masks.map ic), .box [I mask, .own 4, .own 5], .arr 3 1 true (x.map ic), .arr 38 1 true (x1.map isc)]⟩
def Zqs : MCode := .seq (.seq (.reg [.m 6 4, .m 7 0, .o 8 (.len false (.s 7)), .o 9 (.bin .lss (.s 6) (.s 8)), .m 10 9, .g 11 10 (.mov (.s 0)), .g 12 10 (.call 212 [.s 11]), .o 13 (.pick (.s 10) (.s 12) (.c (.t (.bool false))))] [0, 3, 4, 13]) (.cond (.s 13) (.skip) (.exit 0))) (.seq (.block 1 (.reg [.m 16 3, .m 17 0, .m 18 4, .o 19 (.iaddr 1 (.s 17) (.s 18)), .o 20 (.load none (.s 19)), .o 21 (.call 184 [.s 20]), .o 22 (.bslice 3 1 1 [.int .i64 0] [(0, .s 21)]), .o 23 (.append 3 1 8 true (.s 16) (.s 22)), .m 3 23] [0, 3, 4])) (.reg [.m 14 4, .o 15 (.bin .add (.s 14) (.k 1)), .m 4 15] [0, 3, 4]))
def Zqt : MCode := .seq (.reg [.m 24 3, .m 2 24] [2]) (.ret)
def Zwm : MFun := ⟨1, 25, [.tmp 2], .seq (.reg [.o 2 (.mov (.c (.t .nil)))] [0]) (.seq (.reg [.o 5 (.bslice 3 1 0 [.int .i64 0] []), .m 3 5] [0, 3]) (.seq (.seq (.reg [.o 4 (.mov (.k 0))] [0, 3, 4]) (.block 0 (.loop [0, 3, 4] Zqs))) Zqt))⟩
noncomputable def Zht (a : List Int) : Rs := C 125 [L 1 (a.map ic)] []
noncomputable def Zhu (out : List Int) (l : List Int) (i : Int) : Rs := EvL C [.blk 0, .seq Zqt, .fin 0 [.tmp 2]] [0, 3, 4] Zqs ⟨[(0, L 1 (l.map ic)), (3, .own 0), (4, I i)], [[]], [.arr 3 1 true (out.map ic)]⟩
def Zwn : MCode := .reg [.m 12 4, .o 13 (.bin .add (.s 12) (.k 1)), .m 4 13] [0, 3, 4]
def Zqu : MCode := .seq (.seq (.reg [.m 6 4, .o 7 (.bin .lss (.s 6) (.k 4)), .m 8 7, .g 9 8 (.mov (.s 0)), .g 10 8 (.call 137 [.s 9, .c (.t (.int .i64 0)), .c (.t (.int .i64 15))]), .o 11 (.pick (.s 8) (.s 10) (.c (.t (.bool false))))] [0, 3, 4, 11]) (.cond (.s 11) (.skip) (.exit 0))) (.seq (.block 1 (.seq (.reg [.m 14 0, .m 15 4, .o 16 (.bin .shr (.s 14) (.s 15)), .o 17 (.bin .and (.s 16) (.k 1)), .o 18 (.bin .eql (.s 17) (.k 1))] [0, 3, 4, 18]) (.cond (.s 18) (.reg [.m 19 3, .m 20 4, .o 21 (.bslice 3 1 1 [.int .i64 0] [(0, .s 20)]), .o 22 (.append 3 1 8 true (.s 19) (.s 21)), .m 3 22] [0, 3, 4]) (.skip)))) Zwn)
def Zqv : MCode := .seq (.reg [.m 23 3, .m 2 23] [2]) (.ret)
def Zwo : MFun := ⟨1, 24, [.tmp 2], .seq (.reg [.o 2 (.mov (.c (.t .nil)))] [0]) (.seq (.reg [.o 5 (.bslice 3 1 0 [.int .i64 0] []), .m 3 5] [0, 3]) (.seq (.seq (.reg [.o 4 (.mov (.k 0))] [0, 3, 4]) (.block 0 (.loop [0, 3, 4] Zqu))) Zqv))⟩
noncomputable def Zkx (a : Int) : Rs := C 209 [I a] []
noncomputable def Zf9 (out : List Int) (mask : Int) (i : Int) : Rs := EvL C [.blk 0, .seq Zqv, .fin 0 [.tmp 2]] [0, 3, 4] Zqu ⟨[(0, I mask), (3, .own 0), (4, I i)], [[]], [.arr 3 1 true (out.map ic)]⟩
def Zwp : MFun := ⟨1, 7, [.cell 2 (some 1)], .seq (.reg [.o 2 (.alloc [.t .nil])] [0, 2]) (.seq (.reg [.m 3 0, .o 4 (.build [.t (.int .i64 0), .t (.int .i64 0), .t (.int .i64 0)] [(0, 1, .c (.t (.int .i64 1))), (1, 1, .s 3)]), .o 5 (.bslice 142 3 1 [.int .i64 0, .int .i64 0, .int .i64 0] [(0, .s 4)]), .o 6 (.build [.t .nil] [(0, 1, .s 5)]), .n (.store 1 (.s 2) (.s 6))] [2]) (.ret))⟩
noncomputable def Zky (a : Int) : Rs := C 210 [I a] []
def Zwq : MCode := .reg [.m 11 6, .o 12 (.bin .add (.s 11) (.k 1)), .m 6 12] [0, 1, 5, 6]
def Zqw : MCode := .seq (.seq (.reg [.m 7 6, .m 8 0, .o 9 (.len false (.s 8)), .o 10 (.bin .lss (.s 7) (.s 9))] [0, 1, 5, 6, 10]) (.cond (.s 10) (.skip) (.exit 0))) (.seq (.block 1 (.seq (.drw [.m 13 0, .m 14 6, .o 15 (.iaddr 4 (.s 13) (.s 14)), .o 16 (.faddr 0 (.s 15)), .o 17 (.load none (.s 16)), .m 18 1, .o 19 (.bin .eql (.s 17) (.s 18)), .m 20 19, .g 21 20 (.mov (.s 5)), .g 22 20 (.bin .lss (.s 21) (.k 0)), .g 23 20 (.mov (.s 22)), .h 24 23 (.mov (.s 0)), .h 25 23 (.mov (.s 6)), .h 26 23 (.iaddr 4 (.s 24) (.s 25)), .h 27 23 (.faddr 2 (.s 26)), .h 28 23 (.load none (.s 27)), .h 29 23 (.mov (.s 0)), .h 30 23 (.mov (.s 5)), .h 31 23 (.iaddr 4 (.s 29) (.s 30)), .h 32 23 (.faddr 2 (.s 31)), .h 33 23 (.load none (.s 32)), .h 34 23 (.bin .lss (.s 28) (.s 33)), .g 35 20 (.pick (.s 23) (.c (.t (.bool true))) (.s 34)), .o 36 (.pick (.s 20) (.s 35) (.c (.t (.bool false))))] [[], [], [0, 1], [2], [3], [], [4, 5], [6], [7], [8, 7], [9, 7, 7], [10], [10], [11, 12, 10], [13, 10], [14, 10], [10], [10], [16, 17, 10], [18, 10], [19, 10], [15, 20, 10], [10, 21, 7], [7, 22]] [0, 1, 5, 6, 36]) (.cond (.s 36) (.reg [.m 37 6, .m 5 37] [0, 1, 5, 6]) (.skip)))) Zwq)
def Zqx : MCode := .seq (.reg [.m 38 5, .m 4 38] [4]) (.ret)
def Zwr : MFun := ⟨2, 39, [.tmp 4], .seq (.reg [.o 4 (.mov (.k 0))] [0, 1]) (.seq (.reg [.o 5 (.mov (.k (-1)))] [0, 1, 5]) (.seq (.seq (.reg [.o 6 (.mov (.k 0))] [0, 1, 5, 6]) (.block 0 (.loop [0, 1, 5, 6] Zqw))) Zqx))⟩
noncomputable def Zd7 (a : List Za) (a1 : Int) : Rs := C 208 [L 4 (a.map Za.c), I a1] []
noncomputable def Zd8 (l : List Za) (mask : Int) (best : Int) (i : Int) : Rs := EvL C [.blk 0, .seq Zqx, .fin 0 [.tmp 4]] [0, 1, 5, 6] Zqw ⟨[(0, L 4 (l.map Za.c)), (1, I mask), (5, I best), (6, I i)], [[]], []⟩
def Zws : MFun := ⟨4, 30, [.cell 8 (some 1)], .seq (.reg [.o 4 (.box (.s 0)), .o 5 (.box (.s 1)), .o 8 (.alloc [.t .nil])] [2, 3, 4, 5, 8]) (.seq (.reg [.o 10 (.bslice 142 3 0 [.int .i64 0, .int .i64 0, .int .i64 0] []), .o 11 (.faddr 0 (.s 4)), .o 12 (.load none (.s 11)), .o 13 (.append 142 3 24 false (.s 10) (.s 12)), .o 14 (.build [.t .nil] [(0, 1, .s 13)]), .o 9 (.alloc [.t .nil]), .n (.store 1 (.s 9) (.s 14))] [2, 3, 5, 8, 9]) (.seq (.reg [.o 15 (.faddr 0 (.s 9)), .o 16 (.load none (.s 15)), .o 17 (.faddr 0 (.s 5)), .o 18 (.load none (.s 17)), .o 19 (.append 142 3 24 false (.s 16) (.s 18)), .o 20 (.faddr 0 (.s 9)), .n (.store 1 (.s 20) (.s 19))] [2, 3, 8, 9]) (.seq (.reg [.o 21 (.faddr 0 (.s 9)), .o 22 (.load none (.s 21)), .m 23 2, .m 24 3, .o 25 (.build [.t (.int .i64 0), .t (.int .i64 0), .t (.int .i64 0)] [(0, 1, .s 23), (2, 1, .s 24)]), .o 26 (.bslice 142 3 1 [.int .i64 0, .int .i64 0, .int .i64 0] [(0, .s 25)]), .o 27 (.append 142 3 24 true (.s 22) (.s 26)), .o 28 (.faddr 0 (.s 9)), .n (.store 1 (.s 28) (.s 27))] [8, 9]) (.seq (.reg [.o 29 (.load (some 1) (.s 9)), .n (.store 1 (.s 8) (.s 29))] [8]) (.ret)))))⟩
noncomputable def Zce (a : Plan) (a1 : Plan) (a2 : Int) (a3 : Int) : Rs := C 229 [.agg (a.c.map .t), .agg (a1.c.map .t), I a2, I a3] []
def Zkz : MFun := ⟨8, 81, [], .seq (.reg [.o 8 (.box (.s 0)), .o 11 (.box (.s 3)), .o 12 (.box (.s 4))] [1, 2, 5, 6, 7, 8, 11, 12]) (.seq (.drw [.o 17 (.faddr 2 (.s 11)), .o 18 (.load none (.s 17)), .o 19 (.faddr 2 (.s 12)), .o 20 (.load none (.s 19)), .o 21 (.bin .add (.s 18) (.s 20)), .o 22 (.load (some 30) (.s 8)), .m 23 5, .o 24 (.call 92 [.s 22, .s 23]), .m 25 1, .o 26 (.faddr 0 (.s 11)), .o 27 (.load none (.s 26)), .o 28 (.iaddr 1 (.s 25) (.s 27)), .o 29 (.load none (.s 28)), .m 30 1, .o 31 (.faddr 0 (.s 12)), .o 32 (.load none (.s 31)), .o 33 (.iaddr 1 (.s 30) (.s 32)), .o 34 (.load none (.s 33)), .m 35 1, .o 36 (.faddr 0 (.s 11)), .o 37 (.load none (.s 36)), .o 38 (.faddr 0 (.s 12)), .o 39 (.load none (.s 38)), .o 40 (.bin .or (.s 37) (.s 39)), .o 41 (.iaddr 1 (.s 35) (.s 40)), .o 42 (.load none (.s 41)), .o 43 (.call 91 [.s 24, .s 29, .s 34, .s 42]), .o 44 (.bin .add (.s 21) (.s 43)), .m 16 44] [[], [0], [], [2], [1, 3], [], [], [5, 6], [], [], [9], [8, 10], [11], [], [], [14], [13, 15], [16], [], [], [19], [], [21], [20, 22], [18, 23], [24], [7, 12, 17, 25, 7], [4, 26], [27, 26, 0, 1, 2, 3, 4, 5, 6, 7, 8, 9, 10, 11, 12, 13, 14, 15, 16, 17, 18, 19, 20, 21, 22, 23, 24, 25, 26, 27]] [2, 5, 6, 7, 11, 12, 16]) (.seq (.reg [.m 45 2, .m 46 7, .o 47 (.bin .add (.s 46) (.k 1)), .o 48 (.iaddr 4 (.s 45) (.s 47)), .o 49 (.faddr 0 (.s 48)), .o 50 (.load none (.s 49)), .o 51 (.bin .eql (.s 50) (.k 0)), .m 52 51, .h 53 52 (.mov (.s 16)), .h 54 52 (.mov (.s 2)), .h 55 52 (.mov (.s 7)), .h 56 52 (.bin .add (.s 55) (.k 1)), .h 57 52 (.iaddr 4 (.s 54) (.s 56)), .h 58 52 (.faddr 2 (.s 57)), .h 59 52 (.load none (.s 58)), .h 60 52 (.bin .lss (.s 53) (.s 59)), .o 61 (.pick (.s 52) (.c (.t (.bool true))) (.s 60))] [2, 5, 6, 7, 11, 12, 16, 61]) (.cond (.s 61) (.drw [.m 62 2, .m 63 7, .o 64 (.bin .add (.s 63) (.k 1)), .o 65 (.faddr 0 (.s 11)), .o 66 (.load none (.s 65)), .o 67 (.faddr 0 (.s 12)), .o 68 (.load none (.s 67)), .o 69 (.bin .or (.s 66) (.s 68)), .m 70 7, .m 71 16, .o 72 (.faddr 3 (.s 11)), .o 73 (.load (some 1) (.s 72)), .o 74 (.faddr 3 (.s 12)), .o 75 (.load (some 1) (.s 74)), .m 76 5, .m 77 6, .o 78 (.call 229 [.s 73, .s 75, .s 76, .s 77]), .o 79 (.build [.t (.int .i64 0), .t (.int .i64 0), .t (.int .i64 0), .t .nil] [(0, 1, .s 69), (1, 1, .s 70), (2, 1, .s 71), (3, 1, .s 78)]), .o 80 (.iaddr 4 (.s 62) (.s 64)), .n (.store 4 (.s 80) (.s 79))] [[], [], [1], [], [3], [], [5], [4, 6], [], [], [], [10], [], [12], [], [], [11, 13, 14, 15], [7, 8, 9, 16], [0, 2, 0, 1, 2, 3, 4, 5, 6, 7, 8, 9, 10, 11, 12, 13, 14, 15, 16, 17], [18, 17, 16, 0, 1, 2, 3, 4, 5, 6, 7, 8, 9, 10, 11, 12, 13, 14, 15, 16, 17]] []) (.skip))))⟩
noncomputable def Ze4 (x : List Int) (x1 : List Za) (a : Zd) (a1 : Za) (a2 : Za) (a3 : Int) (a4 : Int) (a5 : Int) : Rs := C 271 [.agg (a.c.map .t), .own 0, .own 1, .agg (a1.c.map .t), .agg (a2.c.map .t), I a3, I a4, I a5] [.arr 3 1 true (x.map ic), .arr 174 4 true (x1.map Za.c)]
def Zqy : MCode := .seq (.seq (.reg [.m 8 7, .m 9 0, .o 10 (.len false (.s 9)), .o 11 (.bin .lss (.s 8) (.s 10))] [0, 1, 2, 7, 11]) (.cond (.s 11) (.skip) (.exit 0))) (.seq (.block 1 (.seq (.reg [.m 14 0, .m 15 7, .o 16 (.iaddr 4 (.s 14) (.s 15)), .o 17 (.faddr 0 (.s 16)), .o 18 (.load none (.s 17)), .m 19 1, .o 20 (.bin .eql (.s 18) (.s 19)), .m 21 20, .g 22 21 (.mov (.s 0)), .g 23 21 (.mov (.s 7)), .g 24 21 (.iaddr 4 (.s 22) (.s 23)), .g 25 21 (.faddr 1 (.s 24)), .g 26 21 (.load none (.s 25)), .g 27 21 (.mov (.s 2)), .g 28 21 (.bin .eql (.s 26) (.s 27)), .o 29 (.pick (.s 21) (.s 28) (.c (.t (.bool false))))] [0, 1, 2, 7, 29]) (.cond (.s 29) (.seq (.reg [.m 30 7, .m 6 30] [6]) (.ret)) (.skip)))) (.reg [.m 12 7, .o 13 (.bin .add (.s 12) (.k 1)), .m 7 13] [0, 1, 2, 7]))
def Zqz : MCode := .seq (.reg [.o 6 (.mov (.k (-1)))] [6]) (.ret)
def Zwt : MFun := ⟨3, 31, [.tmp 6], .seq (.reg [.o 6 (.mov (.k 0))] [0, 1, 2]) (.seq (.seq (.reg [.o 7 (.mov (.k 0))] [0, 1, 2, 7]) (.block 0 (.loop [0, 1, 2, 7] Zqy))) Zqz)⟩
noncomputable def Zhv (a : List Za) (a1 : Int) (a2 : Int) : Rs := C 272 [L 4 (a.map Za.c), I a1, I a2] []
noncomputable def Zga (l : List Za) (mask : Int) (order : Int) (i : Int) : Rs := EvL C [.blk 0, .seq Zqz, .fin 0 [.tmp 6]] [0, 1, 2, 7] Zqy ⟨[(0, L 4 (l.map Za.c)), (1, I mask), (2, I order), (7, I i)], [[]], []⟩
def Zwu : MFun := ⟨2, 19, [.cell 4 (some 1)], .seq (.reg [.o 2 (.box (.s 0)), .o 4 (.alloc [.t .nil])] [1, 2, 4]) (.seq (.reg [.o 6 (.bslice 142 3 0 [.int .i64 0, .int .i64 0, .int .i64 0] []), .o 7 (.faddr 0 (.s 2)), .o 8 (.load none (.s 7)), .o 9 (.append 142 3 24 false (.s 6) (.s 8)), .o 10 (.build [.t .nil] [(0, 1, .s 9)]), .o 5 (.alloc [.t .nil]), .n (.store 1 (.s 5) (.s 10))] [1, 4, 5]) (.seq (.reg [.o 11 (.faddr 0 (.s 5)), .o 12 (.load none (.s 11)), .m 13 1, .o 14 (.build [.t (.int .i64 0), .t (.int .i64 0), .t (.int .i64 0)] [(0, 1, .c (.t (.int .i64 2))), (2, 1, .s 13)]), .o 15 (.bslice 142 3 1 [.int .i64 0, .int .i64 0, .int .i64 0] [(0, .s 14)]), .o 16 (.append 142 3 24 true (.s 12) (.s 15)), .o 17 (.faddr 0 (.s 5)), .n (.store 1 (.s 17) (.s 16))] [4, 5]) (.seq (.reg [.o 18 (.load (some 1) (.s 5)), .n (.store 1 (.s 4) (.s 18))] [4]) (.ret))))⟩
noncomputable def Zit (a : Plan) (a1 : Int) : Rs := C 231 [.agg (a.c.map .t), I a1] []
noncomputable def Zk0 (x : List Int) (x1 : List Za) (x2 : List Zc) (a : Zd) (a1 : Za) (Mask : Int) (Order : Int) (Cost : Int) (a2 : Int) (a3 : Int) (a4 : Int) : Rs := C 271 [.agg (a.c.map .t), .own 0, .own 1, .agg (a1.c.map .t), .agg [I Mask, I Order, I Cost, .own 2], I a2, I a3, I a4] [.arr 3 1 true (x.map ic), .arr 174 4 true (x1.map Za.c), .arr 142 3 true (x2.map Zc.c)]
noncomputable def Zk1 (x : List Int) (x1 : List Za) (x2 : List Zc) (a : Zd) (Mask : Int) (Order : Int) (Cost : Int) (a1 : Za) (a2 : Int) (a3 : Int) (a4 : Int) : Rs := C 271 [.agg (a.c.map .t), .own 0, .own 1, .agg [I Mask, I Order, I Cost, .own 2], .agg (a1.c.map .t), I a2, I a3, I a4] [.arr 3 1 true (x.map ic), .arr 174 4 true (x1.map Za.c), .arr 142 3 true (x2.map Zc.c)]
noncomputable def Zk2 (x : List Int) (x1 : List Za) (x2 : List Zc) (x3 : List Zc) (a : Zd) (Mask : Int) (Order : Int) (Cost : Int) (Mask1 : Int) (Order1 : Int) (Cost1 : Int) (a1 : Int) (a2 : Int) (a3 : Int) : Rs := C 271 [.agg (a.c.map .t), .own 0, .own 1, .agg [I Mask, I Order, I Cost, .own 2], .agg [I Mask1, I Order1, I Cost1, .own 3], I a1, I a2, I a3] [.arr 3 1 true (x.map ic), .arr 174 4 true (x1.map Za.c), .arr 142 3 true (x2.map Zc.c), .arr 142 3 true (x3.map Zc.c)]
def Zwv : MFun := ⟨5, 61, [.cell 10 (some 4)], .seq (.reg [.o 5 (.box (.s 0)), .o 10 (.alloc [.t (.int .i64 0), .t (.int .i64 0), .t (.int .i64 0), .t .nil])] [1, 2, 3, 4, 5, 10]) (.seq (.reg [.m 14 2, .m 15 2, .m 16 3, .o 17 (.call 208 [.s 15, .s 16]), .o 18 (.iaddr 4 (.s 14) (.s 17)), .o 19 (.load (some 4) (.s 18)), .o 11 (.alloc [.t (.int .i64 0), .t (.int .i64 0), .t (.int .i64 0), .t .nil]), .n (.store 4 (.s 11) (.s 19))] [1, 2, 3, 4, 5, 10, 11]) (.seq (.drw [.o 20 (.faddr 2 (.s 11)), .o 21 (.load none (.s 20)), .o 22 (.faddr 6 (.s 5)), .o 23 (.load (some 6) (.s 22)), .m 24 1, .m 25 3, .o 26 (.iaddr 1 (.s 24) (.s 25)), .o 27 (.load none (.s 26)), .m 28 1, .m 29 3, .o 30 (.iaddr 1 (.s 28) (.s 29)), .o 31 (.load none (.s 30)), .o 32 (.call 91 [.s 23, .s 27, .c (.t (.int .i64 0)), .s 31]), .o 33 (.bin .add (.s 21) (.s 32)), .m 12 33] [[], [0], [], [2], [], [], [4, 5], [6], [], [], [8, 9], [10], [3, 7, 11], [1, 12], [13, 12, 0, 1, 2, 3, 4, 5, 6, 7, 8, 9, 10, 11, 12, 13]] [2, 3, 4, 10, 11, 12]) (.seq (.reg [.m 34 2, .m 35 3, .m 36 4, .o 37 (.call 272 [.s 34, .s 35, .s 36]), .m 13 37] [2, 3, 4, 10, 11, 12, 13]) (.seq (.seq (.reg [.m 38 13, .o 39 (.bin .geq (.s 38) (.k 0)), .m 40 39, .g 41 40 (.mov (.s 2)), .g 42 40 (.mov (.s 13)), .g 43 40 (.iaddr 4 (.s 41) (.s 42)), .g 44 40 (.faddr 2 (.s 43)), .g 45 40 (.load none (.s 44)), .g 46 40 (.mov (.s 12)), .g 47 40 (.bin .leq (.s 45) (.s 46)), .o 48 (.pick (.s 40) (.s 47) (.c (.t (.bool false))))] [2, 3, 4, 10, 11, 12, 13, 48]) (.cond (.s 48) (.seq (.reg [.m 49 2, .m 50 13, .o 51 (.iaddr 4 (.s 49) (.s 50)), .o 52 (.load (some 4) (.s 51)), .n (.store 4 (.s 10) (.s 52))] [10]) (.ret)) (.skip))) (.seq (.reg [.m 53 3, .m 54 4, .m 55 12, .o 56 (.faddr 3 (.s 11)), .o 57 (.load (some 1) (.s 56)), .m 58 4, .o 59 (.call 231 [.s 57, .s 58]), .o 60 (.build [.t (.int .i64 0), .t (.int .i64 0), .t (.int .i64 0), .t .nil] [(0, 1, .s 53), (1, 1, .s 54), (2, 1, .s 55), (3, 1, .s 59)]), .n (.store 4 (.s 10) (.s 60))] [10]) (.ret))))))⟩
noncomputable def Zdp (x : List Int) (fr : Bool) (x1 : List Za) (a : Zd) (a1 : Int) (a2 : Int) : Rs := C 273 [.agg (a.c.map .t), .own 0, .own 1, I a1, I a2] [.arr 3 1 true (x.map ic), .arr 174 4 fr (x1.map Za.c)]
def Zww : MCode := .reg [.m 58 15, .o 59 (.bin .add (.s 58) (.k 1)), .m 15 59] [1, 2, 4, 7, 9, 10, 11, 12, 14, 15]
def Zq0 : MCode := .seq (.seq (.reg [.m 56 15, .o 57 (.bin .lss (.s 56) (.k 4))] [1, 2, 4, 7, 9, 10, 11, 12, 14, 15, 57]) (.cond (.s 57) (.skip) (.exit 2))) (.seq (.block 3 (.seq (.reg [.m 60 2, .m 61 11, .m 62 15, .o 63 (.call 272 [.s 60, .s 61, .s 62]), .m 16 63] [1, 2, 4, 7, 9, 10, 11, 12, 14, 15, 16]) (.seq (.reg [.m 64 16, .o 65 (.bin .geq (.s 64) (.k 0))] [1, 2, 4, 7, 9, 10, 11, 12, 14, 15, 16, 65]) (.cond (.s 65) (.drw [.o 66 (.load (some 30) (.s 4)), .m 67 1, .m 68 9, .m 69 2, .m 70 16, .o 71 (.iaddr 4 (.s 69) (.s 70)), .o 72 (.load (some 4) (.s 71)), .o 73 (.load (some 4) (.s 14)), .m 74 15, .o 75 (.icall 271 [.s 66, .s 67, .s 68, .s 72, .s 73, .c (.t (.int .i64 5)), .c (.t (.int .i64 0)), .s 74])] [[], [], [], [], [], [3, 4], [5], [], [], [0, 1, 2, 6, 7, 8]] [1, 2, 4, 7, 9, 10, 11, 12, 14, 15]) (.skip))))) Zww)
def Zq1 : MCode := .seq (.seq (.reg [.m 76 17, .o 77 (.faddr 2 (.s 7)), .o 78 (.load none (.s 77)), .m 79 10, .o 80 (.iaddr 1 (.s 78) (.s 79)), .o 81 (.load none (.s 80)), .o 82 (.len false (.s 81)), .o 83 (.bin .lss (.s 76) (.s 82))] [1, 2, 4, 7, 9, 10, 11, 12, 17, 83]) (.cond (.s 83) (.skip) (.exit 4))) (.seq (.block 5 (.seq (.reg [.o 86 (.faddr 2 (.s 7)), .o 87 (.load none (.s 86)), .m 88 10, .o 89 (.iaddr 1 (.s 87) (.s 88)), .o 90 (.load none (.s 89)), .m 91 17, .o 92 (.iaddr 1 (.s 90) (.s 91)), .o 93 (.load none (.s 92)), .m 18 93] [1, 2, 4, 7, 9, 10, 11, 12, 17, 18]) (.drw [.o 94 (.load (some 30) (.s 4)), .m 95 1, .m 96 9, .o 97 (.load (some 30) (.s 4)), .m 98 1, .m 99 2, .m 100 11, .m 101 18, .o 102 (.pcall 273 [.s 97, .s 98, .s 99, .s 100, .s 101]), .o 103 (.load (some 30) (.s 4)), .m 104 1, .m 105 2, .m 106 12, .m 107 18, .o 108 (.pcall 273 [.s 103, .s 104, .s 105, .s 106, .s 107]), .m 109 18, .m 110 18, .o 111 (.icall 271 [.s 94, .s 95, .s 96, .s 102, .s 108, .c (.t (.int .i64 4)), .s 109, .s 110])] [[], [], [], [], [], [], [], [], [3, 4, 5, 6, 7], [], [], [], [], [], [9, 10, 11, 12, 13, 8], [], [], [0, 1, 2, 8, 14, 15, 16, 14]] [1, 2, 4, 7, 9, 10, 11, 12, 17]))) (.reg [.m 84 17, .o 85 (.bin .add (.s 84) (.k 1)), .m 17 85] [1, 2, 4, 7, 9, 10, 11, 12, 17]))
def Zq2 : MCode := .seq (.reg [.o 17 (.mov (.k 0))] [1, 2, 4, 7, 9, 10, 11, 12, 17]) (.block 4 (.loop [1, 2, 4, 7, 9, 10, 11, 12, 17] Zq1))
def Zmr : MCode := .reg [.m 27 10, .o 28 (.bin .add (.s 27) (.k 1)), .m 10 28] [1, 2, 4, 7, 9, 10]
def Zk3 : MCode := .seq (.seq (.reg [.m 22 10, .o 23 (.faddr 1 (.s 7)), .o 24 (.load none (.s 23)), .o 25 (.len false (.s 24)), .o 26 (.bin .lss (.s 22) (.s 25))] [1, 2, 4, 7, 9, 10, 26]) (.cond (.s 26) (.skip) (.exit 0))) (.seq (.block 1 (.seq (.reg [.o 29 (.faddr 1 (.s 7)), .o 30 (.load none (.s 29)), .m 31 10, .o 32 (.iaddr 1 (.s 30) (.s 31)), .o 33 (.load none (.s 32)), .m 11 33] [1, 2, 4, 7, 9, 10, 11]) (.seq (.reg [.o 34 (.faddr 0 (.s 7)), .o 35 (.load none (.s 34)), .m 36 11, .o 37 (.bin .sub (.s 35) (.s 36)), .m 12 37] [1, 2, 4, 7, 9, 10, 11, 12]) (.seq (.reg [.m 38 2, .m 39 2, .m 40 11, .o 41 (.call 208 [.s 39, .s 40]), .o 42 (.iaddr 4 (.s 38) (.s 41)), .o 43 (.load (some 4) (.s 42)), .o 13 (.alloc [.t (.int .i64 0), .t (.int .i64 0), .t (.int .i64 0), .t .nil]), .n (.store 4 (.s 13) (.s 43))] [1, 2, 4, 7, 9, 10, 11, 12, 13]) (.seq (.reg [.m 44 2, .m 45 2, .m 46 12, .o 47 (.call 208 [.s 45, .s 46]), .o 48 (.iaddr 4 (.s 44) (.s 47)), .o 49 (.load (some 4) (.s 48)), .o 14 (.alloc [.t (.int .i64 0), .t (.int .i64 0), .t (.int .i64 0), .t .nil]), .n (.store 4 (.s 14) (.s 49))] [1, 2, 4, 7, 9, 10, 11, 12, 13, 14]) (.seq (.reg [.o 50 (.load (some 30) (.s 4)), .m 51 1, .m 52 9, .o 53 (.load (some 4) (.s 13)), .o 54 (.load (some 4) (.s 14)), .o 55 (.icall 271 [.s 50, .s 51, .s 52, .s 53, .s 54, .c (.t (.int .i64 3)), .c (.t (.int .i64 0)), .c (.t (.int .i64 (-1)))])] [1, 2, 4, 7, 9, 10, 11, 12, 14]) (.seq (.seq (.reg [.o 15 (.mov (.k (-1)))] [1, 2, 4, 7, 9, 10, 11, 12, 14, 15]) (.block 2 (.loop [1, 2, 4, 7, 9, 10, 11, 12, 14, 15] Zq0))) Zq2))))))) Zmr)
def Zwx : MCode := .reg [.m 115 20, .o 116 (.bin .add (.s 115) (.k 1)), .m 20 116] [9, 19, 20]
def Zq3 : MCode := .seq (.seq (.reg [.m 113 20, .o 114 (.bin .leq (.s 113) (.k 4))] [9, 19, 20, 114]) (.cond (.s 114) (.skip) (.exit 6))) (.seq (.block 7 (.seq (.reg [.m 117 9, .m 118 20, .o 119 (.iaddr 4 (.s 117) (.s 118)), .o 120 (.faddr 0 (.s 119)), .o 121 (.load none (.s 120)), .o 122 (.bin .gtr (.s 121) (.k 0))] [9, 19, 20, 122]) (.cond (.s 122) (.reg [.m 123 19, .m 124 9, .m 125 20, .o 126 (.iaddr 4 (.s 124) (.s 125)), .o 127 (.load (some 4) (.s 126)), .o 128 (.bslice 174 4 1 [.int .i64 0, .int .i64 0, .int .i64 0, .lst 3 []] [(0, .s 127)]), .o 129 (.append 174 4 48 true (.s 123) (.s 128)), .m 19 129] [9, 19, 20]) (.skip)))) Zwx)
def Zq4 : MCode := .seq (.reg [.m 130 19, .m 8 130] [8]) (.ret)
def Zk4 : MCode := .seq (.reg [.o 112 (.bslice 174 4 0 [.int .i64 0, .int .i64 0, .int .i64 0, .lst 3 []] []), .m 19 112] [9, 19]) (.seq (.seq (.reg [.o 20 (.mov (.k 0))] [9, 19, 20]) (.block 6 (.loop [9, 19, 20] Zq3))) Zq4)
def Zwy : MFun := ⟨4, 131, [.tmp 8], .seq (.reg [.o 4 (.box (.s 0)), .o 7 (.box (.s 3)), .o 8 (.mov (.c (.t .nil)))] [1, 2, 4, 7]) (.seq (.reg [.o 21 (.mkslice 174 4 48 [.int .i64 0, .int .i64 0, .int .i64 0, .lst 3 []] (.k 5) (.k 5)), .m 9 21] [1, 2, 4, 7, 9]) (.seq (.seq (.reg [.o 10 (.mov (.k 0))] [1, 2, 4, 7, 9, 10]) (.block 0 (.loop [1, 2, 4, 7, 9, 10] Zk3))) Zk4))⟩
noncomputable def Zk5 (x : List Int) (fr : Bool) (x1 : List Za) (a : Zd) (a1 : Zr) : Rs := C 211 [.agg (a.c.map .t), .own 0, .own 1, .agg (a1.c.map .t)] [.arr 3 1 true (x.map ic), .arr 174 4 fr (x1.map Za.c)]
noncomputable def Zgb (sizes : List Int) (fr : Bool) (l : List Za) (m : Zd) (x : Zr) (mine : List Za) (k : Int) : Rs := EvL C [.blk 0, .seq Zk4, .fin 2 [.tmp 8]] [1, 2, 4, 7, 9, 10] Zk3 ⟨[(1, .own 0), (2, .own 1), (4, .ptr 2 0), (7, .ptr 3 0), (9, .own 4), (10, I k)], [[(0, .own 0), (1, .own 1)]], [.arr 3 1 true (sizes.map ic), .arr 174 4 fr (l.map Za.c), .box (m.c.map .t), .box (x.c.map .t), .arr 174 4 true (mine.map Za.c)]⟩
noncomputable def Zgc (sizes : List Int) (fr : Bool) (l : List Za) (m : Zd) (x : Zr) (mine : List Za) (b : Za) (k : Int) (left : Int) (right : Int) (o : Int) : Rs := EvL C [.blk 2, .seq Zq2, .blk 1, .seq Zmr, .loop [1, 2, 4, 7, 9, 10] Zk3, .blk 0, .seq Zk4, .fin 2 [.tmp 8]] [1, 2, 4, 7, 9, 10, 11, 12, 14, 15] Zq0 ⟨[(1, .own 0), (2, .own 1), (4, .ptr 2 0), (7, .ptr 3 0), (9, .own 4), (10, I k), (11, I left), (12, I right), (14, .ptr 5 0), (15, I o)], [[(0, .own 0), (1, .own 1)]], [.arr 3 1 true (sizes.map ic), .arr 174 4 fr (l.map Za.c), .box (m.c.map .t), .box (x.c.map .t), .arr 174 4 true (mine.map Za.c), .box (b.c.map .t)]⟩
noncomputable def Ze5 (mine : List Za) (fr : Bool) (out : List Za) (x : List Int) (fr1 : Bool) (x1 : List Za) (o : Int) : Rs := EvL C [.blk 6, .seq Zq4, .fin 2 [.tmp 8]] [9, 19, 20] Zq3 ⟨[(9, .own 0), (19, .own 1), (20, I o)], [[(0, .own 2), (1, .own 3)]], [.arr 174 4 true (mine.map Za.c), .arr 174 4 fr (out.map Za.c), .arr 3 1 true (x.map ic), .arr 174 4 fr1 (x1.map Za.c)]⟩
noncomputable def Zdq (sizes : List Int) (fr : Bool) (l : List Za) (m : Zd) (x : Zr) (mine : List Za) (k : Int) (left : Int) (right : Int) (e : Int) : Rs := EvL C [.blk 4, .blk 1, .seq Zmr, .loop [1, 2, 4, 7, 9, 10] Zk3, .blk 0, .seq Zk4, .fin 2 [.tmp 8]] [1, 2, 4, 7, 9, 10, 11, 12, 17] Zq1 ⟨[(1, .own 0), (2, .own 1), (4, .ptr 2 0), (7, .ptr 3 0), (9, .own 4), (10, I k), (11, I left), (12, I right), (17, I e)], [[(0, .own 0), (1, .own 1)]], [.arr 3 1 true (sizes.map ic), .arr 174 4 fr (l.map Za.c), .box (m.c.map .t), .box (x.c.map .t), .arr 174 4 true (mine.map Za.c)]⟩
def Zwz : MCode := .reg [.m 18 10, .o 19 (.bin .add (.s 18) (.k 1)), .m 10 19] [2, 3, 4, 5, 9, 10]
def Zq5 : MCode := .seq (.seq (.reg [.m 14 10, .m 15 2, .o 16 (.len false (.s 15)), .o 17 (.bin .lss (.s 14) (.s 16))] [2, 3, 4, 5, 9, 10, 17]) (.cond (.s 17) (.skip) (.exit 0))) (.seq (.block 1 (.seq (.reg [.m 20 2, .m 21 10, .o 22 (.iaddr 3 (.s 20) (.s 21)), .o 23 (.faddr 0 (.s 22)), .o 24 (.load none (.s 23)), .m 11 24] [2, 3, 4, 5, 9, 10, 11]) (.seq (.seq (.reg [.m 25 11, .m 26 11, .o 27 (.bin .sub (.s 26) (.k 1)), .o 28 (.bin .and (.s 25) (.s 27)), .o 29 (.bin .eql (.s 28) (.k 0))] [2, 3, 4, 5, 9, 10, 11, 29]) (.cond (.s 29) (.seq (.reg [.m 30 11, .o 31 (.call 209 [.s 30]), .o 32 (.iaddr 1 (.s 31) (.k 0)), .o 33 (.load none (.s 32)), .m 12 33] [2, 3, 4, 5, 9, 10, 11, 12]) (.seq (.drw [.m 34 9, .m 35 11, .o 36 (.faddr 1 (.s 5)), .o 37 (.load none (.s 36)), .m 38 12, .o 39 (.iaddr 2 (.s 37) (.s 38)), .o 40 (.faddr 1 (.s 39)), .o 41 (.load none (.s 40)), .o 42 (.iaddr 1 (.s 41) (.k 0)), .o 43 (.load none (.s 42)), .o 44 (.faddr 0 (.s 4)), .o 45 (.load (some 6) (.s 44)), .m 46 3, .m 47 11, .o 48 (.iaddr 1 (.s 46) (.s 47)), .o 49 (.load none (.s 48)), .m 50 3, .m 51 11, .o 52 (.iaddr 1 (.s 50) (.s 51)), .o 53 (.load none (.s 52)), .o 54 (.call 91 [.s 45, .s 49, .c (.t (.int .i64 0)), .s 53]), .m 55 12, .o 56 (.call 210 [.s 55]), .o 57 (.build [.t (.int .i64 0), .t (.int .i64 0), .t (.int .i64 0), .t .nil] [(0, 1, .s 35), (1, 1, .s 43), (2, 1, .s 54), (3, 1, .s 56)]), .o 58 (.bslice 174 4 1 [.int .i64 0, .int .i64 0, .int .i64 0, .lst 3 []] [(0, .s 57)]), .o 59 (.append 174 4 48 true (.s 34) (.s 58)), .m 9 59] [[], [], [], [2], [], [3, 4], [5], [6], [7], [8], [], [10], [], [], [12, 13], [14], [], [], [16, 17], [18], [11, 15, 19], [], [21, 20], [1, 9, 20, 22], [23], [0, 24, 22], [25, 25, 0, 1, 2, 3, 4, 5, 6, 7, 8, 9, 10, 11, 12, 13, 14, 15, 16, 17, 18, 19, 20, 21, 22, 23, 24, 25]] [2, 3, 4, 5, 9, 10]) (.exit 1))) (.skip))) (.drw [.m 60 9, .o 61 (.load (some 30) (.s 4)), .m 62 3, .m 63 9, .m 64 2, .m 65 10, .o 66 (.iaddr 3 (.s 64) (.s 65)), .o 67 (.load (some 3) (.s 66)), .o 68 (.pcall 211 [.s 61, .s 62, .s 63, .s 67]), .o 69 (.append 174 4 48 false (.s 60) (.s 68)), .m 9 69] [[], [], [], [], [], [], [4, 5], [6], [1, 2, 3, 7], [0, 8, 8], [9, 9, 0, 1, 2, 3, 4, 5, 6, 7, 8, 9]] [2, 3, 4, 5, 9, 10])))) Zwz)
def Zq6 : MCode := .seq (.reg [.m 70 9, .m 8 70] [8]) (.ret)
def Zw0 : MFun := ⟨4, 71, [.tmp 8], .seq (.reg [.o 4 (.box (.s 0)), .o 5 (.box (.s 1)), .o 8 (.mov (.c (.t .nil)))] [2, 3, 4, 5]) (.seq (.reg [.o 13 (.bslice 174 4 0 [.int .i64 0, .int .i64 0, .int .i64 0, .lst 3 []] []), .m 9 13] [2, 3, 4, 5, 9]) (.seq (.seq (.reg [.o 10 (.mov (.k 0))] [2, 3, 4, 5, 9, 10]) (.block 0 (.loop [2, 3, 4, 5, 9, 10] Zq5))) Zq6))⟩
noncomputable def Zk6 (x : List Zr) (x1 : List Int) (a : Zd) (a1 : Zb) : Rs := C 124 [.agg (a.c.map .t), .agg (a1.c.map .t), .own 0, .own 1] [.arr 242 3 true (x.map Zr.c), .arr 3 1 true (x1.map ic)]
noncomputable def Zgd (shapes : List Zr) (sizes : List Int) (m : Zd) (q : Zb) (fr : Bool) (out : List Za) (i : Int) : Rs := EvL C [.blk 0, .seq Zq6, .fin 2 [.tmp 8]] [2, 3, 4, 5, 9, 10] Zq5 ⟨[(2, .own 0), (3, .own 1), (4, .ptr 2 0), (5, .ptr 3 0), (9, .own 4), (10, I i)], [[(0, .own 0), (1, .own 1)]], [.arr 242 3 true (shapes.map Zr.c), .arr 3 1 true (sizes.map ic), .box (m.c.map .t), .box (q.c.map .t), .arr 174 4 fr (out.map Za.c)]⟩
def Zw1 : MFun := ⟨2, 38, [.cell 4 (some 4), .tmp 5], .seq (.reg [.o 4 (.alloc [.t (.int .i64 0), .t (.int .i64 0), .t (.int .i64 0), .t .nil]), .o 5 (.mov (.c (.t (.bool false))))] [0, 1, 4]) (.seq (.reg [.m 7 0, .m 8 1, .o 9 (.call 208 [.s 7, .s 8]), .m 6 9] [0, 4, 6]) (.seq (.seq (.reg [.m 10 6, .o 11 (.bin .lss (.s 10) (.k 0))] [0, 4, 6, 11]) (.cond (.s 11) (.seq (.reg [.o 12 (.build [.t (.int .i64 0), .t (.int .i64 0), .t (.int .i64 0), .t .nil] []), .n (.store 4 (.s 4) (.s 12)), .o 5 (.mov (.c (.t (.bool false))))] [4, 5]) (.ret)) (.skip))) (.seq (.drw [.m 13 0, .m 14 6, .o 15 (.iaddr 4 (.s 13) (.s 14)), .o 16 (.faddr 0 (.s 15)), .o 17 (.load none (.s 16)), .m 18 0, .m 19 6, .o 20 (.iaddr 4 (.s 18) (.s 19)), .o 21 (.faddr 1 (.s 20)), .o 22 (.load none (.s 21)), .m 23 0, .m 24 6, .o 25 (.iaddr 4 (.s 23) (.s 24)), .o 26 (.faddr 2 (.s 25)), .o 27 (.load none (.s 26)), .o 28 (.bslice 142 3 0 [.int .i64 0, .int .i64 0, .int .i64 0] []), .m 29 0, .m 30 6, .o 31 (.iaddr 4 (.s 29) (.s 30)), .o 32 (.faddr 3 (.s 31)), .o 33 (.faddr 0 (.s 32)), .o 34 (.load none (.s 33)), .o 35 (.append 142 3 24 false (.s 28) (.s 34)), .o 36 (.build [.t .nil] [(0, 1, .s 35)]), .o 37 (.build [.t (.int .i64 0), .t (.int .i64 0), .t (.int .i64 0), .t .nil] [(0, 1, .s 17), (1, 1, .s 22), (2, 1, .s 27), (3, 1, .s 36)]), .n (.store 4 (.s 4) (.s 37)), .o 5 (.mov (.c (.t (.bool true))))] [[], [], [0, 1], [2], [3], [], [], [5, 6], [7], [8], [], [], [10, 11], [12], [13], [], [], [], [16, 17], [18], [19], [20], [15, 21], [22], [4, 9, 14, 23], [24, 22, 0, 1, 2, 3, 4, 5, 6, 7, 8, 9, 10, 11, 12, 13, 14, 15, 16, 17, 18, 19, 20, 21, 22, 23, 24], [25, 0, 1, 2, 3, 4, 5, 6, 7, 8, 9, 10, 11, 12, 13, 14, 15, 16, 17, 18, 19, 20, 21, 22, 23, 24, 25]] [4, 5]) (.ret))))⟩
noncomputable def Ziu (a : List Za) (a1 : Int) : Rs := C 123 [L 4 (a.map Za.c), I a1] []
def Zq7 : MCode := .seq (.seq (.reg [.m 17 5, .m 18 1, .o 19 (.len false (.s 18)), .o 20 (.bin .lss (.s 17) (.s 19))] [1, 5, 20]) (.cond (.s 20) (.skip) (.exit 0))) (.seq (.block 1 (.seq (.reg [.m 23 1, .m 24 5, .o 25 (.iaddr 1 (.s 23) (.s 24)), .o 26 (.load none (.s 25)), .o 27 (.call 137 [.s 26, .c (.t (.int .i64 0)), .c (.t (.int .i64 4096))]), .o 28 (.un .not (.s 27))] [1, 5, 28]) (.cond (.s 28) (.seq (.reg [.o 4 (.mov (.c (.t (.bool false))))] [4]) (.ret)) (.skip)))) (.reg [.m 21 5, .o 22 (.bin .add (.s 21) (.k 1)), .m 5 22] [1, 5]))
def Zq8 : MCode := .seq (.reg [.o 4 (.mov (.c (.t (.bool true))))] [4]) (.ret)
def Zw2 : MFun := ⟨2, 29, [.tmp 4], .seq (.reg [.o 2 (.box (.s 0)), .o 4 (.mov (.c (.t (.bool false))))] [1, 2]) (.seq (.seq (.reg [.o 6 (.load (some 2) (.s 2)), .o 7 (.call 180 [.s 6]), .o 8 (.un .not (.s 7)), .m 9 8, .h 10 9 (.mov (.s 1)), .h 11 9 (.len false (.s 10)), .h 12 9 (.load (some 2) (.s 2)), .h 13 9 (.call 117 [.s 12]), .h 14 9 (.bin .add (.s 13) (.k 1)), .h 15 9 (.bin .neq (.s 11) (.s 14)), .o 16 (.pick (.s 9) (.c (.t (.bool true))) (.s 15))] [1, 16]) (.cond (.s 16) (.seq (.reg [.o 4 (.mov (.c (.t (.bool false))))] [4]) (.ret)) (.skip))) (.seq (.seq (.reg [.o 5 (.mov (.k 0))] [1, 5]) (.block 0 (.loop [1, 5] Zq7))) Zq8))⟩
noncomputable def Zk7 (a : Zb) (a1 : List Int) : Rs := C 285 [.agg (a.c.map .t), L 1 (a1.map ic)] []
noncomputable def Zhw (sizes : List Int) (i : Int) : Rs := EvL C [.blk 0, .seq Zq8, .fin 0 [.tmp 4]] [1, 5] Zq7 ⟨[(1, L 1 (sizes.map ic)), (5, I i)], [[]], []⟩
def Zw3 : MFun := ⟨5, 79, [.tmp 10], .seq (.reg [.o 5 (.box (.s 0)), .o 10 (.mov (.k 0))] [1, 2, 3, 4, 5]) (.seq (.reg [.m 13 2, .m 14 3, .o 15 (.iaddr 4 (.s 13) (.s 14)), .o 16 (.load (some 4) (.s 15)), .o 11 (.alloc [.t (.int .i64 0), .t (.int .i64 0), .t (.int .i64 0), .t (.int .i64 0)]), .n (.store 4 (.s 11) (.s 16))] [1, 2, 4, 5, 11]) (.seq (.reg [.o 17 (.load (some 30) (.s 5)), .m 18 1, .o 19 (.call 92 [.s 17, .s 18]), .o 12 (.alloc [.t (.int .i64 0), .t (.int .i64 0), .t (.int .i64 0), .t (.int .i64 0), .t (.int .i64 0), .t .nil]), .n (.store 6 (.s 12) (.s 19))] [2, 4, 11, 12]) (.seq (.seq (.reg [.o 20 (.faddr 2 (.s 11)), .o 21 (.load none (.s 20)), .o 22 (.bin .lss (.s 21) (.k 0))] [2, 4, 11, 12, 22]) (.cond (.s 22) (.seq (.drw [.o 23 (.load (some 6) (.s 12)), .m 24 4, .o 25 (.faddr 0 (.s 11)), .o 26 (.load none (.s 25)), .o 27 (.iaddr 1 (.s 24) (.s 26)), .o 28 (.load none (.s 27)), .m 29 4, .o 30 (.faddr 0 (.s 11)), .o 31 (.load none (.s 30)), .o 32 (.iaddr 1 (.s 29) (.s 31)), .o 33 (.load none (.s 32)), .o 34 (.call 91 [.s 23, .s 28, .c (.t (.int .i64 0)), .s 33]), .m 10 34] [[], [], [], [2], [1, 3], [4], [], [], [7], [6, 8], [9], [0, 5, 10], [11, 11, 0, 1, 2, 3, 4, 5, 6, 7, 8, 9, 10, 11]] [10]) (.ret)) (.skip))) (.seq (.seq (.reg [.o 35 (.faddr 3 (.s 11)), .o 36 (.load none (.s 35)), .o 37 (.bin .lss (.s 36) (.k 0))] [2, 4, 11, 12, 37]) (.cond (.s 37) (.seq (.drw [.o 38 (.load (some 6) (.s 12)), .m 39 4, .m 40 2, .o 41 (.faddr 2 (.s 11)), .o 42 (.load none (.s 41)), .o 43 (.iaddr 4 (.s 40) (.s 42)), .o 44 (.faddr 0 (.s 43)), .o 45 (.load none (.s 44)), .o 46 (.iaddr 1 (.s 39) (.s 45)), .o 47 (.load none (.s 46)), .m 48 4, .o 49 (.faddr 0 (.s 11)), .o 50 (.load none (.s 49)), .o 51 (.iaddr 1 (.s 48) (.s 50)), .o 52 (.load none (.s 51)), .o 53 (.call 91 [.s 38, .s 47, .c (.t (.int .i64 0)), .s 52]), .m 10 53] [[], [], [], [], [3], [2, 4], [5], [6], [1, 7], [8], [], [], [11], [10, 12], [13], [0, 9, 14], [15, 15, 0, 1, 2, 3, 4, 5, 6, 7, 8, 9, 10, 11, 12, 13, 14, 15]] [10]) (.ret)) (.skip))) (.seq (.drw [.o 54 (.load (some 6) (.s 12)), .m 55 4, .m 56 2, .o 57 (.faddr 2 (.s 11)), .o 58 (.load none (.s 57)), .o 59 (.iaddr 4 (.s 56) (.s 58)), .o 60 (.faddr 0 (.s 59)), .o 61 (.load none (.s 60)), .o 62 (.iaddr 1 (.s 55) (.s 61)), .o 63 (.load none (.s 62)), .m 64 4, .m 65 2, .o 66 (.faddr 3 (.s 11)), .o 67 (.load none (.s 66)), .o 68 (.iaddr 4 (.s 65) (.s 67)), .o 69 (.faddr 0 (.s 68)), .o 70 (.load none (.s 69)), .o 71 (.iaddr 1 (.s 64) (.s 70)), .o 72 (.load none (.s 71)), .m 73 4, .o 74 (.faddr 0 (.s 11)), .o 75 (.load none (.s 74)), .o 76 (.iaddr 1 (.s 73) (.s 75)), .o 77 (.load none (.s 76)), .o 78 (.call 91 [.s 54, .s 63, .s 72, .s 77]), .m 10 78] [[], [], [], [], [3], [2, 4], [5], [6], [1, 7], [8], [], [], [], [12], [11, 13], [14], [15], [10, 16], [17], [], [], [20], [19, 21], [22], [0, 9, 18, 23], [24, 24, 0, 1, 2, 3, 4, 5, 6, 7, 8, 9, 10, 11, 12, 13, 14, 15, 16, 17, 18, 19, 20, 21, 22, 23, 24]] [10]) (.ret))))))⟩
noncomputable def Zk8 (a : Zd) (a1 : Int) (a2 : List Zf) (a3 : Int) (a4 : List Int) : Rs := C 286 [.agg (a.c.map .t), I a1, L 4 (a2.map Zf.c), I a3, L 1 (a4.map ic)] []
def Zq9 : MCode := .seq (.seq (.reg [.m 29 12, .m 30 10, .o 31 (.len false (.s 30)), .o 32 (.bin .lss (.s 29) (.s 31))] [3, 4, 6, 9, 10, 12, 32]) (.cond (.s 32) (.skip) (.exit 0))) (.seq (.block 1 (.drw [.m 35 9, .o 36 (.load (some 30) (.s 4)), .o 37 (.faddr 0 (.s 6)), .o 38 (.load none (.s 37)), .m 39 12, .o 40 (.iaddr 3 (.s 38) (.s 39)), .o 41 (.faddr 0 (.s 40)), .o 42 (.load none (.s 41)), .m 43 10, .m 44 12, .m 45 3, .o 46 (.call 286 [.s 36, .s 42, .s 43, .s 44, .s 45]), .o 47 (.bslice 3 1 1 [.int .i64 0] [(0, .s 46)]), .o 48 (.append 3 1 8 true (.s 35) (.s 47)), .m 9 48] [[], [], [], [2], [], [3, 4], [5], [6], [], [], [], [1, 7, 8, 9, 10], [11], [0, 12, 11], [13, 13, 0, 1, 2, 3, 4, 5, 6, 7, 8, 9, 10, 11, 12, 13]] [3, 4, 6, 9, 10, 12])) (.reg [.m 33 12, .o 34 (.bin .add (.s 33) (.k 1)), .m 12 34] [3, 4, 6, 9, 10, 12]))
def Zra : MCode := .seq (.reg [.m 49 9, .m 8 49] [8]) (.ret)
def Zw4 : MFun := ⟨4, 50, [.tmp 8], .seq (.reg [.o 4 (.box (.s 0)), .o 5 (.box (.s 1)), .o 6 (.box (.s 2)), .o 8 (.mov (.c (.t .nil)))] [3, 4, 5, 6]) (.seq (.reg [.o 13 (.bslice 3 1 0 [.int .i64 0] []), .m 9 13] [3, 4, 5, 6, 9]) (.seq (.reg [.o 15 (.load (some 2) (.s 5)), .o 16 (.load (some 1) (.s 6)), .o 17 (.call 87 [.s 15, .s 16]), .m 14 17, .o 18 (.ext (.s 14) 0), .o 19 (.ext (.s 14) 1), .m 10 18, .m 11 19] [3, 4, 5, 6, 9, 10, 11]) (.seq (.seq (.reg [.m 20 11, .o 21 (.un .not (.s 20)), .m 22 21, .h 23 22 (.load (some 2) (.s 5)), .h 24 22 (.mov (.s 3)), .h 25 22 (.call 285 [.s 23, .s 24]), .h 26 22 (.un .not (.s 25)), .o 27 (.pick (.s 22) (.c (.t (.bool true))) (.s 26))] [3, 4, 6, 9, 10, 27]) (.cond (.s 27) (.seq (.reg [.m 28 9, .m 8 28] [8]) (.ret)) (.skip))) (.seq (.seq (.reg [.o 12 (.mov (.k 0))] [3, 4, 6, 9, 10, 12]) (.block 0 (.loop [3, 4, 6, 9, 10, 12] Zq9))) Zra))))⟩
noncomputable def Zk9 (a : Zd) (a1 : Zb) (a2 : Plan) (a3 : List Int) : Rs := C 241 [.agg (a.c.map .t), .agg (a1.c.map .t), .agg (a2.c.map .t), L 1 (a3.map ic)] []
noncomputable def Zhx (m : Zd) (p : Plan) (out : List Int) (info : List Zf) (sizes : List Int) (i : Int) : Rs := EvL C [.blk 0, .seq Zra, .fin 0 [.tmp 8]] [3, 4, 6, 9, 10, 12] Zq9 ⟨[(3, L 1 (sizes.map ic)), (4, .ptr 0 0), (6, .ptr 1 0), (9, .own 2), (10, .own 3), (12, I i)], [[]], [.box (m.c.map .t), .box (p.c.map .t), .arr 3 1 true (out.map ic), .arr 138 4 true (info.map Zf.c)]⟩
def Zrb : MCode := .seq (.seq (.reg [.m 20 11, .m 21 9, .o 22 (.len false (.s 21)), .o 23 (.bin .lss (.s 20) (.s 22))] [9, 10, 11, 23]) (.cond (.s 23) (.skip) (.exit 0))) (.seq (.block 1 (.reg [.m 26 10, .m 27 9, .m 28 11, .o 29 (.iaddr 1 (.s 27) (.s 28)), .o 30 (.load none (.s 29)), .o 31 (.bin .add (.s 26) (.s 30)), .m 10 31] [9, 10, 11])) (.reg [.m 24 11, .o 25 (.bin .add (.s 24) (.k 1)), .m 11 25] [9, 10, 11]))
def Zrc : MCode := .seq (.reg [.m 32 10, .m 8 32] [8]) (.ret)
def Zw5 : MFun := ⟨4, 33, [.tmp 8], .seq (.reg [.o 4 (.box (.s 0)), .o 5 (.box (.s 1)), .o 6 (.box (.s 2)), .o 8 (.mov (.k 0))] [3, 4, 5, 6]) (.seq (.reg [.o 12 (.load (some 30) (.s 4)), .o 13 (.load (some 2) (.s 5)), .o 14 (.load (some 1) (.s 6)), .m 15 3, .o 16 (.call 241 [.s 12, .s 13, .s 14, .s 15]), .m 9 16] [9]) (.seq (.seq (.reg [.m 17 9, .o 18 (.len false (.s 17)), .o 19 (.bin .eql (.s 18) (.k 0))] [9, 19]) (.cond (.s 19) (.seq (.reg [.o 8 (.mov (.k (-1)))] [8]) (.ret)) (.skip))) (.seq (.reg [.o 10 (.mov (.k 0))] [9, 10]) (.seq (.seq (.reg [.o 11 (.mov (.k 0))] [9, 10, 11]) (.block 0 (.loop [9, 10, 11] Zrb))) Zrc))))⟩
noncomputable def Zla (a : Zd) (a1 : Zb) (a2 : Plan) (a3 : List Int) : Rs := C 162 [.agg (a.c.map .t), .agg (a1.c.map .t), .agg (a2.c.map .t), L 1 (a3.map ic)] []
noncomputable def Zhy (l : List Int) (n : Int) (i : Int) : Rs := EvL C [.blk 0, .seq Zrc, .fin 0 [.tmp 8]] [9, 10, 11] Zrb ⟨[(9, .own 0), (10, I n), (11, I i)], [[]], [.arr 3 1 true (l.map ic)]⟩
def Zw6 : MFun := ⟨4, 15, [.tmp 8], .seq (.reg [.o 4 (.box (.s 0)), .o 5 (.box (.s 1)), .o 6 (.box (.s 2)), .o 8 (.mov (.k 0))] [3, 4, 5, 6]) (.seq (.drw [.o 9 (.load (some 30) (.s 4)), .o 10 (.load (some 2) (.s 5)), .o 11 (.load (some 1) (.s 6)), .m 12 3, .o 13 (.call 125 [.s 12]), .o 14 (.call 162 [.s 9, .s 10, .s 11, .s 13]), .m 8 14] [[], [], [], [], [3], [0, 1, 2, 4, 4], [5, 5, 0, 1, 2, 3, 4, 5]] [8]) (.ret))⟩
noncomputable def Zlb (a : Zd) (a1 : Zb) (a2 : Plan) (a3 : List Int) : Rs := C 70 [.agg (a.c.map .t), .agg (a1.c.map .t), .agg (a2.c.map .t), L 1 (a3.map ic)] []
def Zw7 : MFun := ⟨3, 42, [.tmp 6], .seq (.reg [.o 3 (.box (.s 0)), .o 4 (.box (.s 1)), .o 5 (.box (.s 2)), .o 6 (.mov (.c (.t (.bool false))))] [3, 4, 5]) (.seq (.drw [.o 10 (.load (some 30) (.s 3)), .o 11 (.load (some 2) (.s 4)), .o 12 (.load (some 2) (.s 4)), .o 13 (.call 121 [.s 12]), .o 14 (.faddr 1 (.s 5)), .o 15 (.faddr 0 (.s 14)), .o 16 (.load none (.s 15)), .o 17 (.call 125 [.s 16]), .o 18 (.pcall 124 [.s 10, .s 11, .s 13, .s 17]), .o 19 (.load (some 2) (.s 4)), .o 20 (.call 117 [.s 19]), .o 21 (.call 123 [.s 18, .s 20]), .m 9 21, .o 22 (.ext (.s 9) 0), .o 23 (.ext (.s 9) 1), .o 7 (.alloc [.t (.int .i64 0), .t (.int .i64 0), .t (.int .i64 0), .t .nil]), .n (.store 4 (.s 7) (.s 22)), .m 8 23] [[], [], [], [2], [], [4], [5], [6, 3], [0, 1, 3, 7, 7], [], [9, 8], [8, 10, 10], [11], [12], [12], [], [15, 13, 11, 0, 1, 2, 3, 4, 5, 6, 7, 8, 9, 10, 11, 12, 13, 15], [14, 16, 0, 1, 2, 3, 4, 5, 6, 7, 8, 9, 10, 11, 12, 13, 14, 15, 16]] [3, 4, 5, 7, 8]) (.seq (.drw [.m 24 8, .m 25 24, .g 26 25 (.load (some 30) (.s 3)), .g 27 25 (.load (some 2) (.s 4)), .g 28 25 (.faddr 0 (.s 5)), .g 29 25 (.load (some 1) (.s 28)), .g 30 25 (.faddr 1 (.s 5)), .g 31 25 (.faddr 1 (.s 30)), .g 32 25 (.load none (.s 31)), .g 33 25 (.call 70 [.s 26, .s 27, .s 29, .s 32]), .g 34 25 (.bin .mul (.s 33) (.k 100)), .g 35 25 (.faddr 3 (.s 5)), .g 36 25 (.load none (.s 35)), .g 37 25 (.faddr 2 (.s 7)), .g 38 25 (.load none (.s 37)), .g 39 25 (.bin .mul (.s 36) (.s 38)), .g 40 25 (.bin .leq (.s 34) (.s 39)), .o 41 (.pick (.s 25) (.s 40) (.c (.t (.bool false)))), .m 6 41] [[], [0], [1], [1], [1], [4, 1], [1], [6, 1], [7, 1], [2, 3, 5, 8, 1, 1], [9, 1], [1], [11, 1], [1], [13, 1], [12, 14, 1], [10, 15, 1], [1, 16], [17, 9, 0, 1, 2, 3, 4, 5, 6, 7, 8, 9, 10, 11, 12, 13, 14, 15, 16, 17]] [6]) (.ret)))⟩
noncomputable def Zlc (a : Zd) (a1 : Zb) (a2 : Region) : Rs := C 118 [.agg (a.c.map .t), .agg (a1.c.map .t), .agg (a2.c.map .t)] []
def Zw8 : MFun := ⟨3, 26, [.tmp 6], .seq (.reg [.o 3 (.box (.s 0)), .o 4 (.box (.s 1)), .o 5 (.box (.s 2)), .o 6 (.mov (.c (.t (.bool false))))] [3, 4, 5]) (.seq (.drw [.o 7 (.load (some 30) (.s 3)), .o 8 (.call 88 [.s 7]), .m 9 8, .g 10 9 (.load (some 2) (.s 4)), .g 11 9 (.load (some 2) (.s 4)), .g 12 9 (.call 117 [.s 11]), .g 13 9 (.call 116 [.s 10, .s 12]), .o 14 (.pick (.s 9) (.s 13) (.c (.t (.bool false)))), .m 15 14, .g 16 15 (.load (some 2) (.s 4)), .g 17 15 (.load (some 4) (.s 5)), .g 18 15 (.call 44 [.s 16, .s 17]), .o 19 (.pick (.s 15) (.s 18) (.c (.t (.bool false)))), .m 20 19, .g 21 20 (.load (some 30) (.s 3)), .g 22 20 (.load (some 2) (.s 4)), .g 23 20 (.load (some 4) (.s 5)), .g 24 20 (.call 118 [.s 21, .s 22, .s 23]), .o 25 (.pick (.s 20) (.s 24) (.c (.t (.bool false)))), .m 6 25] [[], [0], [1, 1], [2], [2], [4, 2, 2], [3, 5, 5, 2], [2, 6], [7, 6], [8], [8], [9, 10, 8, 8], [8, 11], [12, 11], [13], [13], [13], [14, 15, 16, 13, 13], [13, 17], [18, 17, 0, 1, 2, 3, 4, 5, 6, 7, 8, 9, 10, 11, 12, 13, 14, 15, 16, 17, 18]] [6]) (.ret))⟩
noncomputable def Ziv (a : Zd) (a1 : Zb) (a2 : Region) : Rs := C 35 [.agg (a.c.map .t), .agg (a1.c.map .t), .agg (a2.c.map .t)] []
def Zrd : MCode := .seq (.reg [.o 9 (.bin .lss (.s 8) (.s 7))] [1, 3, 7, 8, 9]) (.seq (.cond (.s 9) (.skip) (.exit 0)) (.seq (.block 1 (.seq (.reg [.m 10 8, .m 4 10] [1, 3, 4, 7, 8]) (.drw [.m 11 3, .o 12 (.faddr 1 (.s 1)), .o 13 (.load none (.s 12)), .m 14 4, .o 15 (.iaddr 1 (.s 13) (.s 14)), .o 16 (.load none (.s 15)), .o 17 (.faddr 0 (.s 1)), .o 18 (.load none (.s 17)), .m 19 4, .o 20 (.iaddr 1 (.s 18) (.s 19)), .o 21 (.load none (.s 20)), .o 22 (.bin .sub (.s 16) (.s 21)), .o 23 (.bin .add (.s 22) (.k 1)), .o 24 (.bin .mul (.s 11) (.s 23)), .m 3 24] [[], [], [1], [], [2, 3], [4], [], [6], [], [7, 8], [9], [5, 10], [11], [0, 12], [13, 0, 1, 2, 3, 4, 5, 6, 7, 8, 9, 10, 11, 12, 13]] [1, 3, 7, 8]))) (.reg [.o 25 (.bin .add (.s 8) (.k 1)), .m 8 25] [1, 3, 7, 8])))
def Zre : MCode := .seq (.reg [.m 26 3, .m 2 26] [2]) (.ret)
def Zw9 : MFun := ⟨1, 27, [.tmp 2], .seq (.reg [.o 1 (.box (.s 0)), .o 2 (.mov (.k 0))] [1]) (.seq (.reg [.o 3 (.mov (.k 1))] [1, 3]) (.seq (.seq (.reg [.o 5 (.faddr 0 (.s 1)), .o 6 (.load none (.s 5)), .o 7 (.len false (.s 6)), .o 8 (.mov (.k 0))] [1, 3, 7, 8]) (.block 0 (.loop [1, 3, 7, 8] Zrd))) Zre))⟩
noncomputable def Zld (a : Box) : Rs := C 274 [.agg (a.c.map .t)] []
noncomputable def Zhz (b : Box) (n : Int) (x : Int) (x1 : Int) : Rs := EvL C [.blk 0, .seq Zre, .fin 0 [.tmp 2]] [1, 3, 7, 8] Zrd ⟨[(1, .ptr 0 0), (3, I n), (7, I x), (8, I x1)], [[]], [.box (b.c.map .t)]⟩
def Zxa : MFun := ⟨1, 9, [.tmp 2], .seq (.reg [.o 1 (.box (.s 0)), .o 2 (.mov (.k 0))] [1]) (.seq (.seq (.reg [.o 3 (.load (some 2) (.s 1)), .o 4 (.call 222 [.s 3]), .o 5 (.un .not (.s 4))] [1, 5]) (.cond (.s 5) (.seq (.reg [.o 2 (.mov (.k 0))] [2]) (.ret)) (.skip))) (.seq (.reg [.o 6 (.load (some 2) (.s 1)), .o 7 (.call 274 [.s 6]), .o 8 (.mm false (.s 7) (.k 401)), .m 2 8] [2]) (.ret)))⟩
noncomputable def Zrf (a : Box) : Rs := C 213 [.agg (a.c.map .t)] []
def Zrg : MCode := .seq (.seq (.reg [.m 8 4, .o 9 (.faddr 0 (.s 1)), .o 10 (.load none (.s 9)), .o 11 (.len false (.s 10)), .o 12 (.bin .lss (.s 8) (.s 11))] [1, 3, 4, 12]) (.cond (.s 12) (.skip) (.exit 0))) (.seq (.block 1 (.drw [.m 15 3, .o 16 (.faddr 1 (.s 1)), .o 17 (.load none (.s 16)), .m 18 4, .o 19 (.iaddr 1 (.s 17) (.s 18)), .o 20 (.load none (.s 19)), .o 21 (.faddr 0 (.s 1)), .o 22 (.load none (.s 21)), .m 23 4, .o 24 (.iaddr 1 (.s 22) (.s 23)), .o 25 (.load none (.s 24)), .o 26 (.bin .sub (.s 20) (.s 25)), .o 27 (.bin .add (.s 26) (.k 1)), .o 28 (.bin .mul (.s 15) (.s 27)), .o 29 (.mm false (.k 401) (.s 28)), .m 3 29] [[], [], [1], [], [2, 3], [4], [], [6], [], [7, 8], [9], [5, 10], [11], [0, 12], [13], [14, 0, 1, 2, 3, 4, 5, 6, 7, 8, 9, 10, 11, 12, 13, 14]] [1, 3, 4])) (.reg [.m 13 4, .o 14 (.bin .add (.s 13) (.k 1)), .m 4 14] [1, 3, 4]))
def Zrh : MCode := .seq (.reg [.m 30 3, .m 2 30] [2]) (.ret)
def Zxb : MFun := ⟨1, 31, [.tmp 2], .seq (.reg [.o 1 (.box (.s 0)), .o 2 (.mov (.k 0))] [1]) (.seq (.seq (.reg [.o 5 (.load (some 2) (.s 1)), .o 6 (.call 135 [.s 5]), .o 7 (.un .not (.s 6))] [1, 7]) (.cond (.s 7) (.seq (.reg [.o 2 (.mov (.k 0))] [2]) (.ret)) (.skip))) (.seq (.reg [.o 3 (.mov (.k 1))] [1, 3]) (.seq (.seq (.reg [.o 4 (.mov (.k 0))] [1, 3, 4]) (.block 0 (.loop [1, 3, 4] Zrg))) Zrh)))⟩
noncomputable def Zri (a : Box) : Rs := C 45 [.agg (a.c.map .t)] []
noncomputable def Zh0 (b : Box) (n : Int) (i : Int) : Rs := EvL C [.blk 0, .seq Zrh, .fin 0 [.tmp 2]] [1, 3, 4] Zrg ⟨[(1, .ptr 0 0), (3, I n), (4, I i)], [[]], [.box (b.c.map .t)]⟩
def Zxc : MFun := ⟨2, 9, [.tmp 3], .seq (.reg [.o 2 (.box (.s 0)), .o 3 (.mov (.c (.t (.bool false))))] [1, 2]) (.seq (.reg [.o 4 (.faddr 7 (.s 2)), .o 5 (.load none (.s 4)), .o 6 (.faddr 7 (.s 1)), .o 7 (.load none (.s 6)), .o 8 (.bin .eql (.s 5) (.s 7)), .m 3 8] [3]) (.ret))⟩
noncomputable def Zms (a : Zi) (a1 : Zi) : Rs := C 149 [.agg (a.c.map .t), .iptr (a1.c) 0] []
def Zrj : MCode := .seq (.reg [.o 9 (.bin .lss (.s 8) (.s 7))] [0, 1, 7, 8, 9]) (.seq (.cond (.s 9) (.skip) (.exit 0)) (.seq (.block 1 (.seq (.reg [.m 10 8, .m 5 10] [0, 1, 5, 7, 8]) (.seq (.reg [.m 11 1, .m 12 0, .m 13 5, .o 14 (.iaddr 8 (.s 12) (.s 13)), .o 15 (.load (some 8) (.s 14)), .o 16 (.dcall (.s 11) [.s 15])] [0, 1, 5, 7, 8, 16]) (.cond (.s 16) (.seq (.reg [.m 17 5, .m 4 17] [4]) (.ret)) (.skip))))) (.reg [.o 18 (.bin .add (.s 8) (.k 1)), .m 8 18] [0, 1, 7, 8])))
def Zrk : MCode := .seq (.reg [.o 4 (.mov (.k (-1)))] [4]) (.ret)
def Zxd : MFun := ⟨2, 19, [.tmp 4], .seq (.reg [.o 4 (.mov (.k 0))] [0, 1]) (.seq (.seq (.reg [.m 6 0, .o 7 (.len false (.s 6)), .o 8 (.mov (.k 0))] [0, 1, 7, 8]) (.block 0 (.loop [0, 1, 7, 8] Zrj))) Zrk)⟩
noncomputable def Zmt (a : List Zi) (a1 : Zi) : Rs := C 158 [L 8 (a.map Zi.c), .fn 149 [.iptr (a1.c) 0]] []
noncomputable def Zh1 (s : List Zi) (f : Zi) (x : Int) (x1 : Int) : Rs := EvL C [.blk 0, .seq Zrk, .fin 0 [.tmp 4]] [0, 1, 7, 8] Zrj ⟨[(0, L 8 (s.map Zi.c)), (1, .fn 149 [.iptr (f.c) 0]), (7, I x), (8, I x1)], [[]], []⟩
def Zxe : MFun := ⟨2, 9, [.tmp 4], .seq (.reg [.o 4 (.mov (.c (.t (.bool false))))] [0, 1]) (.seq (.reg [.m 5 0, .m 6 1, .o 7 (.call 158 [.s 5, .s 6]), .o 8 (.bin .geq (.s 7) (.k 0)), .m 4 8] [4]) (.ret))⟩
noncomputable def Zle (a : List Zi) (a1 : Zi) : Rs := C 148 [L 8 (a.map Zi.c), .fn 149 [.iptr (a1.c) 0]] []
def Zrl : MCode := .seq (.reg [.o 21 (.bin .lss (.s 20) (.s 19))] [2, 3, 18, 19, 20, 21]) (.seq (.cond (.s 21) (.skip) (.exit 0)) (.seq (.block 1 (.seq (.reg [.m 22 20, .o 23 (.iaddr 8 (.s 18) (.s 20)), .o 24 (.load (some 8) (.s 23)), .o 6 (.alloc [.t (.int .i64 0), .t .nil, .t .nil, .t .nil, .t .nil, .t (.int .i64 0), .t (.int .i64 0), .t (.int .i64 0)]), .m 5 22, .n (.store 8 (.s 6) (.s 24))] [2, 3, 5, 6, 18, 19, 20]) (.seq (.seq (.reg [.o 25 (.faddr 6 (.s 6)), .o 26 (.load none (.s 25)), .o 27 (.call 104 [.s 26, .c (.t (.int .i64 1)), .c (.t (.int .i64 999))]), .o 28 (.un .not (.s 27)), .m 29 28, .h 30 29 (.faddr 7 (.s 6)), .h 31 29 (.load none (.s 30)), .h 32 29 (.faddr 0 (.s 3)), .h 33 29 (.load none (.s 32)), .h 34 29 (.call 104 [.s 31, .c (.t (.int .i64 1)), .s 33]), .h 35 29 (.un .not (.s 34)), .o 36 (.pick (.s 29) (.c (.t (.bool true))) (.s 35)), .m 37 36, .h 38 37 (.load (some 30) (.s 2)), .h 39 37 (.faddr 0 (.s 6)), .h 40 37 (.load (some 2) (.s 39)), .h 41 37 (.faddr 2 (.s 6)), .h 42 37 (.load (some 4) (.s 41)), .h 43 37 (.call 37 [.s 38, .s 40, .s 42]), .h 44 37 (.un .not (.s 43)), .o 45 (.pick (.s 37) (.c (.t (.bool true))) (.s 44))] [2, 3, 5, 6, 18, 19, 20, 45]) (.cond (.s 45) (.seq (.reg [.o 4 (.mov (.c (.t (.bool false))))] [4]) (.ret)) (.skip))) (.seq (.reg [.o 46 (.faddr 1 (.s 3)), .o 47 (.load none (.s 46)), .m 48 5, .o 49 (.slice (some 8) (.s 47) none (some (.s 48))), .o 50 (.mkfn 149 [.s 6]), .o 51 (.call 148 [.s 49, .s 50])] [2, 3, 18, 19, 20, 51]) (.cond (.s 51) (.seq (.reg [.o 4 (.mov (.c (.t (.bool false))))] [4]) (.ret)) (.skip)))))) (.reg [.o 52 (.bin .add (.s 20) (.k 1)), .m 20 52] [2, 3, 18, 19, 20])))
def Zrm : MCode := .seq (.reg [.o 4 (.mov (.c (.t (.bool true))))] [4]) (.ret)
def Zxf : MFun := ⟨2, 53, [.tmp 4], .seq (.reg [.o 2 (.box (.s 0)), .o 3 (.box (.s 1)), .o 4 (.mov (.c (.t (.bool false))))] [2, 3]) (.seq (.seq (.reg [.o 7 (.faddr 0 (.s 3)), .o 8 (.load none (.s 7)), .o 9 (.call 104 [.s 8, .c (.t (.int .i64 0)), .c (.t (.int .i64 1000000))]), .o 10 (.un .not (.s 9)), .m 11 10, .h 12 11 (.faddr 1 (.s 3)), .h 13 11 (.load none (.s 12)), .h 14 11 (.len false (.s 13)), .h 15 11 (.bin .gtr (.s 14) (.k 4)), .o 16 (.pick (.s 11) (.c (.t (.bool true))) (.s 15))] [2, 3, 16]) (.cond (.s 16) (.seq (.reg [.o 4 (.mov (.c (.t (.bool false))))] [4]) (.ret)) (.skip))) (.seq (.seq (.reg [.o 17 (.faddr 1 (.s 3)), .o 18 (.load none (.s 17)), .o 19 (.len false (.s 18)), .o 20 (.mov (.k 0))] [2, 3, 18, 19, 20]) (.block 0 (.loop [2, 3, 18, 19, 20] Zrl))) Zrm))⟩
noncomputable def Zmu (a : Zd) (a1 : Zv) : Rs := C 55 [.agg (a.c.map .t), .agg (a1.c.map .t)] []
noncomputable def Zh2 (m : Zd) (c : Zv) (x : List Zi) (x1 : Int) (x2 : Int) : Rs := EvL C [.blk 0, .seq Zrm, .fin 0 [.tmp 4]] [2, 3, 18, 19, 20] Zrl ⟨[(2, .ptr 0 0), (3, .ptr 1 0), (18, L 8 (x.map Zi.c)), (19, I x1), (20, I x2)], [[]], [.box (m.c.map .t), .box (c.c.map .t)]⟩
def Zrn : MCode := .seq (.seq (.reg [.m 41 7, .m 42 5, .o 43 (.bin .lss (.s 41) (.s 42))] [2, 3, 5, 6, 7, 43]) (.cond (.s 43) (.skip) (.exit 2))) (.seq (.block 3 (.seq (.drw [.o 46 (.faddr 1 (.s 3)), .o 47 (.load none (.s 46)), .m 48 7, .o 49 (.iaddr 8 (.s 47) (.s 48)), .o 50 (.faddr 7 (.s 49)), .o 51 (.load none (.s 50)), .o 52 (.faddr 7 (.s 6)), .o 53 (.load none (.s 52)), .o 54 (.bin .eql (.s 51) (.s 53))] [[], [0], [], [1, 2], [3], [4], [], [6], [5, 7]] [2, 3, 5, 6, 7, 54]) (.cond (.s 54) (.seq (.reg [.o 4 (.mov (.c (.t (.bool false))))] [4]) (.ret)) (.skip)))) (.reg [.m 44 7, .o 45 (.bin .add (.s 44) (.k 1)), .m 7 45] [2, 3, 5, 6, 7]))
def Zro : MCode := .reg [.m 13 5, .o 14 (.bin .add (.s 13) (.k 1)), .m 5 14] [2, 3, 5]
def Zmv : MCode := .seq (.seq (.reg [.m 8 5, .o 9 (.faddr 1 (.s 3)), .o 10 (.load none (.s 9)), .o 11 (.len false (.s 10)), .o 12 (.bin .lss (.s 8) (.s 11))] [2, 3, 5, 12]) (.cond (.s 12) (.skip) (.exit 0))) (.seq (.block 1 (.seq (.reg [.o 15 (.faddr 1 (.s 3)), .o 16 (.load none (.s 15)), .m 17 5, .o 18 (.iaddr 8 (.s 16) (.s 17)), .o 19 (.load (some 8) (.s 18)), .o 6 (.alloc [.t (.int .i64 0), .t .nil, .t .nil, .t .nil, .t .nil, .t (.int .i64 0), .t (.int .i64 0), .t (.int .i64 0)]), .n (.store 8 (.s 6) (.s 19))] [2, 3, 5, 6]) (.seq (.seq (.reg [.o 20 (.faddr 6 (.s 6)), .o 21 (.load none (.s 20)), .o 22 (.call 137 [.s 21, .c (.t (.int .i64 1)), .c (.t (.int .i64 999))]), .o 23 (.un .not (.s 22)), .m 24 23, .h 25 24 (.faddr 7 (.s 6)), .h 26 24 (.load none (.s 25)), .h 27 24 (.faddr 0 (.s 3)), .h 28 24 (.load none (.s 27)), .h 29 24 (.call 137 [.s 26, .c (.t (.int .i64 1)), .s 28]), .h 30 24 (.un .not (.s 29)), .o 31 (.pick (.s 24) (.c (.t (.bool true))) (.s 30)), .m 32 31, .h 33 32 (.load (some 30) (.s 2)), .h 34 32 (.faddr 0 (.s 6)), .h 35 32 (.load (some 2) (.s 34)), .h 36 32 (.faddr 2 (.s 6)), .h 37 32 (.load (some 4) (.s 36)), .h 38 32 (.call 35 [.s 33, .s 35, .s 37]), .h 39 32 (.un .not (.s 38)), .o 40 (.pick (.s 32) (.c (.t (.bool true))) (.s 39))] [2, 3, 5, 6, 40]) (.cond (.s 40) (.seq (.reg [.o 4 (.mov (.c (.t (.bool false))))] [4]) (.ret)) (.skip))) (.seq (.reg [.o 7 (.mov (.k 0))] [2, 3, 5, 6, 7]) (.block 2 (.loop [2, 3, 5, 6, 7] Zrn)))))) Zro)
def Zmw : MCode := .seq (.reg [.o 55 (.faddr 0 (.s 3)), .o 56 (.load none (.s 55)), .o 57 (.call 137 [.s 56, .c (.t (.int .i64 0)), .c (.t (.int .i64 1000000))]), .m 58 57, .g 59 58 (.faddr 1 (.s 3)), .g 60 58 (.load none (.s 59)), .g 61 58 (.len false (.s 60)), .g 62 58 (.bin .leq (.s 61) (.k 4)), .o 63 (.pick (.s 58) (.s 62) (.c (.t (.bool false)))), .m 4 63] [4]) (.ret)
def Zxg : MFun := ⟨2, 64, [.tmp 4], .seq (.reg [.o 2 (.box (.s 0)), .o 3 (.box (.s 1)), .o 4 (.mov (.c (.t (.bool false))))] [2, 3]) (.seq (.seq (.reg [.o 5 (.mov (.k 0))] [2, 3, 5]) (.block 0 (.loop [2, 3, 5] Zmv))) Zmw)⟩
noncomputable def Zmx (a : Zd) (a1 : Zv) : Rs := C 53 [.agg (a.c.map .t), .agg (a1.c.map .t)] []
noncomputable def Zge (m : Zd) (c : Zv) (i : Int) : Rs := EvL C [.blk 0, .seq Zmw, .fin 0 [.tmp 4]] [2, 3, 5] Zmv ⟨[(2, .ptr 0 0), (3, .ptr 1 0), (5, I i)], [[]], [.box (m.c.map .t), .box (c.c.map .t)]⟩
noncomputable def Zh3 (m : Zd) (c : Zv) (e : Zi) (i : Int) (k : Int) : Rs := EvL C [.blk 2, .blk 1, .seq Zro, .loop [2, 3, 5] Zmv, .blk 0, .seq Zmw, .fin 0 [.tmp 4]] [2, 3, 5, 6, 7] Zrn ⟨[(2, .ptr 0 0), (3, .ptr 1 0), (5, I i), (6, .ptr 2 0), (7, I k)], [[]], [.box (m.c.map .t), .box (c.c.map .t), .box (e.c.map .t)]⟩
end Go.Proofs.YtbapkgocloaaeaaGreat
/- part: T1 -/
namespace Go.Proofs.YtbapkgocloaaeaaGreat
open Go.AM
theorem Z4t : tbl 104 = some Zti := tblOf_eq Tryz.func104 (by kernel_rfl) (by kernel_rfl)
theorem Z4u : tbl 219 = some Ztj := tblOf_eq Tryz.func219 (by kernel_rfl) (by kernel_rfl)
theorem Z4v : tbl 279 = some Ztk := tblOf_eq Tryz.func279 (by kernel_rfl) (by kernel_rfl)
theorem Z4w : tbl 220 = some Ztl := tblOf_eq Tryz.func220 (by kernel_rfl) (by kernel_rfl)
theorem Z4x : tbl 280 = some Ztm := tblOf_eq Tryz.func280 (by kernel_rfl) (by kernel_rfl)
theorem Z4y : tbl 221 = some Ztn := tblOf_eq Tryz.func221 (by kernel_rfl) (by kernel_rfl)
theorem Z4z : tbl 131 = some Zl7 := tblOf_eq Tryz.func131 (by kernel_rfl) (by kernel_rfl)
theorem Z40 : tbl 277 = some Zto := tblOf_eq Tryz.func277 (by kernel_rfl) (by kernel_rfl)
theorem Z41 : tbl 232 = some Ztp := tblOf_eq Tryz.func232 (by kernel_rfl) (by kernel_rfl)
theorem Z42 : tbl 222 = some Ztq := tblOf_eq Tryz.func222 (by kernel_rfl) (by kernel_rfl)
theorem Z43 : tbl 134 = some Ztr := tblOf_eq Tryz.func134 (by kernel_rfl) (by kernel_rfl)
theorem Z44 : tbl 132 = some Zts := tblOf_eq Tryz.func132 (by kernel_rfl) (by kernel_rfl)
theorem Z45 : tbl 257 = some Ztt := tblOf_eq Tryz.func257 (by kernel_rfl) (by kernel_rfl)
theorem Z46 : tbl 258 = some Ztv := tblOf_eq Tryz.func258 (by kernel_rfl) (by kernel_rfl)
theorem Z47 : tbl 189 = some Ztw := tblOf_eq Tryz.func189 (by kernel_rfl) (by kernel_rfl)
theorem Z48 : tbl 99 = some Zty := tblOf_eq Tryz.func99 (by kernel_rfl) (by kernel_rfl)
theorem Z49 : tbl 133 = some Ztz := tblOf_eq Tryz.func133 (by kernel_rfl) (by kernel_rfl)
theorem Z5a : tbl 43 = some Zt0 := tblOf_eq Tryz.func43 (by kernel_rfl) (by kernel_rfl)
theorem Z5b : tbl 268 = some Zt1 := tblOf_eq Tryz.func268 (by kernel_rfl) (by kernel_rfl)
theorem Z5c : tbl 290 = some Zt3 := tblOf_eq Tryz.func290 (by kernel_rfl) (by kernel_rfl)
theorem Z5d : tbl 269 = some Zt4 := tblOf_eq Tryz.func269 (by kernel_rfl) (by kernel_rfl)
theorem Z5e : tbl 204 = some Zt5 := tblOf_eq Tryz.func204 (by kernel_rfl) (by kernel_rfl)
theorem Z5f : tbl 193 = some Zt6 := tblOf_eq Tryz.func193 (by kernel_rfl) (by kernel_rfl)
theorem Z5g : tbl 289 = some Zt7 := tblOf_eq Tryz.func289 (by kernel_rfl) (by kernel_rfl)
theorem Z5h : tbl 259 = some Zt8 := tblOf_eq Tryz.func259 (by kernel_rfl) (by kernel_rfl)
theorem Z5i : tbl 261 = some Zt9 := tblOf_eq Tryz.func261 (by kernel_rfl) (by kernel_rfl)
theorem Z5j : tbl 142 = some Zua := tblOf_eq Tryz.func142 (by kernel_rfl) (by kernel_rfl)
theorem Z5k : tbl 264 = some Zub := tblOf_eq Tryz.func264 (by kernel_rfl) (by kernel_rfl)
theorem Z5l : tbl 263 = some Zud := tblOf_eq Tryz.func263 (by kernel_rfl) (by kernel_rfl)
theorem Z5m : tbl 262 = some Zue := tblOf_eq Tryz.func262 (by kernel_rfl) (by kernel_rfl)
theorem Z5n : tbl 260 = some Zug := tblOf_eq Tryz.func260 (by kernel_rfl) (by kernel_rfl)
theorem Z5o : tbl 190 = some Zuh := tblOf_eq Tryz.func190 (by kernel_rfl) (by kernel_rfl)
theorem Z5p : tbl 100 = some Zui := tblOf_eq Tryz.func100 (by kernel_rfl) (by kernel_rfl)
theorem Z5q : tbl 119 = some Zuj := tblOf_eq Tryz.func119 (by kernel_rfl) (by kernel_rfl)
theorem Z5r : tbl 216 = some Zuk := tblOf_eq Tryz.func216 (by kernel_rfl) (by kernel_rfl)
theorem Z5s : tbl 292 = some Zul := tblOf_eq Tryz.func292 (by kernel_rfl) (by kernel_rfl)
theorem Z5t : tbl 192 = some Zum := tblOf_eq Tryz.func192 (by kernel_rfl) (by kernel_rfl)
theorem Z5u : tbl 275 = some Zuo := tblOf_eq Tryz.func275 (by kernel_rfl) (by kernel_rfl)
theorem Z5v : tbl 276 = some Zup := tblOf_eq Tryz.func276 (by kernel_rfl) (by kernel_rfl)
theorem Z5w : tbl 215 = some Zo6 := tblOf_eq Tryz.func215 (by kernel_rfl) (by kernel_rfl)
theorem Z5x : tbl 127 = some Zur := tblOf_eq Tryz.func127 (by kernel_rfl) (by kernel_rfl)
theorem Z5y : tbl 301 = some Zut := tblOf_eq Tryz.func301 (by kernel_rfl) (by kernel_rfl)
theorem Z5z : tbl 302 = some Zuv := tblOf_eq Tryz.func302 (by kernel_rfl) (by kernel_rfl)
theorem Z50 : tbl 304 = some Zuw := tblOf_eq Tryz.func304 (by kernel_rfl) (by kernel_rfl)
theorem Z51 : tbl 303 = some Zb5 := tblOf_eq Tryz.func303 (by kernel_rfl) (by kernel_rfl)
theorem Z52 : tbl 305 = some Zuy := tblOf_eq Tryz.func305 (by kernel_rfl) (by kernel_rfl)
theorem Zxh : tbl 300 = some Zpe := tblOf_eq Tryz.func300 (by kernel_rfl) (by kernel_rfl)
theorem Z53 : tbl 141 = some Zuz := tblOf_eq Tryz.func141 (by kernel_rfl) (by kernel_rfl)
theorem Z54 : tbl 306 = some Zu0 := tblOf_eq Tryz.func306 (by kernel_rfl) (by kernel_rfl)
theorem Z55 : tbl 309 = some Zu1 := tblOf_eq Tryz.func309 (by kernel_rfl) (by kernel_rfl)
end Go.Proofs.YtbapkgocloaaeaaGreat
/- part: T2 -/
namespace Go.Proofs.YtbapkgocloaaeaaGreat
open Go.AM
theorem Z56 : tbl 311 = some Zu2 := tblOf_eq Tryz.func311 (by kernel_rfl) (by kernel_rfl)
theorem Z57 : tbl 307 = some Zu6 := tblOf_eq Tryz.func307 (by kernel_rfl) (by kernel_rfl)
theorem Z58 : tbl 312 = some Zu7 := tblOf_eq Tryz.func312 (by kernel_rfl) (by kernel_rfl)
theorem Z59 : tbl 308 = some Zu8 := tblOf_eq Tryz.func308 (by kernel_rfl) (by kernel_rfl)
theorem Z6a : tbl 294 = some Zmf := tblOf_eq Tryz.func294 (by kernel_rfl) (by kernel_rfl)
theorem Z6b : tbl 293 = some Zvb := tblOf_eq Tryz.func293 (by kernel_rfl) (by kernel_rfl)
theorem Z6c : tbl 278 = some Zvc := tblOf_eq Tryz.func278 (by kernel_rfl) (by kernel_rfl)
theorem Z6d : tbl 217 = some Zvd := tblOf_eq Tryz.func217 (by kernel_rfl) (by kernel_rfl)
theorem Z6e : tbl 128 = some Zvf := tblOf_eq Tryz.func128 (by kernel_rfl) (by kernel_rfl)
theorem Z6f : tbl 120 = some Zvg := tblOf_eq Tryz.func120 (by kernel_rfl) (by kernel_rfl)
theorem Z6g : tbl 37 = some Zvh := tblOf_eq Tryz.func37 (by kernel_rfl) (by kernel_rfl)
theorem Z6h : tbl 92 = some Zvi := tblOf_eq Tryz.func92 (by kernel_rfl) (by kernel_rfl)
theorem Z6i : tbl 137 = some Zvj := tblOf_eq Tryz.func137 (by kernel_rfl) (by kernel_rfl)
theorem Z6j : tbl 255 = some Zvk := tblOf_eq Tryz.func255 (by kernel_rfl) (by kernel_rfl)
theorem Z6k : tbl 183 = some Zvl := tblOf_eq Tryz.func183 (by kernel_rfl) (by kernel_rfl)
theorem Z6l : tbl 184 = some Zvm := tblOf_eq Tryz.func184 (by kernel_rfl) (by kernel_rfl)
theorem Z6m : tbl 91 = some Zvo := tblOf_eq Tryz.func91 (by kernel_rfl) (by kernel_rfl)
theorem Z6n : tbl 288 = some Zvp := tblOf_eq Tryz.func288 (by kernel_rfl) (by kernel_rfl)
theorem Z6o : tbl 253 = some Zvq := tblOf_eq Tryz.func253 (by kernel_rfl) (by kernel_rfl)
theorem Z6p : tbl 254 = some Zvr := tblOf_eq Tryz.func254 (by kernel_rfl) (by kernel_rfl)
theorem Z6q : tbl 182 = some Zvs := tblOf_eq Tryz.func182 (by kernel_rfl) (by kernel_rfl)
theorem Z6r : tbl 88 = some Zvt := tblOf_eq Tryz.func88 (by kernel_rfl) (by kernel_rfl)
theorem Z6s : tbl 249 = some Zvu := tblOf_eq Tryz.func249 (by kernel_rfl) (by kernel_rfl)
theorem Z6t : tbl 250 = some Zvv := tblOf_eq Tryz.func250 (by kernel_rfl) (by kernel_rfl)
theorem Z6u : tbl 180 = some Zvw := tblOf_eq Tryz.func180 (by kernel_rfl) (by kernel_rfl)
theorem Z6v : tbl 117 = some Zvx := tblOf_eq Tryz.func117 (by kernel_rfl) (by kernel_rfl)
theorem Z6w : tbl 202 = some Zvy := tblOf_eq Tryz.func202 (by kernel_rfl) (by kernel_rfl)
theorem Z6x : tbl 252 = some Zvz := tblOf_eq Tryz.func252 (by kernel_rfl) (by kernel_rfl)
theorem Z6y : tbl 267 = some Zv1 := tblOf_eq Tryz.func267 (by kernel_rfl) (by kernel_rfl)
theorem Z6z : tbl 203 = some Zv2 := tblOf_eq Tryz.func203 (by kernel_rfl) (by kernel_rfl)
theorem Z60 : tbl 116 = some Zv3 := tblOf_eq Tryz.func116 (by kernel_rfl) (by kernel_rfl)
theorem Z61 : tbl 212 = some Zv4 := tblOf_eq Tryz.func212 (by kernel_rfl) (by kernel_rfl)
theorem Z62 : tbl 51 = some Zv5 := tblOf_eq Tryz.func51 (by kernel_rfl) (by kernel_rfl)
theorem Z63 : tbl 135 = some Zv6 := tblOf_eq Tryz.func135 (by kernel_rfl) (by kernel_rfl)
theorem Z64 : tbl 251 = some Zv7 := tblOf_eq Tryz.func251 (by kernel_rfl) (by kernel_rfl)
theorem Z65 : tbl 181 = some Zv8 := tblOf_eq Tryz.func181 (by kernel_rfl) (by kernel_rfl)
theorem Z66 : tbl 87 = some Zv9 := tblOf_eq Tryz.func87 (by kernel_rfl) (by kernel_rfl)
theorem Z67 : tbl 136 = some Zwa := tblOf_eq Tryz.func136 (by kernel_rfl) (by kernel_rfl)
theorem Z68 : tbl 44 = some Zwb := tblOf_eq Tryz.func44 (by kernel_rfl) (by kernel_rfl)
theorem Z69 : tbl 205 = some Zwd := tblOf_eq Tryz.func205 (by kernel_rfl) (by kernel_rfl)
theorem Z7a : tbl 206 = some Zwf := tblOf_eq Tryz.func206 (by kernel_rfl) (by kernel_rfl)
theorem Z7b : tbl 291 = some Zwh := tblOf_eq Tryz.func291 (by kernel_rfl) (by kernel_rfl)
theorem Z7c : tbl 270 = some Zwi := tblOf_eq Tryz.func270 (by kernel_rfl) (by kernel_rfl)
theorem Z7d : tbl 207 = some Zwk := tblOf_eq Tryz.func207 (by kernel_rfl) (by kernel_rfl)
theorem Z7e : tbl 121 = some Zwl := tblOf_eq Tryz.func121 (by kernel_rfl) (by kernel_rfl)
theorem Z7f : tbl 125 = some Zwm := tblOf_eq Tryz.func125 (by kernel_rfl) (by kernel_rfl)
theorem Z7g : tbl 209 = some Zwo := tblOf_eq Tryz.func209 (by kernel_rfl) (by kernel_rfl)
theorem Z7h : tbl 210 = some Zwp := tblOf_eq Tryz.func210 (by kernel_rfl) (by kernel_rfl)
theorem Z7i : tbl 208 = some Zwr := tblOf_eq Tryz.func208 (by kernel_rfl) (by kernel_rfl)
theorem Z7j : tbl 229 = some Zws := tblOf_eq Tryz.func229 (by kernel_rfl) (by kernel_rfl)
theorem Zmy : tbl 271 = some Zkz := tblOf_eq Tryz.func271 (by kernel_rfl) (by kernel_rfl)
end Go.Proofs.YtbapkgocloaaeaaGreat
/- part: T3 -/
namespace Go.Proofs.YtbapkgocloaaeaaGreat
open Go.AM
theorem Z7k : tbl 272 = some Zwt := tblOf_eq Tryz.func272 (by kernel_rfl) (by kernel_rfl)
theorem Z7l : tbl 231 = some Zwu := tblOf_eq Tryz.func231 (by kernel_rfl) (by kernel_rfl)
theorem Z7m : tbl 273 = some Zwv := tblOf_eq Tryz.func273 (by kernel_rfl) (by kernel_rfl)
theorem Z7n : tbl 211 = some Zwy := tblOf_eq Tryz.func211 (by kernel_rfl) (by kernel_rfl)
theorem Z7o : tbl 124 = some Zw0 := tblOf_eq Tryz.func124 (by kernel_rfl) (by kernel_rfl)
theorem Z7p : tbl 123 = some Zw1 := tblOf_eq Tryz.func123 (by kernel_rfl) (by kernel_rfl)
theorem Z7q : tbl 285 = some Zw2 := tblOf_eq Tryz.func285 (by kernel_rfl) (by kernel_rfl)
theorem Z7r : tbl 286 = some Zw3 := tblOf_eq Tryz.func286 (by kernel_rfl) (by kernel_rfl)
theorem Z7s : tbl 241 = some Zw4 := tblOf_eq Tryz.func241 (by kernel_rfl) (by kernel_rfl)
theorem Z7t : tbl 162 = some Zw5 := tblOf_eq Tryz.func162 (by kernel_rfl) (by kernel_rfl)
theorem Z7u : tbl 70 = some Zw6 := tblOf_eq Tryz.func70 (by kernel_rfl) (by kernel_rfl)
theorem Z7v : tbl 118 = some Zw7 := tblOf_eq Tryz.func118 (by kernel_rfl) (by kernel_rfl)
theorem Z7w : tbl 35 = some Zw8 := tblOf_eq Tryz.func35 (by kernel_rfl) (by kernel_rfl)
theorem Z7x : tbl 274 = some Zw9 := tblOf_eq Tryz.func274 (by kernel_rfl) (by kernel_rfl)
theorem Z7y : tbl 213 = some Zxa := tblOf_eq Tryz.func213 (by kernel_rfl) (by kernel_rfl)
theorem Z7z : tbl 45 = some Zxb := tblOf_eq Tryz.func45 (by kernel_rfl) (by kernel_rfl)
theorem Z70 : tbl 149 = some Zxc := tblOf_eq Tryz.func149 (by kernel_rfl) (by kernel_rfl)
theorem Z71 : tbl 158 = some Zxd := tblOf_eq Tryz.func158 (by kernel_rfl) (by kernel_rfl)
theorem Z72 : tbl 148 = some Zxe := tblOf_eq Tryz.func148 (by kernel_rfl) (by kernel_rfl)
theorem Z73 : tbl 55 = some Zxf := tblOf_eq Tryz.func55 (by kernel_rfl) (by kernel_rfl)
theorem Z74 : tbl 53 = some Zxg := tblOf_eq Tryz.func53 (by kernel_rfl) (by kernel_rfl)
end Go.Proofs.YtbapkgocloaaeaaGreat
/- part: G1 -/
namespace Go.Proofs.YtbapkgocloaaeaaGreat
open Go.AM
theorem Z75 (a : Int) (a1 : Int) (a2 : Int) (r : AV × List Blk) (h : (if a1 ≤ a then (some (Bo (decide (a ≤ a2)), []) = some r) else (some (Bo false, []) = some r))) : Zu a a1 a2 = some r := by
  unfold Zu
  refine run Z4t rfl ?_
  try simp only [itb] at h
  try simp only [itf, List.getElem?_eq_some_iff, kk] at h
  rcases h with ⟨q1, h⟩ | ⟨q1, h⟩
  all_goals (refine Eq.trans ?_ h; clear h; simp +decide [*, kk, Zti])
theorem Z76 (a : ByteArray) (r : AV × List Blk) (h : (if (a.size : Int) = 1 then (∃ (b1 : UInt8), a[0]? = some b1 ∧ (if 97 ≤ (b1.toNat : Int) then (some (Bo (decide ((b1.toNat : Int) ≤ 122)), []) = some r) else (some (Bo false, []) = some r))) else (some (Bo false, []) = some r))) : Zjh a = some r := by
  unfold Zjh
  refine run Z4u rfl ?_
  try simp only [itb] at h
  try simp only [itf, List.getElem?_eq_some_iff, kk] at h
  rcases h with ⟨q1, b1, q2, (⟨q3, h⟩ | ⟨q3, h⟩)⟩ | ⟨q1, h⟩
  all_goals (refine Eq.trans ?_ h; clear h; simp +decide [*, kk, Ztj])
theorem Zxi (s : List Int) (v : Int) (x : Int) (x1 : Int) (r : AV × List Blk) (h : (if x1 < x then (0 ≤ x1 ∧ (∃ (e1 : Int), s[x1.toNat]? = some e1 ∧ (if v = e1 then (some (I x1, []) = some r) else (Zgt s v x (w (x1 + 1)) = some r)))) else (some (I (-1), []) = some r))) : Zgt s v x x1 = some r := by
  unfold Zgt
  rw [EvL_eq Zn7.eq_1]
  try simp only [itb] at h
  try simp only [itf, List.getElem?_eq_some_iff, kk] at h
  rcases h with ⟨q1, q2, e1, ⟨g3, q3⟩, (⟨q4, h⟩ | ⟨q4, h⟩)⟩ | ⟨q1, h⟩
  all_goals (refine Eq.trans ?_ h; clear h; simp +decide [*, kk, Zgt, Zn8])
theorem Z77 (a : List Int) (a1 : Int) (r : AV × List Blk) (h : (Zgt a a1 (a.length : Int) 0 = some r)) : Zji a a1 = some r := by
  unfold Zji
  refine run Z4v rfl ?_
  refine Eq.trans ?_ h; clear h; simp +decide [*, kk, Ztk, Zgt]
theorem Z78 (a : List Int) (a1 : Int) (r : AV × List Blk) (h : (∃ (v1_0 : Int), Zji a a1 = some (I v1_0, []) ∧ (some (Bo (decide (0 ≤ v1_0)), []) = some r))) : Zc1 a a1 = some r := by
  unfold Zc1
  refine run Z4w rfl ?_
  simp only [Zji, mpl, dfs] at h
  rcases h with ⟨v1_0, q1, h⟩
  all_goals (refine Eq.trans ?_ h; clear h; simp +decide [*, kk, Ztl])
theorem Zxj (s : List Bool) (v : Bool) (x : Int) (x1 : Int) (r : AV × List Blk) (h : (if x1 < x then (0 ≤ x1 ∧ (∃ (e1 : Bool), s[x1.toNat]? = some e1 ∧ (if v = e1 then (some (I x1, []) = some r) else (Zgu s v x (w (x1 + 1)) = some r)))) else (some (I (-1), []) = some r))) : Zgu s v x x1 = some r := by
  unfold Zgu
  rw [EvL_eq Zn9.eq_1]
  try simp only [itb] at h
  try simp only [itf, List.getElem?_eq_some_iff, kk] at h
  rcases h with ⟨q1, q2, e1, ⟨g3, q3⟩, (⟨q4, h⟩ | ⟨q4, h⟩)⟩ | ⟨q1, h⟩
  all_goals (refine Eq.trans ?_ h; clear h; simp +decide [*, kk, Zgu, Zoa])
theorem Z79 (a : List Bool) (a1 : Bool) (r : AV × List Blk) (h : (Zgu a a1 (a.length : Int) 0 = some r)) : Zjj a a1 = some r := by
  unfold Zjj
  refine run Z4x rfl ?_
  refine Eq.trans ?_ h; clear h; simp +decide [*, kk, Ztm, Zgu]
theorem Z8a (a : List Bool) (a1 : Bool) (r : AV × List Blk) (h : (∃ (v1_0 : Int), Zjj a a1 = some (I v1_0, []) ∧ (some (Bo (decide (0 ≤ v1_0)), []) = some r))) : Zjk a a1 = some r := by
  unfold Zjk
  refine run Z4y rfl ?_
  simp only [Zjj, mpl, dfs] at h
  rcases h with ⟨v1_0, q1, h⟩
  all_goals (refine Eq.trans ?_ h; clear h; simp +decide [*, kk, Ztn])
theorem Zxk (q : Zb) (seen : List Bool) (x : List Atom) (x1 : Int) (x2 : Int) (r : AV × List Blk) (h : (if x2 < x1 then (0 ≤ x2 ∧ (∃ (e1 : Atom), x[x2.toNat]? = some e1 ∧ (∃ (v2_0 : Bool), Zjh e1.Name = some (Bo v2_0, []) ∧ (if v2_0 = true then (∃ (v3_0 : Bool), Zu (e1.Vars.length : Int) 1 3 = some (Bo v3_0, []) ∧ (if v3_0 = true then (Zgv q seen e1 x x1 x2 e1.Vars (e1.Vars.length : Int) 0 = some r) else (some (Bo false, []) = some r))) else (some (Bo false, []) = some r))))) else (∃ (v4_0 : Bool), Zjk seen false = some (Bo v4_0, []) ∧ (some (Bo (!v4_0), []) = some r)))) : Zfc q seen x x1 x2 = some r := by
  unfold Zfc
  rw [EvL_eq Zl5.eq_1]
  simp only [Zjh, Zu, Zjk, mpl, dfs] at h
  try simp only [itb] at h
  try simp only [itf, List.getElem?_eq_some_iff, kk] at h
  rcases h with ⟨q1, q2, e1, ⟨g3, q3⟩, v2_0, q4, (⟨q5, v3_0, q6, (⟨q7, h⟩ | ⟨q7, h⟩)⟩ | ⟨q5, h⟩)⟩ | ⟨q1, v4_0, q8, h⟩
  all_goals (refine Eq.trans ?_ h; clear h; simp +decide [*, kk, Zgv, Zl6])
theorem Zxl (q : Zb) (seen : List Bool) (a : Atom) (x : List Atom) (x1 : Int) (x2 : Int) (x3 : List Int) (x4 : Int) (x5 : Int) (r : AV × List Blk) (h : (if x5 < x4 then (0 ≤ x5 ∧ (∃ (e1 : Int), x3[x5.toNat]? = some e1 ∧ (∃ (v2_0 : Bool), Zu e1 0 (w (q.Ze - 1)) = some (Bo v2_0, []) ∧ (if v2_0 = true then (x5.toNat ≤ a.Vars.length ∧ (∃ (v3_0 : Bool), Zc1 (a.Vars.take x5.toNat) e1 = some (Bo v3_0, []) ∧ (if v3_0 = true then (some (Bo false, []) = some r) else (0 ≤ e1 ∧ (∃ (e4 : Bool), seen[e1.toNat]? = some e4 ∧ (Zgv q (seen.set e1.toNat true) a x x1 x2 x3 x4 (w (x5 + 1)) = some r)))))) else (some (Bo false, []) = some r))))) else (Zfc q seen x x1 (w (x2 + 1)) = some r))) : Zgv q seen a x x1 x2 x3 x4 x5 = some r := by
  unfold Zgv
  rw [EvL_eq Zob.eq_1]
  simp only [Zu, Zc1, mpl, dfs] at h
  try simp only [itb] at h
  try simp only [itf, List.getElem?_eq_some_iff, kk] at h
  rcases h with ⟨q1, q2, e1, ⟨g3, q3⟩, v2_0, q4, (⟨q5, q6, v3_0, q7, (⟨q8, h⟩ | ⟨q8, q9, e4, ⟨g10, q10⟩, h⟩)⟩ | ⟨q5, h⟩)⟩ | ⟨q1, h⟩
  all_goals (refine Eq.trans ?_ h; clear h; simp +decide [*, kk, Zgv, Zfc, Zoc])
theorem Z8b (a : Zb) (r : AV × List Blk) (h : (∃ (v1_0 : Bool), Zu a.Ze 1 4 = some (Bo v1_0, []) ∧ (if v1_0 = true then (∃ (v2_0 : Bool), Zu (a.Atoms.length : Int) 1 4 = some (Bo v2_0, []) ∧ (if v2_0 = true then (0 ≤ a.Ze ∧ (a.Ze.toNat * 1 ≤ room ∧ (a.Ze ≤ 140737488355328 ∧ (Zfc a (List.replicate (a.Ze).toNat false) a.Atoms (a.Atoms.length : Int) 0 = some r)))) else (some (Bo false, []) = some r))) else (some (Bo false, []) = some r)))) : Zcu a = some r := by
  unfold Zcu
  refine run Z4z rfl ?_
  obtain ⟨v1_0, q1, h⟩ := h
  unfold Zu at q1
  try simp at q1
  by_cases q2 : v1_0 = true
  · rw [if_pos q2] at h
    obtain ⟨v2_0, q3, h⟩ := h
    unfold Zu at q3
    try simp at q3
    by_cases q4 : v2_0 = true
    · rw [if_pos q4] at h
      obtain ⟨q5, h⟩ := h
      obtain ⟨q6, h⟩ := h
      have zq6 := q6; try simp at zq6
      obtain ⟨q7, h⟩ := h
      refine Eq.trans ?_ h
      clear h
      simp +decide [*, Zl7, Zfc]
    · rw [if_neg q4] at h
      refine Eq.trans ?_ h
      clear h
      simp +decide [*, Zl7]
  · rw [if_neg q2] at h
    refine Eq.trans ?_ h
    clear h
    simp +decide [*, Zl7]
theorem Zxm (location : List Int) (x : List Int) (x1 : Int) (x2 : Int) (r : AV × List Blk) (h : (if x2 < x1 then (0 ≤ x2 ∧ (∃ (e1 : Int), x[x2.toNat]? = some e1 ∧ (∃ (v2_0 : Bool), Zu e1 0 7 = some (Bo v2_0, []) ∧ (if v2_0 = true then (Zgw location x x1 (w (x2 + 1)) = some r) else (some (Bo false, []) = some r))))) else (some (Bo (decide ((location.length : Int) ≤ 16)), []) = some r))) : Zgw location x x1 x2 = some r := by
  unfold Zgw
  rw [EvL_eq Zod.eq_1]
  simp only [Zu, mpl, dfs] at h
  try simp only [itb] at h
  try simp only [itf, List.getElem?_eq_some_iff, kk] at h
  rcases h with ⟨q1, q2, e1, ⟨g3, q3⟩, v2_0, q4, (⟨q5, h⟩ | ⟨q5, h⟩)⟩ | ⟨q1, h⟩
  all_goals (refine Eq.trans ?_ h; clear h; simp +decide [*, kk, Zgw, Zoe])
theorem Z8c (a : List Int) (r : AV × List Blk) (h : (Zgw a a (a.length : Int) 0 = some r)) : Zfd a = some r := by
  unfold Zfd
  refine run Z40 rfl ?_
  refine Eq.trans ?_ h; clear h; simp +decide [*, kk, Zto, Zgw]
theorem Zxn (a : List Int) (b : List Int) (x : Int) (x1 : Int) (r : AV × List Blk) (h : (if x1 < x then (0 ≤ x1 ∧ (∃ (e1 : Int), a[x1.toNat]? = some e1 ∧ (∃ (e2 : Int), b[x1.toNat]? = some e2 ∧ (if e1 < e2 then (some (Bo false, []) = some r) else (Zgx a b x (w (x1 + 1)) = some r))))) else (some (Bo true, []) = some r))) : Zgx a b x x1 = some r := by
  unfold Zgx
  rw [EvL_eq Zof.eq_1]
  try simp only [itb] at h
  try simp only [itf, List.getElem?_eq_some_iff, kk] at h
  rcases h with ⟨q1, q2, e1, ⟨g3, q3⟩, e2, ⟨g4, q4⟩, (⟨q5, h⟩ | ⟨q5, h⟩)⟩ | ⟨q1, h⟩
  all_goals (refine Eq.trans ?_ h; clear h; simp +decide [*, kk, Zgx, Zog])
theorem Z8d (a : List Int) (a1 : List Int) (r : AV × List Blk) (h : (if (a.length : Int) = (a1.length : Int) then (Zgx a a1 (a.length : Int) 0 = some r) else (some (Bo false, []) = some r))) : Zjl a a1 = some r := by
  unfold Zjl
  refine run Z41 rfl ?_
  try simp only [itb] at h
  try simp only [itf, List.getElem?_eq_some_iff, kk] at h
  rcases h with ⟨q1, h⟩ | ⟨q1, h⟩
  all_goals (refine Eq.trans ?_ h; clear h; simp +decide [*, kk, Ztp, Zgx])
theorem Z8e (a : Box) (r : AV × List Blk) (h : (∃ (v1_0 : Bool), Zfd a.Low = some (Bo v1_0, []) ∧ (if v1_0 = true then (∃ (v2_0 : Bool), Zfd a.High = some (Bo v2_0, []) ∧ (if v2_0 = true then (if 0 < (a.Low.length : Int) then (∃ (v3_0 : Bool), Zjl a.High a.Low = some (Bo v3_0, []) ∧ (some (Bo v3_0, []) = some r)) else (some (Bo false, []) = some r)) else (some (Bo false, []) = some r))) else (some (Bo false, []) = some r)))) : Zgy a = some r := by
  unfold Zgy
  refine run Z42 rfl ?_
  simp only [Zfd, Zjl, mpl, dfs] at h
  try simp only [itb] at h
  try simp only [itf, List.getElem?_eq_some_iff, kk] at h
  rcases h with ⟨v1_0, q1, (⟨q2, v2_0, q3, (⟨q4, (⟨q5, v3_0, q6, h⟩ | ⟨q5, h⟩)⟩ | ⟨q4, h⟩)⟩ | ⟨q2, h⟩)⟩
  all_goals (refine Eq.trans ?_ h; clear h; simp +decide [*, kk, Ztq])
theorem Z8f (a : Zb) (r : AV × List Blk) (h : (∃ (v1_0 : Bool), Zcu a = some (Bo v1_0, []) ∧ (if v1_0 = true then (¬ (a.Atoms.length : Int) < 0 ∧ (some (I (w ((shlI 1 (a.Atoms.length : Int)) - 1)), []) = some r)) else (some (I 0, []) = some r)))) : Zbw a = some r := by
  unfold Zbw
  refine run Z43 rfl ?_
  simp only [Zcu, Zb.c_def, mpl, dfs] at h
  try simp only [itb] at h
  try simp only [itf, List.getElem?_eq_some_iff, kk] at h
  rcases h with ⟨v1_0, q1, (⟨q2, q3, h⟩ | ⟨q2, h⟩)⟩
  all_goals (refine Eq.trans ?_ h; clear h; simp +decide [*, kk, Ztr])
theorem Z8g (a : Zb) (a1 : Box) (r : AV × List Blk) (h : (∃ (v1_0 : Bool), Zgy a1 = some (Bo v1_0, []) ∧ (if v1_0 = true then (∃ (v2_0 : Int), Zbw a = some (I v2_0, []) ∧ (some (Bo (decide ((a1.Low.length : Int) = (w (v2_0 + 1)))), []) = some r)) else (some (Bo false, []) = some r)))) : Zjm a a1 = some r := by
  unfold Zjm
  refine run Z44 rfl ?_
  simp only [Zgy, Zbw, Box.c_def, Zb.c_def, mpl, dfs] at h
  try simp only [itb] at h
  try simp only [itf, List.getElem?_eq_some_iff, kk] at h
  rcases h with ⟨v1_0, q1, (⟨q2, v2_0, q3, h⟩ | ⟨q2, h⟩)⟩
  all_goals (refine Eq.trans ?_ h; clear h; simp +decide [*, kk, Zts])
theorem Zxo (q : Zb) (out : List Int) (mask : Int) (v : Int) (r : AV × List Blk) (h : (if v < q.Ze then (Zfe q out mask v q.Atoms (q.Atoms.length : Int) 0 = some r) else (some (.own 0, [.arr 3 1 true (out.map ic)]) = some r))) : Zeh q out mask v = some r := by
  unfold Zeh
  rw [EvL_eq Zl8.eq_1]
  try simp only [itb] at h
  try simp only [itf, List.getElem?_eq_some_iff, kk] at h
  rcases h with ⟨q1, h⟩ | ⟨q1, h⟩
  all_goals (refine Eq.trans ?_ h; clear h; simp +decide [*, kk, Zfe, Zl9])
theorem Zxp (q : Zb) (out : List Int) (mask : Int) (v : Int) (x : List Atom) (x1 : Int) (x2 : Int) (r : AV × List Blk) (h : (if x2 < x1 then (0 ≤ x2 ∧ (∃ (e1 : Atom), x[x2.toNat]? = some e1 ∧ (¬ x2 < 0 ∧ (if (andI (shrI mask x2) 1) = 1 then (∃ (v2_0 : Bool), Zc1 e1.Vars v = some (Bo v2_0, []) ∧ (if v2_0 = true then (out.length + 1 ≤ 68719476736 ∧ (Zeh q (out ++ [v]) mask (w (v + 1)) = some r)) else (Zfe q out mask v x x1 (w (x2 + 1)) = some r))) else (Zfe q out mask v x x1 (w (x2 + 1)) = some r))))) else (Zeh q out mask (w (v + 1)) = some r))) : Zfe q out mask v x x1 x2 = some r := by
  unfold Zfe
  rw [EvL_eq Zoh.eq_1]
  simp only [Zc1, mpl, dfs] at h
  try simp only [itb] at h
  try simp only [itf, List.getElem?_eq_some_iff, kk] at h
  rcases h with ⟨q1, q2, e1, ⟨g3, q3⟩, q4, (⟨q5, v2_0, q6, (⟨q7, q8, h⟩ | ⟨q7, h⟩)⟩ | ⟨q5, h⟩)⟩ | ⟨q1, h⟩
  all_goals (refine Eq.trans ?_ h; clear h; simp +decide [*, kk, Zeh, Zoi, Zfe])
theorem Z8h (a : Zb) (a1 : Int) (r : AV × List Blk) (h : (Zeh a ([] : List Int) a1 0 = some r)) : Zde a a1 = some r := by
  unfold Zde
  refine run Z45 rfl ?_
  refine Eq.trans ?_ h; clear h; simp +decide [*, kk, Ztt, Zeh]
theorem Zxq (out : List Int) (b : List Int) (x : List Int) (x1 : Int) (x2 : Int) (r : AV × List Blk) (h : (if x2 < x1 then (0 ≤ x2 ∧ (∃ (e1 : Int), x[x2.toNat]? = some e1 ∧ (∃ (v2_0 : Bool), Zc1 b e1 = some (Bo v2_0, []) ∧ (if v2_0 = true then (out.length + 1 ≤ 68719476736 ∧ (Zff (out ++ [e1]) b x x1 (w (x2 + 1)) = some r)) else (Zff out b x x1 (w (x2 + 1)) = some r))))) else (some (.own 0, [.arr 3 1 true (out.map ic)]) = some r))) : Zff out b x x1 x2 = some r := by
  unfold Zff
  rw [EvL_eq Zoj.eq_1]
  simp only [Zc1, mpl, dfs] at h
  try simp only [itb] at h
  try simp only [itf, List.getElem?_eq_some_iff, kk] at h
  rcases h with ⟨q1, q2, e1, ⟨g3, q3⟩, v2_0, q4, (⟨q5, q6, h⟩ | ⟨q5, h⟩)⟩ | ⟨q1, h⟩
  all_goals (refine Eq.trans ?_ h; clear h; simp +decide [*, kk, Zff, Ztu, Zok])
theorem Z8i (a : List Int) (a1 : List Int) (r : AV × List Blk) (h : (Zff ([] : List Int) a1 a (a.length : Int) 0 = some r)) : Zei a a1 = some r := by
  unfold Zei
  refine run Z46 rfl ?_
  refine Eq.trans ?_ h; clear h; simp +decide [*, kk, Ztv, Zff]
theorem Zgf (a : Zb) (a1 : Zc) (a2 : List Zf) (a3 : List Int) (r : AV × List Blk) (h : (if a1.Kind = 1 then (∃ (v1_0 : Bool), Zu a1.Atom 0 (w ((a.Atoms.length : Int) - 1)) = some (Bo v1_0, []) ∧ (if v1_0 = true then (if a1.Order = 0 then (¬ a1.Atom < 0 ∧ (0 ≤ a1.Atom ∧ (∃ (e2 : Atom), a.Atoms[a1.Atom.toNat]? = some e2 ∧ (∃ (e3 : Int), e2.Vars[0]? = some e3 ∧ (some (.tup [.agg [I (shlI 1 a1.Atom), I e3, I (-1), I (-1)], Bo true], []) = some r))))) else (some (.tup [.agg [I 0, I (-1), I (-1), I (-1)], Bo false], []) = some r)) else (some (.tup [.agg [I 0, I (-1), I (-1), I (-1)], Bo false], []) = some r))) else (if a1.Atom = 0 then (if a1.Kind = 2 then (if (a3.length : Int) < 1 then (some (.tup [.agg [I 0, I (-1), I (-1), I (-1)], Bo false], []) = some r) else (0 ≤ (w ((a3.length : Int) - 1)) ∧ (∃ (e4 : Int), a3[(w ((a3.length : Int) - 1)).toNat]? = some e4 ∧ (0 ≤ e4 ∧ (∃ (e5 : Zf), a2[e4.toNat]? = some e5 ∧ (∃ (v6_0 : List Int), Zde a e5.Mask = some (.own 0, [.arr 3 1 true (v6_0.map ic)]) ∧ (∃ (v7_0 : Bool), Zc1 v6_0 a1.Order = some (Bo v7_0, []) ∧ (if v7_0 = true then (if e5.Order = a1.Order then (some (.tup [.agg [I 0, I (-1), I (-1), I (-1)], Bo false], []) = some r) else (some (.tup [.agg [I e5.Mask, I a1.Order, I e4, I (-1)], Bo true], []) = some r)) else (some (.tup [.agg [I 0, I (-1), I (-1), I (-1)], Bo false], []) = some r))))))))) else (if (a3.length : Int) < 2 then (some (.tup [.agg [I 0, I (-1), I (-1), I (-1)], Bo false], []) = some r) else (0 ≤ (w ((a3.length : Int) - 2)) ∧ (∃ (e8 : Int), a3[(w ((a3.length : Int) - 2)).toNat]? = some e8 ∧ (0 ≤ (w ((a3.length : Int) - 1)) ∧ (∃ (e9 : Int), a3[(w ((a3.length : Int) - 1)).toNat]? = some e9 ∧ (0 ≤ e8 ∧ (∃ (e10 : Zf), a2[e8.toNat]? = some e10 ∧ (0 ≤ e9 ∧ (∃ (e11 : Zf), a2[e9.toNat]? = some e11 ∧ (∃ (v12_0 : List Int), Zde a e10.Mask = some (.own 0, [.arr 3 1 true (v12_0.map ic)]) ∧ (∃ (v13_0 : List Int), Zde a e11.Mask = some (.own 0, [.arr 3 1 true (v13_0.map ic)]) ∧ (∃ (v14_0 : List Int), Zei v12_0 v13_0 = some (.own 0, [.arr 3 1 true (v14_0.map ic)]) ∧ (if (andI e10.Mask e11.Mask) = 0 then (if (v14_0.length : Int) = 0 then (some (.tup [.agg [I (orI e10.Mask e11.Mask), I (-1), I e8, I e9], Bo false], []) = some r) else (if a1.Kind = 3 then (some (.tup [.agg [I (orI e10.Mask e11.Mask), I (-1), I e8, I e9], Bo (decide (a1.Order = 0))], []) = some r) else (if a1.Kind = 5 then (some (.tup [.agg [I (orI e10.Mask e11.Mask), I e10.Order, I e8, I e9], Bo (decide (a1.Order = 0))], []) = some r) else (if a1.Kind = 4 then (∃ (v15_0 : Bool), Zc1 v14_0 a1.Order = some (Bo v15_0, []) ∧ (if v15_0 = true then (if e10.Order = a1.Order then (some (.tup [.agg [I (orI e10.Mask e11.Mask), I a1.Order, I e8, I e9], Bo (decide (e11.Order = a1.Order))], []) = some r) else (some (.tup [.agg [I (orI e10.Mask e11.Mask), I a1.Order, I e8, I e9], Bo false], []) = some r)) else (some (.tup [.agg [I (orI e10.Mask e11.Mask), I a1.Order, I e8, I e9], Bo false], []) = some r))) else (some (.tup [.agg [I (orI e10.Mask e11.Mask), I (-1), I e8, I e9], Bo false], []) = some r))))) else (some (.tup [.agg [I (orI e10.Mask e11.Mask), I (-1), I e8, I e9], Bo false], []) = some r))))))))))))))) else (some (.tup [.agg [I 0, I (-1), I (-1), I (-1)], Bo false], []) = some r)))) : Zgz a a1 a2 a3 = some r := by
  unfold Zgz
  refine run Z47 rfl ?_
  simp only [Zu, Zde, Zc1, Zei, Zb.c_def, mpl, dfs] at h
  try simp only [itb] at h
  try simp only [itf, List.getElem?_eq_some_iff, kk] at h
  rcases h with ⟨q1, v1_0, q2, (⟨q3, (⟨q4, q5, q6, e2, ⟨g7, q7⟩, e3, ⟨g8, q8⟩, h⟩ | ⟨q4, h⟩)⟩ | ⟨q3, h⟩)⟩ | ⟨q1, (⟨q9, (⟨q10, (⟨q11, h⟩ | ⟨q11, q12, e4, ⟨g13, q13⟩, q14, e5, ⟨g15, q15⟩, v6_0, q16, v7_0, q17, (⟨q18, (⟨q19, h⟩ | ⟨q19, h⟩)⟩ | ⟨q18, h⟩)⟩)⟩ | ⟨q10, (⟨q20, h⟩ | ⟨q20, q21, e8, ⟨g22, q22⟩, q23, e9, ⟨g24, q24⟩, q25, e10, ⟨g26, q26⟩, q27, e11, ⟨g28, q28⟩, v12_0, q29, v13_0, q30, v14_0, q31, (⟨q32, (⟨q33, h⟩ | ⟨q33, (⟨q34, h⟩ | ⟨q34, (⟨q35, h⟩ | ⟨q35, (⟨q36, v15_0, q37, (⟨q38, (⟨q39, h⟩ | ⟨q39, h⟩)⟩ | ⟨q38, h⟩)⟩ | ⟨q36, h⟩)⟩)⟩)⟩)⟩ | ⟨q32, h⟩)⟩)⟩)⟩ | ⟨q9, h⟩)⟩
  all_goals (refine Eq.trans ?_ h; clear h; simp +decide [*, kk, Ztw])
theorem Zxr (q : Zb) (info : List Zf) (stack : List Int) (x : List Zc) (x1 : Int) (x2 : Int) (r : AV × List Blk) (h : (if x2 < x1 then (0 ≤ x2 ∧ (∃ (e1 : Zc), x[x2.toNat]? = some e1 ∧ (∃ (v2_0 : Zf) (v2_1 : Bool), Zgz q e1 info stack = some (.tup [.agg (v2_0.c.map .t), Bo v2_1], []) ∧ (if v2_1 = true then (info.length + 1 ≤ 68719476736 ∧ (if 0 ≤ v2_0.Right then (0 ≤ (w ((stack.length : Int) - 2)) ∧ ((w ((stack.length : Int) - 2)).toNat ≤ stack.length ∧ ((w ((stack.length : Int) - 2)).toNat + 1 ≤ 68719476736 ∧ (Zek q (info ++ [v2_0]) ((stack.take ((w ((stack.length : Int) - 2)).toNat)) ++ [x2]) x x1 (w (x2 + 1)) = some r)))) else (if 0 ≤ v2_0.Left then (0 ≤ (w ((stack.length : Int) - 1)) ∧ ((w ((stack.length : Int) - 1)).toNat ≤ stack.length ∧ ((w ((stack.length : Int) - 1)).toNat + 1 ≤ 68719476736 ∧ (Zek q (info ++ [v2_0]) ((stack.take ((w ((stack.length : Int) - 1)).toNat)) ++ [x2]) x x1 (w (x2 + 1)) = some r)))) else (stack.length + 1 ≤ 68719476736 ∧ (Zek q (info ++ [v2_0]) (stack ++ [x2]) x x1 (w (x2 + 1)) = some r))))) else (some (.tup [.t .nil, Bo false], []) = some r))))) else (if (stack.length : Int) = 1 then (some (.tup [.own 0, Bo true], [.arr 138 4 true (info.map Zf.c)]) = some r) else (some (.tup [.t .nil, Bo false], []) = some r)))) : Zek q info stack x x1 x2 = some r := by
  unfold Zek
  rw [EvL_eq Zol.eq_1]
  simp only [Zgz, Zc.c_def, Zb.c_def, Zf.c_def, mpl, dfs] at h
  try simp only [itb] at h
  try simp only [itf, List.getElem?_eq_some_iff, kk] at h
  rcases h with ⟨q1, q2, e1, ⟨g3, q3⟩, v2_0, v2_1, q4, (⟨q5, q6, (⟨q7, q8, q9, q10, h⟩ | ⟨q7, (⟨q11, q12, q13, q14, h⟩ | ⟨q11, q15, h⟩)⟩)⟩ | ⟨q5, h⟩)⟩ | ⟨q1, (⟨q16, h⟩ | ⟨q16, h⟩)⟩
  all_goals (refine Eq.trans ?_ h; clear h; simp +decide [*, kk, Zek, Ztx, Zom])
theorem Z8j (a : Zb) (a1 : Plan) (r : AV × List Blk) (h : (∃ (v1_0 : Bool), Zcu a = some (Bo v1_0, []) ∧ (if v1_0 = true then (∃ (v2_0 : Bool), Zu (a1.Steps.length : Int) 1 14 = some (Bo v2_0, []) ∧ (if v2_0 = true then (Zek a ([] : List Zf) ([] : List Int) a1.Steps (a1.Steps.length : Int) 0 = some r) else (some (.tup [.t .nil, Bo false], []) = some r))) else (some (.tup [.t .nil, Bo false], []) = some r)))) : Zej a a1 = some r := by
  unfold Zej
  refine run Z48 rfl ?_
  simp only [Zcu, Zu, Zb.c_def, mpl, dfs] at h
  try simp only [itb] at h
  try simp only [itf, List.getElem?_eq_some_iff, kk] at h
  rcases h with ⟨v1_0, q1, (⟨q2, v2_0, q3, (⟨q4, h⟩ | ⟨q4, h⟩)⟩ | ⟨q2, h⟩)⟩
  all_goals (refine Eq.trans ?_ h; clear h; simp +decide [*, kk, Zty, Zek])
theorem Z8k (a : Zb) (a1 : Plan) (r : AV × List Blk) (h : ((Zej a a1 = some (.tup [.t .nil, Bo false], []) ∧ (some (I 0, []) = some r)) ∨ (∃ (v2_0 : List Zf), Zej a a1 = some (.tup [.own 0, Bo true], [.arr 138 4 true (v2_0.map Zf.c)]) ∧ (0 ≤ (w ((v2_0.length : Int) - 1)) ∧ (∃ (e3 : Zf), v2_0[(w ((v2_0.length : Int) - 1)).toNat]? = some e3 ∧ (some (I e3.Mask, []) = some r)))))) : Zjn a a1 = some r := by
  unfold Zjn
  refine run Z49 rfl ?_
  simp only [Zej, Plan.c_def, Zb.c_def, mpl, dfs] at h
  try simp only [itb] at h
  try simp only [itf, List.getElem?_eq_some_iff, kk] at h
  rcases h with ⟨q2, h⟩ | ⟨v2_0, q3, q4, e3, ⟨g5, q5⟩, h⟩
  all_goals (refine Eq.trans ?_ h; clear h; simp +decide [*, kk, Ztz])
end Go.Proofs.YtbapkgocloaaeaaGreat
/- part: G2 -/
namespace Go.Proofs.YtbapkgocloaaeaaGreat
open Go.AM
theorem Z8l (a : Zb) (a1 : Region) (r : AV × List Blk) (h : (∃ (v1_0 : Bool), Zcu a = some (Bo v1_0, []) ∧ (if v1_0 = true then (∃ (v2_0 : Bool), Zjm a a1.Box = some (Bo v2_0, []) ∧ (if v2_0 = true then (∃ (v3_0 : Int), Zjn a a1.Plan = some (I v3_0, []) ∧ (∃ (v4_0 : Int), Zbw a = some (I v4_0, []) ∧ (if v3_0 = v4_0 then (∃ (v5_0 : Bool), Zu a1.Percent 100 1000 = some (Bo v5_0, []) ∧ (some (Bo v5_0, []) = some r)) else (some (Bo false, []) = some r)))) else (some (Bo false, []) = some r))) else (some (Bo false, []) = some r)))) : Zjo a a1 = some r := by
  unfold Zjo
  refine run Z5a rfl ?_
  simp only [Zcu, Zjm, Zjn, Zbw, Zu, Box.c_def, Plan.c_def, Zb.c_def, mpl, dfs] at h
  try simp only [itb] at h
  try simp only [itf, List.getElem?_eq_some_iff, kk] at h
  rcases h with ⟨v1_0, q1, (⟨q2, v2_0, q3, (⟨q4, v3_0, q5, v4_0, q6, (⟨q7, v5_0, q8, h⟩ | ⟨q7, h⟩)⟩ | ⟨q4, h⟩)⟩ | ⟨q2, h⟩)⟩
  all_goals (refine Eq.trans ?_ h; clear h; simp +decide [*, kk, Zt0])
theorem Z8m (a : Zb) (a1 : Int) (r : AV × List Blk) (h : (∃ (v1_0 : Bool), Zcu a = some (Bo v1_0, []) ∧ (if v1_0 = true then (¬ (a.Atoms.length : Int) < 0 ∧ (∃ (v2_0 : Bool), Zu a1 0 (w ((shlI 1 (a.Atoms.length : Int)) - 1)) = some (Bo v2_0, []) ∧ (some (Bo v2_0, []) = some r))) else (some (Bo false, []) = some r)))) : Zg0 a a1 = some r := by
  unfold Zg0
  refine run Z5b rfl ?_
  simp only [Zcu, Zu, Zb.c_def, mpl, dfs] at h
  try simp only [itb] at h
  try simp only [itf, List.getElem?_eq_some_iff, kk] at h
  rcases h with ⟨v1_0, q1, (⟨q2, q3, v2_0, q4, h⟩ | ⟨q2, h⟩)⟩
  all_goals (refine Eq.trans ?_ h; clear h; simp +decide [*, kk, Zt1])
theorem Zxs (vars : List Int) (mask : Int) (out : Int) (x : List Atom) (x1 : Int) (x2 : Int) (r : AV × List Blk) (h : (if x2 < x1 then (0 ≤ x2 ∧ (∃ (e1 : Atom), x[x2.toNat]? = some e1 ∧ (¬ x2 < 0 ∧ (if (andI (shrI mask x2) 1) = 0 then (∃ (v2_0 : List Int), Zei e1.Vars vars = some (.own 0, [.arr 3 1 true (v2_0.map ic)]) ∧ (if 0 < (v2_0.length : Int) then (Zel vars mask (orI out (shlI 1 x2)) x x1 (w (x2 + 1)) = some r) else (Zel vars mask out x x1 (w (x2 + 1)) = some r))) else (Zel vars mask out x x1 (w (x2 + 1)) = some r))))) else (some (I out, []) = some r))) : Zel vars mask out x x1 x2 = some r := by
  unfold Zel
  rw [EvL_eq Zon.eq_1]
  simp only [Zei, mpl, dfs] at h
  try simp only [itb] at h
  try simp only [itf, List.getElem?_eq_some_iff, kk] at h
  rcases h with ⟨q1, q2, e1, ⟨g3, q3⟩, q4, (⟨q5, v2_0, q6, (⟨q7, h⟩ | ⟨q7, h⟩)⟩ | ⟨q5, h⟩)⟩ | ⟨q1, h⟩
  all_goals (refine Eq.trans ?_ h; clear h; simp +decide [*, kk, Zel, Zt2, Zoo])
theorem Z8n (a : Zb) (a1 : Int) (r : AV × List Blk) (h : (∃ (v1_0 : List Int), Zde a a1 = some (.own 0, [.arr 3 1 true (v1_0.map ic)]) ∧ (Zel v1_0 a1 0 a.Atoms (a.Atoms.length : Int) 0 = some r))) : Zjp a a1 = some r := by
  unfold Zjp
  refine run Z5c rfl ?_
  simp only [Zde, Zb.c_def, mpl, dfs] at h
  rcases h with ⟨v1_0, q1, h⟩
  all_goals (refine Eq.trans ?_ h; clear h; simp +decide [*, kk, Zt3, Zel])
theorem Zxt (q : Zb) (mask : Int) (got : Int) (r : AV × List Blk) (h : (∃ (v1_0 : Int), Zjp q got = some (I v1_0, []) ∧ (if (orI got (andI v1_0 mask)) = got then (some (Bo (decide (got = mask)), []) = some r) else (Zg1 q mask (orI got (andI v1_0 mask)) = some r)))) : Zg1 q mask got = some r := by
  unfold Zg1
  rw [EvL_eq Zop.eq_1]
  simp only [Zjp, Zb.c_def, mpl, dfs] at h
  try simp only [itb] at h
  try simp only [itf, List.getElem?_eq_some_iff, kk] at h
  rcases h with ⟨v1_0, q1, (⟨q2, h⟩ | ⟨q2, h⟩)⟩
  all_goals (refine Eq.trans ?_ h; clear h; simp +decide [*, kk, Zg1])
theorem Zxu (a : Zb) (a1 : Int) (r : AV × List Blk) (h : (if a1 = 0 then (some (Bo false, []) = some r) else (Zg1 a a1 (andI a1 (w (0 - a1))) = some r))) : Zd0 a a1 = some r := by
  unfold Zd0
  refine run Z5d rfl ?_
  try simp only [itb] at h
  try simp only [itf, List.getElem?_eq_some_iff, kk] at h
  rcases h with ⟨q1, h⟩ | ⟨q1, h⟩
  all_goals (refine Eq.trans ?_ h; clear h; simp +decide [*, kk, Zt4, Zg1])
theorem Z8o (a : Zb) (a1 : Int) (r : AV × List Blk) (h : (∃ (v1_0 : Bool), Zg0 a a1 = some (Bo v1_0, []) ∧ (if v1_0 = true then (∃ (v2_0 : Bool), Zd0 a a1 = some (Bo v2_0, []) ∧ (some (Bo v2_0, []) = some r)) else (some (Bo false, []) = some r)))) : Zg2 a a1 = some r := by
  unfold Zg2
  refine run Z5e rfl ?_
  simp only [Zg0, Zd0, Zb.c_def, mpl, dfs] at h
  try simp only [itb] at h
  try simp only [itf, List.getElem?_eq_some_iff, kk] at h
  rcases h with ⟨v1_0, q1, (⟨q2, v2_0, q3, h⟩ | ⟨q2, h⟩)⟩
  all_goals (refine Eq.trans ?_ h; clear h; simp +decide [*, kk, Zt5])
theorem Zxv (x : Zd) (r : AV × List Blk) (h : (some (.bsl 1 5, [.box (x.c.map .t), .box [.ptr 0 0, .ptr 0 6, .ptr 0 12, .ptr 0 18, .ptr 0 24]]) = some r)) : Zd1 x = some r := by
  unfold Zd1
  refine runM Z5f rfl ?_
  refine Eq.trans ?_ h; clear h; simp +decide [*, kk, Zt6]
theorem Z8p (x : Zh) (r : AV × List Blk) (h : (some (.bsl 1 5, [.box (x.c.map .t), .box [.ptr 0 0, .ptr 0 1, .ptr 0 2, .ptr 0 3, .ptr 0 4]]) = some r)) : Zjq x = some r := by
  unfold Zjq
  refine runM Z5g rfl ?_
  refine Eq.trans ?_ h; clear h; simp +decide [*, kk, Zt7]
theorem Ziw (o : Zh) (x : Int) (x1 : Int) (r : AV × List Blk) (h : (if x1 < x then (if x1 = 0 then (∃ (v1_0 : Bool), Zu o.Fixed (-99) 99 = some (Bo v1_0, []) ∧ (if v1_0 = true then (Zcl o x (w (x1 + 1)) = some r) else (some (Bo false, []) = some r))) else (if x1 = 1 then (∃ (v2_0 : Bool), Zu o.Zj (-99) 99 = some (Bo v2_0, []) ∧ (if v2_0 = true then (Zcl o x (w (x1 + 1)) = some r) else (some (Bo false, []) = some r))) else (if x1 = 2 then (∃ (v3_0 : Bool), Zu o.Zk (-99) 99 = some (Bo v3_0, []) ∧ (if v3_0 = true then (Zcl o x (w (x1 + 1)) = some r) else (some (Bo false, []) = some r))) else (if x1 = 3 then (∃ (v4_0 : Bool), Zu o.Zm (-99) 99 = some (Bo v4_0, []) ∧ (if v4_0 = true then (Zcl o x (w (x1 + 1)) = some r) else (some (Bo false, []) = some r))) else (if x1 = 4 then (∃ (v5_0 : Bool), Zu o.Zl (-99) 99 = some (Bo v5_0, []) ∧ (if v5_0 = true then (Zcl o x (w (x1 + 1)) = some r) else (some (Bo false, []) = some r))) else False))))) else (Zem o o.Steps (o.Steps.length : Int) 0 = some r))) : Zcl o x x1 = some r := by
  unfold Zcl
  rw [EvL_eq Zoq.eq_1]
  by_cases q1 : x1 < x
  · rw [if_pos q1] at h
    by_cases q2 : x1 = 0
    · rw [if_pos q2] at h
      subst q2
      obtain ⟨v1_0, q3, h⟩ := h
      unfold Zu at q3
      try simp at q3
      by_cases q4 : v1_0 = true
      · rw [if_pos q4] at h
        refine Eq.trans ?_ h
        clear h
        simp +decide [*, Zcl]
      · rw [if_neg q4] at h
        refine Eq.trans ?_ h
        clear h
        simp +decide [*]
    · rw [if_neg q2] at h
      replace q2 := eq_false q2
      by_cases q5 : x1 = 1
      · rw [if_pos q5] at h
        subst q5
        obtain ⟨v2_0, q6, h⟩ := h
        unfold Zu at q6
        try simp at q6
        by_cases q7 : v2_0 = true
        · rw [if_pos q7] at h
          refine Eq.trans ?_ h
          clear h
          simp +decide [*, Zcl]
        · rw [if_neg q7] at h
          refine Eq.trans ?_ h
          clear h
          simp +decide [*]
      · rw [if_neg q5] at h
        replace q5 := eq_false q5
        by_cases q8 : x1 = 2
        · rw [if_pos q8] at h
          subst q8
          obtain ⟨v3_0, q9, h⟩ := h
          unfold Zu at q9
          try simp at q9
          by_cases q10 : v3_0 = true
          · rw [if_pos q10] at h
            refine Eq.trans ?_ h
            clear h
            simp +decide [*, Zcl]
          · rw [if_neg q10] at h
            refine Eq.trans ?_ h
            clear h
            simp +decide [*]
        · rw [if_neg q8] at h
          replace q8 := eq_false q8
          by_cases q11 : x1 = 3
          · rw [if_pos q11] at h
            subst q11
            obtain ⟨v4_0, q12, h⟩ := h
            unfold Zu at q12
            try simp at q12
            by_cases q13 : v4_0 = true
            · rw [if_pos q13] at h
              refine Eq.trans ?_ h
              clear h
              simp +decide [*, Zcl]
            · rw [if_neg q13] at h
              refine Eq.trans ?_ h
              clear h
              simp +decide [*]
          · rw [if_neg q11] at h
            replace q11 := eq_false q11
            by_cases q14 : x1 = 4
            · rw [if_pos q14] at h
              subst q14
              obtain ⟨v5_0, q15, h⟩ := h
              unfold Zu at q15
              try simp at q15
              by_cases q16 : v5_0 = true
              · rw [if_pos q16] at h
                refine Eq.trans ?_ h
                clear h
                simp +decide [*, Zcl]
              · rw [if_neg q16] at h
                refine Eq.trans ?_ h
                clear h
                simp +decide [*]
            · rw [if_neg q14] at h
              replace q14 := eq_false q14
              cases h
  · rw [if_neg q1] at h
    refine Eq.trans ?_ h
    clear h
    simp +decide [*, Zem, Zot]
theorem Zxw (o : Zh) (x : List Zg) (x1 : Int) (x2 : Int) (r : AV × List Blk) (h : (if x2 < x1 then (0 ≤ x2 ∧ (∃ (e1 : Zg), x[x2.toNat]? = some e1 ∧ (∃ (v2_0 : Bool), Zu e1.Add (-99) 99 = some (Bo v2_0, []) ∧ (if v2_0 = true then (∃ (v3_0 : Bool), Zu e1.From 1 8192 = some (Bo v3_0, []) ∧ (if v3_0 = true then (if 0 < x2 then (0 ≤ (w (x2 - 1)) ∧ (∃ (e4 : Zg), o.Steps[(w (x2 - 1)).toNat]? = some e4 ∧ (if e1.From ≤ e4.From then (some (Bo false, []) = some r) else (Zem o x x1 (w (x2 + 1)) = some r)))) else (Zem o x x1 (w (x2 + 1)) = some r)) else (some (Bo false, []) = some r))) else (some (Bo false, []) = some r))))) else (some (Bo (decide ((o.Steps.length : Int) ≤ 4)), []) = some r))) : Zem o x x1 x2 = some r := by
  unfold Zem
  rw [EvL_eq Zor.eq_1]
  simp only [Zu, mpl, dfs] at h
  try simp only [itb] at h
  try simp only [itf, List.getElem?_eq_some_iff, kk] at h
  rcases h with ⟨q1, q2, e1, ⟨g3, q3⟩, v2_0, q4, (⟨q5, v3_0, q6, (⟨q7, (⟨q8, q9, e4, ⟨g10, q10⟩, (⟨q11, h⟩ | ⟨q11, h⟩)⟩ | ⟨q8, h⟩)⟩ | ⟨q7, h⟩)⟩ | ⟨q5, h⟩)⟩ | ⟨q1, h⟩
  all_goals (refine Eq.trans ?_ h; clear h; simp +decide [*, kk, Zem, Zos])
theorem Z8q (a : Zh) (r : AV × List Blk) (h : (Zjq a = some (.bsl 1 5, [.box (a.c.map .t), .box [.ptr 0 0, .ptr 0 1, .ptr 0 2, .ptr 0 3, .ptr 0 4]]) ∧ (Zcl a 5 0 = some r))) : Zbh a = some r := by
  unfold Zbh
  refine run Z5h rfl ?_
  simp only [Zjq, Zh.c_def, mpl, dfs] at h
  rcases h with ⟨q1, h⟩
  all_goals (refine Eq.trans ?_ h; clear h; simp +decide [*, kk, Zt8, Zcl])
theorem Zxx (out : List (List Int)) (a : Int) (r : AV × List Blk) (h : (if a ≤ 7 then (Zen out a 0 = some r) else (some (.own 0, [.arr 38 1 true (out.map isc)]) = some r))) : Zfg out a = some r := by
  unfold Zfg
  rw [EvL_eq Zjr.eq_1]
  try simp only [itb] at h
  try simp only [itf, List.getElem?_eq_some_iff, kk] at h
  rcases h with ⟨q1, h⟩ | ⟨q1, h⟩
  all_goals (refine Eq.trans ?_ h; clear h; simp +decide [*, kk, Zen, Zjs])
theorem Zxy (out : List (List Int)) (a : Int) (b : Int) (r : AV × List Blk) (h : (if b ≤ 7 then (Zfh out a b 0 = some r) else (Zfg out (w (a + 1)) = some r))) : Zen out a b = some r := by
  unfold Zen
  rw [EvL_eq Zma.eq_1]
  try simp only [itb] at h
  try simp only [itf, List.getElem?_eq_some_iff, kk] at h
  rcases h with ⟨q1, h⟩ | ⟨q1, h⟩
  all_goals (refine Eq.trans ?_ h; clear h; simp +decide [*, kk, Zfh, Zfg, Zmb])
theorem Zxz (out : List (List Int)) (a : Int) (b : Int) (c : Int) (r : AV × List Blk) (h : (if c ≤ 7 then (out.length + 1 ≤ 68719476736 ∧ (Zfh (out ++ [[a, b, c]]) a b (w (c + 1)) = some r)) else (Zen out a (w (b + 1)) = some r))) : Zfh out a b c = some r := by
  unfold Zfh
  rw [EvL_eq Zou.eq_1]
  try simp only [itb] at h
  try simp only [itf, List.getElem?_eq_some_iff, kk] at h
  rcases h with ⟨q1, q2, h⟩ | ⟨q1, h⟩
  all_goals (refine Eq.trans ?_ h; clear h; simp +decide [*, kk, Zfh, Zen, Zov])
theorem Z8r (r : AV × List Blk) (h : (Zfg ([] : List (List Int)) 0 = some r)) : Zcb = some r := by
  unfold Zcb
  refine run Z5i rfl ?_
  refine Eq.trans ?_ h; clear h; simp +decide [*, kk, Zt9, Zfg]
theorem Z8s (a : List Int) (r : AV × List Blk) (h : (a.length ≤ 68719476736 ∧ (some (.own 0, [.arr 3 1 true (a.map ic)]) = some r))) : Zjt a = some r := by
  unfold Zjt
  refine run Z5j rfl ?_
  rcases h with ⟨q1, h⟩
  all_goals (refine Eq.trans ?_ h; clear h; simp +decide [*, kk, Zua])
theorem Z8t (a : Int) (r : AV × List Blk) (h : (∃ (v1_0 : Bool), Zu a 0 7 = some (Bo v1_0, []) ∧ (if v1_0 = true then (if a = 0 then (some (I 0, []) = some r) else (¬ (w (2 * (w (a - 1)))) < 0 ∧ (some (I (shlI 1 (w (2 * (w (a - 1))))), []) = some r))) else (some (I (-1), []) = some r)))) : Zeo a = some r := by
  unfold Zeo
  refine run Z5k rfl ?_
  simp only [Zu, mpl, dfs] at h
  try simp only [itb] at h
  try simp only [itf, List.getElem?_eq_some_iff, kk] at h
  rcases h with ⟨v1_0, q1, (⟨q2, (⟨q3, h⟩ | ⟨q3, q4, h⟩)⟩ | ⟨q2, h⟩)⟩
  all_goals (refine Eq.trans ?_ h; clear h; simp +decide [*, kk, Zub])
theorem Zx0 (left : Int) (right : Int) (n : Int) (x : List Zg) (x1 : Int) (x2 : Int) (r : AV × List Blk) (h : (if x2 < x1 then (0 ≤ x2 ∧ (∃ (e1 : Zg), x[x2.toNat]? = some e1 ∧ (if e1.From ≤ (w (left + right)) then (Zfi left right (w (n + e1.Add)) x x1 (w (x2 + 1)) = some r) else (Zfi left right n x x1 (w (x2 + 1)) = some r)))) else (some (I n, []) = some r))) : Zfi left right n x x1 x2 = some r := by
  unfold Zfi
  rw [EvL_eq Zow.eq_1]
  try simp only [itb] at h
  try simp only [itf, List.getElem?_eq_some_iff, kk] at h
  rcases h with ⟨q1, q2, e1, ⟨g3, q3⟩, (⟨q4, h⟩ | ⟨q4, h⟩)⟩ | ⟨q1, h⟩
  all_goals (refine Eq.trans ?_ h; clear h; simp +decide [*, kk, Zfi, Zuc, Zox])
theorem Z8u (a : Zh) (a1 : Int) (a2 : Int) (a3 : Int) (r : AV × List Blk) (h : (Zfi a1 a2 (w ((w ((w ((w (a.Fixed + (w (a.Zj * a1)))) + (w (a.Zk * a2)))) + (w (a.Zm * a3)))) + (w ((w (a.Zl * a1)) * a2)))) a.Steps (a.Steps.length : Int) 0 = some r)) : Zg3 a a1 a2 a3 = some r := by
  unfold Zg3
  refine run Z5l rfl ?_
  refine Eq.trans ?_ h; clear h; simp +decide [*, kk, Zud, Zfi]
theorem Z8v (a : Zh) (a1 : List Int) (r : AV × List Blk) (h : (∃ (e1 : Int), a1[0]? = some e1 ∧ (∃ (v2_0 : Int), Zeo e1 = some (I v2_0, []) ∧ (∃ (e3 : Int), a1[1]? = some e3 ∧ (∃ (v4_0 : Int), Zeo e3 = some (I v4_0, []) ∧ (∃ (e5 : Int), a1[2]? = some e5 ∧ (∃ (v6_0 : Int), Zeo e5 = some (I v6_0, []) ∧ (∃ (v7_0 : Int), Zg3 a v2_0 v4_0 v6_0 = some (I v7_0, []) ∧ (some (I v7_0, []) = some r))))))))) : Zb4 a a1 = some r := by
  unfold Zb4
  refine run Z5m rfl ?_
  simp only [Zeo, Zg3, Zh.c_def, mpl, dfs] at h
  try simp only [itb] at h
  try simp only [itf, List.getElem?_eq_some_iff, kk] at h
  rcases h with ⟨e1, ⟨g1, q1⟩, v2_0, q2, e3, ⟨g3, q3⟩, v4_0, q4, e5, ⟨g5, q5⟩, v6_0, q6, v7_0, q7, h⟩
  all_goals (refine Eq.trans ?_ h; clear h; simp +decide [*, kk, Zue])
theorem Zx1 (o : Zh) (x : List (List Int)) (x1 : Int) (x2 : Int) (r : AV × List Blk) (h : (if x2 < x1 then (0 ≤ x2 ∧ (∃ (e1 : List Int), x[x2.toNat]? = some e1 ∧ (Zcm o x e1 x1 x2 (e1.length : Int) 0 = some r))) else (some (.tup [.t .nil, .t .nil, Bo false], []) = some r))) : Zd2 o x x1 x2 = some r := by
  unfold Zd2
  rw [EvL_eq Zmc.eq_1]
  try simp only [itb] at h
  try simp only [itf, List.getElem?_eq_some_iff, kk] at h
  rcases h with ⟨q1, q2, e1, ⟨g3, q3⟩, h⟩ | ⟨q1, h⟩
  all_goals (refine Eq.trans ?_ h; clear h; simp +decide [*, kk, Zcm, Zmd])
theorem Zrp (o : Zh) (x : List (List Int)) (t : List Int) (x1 : Int) (x2 : Int) (x3 : Int) (x4 : Int) (r : AV × List Blk) (h : (if x4 < x3 then (0 ≤ x4 ∧ (∃ (e1 : Int), t[x4.toNat]? = some e1 ∧ (if e1 = 7 then (Zcm o x t x1 x2 x3 (w (x4 + 1)) = some r) else (∃ (v2_0 : List Int), Zjt t = some (.own 0, [.arr 3 1 true (v2_0.map ic)]) ∧ (∃ (e3 : Int), v2_0[x4.toNat]? = some e3 ∧ (∃ (v4_0 : Int), Zb4 o (v2_0.set x4.toNat (w (e3 + 1))) = some (I v4_0, []) ∧ (∃ (v5_0 : Int), Zb4 o t = some (I v5_0, []) ∧ (if v4_0 < v5_0 then (some (.tup [L 1 (t.map ic), .own 0, Bo true], [.arr 3 1 true ((v2_0.set x4.toNat (w (e3 + 1))).map ic)]) = some r) else (Zcm o x t x1 x2 x3 (w (x4 + 1)) = some r))))))))) else (Zd2 o x x1 (w (x2 + 1)) = some r))) : Zcm o x t x1 x2 x3 x4 = some r := by
  unfold Zcm
  rw [EvL_eq Zoy.eq_1]
  simp only [Zjt, Zb4, Zh.c_def, mpl, dfs] at h
  try simp only [itb] at h
  try simp only [itf, List.getElem?_eq_some_iff, kk] at h
  rcases h with ⟨q1, q2, e1, ⟨g3, q3⟩, (⟨q4, h⟩ | ⟨q4, v2_0, q5, e3, ⟨g6, q6⟩, v4_0, q7, v5_0, q8, (⟨q9, h⟩ | ⟨q9, h⟩)⟩)⟩ | ⟨q1, h⟩
  all_goals (refine Eq.trans ?_ h; clear h; simp +decide [*, kk, Zcm, Zuf, Zd2, Zoz])
theorem Z8w (a : Zh) (r : AV × List Blk) (h : (∃ (v1_0 : Bool), Zbh a = some (Bo v1_0, []) ∧ (if v1_0 = true then (∃ (v2_0 : List (List Int)), Zcb = some (.own 0, [.arr 38 1 true (v2_0.map isc)]) ∧ (Zd2 a v2_0 (v2_0.length : Int) 0 = some r)) else (some (.tup [.t .nil, .t .nil, Bo false], []) = some r)))) : Zbe a = some r := by
  unfold Zbe
  refine run Z5n rfl ?_
  simp only [Zbh, Zcb, Zh.c_def, mpl, dfs] at h
  try simp only [itb] at h
  try simp only [itf, List.getElem?_eq_some_iff, kk] at h
  rcases h with ⟨v1_0, q1, (⟨q2, v2_0, q3, h⟩ | ⟨q2, h⟩)⟩
  all_goals (refine Eq.trans ?_ h; clear h; simp +decide [*, kk, Zug, Zd2])
end Go.Proofs.YtbapkgocloaaeaaGreat
/- part: G3 -/
namespace Go.Proofs.YtbapkgocloaaeaaGreat
open Go.AM
theorem Zix (x : Zd) (x1 : Int) (x2 : Int) (r : AV × List Blk) (h : (if x2 < x1 then (if x2 = 0 then (∃ (v1_0 : Bool), Zbh x.Scan = some (Bo v1_0, []) ∧ (if v1_0 = true then ((Zbe x.Scan = some (.tup [.t .nil, .t .nil, Bo false], []) ∧ (∃ (v3_0 : List (List Int)), Zcb = some (.own 0, [.arr 38 1 true (v3_0.map isc)]) ∧ (Zep x v3_0 (w (1 + x2)) x1 x2 (v3_0.length : Int) 0 = some r))) ∨ (∃ (v4_0 : List Int) (v4_1 : List Int), Zbe x.Scan = some (.tup [L 1 (v4_1.map ic), .own 0, Bo true], [.arr 3 1 true (v4_0.map ic)]) ∧ (some (.tup [I (w (1 + x2)), L 1 (v4_1.map ic), .own 0], [.arr 3 1 true (v4_0.map ic)]) = some r))) else (some (.tup [I (w (1 + x2)), .t .nil, .t .nil], []) = some r))) else (if x2 = 1 then (∃ (v5_0 : Bool), Zbh x.Sort_ = some (Bo v5_0, []) ∧ (if v5_0 = true then ((Zbe x.Sort_ = some (.tup [.t .nil, .t .nil, Bo false], []) ∧ (∃ (v7_0 : List (List Int)), Zcb = some (.own 0, [.arr 38 1 true (v7_0.map isc)]) ∧ (Zeq x v7_0 (w (1 + x2)) x1 x2 (v7_0.length : Int) 0 = some r))) ∨ (∃ (v8_0 : List Int) (v8_1 : List Int), Zbe x.Sort_ = some (.tup [L 1 (v8_1.map ic), .own 0, Bo true], [.arr 3 1 true (v8_0.map ic)]) ∧ (some (.tup [I (w (1 + x2)), L 1 (v8_1.map ic), .own 0], [.arr 3 1 true (v8_0.map ic)]) = some r))) else (some (.tup [I (w (1 + x2)), .t .nil, .t .nil], []) = some r))) else (if x2 = 2 then (∃ (v9_0 : Bool), Zbh x.Hash = some (Bo v9_0, []) ∧ (if v9_0 = true then ((Zbe x.Hash = some (.tup [.t .nil, .t .nil, Bo false], []) ∧ (∃ (v11_0 : List (List Int)), Zcb = some (.own 0, [.arr 38 1 true (v11_0.map isc)]) ∧ (Zer x v11_0 (w (1 + x2)) x1 x2 (v11_0.length : Int) 0 = some r))) ∨ (∃ (v12_0 : List Int) (v12_1 : List Int), Zbe x.Hash = some (.tup [L 1 (v12_1.map ic), .own 0, Bo true], [.arr 3 1 true (v12_0.map ic)]) ∧ (some (.tup [I (w (1 + x2)), L 1 (v12_1.map ic), .own 0], [.arr 3 1 true (v12_0.map ic)]) = some r))) else (some (.tup [I (w (1 + x2)), .t .nil, .t .nil], []) = some r))) else (if x2 = 3 then (∃ (v13_0 : Bool), Zbh x.Merge = some (Bo v13_0, []) ∧ (if v13_0 = true then ((Zbe x.Merge = some (.tup [.t .nil, .t .nil, Bo false], []) ∧ (∃ (v15_0 : List (List Int)), Zcb = some (.own 0, [.arr 38 1 true (v15_0.map isc)]) ∧ (Zes x v15_0 (w (1 + x2)) x1 x2 (v15_0.length : Int) 0 = some r))) ∨ (∃ (v16_0 : List Int) (v16_1 : List Int), Zbe x.Merge = some (.tup [L 1 (v16_1.map ic), .own 0, Bo true], [.arr 3 1 true (v16_0.map ic)]) ∧ (some (.tup [I (w (1 + x2)), L 1 (v16_1.map ic), .own 0], [.arr 3 1 true (v16_0.map ic)]) = some r))) else (some (.tup [I (w (1 + x2)), .t .nil, .t .nil], []) = some r))) else (if x2 = 4 then (∃ (v17_0 : Bool), Zbh x.Nested = some (Bo v17_0, []) ∧ (if v17_0 = true then ((Zbe x.Nested = some (.tup [.t .nil, .t .nil, Bo false], []) ∧ (∃ (v19_0 : List (List Int)), Zcb = some (.own 0, [.arr 38 1 true (v19_0.map isc)]) ∧ (Zet x v19_0 (w (1 + x2)) x1 x2 (v19_0.length : Int) 0 = some r))) ∨ (∃ (v20_0 : List Int) (v20_1 : List Int), Zbe x.Nested = some (.tup [L 1 (v20_1.map ic), .own 0, Bo true], [.arr 3 1 true (v20_0.map ic)]) ∧ (some (.tup [I (w (1 + x2)), L 1 (v20_1.map ic), .own 0], [.arr 3 1 true (v20_0.map ic)]) = some r))) else (some (.tup [I (w (1 + x2)), .t .nil, .t .nil], []) = some r))) else False))))) else (some (.tup [I 0, .t .nil, .t .nil], []) = some r))) : Z0 x x1 x2 = some r := by
  unfold Z0
  rw [EvL_eq Zfj.eq_1]
  by_cases q1 : x2 < x1
  · rw [if_pos q1] at h
    by_cases q2 : x2 = 0
    · rw [if_pos q2] at h
      subst q2
      obtain ⟨v1_0, q3, h⟩ := h
      unfold Zbh at q3
      try simp at q3
      by_cases q4 : v1_0 = true
      · rw [if_pos q4] at h
        rcases h with h | h
        ·
          obtain ⟨q5, h⟩ := h
          unfold Zbe at q5
          try simp at q5
          obtain ⟨v3_0, q6, h⟩ := h
          unfold Zcb at q6
          try simp at q6
          refine Eq.trans ?_ h
          clear h
          simp +decide [*, Zep]
        ·
          obtain ⟨v4_0, v4_1, q7, h⟩ := h
          unfold Zbe at q7
          try simp at q7
          refine Eq.trans ?_ h
          clear h
          simp +decide [*]
      · rw [if_neg q4] at h
        refine Eq.trans ?_ h
        clear h
        simp +decide [*]
    · rw [if_neg q2] at h
      replace q2 := eq_false q2
      by_cases q8 : x2 = 1
      · rw [if_pos q8] at h
        subst q8
        obtain ⟨v5_0, q9, h⟩ := h
        unfold Zbh at q9
        try simp at q9
        by_cases q10 : v5_0 = true
        · rw [if_pos q10] at h
          rcases h with h | h
          ·
            obtain ⟨q11, h⟩ := h
            unfold Zbe at q11
            try simp at q11
            obtain ⟨v7_0, q12, h⟩ := h
            unfold Zcb at q12
            try simp at q12
            refine Eq.trans ?_ h
            clear h
            simp +decide [*, Zeq]
          ·
            obtain ⟨v8_0, v8_1, q13, h⟩ := h
            unfold Zbe at q13
            try simp at q13
            refine Eq.trans ?_ h
            clear h
            simp +decide [*]
        · rw [if_neg q10] at h
          refine Eq.trans ?_ h
          clear h
          simp +decide [*]
      · rw [if_neg q8] at h
        replace q8 := eq_false q8
        by_cases q14 : x2 = 2
        · rw [if_pos q14] at h
          subst q14
          obtain ⟨v9_0, q15, h⟩ := h
          unfold Zbh at q15
          try simp at q15
          by_cases q16 : v9_0 = true
          · rw [if_pos q16] at h
            rcases h with h | h
            ·
              obtain ⟨q17, h⟩ := h
              unfold Zbe at q17
              try simp at q17
              obtain ⟨v11_0, q18, h⟩ := h
              unfold Zcb at q18
              try simp at q18
              refine Eq.trans ?_ h
              clear h
              simp +decide [*, Zer]
            ·
              obtain ⟨v12_0, v12_1, q19, h⟩ := h
              unfold Zbe at q19
              try simp at q19
              refine Eq.trans ?_ h
              clear h
              simp +decide [*]
          · rw [if_neg q16] at h
            refine Eq.trans ?_ h
            clear h
            simp +decide [*]
        · rw [if_neg q14] at h
          replace q14 := eq_false q14
          by_cases q20 : x2 = 3
          · rw [if_pos q20] at h
            subst q20
            obtain ⟨v13_0, q21, h⟩ := h
            unfold Zbh at q21
            try simp at q21
            by_cases q22 : v13_0 = true
            · rw [if_pos q22] at h
              rcases h with h | h
              ·
                obtain ⟨q23, h⟩ := h
                unfold Zbe at q23
                try simp at q23
                obtain ⟨v15_0, q24, h⟩ := h
                unfold Zcb at q24
                try simp at q24
                refine Eq.trans ?_ h
                clear h
                simp +decide [*, Zes]
              ·
                obtain ⟨v16_0, v16_1, q25, h⟩ := h
                unfold Zbe at q25
                try simp at q25
                refine Eq.trans ?_ h
                clear h
                simp +decide [*]
            · rw [if_neg q22] at h
              refine Eq.trans ?_ h
              clear h
              simp +decide [*]
          · rw [if_neg q20] at h
            replace q20 := eq_false q20
            by_cases q26 : x2 = 4
            · rw [if_pos q26] at h
              subst q26
              obtain ⟨v17_0, q27, h⟩ := h
              unfold Zbh at q27
              try simp at q27
              by_cases q28 : v17_0 = true
              · rw [if_pos q28] at h
                rcases h with h | h
                ·
                  obtain ⟨q29, h⟩ := h
                  unfold Zbe at q29
                  try simp at q29
                  obtain ⟨v19_0, q30, h⟩ := h
                  unfold Zcb at q30
                  try simp at q30
                  refine Eq.trans ?_ h
                  clear h
                  simp +decide [*, Zet]
                ·
                  obtain ⟨v20_0, v20_1, q31, h⟩ := h
                  unfold Zbe at q31
                  try simp at q31
                  refine Eq.trans ?_ h
                  clear h
                  simp +decide [*]
              · rw [if_neg q28] at h
                refine Eq.trans ?_ h
                clear h
                simp +decide [*]
            · rw [if_neg q26] at h
              replace q26 := eq_false q26
              cases h
  · rw [if_neg q1] at h
    refine Eq.trans ?_ h
    clear h
    simp +decide [*, Zfk]
theorem Zx2 (o : Zd) (x : List (List Int)) (kind : Int) (x1 : Int) (x2 : Int) (x3 : Int) (x4 : Int) (r : AV × List Blk) (h : (if x4 < x3 then (0 ≤ x4 ∧ (∃ (e1 : List Int), x[x4.toNat]? = some e1 ∧ (∃ (v2_0 : Int), Zb4 o.Scan e1 = some (I v2_0, []) ∧ (if v2_0 < 1 then (some (.tup [I kind, L 1 (e1.map ic), .t .nil], []) = some r) else (Zep o x kind x1 x2 x3 (w (x4 + 1)) = some r))))) else (Z0 o x1 (w (x2 + 1)) = some r))) : Zep o x kind x1 x2 x3 x4 = some r := by
  unfold Zep
  rw [EvL_eq Zdf.eq_1]
  simp only [Zb4, Zh.c_def, mpl, dfs] at h
  try simp only [itb] at h
  try simp only [itf, List.getElem?_eq_some_iff, kk] at h
  rcases h with ⟨q1, q2, e1, ⟨g3, q3⟩, v2_0, q4, (⟨q5, h⟩ | ⟨q5, h⟩)⟩ | ⟨q1, h⟩
  all_goals (refine Eq.trans ?_ h; clear h; simp +decide [*, kk, Zep, Z0, Zdg])
theorem Zx3 (o : Zd) (x : List (List Int)) (kind : Int) (x1 : Int) (x2 : Int) (x3 : Int) (x4 : Int) (r : AV × List Blk) (h : (if x4 < x3 then (0 ≤ x4 ∧ (∃ (e1 : List Int), x[x4.toNat]? = some e1 ∧ (∃ (v2_0 : Int), Zb4 o.Sort_ e1 = some (I v2_0, []) ∧ (if v2_0 < 1 then (some (.tup [I kind, L 1 (e1.map ic), .t .nil], []) = some r) else (Zeq o x kind x1 x2 x3 (w (x4 + 1)) = some r))))) else (Z0 o x1 (w (x2 + 1)) = some r))) : Zeq o x kind x1 x2 x3 x4 = some r := by
  unfold Zeq
  rw [EvL_eq Zdf.eq_1]
  simp only [Zb4, Zh.c_def, mpl, dfs] at h
  try simp only [itb] at h
  try simp only [itf, List.getElem?_eq_some_iff, kk] at h
  rcases h with ⟨q1, q2, e1, ⟨g3, q3⟩, v2_0, q4, (⟨q5, h⟩ | ⟨q5, h⟩)⟩ | ⟨q1, h⟩
  all_goals (refine Eq.trans ?_ h; clear h; simp +decide [*, kk, Zeq, Z0, Zdg])
theorem Zx4 (o : Zd) (x : List (List Int)) (kind : Int) (x1 : Int) (x2 : Int) (x3 : Int) (x4 : Int) (r : AV × List Blk) (h : (if x4 < x3 then (0 ≤ x4 ∧ (∃ (e1 : List Int), x[x4.toNat]? = some e1 ∧ (∃ (v2_0 : Int), Zb4 o.Hash e1 = some (I v2_0, []) ∧ (if v2_0 < 1 then (some (.tup [I kind, L 1 (e1.map ic), .t .nil], []) = some r) else (Zer o x kind x1 x2 x3 (w (x4 + 1)) = some r))))) else (Z0 o x1 (w (x2 + 1)) = some r))) : Zer o x kind x1 x2 x3 x4 = some r := by
  unfold Zer
  rw [EvL_eq Zdf.eq_1]
  simp only [Zb4, Zh.c_def, mpl, dfs] at h
  try simp only [itb] at h
  try simp only [itf, List.getElem?_eq_some_iff, kk] at h
  rcases h with ⟨q1, q2, e1, ⟨g3, q3⟩, v2_0, q4, (⟨q5, h⟩ | ⟨q5, h⟩)⟩ | ⟨q1, h⟩
  all_goals (refine Eq.trans ?_ h; clear h; simp +decide [*, kk, Zer, Z0, Zdg])
theorem Zx5 (o : Zd) (x : List (List Int)) (kind : Int) (x1 : Int) (x2 : Int) (x3 : Int) (x4 : Int) (r : AV × List Blk) (h : (if x4 < x3 then (0 ≤ x4 ∧ (∃ (e1 : List Int), x[x4.toNat]? = some e1 ∧ (∃ (v2_0 : Int), Zb4 o.Merge e1 = some (I v2_0, []) ∧ (if v2_0 < 1 then (some (.tup [I kind, L 1 (e1.map ic), .t .nil], []) = some r) else (Zes o x kind x1 x2 x3 (w (x4 + 1)) = some r))))) else (Z0 o x1 (w (x2 + 1)) = some r))) : Zes o x kind x1 x2 x3 x4 = some r := by
  unfold Zes
  rw [EvL_eq Zdf.eq_1]
  simp only [Zb4, Zh.c_def, mpl, dfs] at h
  try simp only [itb] at h
  try simp only [itf, List.getElem?_eq_some_iff, kk] at h
  rcases h with ⟨q1, q2, e1, ⟨g3, q3⟩, v2_0, q4, (⟨q5, h⟩ | ⟨q5, h⟩)⟩ | ⟨q1, h⟩
  all_goals (refine Eq.trans ?_ h; clear h; simp +decide [*, kk, Zes, Z0, Zdg])
theorem Zx6 (o : Zd) (x : List (List Int)) (kind : Int) (x1 : Int) (x2 : Int) (x3 : Int) (x4 : Int) (r : AV × List Blk) (h : (if x4 < x3 then (0 ≤ x4 ∧ (∃ (e1 : List Int), x[x4.toNat]? = some e1 ∧ (∃ (v2_0 : Int), Zb4 o.Nested e1 = some (I v2_0, []) ∧ (if v2_0 < 1 then (some (.tup [I kind, L 1 (e1.map ic), .t .nil], []) = some r) else (Zet o x kind x1 x2 x3 (w (x4 + 1)) = some r))))) else (Z0 o x1 (w (x2 + 1)) = some r))) : Zet o x kind x1 x2 x3 x4 = some r := by
  unfold Zet
  rw [EvL_eq Zdf.eq_1]
  simp only [Zb4, Zh.c_def, mpl, dfs] at h
  try simp only [itb] at h
  try simp only [itf, List.getElem?_eq_some_iff, kk] at h
  rcases h with ⟨q1, q2, e1, ⟨g3, q3⟩, v2_0, q4, (⟨q5, h⟩ | ⟨q5, h⟩)⟩ | ⟨q1, h⟩
  all_goals (refine Eq.trans ?_ h; clear h; simp +decide [*, kk, Zet, Z0, Zdg])
theorem Z8x (a : Zd) (r : AV × List Blk) (h : (Zd1 a = some (.bsl 1 5, [.box (a.c.map .t), .box [.ptr 0 0, .ptr 0 6, .ptr 0 12, .ptr 0 18, .ptr 0 24]]) ∧ (Z0 a 5 0 = some r))) : Zg4 a = some r := by
  unfold Zg4
  refine run Z5o rfl ?_
  simp only [Zd1, Zd.c_def, Zh.c_def, mpl, dfs] at h
  rcases h with ⟨q1, h⟩
  all_goals (refine Eq.trans ?_ h; clear h; simp +decide [*, kk, Zuh, Z0])
theorem Z8y (a : Zd) (r : AV × List Blk) (h : ((∃ (v1_0 : List Int) (v1_1 : Int) (v1_2 : List Int), Zg4 a = some (.tup [I v1_1, L 1 (v1_2.map ic), .own 0], [.arr 3 1 true (v1_0.map ic)]) ∧ (some (Bo (decide (v1_1 = 0)), []) = some r)) ∨ (∃ (v2_0 : Int), Zg4 a = some (.tup [I v2_0, .t .nil, .t .nil], []) ∧ (some (Bo (decide (v2_0 = 0)), []) = some r)) ∨ (∃ (v3_0 : Int) (v3_1 : List Int), Zg4 a = some (.tup [I v3_0, L 1 (v3_1.map ic), .t .nil], []) ∧ (some (Bo (decide (v3_0 = 0)), []) = some r)))) : Zg5 a = some r := by
  unfold Zg5
  refine run Z5p rfl ?_
  simp only [Zg4, Zd.c_def, Zh.c_def, mpl, dfs] at h
  rcases h with ⟨v1_0, v1_1, v1_2, q2, h⟩ | ⟨v2_0, q3, h⟩ | ⟨v3_0, v3_1, q4, h⟩
  all_goals (refine Eq.trans ?_ h; clear h; simp +decide [*, kk, Zui])
theorem Z8z (a : Zd) (a1 : Zb) (a2 : Region) (r : AV × List Blk) (h : (∃ (v1_0 : Bool), Zjo a1 a2 = some (Bo v1_0, []) ∧ (if v1_0 = true then (∃ (v2_0 : Int), Zbw a1 = some (I v2_0, []) ∧ (∃ (v3_0 : Bool), Zg2 a1 v2_0 = some (Bo v3_0, []) ∧ (if v3_0 = true then (∃ (v4_0 : Bool), Zg5 a = some (Bo v4_0, []) ∧ (some (Bo v4_0, []) = some r)) else (some (Bo false, []) = some r)))) else (some (Bo false, []) = some r)))) : Zju a a1 a2 = some r := by
  unfold Zju
  refine run Z5q rfl ?_
  simp only [Zjo, Zbw, Zg2, Zg5, Box.c_def, Zd.c_def, Zh.c_def, Plan.c_def, Zb.c_def, Region.c_def, mpl, dfs] at h
  try simp only [itb] at h
  try simp only [itf, List.getElem?_eq_some_iff, kk] at h
  rcases h with ⟨v1_0, q1, (⟨q2, v2_0, q3, v3_0, q4, (⟨q5, v4_0, q6, h⟩ | ⟨q5, h⟩)⟩ | ⟨q2, h⟩)⟩
  all_goals (refine Eq.trans ?_ h; clear h; simp +decide [*, kk, Zuj])
theorem Zrq (out : List Int) (location : List Int) (x : List Int) (x1 : Int) (x2 : Int) (r : AV × List Blk) (h : (if x2 < x1 then (0 ≤ x2 ∧ (∃ (e1 : Int), x[x2.toNat]? = some e1 ∧ (∃ (v2_0 : Int), Zeo e1 = some (I v2_0, []) ∧ (out.length + 1 ≤ 68719476736 ∧ (Zev (out ++ [v2_0]) location x x1 (w (x2 + 1)) = some r))))) else (∃ (v3_0 : Bool), Zfd location = some (Bo v3_0, []) ∧ (if v3_0 = true then (some (.own 0, [.arr 3 1 true (out.map ic)]) = some r) else (some (.t .nil, []) = some r))))) : Zev out location x x1 x2 = some r := by
  unfold Zev
  rw [EvL_eq Zo0.eq_1]
  simp only [Zeo, Zfd, mpl, dfs] at h
  try simp only [itb] at h
  try simp only [itf, List.getElem?_eq_some_iff, kk] at h
  rcases h with ⟨q1, q2, e1, ⟨g3, q3⟩, v2_0, q4, q5, h⟩ | ⟨q1, v3_0, q6, (⟨q7, h⟩ | ⟨q7, h⟩)⟩
  all_goals (refine Eq.trans ?_ h; clear h; simp +decide [*, kk, Zev, Zo1])
theorem Zx7 (a : List Int) (r : AV × List Blk) (h : (Zev ([] : List Int) a a (a.length : Int) 0 = some r)) : Zeu a = some r := by
  unfold Zeu
  refine run Z5r rfl ?_
  refine Eq.trans ?_ h; clear h; simp +decide [*, kk, Zuk, Zev]
theorem Zx8 (q : Zb) (sizes : List Int) (x : List Int) (x1 : Int) (x2 : Int) (r : AV × List Blk) (h : (if x2 < x1 then (0 ≤ x2 ∧ (∃ (e1 : Int), x[x2.toNat]? = some e1 ∧ (∃ (v2_0 : Bool), Zu e1 0 4096 = some (Bo v2_0, []) ∧ (if v2_0 = true then (Zg7 q sizes x x1 (w (x2 + 1)) = some r) else (some (Bo false, []) = some r))))) else (∃ (v3_0 : Bool), Zcu q = some (Bo v3_0, []) ∧ (if v3_0 = true then (∃ (v4_0 : Int), Zbw q = some (I v4_0, []) ∧ (some (Bo (decide ((sizes.length : Int) = (w (v4_0 + 1)))), []) = some r)) else (some (Bo false, []) = some r))))) : Zg7 q sizes x x1 x2 = some r := by
  unfold Zg7
  rw [EvL_eq Zo2.eq_1]
  simp only [Zu, Zcu, Zbw, Zb.c_def, mpl, dfs] at h
  try simp only [itb] at h
  try simp only [itf, List.getElem?_eq_some_iff, kk] at h
  rcases h with ⟨q1, q2, e1, ⟨g3, q3⟩, v2_0, q4, (⟨q5, h⟩ | ⟨q5, h⟩)⟩ | ⟨q1, v3_0, q6, (⟨q7, v4_0, q8, h⟩ | ⟨q7, h⟩)⟩
  all_goals (refine Eq.trans ?_ h; clear h; simp +decide [*, kk, Zg7, Zo3])
theorem Z80 (a : Zb) (a1 : List Int) (r : AV × List Blk) (h : (Zg7 a a1 a1 (a1.length : Int) 0 = some r)) : Zg6 a a1 = some r := by
  unfold Zg6
  refine run Z5s rfl ?_
  refine Eq.trans ?_ h; clear h; simp +decide [*, kk, Zul, Zg7]
theorem Z81 (a : Zh) (a1 : Int) (a2 : Int) (a3 : Int) (r : AV × List Blk) (h : (∃ (v1_0 : Bool), Zbh a = some (Bo v1_0, []) ∧ (if v1_0 = true then (∃ (v2_0 : Bool), Zu a1 0 4096 = some (Bo v2_0, []) ∧ (if v2_0 = true then (∃ (v3_0 : Bool), Zu a2 0 4096 = some (Bo v3_0, []) ∧ (if v3_0 = true then (∃ (v4_0 : Bool), Zu a3 0 4096 = some (Bo v4_0, []) ∧ (if v4_0 = true then (∃ (v5_0 : Int), Zg3 a a1 a2 a3 = some (I v5_0, []) ∧ (some (I v5_0, []) = some r)) else (some (I 0, []) = some r))) else (some (I 0, []) = some r))) else (some (I 0, []) = some r))) else (some (I 0, []) = some r)))) : Zbf a a1 a2 a3 = some r := by
  unfold Zbf
  refine run Z5t rfl ?_
  simp only [Zbh, Zu, Zg3, Zh.c_def, mpl, dfs] at h
  try simp only [itb] at h
  try simp only [itf, List.getElem?_eq_some_iff, kk] at h
  rcases h with ⟨v1_0, q1, (⟨q2, v2_0, q3, (⟨q4, v3_0, q5, (⟨q6, v4_0, q7, (⟨q8, v5_0, q9, h⟩ | ⟨q8, h⟩)⟩ | ⟨q6, h⟩)⟩ | ⟨q4, h⟩)⟩ | ⟨q2, h⟩)⟩
  all_goals (refine Eq.trans ?_ h; clear h; simp +decide [*, kk, Zum])
end Go.Proofs.YtbapkgocloaaeaaGreat
