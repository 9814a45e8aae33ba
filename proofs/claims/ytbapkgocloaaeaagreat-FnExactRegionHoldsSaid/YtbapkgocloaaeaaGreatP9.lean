/-
  Parts of the proofs for this seat: D2 T1 T2 T3 G1 G2 G3.
-/
import Derived.Test.YtbapkgocloaaeaaGreatP8
set_option linter.unusedSimpArgs false
set_option linter.unusedVariables false
set_option maxRecDepth 100000
set_option maxHeartbeats 4000000
/- part: D2 -/
namespace Go.Proofs.YtbapkgocloaaeaaGreat
open Go.AM
def Zks : MCode := .seq (.seq (.reg [.m 28 7, .o 29 (.faddr 1 (.s 6)), .o 30 (.load none (.s 29)), .o 31 (.len false (.s 30)), .o 32 (.bin .lss (.s 28) (.s 31))] [1, 3, 4, 5, 6, 7, 32]) (.cond (.s 32) (.skip) (.exit 2))) (.seq (.block 3 (.drw [.o 35 (.faddr 2 (.s 6)), .o 36 (.load none (.s 35)), .o 37 (.load (some 2) (.s 1)), .o 38 (.faddr 1 (.s 6)), .o 39 (.load none (.s 38)), .m 40 7, .o 41 (.iaddr 1 (.s 39) (.s 40)), .o 42 (.load none (.s 41)), .m 43 4, .m 44 5, .o 45 (.iaddr 1 (.s 43) (.s 44)), .o 46 (.load none (.s 45)), .o 47 (.faddr 1 (.s 6)), .o 48 (.load none (.s 47)), .m 49 7, .o 50 (.iaddr 1 (.s 48) (.s 49)), .o 51 (.load none (.s 50)), .o 52 (.bin .sub (.s 46) (.s 51)), .o 53 (.call 207 [.s 37, .s 42, .s 52]), .o 54 (.bslice 38 1 1 [.lst 1 []] [(0, .s 53)]), .o 55 (.append 38 1 24 true (.s 36) (.s 54)), .o 56 (.faddr 2 (.s 6)), .n (.store 1 (.s 56) (.s 55))] [[], [0], [], [], [3], [], [4, 5], [6], [], [], [8, 9], [10], [], [12], [], [13, 14], [15], [11, 16], [2, 7, 17], [18], [1, 19, 18], [0, 1, 2, 3, 4, 5, 6, 7, 8, 9, 10, 11, 12, 13, 14, 15, 16, 17, 18, 19, 20], [21, 20, 20, 0, 1, 2, 3, 4, 5, 6, 7, 8, 9, 10, 11, 12, 13, 14, 15, 16, 17, 18, 19, 20]] [1, 3, 4, 5, 6, 7])) (.reg [.m 33 7, .o 34 (.bin .add (.s 33) (.k 1)), .m 7 34] [1, 3, 4, 5, 6, 7]))
def Zkt : MCode := .reg [.m 57 3, .o 58 (.load (some 3) (.s 6)), .o 59 (.bslice 242 3 1 [.int .i64 0, .lst 1 [], .lst 1 []] [(0, .s 58)]), .o 60 (.append 242 3 56 true (.s 57) (.s 59)), .m 3 60] [1, 3, 4, 5]
def Zku : MCode := .reg [.m 15 5, .o 16 (.bin .add (.s 15) (.k 1)), .m 5 16] [1, 3, 4, 5]
def Zkv : MCode := .seq (.seq (.reg [.m 11 5, .m 12 4, .o 13 (.len false (.s 12)), .o 14 (.bin .lss (.s 11) (.s 13))] [1, 3, 4, 5, 14]) (.cond (.s 14) (.skip) (.exit 0))) (.seq (.block 1 (.seq (.drw [.m 17 4, .m 18 5, .o 19 (.iaddr 1 (.s 17) (.s 18)), .o 20 (.load none (.s 19)), .o 21 (.load (some 2) (.s 1)), .m 22 4, .m 23 5, .o 24 (.iaddr 1 (.s 22) (.s 23)), .o 25 (.load none (.s 24)), .o 26 (.call 206 [.s 21, .s 25]), .o 27 (.build [.t (.int .i64 0), .t .nil, .t .nil] [(0, 1, .s 20), (1, 1, .s 26)]), .o 6 (.alloc [.t (.int .i64 0), .t .nil, .t .nil]), .n (.store 3 (.s 6) (.s 27))] [[], [], [0, 1], [2], [], [], [], [5, 6], [7], [4, 8], [3, 9], [], [11, 10, 9, 0, 1, 2, 3, 4, 5, 6, 7, 8, 9, 10, 11]] [1, 3, 4, 5, 6]) (.seq (.seq (.reg [.o 7 (.mov (.k 0))] [1, 3, 4, 5, 6, 7]) (.block 2 (.loop [1, 3, 4, 5, 6, 7] Zks))) Zkt))) Zku)
def Zkw : MCode := .seq (.reg [.m 61 3, .m 2 61] [2]) (.ret)
def Zwg : MFun := ⟨1, 62, [.tmp 2], .seq (.reg [.o 1 (.box (.s 0)), .o 2 (.mov (.c (.t .nil)))] [1]) (.seq (.reg [.o 8 (.bslice 242 3 0 [.int .i64 0, .lst 1 [], .lst 1 []] []), .m 3 8] [1, 3]) (.seq (.reg [.o 9 (.load (some 2) (.s 1)), .o 10 (.call 205 [.s 9]), .m 4 10] [1, 3, 4]) (.seq (.seq (.reg [.o 5 (.mov (.k 0))] [1, 3, 4, 5]) (.block 0 (.loop [1, 3, 4, 5] Zkv))) Zkw)))⟩
noncomputable def Zkx (a : Zb) : Rs := C 121 [.agg (a.c.map .t)] []
noncomputable def Zds (q : Zb) (out : List Zq) (masks : List Int) (i : Int) : Rs := EvL C [.blk 0, .seq Zkw, .fin 0 [.tmp 2]] [1, 3, 4, 5] Zkv ⟨[(1, .ptr 0 0), (3, .own 1), (4, .own 2), (5, I i)], [[]], [.box (q.c.map .t), .arr 242 3 true (out.map Zq.c), .arr 3 1 true (masks.map ic)]⟩
noncomputable def Zky (q : Zb) (out : List Zq) (masks : List Int) (mask : Int) (x : List Int) (i : Int) (k : Int) : Rs := EvL C [.blk 2, .seq Zkt, .blk 1, .seq Zku, .loop [1, 3, 4, 5] Zkv, .blk 0, .seq Zkw, .fin 0 [.tmp 2]] [1, 3, 4, 5, 6, 7] Zks ⟨[(1, .ptr 0 0), (3, .own 1), (4, .own 2), (5, I i), (6, .ptr 3 0), (7, I k)], [[]], [.box (q.c.map .t), .arr 242 3 true (out.map Zq.c), .arr 3 1 true (masks.map ic), .box [I mask, .own 4, .t .nil], .arr 3 1 true (x.map ic)]⟩
noncomputable def Zhy (q : Zb) (out : List Zq) (masks : List Int) (mask : Int) (x : List Int) (x1 : List (List Int)) (i : Int) (k : Int) : Rs := EvL C [.blk 2, .seq Zkt, .blk 1, .seq Zku, .loop [1, 3, 4, 5] Zkv, .blk 0, .seq Zkw, .fin 0 [.tmp 2]] [1, 3, 4, 5, 6, 7] Zks ⟨[(1, .ptr 0 0), (3, .own 1), (4, .own 2), (5, I i), (6, .ptr 3 0), (7, I k)], [[]], [.box (q.c.map .t), .arr 242 3 true (out.map Zq.c), .arr 3 1 true (masks.map ic), .box [I mask, .own 4, .own 5], .arr 3 1 true (x.map ic), .arr 38 1 true (x1.map isc)]⟩
def Zqo : MCode := .seq (.seq (.reg [.m 6 4, .m 7 0, .o 8 (.len false (.s 7)), .o 9 (.bin .lss (.s 6) (.s 8)), .m 10 9, .g 11 10 (.mov (.s 0)), .g 12 10 (.call 212 [.s 11]), .o 13 (.pick (.s 10) (.s 12) (.c (.t (.bool false))))] [0, 3, 4, 13]) (.cond (.s 13) (.skip) (.exit 0))) (.seq (.block 1 (.reg [.m 16 3, .m 17 0, .m 18 4, .o 19 (.iaddr 1 (.s 17) (.s 18)), .o 20 (.load none (.s 19)), .o 21 (.call 184 [.s 20]), .o 22 (.bslice 3 1 1 [.int .i64 0] [(0, .s 21)]), .o 23 (.append 3 1 8 true (.s 16) (.s 22)), .m 3 23] [0, 3, 4])) (.reg [.m 14 4, .o 15 (.bin .add (.s 14) (.k 1)), .m 4 15] [0, 3, 4]))
def Zqp : MCode := .seq (.reg [.m 24 3, .m 2 24] [2]) (.ret)
def Zwh : MFun := ⟨1, 25, [.tmp 2], .seq (.reg [.o 2 (.mov (.c (.t .nil)))] [0]) (.seq (.reg [.o 5 (.bslice 3 1 0 [.int .i64 0] []), .m 3 5] [0, 3]) (.seq (.seq (.reg [.o 4 (.mov (.k 0))] [0, 3, 4]) (.block 0 (.loop [0, 3, 4] Zqo))) Zqp))⟩
noncomputable def Zhz (a : List Int) : Rs := C 125 [L 1 (a.map ic)] []
noncomputable def Zh0 (out : List Int) (l : List Int) (i : Int) : Rs := EvL C [.blk 0, .seq Zqp, .fin 0 [.tmp 2]] [0, 3, 4] Zqo ⟨[(0, L 1 (l.map ic)), (3, .own 0), (4, I i)], [[]], [.arr 3 1 true (out.map ic)]⟩
def Zwi : MCode := .reg [.m 12 4, .o 13 (.bin .add (.s 12) (.k 1)), .m 4 13] [0, 3, 4]
def Zqq : MCode := .seq (.seq (.reg [.m 6 4, .o 7 (.bin .lss (.s 6) (.k 4)), .m 8 7, .g 9 8 (.mov (.s 0)), .g 10 8 (.call 137 [.s 9, .c (.t (.int .i64 0)), .c (.t (.int .i64 15))]), .o 11 (.pick (.s 8) (.s 10) (.c (.t (.bool false))))] [0, 3, 4, 11]) (.cond (.s 11) (.skip) (.exit 0))) (.seq (.block 1 (.seq (.reg [.m 14 0, .m 15 4, .o 16 (.bin .shr (.s 14) (.s 15)), .o 17 (.bin .and (.s 16) (.k 1)), .o 18 (.bin .eql (.s 17) (.k 1))] [0, 3, 4, 18]) (.cond (.s 18) (.reg [.m 19 3, .m 20 4, .o 21 (.bslice 3 1 1 [.int .i64 0] [(0, .s 20)]), .o 22 (.append 3 1 8 true (.s 19) (.s 21)), .m 3 22] [0, 3, 4]) (.skip)))) Zwi)
def Zqr : MCode := .seq (.reg [.m 23 3, .m 2 23] [2]) (.ret)
def Zwj : MFun := ⟨1, 24, [.tmp 2], .seq (.reg [.o 2 (.mov (.c (.t .nil)))] [0]) (.seq (.reg [.o 5 (.bslice 3 1 0 [.int .i64 0] []), .m 3 5] [0, 3]) (.seq (.seq (.reg [.o 4 (.mov (.k 0))] [0, 3, 4]) (.block 0 (.loop [0, 3, 4] Zqq))) Zqr))⟩
noncomputable def Zkz (a : Int) : Rs := C 209 [I a] []
noncomputable def Zgd (out : List Int) (mask : Int) (i : Int) : Rs := EvL C [.blk 0, .seq Zqr, .fin 0 [.tmp 2]] [0, 3, 4] Zqq ⟨[(0, I mask), (3, .own 0), (4, I i)], [[]], [.arr 3 1 true (out.map ic)]⟩
def Zwk : MFun := ⟨1, 7, [.cell 2 (some 1)], .seq (.reg [.o 2 (.alloc [.t .nil])] [0, 2]) (.seq (.reg [.m 3 0, .o 4 (.build [.t (.int .i64 0), .t (.int .i64 0), .t (.int .i64 0)] [(0, 1, .c (.t (.int .i64 1))), (1, 1, .s 3)]), .o 5 (.bslice 142 3 1 [.int .i64 0, .int .i64 0, .int .i64 0] [(0, .s 4)]), .o 6 (.build [.t .nil] [(0, 1, .s 5)]), .n (.store 1 (.s 2) (.s 6))] [2]) (.ret))⟩
noncomputable def Zk0 (a : Int) : Rs := C 210 [I a] []
def Zwl : MCode := .reg [.m 11 6, .o 12 (.bin .add (.s 11) (.k 1)), .m 6 12] [0, 1, 5, 6]
def Zqs : MCode := .seq (.seq (.reg [.m 7 6, .m 8 0, .o 9 (.len false (.s 8)), .o 10 (.bin .lss (.s 7) (.s 9))] [0, 1, 5, 6, 10]) (.cond (.s 10) (.skip) (.exit 0))) (.seq (.block 1 (.seq (.drw [.m 13 0, .m 14 6, .o 15 (.iaddr 4 (.s 13) (.s 14)), .o 16 (.faddr 0 (.s 15)), .o 17 (.load none (.s 16)), .m 18 1, .o 19 (.bin .eql (.s 17) (.s 18)), .m 20 19, .g 21 20 (.mov (.s 5)), .g 22 20 (.bin .lss (.s 21) (.k 0)), .g 23 20 (.mov (.s 22)), .h 24 23 (.mov (.s 0)), .h 25 23 (.mov (.s 6)), .h 26 23 (.iaddr 4 (.s 24) (.s 25)), .h 27 23 (.faddr 2 (.s 26)), .h 28 23 (.load none (.s 27)), .h 29 23 (.mov (.s 0)), .h 30 23 (.mov (.s 5)), .h 31 23 (.iaddr 4 (.s 29) (.s 30)), .h 32 23 (.faddr 2 (.s 31)), .h 33 23 (.load none (.s 32)), .h 34 23 (.bin .lss (.s 28) (.s 33)), .g 35 20 (.pick (.s 23) (.c (.t (.bool true))) (.s 34)), .o 36 (.pick (.s 20) (.s 35) (.c (.t (.bool false))))] [[], [], [0, 1], [2], [3], [], [4, 5], [6], [7], [8, 7], [9, 7, 7], [10], [10], [11, 12, 10], [13, 10], [14, 10], [10], [10], [16, 17, 10], [18, 10], [19, 10], [15, 20, 10], [10, 21, 7], [7, 22]] [0, 1, 5, 6, 36]) (.cond (.s 36) (.reg [.m 37 6, .m 5 37] [0, 1, 5, 6]) (.skip)))) Zwl)
def Zqt : MCode := .seq (.reg [.m 38 5, .m 4 38] [4]) (.ret)
def Zwm : MFun := ⟨2, 39, [.tmp 4], .seq (.reg [.o 4 (.mov (.k 0))] [0, 1]) (.seq (.reg [.o 5 (.mov (.k (-1)))] [0, 1, 5]) (.seq (.seq (.reg [.o 6 (.mov (.k 0))] [0, 1, 5, 6]) (.block 0 (.loop [0, 1, 5, 6] Zqs))) Zqt))⟩
noncomputable def Zeb (a : List Za) (a1 : Int) : Rs := C 208 [L 4 (a.map Za.c), I a1] []
noncomputable def Zec (l : List Za) (mask : Int) (best : Int) (i : Int) : Rs := EvL C [.blk 0, .seq Zqt, .fin 0 [.tmp 4]] [0, 1, 5, 6] Zqs ⟨[(0, L 4 (l.map Za.c)), (1, I mask), (5, I best), (6, I i)], [[]], []⟩
def Zwn : MFun := ⟨4, 30, [.cell 8 (some 1)], .seq (.reg [.o 4 (.box (.s 0)), .o 5 (.box (.s 1)), .o 8 (.alloc [.t .nil])] [2, 3, 4, 5, 8]) (.seq (.reg [.o 10 (.bslice 142 3 0 [.int .i64 0, .int .i64 0, .int .i64 0] []), .o 11 (.faddr 0 (.s 4)), .o 12 (.load none (.s 11)), .o 13 (.append 142 3 24 false (.s 10) (.s 12)), .o 14 (.build [.t .nil] [(0, 1, .s 13)]), .o 9 (.alloc [.t .nil]), .n (.store 1 (.s 9) (.s 14))] [2, 3, 5, 8, 9]) (.seq (.reg [.o 15 (.faddr 0 (.s 9)), .o 16 (.load none (.s 15)), .o 17 (.faddr 0 (.s 5)), .o 18 (.load none (.s 17)), .o 19 (.append 142 3 24 false (.s 16) (.s 18)), .o 20 (.faddr 0 (.s 9)), .n (.store 1 (.s 20) (.s 19))] [2, 3, 8, 9]) (.seq (.reg [.o 21 (.faddr 0 (.s 9)), .o 22 (.load none (.s 21)), .m 23 2, .m 24 3, .o 25 (.build [.t (.int .i64 0), .t (.int .i64 0), .t (.int .i64 0)] [(0, 1, .s 23), (2, 1, .s 24)]), .o 26 (.bslice 142 3 1 [.int .i64 0, .int .i64 0, .int .i64 0] [(0, .s 25)]), .o 27 (.append 142 3 24 true (.s 22) (.s 26)), .o 28 (.faddr 0 (.s 9)), .n (.store 1 (.s 28) (.s 27))] [8, 9]) (.seq (.reg [.o 29 (.load (some 1) (.s 9)), .n (.store 1 (.s 8) (.s 29))] [8]) (.ret)))))⟩
noncomputable def Zci (a : Plan) (a1 : Plan) (a2 : Int) (a3 : Int) : Rs := C 229 [.agg (a.c.map .t), .agg (a1.c.map .t), I a2, I a3] []
def Zk1 : MFun := ⟨8, 81, [], .seq (.reg [.o 8 (.box (.s 0)), .o 11 (.box (.s 3)), .o 12 (.box (.s 4))] [1, 2, 5, 6, 7, 8, 11, 12]) (.seq (.drw [.o 17 (.faddr 2 (.s 11)), .o 18 (.load none (.s 17)), .o 19 (.faddr 2 (.s 12)), .o 20 (.load none (.s 19)), .o 21 (.bin .add (.s 18) (.s 20)), .o 22 (.load (some 30) (.s 8)), .m 23 5, .o 24 (.call 92 [.s 22, .s 23]), .m 25 1, .o 26 (.faddr 0 (.s 11)), .o 27 (.load none (.s 26)), .o 28 (.iaddr 1 (.s 25) (.s 27)), .o 29 (.load none (.s 28)), .m 30 1, .o 31 (.faddr 0 (.s 12)), .o 32 (.load none (.s 31)), .o 33 (.iaddr 1 (.s 30) (.s 32)), .o 34 (.load none (.s 33)), .m 35 1, .o 36 (.faddr 0 (.s 11)), .o 37 (.load none (.s 36)), .o 38 (.faddr 0 (.s 12)), .o 39 (.load none (.s 38)), .o 40 (.bin .or (.s 37) (.s 39)), .o 41 (.iaddr 1 (.s 35) (.s 40)), .o 42 (.load none (.s 41)), .o 43 (.call 91 [.s 24, .s 29, .s 34, .s 42]), .o 44 (.bin .add (.s 21) (.s 43)), .m 16 44] [[], [0], [], [2], [1, 3], [], [], [5, 6], [], [], [9], [8, 10], [11], [], [], [14], [13, 15], [16], [], [], [19], [], [21], [20, 22], [18, 23], [24], [7, 12, 17, 25, 7], [4, 26], [27, 26, 0, 1, 2, 3, 4, 5, 6, 7, 8, 9, 10, 11, 12, 13, 14, 15, 16, 17, 18, 19, 20, 21, 22, 23, 24, 25, 26, 27]] [2, 5, 6, 7, 11, 12, 16]) (.seq (.reg [.m 45 2, .m 46 7, .o 47 (.bin .add (.s 46) (.k 1)), .o 48 (.iaddr 4 (.s 45) (.s 47)), .o 49 (.faddr 0 (.s 48)), .o 50 (.load none (.s 49)), .o 51 (.bin .eql (.s 50) (.k 0)), .m 52 51, .h 53 52 (.mov (.s 16)), .h 54 52 (.mov (.s 2)), .h 55 52 (.mov (.s 7)), .h 56 52 (.bin .add (.s 55) (.k 1)), .h 57 52 (.iaddr 4 (.s 54) (.s 56)), .h 58 52 (.faddr 2 (.s 57)), .h 59 52 (.load none (.s 58)), .h 60 52 (.bin .lss (.s 53) (.s 59)), .o 61 (.pick (.s 52) (.c (.t (.bool true))) (.s 60))] [2, 5, 6, 7, 11, 12, 16, 61]) (.cond (.s 61) (.drw [.m 62 2, .m 63 7, .o 64 (.bin .add (.s 63) (.k 1)), .o 65 (.faddr 0 (.s 11)), .o 66 (.load none (.s 65)), .o 67 (.faddr 0 (.s 12)), .o 68 (.load none (.s 67)), .o 69 (.bin .or (.s 66) (.s 68)), .m 70 7, .m 71 16, .o 72 (.faddr 3 (.s 11)), .o 73 (.load (some 1) (.s 72)), .o 74 (.faddr 3 (.s 12)), .o 75 (.load (some 1) (.s 74)), .m 76 5, .m 77 6, .o 78 (.call 229 [.s 73, .s 75, .s 76, .s 77]), .o 79 (.build [.t (.int .i64 0), .t (.int .i64 0), .t (.int .i64 0), .t .nil] [(0, 1, .s 69), (1, 1, .s 70), (2, 1, .s 71), (3, 1, .s 78)]), .o 80 (.iaddr 4 (.s 62) (.s 64)), .n (.store 4 (.s 80) (.s 79))] [[], [], [1], [], [3], [], [5], [4, 6], [], [], [], [10], [], [12], [], [], [11, 13, 14, 15], [7, 8, 9, 16], [0, 2, 0, 1, 2, 3, 4, 5, 6, 7, 8, 9, 10, 11, 12, 13, 14, 15, 16, 17], [18, 17, 16, 0, 1, 2, 3, 4, 5, 6, 7, 8, 9, 10, 11, 12, 13, 14, 15, 16, 17]] []) (.skip))))⟩
noncomputable def Ze8 (x : List Int) (x1 : List Za) (a : Zd) (a1 : Za) (a2 : Za) (a3 : Int) (a4 : Int) (a5 : Int) : Rs := C 271 [.agg (a.c.map .t), .own 0, .own 1, .agg (a1.c.map .t), .agg (a2.c.map .t), I a3, I a4, I a5] [.arr 3 1 true (x.map ic), .arr 174 4 true (x1.map Za.c)]
def Zqu : MCode := .seq (.seq (.reg [.m 8 7, .m 9 0, .o 10 (.len false (.s 9)), .o 11 (.bin .lss (.s 8) (.s 10))] [0, 1, 2, 7, 11]) (.cond (.s 11) (.skip) (.exit 0))) (.seq (.block 1 (.seq (.reg [.m 14 0, .m 15 7, .o 16 (.iaddr 4 (.s 14) (.s 15)), .o 17 (.faddr 0 (.s 16)), .o 18 (.load none (.s 17)), .m 19 1, .o 20 (.bin .eql (.s 18) (.s 19)), .m 21 20, .g 22 21 (.mov (.s 0)), .g 23 21 (.mov (.s 7)), .g 24 21 (.iaddr 4 (.s 22) (.s 23)), .g 25 21 (.faddr 1 (.s 24)), .g 26 21 (.load none (.s 25)), .g 27 21 (.mov (.s 2)), .g 28 21 (.bin .eql (.s 26) (.s 27)), .o 29 (.pick (.s 21) (.s 28) (.c (.t (.bool false))))] [0, 1, 2, 7, 29]) (.cond (.s 29) (.seq (.reg [.m 30 7, .m 6 30] [6]) (.ret)) (.skip)))) (.reg [.m 12 7, .o 13 (.bin .add (.s 12) (.k 1)), .m 7 13] [0, 1, 2, 7]))
def Zqv : MCode := .seq (.reg [.o 6 (.mov (.k (-1)))] [6]) (.ret)
def Zwo : MFun := ⟨3, 31, [.tmp 6], .seq (.reg [.o 6 (.mov (.k 0))] [0, 1, 2]) (.seq (.seq (.reg [.o 7 (.mov (.k 0))] [0, 1, 2, 7]) (.block 0 (.loop [0, 1, 2, 7] Zqu))) Zqv)⟩
noncomputable def Zh1 (a : List Za) (a1 : Int) (a2 : Int) : Rs := C 272 [L 4 (a.map Za.c), I a1, I a2] []
noncomputable def Zge (l : List Za) (mask : Int) (order : Int) (i : Int) : Rs := EvL C [.blk 0, .seq Zqv, .fin 0 [.tmp 6]] [0, 1, 2, 7] Zqu ⟨[(0, L 4 (l.map Za.c)), (1, I mask), (2, I order), (7, I i)], [[]], []⟩
def Zwp : MFun := ⟨2, 19, [.cell 4 (some 1)], .seq (.reg [.o 2 (.box (.s 0)), .o 4 (.alloc [.t .nil])] [1, 2, 4]) (.seq (.reg [.o 6 (.bslice 142 3 0 [.int .i64 0, .int .i64 0, .int .i64 0] []), .o 7 (.faddr 0 (.s 2)), .o 8 (.load none (.s 7)), .o 9 (.append 142 3 24 false (.s 6) (.s 8)), .o 10 (.build [.t .nil] [(0, 1, .s 9)]), .o 5 (.alloc [.t .nil]), .n (.store 1 (.s 5) (.s 10))] [1, 4, 5]) (.seq (.reg [.o 11 (.faddr 0 (.s 5)), .o 12 (.load none (.s 11)), .m 13 1, .o 14 (.build [.t (.int .i64 0), .t (.int .i64 0), .t (.int .i64 0)] [(0, 1, .c (.t (.int .i64 2))), (2, 1, .s 13)]), .o 15 (.bslice 142 3 1 [.int .i64 0, .int .i64 0, .int .i64 0] [(0, .s 14)]), .o 16 (.append 142 3 24 true (.s 12) (.s 15)), .o 17 (.faddr 0 (.s 5)), .n (.store 1 (.s 17) (.s 16))] [4, 5]) (.seq (.reg [.o 18 (.load (some 1) (.s 5)), .n (.store 1 (.s 4) (.s 18))] [4]) (.ret))))⟩
noncomputable def Ziw (a : Plan) (a1 : Int) : Rs := C 231 [.agg (a.c.map .t), I a1] []
noncomputable def Zk2 (x : List Int) (x1 : List Za) (x2 : List Zc) (a : Zd) (a1 : Za) (Mask : Int) (Order : Int) (Cost : Int) (a2 : Int) (a3 : Int) (a4 : Int) : Rs := C 271 [.agg (a.c.map .t), .own 0, .own 1, .agg (a1.c.map .t), .agg [I Mask, I Order, I Cost, .own 2], I a2, I a3, I a4] [.arr 3 1 true (x.map ic), .arr 174 4 true (x1.map Za.c), .arr 142 3 true (x2.map Zc.c)]
noncomputable def Zk3 (x : List Int) (x1 : List Za) (x2 : List Zc) (a : Zd) (Mask : Int) (Order : Int) (Cost : Int) (a1 : Za) (a2 : Int) (a3 : Int) (a4 : Int) : Rs := C 271 [.agg (a.c.map .t), .own 0, .own 1, .agg [I Mask, I Order, I Cost, .own 2], .agg (a1.c.map .t), I a2, I a3, I a4] [.arr 3 1 true (x.map ic), .arr 174 4 true (x1.map Za.c), .arr 142 3 true (x2.map Zc.c)]
noncomputable def Zk4 (x : List Int) (x1 : List Za) (x2 : List Zc) (x3 : List Zc) (a : Zd) (Mask : Int) (Order : Int) (Cost : Int) (Mask1 : Int) (Order1 : Int) (Cost1 : Int) (a1 : Int) (a2 : Int) (a3 : Int) : Rs := C 271 [.agg (a.c.map .t), .own 0, .own 1, .agg [I Mask, I Order, I Cost, .own 2], .agg [I Mask1, I Order1, I Cost1, .own 3], I a1, I a2, I a3] [.arr 3 1 true (x.map ic), .arr 174 4 true (x1.map Za.c), .arr 142 3 true (x2.map Zc.c), .arr 142 3 true (x3.map Zc.c)]
def Zwq : MFun := ⟨5, 61, [.cell 10 (some 4)], .seq (.reg [.o 5 (.box (.s 0)), .o 10 (.alloc [.t (.int .i64 0), .t (.int .i64 0), .t (.int .i64 0), .t .nil])] [1, 2, 3, 4, 5, 10]) (.seq (.reg [.m 14 2, .m 15 2, .m 16 3, .o 17 (.call 208 [.s 15, .s 16]), .o 18 (.iaddr 4 (.s 14) (.s 17)), .o 19 (.load (some 4) (.s 18)), .o 11 (.alloc [.t (.int .i64 0), .t (.int .i64 0), .t (.int .i64 0), .t .nil]), .n (.store 4 (.s 11) (.s 19))] [1, 2, 3, 4, 5, 10, 11]) (.seq (.drw [.o 20 (.faddr 2 (.s 11)), .o 21 (.load none (.s 20)), .o 22 (.faddr 6 (.s 5)), .o 23 (.load (some 6) (.s 22)), .m 24 1, .m 25 3, .o 26 (.iaddr 1 (.s 24) (.s 25)), .o 27 (.load none (.s 26)), .m 28 1, .m 29 3, .o 30 (.iaddr 1 (.s 28) (.s 29)), .o 31 (.load none (.s 30)), .o 32 (.call 91 [.s 23, .s 27, .c (.t (.int .i64 0)), .s 31]), .o 33 (.bin .add (.s 21) (.s 32)), .m 12 33] [[], [0], [], [2], [], [], [4, 5], [6], [], [], [8, 9], [10], [3, 7, 11], [1, 12], [13, 12, 0, 1, 2, 3, 4, 5, 6, 7, 8, 9, 10, 11, 12, 13]] [2, 3, 4, 10, 11, 12]) (.seq (.reg [.m 34 2, .m 35 3, .m 36 4, .o 37 (.call 272 [.s 34, .s 35, .s 36]), .m 13 37] [2, 3, 4, 10, 11, 12, 13]) (.seq (.seq (.reg [.m 38 13, .o 39 (.bin .geq (.s 38) (.k 0)), .m 40 39, .g 41 40 (.mov (.s 2)), .g 42 40 (.mov (.s 13)), .g 43 40 (.iaddr 4 (.s 41) (.s 42)), .g 44 40 (.faddr 2 (.s 43)), .g 45 40 (.load none (.s 44)), .g 46 40 (.mov (.s 12)), .g 47 40 (.bin .leq (.s 45) (.s 46)), .o 48 (.pick (.s 40) (.s 47) (.c (.t (.bool false))))] [2, 3, 4, 10, 11, 12, 13, 48]) (.cond (.s 48) (.seq (.reg [.m 49 2, .m 50 13, .o 51 (.iaddr 4 (.s 49) (.s 50)), .o 52 (.load (some 4) (.s 51)), .n (.store 4 (.s 10) (.s 52))] [10]) (.ret)) (.skip))) (.seq (.reg [.m 53 3, .m 54 4, .m 55 12, .o 56 (.faddr 3 (.s 11)), .o 57 (.load (some 1) (.s 56)), .m 58 4, .o 59 (.call 231 [.s 57, .s 58]), .o 60 (.build [.t (.int .i64 0), .t (.int .i64 0), .t (.int .i64 0), .t .nil] [(0, 1, .s 53), (1, 1, .s 54), (2, 1, .s 55), (3, 1, .s 59)]), .n (.store 4 (.s 10) (.s 60))] [10]) (.ret))))))⟩
noncomputable def Zdt (x : List Int) (fr : Bool) (x1 : List Za) (a : Zd) (a1 : Int) (a2 : Int) : Rs := C 273 [.agg (a.c.map .t), .own 0, .own 1, I a1, I a2] [.arr 3 1 true (x.map ic), .arr 174 4 fr (x1.map Za.c)]
def Zwr : MCode := .reg [.m 58 15, .o 59 (.bin .add (.s 58) (.k 1)), .m 15 59] [1, 2, 4, 7, 9, 10, 11, 12, 14, 15]
def Zqw : MCode := .seq (.seq (.reg [.m 56 15, .o 57 (.bin .lss (.s 56) (.k 4))] [1, 2, 4, 7, 9, 10, 11, 12, 14, 15, 57]) (.cond (.s 57) (.skip) (.exit 2))) (.seq (.block 3 (.seq (.reg [.m 60 2, .m 61 11, .m 62 15, .o 63 (.call 272 [.s 60, .s 61, .s 62]), .m 16 63] [1, 2, 4, 7, 9, 10, 11, 12, 14, 15, 16]) (.seq (.reg [.m 64 16, .o 65 (.bin .geq (.s 64) (.k 0))] [1, 2, 4, 7, 9, 10, 11, 12, 14, 15, 16, 65]) (.cond (.s 65) (.drw [.o 66 (.load (some 30) (.s 4)), .m 67 1, .m 68 9, .m 69 2, .m 70 16, .o 71 (.iaddr 4 (.s 69) (.s 70)), .o 72 (.load (some 4) (.s 71)), .o 73 (.load (some 4) (.s 14)), .m 74 15, .o 75 (.icall 271 [.s 66, .s 67, .s 68, .s 72, .s 73, .c (.t (.int .i64 5)), .c (.t (.int .i64 0)), .s 74])] [[], [], [], [], [], [3, 4], [5], [], [], [0, 1, 2, 6, 7, 8]] [1, 2, 4, 7, 9, 10, 11, 12, 14, 15]) (.skip))))) Zwr)
def Zqx : MCode := .seq (.seq (.reg [.m 76 17, .o 77 (.faddr 2 (.s 7)), .o 78 (.load none (.s 77)), .m 79 10, .o 80 (.iaddr 1 (.s 78) (.s 79)), .o 81 (.load none (.s 80)), .o 82 (.len false (.s 81)), .o 83 (.bin .lss (.s 76) (.s 82))] [1, 2, 4, 7, 9, 10, 11, 12, 17, 83]) (.cond (.s 83) (.skip) (.exit 4))) (.seq (.block 5 (.seq (.reg [.o 86 (.faddr 2 (.s 7)), .o 87 (.load none (.s 86)), .m 88 10, .o 89 (.iaddr 1 (.s 87) (.s 88)), .o 90 (.load none (.s 89)), .m 91 17, .o 92 (.iaddr 1 (.s 90) (.s 91)), .o 93 (.load none (.s 92)), .m 18 93] [1, 2, 4, 7, 9, 10, 11, 12, 17, 18]) (.drw [.o 94 (.load (some 30) (.s 4)), .m 95 1, .m 96 9, .o 97 (.load (some 30) (.s 4)), .m 98 1, .m 99 2, .m 100 11, .m 101 18, .o 102 (.pcall 273 [.s 97, .s 98, .s 99, .s 100, .s 101]), .o 103 (.load (some 30) (.s 4)), .m 104 1, .m 105 2, .m 106 12, .m 107 18, .o 108 (.pcall 273 [.s 103, .s 104, .s 105, .s 106, .s 107]), .m 109 18, .m 110 18, .o 111 (.icall 271 [.s 94, .s 95, .s 96, .s 102, .s 108, .c (.t (.int .i64 4)), .s 109, .s 110])] [[], [], [], [], [], [], [], [], [3, 4, 5, 6, 7], [], [], [], [], [], [9, 10, 11, 12, 13, 8], [], [], [0, 1, 2, 8, 14, 15, 16, 14]] [1, 2, 4, 7, 9, 10, 11, 12, 17]))) (.reg [.m 84 17, .o 85 (.bin .add (.s 84) (.k 1)), .m 17 85] [1, 2, 4, 7, 9, 10, 11, 12, 17]))
def Zqy : MCode := .seq (.reg [.o 17 (.mov (.k 0))] [1, 2, 4, 7, 9, 10, 11, 12, 17]) (.block 4 (.loop [1, 2, 4, 7, 9, 10, 11, 12, 17] Zqx))
def Zms : MCode := .reg [.m 27 10, .o 28 (.bin .add (.s 27) (.k 1)), .m 10 28] [1, 2, 4, 7, 9, 10]
def Zk5 : MCode := .seq (.seq (.reg [.m 22 10, .o 23 (.faddr 1 (.s 7)), .o 24 (.load none (.s 23)), .o 25 (.len false (.s 24)), .o 26 (.bin .lss (.s 22) (.s 25))] [1, 2, 4, 7, 9, 10, 26]) (.cond (.s 26) (.skip) (.exit 0))) (.seq (.block 1 (.seq (.reg [.o 29 (.faddr 1 (.s 7)), .o 30 (.load none (.s 29)), .m 31 10, .o 32 (.iaddr 1 (.s 30) (.s 31)), .o 33 (.load none (.s 32)), .m 11 33] [1, 2, 4, 7, 9, 10, 11]) (.seq (.reg [.o 34 (.faddr 0 (.s 7)), .o 35 (.load none (.s 34)), .m 36 11, .o 37 (.bin .sub (.s 35) (.s 36)), .m 12 37] [1, 2, 4, 7, 9, 10, 11, 12]) (.seq (.reg [.m 38 2, .m 39 2, .m 40 11, .o 41 (.call 208 [.s 39, .s 40]), .o 42 (.iaddr 4 (.s 38) (.s 41)), .o 43 (.load (some 4) (.s 42)), .o 13 (.alloc [.t (.int .i64 0), .t (.int .i64 0), .t (.int .i64 0), .t .nil]), .n (.store 4 (.s 13) (.s 43))] [1, 2, 4, 7, 9, 10, 11, 12, 13]) (.seq (.reg [.m 44 2, .m 45 2, .m 46 12, .o 47 (.call 208 [.s 45, .s 46]), .o 48 (.iaddr 4 (.s 44) (.s 47)), .o 49 (.load (some 4) (.s 48)), .o 14 (.alloc [.t (.int .i64 0), .t (.int .i64 0), .t (.int .i64 0), .t .nil]), .n (.store 4 (.s 14) (.s 49))] [1, 2, 4, 7, 9, 10, 11, 12, 13, 14]) (.seq (.reg [.o 50 (.load (some 30) (.s 4)), .m 51 1, .m 52 9, .o 53 (.load (some 4) (.s 13)), .o 54 (.load (some 4) (.s 14)), .o 55 (.icall 271 [.s 50, .s 51, .s 52, .s 53, .s 54, .c (.t (.int .i64 3)), .c (.t (.int .i64 0)), .c (.t (.int .i64 (-1)))])] [1, 2, 4, 7, 9, 10, 11, 12, 14]) (.seq (.seq (.reg [.o 15 (.mov (.k (-1)))] [1, 2, 4, 7, 9, 10, 11, 12, 14, 15]) (.block 2 (.loop [1, 2, 4, 7, 9, 10, 11, 12, 14, 15] Zqw))) Zqy))))))) Zms)
def Zws : MCode := .reg [.m 115 20, .o 116 (.bin .add (.s 115) (.k 1)), .m 20 116] [9, 19, 20]
def Zqz : MCode := .seq (.seq (.reg [.m 113 20, .o 114 (.bin .leq (.s 113) (.k 4))] [9, 19, 20, 114]) (.cond (.s 114) (.skip) (.exit 6))) (.seq (.block 7 (.seq (.reg [.m 117 9, .m 118 20, .o 119 (.iaddr 4 (.s 117) (.s 118)), .o 120 (.faddr 0 (.s 119)), .o 121 (.load none (.s 120)), .o 122 (.bin .gtr (.s 121) (.k 0))] [9, 19, 20, 122]) (.cond (.s 122) (.reg [.m 123 19, .m 124 9, .m 125 20, .o 126 (.iaddr 4 (.s 124) (.s 125)), .o 127 (.load (some 4) (.s 126)), .o 128 (.bslice 174 4 1 [.int .i64 0, .int .i64 0, .int .i64 0, .lst 3 []] [(0, .s 127)]), .o 129 (.append 174 4 48 true (.s 123) (.s 128)), .m 19 129] [9, 19, 20]) (.skip)))) Zws)
def Zq0 : MCode := .seq (.reg [.m 130 19, .m 8 130] [8]) (.ret)
def Zk6 : MCode := .seq (.reg [.o 112 (.bslice 174 4 0 [.int .i64 0, .int .i64 0, .int .i64 0, .lst 3 []] []), .m 19 112] [9, 19]) (.seq (.seq (.reg [.o 20 (.mov (.k 0))] [9, 19, 20]) (.block 6 (.loop [9, 19, 20] Zqz))) Zq0)
def Zwt : MFun := ⟨4, 131, [.tmp 8], .seq (.reg [.o 4 (.box (.s 0)), .o 7 (.box (.s 3)), .o 8 (.mov (.c (.t .nil)))] [1, 2, 4, 7]) (.seq (.reg [.o 21 (.mkslice 174 4 48 [.int .i64 0, .int .i64 0, .int .i64 0, .lst 3 []] (.k 5) (.k 5)), .m 9 21] [1, 2, 4, 7, 9]) (.seq (.seq (.reg [.o 10 (.mov (.k 0))] [1, 2, 4, 7, 9, 10]) (.block 0 (.loop [1, 2, 4, 7, 9, 10] Zk5))) Zk6))⟩
noncomputable def Zk7 (x : List Int) (fr : Bool) (x1 : List Za) (a : Zd) (a1 : Zq) : Rs := C 211 [.agg (a.c.map .t), .own 0, .own 1, .agg (a1.c.map .t)] [.arr 3 1 true (x.map ic), .arr 174 4 fr (x1.map Za.c)]
noncomputable def Zgf (sizes : List Int) (fr : Bool) (l : List Za) (m : Zd) (x : Zq) (mine : List Za) (k : Int) : Rs := EvL C [.blk 0, .seq Zk6, .fin 2 [.tmp 8]] [1, 2, 4, 7, 9, 10] Zk5 ⟨[(1, .own 0), (2, .own 1), (4, .ptr 2 0), (7, .ptr 3 0), (9, .own 4), (10, I k)], [[(0, .own 0), (1, .own 1)]], [.arr 3 1 true (sizes.map ic), .arr 174 4 fr (l.map Za.c), .box (m.c.map .t), .box (x.c.map .t), .arr 174 4 true (mine.map Za.c)]⟩
noncomputable def Zgg (sizes : List Int) (fr : Bool) (l : List Za) (m : Zd) (x : Zq) (mine : List Za) (b : Za) (k : Int) (left : Int) (right : Int) (o : Int) : Rs := EvL C [.blk 2, .seq Zqy, .blk 1, .seq Zms, .loop [1, 2, 4, 7, 9, 10] Zk5, .blk 0, .seq Zk6, .fin 2 [.tmp 8]] [1, 2, 4, 7, 9, 10, 11, 12, 14, 15] Zqw ⟨[(1, .own 0), (2, .own 1), (4, .ptr 2 0), (7, .ptr 3 0), (9, .own 4), (10, I k), (11, I left), (12, I right), (14, .ptr 5 0), (15, I o)], [[(0, .own 0), (1, .own 1)]], [.arr 3 1 true (sizes.map ic), .arr 174 4 fr (l.map Za.c), .box (m.c.map .t), .box (x.c.map .t), .arr 174 4 true (mine.map Za.c), .box (b.c.map .t)]⟩
noncomputable def Ze9 (mine : List Za) (fr : Bool) (out : List Za) (x : List Int) (fr1 : Bool) (x1 : List Za) (o : Int) : Rs := EvL C [.blk 6, .seq Zq0, .fin 2 [.tmp 8]] [9, 19, 20] Zqz ⟨[(9, .own 0), (19, .own 1), (20, I o)], [[(0, .own 2), (1, .own 3)]], [.arr 174 4 true (mine.map Za.c), .arr 174 4 fr (out.map Za.c), .arr 3 1 true (x.map ic), .arr 174 4 fr1 (x1.map Za.c)]⟩
noncomputable def Zdu (sizes : List Int) (fr : Bool) (l : List Za) (m : Zd) (x : Zq) (mine : List Za) (k : Int) (left : Int) (right : Int) (e : Int) : Rs := EvL C [.blk 4, .blk 1, .seq Zms, .loop [1, 2, 4, 7, 9, 10] Zk5, .blk 0, .seq Zk6, .fin 2 [.tmp 8]] [1, 2, 4, 7, 9, 10, 11, 12, 17] Zqx ⟨[(1, .own 0), (2, .own 1), (4, .ptr 2 0), (7, .ptr 3 0), (9, .own 4), (10, I k), (11, I left), (12, I right), (17, I e)], [[(0, .own 0), (1, .own 1)]], [.arr 3 1 true (sizes.map ic), .arr 174 4 fr (l.map Za.c), .box (m.c.map .t), .box (x.c.map .t), .arr 174 4 true (mine.map Za.c)]⟩
def Zwu : MCode := .reg [.m 18 10, .o 19 (.bin .add (.s 18) (.k 1)), .m 10 19] [2, 3, 4, 5, 9, 10]
def Zq1 : MCode := .seq (.seq (.reg [.m 14 10, .m 15 2, .o 16 (.len false (.s 15)), .o 17 (.bin .lss (.s 14) (.s 16))] [2, 3, 4, 5, 9, 10, 17]) (.cond (.s 17) (.skip) (.exit 0))) (.seq (.block 1 (.seq (.reg [.m 20 2, .m 21 10, .o 22 (.iaddr 3 (.s 20) (.s 21)), .o 23 (.faddr 0 (.s 22)), .o 24 (.load none (.s 23)), .m 11 24] [2, 3, 4, 5, 9, 10, 11]) (.seq (.seq (.reg [.m 25 11, .m 26 11, .o 27 (.bin .sub (.s 26) (.k 1)), .o 28 (.bin .and (.s 25) (.s 27)), .o 29 (.bin .eql (.s 28) (.k 0))] [2, 3, 4, 5, 9, 10, 11, 29]) (.cond (.s 29) (.seq (.reg [.m 30 11, .o 31 (.call 209 [.s 30]), .o 32 (.iaddr 1 (.s 31) (.k 0)), .o 33 (.load none (.s 32)), .m 12 33] [2, 3, 4, 5, 9, 10, 11, 12]) (.seq (.drw [.m 34 9, .m 35 11, .o 36 (.faddr 1 (.s 5)), .o 37 (.load none (.s 36)), .m 38 12, .o 39 (.iaddr 2 (.s 37) (.s 38)), .o 40 (.faddr 1 (.s 39)), .o 41 (.load none (.s 40)), .o 42 (.iaddr 1 (.s 41) (.k 0)), .o 43 (.load none (.s 42)), .o 44 (.faddr 0 (.s 4)), .o 45 (.load (some 6) (.s 44)), .m 46 3, .m 47 11, .o 48 (.iaddr 1 (.s 46) (.s 47)), .o 49 (.load none (.s 48)), .m 50 3, .m 51 11, .o 52 (.iaddr 1 (.s 50) (.s 51)), .o 53 (.load none (.s 52)), .o 54 (.call 91 [.s 45, .s 49, .c (.t (.int .i64 0)), .s 53]), .m 55 12, .o 56 (.call 210 [.s 55]), .o 57 (.build [.t (.int .i64 0), .t (.int .i64 0), .t (.int .i64 0), .t .nil] [(0, 1, .s 35), (1, 1, .s 43), (2, 1, .s 54), (3, 1, .s 56)]), .o 58 (.bslice 174 4 1 [.int .i64 0, .int .i64 0, .int .i64 0, .lst 3 []] [(0, .s 57)]), .o 59 (.append 174 4 48 true (.s 34) (.s 58)), .m 9 59] [[], [], [], [2], [], [3, 4], [5], [6], [7], [8], [], [10], [], [], [12, 13], [14], [], [], [16, 17], [18], [11, 15, 19], [], [21, 20], [1, 9, 20, 22], [23], [0, 24, 22], [25, 25, 0, 1, 2, 3, 4, 5, 6, 7, 8, 9, 10, 11, 12, 13, 14, 15, 16, 17, 18, 19, 20, 21, 22, 23, 24, 25]] [2, 3, 4, 5, 9, 10]) (.exit 1))) (.skip))) (.drw [.m 60 9, .o 61 (.load (some 30) (.s 4)), .m 62 3, .m 63 9, .m 64 2, .m 65 10, .o 66 (.iaddr 3 (.s 64) (.s 65)), .o 67 (.load (some 3) (.s 66)), .o 68 (.pcall 211 [.s 61, .s 62, .s 63, .s 67]), .o 69 (.append 174 4 48 false (.s 60) (.s 68)), .m 9 69] [[], [], [], [], [], [], [4, 5], [6], [1, 2, 3, 7], [0, 8, 8], [9, 9, 0, 1, 2, 3, 4, 5, 6, 7, 8, 9]] [2, 3, 4, 5, 9, 10])))) Zwu)
def Zq2 : MCode := .seq (.reg [.m 70 9, .m 8 70] [8]) (.ret)
def Zwv : MFun := ⟨4, 71, [.tmp 8], .seq (.reg [.o 4 (.box (.s 0)), .o 5 (.box (.s 1)), .o 8 (.mov (.c (.t .nil)))] [2, 3, 4, 5]) (.seq (.reg [.o 13 (.bslice 174 4 0 [.int .i64 0, .int .i64 0, .int .i64 0, .lst 3 []] []), .m 9 13] [2, 3, 4, 5, 9]) (.seq (.seq (.reg [.o 10 (.mov (.k 0))] [2, 3, 4, 5, 9, 10]) (.block 0 (.loop [2, 3, 4, 5, 9, 10] Zq1))) Zq2))⟩
noncomputable def Zk8 (x : List Zq) (x1 : List Int) (a : Zd) (a1 : Zb) : Rs := C 124 [.agg (a.c.map .t), .agg (a1.c.map .t), .own 0, .own 1] [.arr 242 3 true (x.map Zq.c), .arr 3 1 true (x1.map ic)]
noncomputable def Zgh (shapes : List Zq) (sizes : List Int) (m : Zd) (q : Zb) (fr : Bool) (out : List Za) (i : Int) : Rs := EvL C [.blk 0, .seq Zq2, .fin 2 [.tmp 8]] [2, 3, 4, 5, 9, 10] Zq1 ⟨[(2, .own 0), (3, .own 1), (4, .ptr 2 0), (5, .ptr 3 0), (9, .own 4), (10, I i)], [[(0, .own 0), (1, .own 1)]], [.arr 242 3 true (shapes.map Zq.c), .arr 3 1 true (sizes.map ic), .box (m.c.map .t), .box (q.c.map .t), .arr 174 4 fr (out.map Za.c)]⟩
def Zww : MFun := ⟨2, 38, [.cell 4 (some 4), .tmp 5], .seq (.reg [.o 4 (.alloc [.t (.int .i64 0), .t (.int .i64 0), .t (.int .i64 0), .t .nil]), .o 5 (.mov (.c (.t (.bool false))))] [0, 1, 4]) (.seq (.reg [.m 7 0, .m 8 1, .o 9 (.call 208 [.s 7, .s 8]), .m 6 9] [0, 4, 6]) (.seq (.seq (.reg [.m 10 6, .o 11 (.bin .lss (.s 10) (.k 0))] [0, 4, 6, 11]) (.cond (.s 11) (.seq (.reg [.o 12 (.build [.t (.int .i64 0), .t (.int .i64 0), .t (.int .i64 0), .t .nil] []), .n (.store 4 (.s 4) (.s 12)), .o 5 (.mov (.c (.t (.bool false))))] [4, 5]) (.ret)) (.skip))) (.seq (.drw [.m 13 0, .m 14 6, .o 15 (.iaddr 4 (.s 13) (.s 14)), .o 16 (.faddr 0 (.s 15)), .o 17 (.load none (.s 16)), .m 18 0, .m 19 6, .o 20 (.iaddr 4 (.s 18) (.s 19)), .o 21 (.faddr 1 (.s 20)), .o 22 (.load none (.s 21)), .m 23 0, .m 24 6, .o 25 (.iaddr 4 (.s 23) (.s 24)), .o 26 (.faddr 2 (.s 25)), .o 27 (.load none (.s 26)), .o 28 (.bslice 142 3 0 [.int .i64 0, .int .i64 0, .int .i64 0] []), .m 29 0, .m 30 6, .o 31 (.iaddr 4 (.s 29) (.s 30)), .o 32 (.faddr 3 (.s 31)), .o 33 (.faddr 0 (.s 32)), .o 34 (.load none (.s 33)), .o 35 (.append 142 3 24 false (.s 28) (.s 34)), .o 36 (.build [.t .nil] [(0, 1, .s 35)]), .o 37 (.build [.t (.int .i64 0), .t (.int .i64 0), .t (.int .i64 0), .t .nil] [(0, 1, .s 17), (1, 1, .s 22), (2, 1, .s 27), (3, 1, .s 36)]), .n (.store 4 (.s 4) (.s 37)), .o 5 (.mov (.c (.t (.bool true))))] [[], [], [0, 1], [2], [3], [], [], [5, 6], [7], [8], [], [], [10, 11], [12], [13], [], [], [], [16, 17], [18], [19], [20], [15, 21], [22], [4, 9, 14, 23], [24, 22, 0, 1, 2, 3, 4, 5, 6, 7, 8, 9, 10, 11, 12, 13, 14, 15, 16, 17, 18, 19, 20, 21, 22, 23, 24], [25, 0, 1, 2, 3, 4, 5, 6, 7, 8, 9, 10, 11, 12, 13, 14, 15, 16, 17, 18, 19, 20, 21, 22, 23, 24, 25]] [4, 5]) (.ret))))⟩
noncomputable def Zix (a : List Za) (a1 : Int) : Rs := C 123 [L 4 (a.map Za.c), I a1] []
def Zq3 : MCode := .seq (.seq (.reg [.m 17 5, .m 18 1, .o 19 (.len false (.s 18)), .o 20 (.bin .lss (.s 17) (.s 19))] [1, 5, 20]) (.cond (.s 20) (.skip) (.exit 0))) (.seq (.block 1 (.seq (.reg [.m 23 1, .m 24 5, .o 25 (.iaddr 1 (.s 23) (.s 24)), .o 26 (.load none (.s 25)), .o 27 (.call 137 [.s 26, .c (.t (.int .i64 0)), .c (.t (.int .i64 4096))]), .o 28 (.un .not (.s 27))] [1, 5, 28]) (.cond (.s 28) (.seq (.reg [.o 4 (.mov (.c (.t (.bool false))))] [4]) (.ret)) (.skip)))) (.reg [.m 21 5, .o 22 (.bin .add (.s 21) (.k 1)), .m 5 22] [1, 5]))
def Zq4 : MCode := .seq (.reg [.o 4 (.mov (.c (.t (.bool true))))] [4]) (.ret)
def Zwx : MFun := ⟨2, 29, [.tmp 4], .seq (.reg [.o 2 (.box (.s 0)), .o 4 (.mov (.c (.t (.bool false))))] [1, 2]) (.seq (.seq (.reg [.o 6 (.load (some 2) (.s 2)), .o 7 (.call 180 [.s 6]), .o 8 (.un .not (.s 7)), .m 9 8, .h 10 9 (.mov (.s 1)), .h 11 9 (.len false (.s 10)), .h 12 9 (.load (some 2) (.s 2)), .h 13 9 (.call 117 [.s 12]), .h 14 9 (.bin .add (.s 13) (.k 1)), .h 15 9 (.bin .neq (.s 11) (.s 14)), .o 16 (.pick (.s 9) (.c (.t (.bool true))) (.s 15))] [1, 16]) (.cond (.s 16) (.seq (.reg [.o 4 (.mov (.c (.t (.bool false))))] [4]) (.ret)) (.skip))) (.seq (.seq (.reg [.o 5 (.mov (.k 0))] [1, 5]) (.block 0 (.loop [1, 5] Zq3))) Zq4))⟩
noncomputable def Zk9 (a : Zb) (a1 : List Int) : Rs := C 285 [.agg (a.c.map .t), L 1 (a1.map ic)] []
noncomputable def Zh2 (sizes : List Int) (i : Int) : Rs := EvL C [.blk 0, .seq Zq4, .fin 0 [.tmp 4]] [1, 5] Zq3 ⟨[(1, L 1 (sizes.map ic)), (5, I i)], [[]], []⟩
def Zwy : MFun := ⟨5, 79, [.tmp 10], .seq (.reg [.o 5 (.box (.s 0)), .o 10 (.mov (.k 0))] [1, 2, 3, 4, 5]) (.seq (.reg [.m 13 2, .m 14 3, .o 15 (.iaddr 4 (.s 13) (.s 14)), .o 16 (.load (some 4) (.s 15)), .o 11 (.alloc [.t (.int .i64 0), .t (.int .i64 0), .t (.int .i64 0), .t (.int .i64 0)]), .n (.store 4 (.s 11) (.s 16))] [1, 2, 4, 5, 11]) (.seq (.reg [.o 17 (.load (some 30) (.s 5)), .m 18 1, .o 19 (.call 92 [.s 17, .s 18]), .o 12 (.alloc [.t (.int .i64 0), .t (.int .i64 0), .t (.int .i64 0), .t (.int .i64 0), .t (.int .i64 0), .t .nil]), .n (.store 6 (.s 12) (.s 19))] [2, 4, 11, 12]) (.seq (.seq (.reg [.o 20 (.faddr 2 (.s 11)), .o 21 (.load none (.s 20)), .o 22 (.bin .lss (.s 21) (.k 0))] [2, 4, 11, 12, 22]) (.cond (.s 22) (.seq (.drw [.o 23 (.load (some 6) (.s 12)), .m 24 4, .o 25 (.faddr 0 (.s 11)), .o 26 (.load none (.s 25)), .o 27 (.iaddr 1 (.s 24) (.s 26)), .o 28 (.load none (.s 27)), .m 29 4, .o 30 (.faddr 0 (.s 11)), .o 31 (.load none (.s 30)), .o 32 (.iaddr 1 (.s 29) (.s 31)), .o 33 (.load none (.s 32)), .o 34 (.call 91 [.s 23, .s 28, .c (.t (.int .i64 0)), .s 33]), .m 10 34] [[], [], [], [2], [1, 3], [4], [], [], [7], [6, 8], [9], [0, 5, 10], [11, 11, 0, 1, 2, 3, 4, 5, 6, 7, 8, 9, 10, 11]] [10]) (.ret)) (.skip))) (.seq (.seq (.reg [.o 35 (.faddr 3 (.s 11)), .o 36 (.load none (.s 35)), .o 37 (.bin .lss (.s 36) (.k 0))] [2, 4, 11, 12, 37]) (.cond (.s 37) (.seq (.drw [.o 38 (.load (some 6) (.s 12)), .m 39 4, .m 40 2, .o 41 (.faddr 2 (.s 11)), .o 42 (.load none (.s 41)), .o 43 (.iaddr 4 (.s 40) (.s 42)), .o 44 (.faddr 0 (.s 43)), .o 45 (.load none (.s 44)), .o 46 (.iaddr 1 (.s 39) (.s 45)), .o 47 (.load none (.s 46)), .m 48 4, .o 49 (.faddr 0 (.s 11)), .o 50 (.load none (.s 49)), .o 51 (.iaddr 1 (.s 48) (.s 50)), .o 52 (.load none (.s 51)), .o 53 (.call 91 [.s 38, .s 47, .c (.t (.int .i64 0)), .s 52]), .m 10 53] [[], [], [], [], [3], [2, 4], [5], [6], [1, 7], [8], [], [], [11], [10, 12], [13], [0, 9, 14], [15, 15, 0, 1, 2, 3, 4, 5, 6, 7, 8, 9, 10, 11, 12, 13, 14, 15]] [10]) (.ret)) (.skip))) (.seq (.drw [.o 54 (.load (some 6) (.s 12)), .m 55 4, .m 56 2, .o 57 (.faddr 2 (.s 11)), .o 58 (.load none (.s 57)), .o 59 (.iaddr 4 (.s 56) (.s 58)), .o 60 (.faddr 0 (.s 59)), .o 61 (.load none (.s 60)), .o 62 (.iaddr 1 (.s 55) (.s 61)), .o 63 (.load none (.s 62)), .m 64 4, .m 65 2, .o 66 (.faddr 3 (.s 11)), .o 67 (.load none (.s 66)), .o 68 (.iaddr 4 (.s 65) (.s 67)), .o 69 (.faddr 0 (.s 68)), .o 70 (.load none (.s 69)), .o 71 (.iaddr 1 (.s 64) (.s 70)), .o 72 (.load none (.s 71)), .m 73 4, .o 74 (.faddr 0 (.s 11)), .o 75 (.load none (.s 74)), .o 76 (.iaddr 1 (.s 73) (.s 75)), .o 77 (.load none (.s 76)), .o 78 (.call 91 [.s 54, .s 63, .s 72, .s 77]), .m 10 78] [[], [], [], [], [3], [2, 4], [5], [6], [1, 7], [8], [], [], [], [12], [11, 13], [14], [15], [10, 16], [17], [], [], [20], [19, 21], [22], [0, 9, 18, 23], [24, 24, 0, 1, 2, 3, 4, 5, 6, 7, 8, 9, 10, 11, 12, 13, 14, 15, 16, 17, 18, 19, 20, 21, 22, 23, 24]] [10]) (.ret))))))⟩
noncomputable def Zla (a : Zd) (a1 : Int) (a2 : List Zf) (a3 : Int) (a4 : List Int) : Rs := C 286 [.agg (a.c.map .t), I a1, L 4 (a2.map Zf.c), I a3, L 1 (a4.map ic)] []
def Zq5 : MCode := .seq (.seq (.reg [.m 29 12, .m 30 10, .o 31 (.len false (.s 30)), .o 32 (.bin .lss (.s 29) (.s 31))] [3, 4, 6, 9, 10, 12, 32]) (.cond (.s 32) (.skip) (.exit 0))) (.seq (.block 1 (.drw [.m 35 9, .o 36 (.load (some 30) (.s 4)), .o 37 (.faddr 0 (.s 6)), .o 38 (.load none (.s 37)), .m 39 12, .o 40 (.iaddr 3 (.s 38) (.s 39)), .o 41 (.faddr 0 (.s 40)), .o 42 (.load none (.s 41)), .m 43 10, .m 44 12, .m 45 3, .o 46 (.call 286 [.s 36, .s 42, .s 43, .s 44, .s 45]), .o 47 (.bslice 3 1 1 [.int .i64 0] [(0, .s 46)]), .o 48 (.append 3 1 8 true (.s 35) (.s 47)), .m 9 48] [[], [], [], [2], [], [3, 4], [5], [6], [], [], [], [1, 7, 8, 9, 10], [11], [0, 12, 11], [13, 13, 0, 1, 2, 3, 4, 5, 6, 7, 8, 9, 10, 11, 12, 13]] [3, 4, 6, 9, 10, 12])) (.reg [.m 33 12, .o 34 (.bin .add (.s 33) (.k 1)), .m 12 34] [3, 4, 6, 9, 10, 12]))
def Zq6 : MCode := .seq (.reg [.m 49 9, .m 8 49] [8]) (.ret)
def Zwz : MFun := ⟨4, 50, [.tmp 8], .seq (.reg [.o 4 (.box (.s 0)), .o 5 (.box (.s 1)), .o 6 (.box (.s 2)), .o 8 (.mov (.c (.t .nil)))] [3, 4, 5, 6]) (.seq (.reg [.o 13 (.bslice 3 1 0 [.int .i64 0] []), .m 9 13] [3, 4, 5, 6, 9]) (.seq (.reg [.o 15 (.load (some 2) (.s 5)), .o 16 (.load (some 1) (.s 6)), .o 17 (.call 87 [.s 15, .s 16]), .m 14 17, .o 18 (.ext (.s 14) 0), .o 19 (.ext (.s 14) 1), .m 10 18, .m 11 19] [3, 4, 5, 6, 9, 10, 11]) (.seq (.seq (.reg [.m 20 11, .o 21 (.un .not (.s 20)), .m 22 21, .h 23 22 (.load (some 2) (.s 5)), .h 24 22 (.mov (.s 3)), .h 25 22 (.call 285 [.s 23, .s 24]), .h 26 22 (.un .not (.s 25)), .o 27 (.pick (.s 22) (.c (.t (.bool true))) (.s 26))] [3, 4, 6, 9, 10, 27]) (.cond (.s 27) (.seq (.reg [.m 28 9, .m 8 28] [8]) (.ret)) (.skip))) (.seq (.seq (.reg [.o 12 (.mov (.k 0))] [3, 4, 6, 9, 10, 12]) (.block 0 (.loop [3, 4, 6, 9, 10, 12] Zq5))) Zq6))))⟩
noncomputable def Zlb (a : Zd) (a1 : Zb) (a2 : Plan) (a3 : List Int) : Rs := C 241 [.agg (a.c.map .t), .agg (a1.c.map .t), .agg (a2.c.map .t), L 1 (a3.map ic)] []
noncomputable def Zh3 (m : Zd) (p : Plan) (out : List Int) (info : List Zf) (sizes : List Int) (i : Int) : Rs := EvL C [.blk 0, .seq Zq6, .fin 0 [.tmp 8]] [3, 4, 6, 9, 10, 12] Zq5 ⟨[(3, L 1 (sizes.map ic)), (4, .ptr 0 0), (6, .ptr 1 0), (9, .own 2), (10, .own 3), (12, I i)], [[]], [.box (m.c.map .t), .box (p.c.map .t), .arr 3 1 true (out.map ic), .arr 138 4 true (info.map Zf.c)]⟩
def Zq7 : MCode := .seq (.seq (.reg [.m 20 11, .m 21 9, .o 22 (.len false (.s 21)), .o 23 (.bin .lss (.s 20) (.s 22))] [9, 10, 11, 23]) (.cond (.s 23) (.skip) (.exit 0))) (.seq (.block 1 (.reg [.m 26 10, .m 27 9, .m 28 11, .o 29 (.iaddr 1 (.s 27) (.s 28)), .o 30 (.load none (.s 29)), .o 31 (.bin .add (.s 26) (.s 30)), .m 10 31] [9, 10, 11])) (.reg [.m 24 11, .o 25 (.bin .add (.s 24) (.k 1)), .m 11 25] [9, 10, 11]))
def Zq8 : MCode := .seq (.reg [.m 32 10, .m 8 32] [8]) (.ret)
def Zw0 : MFun := ⟨4, 33, [.tmp 8], .seq (.reg [.o 4 (.box (.s 0)), .o 5 (.box (.s 1)), .o 6 (.box (.s 2)), .o 8 (.mov (.k 0))] [3, 4, 5, 6]) (.seq (.reg [.o 12 (.load (some 30) (.s 4)), .o 13 (.load (some 2) (.s 5)), .o 14 (.load (some 1) (.s 6)), .m 15 3, .o 16 (.call 241 [.s 12, .s 13, .s 14, .s 15]), .m 9 16] [9]) (.seq (.seq (.reg [.m 17 9, .o 18 (.len false (.s 17)), .o 19 (.bin .eql (.s 18) (.k 0))] [9, 19]) (.cond (.s 19) (.seq (.reg [.o 8 (.mov (.k (-1)))] [8]) (.ret)) (.skip))) (.seq (.reg [.o 10 (.mov (.k 0))] [9, 10]) (.seq (.seq (.reg [.o 11 (.mov (.k 0))] [9, 10, 11]) (.block 0 (.loop [9, 10, 11] Zq7))) Zq8))))⟩
noncomputable def Zlc (a : Zd) (a1 : Zb) (a2 : Plan) (a3 : List Int) : Rs := C 162 [.agg (a.c.map .t), .agg (a1.c.map .t), .agg (a2.c.map .t), L 1 (a3.map ic)] []
noncomputable def Zh4 (l : List Int) (n : Int) (i : Int) : Rs := EvL C [.blk 0, .seq Zq8, .fin 0 [.tmp 8]] [9, 10, 11] Zq7 ⟨[(9, .own 0), (10, I n), (11, I i)], [[]], [.arr 3 1 true (l.map ic)]⟩
def Zw1 : MFun := ⟨4, 15, [.tmp 8], .seq (.reg [.o 4 (.box (.s 0)), .o 5 (.box (.s 1)), .o 6 (.box (.s 2)), .o 8 (.mov (.k 0))] [3, 4, 5, 6]) (.seq (.drw [.o 9 (.load (some 30) (.s 4)), .o 10 (.load (some 2) (.s 5)), .o 11 (.load (some 1) (.s 6)), .m 12 3, .o 13 (.call 125 [.s 12]), .o 14 (.call 162 [.s 9, .s 10, .s 11, .s 13]), .m 8 14] [[], [], [], [], [3], [0, 1, 2, 4, 4], [5, 5, 0, 1, 2, 3, 4, 5]] [8]) (.ret))⟩
noncomputable def Ziy (a : Zd) (a1 : Zb) (a2 : Plan) (a3 : List Int) : Rs := C 70 [.agg (a.c.map .t), .agg (a1.c.map .t), .agg (a2.c.map .t), L 1 (a3.map ic)] []
def Zq9 : MCode := .seq (.reg [.o 9 (.bin .lss (.s 8) (.s 7))] [1, 3, 7, 8, 9]) (.seq (.cond (.s 9) (.skip) (.exit 0)) (.seq (.block 1 (.seq (.reg [.m 10 8, .m 4 10] [1, 3, 4, 7, 8]) (.drw [.m 11 3, .o 12 (.faddr 1 (.s 1)), .o 13 (.load none (.s 12)), .m 14 4, .o 15 (.iaddr 1 (.s 13) (.s 14)), .o 16 (.load none (.s 15)), .o 17 (.faddr 0 (.s 1)), .o 18 (.load none (.s 17)), .m 19 4, .o 20 (.iaddr 1 (.s 18) (.s 19)), .o 21 (.load none (.s 20)), .o 22 (.bin .sub (.s 16) (.s 21)), .o 23 (.bin .add (.s 22) (.k 1)), .o 24 (.bin .mul (.s 11) (.s 23)), .m 3 24] [[], [], [1], [], [2, 3], [4], [], [6], [], [7, 8], [9], [5, 10], [11], [0, 12], [13, 0, 1, 2, 3, 4, 5, 6, 7, 8, 9, 10, 11, 12, 13]] [1, 3, 7, 8]))) (.reg [.o 25 (.bin .add (.s 8) (.k 1)), .m 8 25] [1, 3, 7, 8])))
def Zra : MCode := .seq (.reg [.m 26 3, .m 2 26] [2]) (.ret)
def Zw2 : MFun := ⟨1, 27, [.tmp 2], .seq (.reg [.o 1 (.box (.s 0)), .o 2 (.mov (.k 0))] [1]) (.seq (.reg [.o 3 (.mov (.k 1))] [1, 3]) (.seq (.seq (.reg [.o 5 (.faddr 0 (.s 1)), .o 6 (.load none (.s 5)), .o 7 (.len false (.s 6)), .o 8 (.mov (.k 0))] [1, 3, 7, 8]) (.block 0 (.loop [1, 3, 7, 8] Zq9))) Zra))⟩
noncomputable def Zgi (a : Box) : Rs := C 274 [.agg (a.c.map .t)] []
noncomputable def Zh5 (b : Box) (n : Int) (x : Int) (x1 : Int) : Rs := EvL C [.blk 0, .seq Zra, .fin 0 [.tmp 2]] [1, 3, 7, 8] Zq9 ⟨[(1, .ptr 0 0), (3, I n), (7, I x), (8, I x1)], [[]], [.box (b.c.map .t)]⟩
def Zw3 : MFun := ⟨1, 9, [.tmp 2], .seq (.reg [.o 1 (.box (.s 0)), .o 2 (.mov (.k 0))] [1]) (.seq (.seq (.reg [.o 3 (.load (some 2) (.s 1)), .o 4 (.call 222 [.s 3]), .o 5 (.un .not (.s 4))] [1, 5]) (.cond (.s 5) (.seq (.reg [.o 2 (.mov (.k 0))] [2]) (.ret)) (.skip))) (.seq (.reg [.o 6 (.load (some 2) (.s 1)), .o 7 (.call 274 [.s 6]), .o 8 (.mm false (.s 7) (.k 401)), .m 2 8] [2]) (.ret)))⟩
noncomputable def Zld (a : Box) : Rs := C 213 [.agg (a.c.map .t)] []
def Zrb : MCode := .seq (.seq (.reg [.m 26 7, .o 27 (.bin .geq (.s 26) (.k 0))] [1, 2, 6, 7, 27]) (.cond (.s 27) (.skip) (.exit 0))) (.seq (.block 1 (.seq (.drw [.o 30 (.faddr 1 (.s 2)), .o 31 (.load none (.s 30)), .m 32 7, .o 33 (.iaddr 1 (.s 31) (.s 32)), .o 34 (.load none (.s 33)), .o 35 (.faddr 0 (.s 2)), .o 36 (.load none (.s 35)), .m 37 7, .o 38 (.iaddr 1 (.s 36) (.s 37)), .o 39 (.load none (.s 38)), .o 40 (.bin .sub (.s 34) (.s 39)), .o 41 (.bin .add (.s 40) (.k 1)), .m 8 41] [[], [0], [], [1, 2], [3], [], [5], [], [6, 7], [8], [4, 9], [10], [11, 0, 1, 2, 3, 4, 5, 6, 7, 8, 9, 10, 11]] [1, 2, 6, 7, 8]) (.seq (.drw [.m 42 6, .m 43 7, .o 44 (.iaddr 1 (.s 42) (.s 43)), .o 45 (.load none (.s 44)), .m 46 1, .m 47 8, .o 48 (.bin .rem (.s 46) (.s 47)), .o 49 (.bin .add (.s 45) (.s 48)), .o 50 (.iaddr 1 (.s 42) (.s 43)), .n (.store 1 (.s 50) (.s 49))] [[], [], [0, 1], [2], [], [], [4, 5], [3, 6], [0, 1, 0, 1, 2, 3, 4, 5, 6, 7], [8, 7, 0, 1, 2, 3, 4, 5, 6, 7]] [1, 2, 6, 7, 8]) (.reg [.m 51 1, .m 52 8, .o 53 (.bin .quo (.s 51) (.s 52)), .m 1 53] [1, 2, 6, 7])))) (.reg [.m 28 7, .o 29 (.bin .sub (.s 28) (.k 1)), .m 7 29] [1, 2, 6, 7]))
def Zrc : MCode := .seq (.reg [.m 54 6, .m 4 54, .o 5 (.mov (.c (.t (.bool true))))] [4, 5]) (.ret)
def Zw4 : MFun := ⟨2, 55, [.tmp 4, .tmp 5], .seq (.reg [.o 2 (.box (.s 0)), .o 4 (.mov (.c (.t .nil))), .o 5 (.mov (.c (.t (.bool false))))] [1, 2]) (.seq (.seq (.reg [.o 9 (.load (some 2) (.s 2)), .o 10 (.call 222 [.s 9]), .o 11 (.un .not (.s 10)), .m 12 11, .h 13 12 (.mov (.s 1)), .h 14 12 (.load (some 2) (.s 2)), .h 15 12 (.call 274 [.s 14]), .h 16 12 (.bin .sub (.s 15) (.k 1)), .h 17 12 (.call 104 [.s 13, .c (.t (.int .i64 0)), .s 16]), .h 18 12 (.un .not (.s 17)), .o 19 (.pick (.s 12) (.c (.t (.bool true))) (.s 18))] [1, 2, 19]) (.cond (.s 19) (.seq (.reg [.o 4 (.mov (.c (.t .nil))), .o 5 (.mov (.c (.t (.bool false))))] [4, 5]) (.ret)) (.skip))) (.seq (.reg [.o 20 (.faddr 0 (.s 2)), .o 21 (.load none (.s 20)), .o 22 (.call 142 [.s 21]), .m 6 22] [1, 2, 6]) (.seq (.seq (.reg [.m 23 6, .o 24 (.len false (.s 23)), .o 25 (.bin .sub (.s 24) (.k 1)), .m 7 25] [1, 2, 6, 7]) (.block 0 (.loop [1, 2, 6, 7] Zrb))) Zrc)))⟩
noncomputable def Ziz (a : Box) (a1 : Int) : Rs := C 214 [.agg (a.c.map .t), I a1] []
noncomputable def Zh6 (b : Box) (out : List Int) (index : Int) (i : Int) : Rs := EvL C [.blk 0, .seq Zrc, .fin 0 [.tmp 4, .tmp 5]] [1, 2, 6, 7] Zrb ⟨[(1, I index), (2, .ptr 0 0), (6, .own 1), (7, I i)], [[]], [.box (b.c.map .t), .arr 3 1 true (out.map ic)]⟩
def Zrd : MCode := .seq (.seq (.reg [.m 13 5, .m 14 3, .o 15 (.bin .lss (.s 13) (.s 14))] [1, 3, 4, 5, 15]) (.cond (.s 15) (.skip) (.exit 0))) (.seq (.block 1 (.seq (.reg [.o 19 (.load (some 2) (.s 1)), .m 20 5, .o 21 (.call 214 [.s 19, .s 20]), .m 18 21, .o 22 (.ext (.s 18) 0), .o 23 (.ext (.s 18) 1), .m 6 22, .m 7 23] [1, 3, 4, 5, 6]) (.reg [.m 24 4, .m 25 6, .o 26 (.bslice 38 1 1 [.lst 1 []] [(0, .s 25)]), .o 27 (.append 38 1 24 true (.s 24) (.s 26)), .m 4 27] [1, 3, 4, 5]))) (.reg [.m 16 5, .o 17 (.bin .add (.s 16) (.k 1)), .m 5 17] [1, 3, 4, 5]))
def Zre : MCode := .seq (.reg [.m 28 4, .m 2 28] [2]) (.ret)
def Zw5 : MFun := ⟨1, 29, [.tmp 2], .seq (.reg [.o 1 (.box (.s 0)), .o 2 (.mov (.c (.t .nil)))] [1]) (.seq (.reg [.o 8 (.load (some 2) (.s 1)), .o 9 (.call 213 [.s 8]), .m 3 9] [1, 3]) (.seq (.seq (.reg [.m 10 3, .o 11 (.bin .gtr (.s 10) (.k 400))] [1, 3, 11]) (.cond (.s 11) (.seq (.reg [.o 2 (.mov (.c (.t .nil)))] [2]) (.ret)) (.skip))) (.seq (.reg [.o 12 (.bslice 38 1 0 [.lst 1 []] []), .m 4 12] [1, 3, 4]) (.seq (.seq (.reg [.o 5 (.mov (.k 0))] [1, 3, 4, 5]) (.block 0 (.loop [1, 3, 4, 5] Zrd))) Zre))))⟩
noncomputable def Zi0 (a : Box) : Rs := C 126 [.agg (a.c.map .t)] []
noncomputable def Zgj (b : Box) (out : List (List Int)) (n : Int) (i : Int) : Rs := EvL C [.blk 0, .seq Zre, .fin 0 [.tmp 2]] [1, 3, 4, 5] Zrd ⟨[(1, .ptr 0 0), (3, I n), (4, .own 1), (5, I i)], [[]], [.box (b.c.map .t), .arr 38 1 true (out.map isc)]⟩
def Zrf : MCode := .seq (.reg [.o 26 (.bin .lss (.s 25) (.s 24))] [3, 4, 5, 23, 24, 25, 26]) (.seq (.cond (.s 26) (.skip) (.exit 0)) (.seq (.block 1 (.seq (.reg [.o 27 (.iaddr 1 (.s 23) (.s 25)), .o 28 (.load none (.s 27)), .m 9 28] [3, 4, 5, 9, 23, 24, 25]) (.seq (.drw [.o 29 (.load (some 30) (.s 3)), .o 30 (.load (some 2) (.s 4)), .o 31 (.faddr 0 (.s 5)), .o 32 (.load (some 1) (.s 31)), .m 33 9, .o 34 (.call 127 [.s 29, .s 30, .s 32, .s 33]), .o 35 (.bin .mul (.k 100) (.s 34)), .o 36 (.faddr 3 (.s 5)), .o 37 (.load none (.s 36)), .o 38 (.load (some 30) (.s 3)), .o 39 (.load (some 2) (.s 4)), .m 40 9, .o 41 (.call 128 [.s 38, .s 39, .s 40]), .o 42 (.bin .mul (.s 37) (.s 41)), .o 43 (.bin .gtr (.s 35) (.s 42))] [[], [], [], [2], [], [0, 1, 3, 4], [5], [], [7], [], [], [], [9, 10, 11, 5], [8, 12], [6, 13]] [3, 4, 5, 23, 24, 25, 43]) (.cond (.s 43) (.seq (.reg [.o 6 (.mov (.c (.t (.bool false))))] [6]) (.ret)) (.skip))))) (.reg [.o 44 (.bin .add (.s 25) (.k 1)), .m 25 44] [3, 4, 5, 23, 24, 25])))
def Zrg : MCode := .seq (.reg [.o 6 (.mov (.c (.t (.bool true))))] [6]) (.ret)
def Zw6 : MFun := ⟨3, 45, [.tmp 6], .seq (.reg [.o 3 (.box (.s 0)), .o 4 (.box (.s 1)), .o 5 (.box (.s 2)), .o 6 (.mov (.c (.t (.bool false))))] [3, 4, 5]) (.seq (.reg [.o 10 (.faddr 1 (.s 5)), .o 11 (.load (some 2) (.s 10)), .o 12 (.call 126 [.s 11]), .m 7 12] [3, 4, 5, 7]) (.seq (.seq (.reg [.o 13 (.load (some 30) (.s 3)), .o 14 (.load (some 2) (.s 4)), .o 15 (.load (some 4) (.s 5)), .o 16 (.call 119 [.s 13, .s 14, .s 15]), .o 17 (.un .not (.s 16)), .m 18 17, .h 19 18 (.mov (.s 7)), .h 20 18 (.len false (.s 19)), .h 21 18 (.bin .eql (.s 20) (.k 0)), .o 22 (.pick (.s 18) (.c (.t (.bool true))) (.s 21))] [3, 4, 5, 7, 22]) (.cond (.s 22) (.seq (.reg [.o 6 (.mov (.c (.t (.bool false))))] [6]) (.ret)) (.skip))) (.seq (.seq (.reg [.m 23 7, .o 24 (.len false (.s 23)), .o 25 (.mov (.k 0))] [3, 4, 5, 23, 24, 25]) (.block 0 (.loop [3, 4, 5, 23, 24, 25] Zrf))) Zrg)))⟩
noncomputable def Zmt (a : Zd) (a1 : Zb) (a2 : Region) : Rs := C 40 [.agg (a.c.map .t), .agg (a1.c.map .t), .agg (a2.c.map .t)] []
noncomputable def Zh7 (m : Zd) (q : Zb) (r_1 : Region) (x : List (List Int)) (x1 : Int) (x2 : Int) : Rs := EvL C [.blk 0, .seq Zrg, .fin 0 [.tmp 6]] [3, 4, 5, 23, 24, 25] Zrf ⟨[(3, .ptr 0 0), (4, .ptr 1 0), (5, .ptr 2 0), (23, .own 3), (24, I x1), (25, I x2)], [[]], [.box (m.c.map .t), .box (q.c.map .t), .box (r_1.c.map .t), .arr 38 1 true (x.map isc)]⟩
def Zrh : MCode := .seq (.seq (.reg [.m 8 4, .o 9 (.faddr 0 (.s 1)), .o 10 (.load none (.s 9)), .o 11 (.len false (.s 10)), .o 12 (.bin .lss (.s 8) (.s 11))] [1, 3, 4, 12]) (.cond (.s 12) (.skip) (.exit 0))) (.seq (.block 1 (.drw [.m 15 3, .o 16 (.faddr 1 (.s 1)), .o 17 (.load none (.s 16)), .m 18 4, .o 19 (.iaddr 1 (.s 17) (.s 18)), .o 20 (.load none (.s 19)), .o 21 (.faddr 0 (.s 1)), .o 22 (.load none (.s 21)), .m 23 4, .o 24 (.iaddr 1 (.s 22) (.s 23)), .o 25 (.load none (.s 24)), .o 26 (.bin .sub (.s 20) (.s 25)), .o 27 (.bin .add (.s 26) (.k 1)), .o 28 (.bin .mul (.s 15) (.s 27)), .o 29 (.mm false (.k 401) (.s 28)), .m 3 29] [[], [], [1], [], [2, 3], [4], [], [6], [], [7, 8], [9], [5, 10], [11], [0, 12], [13], [14, 0, 1, 2, 3, 4, 5, 6, 7, 8, 9, 10, 11, 12, 13, 14]] [1, 3, 4])) (.reg [.m 13 4, .o 14 (.bin .add (.s 13) (.k 1)), .m 4 14] [1, 3, 4]))
def Zri : MCode := .seq (.reg [.m 30 3, .m 2 30] [2]) (.ret)
def Zw7 : MFun := ⟨1, 31, [.tmp 2], .seq (.reg [.o 1 (.box (.s 0)), .o 2 (.mov (.k 0))] [1]) (.seq (.seq (.reg [.o 5 (.load (some 2) (.s 1)), .o 6 (.call 135 [.s 5]), .o 7 (.un .not (.s 6))] [1, 7]) (.cond (.s 7) (.seq (.reg [.o 2 (.mov (.k 0))] [2]) (.ret)) (.skip))) (.seq (.reg [.o 3 (.mov (.k 1))] [1, 3]) (.seq (.seq (.reg [.o 4 (.mov (.k 0))] [1, 3, 4]) (.block 0 (.loop [1, 3, 4] Zrh))) Zri)))⟩
noncomputable def Zle (a : Box) : Rs := C 45 [.agg (a.c.map .t)] []
noncomputable def Zh8 (b : Box) (n : Int) (i : Int) : Rs := EvL C [.blk 0, .seq Zri, .fin 0 [.tmp 2]] [1, 3, 4] Zrh ⟨[(1, .ptr 0 0), (3, I n), (4, I i)], [[]], [.box (b.c.map .t)]⟩
def Zrj : MCode := .seq (.seq (.reg [.m 25 7, .o 26 (.bin .geq (.s 25) (.k 0))] [1, 2, 6, 7, 26]) (.cond (.s 26) (.skip) (.exit 0))) (.seq (.block 1 (.seq (.drw [.o 29 (.faddr 1 (.s 2)), .o 30 (.load none (.s 29)), .m 31 7, .o 32 (.iaddr 1 (.s 30) (.s 31)), .o 33 (.load none (.s 32)), .o 34 (.faddr 0 (.s 2)), .o 35 (.load none (.s 34)), .m 36 7, .o 37 (.iaddr 1 (.s 35) (.s 36)), .o 38 (.load none (.s 37)), .o 39 (.bin .sub (.s 33) (.s 38)), .o 40 (.bin .add (.s 39) (.k 1)), .m 8 40] [[], [0], [], [1, 2], [3], [], [5], [], [6, 7], [8], [4, 9], [10], [11, 0, 1, 2, 3, 4, 5, 6, 7, 8, 9, 10, 11]] [1, 2, 6, 7, 8]) (.seq (.drw [.m 41 6, .m 42 7, .o 43 (.faddr 0 (.s 2)), .o 44 (.load none (.s 43)), .m 45 7, .o 46 (.iaddr 1 (.s 44) (.s 45)), .o 47 (.load none (.s 46)), .m 48 1, .m 49 8, .o 50 (.bin .rem (.s 48) (.s 49)), .o 51 (.bin .add (.s 47) (.s 50)), .o 52 (.iaddr 1 (.s 41) (.s 42)), .n (.store 1 (.s 52) (.s 51))] [[], [], [], [2], [], [3, 4], [5], [], [], [7, 8], [6, 9], [0, 1, 0, 1, 2, 3, 4, 5, 6, 7, 8, 9, 10], [11, 10, 0, 1, 2, 3, 4, 5, 6, 7, 8, 9, 10]] [1, 2, 6, 7, 8]) (.reg [.m 53 1, .m 54 8, .o 55 (.bin .quo (.s 53) (.s 54)), .m 1 55] [1, 2, 6, 7])))) (.reg [.m 27 7, .o 28 (.bin .sub (.s 27) (.k 1)), .m 7 28] [1, 2, 6, 7]))
def Zrk : MCode := .seq (.seq (.reg [.m 56 1, .o 57 (.bin .gtr (.s 56) (.k 0))] [6, 57]) (.cond (.s 57) (.seq (.reg [.o 58 (.bslice 3 1 0 [.int .i64 0] []), .m 4 58, .o 5 (.mov (.c (.t (.bool false))))] [4, 5]) (.ret)) (.skip))) (.seq (.reg [.m 59 6, .m 4 59, .o 5 (.mov (.c (.t (.bool true))))] [4, 5]) (.ret))
def Zw8 : MFun := ⟨2, 60, [.tmp 4, .tmp 5], .seq (.reg [.o 2 (.box (.s 0)), .o 4 (.mov (.c (.t .nil))), .o 5 (.mov (.c (.t (.bool false))))] [1, 2]) (.seq (.seq (.reg [.o 9 (.load (some 2) (.s 2)), .o 10 (.call 135 [.s 9]), .o 11 (.un .not (.s 10)), .m 12 11, .h 13 12 (.mov (.s 1)), .h 14 12 (.bin .lss (.s 13) (.k 0)), .o 15 (.pick (.s 12) (.c (.t (.bool true))) (.s 14))] [1, 2, 15]) (.cond (.s 15) (.seq (.reg [.o 16 (.bslice 3 1 0 [.int .i64 0] []), .m 4 16, .o 5 (.mov (.c (.t (.bool false))))] [4, 5]) (.ret)) (.skip))) (.seq (.reg [.o 17 (.bslice 3 1 0 [.int .i64 0] []), .o 18 (.faddr 0 (.s 2)), .o 19 (.load none (.s 18)), .o 20 (.append 3 1 8 false (.s 17) (.s 19)), .m 6 20] [1, 2, 6]) (.seq (.seq (.reg [.o 21 (.faddr 0 (.s 2)), .o 22 (.load none (.s 21)), .o 23 (.len false (.s 22)), .o 24 (.bin .sub (.s 23) (.k 1)), .m 7 24] [1, 2, 6, 7]) (.block 0 (.loop [1, 2, 6, 7] Zrj))) Zrk)))⟩
noncomputable def Zlf (a : Box) (a1 : Int) : Rs := C 122 [.agg (a.c.map .t), I a1] []
noncomputable def Zh9 (b : Box) (out : List Int) (index : Int) (i : Int) : Rs := EvL C [.blk 0, .seq Zrk, .fin 0 [.tmp 4, .tmp 5]] [1, 2, 6, 7] Zrj ⟨[(1, I index), (2, .ptr 0 0), (6, .own 1), (7, I i)], [[]], [.box (b.c.map .t), .arr 3 1 true (out.map ic)]⟩
def Zrl : MCode := .seq (.seq (.reg [.m 42 10, .m 43 7, .o 44 (.bin .lss (.s 42) (.s 43))] [3, 4, 5, 7, 8, 9, 10, 44]) (.cond (.s 44) (.skip) (.exit 0))) (.seq (.block 1 (.seq (.reg [.o 48 (.faddr 1 (.s 5)), .o 49 (.load (some 2) (.s 48)), .m 50 10, .o 51 (.call 122 [.s 49, .s 50]), .m 47 51, .o 52 (.ext (.s 47) 0), .o 53 (.ext (.s 47) 1), .m 11 52, .m 12 53] [3, 4, 5, 7, 8, 9, 10, 11]) (.seq (.drw [.o 55 (.load (some 30) (.s 3)), .o 56 (.load (some 2) (.s 4)), .m 57 8, .m 58 11, .o 59 (.call 125 [.s 58]), .o 60 (.pcall 124 [.s 55, .s 56, .s 57, .s 59]), .m 61 9, .o 62 (.call 123 [.s 60, .s 61]), .m 54 62, .o 63 (.ext (.s 54) 0), .o 64 (.ext (.s 54) 1), .o 13 (.alloc [.t (.int .i64 0), .t (.int .i64 0), .t (.int .i64 0), .t .nil]), .n (.store 4 (.s 13) (.s 63)), .m 14 64] [[], [], [], [], [3], [0, 1, 2, 4, 4], [], [5, 6, 5], [7], [8], [8], [], [11, 9, 7, 0, 1, 2, 3, 4, 5, 6, 7, 8, 9, 11], [10, 12, 0, 1, 2, 3, 4, 5, 6, 7, 8, 9, 10, 11, 12]] [3, 4, 5, 7, 8, 9, 10, 11, 13]) (.seq (.drw [.o 65 (.load (some 30) (.s 3)), .o 66 (.load (some 2) (.s 4)), .o 67 (.faddr 0 (.s 5)), .o 68 (.load (some 1) (.s 67)), .m 69 11, .o 70 (.call 70 [.s 65, .s 66, .s 68, .s 69]), .o 71 (.bin .mul (.s 70) (.k 100)), .o 72 (.faddr 3 (.s 5)), .o 73 (.load none (.s 72)), .o 74 (.faddr 2 (.s 13)), .o 75 (.load none (.s 74)), .o 76 (.bin .mul (.s 73) (.s 75)), .o 77 (.bin .gtr (.s 71) (.s 76))] [[], [], [], [2], [], [0, 1, 3, 4], [5], [], [7], [], [9], [8, 10], [6, 11]] [3, 4, 5, 7, 8, 9, 10, 77]) (.cond (.s 77) (.seq (.reg [.o 6 (.mov (.c (.t (.bool false))))] [6]) (.ret)) (.skip)))))) (.reg [.m 45 10, .o 46 (.bin .add (.s 45) (.k 1)), .m 10 46] [3, 4, 5, 7, 8, 9, 10]))
def Zrm : MCode := .seq (.reg [.o 6 (.mov (.c (.t (.bool true))))] [6]) (.ret)
def Zw9 : MFun := ⟨3, 78, [.tmp 6], .seq (.reg [.o 3 (.box (.s 0)), .o 4 (.box (.s 1)), .o 5 (.box (.s 2)), .o 6 (.mov (.c (.t (.bool false))))] [3, 4, 5]) (.seq (.reg [.o 15 (.faddr 1 (.s 5)), .o 16 (.load (some 2) (.s 15)), .o 17 (.call 45 [.s 16]), .m 7 17] [3, 4, 5, 7]) (.seq (.seq (.drw [.o 18 (.load (some 30) (.s 3)), .o 19 (.call 88 [.s 18]), .o 20 (.un .not (.s 19)), .m 21 20, .h 22 21 (.load (some 2) (.s 4)), .h 23 21 (.load (some 2) (.s 4)), .h 24 21 (.call 117 [.s 23]), .h 25 21 (.call 116 [.s 22, .s 24]), .h 26 21 (.un .not (.s 25)), .o 27 (.pick (.s 21) (.c (.t (.bool true))) (.s 26)), .m 28 27, .h 29 28 (.load (some 2) (.s 4)), .h 30 28 (.load (some 4) (.s 5)), .h 31 28 (.call 44 [.s 29, .s 30]), .h 32 28 (.un .not (.s 31)), .o 33 (.pick (.s 28) (.c (.t (.bool true))) (.s 32)), .m 34 33, .h 35 34 (.mov (.s 7)), .h 36 34 (.bin .gtr (.s 35) (.k 400)), .o 37 (.pick (.s 34) (.c (.t (.bool true))) (.s 36))] [[], [0], [1], [2, 1], [3], [3], [5, 3, 3], [4, 6, 6, 3], [7, 3], [3, 8], [9, 7], [10], [10], [11, 12, 10, 10], [13, 10], [10, 14], [15, 13], [16], [17, 16], [16, 18]] [3, 4, 5, 7, 37]) (.cond (.s 37) (.seq (.reg [.o 6 (.mov (.c (.t (.bool false))))] [6]) (.ret)) (.skip))) (.seq (.reg [.o 38 (.load (some 2) (.s 4)), .o 39 (.call 121 [.s 38]), .m 8 39] [3, 4, 5, 7, 8]) (.seq (.reg [.o 40 (.load (some 2) (.s 4)), .o 41 (.call 117 [.s 40]), .m 9 41] [3, 4, 5, 7, 8, 9]) (.seq (.seq (.reg [.o 10 (.mov (.k 0))] [3, 4, 5, 7, 8, 9, 10]) (.block 0 (.loop [3, 4, 5, 7, 8, 9, 10] Zrl))) Zrm)))))⟩
noncomputable def Zmu (a : Zd) (a1 : Zb) (a2 : Region) : Rs := C 39 [.agg (a.c.map .t), .agg (a1.c.map .t), .agg (a2.c.map .t)] []
noncomputable def Zgk (m : Zd) (q : Zb) (r_1 : Region) (shapes : List Zq) (n : Int) (full : Int) (i : Int) : Rs := EvL C [.blk 0, .seq Zrm, .fin 0 [.tmp 6]] [3, 4, 5, 7, 8, 9, 10] Zrl ⟨[(3, .ptr 0 0), (4, .ptr 1 0), (5, .ptr 2 0), (7, I n), (8, .own 3), (9, I full), (10, I i)], [[]], [.box (m.c.map .t), .box (q.c.map .t), .box (r_1.c.map .t), .arr 242 3 true (shapes.map Zq.c)]⟩
end Go.Proofs.YtbapkgocloaaeaaGreat
/- part: T1 -/
namespace Go.Proofs.YtbapkgocloaaeaaGreat
open Go.AM
theorem Z34 : tbl 104 = some Ztf := tblOf_eq Tryz.func104 (by kernel_rfl) (by kernel_rfl)
theorem Z35 : tbl 219 = some Ztg := tblOf_eq Tryz.func219 (by kernel_rfl) (by kernel_rfl)
theorem Z36 : tbl 279 = some Zth := tblOf_eq Tryz.func279 (by kernel_rfl) (by kernel_rfl)
theorem Z37 : tbl 220 = some Zti := tblOf_eq Tryz.func220 (by kernel_rfl) (by kernel_rfl)
theorem Z38 : tbl 280 = some Ztj := tblOf_eq Tryz.func280 (by kernel_rfl) (by kernel_rfl)
theorem Z39 : tbl 221 = some Ztk := tblOf_eq Tryz.func221 (by kernel_rfl) (by kernel_rfl)
theorem Z4a : tbl 131 = some Zl8 := tblOf_eq Tryz.func131 (by kernel_rfl) (by kernel_rfl)
theorem Z4b : tbl 277 = some Ztl := tblOf_eq Tryz.func277 (by kernel_rfl) (by kernel_rfl)
theorem Z4c : tbl 232 = some Ztm := tblOf_eq Tryz.func232 (by kernel_rfl) (by kernel_rfl)
theorem Z4d : tbl 222 = some Ztn := tblOf_eq Tryz.func222 (by kernel_rfl) (by kernel_rfl)
theorem Z4e : tbl 134 = some Zto := tblOf_eq Tryz.func134 (by kernel_rfl) (by kernel_rfl)
theorem Z4f : tbl 132 = some Ztp := tblOf_eq Tryz.func132 (by kernel_rfl) (by kernel_rfl)
theorem Z4g : tbl 257 = some Ztq := tblOf_eq Tryz.func257 (by kernel_rfl) (by kernel_rfl)
theorem Z4h : tbl 258 = some Zts := tblOf_eq Tryz.func258 (by kernel_rfl) (by kernel_rfl)
theorem Z4i : tbl 189 = some Ztt := tblOf_eq Tryz.func189 (by kernel_rfl) (by kernel_rfl)
theorem Z4j : tbl 99 = some Ztv := tblOf_eq Tryz.func99 (by kernel_rfl) (by kernel_rfl)
theorem Z4k : tbl 133 = some Ztw := tblOf_eq Tryz.func133 (by kernel_rfl) (by kernel_rfl)
theorem Z4l : tbl 43 = some Ztx := tblOf_eq Tryz.func43 (by kernel_rfl) (by kernel_rfl)
theorem Z4m : tbl 268 = some Zty := tblOf_eq Tryz.func268 (by kernel_rfl) (by kernel_rfl)
theorem Z4n : tbl 290 = some Zt0 := tblOf_eq Tryz.func290 (by kernel_rfl) (by kernel_rfl)
theorem Z4o : tbl 269 = some Zt1 := tblOf_eq Tryz.func269 (by kernel_rfl) (by kernel_rfl)
theorem Z4p : tbl 204 = some Zt2 := tblOf_eq Tryz.func204 (by kernel_rfl) (by kernel_rfl)
theorem Z4q : tbl 193 = some Zt3 := tblOf_eq Tryz.func193 (by kernel_rfl) (by kernel_rfl)
theorem Z4r : tbl 289 = some Zt4 := tblOf_eq Tryz.func289 (by kernel_rfl) (by kernel_rfl)
theorem Z4s : tbl 259 = some Zt5 := tblOf_eq Tryz.func259 (by kernel_rfl) (by kernel_rfl)
theorem Z4t : tbl 261 = some Zt6 := tblOf_eq Tryz.func261 (by kernel_rfl) (by kernel_rfl)
theorem Z4u : tbl 142 = some Zt7 := tblOf_eq Tryz.func142 (by kernel_rfl) (by kernel_rfl)
theorem Z4v : tbl 264 = some Zt8 := tblOf_eq Tryz.func264 (by kernel_rfl) (by kernel_rfl)
theorem Z4w : tbl 263 = some Zua := tblOf_eq Tryz.func263 (by kernel_rfl) (by kernel_rfl)
theorem Z4x : tbl 262 = some Zub := tblOf_eq Tryz.func262 (by kernel_rfl) (by kernel_rfl)
theorem Z4y : tbl 260 = some Zud := tblOf_eq Tryz.func260 (by kernel_rfl) (by kernel_rfl)
theorem Z4z : tbl 190 = some Zue := tblOf_eq Tryz.func190 (by kernel_rfl) (by kernel_rfl)
theorem Z40 : tbl 100 = some Zuf := tblOf_eq Tryz.func100 (by kernel_rfl) (by kernel_rfl)
theorem Z41 : tbl 119 = some Zug := tblOf_eq Tryz.func119 (by kernel_rfl) (by kernel_rfl)
theorem Z42 : tbl 216 = some Zuh := tblOf_eq Tryz.func216 (by kernel_rfl) (by kernel_rfl)
theorem Z43 : tbl 292 = some Zui := tblOf_eq Tryz.func292 (by kernel_rfl) (by kernel_rfl)
theorem Z44 : tbl 192 = some Zuj := tblOf_eq Tryz.func192 (by kernel_rfl) (by kernel_rfl)
theorem Z45 : tbl 275 = some Zul := tblOf_eq Tryz.func275 (by kernel_rfl) (by kernel_rfl)
theorem Z46 : tbl 276 = some Zum := tblOf_eq Tryz.func276 (by kernel_rfl) (by kernel_rfl)
theorem Z47 : tbl 215 = some Zo2 := tblOf_eq Tryz.func215 (by kernel_rfl) (by kernel_rfl)
theorem Z48 : tbl 127 = some Zuo := tblOf_eq Tryz.func127 (by kernel_rfl) (by kernel_rfl)
theorem Z49 : tbl 301 = some Zuq := tblOf_eq Tryz.func301 (by kernel_rfl) (by kernel_rfl)
theorem Z5a : tbl 302 = some Zus := tblOf_eq Tryz.func302 (by kernel_rfl) (by kernel_rfl)
theorem Z5b : tbl 304 = some Zut := tblOf_eq Tryz.func304 (by kernel_rfl) (by kernel_rfl)
theorem Z5c : tbl 303 = some Zb8 := tblOf_eq Tryz.func303 (by kernel_rfl) (by kernel_rfl)
theorem Z5d : tbl 305 = some Zuv := tblOf_eq Tryz.func305 (by kernel_rfl) (by kernel_rfl)
theorem Zxa : tbl 300 = some Zpa := tblOf_eq Tryz.func300 (by kernel_rfl) (by kernel_rfl)
theorem Z5e : tbl 141 = some Zuw := tblOf_eq Tryz.func141 (by kernel_rfl) (by kernel_rfl)
theorem Z5f : tbl 306 = some Zux := tblOf_eq Tryz.func306 (by kernel_rfl) (by kernel_rfl)
theorem Z5g : tbl 309 = some Zuy := tblOf_eq Tryz.func309 (by kernel_rfl) (by kernel_rfl)
end Go.Proofs.YtbapkgocloaaeaaGreat
/- part: T2 -/
namespace Go.Proofs.YtbapkgocloaaeaaGreat
open Go.AM
theorem Z5h : tbl 311 = some Zuz := tblOf_eq Tryz.func311 (by kernel_rfl) (by kernel_rfl)
theorem Z5i : tbl 307 = some Zu3 := tblOf_eq Tryz.func307 (by kernel_rfl) (by kernel_rfl)
theorem Z5j : tbl 312 = some Zu4 := tblOf_eq Tryz.func312 (by kernel_rfl) (by kernel_rfl)
theorem Z5k : tbl 308 = some Zu5 := tblOf_eq Tryz.func308 (by kernel_rfl) (by kernel_rfl)
theorem Z5l : tbl 294 = some Zmg := tblOf_eq Tryz.func294 (by kernel_rfl) (by kernel_rfl)
theorem Z5m : tbl 293 = some Zu8 := tblOf_eq Tryz.func293 (by kernel_rfl) (by kernel_rfl)
theorem Z5n : tbl 278 = some Zu9 := tblOf_eq Tryz.func278 (by kernel_rfl) (by kernel_rfl)
theorem Z5o : tbl 217 = some Zva := tblOf_eq Tryz.func217 (by kernel_rfl) (by kernel_rfl)
theorem Z5p : tbl 128 = some Zvc := tblOf_eq Tryz.func128 (by kernel_rfl) (by kernel_rfl)
theorem Z5q : tbl 92 = some Zvd := tblOf_eq Tryz.func92 (by kernel_rfl) (by kernel_rfl)
theorem Z5r : tbl 137 = some Zve := tblOf_eq Tryz.func137 (by kernel_rfl) (by kernel_rfl)
theorem Z5s : tbl 255 = some Zvf := tblOf_eq Tryz.func255 (by kernel_rfl) (by kernel_rfl)
theorem Z5t : tbl 183 = some Zvg := tblOf_eq Tryz.func183 (by kernel_rfl) (by kernel_rfl)
theorem Z5u : tbl 184 = some Zvh := tblOf_eq Tryz.func184 (by kernel_rfl) (by kernel_rfl)
theorem Z5v : tbl 91 = some Zvj := tblOf_eq Tryz.func91 (by kernel_rfl) (by kernel_rfl)
theorem Z5w : tbl 288 = some Zvk := tblOf_eq Tryz.func288 (by kernel_rfl) (by kernel_rfl)
theorem Z5x : tbl 253 = some Zvl := tblOf_eq Tryz.func253 (by kernel_rfl) (by kernel_rfl)
theorem Z5y : tbl 254 = some Zvm := tblOf_eq Tryz.func254 (by kernel_rfl) (by kernel_rfl)
theorem Z5z : tbl 182 = some Zvn := tblOf_eq Tryz.func182 (by kernel_rfl) (by kernel_rfl)
theorem Z50 : tbl 88 = some Zvo := tblOf_eq Tryz.func88 (by kernel_rfl) (by kernel_rfl)
theorem Z51 : tbl 249 = some Zvp := tblOf_eq Tryz.func249 (by kernel_rfl) (by kernel_rfl)
theorem Z52 : tbl 250 = some Zvq := tblOf_eq Tryz.func250 (by kernel_rfl) (by kernel_rfl)
theorem Z53 : tbl 180 = some Zvr := tblOf_eq Tryz.func180 (by kernel_rfl) (by kernel_rfl)
theorem Z54 : tbl 117 = some Zvs := tblOf_eq Tryz.func117 (by kernel_rfl) (by kernel_rfl)
theorem Z55 : tbl 202 = some Zvt := tblOf_eq Tryz.func202 (by kernel_rfl) (by kernel_rfl)
theorem Z56 : tbl 252 = some Zvu := tblOf_eq Tryz.func252 (by kernel_rfl) (by kernel_rfl)
theorem Z57 : tbl 267 = some Zvw := tblOf_eq Tryz.func267 (by kernel_rfl) (by kernel_rfl)
theorem Z58 : tbl 203 = some Zvx := tblOf_eq Tryz.func203 (by kernel_rfl) (by kernel_rfl)
theorem Z59 : tbl 116 = some Zvy := tblOf_eq Tryz.func116 (by kernel_rfl) (by kernel_rfl)
theorem Z6a : tbl 212 = some Zvz := tblOf_eq Tryz.func212 (by kernel_rfl) (by kernel_rfl)
theorem Z6b : tbl 51 = some Zv0 := tblOf_eq Tryz.func51 (by kernel_rfl) (by kernel_rfl)
theorem Z6c : tbl 135 = some Zv1 := tblOf_eq Tryz.func135 (by kernel_rfl) (by kernel_rfl)
theorem Z6d : tbl 251 = some Zv2 := tblOf_eq Tryz.func251 (by kernel_rfl) (by kernel_rfl)
theorem Z6e : tbl 181 = some Zv3 := tblOf_eq Tryz.func181 (by kernel_rfl) (by kernel_rfl)
theorem Z6f : tbl 87 = some Zv4 := tblOf_eq Tryz.func87 (by kernel_rfl) (by kernel_rfl)
theorem Z6g : tbl 136 = some Zv5 := tblOf_eq Tryz.func136 (by kernel_rfl) (by kernel_rfl)
theorem Z6h : tbl 44 = some Zv6 := tblOf_eq Tryz.func44 (by kernel_rfl) (by kernel_rfl)
theorem Z6i : tbl 205 = some Zv8 := tblOf_eq Tryz.func205 (by kernel_rfl) (by kernel_rfl)
theorem Z6j : tbl 206 = some Zwa := tblOf_eq Tryz.func206 (by kernel_rfl) (by kernel_rfl)
theorem Z6k : tbl 291 = some Zwc := tblOf_eq Tryz.func291 (by kernel_rfl) (by kernel_rfl)
theorem Z6l : tbl 270 = some Zwd := tblOf_eq Tryz.func270 (by kernel_rfl) (by kernel_rfl)
theorem Z6m : tbl 207 = some Zwf := tblOf_eq Tryz.func207 (by kernel_rfl) (by kernel_rfl)
theorem Z6n : tbl 121 = some Zwg := tblOf_eq Tryz.func121 (by kernel_rfl) (by kernel_rfl)
theorem Z6o : tbl 125 = some Zwh := tblOf_eq Tryz.func125 (by kernel_rfl) (by kernel_rfl)
theorem Z6p : tbl 209 = some Zwj := tblOf_eq Tryz.func209 (by kernel_rfl) (by kernel_rfl)
theorem Z6q : tbl 210 = some Zwk := tblOf_eq Tryz.func210 (by kernel_rfl) (by kernel_rfl)
theorem Z6r : tbl 208 = some Zwm := tblOf_eq Tryz.func208 (by kernel_rfl) (by kernel_rfl)
theorem Z6s : tbl 229 = some Zwn := tblOf_eq Tryz.func229 (by kernel_rfl) (by kernel_rfl)
theorem Zmv : tbl 271 = some Zk1 := tblOf_eq Tryz.func271 (by kernel_rfl) (by kernel_rfl)
end Go.Proofs.YtbapkgocloaaeaaGreat
/- part: T3 -/
namespace Go.Proofs.YtbapkgocloaaeaaGreat
open Go.AM
theorem Z6t : tbl 272 = some Zwo := tblOf_eq Tryz.func272 (by kernel_rfl) (by kernel_rfl)
theorem Z6u : tbl 231 = some Zwp := tblOf_eq Tryz.func231 (by kernel_rfl) (by kernel_rfl)
theorem Z6v : tbl 273 = some Zwq := tblOf_eq Tryz.func273 (by kernel_rfl) (by kernel_rfl)
theorem Z6w : tbl 211 = some Zwt := tblOf_eq Tryz.func211 (by kernel_rfl) (by kernel_rfl)
theorem Z6x : tbl 124 = some Zwv := tblOf_eq Tryz.func124 (by kernel_rfl) (by kernel_rfl)
theorem Z6y : tbl 123 = some Zww := tblOf_eq Tryz.func123 (by kernel_rfl) (by kernel_rfl)
theorem Z6z : tbl 285 = some Zwx := tblOf_eq Tryz.func285 (by kernel_rfl) (by kernel_rfl)
theorem Z60 : tbl 286 = some Zwy := tblOf_eq Tryz.func286 (by kernel_rfl) (by kernel_rfl)
theorem Z61 : tbl 241 = some Zwz := tblOf_eq Tryz.func241 (by kernel_rfl) (by kernel_rfl)
theorem Z62 : tbl 162 = some Zw0 := tblOf_eq Tryz.func162 (by kernel_rfl) (by kernel_rfl)
theorem Z63 : tbl 70 = some Zw1 := tblOf_eq Tryz.func70 (by kernel_rfl) (by kernel_rfl)
theorem Z64 : tbl 274 = some Zw2 := tblOf_eq Tryz.func274 (by kernel_rfl) (by kernel_rfl)
theorem Z65 : tbl 213 = some Zw3 := tblOf_eq Tryz.func213 (by kernel_rfl) (by kernel_rfl)
theorem Z66 : tbl 214 = some Zw4 := tblOf_eq Tryz.func214 (by kernel_rfl) (by kernel_rfl)
theorem Z67 : tbl 126 = some Zw5 := tblOf_eq Tryz.func126 (by kernel_rfl) (by kernel_rfl)
theorem Z68 : tbl 40 = some Zw6 := tblOf_eq Tryz.func40 (by kernel_rfl) (by kernel_rfl)
theorem Z69 : tbl 45 = some Zw7 := tblOf_eq Tryz.func45 (by kernel_rfl) (by kernel_rfl)
theorem Z7a : tbl 122 = some Zw8 := tblOf_eq Tryz.func122 (by kernel_rfl) (by kernel_rfl)
theorem Z7b : tbl 39 = some Zw9 := tblOf_eq Tryz.func39 (by kernel_rfl) (by kernel_rfl)
end Go.Proofs.YtbapkgocloaaeaaGreat
/- part: G1 -/
namespace Go.Proofs.YtbapkgocloaaeaaGreat
open Go.AM
theorem Z7c (a : Int) (a1 : Int) (a2 : Int) (r : AV × List Blk) (h : (if a1 ≤ a then (some (Bo (decide (a ≤ a2)), []) = some r) else (some (Bo false, []) = some r))) : Zu a a1 a2 = some r := by
  unfold Zu
  refine run Z34 rfl ?_
  try simp only [itb] at h
  try simp only [itf, List.getElem?_eq_some_iff, kk] at h
  rcases h with ⟨q1, h⟩ | ⟨q1, h⟩
  all_goals (refine Eq.trans ?_ h; clear h; simp +decide [*, kk, Ztf])
theorem Z7d (a : ByteArray) (r : AV × List Blk) (h : (if (a.size : Int) = 1 then (∃ (b1 : UInt8), a[0]? = some b1 ∧ (if 97 ≤ (b1.toNat : Int) then (some (Bo (decide ((b1.toNat : Int) ≤ 122)), []) = some r) else (some (Bo false, []) = some r))) else (some (Bo false, []) = some r))) : Zjm a = some r := by
  unfold Zjm
  refine run Z35 rfl ?_
  try simp only [itb] at h
  try simp only [itf, List.getElem?_eq_some_iff, kk] at h
  rcases h with ⟨q1, b1, q2, (⟨q3, h⟩ | ⟨q3, h⟩)⟩ | ⟨q1, h⟩
  all_goals (refine Eq.trans ?_ h; clear h; simp +decide [*, kk, Ztg])
theorem Zxb (s : List Int) (v : Int) (x : Int) (x1 : Int) (r : AV × List Blk) (h : (if x1 < x then (0 ≤ x1 ∧ (∃ (e1 : Int), s[x1.toNat]? = some e1 ∧ (if v = e1 then (some (I x1, []) = some r) else (Zg0 s v x (w (x1 + 1)) = some r)))) else (some (I (-1), []) = some r))) : Zg0 s v x x1 = some r := by
  unfold Zg0
  rw [EvL_eq Zn3.eq_1]
  try simp only [itb] at h
  try simp only [itf, List.getElem?_eq_some_iff, kk] at h
  rcases h with ⟨q1, q2, e1, ⟨g3, q3⟩, (⟨q4, h⟩ | ⟨q4, h⟩)⟩ | ⟨q1, h⟩
  all_goals (refine Eq.trans ?_ h; clear h; simp +decide [*, kk, Zg0, Zn4])
theorem Z7e (a : List Int) (a1 : Int) (r : AV × List Blk) (h : (Zg0 a a1 (a.length : Int) 0 = some r)) : Zjn a a1 = some r := by
  unfold Zjn
  refine run Z36 rfl ?_
  refine Eq.trans ?_ h; clear h; simp +decide [*, kk, Zth, Zg0]
theorem Z7f (a : List Int) (a1 : Int) (r : AV × List Blk) (h : (∃ (v1_0 : Int), Zjn a a1 = some (I v1_0, []) ∧ (some (Bo (decide (0 ≤ v1_0)), []) = some r))) : Zc3 a a1 = some r := by
  unfold Zc3
  refine run Z37 rfl ?_
  simp only [Zjn, mpl, dfs] at h
  rcases h with ⟨v1_0, q1, h⟩
  all_goals (refine Eq.trans ?_ h; clear h; simp +decide [*, kk, Zti])
theorem Zxc (s : List Bool) (v : Bool) (x : Int) (x1 : Int) (r : AV × List Blk) (h : (if x1 < x then (0 ≤ x1 ∧ (∃ (e1 : Bool), s[x1.toNat]? = some e1 ∧ (if v = e1 then (some (I x1, []) = some r) else (Zg1 s v x (w (x1 + 1)) = some r)))) else (some (I (-1), []) = some r))) : Zg1 s v x x1 = some r := by
  unfold Zg1
  rw [EvL_eq Zn5.eq_1]
  try simp only [itb] at h
  try simp only [itf, List.getElem?_eq_some_iff, kk] at h
  rcases h with ⟨q1, q2, e1, ⟨g3, q3⟩, (⟨q4, h⟩ | ⟨q4, h⟩)⟩ | ⟨q1, h⟩
  all_goals (refine Eq.trans ?_ h; clear h; simp +decide [*, kk, Zg1, Zn6])
theorem Z7g (a : List Bool) (a1 : Bool) (r : AV × List Blk) (h : (Zg1 a a1 (a.length : Int) 0 = some r)) : Zjo a a1 = some r := by
  unfold Zjo
  refine run Z38 rfl ?_
  refine Eq.trans ?_ h; clear h; simp +decide [*, kk, Ztj, Zg1]
theorem Z7h (a : List Bool) (a1 : Bool) (r : AV × List Blk) (h : (∃ (v1_0 : Int), Zjo a a1 = some (I v1_0, []) ∧ (some (Bo (decide (0 ≤ v1_0)), []) = some r))) : Zjp a a1 = some r := by
  unfold Zjp
  refine run Z39 rfl ?_
  simp only [Zjo, mpl, dfs] at h
  rcases h with ⟨v1_0, q1, h⟩
  all_goals (refine Eq.trans ?_ h; clear h; simp +decide [*, kk, Ztk])
theorem Zxd (q : Zb) (seen : List Bool) (x : List Atom) (x1 : Int) (x2 : Int) (r : AV × List Blk) (h : (if x2 < x1 then (0 ≤ x2 ∧ (∃ (e1 : Atom), x[x2.toNat]? = some e1 ∧ (∃ (v2_0 : Bool), Zjm e1.Name = some (Bo v2_0, []) ∧ (if v2_0 = true then (∃ (v3_0 : Bool), Zu (e1.Vars.length : Int) 1 3 = some (Bo v3_0, []) ∧ (if v3_0 = true then (Zg2 q seen e1 x x1 x2 e1.Vars (e1.Vars.length : Int) 0 = some r) else (some (Bo false, []) = some r))) else (some (Bo false, []) = some r))))) else (∃ (v4_0 : Bool), Zjp seen false = some (Bo v4_0, []) ∧ (some (Bo (!v4_0), []) = some r)))) : Zfg q seen x x1 x2 = some r := by
  unfold Zfg
  rw [EvL_eq Zl6.eq_1]
  simp only [Zjm, Zu, Zjp, mpl, dfs] at h
  try simp only [itb] at h
  try simp only [itf, List.getElem?_eq_some_iff, kk] at h
  rcases h with ⟨q1, q2, e1, ⟨g3, q3⟩, v2_0, q4, (⟨q5, v3_0, q6, (⟨q7, h⟩ | ⟨q7, h⟩)⟩ | ⟨q5, h⟩)⟩ | ⟨q1, v4_0, q8, h⟩
  all_goals (refine Eq.trans ?_ h; clear h; simp +decide [*, kk, Zg2, Zl7])
theorem Zxe (q : Zb) (seen : List Bool) (a : Atom) (x : List Atom) (x1 : Int) (x2 : Int) (x3 : List Int) (x4 : Int) (x5 : Int) (r : AV × List Blk) (h : (if x5 < x4 then (0 ≤ x5 ∧ (∃ (e1 : Int), x3[x5.toNat]? = some e1 ∧ (∃ (v2_0 : Bool), Zu e1 0 (w (q.Ze - 1)) = some (Bo v2_0, []) ∧ (if v2_0 = true then (x5.toNat ≤ a.Vars.length ∧ (∃ (v3_0 : Bool), Zc3 (a.Vars.take x5.toNat) e1 = some (Bo v3_0, []) ∧ (if v3_0 = true then (some (Bo false, []) = some r) else (0 ≤ e1 ∧ (∃ (e4 : Bool), seen[e1.toNat]? = some e4 ∧ (Zg2 q (seen.set e1.toNat true) a x x1 x2 x3 x4 (w (x5 + 1)) = some r)))))) else (some (Bo false, []) = some r))))) else (Zfg q seen x x1 (w (x2 + 1)) = some r))) : Zg2 q seen a x x1 x2 x3 x4 x5 = some r := by
  unfold Zg2
  rw [EvL_eq Zn7.eq_1]
  simp only [Zu, Zc3, mpl, dfs] at h
  try simp only [itb] at h
  try simp only [itf, List.getElem?_eq_some_iff, kk] at h
  rcases h with ⟨q1, q2, e1, ⟨g3, q3⟩, v2_0, q4, (⟨q5, q6, v3_0, q7, (⟨q8, h⟩ | ⟨q8, q9, e4, ⟨g10, q10⟩, h⟩)⟩ | ⟨q5, h⟩)⟩ | ⟨q1, h⟩
  all_goals (refine Eq.trans ?_ h; clear h; simp +decide [*, kk, Zg2, Zfg, Zn8])
theorem Z7i (a : Zb) (r : AV × List Blk) (h : (∃ (v1_0 : Bool), Zu a.Ze 1 4 = some (Bo v1_0, []) ∧ (if v1_0 = true then (∃ (v2_0 : Bool), Zu (a.Atoms.length : Int) 1 4 = some (Bo v2_0, []) ∧ (if v2_0 = true then (0 ≤ a.Ze ∧ (a.Ze.toNat * 1 ≤ room ∧ (a.Ze ≤ 140737488355328 ∧ (Zfg a (List.replicate (a.Ze).toNat false) a.Atoms (a.Atoms.length : Int) 0 = some r)))) else (some (Bo false, []) = some r))) else (some (Bo false, []) = some r)))) : Zcv a = some r := by
  unfold Zcv
  refine run Z4a rfl ?_
  obtain ⟨v1_0, q1, h⟩ := h
  unfold Zu at q1
  try simp at q1
  by_cases q2 : v1_0 = true
  · rw [if_pos q2] at h
    obtain ⟨v2_0, q3, h⟩ := h
    unfold Zu at q3
    try simp at q3
    by_cases q4 : v2_0 = true
    · rw [if_pos q4] at h
      obtain ⟨q5, h⟩ := h
      obtain ⟨q6, h⟩ := h
      have zq6 := q6; try simp at zq6
      obtain ⟨q7, h⟩ := h
      refine Eq.trans ?_ h
      clear h
      simp +decide [*, Zl8, Zfg]
    · rw [if_neg q4] at h
      refine Eq.trans ?_ h
      clear h
      simp +decide [*, Zl8]
  · rw [if_neg q2] at h
    refine Eq.trans ?_ h
    clear h
    simp +decide [*, Zl8]
theorem Zxf (location : List Int) (x : List Int) (x1 : Int) (x2 : Int) (r : AV × List Blk) (h : (if x2 < x1 then (0 ≤ x2 ∧ (∃ (e1 : Int), x[x2.toNat]? = some e1 ∧ (∃ (v2_0 : Bool), Zu e1 0 7 = some (Bo v2_0, []) ∧ (if v2_0 = true then (Zg3 location x x1 (w (x2 + 1)) = some r) else (some (Bo false, []) = some r))))) else (some (Bo (decide ((location.length : Int) ≤ 16)), []) = some r))) : Zg3 location x x1 x2 = some r := by
  unfold Zg3
  rw [EvL_eq Zn9.eq_1]
  simp only [Zu, mpl, dfs] at h
  try simp only [itb] at h
  try simp only [itf, List.getElem?_eq_some_iff, kk] at h
  rcases h with ⟨q1, q2, e1, ⟨g3, q3⟩, v2_0, q4, (⟨q5, h⟩ | ⟨q5, h⟩)⟩ | ⟨q1, h⟩
  all_goals (refine Eq.trans ?_ h; clear h; simp +decide [*, kk, Zg3, Zoa])
theorem Z7j (a : List Int) (r : AV × List Blk) (h : (Zg3 a a (a.length : Int) 0 = some r)) : Zfh a = some r := by
  unfold Zfh
  refine run Z4b rfl ?_
  refine Eq.trans ?_ h; clear h; simp +decide [*, kk, Ztl, Zg3]
theorem Zxg (a : List Int) (b : List Int) (x : Int) (x1 : Int) (r : AV × List Blk) (h : (if x1 < x then (0 ≤ x1 ∧ (∃ (e1 : Int), a[x1.toNat]? = some e1 ∧ (∃ (e2 : Int), b[x1.toNat]? = some e2 ∧ (if e1 < e2 then (some (Bo false, []) = some r) else (Zg4 a b x (w (x1 + 1)) = some r))))) else (some (Bo true, []) = some r))) : Zg4 a b x x1 = some r := by
  unfold Zg4
  rw [EvL_eq Zob.eq_1]
  try simp only [itb] at h
  try simp only [itf, List.getElem?_eq_some_iff, kk] at h
  rcases h with ⟨q1, q2, e1, ⟨g3, q3⟩, e2, ⟨g4, q4⟩, (⟨q5, h⟩ | ⟨q5, h⟩)⟩ | ⟨q1, h⟩
  all_goals (refine Eq.trans ?_ h; clear h; simp +decide [*, kk, Zg4, Zoc])
theorem Z7k (a : List Int) (a1 : List Int) (r : AV × List Blk) (h : (if (a.length : Int) = (a1.length : Int) then (Zg4 a a1 (a.length : Int) 0 = some r) else (some (Bo false, []) = some r))) : Zjq a a1 = some r := by
  unfold Zjq
  refine run Z4c rfl ?_
  try simp only [itb] at h
  try simp only [itf, List.getElem?_eq_some_iff, kk] at h
  rcases h with ⟨q1, h⟩ | ⟨q1, h⟩
  all_goals (refine Eq.trans ?_ h; clear h; simp +decide [*, kk, Ztm, Zg4])
theorem Z7l (a : Box) (r : AV × List Blk) (h : (∃ (v1_0 : Bool), Zfh a.Low = some (Bo v1_0, []) ∧ (if v1_0 = true then (∃ (v2_0 : Bool), Zfh a.High = some (Bo v2_0, []) ∧ (if v2_0 = true then (if 0 < (a.Low.length : Int) then (∃ (v3_0 : Bool), Zjq a.High a.Low = some (Bo v3_0, []) ∧ (some (Bo v3_0, []) = some r)) else (some (Bo false, []) = some r)) else (some (Bo false, []) = some r))) else (some (Bo false, []) = some r)))) : Zej a = some r := by
  unfold Zej
  refine run Z4d rfl ?_
  simp only [Zfh, Zjq, mpl, dfs] at h
  try simp only [itb] at h
  try simp only [itf, List.getElem?_eq_some_iff, kk] at h
  rcases h with ⟨v1_0, q1, (⟨q2, v2_0, q3, (⟨q4, (⟨q5, v3_0, q6, h⟩ | ⟨q5, h⟩)⟩ | ⟨q4, h⟩)⟩ | ⟨q2, h⟩)⟩
  all_goals (refine Eq.trans ?_ h; clear h; simp +decide [*, kk, Ztn])
theorem Z7m (a : Zb) (r : AV × List Blk) (h : (∃ (v1_0 : Bool), Zcv a = some (Bo v1_0, []) ∧ (if v1_0 = true then (¬ (a.Atoms.length : Int) < 0 ∧ (some (I (w ((shlI 1 (a.Atoms.length : Int)) - 1)), []) = some r)) else (some (I 0, []) = some r)))) : Zbz a = some r := by
  unfold Zbz
  refine run Z4e rfl ?_
  simp only [Zcv, Zb.c_def, mpl, dfs] at h
  try simp only [itb] at h
  try simp only [itf, List.getElem?_eq_some_iff, kk] at h
  rcases h with ⟨v1_0, q1, (⟨q2, q3, h⟩ | ⟨q2, h⟩)⟩
  all_goals (refine Eq.trans ?_ h; clear h; simp +decide [*, kk, Zto])
theorem Z7n (a : Zb) (a1 : Box) (r : AV × List Blk) (h : (∃ (v1_0 : Bool), Zej a1 = some (Bo v1_0, []) ∧ (if v1_0 = true then (∃ (v2_0 : Int), Zbz a = some (I v2_0, []) ∧ (some (Bo (decide ((a1.Low.length : Int) = (w (v2_0 + 1)))), []) = some r)) else (some (Bo false, []) = some r)))) : Zjr a a1 = some r := by
  unfold Zjr
  refine run Z4f rfl ?_
  simp only [Zej, Zbz, Box.c_def, Zb.c_def, mpl, dfs] at h
  try simp only [itb] at h
  try simp only [itf, List.getElem?_eq_some_iff, kk] at h
  rcases h with ⟨v1_0, q1, (⟨q2, v2_0, q3, h⟩ | ⟨q2, h⟩)⟩
  all_goals (refine Eq.trans ?_ h; clear h; simp +decide [*, kk, Ztp])
theorem Zxh (q : Zb) (out : List Int) (mask : Int) (v : Int) (r : AV × List Blk) (h : (if v < q.Ze then (Zfi q out mask v q.Atoms (q.Atoms.length : Int) 0 = some r) else (some (.own 0, [.arr 3 1 true (out.map ic)]) = some r))) : Zek q out mask v = some r := by
  unfold Zek
  rw [EvL_eq Zl9.eq_1]
  try simp only [itb] at h
  try simp only [itf, List.getElem?_eq_some_iff, kk] at h
  rcases h with ⟨q1, h⟩ | ⟨q1, h⟩
  all_goals (refine Eq.trans ?_ h; clear h; simp +decide [*, kk, Zfi, Zma])
theorem Zxi (q : Zb) (out : List Int) (mask : Int) (v : Int) (x : List Atom) (x1 : Int) (x2 : Int) (r : AV × List Blk) (h : (if x2 < x1 then (0 ≤ x2 ∧ (∃ (e1 : Atom), x[x2.toNat]? = some e1 ∧ (¬ x2 < 0 ∧ (if (andI (shrI mask x2) 1) = 1 then (∃ (v2_0 : Bool), Zc3 e1.Vars v = some (Bo v2_0, []) ∧ (if v2_0 = true then (out.length + 1 ≤ 68719476736 ∧ (Zek q (out ++ [v]) mask (w (v + 1)) = some r)) else (Zfi q out mask v x x1 (w (x2 + 1)) = some r))) else (Zfi q out mask v x x1 (w (x2 + 1)) = some r))))) else (Zek q out mask (w (v + 1)) = some r))) : Zfi q out mask v x x1 x2 = some r := by
  unfold Zfi
  rw [EvL_eq Zod.eq_1]
  simp only [Zc3, mpl, dfs] at h
  try simp only [itb] at h
  try simp only [itf, List.getElem?_eq_some_iff, kk] at h
  rcases h with ⟨q1, q2, e1, ⟨g3, q3⟩, q4, (⟨q5, v2_0, q6, (⟨q7, q8, h⟩ | ⟨q7, h⟩)⟩ | ⟨q5, h⟩)⟩ | ⟨q1, h⟩
  all_goals (refine Eq.trans ?_ h; clear h; simp +decide [*, kk, Zek, Zoe, Zfi])
theorem Z7o (a : Zb) (a1 : Int) (r : AV × List Blk) (h : (Zek a ([] : List Int) a1 0 = some r)) : Zdh a a1 = some r := by
  unfold Zdh
  refine run Z4g rfl ?_
  refine Eq.trans ?_ h; clear h; simp +decide [*, kk, Ztq, Zek]
theorem Zxj (out : List Int) (b : List Int) (x : List Int) (x1 : Int) (x2 : Int) (r : AV × List Blk) (h : (if x2 < x1 then (0 ≤ x2 ∧ (∃ (e1 : Int), x[x2.toNat]? = some e1 ∧ (∃ (v2_0 : Bool), Zc3 b e1 = some (Bo v2_0, []) ∧ (if v2_0 = true then (out.length + 1 ≤ 68719476736 ∧ (Zfj (out ++ [e1]) b x x1 (w (x2 + 1)) = some r)) else (Zfj out b x x1 (w (x2 + 1)) = some r))))) else (some (.own 0, [.arr 3 1 true (out.map ic)]) = some r))) : Zfj out b x x1 x2 = some r := by
  unfold Zfj
  rw [EvL_eq Zof.eq_1]
  simp only [Zc3, mpl, dfs] at h
  try simp only [itb] at h
  try simp only [itf, List.getElem?_eq_some_iff, kk] at h
  rcases h with ⟨q1, q2, e1, ⟨g3, q3⟩, v2_0, q4, (⟨q5, q6, h⟩ | ⟨q5, h⟩)⟩ | ⟨q1, h⟩
  all_goals (refine Eq.trans ?_ h; clear h; simp +decide [*, kk, Zfj, Ztr, Zog])
theorem Z7p (a : List Int) (a1 : List Int) (r : AV × List Blk) (h : (Zfj ([] : List Int) a1 a (a.length : Int) 0 = some r)) : Zel a a1 = some r := by
  unfold Zel
  refine run Z4h rfl ?_
  refine Eq.trans ?_ h; clear h; simp +decide [*, kk, Zts, Zfj]
theorem Zgl (a : Zb) (a1 : Zc) (a2 : List Zf) (a3 : List Int) (r : AV × List Blk) (h : (if a1.Kind = 1 then (∃ (v1_0 : Bool), Zu a1.Atom 0 (w ((a.Atoms.length : Int) - 1)) = some (Bo v1_0, []) ∧ (if v1_0 = true then (if a1.Order = 0 then (¬ a1.Atom < 0 ∧ (0 ≤ a1.Atom ∧ (∃ (e2 : Atom), a.Atoms[a1.Atom.toNat]? = some e2 ∧ (∃ (e3 : Int), e2.Vars[0]? = some e3 ∧ (some (.tup [.agg [I (shlI 1 a1.Atom), I e3, I (-1), I (-1)], Bo true], []) = some r))))) else (some (.tup [.agg [I 0, I (-1), I (-1), I (-1)], Bo false], []) = some r)) else (some (.tup [.agg [I 0, I (-1), I (-1), I (-1)], Bo false], []) = some r))) else (if a1.Atom = 0 then (if a1.Kind = 2 then (if (a3.length : Int) < 1 then (some (.tup [.agg [I 0, I (-1), I (-1), I (-1)], Bo false], []) = some r) else (0 ≤ (w ((a3.length : Int) - 1)) ∧ (∃ (e4 : Int), a3[(w ((a3.length : Int) - 1)).toNat]? = some e4 ∧ (0 ≤ e4 ∧ (∃ (e5 : Zf), a2[e4.toNat]? = some e5 ∧ (∃ (v6_0 : List Int), Zdh a e5.Mask = some (.own 0, [.arr 3 1 true (v6_0.map ic)]) ∧ (∃ (v7_0 : Bool), Zc3 v6_0 a1.Order = some (Bo v7_0, []) ∧ (if v7_0 = true then (if e5.Order = a1.Order then (some (.tup [.agg [I 0, I (-1), I (-1), I (-1)], Bo false], []) = some r) else (some (.tup [.agg [I e5.Mask, I a1.Order, I e4, I (-1)], Bo true], []) = some r)) else (some (.tup [.agg [I 0, I (-1), I (-1), I (-1)], Bo false], []) = some r))))))))) else (if (a3.length : Int) < 2 then (some (.tup [.agg [I 0, I (-1), I (-1), I (-1)], Bo false], []) = some r) else (0 ≤ (w ((a3.length : Int) - 2)) ∧ (∃ (e8 : Int), a3[(w ((a3.length : Int) - 2)).toNat]? = some e8 ∧ (0 ≤ (w ((a3.length : Int) - 1)) ∧ (∃ (e9 : Int), a3[(w ((a3.length : Int) - 1)).toNat]? = some e9 ∧ (0 ≤ e8 ∧ (∃ (e10 : Zf), a2[e8.toNat]? = some e10 ∧ (0 ≤ e9 ∧ (∃ (e11 : Zf), a2[e9.toNat]? = some e11 ∧ (∃ (v12_0 : List Int), Zdh a e10.Mask = some (.own 0, [.arr 3 1 true (v12_0.map ic)]) ∧ (∃ (v13_0 : List Int), Zdh a e11.Mask = some (.own 0, [.arr 3 1 true (v13_0.map ic)]) ∧ (∃ (v14_0 : List Int), Zel v12_0 v13_0 = some (.own 0, [.arr 3 1 true (v14_0.map ic)]) ∧ (if (andI e10.Mask e11.Mask) = 0 then (if (v14_0.length : Int) = 0 then (some (.tup [.agg [I (orI e10.Mask e11.Mask), I (-1), I e8, I e9], Bo false], []) = some r) else (if a1.Kind = 3 then (some (.tup [.agg [I (orI e10.Mask e11.Mask), I (-1), I e8, I e9], Bo (decide (a1.Order = 0))], []) = some r) else (if a1.Kind = 5 then (some (.tup [.agg [I (orI e10.Mask e11.Mask), I e10.Order, I e8, I e9], Bo (decide (a1.Order = 0))], []) = some r) else (if a1.Kind = 4 then (∃ (v15_0 : Bool), Zc3 v14_0 a1.Order = some (Bo v15_0, []) ∧ (if v15_0 = true then (if e10.Order = a1.Order then (some (.tup [.agg [I (orI e10.Mask e11.Mask), I a1.Order, I e8, I e9], Bo (decide (e11.Order = a1.Order))], []) = some r) else (some (.tup [.agg [I (orI e10.Mask e11.Mask), I a1.Order, I e8, I e9], Bo false], []) = some r)) else (some (.tup [.agg [I (orI e10.Mask e11.Mask), I a1.Order, I e8, I e9], Bo false], []) = some r))) else (some (.tup [.agg [I (orI e10.Mask e11.Mask), I (-1), I e8, I e9], Bo false], []) = some r))))) else (some (.tup [.agg [I (orI e10.Mask e11.Mask), I (-1), I e8, I e9], Bo false], []) = some r))))))))))))))) else (some (.tup [.agg [I 0, I (-1), I (-1), I (-1)], Bo false], []) = some r)))) : Zg5 a a1 a2 a3 = some r := by
  unfold Zg5
  refine run Z4i rfl ?_
  simp only [Zu, Zdh, Zc3, Zel, Zb.c_def, mpl, dfs] at h
  try simp only [itb] at h
  try simp only [itf, List.getElem?_eq_some_iff, kk] at h
  rcases h with ⟨q1, v1_0, q2, (⟨q3, (⟨q4, q5, q6, e2, ⟨g7, q7⟩, e3, ⟨g8, q8⟩, h⟩ | ⟨q4, h⟩)⟩ | ⟨q3, h⟩)⟩ | ⟨q1, (⟨q9, (⟨q10, (⟨q11, h⟩ | ⟨q11, q12, e4, ⟨g13, q13⟩, q14, e5, ⟨g15, q15⟩, v6_0, q16, v7_0, q17, (⟨q18, (⟨q19, h⟩ | ⟨q19, h⟩)⟩ | ⟨q18, h⟩)⟩)⟩ | ⟨q10, (⟨q20, h⟩ | ⟨q20, q21, e8, ⟨g22, q22⟩, q23, e9, ⟨g24, q24⟩, q25, e10, ⟨g26, q26⟩, q27, e11, ⟨g28, q28⟩, v12_0, q29, v13_0, q30, v14_0, q31, (⟨q32, (⟨q33, h⟩ | ⟨q33, (⟨q34, h⟩ | ⟨q34, (⟨q35, h⟩ | ⟨q35, (⟨q36, v15_0, q37, (⟨q38, (⟨q39, h⟩ | ⟨q39, h⟩)⟩ | ⟨q38, h⟩)⟩ | ⟨q36, h⟩)⟩)⟩)⟩)⟩ | ⟨q32, h⟩)⟩)⟩)⟩ | ⟨q9, h⟩)⟩
  all_goals (refine Eq.trans ?_ h; clear h; simp +decide [*, kk, Ztt])
theorem Zxk (q : Zb) (info : List Zf) (stack : List Int) (x : List Zc) (x1 : Int) (x2 : Int) (r : AV × List Blk) (h : (if x2 < x1 then (0 ≤ x2 ∧ (∃ (e1 : Zc), x[x2.toNat]? = some e1 ∧ (∃ (v2_0 : Zf) (v2_1 : Bool), Zg5 q e1 info stack = some (.tup [.agg (v2_0.c.map .t), Bo v2_1], []) ∧ (if v2_1 = true then (info.length + 1 ≤ 68719476736 ∧ (if 0 ≤ v2_0.Right then (0 ≤ (w ((stack.length : Int) - 2)) ∧ ((w ((stack.length : Int) - 2)).toNat ≤ stack.length ∧ ((w ((stack.length : Int) - 2)).toNat + 1 ≤ 68719476736 ∧ (Zen q (info ++ [v2_0]) ((stack.take ((w ((stack.length : Int) - 2)).toNat)) ++ [x2]) x x1 (w (x2 + 1)) = some r)))) else (if 0 ≤ v2_0.Left then (0 ≤ (w ((stack.length : Int) - 1)) ∧ ((w ((stack.length : Int) - 1)).toNat ≤ stack.length ∧ ((w ((stack.length : Int) - 1)).toNat + 1 ≤ 68719476736 ∧ (Zen q (info ++ [v2_0]) ((stack.take ((w ((stack.length : Int) - 1)).toNat)) ++ [x2]) x x1 (w (x2 + 1)) = some r)))) else (stack.length + 1 ≤ 68719476736 ∧ (Zen q (info ++ [v2_0]) (stack ++ [x2]) x x1 (w (x2 + 1)) = some r))))) else (some (.tup [.t .nil, Bo false], []) = some r))))) else (if (stack.length : Int) = 1 then (some (.tup [.own 0, Bo true], [.arr 138 4 true (info.map Zf.c)]) = some r) else (some (.tup [.t .nil, Bo false], []) = some r)))) : Zen q info stack x x1 x2 = some r := by
  unfold Zen
  rw [EvL_eq Zoh.eq_1]
  simp only [Zg5, Zc.c_def, Zb.c_def, Zf.c_def, mpl, dfs] at h
  try simp only [itb] at h
  try simp only [itf, List.getElem?_eq_some_iff, kk] at h
  rcases h with ⟨q1, q2, e1, ⟨g3, q3⟩, v2_0, v2_1, q4, (⟨q5, q6, (⟨q7, q8, q9, q10, h⟩ | ⟨q7, (⟨q11, q12, q13, q14, h⟩ | ⟨q11, q15, h⟩)⟩)⟩ | ⟨q5, h⟩)⟩ | ⟨q1, (⟨q16, h⟩ | ⟨q16, h⟩)⟩
  all_goals (refine Eq.trans ?_ h; clear h; simp +decide [*, kk, Zen, Ztu, Zoi])
theorem Z7q (a : Zb) (a1 : Plan) (r : AV × List Blk) (h : (∃ (v1_0 : Bool), Zcv a = some (Bo v1_0, []) ∧ (if v1_0 = true then (∃ (v2_0 : Bool), Zu (a1.Steps.length : Int) 1 14 = some (Bo v2_0, []) ∧ (if v2_0 = true then (Zen a ([] : List Zf) ([] : List Int) a1.Steps (a1.Steps.length : Int) 0 = some r) else (some (.tup [.t .nil, Bo false], []) = some r))) else (some (.tup [.t .nil, Bo false], []) = some r)))) : Zem a a1 = some r := by
  unfold Zem
  refine run Z4j rfl ?_
  simp only [Zcv, Zu, Zb.c_def, mpl, dfs] at h
  try simp only [itb] at h
  try simp only [itf, List.getElem?_eq_some_iff, kk] at h
  rcases h with ⟨v1_0, q1, (⟨q2, v2_0, q3, (⟨q4, h⟩ | ⟨q4, h⟩)⟩ | ⟨q2, h⟩)⟩
  all_goals (refine Eq.trans ?_ h; clear h; simp +decide [*, kk, Ztv, Zen])
theorem Z7r (a : Zb) (a1 : Plan) (r : AV × List Blk) (h : ((Zem a a1 = some (.tup [.t .nil, Bo false], []) ∧ (some (I 0, []) = some r)) ∨ (∃ (v2_0 : List Zf), Zem a a1 = some (.tup [.own 0, Bo true], [.arr 138 4 true (v2_0.map Zf.c)]) ∧ (0 ≤ (w ((v2_0.length : Int) - 1)) ∧ (∃ (e3 : Zf), v2_0[(w ((v2_0.length : Int) - 1)).toNat]? = some e3 ∧ (some (I e3.Mask, []) = some r)))))) : Zjs a a1 = some r := by
  unfold Zjs
  refine run Z4k rfl ?_
  simp only [Zem, Plan.c_def, Zb.c_def, mpl, dfs] at h
  try simp only [itb] at h
  try simp only [itf, List.getElem?_eq_some_iff, kk] at h
  rcases h with ⟨q2, h⟩ | ⟨v2_0, q3, q4, e3, ⟨g5, q5⟩, h⟩
  all_goals (refine Eq.trans ?_ h; clear h; simp +decide [*, kk, Ztw])
end Go.Proofs.YtbapkgocloaaeaaGreat
/- part: G2 -/
namespace Go.Proofs.YtbapkgocloaaeaaGreat
open Go.AM
theorem Z7s (a : Zb) (a1 : Region) (r : AV × List Blk) (h : (∃ (v1_0 : Bool), Zcv a = some (Bo v1_0, []) ∧ (if v1_0 = true then (∃ (v2_0 : Bool), Zjr a a1.Box = some (Bo v2_0, []) ∧ (if v2_0 = true then (∃ (v3_0 : Int), Zjs a a1.Plan = some (I v3_0, []) ∧ (∃ (v4_0 : Int), Zbz a = some (I v4_0, []) ∧ (if v3_0 = v4_0 then (∃ (v5_0 : Bool), Zu a1.Percent 100 1000 = some (Bo v5_0, []) ∧ (some (Bo v5_0, []) = some r)) else (some (Bo false, []) = some r)))) else (some (Bo false, []) = some r))) else (some (Bo false, []) = some r)))) : Zjt a a1 = some r := by
  unfold Zjt
  refine run Z4l rfl ?_
  simp only [Zcv, Zjr, Zjs, Zbz, Zu, Box.c_def, Plan.c_def, Zb.c_def, mpl, dfs] at h
  try simp only [itb] at h
  try simp only [itf, List.getElem?_eq_some_iff, kk] at h
  rcases h with ⟨v1_0, q1, (⟨q2, v2_0, q3, (⟨q4, v3_0, q5, v4_0, q6, (⟨q7, v5_0, q8, h⟩ | ⟨q7, h⟩)⟩ | ⟨q4, h⟩)⟩ | ⟨q2, h⟩)⟩
  all_goals (refine Eq.trans ?_ h; clear h; simp +decide [*, kk, Ztx])
theorem Z7t (a : Zb) (a1 : Int) (r : AV × List Blk) (h : (∃ (v1_0 : Bool), Zcv a = some (Bo v1_0, []) ∧ (if v1_0 = true then (¬ (a.Atoms.length : Int) < 0 ∧ (∃ (v2_0 : Bool), Zu a1 0 (w ((shlI 1 (a.Atoms.length : Int)) - 1)) = some (Bo v2_0, []) ∧ (some (Bo v2_0, []) = some r))) else (some (Bo false, []) = some r)))) : Zg6 a a1 = some r := by
  unfold Zg6
  refine run Z4m rfl ?_
  simp only [Zcv, Zu, Zb.c_def, mpl, dfs] at h
  try simp only [itb] at h
  try simp only [itf, List.getElem?_eq_some_iff, kk] at h
  rcases h with ⟨v1_0, q1, (⟨q2, q3, v2_0, q4, h⟩ | ⟨q2, h⟩)⟩
  all_goals (refine Eq.trans ?_ h; clear h; simp +decide [*, kk, Zty])
theorem Zxl (vars : List Int) (mask : Int) (out : Int) (x : List Atom) (x1 : Int) (x2 : Int) (r : AV × List Blk) (h : (if x2 < x1 then (0 ≤ x2 ∧ (∃ (e1 : Atom), x[x2.toNat]? = some e1 ∧ (¬ x2 < 0 ∧ (if (andI (shrI mask x2) 1) = 0 then (∃ (v2_0 : List Int), Zel e1.Vars vars = some (.own 0, [.arr 3 1 true (v2_0.map ic)]) ∧ (if 0 < (v2_0.length : Int) then (Zeo vars mask (orI out (shlI 1 x2)) x x1 (w (x2 + 1)) = some r) else (Zeo vars mask out x x1 (w (x2 + 1)) = some r))) else (Zeo vars mask out x x1 (w (x2 + 1)) = some r))))) else (some (I out, []) = some r))) : Zeo vars mask out x x1 x2 = some r := by
  unfold Zeo
  rw [EvL_eq Zoj.eq_1]
  simp only [Zel, mpl, dfs] at h
  try simp only [itb] at h
  try simp only [itf, List.getElem?_eq_some_iff, kk] at h
  rcases h with ⟨q1, q2, e1, ⟨g3, q3⟩, q4, (⟨q5, v2_0, q6, (⟨q7, h⟩ | ⟨q7, h⟩)⟩ | ⟨q5, h⟩)⟩ | ⟨q1, h⟩
  all_goals (refine Eq.trans ?_ h; clear h; simp +decide [*, kk, Zeo, Ztz, Zok])
theorem Z7u (a : Zb) (a1 : Int) (r : AV × List Blk) (h : (∃ (v1_0 : List Int), Zdh a a1 = some (.own 0, [.arr 3 1 true (v1_0.map ic)]) ∧ (Zeo v1_0 a1 0 a.Atoms (a.Atoms.length : Int) 0 = some r))) : Zju a a1 = some r := by
  unfold Zju
  refine run Z4n rfl ?_
  simp only [Zdh, Zb.c_def, mpl, dfs] at h
  rcases h with ⟨v1_0, q1, h⟩
  all_goals (refine Eq.trans ?_ h; clear h; simp +decide [*, kk, Zt0, Zeo])
theorem Zxm (q : Zb) (mask : Int) (got : Int) (r : AV × List Blk) (h : (∃ (v1_0 : Int), Zju q got = some (I v1_0, []) ∧ (if (orI got (andI v1_0 mask)) = got then (some (Bo (decide (got = mask)), []) = some r) else (Zg7 q mask (orI got (andI v1_0 mask)) = some r)))) : Zg7 q mask got = some r := by
  unfold Zg7
  rw [EvL_eq Zol.eq_1]
  simp only [Zju, Zb.c_def, mpl, dfs] at h
  try simp only [itb] at h
  try simp only [itf, List.getElem?_eq_some_iff, kk] at h
  rcases h with ⟨v1_0, q1, (⟨q2, h⟩ | ⟨q2, h⟩)⟩
  all_goals (refine Eq.trans ?_ h; clear h; simp +decide [*, kk, Zg7])
theorem Zxn (a : Zb) (a1 : Int) (r : AV × List Blk) (h : (if a1 = 0 then (some (Bo false, []) = some r) else (Zg7 a a1 (andI a1 (w (0 - a1))) = some r))) : Zd4 a a1 = some r := by
  unfold Zd4
  refine run Z4o rfl ?_
  try simp only [itb] at h
  try simp only [itf, List.getElem?_eq_some_iff, kk] at h
  rcases h with ⟨q1, h⟩ | ⟨q1, h⟩
  all_goals (refine Eq.trans ?_ h; clear h; simp +decide [*, kk, Zt1, Zg7])
theorem Z7v (a : Zb) (a1 : Int) (r : AV × List Blk) (h : (∃ (v1_0 : Bool), Zg6 a a1 = some (Bo v1_0, []) ∧ (if v1_0 = true then (∃ (v2_0 : Bool), Zd4 a a1 = some (Bo v2_0, []) ∧ (some (Bo v2_0, []) = some r)) else (some (Bo false, []) = some r)))) : Zg8 a a1 = some r := by
  unfold Zg8
  refine run Z4p rfl ?_
  simp only [Zg6, Zd4, Zb.c_def, mpl, dfs] at h
  try simp only [itb] at h
  try simp only [itf, List.getElem?_eq_some_iff, kk] at h
  rcases h with ⟨v1_0, q1, (⟨q2, v2_0, q3, h⟩ | ⟨q2, h⟩)⟩
  all_goals (refine Eq.trans ?_ h; clear h; simp +decide [*, kk, Zt2])
theorem Zxo (x : Zd) (r : AV × List Blk) (h : (some (.bsl 1 5, [.box (x.c.map .t), .box [.ptr 0 0, .ptr 0 6, .ptr 0 12, .ptr 0 18, .ptr 0 24]]) = some r)) : Zd5 x = some r := by
  unfold Zd5
  refine runM Z4q rfl ?_
  refine Eq.trans ?_ h; clear h; simp +decide [*, kk, Zt3]
theorem Z7w (x : Zh) (r : AV × List Blk) (h : (some (.bsl 1 5, [.box (x.c.map .t), .box [.ptr 0 0, .ptr 0 1, .ptr 0 2, .ptr 0 3, .ptr 0 4]]) = some r)) : Zjv x = some r := by
  unfold Zjv
  refine runM Z4r rfl ?_
  refine Eq.trans ?_ h; clear h; simp +decide [*, kk, Zt4]
theorem Zi1 (o : Zh) (x : Int) (x1 : Int) (r : AV × List Blk) (h : (if x1 < x then (if x1 = 0 then (∃ (v1_0 : Bool), Zu o.Fixed (-99) 99 = some (Bo v1_0, []) ∧ (if v1_0 = true then (Zcn o x (w (x1 + 1)) = some r) else (some (Bo false, []) = some r))) else (if x1 = 1 then (∃ (v2_0 : Bool), Zu o.Zi (-99) 99 = some (Bo v2_0, []) ∧ (if v2_0 = true then (Zcn o x (w (x1 + 1)) = some r) else (some (Bo false, []) = some r))) else (if x1 = 2 then (∃ (v3_0 : Bool), Zu o.Zj (-99) 99 = some (Bo v3_0, []) ∧ (if v3_0 = true then (Zcn o x (w (x1 + 1)) = some r) else (some (Bo false, []) = some r))) else (if x1 = 3 then (∃ (v4_0 : Bool), Zu o.Zl (-99) 99 = some (Bo v4_0, []) ∧ (if v4_0 = true then (Zcn o x (w (x1 + 1)) = some r) else (some (Bo false, []) = some r))) else (if x1 = 4 then (∃ (v5_0 : Bool), Zu o.Zk (-99) 99 = some (Bo v5_0, []) ∧ (if v5_0 = true then (Zcn o x (w (x1 + 1)) = some r) else (some (Bo false, []) = some r))) else False))))) else (Zep o o.Steps (o.Steps.length : Int) 0 = some r))) : Zcn o x x1 = some r := by
  unfold Zcn
  rw [EvL_eq Zom.eq_1]
  by_cases q1 : x1 < x
  · rw [if_pos q1] at h
    by_cases q2 : x1 = 0
    · rw [if_pos q2] at h
      subst q2
      obtain ⟨v1_0, q3, h⟩ := h
      unfold Zu at q3
      try simp at q3
      by_cases q4 : v1_0 = true
      · rw [if_pos q4] at h
        refine Eq.trans ?_ h
        clear h
        simp +decide [*, Zcn]
      · rw [if_neg q4] at h
        refine Eq.trans ?_ h
        clear h
        simp +decide [*]
    · rw [if_neg q2] at h
      replace q2 := eq_false q2
      by_cases q5 : x1 = 1
      · rw [if_pos q5] at h
        subst q5
        obtain ⟨v2_0, q6, h⟩ := h
        unfold Zu at q6
        try simp at q6
        by_cases q7 : v2_0 = true
        · rw [if_pos q7] at h
          refine Eq.trans ?_ h
          clear h
          simp +decide [*, Zcn]
        · rw [if_neg q7] at h
          refine Eq.trans ?_ h
          clear h
          simp +decide [*]
      · rw [if_neg q5] at h
        replace q5 := eq_false q5
        by_cases q8 : x1 = 2
        · rw [if_pos q8] at h
          subst q8
          obtain ⟨v3_0, q9, h⟩ := h
          unfold Zu at q9
          try simp at q9
          by_cases q10 : v3_0 = true
          · rw [if_pos q10] at h
            refine Eq.trans ?_ h
            clear h
            simp +decide [*, Zcn]
          · rw [if_neg q10] at h
            refine Eq.trans ?_ h
            clear h
            simp +decide [*]
        · rw [if_neg q8] at h
          replace q8 := eq_false q8
          by_cases q11 : x1 = 3
          · rw [if_pos q11] at h
            subst q11
            obtain ⟨v4_0, q12, h⟩ := h
            unfold Zu at q12
            try simp at q12
            by_cases q13 : v4_0 = true
            · rw [if_pos q13] at h
              refine Eq.trans ?_ h
              clear h
              simp +decide [*, Zcn]
            · rw [if_neg q13] at h
              refine Eq.trans ?_ h
              clear h
              simp +decide [*]
          · rw [if_neg q11] at h
            replace q11 := eq_false q11
            by_cases q14 : x1 = 4
            · rw [if_pos q14] at h
              subst q14
              obtain ⟨v5_0, q15, h⟩ := h
              unfold Zu at q15
              try simp at q15
              by_cases q16 : v5_0 = true
              · rw [if_pos q16] at h
                refine Eq.trans ?_ h
                clear h
                simp +decide [*, Zcn]
              · rw [if_neg q16] at h
                refine Eq.trans ?_ h
                clear h
                simp +decide [*]
            · rw [if_neg q14] at h
              replace q14 := eq_false q14
              cases h
  · rw [if_neg q1] at h
    refine Eq.trans ?_ h
    clear h
    simp +decide [*, Zep, Zop]
theorem Zxp (o : Zh) (x : List Zg) (x1 : Int) (x2 : Int) (r : AV × List Blk) (h : (if x2 < x1 then (0 ≤ x2 ∧ (∃ (e1 : Zg), x[x2.toNat]? = some e1 ∧ (∃ (v2_0 : Bool), Zu e1.Add (-99) 99 = some (Bo v2_0, []) ∧ (if v2_0 = true then (∃ (v3_0 : Bool), Zu e1.From 1 8192 = some (Bo v3_0, []) ∧ (if v3_0 = true then (if 0 < x2 then (0 ≤ (w (x2 - 1)) ∧ (∃ (e4 : Zg), o.Steps[(w (x2 - 1)).toNat]? = some e4 ∧ (if e1.From ≤ e4.From then (some (Bo false, []) = some r) else (Zep o x x1 (w (x2 + 1)) = some r)))) else (Zep o x x1 (w (x2 + 1)) = some r)) else (some (Bo false, []) = some r))) else (some (Bo false, []) = some r))))) else (some (Bo (decide ((o.Steps.length : Int) ≤ 4)), []) = some r))) : Zep o x x1 x2 = some r := by
  unfold Zep
  rw [EvL_eq Zon.eq_1]
  simp only [Zu, mpl, dfs] at h
  try simp only [itb] at h
  try simp only [itf, List.getElem?_eq_some_iff, kk] at h
  rcases h with ⟨q1, q2, e1, ⟨g3, q3⟩, v2_0, q4, (⟨q5, v3_0, q6, (⟨q7, (⟨q8, q9, e4, ⟨g10, q10⟩, (⟨q11, h⟩ | ⟨q11, h⟩)⟩ | ⟨q8, h⟩)⟩ | ⟨q7, h⟩)⟩ | ⟨q5, h⟩)⟩ | ⟨q1, h⟩
  all_goals (refine Eq.trans ?_ h; clear h; simp +decide [*, kk, Zep, Zoo])
theorem Z7x (a : Zh) (r : AV × List Blk) (h : (Zjv a = some (.bsl 1 5, [.box (a.c.map .t), .box [.ptr 0 0, .ptr 0 1, .ptr 0 2, .ptr 0 3, .ptr 0 4]]) ∧ (Zcn a 5 0 = some r))) : Zbj a = some r := by
  unfold Zbj
  refine run Z4s rfl ?_
  simp only [Zjv, Zh.c_def, mpl, dfs] at h
  rcases h with ⟨q1, h⟩
  all_goals (refine Eq.trans ?_ h; clear h; simp +decide [*, kk, Zt5, Zcn])
theorem Zxq (out : List (List Int)) (a : Int) (r : AV × List Blk) (h : (if a ≤ 7 then (Zeq out a 0 = some r) else (some (.own 0, [.arr 38 1 true (out.map isc)]) = some r))) : Zfk out a = some r := by
  unfold Zfk
  rw [EvL_eq Zjw.eq_1]
  try simp only [itb] at h
  try simp only [itf, List.getElem?_eq_some_iff, kk] at h
  rcases h with ⟨q1, h⟩ | ⟨q1, h⟩
  all_goals (refine Eq.trans ?_ h; clear h; simp +decide [*, kk, Zeq, Zjx])
theorem Zxr (out : List (List Int)) (a : Int) (b : Int) (r : AV × List Blk) (h : (if b ≤ 7 then (Zfl out a b 0 = some r) else (Zfk out (w (a + 1)) = some r))) : Zeq out a b = some r := by
  unfold Zeq
  rw [EvL_eq Zmb.eq_1]
  try simp only [itb] at h
  try simp only [itf, List.getElem?_eq_some_iff, kk] at h
  rcases h with ⟨q1, h⟩ | ⟨q1, h⟩
  all_goals (refine Eq.trans ?_ h; clear h; simp +decide [*, kk, Zfl, Zfk, Zmc])
theorem Zxs (out : List (List Int)) (a : Int) (b : Int) (c : Int) (r : AV × List Blk) (h : (if c ≤ 7 then (out.length + 1 ≤ 68719476736 ∧ (Zfl (out ++ [[a, b, c]]) a b (w (c + 1)) = some r)) else (Zeq out a (w (b + 1)) = some r))) : Zfl out a b c = some r := by
  unfold Zfl
  rw [EvL_eq Zoq.eq_1]
  try simp only [itb] at h
  try simp only [itf, List.getElem?_eq_some_iff, kk] at h
  rcases h with ⟨q1, q2, h⟩ | ⟨q1, h⟩
  all_goals (refine Eq.trans ?_ h; clear h; simp +decide [*, kk, Zfl, Zeq, Zor])
theorem Z7y (r : AV × List Blk) (h : (Zfk ([] : List (List Int)) 0 = some r)) : Zcf = some r := by
  unfold Zcf
  refine run Z4t rfl ?_
  refine Eq.trans ?_ h; clear h; simp +decide [*, kk, Zt6, Zfk]
theorem Zxt (a : List Int) (r : AV × List Blk) (h : (a.length ≤ 68719476736 ∧ (some (.own 0, [.arr 3 1 true (a.map ic)]) = some r))) : Zg9 a = some r := by
  unfold Zg9
  refine run Z4u rfl ?_
  rcases h with ⟨q1, h⟩
  all_goals (refine Eq.trans ?_ h; clear h; simp +decide [*, kk, Zt7])
theorem Z7z (a : Int) (r : AV × List Blk) (h : (∃ (v1_0 : Bool), Zu a 0 7 = some (Bo v1_0, []) ∧ (if v1_0 = true then (if a = 0 then (some (I 0, []) = some r) else (¬ (w (2 * (w (a - 1)))) < 0 ∧ (some (I (shlI 1 (w (2 * (w (a - 1))))), []) = some r))) else (some (I (-1), []) = some r)))) : Zer a = some r := by
  unfold Zer
  refine run Z4v rfl ?_
  simp only [Zu, mpl, dfs] at h
  try simp only [itb] at h
  try simp only [itf, List.getElem?_eq_some_iff, kk] at h
  rcases h with ⟨v1_0, q1, (⟨q2, (⟨q3, h⟩ | ⟨q3, q4, h⟩)⟩ | ⟨q2, h⟩)⟩
  all_goals (refine Eq.trans ?_ h; clear h; simp +decide [*, kk, Zt8])
theorem Zxu (left : Int) (right : Int) (n : Int) (x : List Zg) (x1 : Int) (x2 : Int) (r : AV × List Blk) (h : (if x2 < x1 then (0 ≤ x2 ∧ (∃ (e1 : Zg), x[x2.toNat]? = some e1 ∧ (if e1.From ≤ (w (left + right)) then (Zfm left right (w (n + e1.Add)) x x1 (w (x2 + 1)) = some r) else (Zfm left right n x x1 (w (x2 + 1)) = some r)))) else (some (I n, []) = some r))) : Zfm left right n x x1 x2 = some r := by
  unfold Zfm
  rw [EvL_eq Zos.eq_1]
  try simp only [itb] at h
  try simp only [itf, List.getElem?_eq_some_iff, kk] at h
  rcases h with ⟨q1, q2, e1, ⟨g3, q3⟩, (⟨q4, h⟩ | ⟨q4, h⟩)⟩ | ⟨q1, h⟩
  all_goals (refine Eq.trans ?_ h; clear h; simp +decide [*, kk, Zfm, Zt9, Zot])
theorem Z70 (a : Zh) (a1 : Int) (a2 : Int) (a3 : Int) (r : AV × List Blk) (h : (Zfm a1 a2 (w ((w ((w ((w (a.Fixed + (w (a.Zi * a1)))) + (w (a.Zj * a2)))) + (w (a.Zl * a3)))) + (w ((w (a.Zk * a1)) * a2)))) a.Steps (a.Steps.length : Int) 0 = some r)) : Zha a a1 a2 a3 = some r := by
  unfold Zha
  refine run Z4w rfl ?_
  refine Eq.trans ?_ h; clear h; simp +decide [*, kk, Zua, Zfm]
theorem Z71 (a : Zh) (a1 : List Int) (r : AV × List Blk) (h : (∃ (e1 : Int), a1[0]? = some e1 ∧ (∃ (v2_0 : Int), Zer e1 = some (I v2_0, []) ∧ (∃ (e3 : Int), a1[1]? = some e3 ∧ (∃ (v4_0 : Int), Zer e3 = some (I v4_0, []) ∧ (∃ (e5 : Int), a1[2]? = some e5 ∧ (∃ (v6_0 : Int), Zer e5 = some (I v6_0, []) ∧ (∃ (v7_0 : Int), Zha a v2_0 v4_0 v6_0 = some (I v7_0, []) ∧ (some (I v7_0, []) = some r))))))))) : Zb7 a a1 = some r := by
  unfold Zb7
  refine run Z4x rfl ?_
  simp only [Zer, Zha, Zh.c_def, mpl, dfs] at h
  try simp only [itb] at h
  try simp only [itf, List.getElem?_eq_some_iff, kk] at h
  rcases h with ⟨e1, ⟨g1, q1⟩, v2_0, q2, e3, ⟨g3, q3⟩, v4_0, q4, e5, ⟨g5, q5⟩, v6_0, q6, v7_0, q7, h⟩
  all_goals (refine Eq.trans ?_ h; clear h; simp +decide [*, kk, Zub])
theorem Zxv (o : Zh) (x : List (List Int)) (x1 : Int) (x2 : Int) (r : AV × List Blk) (h : (if x2 < x1 then (0 ≤ x2 ∧ (∃ (e1 : List Int), x[x2.toNat]? = some e1 ∧ (Zco o x e1 x1 x2 (e1.length : Int) 0 = some r))) else (some (.tup [.t .nil, .t .nil, Bo false], []) = some r))) : Zd6 o x x1 x2 = some r := by
  unfold Zd6
  rw [EvL_eq Zmd.eq_1]
  try simp only [itb] at h
  try simp only [itf, List.getElem?_eq_some_iff, kk] at h
  rcases h with ⟨q1, q2, e1, ⟨g3, q3⟩, h⟩ | ⟨q1, h⟩
  all_goals (refine Eq.trans ?_ h; clear h; simp +decide [*, kk, Zco, Zme])
theorem Zrn (o : Zh) (x : List (List Int)) (t : List Int) (x1 : Int) (x2 : Int) (x3 : Int) (x4 : Int) (r : AV × List Blk) (h : (if x4 < x3 then (0 ≤ x4 ∧ (∃ (e1 : Int), t[x4.toNat]? = some e1 ∧ (if e1 = 7 then (Zco o x t x1 x2 x3 (w (x4 + 1)) = some r) else (∃ (v2_0 : List Int), Zg9 t = some (.own 0, [.arr 3 1 true (v2_0.map ic)]) ∧ (∃ (e3 : Int), v2_0[x4.toNat]? = some e3 ∧ (∃ (v4_0 : Int), Zb7 o (v2_0.set x4.toNat (w (e3 + 1))) = some (I v4_0, []) ∧ (∃ (v5_0 : Int), Zb7 o t = some (I v5_0, []) ∧ (if v4_0 < v5_0 then (some (.tup [L 1 (t.map ic), .own 0, Bo true], [.arr 3 1 true ((v2_0.set x4.toNat (w (e3 + 1))).map ic)]) = some r) else (Zco o x t x1 x2 x3 (w (x4 + 1)) = some r))))))))) else (Zd6 o x x1 (w (x2 + 1)) = some r))) : Zco o x t x1 x2 x3 x4 = some r := by
  unfold Zco
  rw [EvL_eq Zou.eq_1]
  simp only [Zg9, Zb7, Zh.c_def, mpl, dfs] at h
  try simp only [itb] at h
  try simp only [itf, List.getElem?_eq_some_iff, kk] at h
  rcases h with ⟨q1, q2, e1, ⟨g3, q3⟩, (⟨q4, h⟩ | ⟨q4, v2_0, q5, e3, ⟨g6, q6⟩, v4_0, q7, v5_0, q8, (⟨q9, h⟩ | ⟨q9, h⟩)⟩)⟩ | ⟨q1, h⟩
  all_goals (refine Eq.trans ?_ h; clear h; simp +decide [*, kk, Zco, Zuc, Zd6, Zov])
theorem Z72 (a : Zh) (r : AV × List Blk) (h : (∃ (v1_0 : Bool), Zbj a = some (Bo v1_0, []) ∧ (if v1_0 = true then (∃ (v2_0 : List (List Int)), Zcf = some (.own 0, [.arr 38 1 true (v2_0.map isc)]) ∧ (Zd6 a v2_0 (v2_0.length : Int) 0 = some r)) else (some (.tup [.t .nil, .t .nil, Bo false], []) = some r)))) : Zbf a = some r := by
  unfold Zbf
  refine run Z4y rfl ?_
  simp only [Zbj, Zcf, Zh.c_def, mpl, dfs] at h
  try simp only [itb] at h
  try simp only [itf, List.getElem?_eq_some_iff, kk] at h
  rcases h with ⟨v1_0, q1, (⟨q2, v2_0, q3, h⟩ | ⟨q2, h⟩)⟩
  all_goals (refine Eq.trans ?_ h; clear h; simp +decide [*, kk, Zud, Zd6])
end Go.Proofs.YtbapkgocloaaeaaGreat
/- part: G3 -/
namespace Go.Proofs.YtbapkgocloaaeaaGreat
open Go.AM
theorem Zi2 (x : Zd) (x1 : Int) (x2 : Int) (r : AV × List Blk) (h : (if x2 < x1 then (if x2 = 0 then (∃ (v1_0 : Bool), Zbj x.Scan = some (Bo v1_0, []) ∧ (if v1_0 = true then ((Zbf x.Scan = some (.tup [.t .nil, .t .nil, Bo false], []) ∧ (∃ (v3_0 : List (List Int)), Zcf = some (.own 0, [.arr 38 1 true (v3_0.map isc)]) ∧ (Zes x v3_0 (w (1 + x2)) x1 x2 (v3_0.length : Int) 0 = some r))) ∨ (∃ (v4_0 : List Int) (v4_1 : List Int), Zbf x.Scan = some (.tup [L 1 (v4_1.map ic), .own 0, Bo true], [.arr 3 1 true (v4_0.map ic)]) ∧ (some (.tup [I (w (1 + x2)), L 1 (v4_1.map ic), .own 0], [.arr 3 1 true (v4_0.map ic)]) = some r))) else (some (.tup [I (w (1 + x2)), .t .nil, .t .nil], []) = some r))) else (if x2 = 1 then (∃ (v5_0 : Bool), Zbj x.Sort_ = some (Bo v5_0, []) ∧ (if v5_0 = true then ((Zbf x.Sort_ = some (.tup [.t .nil, .t .nil, Bo false], []) ∧ (∃ (v7_0 : List (List Int)), Zcf = some (.own 0, [.arr 38 1 true (v7_0.map isc)]) ∧ (Zet x v7_0 (w (1 + x2)) x1 x2 (v7_0.length : Int) 0 = some r))) ∨ (∃ (v8_0 : List Int) (v8_1 : List Int), Zbf x.Sort_ = some (.tup [L 1 (v8_1.map ic), .own 0, Bo true], [.arr 3 1 true (v8_0.map ic)]) ∧ (some (.tup [I (w (1 + x2)), L 1 (v8_1.map ic), .own 0], [.arr 3 1 true (v8_0.map ic)]) = some r))) else (some (.tup [I (w (1 + x2)), .t .nil, .t .nil], []) = some r))) else (if x2 = 2 then (∃ (v9_0 : Bool), Zbj x.Hash = some (Bo v9_0, []) ∧ (if v9_0 = true then ((Zbf x.Hash = some (.tup [.t .nil, .t .nil, Bo false], []) ∧ (∃ (v11_0 : List (List Int)), Zcf = some (.own 0, [.arr 38 1 true (v11_0.map isc)]) ∧ (Zeu x v11_0 (w (1 + x2)) x1 x2 (v11_0.length : Int) 0 = some r))) ∨ (∃ (v12_0 : List Int) (v12_1 : List Int), Zbf x.Hash = some (.tup [L 1 (v12_1.map ic), .own 0, Bo true], [.arr 3 1 true (v12_0.map ic)]) ∧ (some (.tup [I (w (1 + x2)), L 1 (v12_1.map ic), .own 0], [.arr 3 1 true (v12_0.map ic)]) = some r))) else (some (.tup [I (w (1 + x2)), .t .nil, .t .nil], []) = some r))) else (if x2 = 3 then (∃ (v13_0 : Bool), Zbj x.Merge = some (Bo v13_0, []) ∧ (if v13_0 = true then ((Zbf x.Merge = some (.tup [.t .nil, .t .nil, Bo false], []) ∧ (∃ (v15_0 : List (List Int)), Zcf = some (.own 0, [.arr 38 1 true (v15_0.map isc)]) ∧ (Zev x v15_0 (w (1 + x2)) x1 x2 (v15_0.length : Int) 0 = some r))) ∨ (∃ (v16_0 : List Int) (v16_1 : List Int), Zbf x.Merge = some (.tup [L 1 (v16_1.map ic), .own 0, Bo true], [.arr 3 1 true (v16_0.map ic)]) ∧ (some (.tup [I (w (1 + x2)), L 1 (v16_1.map ic), .own 0], [.arr 3 1 true (v16_0.map ic)]) = some r))) else (some (.tup [I (w (1 + x2)), .t .nil, .t .nil], []) = some r))) else (if x2 = 4 then (∃ (v17_0 : Bool), Zbj x.Nested = some (Bo v17_0, []) ∧ (if v17_0 = true then ((Zbf x.Nested = some (.tup [.t .nil, .t .nil, Bo false], []) ∧ (∃ (v19_0 : List (List Int)), Zcf = some (.own 0, [.arr 38 1 true (v19_0.map isc)]) ∧ (Zew x v19_0 (w (1 + x2)) x1 x2 (v19_0.length : Int) 0 = some r))) ∨ (∃ (v20_0 : List Int) (v20_1 : List Int), Zbf x.Nested = some (.tup [L 1 (v20_1.map ic), .own 0, Bo true], [.arr 3 1 true (v20_0.map ic)]) ∧ (some (.tup [I (w (1 + x2)), L 1 (v20_1.map ic), .own 0], [.arr 3 1 true (v20_0.map ic)]) = some r))) else (some (.tup [I (w (1 + x2)), .t .nil, .t .nil], []) = some r))) else False))))) else (some (.tup [I 0, .t .nil, .t .nil], []) = some r))) : Zy x x1 x2 = some r := by
  unfold Zy
  rw [EvL_eq Zfn.eq_1]
  by_cases q1 : x2 < x1
  · rw [if_pos q1] at h
    by_cases q2 : x2 = 0
    · rw [if_pos q2] at h
      subst q2
      obtain ⟨v1_0, q3, h⟩ := h
      unfold Zbj at q3
      try simp at q3
      by_cases q4 : v1_0 = true
      · rw [if_pos q4] at h
        rcases h with h | h
        ·
          obtain ⟨q5, h⟩ := h
          unfold Zbf at q5
          try simp at q5
          obtain ⟨v3_0, q6, h⟩ := h
          unfold Zcf at q6
          try simp at q6
          refine Eq.trans ?_ h
          clear h
          simp +decide [*, Zes]
        ·
          obtain ⟨v4_0, v4_1, q7, h⟩ := h
          unfold Zbf at q7
          try simp at q7
          refine Eq.trans ?_ h
          clear h
          simp +decide [*]
      · rw [if_neg q4] at h
        refine Eq.trans ?_ h
        clear h
        simp +decide [*]
    · rw [if_neg q2] at h
      replace q2 := eq_false q2
      by_cases q8 : x2 = 1
      · rw [if_pos q8] at h
        subst q8
        obtain ⟨v5_0, q9, h⟩ := h
        unfold Zbj at q9
        try simp at q9
        by_cases q10 : v5_0 = true
        · rw [if_pos q10] at h
          rcases h with h | h
          ·
            obtain ⟨q11, h⟩ := h
            unfold Zbf at q11
            try simp at q11
            obtain ⟨v7_0, q12, h⟩ := h
            unfold Zcf at q12
            try simp at q12
            refine Eq.trans ?_ h
            clear h
            simp +decide [*, Zet]
          ·
            obtain ⟨v8_0, v8_1, q13, h⟩ := h
            unfold Zbf at q13
            try simp at q13
            refine Eq.trans ?_ h
            clear h
            simp +decide [*]
        · rw [if_neg q10] at h
          refine Eq.trans ?_ h
          clear h
          simp +decide [*]
      · rw [if_neg q8] at h
        replace q8 := eq_false q8
        by_cases q14 : x2 = 2
        · rw [if_pos q14] at h
          subst q14
          obtain ⟨v9_0, q15, h⟩ := h
          unfold Zbj at q15
          try simp at q15
          by_cases q16 : v9_0 = true
          · rw [if_pos q16] at h
            rcases h with h | h
            ·
              obtain ⟨q17, h⟩ := h
              unfold Zbf at q17
              try simp at q17
              obtain ⟨v11_0, q18, h⟩ := h
              unfold Zcf at q18
              try simp at q18
              refine Eq.trans ?_ h
              clear h
              simp +decide [*, Zeu]
            ·
              obtain ⟨v12_0, v12_1, q19, h⟩ := h
              unfold Zbf at q19
              try simp at q19
              refine Eq.trans ?_ h
              clear h
              simp +decide [*]
          · rw [if_neg q16] at h
            refine Eq.trans ?_ h
            clear h
            simp +decide [*]
        · rw [if_neg q14] at h
          replace q14 := eq_false q14
          by_cases q20 : x2 = 3
          · rw [if_pos q20] at h
            subst q20
            obtain ⟨v13_0, q21, h⟩ := h
            unfold Zbj at q21
            try simp at q21
            by_cases q22 : v13_0 = true
            · rw [if_pos q22] at h
              rcases h with h | h
              ·
                obtain ⟨q23, h⟩ := h
                unfold Zbf at q23
                try simp at q23
                obtain ⟨v15_0, q24, h⟩ := h
                unfold Zcf at q24
                try simp at q24
                refine Eq.trans ?_ h
                clear h
                simp +decide [*, Zev]
              ·
                obtain ⟨v16_0, v16_1, q25, h⟩ := h
                unfold Zbf at q25
                try simp at q25
                refine Eq.trans ?_ h
                clear h
                simp +decide [*]
            · rw [if_neg q22] at h
              refine Eq.trans ?_ h
              clear h
              simp +decide [*]
          · rw [if_neg q20] at h
            replace q20 := eq_false q20
            by_cases q26 : x2 = 4
            · rw [if_pos q26] at h
              subst q26
              obtain ⟨v17_0, q27, h⟩ := h
              unfold Zbj at q27
              try simp at q27
              by_cases q28 : v17_0 = true
              · rw [if_pos q28] at h
                rcases h with h | h
                ·
                  obtain ⟨q29, h⟩ := h
                  unfold Zbf at q29
                  try simp at q29
                  obtain ⟨v19_0, q30, h⟩ := h
                  unfold Zcf at q30
                  try simp at q30
                  refine Eq.trans ?_ h
                  clear h
                  simp +decide [*, Zew]
                ·
                  obtain ⟨v20_0, v20_1, q31, h⟩ := h
                  unfold Zbf at q31
                  try simp at q31
                  refine Eq.trans ?_ h
                  clear h
                  simp +decide [*]
              · rw [if_neg q28] at h
                refine Eq.trans ?_ h
                clear h
                simp +decide [*]
            · rw [if_neg q26] at h
              replace q26 := eq_false q26
              cases h
  · rw [if_neg q1] at h
    refine Eq.trans ?_ h
    clear h
    simp +decide [*, Zfo]
theorem Zxw (o : Zd) (x : List (List Int)) (kind : Int) (x1 : Int) (x2 : Int) (x3 : Int) (x4 : Int) (r : AV × List Blk) (h : (if x4 < x3 then (0 ≤ x4 ∧ (∃ (e1 : List Int), x[x4.toNat]? = some e1 ∧ (∃ (v2_0 : Int), Zb7 o.Scan e1 = some (I v2_0, []) ∧ (if v2_0 < 1 then (some (.tup [I kind, L 1 (e1.map ic), .t .nil], []) = some r) else (Zes o x kind x1 x2 x3 (w (x4 + 1)) = some r))))) else (Zy o x1 (w (x2 + 1)) = some r))) : Zes o x kind x1 x2 x3 x4 = some r := by
  unfold Zes
  rw [EvL_eq Zdi.eq_1]
  simp only [Zb7, Zh.c_def, mpl, dfs] at h
  try simp only [itb] at h
  try simp only [itf, List.getElem?_eq_some_iff, kk] at h
  rcases h with ⟨q1, q2, e1, ⟨g3, q3⟩, v2_0, q4, (⟨q5, h⟩ | ⟨q5, h⟩)⟩ | ⟨q1, h⟩
  all_goals (refine Eq.trans ?_ h; clear h; simp +decide [*, kk, Zes, Zy, Zdj])
theorem Zxx (o : Zd) (x : List (List Int)) (kind : Int) (x1 : Int) (x2 : Int) (x3 : Int) (x4 : Int) (r : AV × List Blk) (h : (if x4 < x3 then (0 ≤ x4 ∧ (∃ (e1 : List Int), x[x4.toNat]? = some e1 ∧ (∃ (v2_0 : Int), Zb7 o.Sort_ e1 = some (I v2_0, []) ∧ (if v2_0 < 1 then (some (.tup [I kind, L 1 (e1.map ic), .t .nil], []) = some r) else (Zet o x kind x1 x2 x3 (w (x4 + 1)) = some r))))) else (Zy o x1 (w (x2 + 1)) = some r))) : Zet o x kind x1 x2 x3 x4 = some r := by
  unfold Zet
  rw [EvL_eq Zdi.eq_1]
  simp only [Zb7, Zh.c_def, mpl, dfs] at h
  try simp only [itb] at h
  try simp only [itf, List.getElem?_eq_some_iff, kk] at h
  rcases h with ⟨q1, q2, e1, ⟨g3, q3⟩, v2_0, q4, (⟨q5, h⟩ | ⟨q5, h⟩)⟩ | ⟨q1, h⟩
  all_goals (refine Eq.trans ?_ h; clear h; simp +decide [*, kk, Zet, Zy, Zdj])
theorem Zxy (o : Zd) (x : List (List Int)) (kind : Int) (x1 : Int) (x2 : Int) (x3 : Int) (x4 : Int) (r : AV × List Blk) (h : (if x4 < x3 then (0 ≤ x4 ∧ (∃ (e1 : List Int), x[x4.toNat]? = some e1 ∧ (∃ (v2_0 : Int), Zb7 o.Hash e1 = some (I v2_0, []) ∧ (if v2_0 < 1 then (some (.tup [I kind, L 1 (e1.map ic), .t .nil], []) = some r) else (Zeu o x kind x1 x2 x3 (w (x4 + 1)) = some r))))) else (Zy o x1 (w (x2 + 1)) = some r))) : Zeu o x kind x1 x2 x3 x4 = some r := by
  unfold Zeu
  rw [EvL_eq Zdi.eq_1]
  simp only [Zb7, Zh.c_def, mpl, dfs] at h
  try simp only [itb] at h
  try simp only [itf, List.getElem?_eq_some_iff, kk] at h
  rcases h with ⟨q1, q2, e1, ⟨g3, q3⟩, v2_0, q4, (⟨q5, h⟩ | ⟨q5, h⟩)⟩ | ⟨q1, h⟩
  all_goals (refine Eq.trans ?_ h; clear h; simp +decide [*, kk, Zeu, Zy, Zdj])
theorem Zxz (o : Zd) (x : List (List Int)) (kind : Int) (x1 : Int) (x2 : Int) (x3 : Int) (x4 : Int) (r : AV × List Blk) (h : (if x4 < x3 then (0 ≤ x4 ∧ (∃ (e1 : List Int), x[x4.toNat]? = some e1 ∧ (∃ (v2_0 : Int), Zb7 o.Merge e1 = some (I v2_0, []) ∧ (if v2_0 < 1 then (some (.tup [I kind, L 1 (e1.map ic), .t .nil], []) = some r) else (Zev o x kind x1 x2 x3 (w (x4 + 1)) = some r))))) else (Zy o x1 (w (x2 + 1)) = some r))) : Zev o x kind x1 x2 x3 x4 = some r := by
  unfold Zev
  rw [EvL_eq Zdi.eq_1]
  simp only [Zb7, Zh.c_def, mpl, dfs] at h
  try simp only [itb] at h
  try simp only [itf, List.getElem?_eq_some_iff, kk] at h
  rcases h with ⟨q1, q2, e1, ⟨g3, q3⟩, v2_0, q4, (⟨q5, h⟩ | ⟨q5, h⟩)⟩ | ⟨q1, h⟩
  all_goals (refine Eq.trans ?_ h; clear h; simp +decide [*, kk, Zev, Zy, Zdj])
theorem Zx0 (o : Zd) (x : List (List Int)) (kind : Int) (x1 : Int) (x2 : Int) (x3 : Int) (x4 : Int) (r : AV × List Blk) (h : (if x4 < x3 then (0 ≤ x4 ∧ (∃ (e1 : List Int), x[x4.toNat]? = some e1 ∧ (∃ (v2_0 : Int), Zb7 o.Nested e1 = some (I v2_0, []) ∧ (if v2_0 < 1 then (some (.tup [I kind, L 1 (e1.map ic), .t .nil], []) = some r) else (Zew o x kind x1 x2 x3 (w (x4 + 1)) = some r))))) else (Zy o x1 (w (x2 + 1)) = some r))) : Zew o x kind x1 x2 x3 x4 = some r := by
  unfold Zew
  rw [EvL_eq Zdi.eq_1]
  simp only [Zb7, Zh.c_def, mpl, dfs] at h
  try simp only [itb] at h
  try simp only [itf, List.getElem?_eq_some_iff, kk] at h
  rcases h with ⟨q1, q2, e1, ⟨g3, q3⟩, v2_0, q4, (⟨q5, h⟩ | ⟨q5, h⟩)⟩ | ⟨q1, h⟩
  all_goals (refine Eq.trans ?_ h; clear h; simp +decide [*, kk, Zew, Zy, Zdj])
theorem Z73 (a : Zd) (r : AV × List Blk) (h : (Zd5 a = some (.bsl 1 5, [.box (a.c.map .t), .box [.ptr 0 0, .ptr 0 6, .ptr 0 12, .ptr 0 18, .ptr 0 24]]) ∧ (Zy a 5 0 = some r))) : Zhb a = some r := by
  unfold Zhb
  refine run Z4z rfl ?_
  simp only [Zd5, Zd.c_def, Zh.c_def, mpl, dfs] at h
  rcases h with ⟨q1, h⟩
  all_goals (refine Eq.trans ?_ h; clear h; simp +decide [*, kk, Zue, Zy])
theorem Z74 (a : Zd) (r : AV × List Blk) (h : ((∃ (v1_0 : List Int) (v1_1 : Int) (v1_2 : List Int), Zhb a = some (.tup [I v1_1, L 1 (v1_2.map ic), .own 0], [.arr 3 1 true (v1_0.map ic)]) ∧ (some (Bo (decide (v1_1 = 0)), []) = some r)) ∨ (∃ (v2_0 : Int), Zhb a = some (.tup [I v2_0, .t .nil, .t .nil], []) ∧ (some (Bo (decide (v2_0 = 0)), []) = some r)) ∨ (∃ (v3_0 : Int) (v3_1 : List Int), Zhb a = some (.tup [I v3_0, L 1 (v3_1.map ic), .t .nil], []) ∧ (some (Bo (decide (v3_0 = 0)), []) = some r)))) : Zhc a = some r := by
  unfold Zhc
  refine run Z40 rfl ?_
  simp only [Zhb, Zd.c_def, Zh.c_def, mpl, dfs] at h
  rcases h with ⟨v1_0, v1_1, v1_2, q2, h⟩ | ⟨v2_0, q3, h⟩ | ⟨v3_0, v3_1, q4, h⟩
  all_goals (refine Eq.trans ?_ h; clear h; simp +decide [*, kk, Zuf])
theorem Z75 (a : Zd) (a1 : Zb) (a2 : Region) (r : AV × List Blk) (h : (∃ (v1_0 : Bool), Zjt a1 a2 = some (Bo v1_0, []) ∧ (if v1_0 = true then (∃ (v2_0 : Int), Zbz a1 = some (I v2_0, []) ∧ (∃ (v3_0 : Bool), Zg8 a1 v2_0 = some (Bo v3_0, []) ∧ (if v3_0 = true then (∃ (v4_0 : Bool), Zhc a = some (Bo v4_0, []) ∧ (some (Bo v4_0, []) = some r)) else (some (Bo false, []) = some r)))) else (some (Bo false, []) = some r)))) : Zij a a1 a2 = some r := by
  unfold Zij
  refine run Z41 rfl ?_
  simp only [Zjt, Zbz, Zg8, Zhc, Box.c_def, Zd.c_def, Zh.c_def, Plan.c_def, Zb.c_def, Region.c_def, mpl, dfs] at h
  try simp only [itb] at h
  try simp only [itf, List.getElem?_eq_some_iff, kk] at h
  rcases h with ⟨v1_0, q1, (⟨q2, v2_0, q3, v3_0, q4, (⟨q5, v4_0, q6, h⟩ | ⟨q5, h⟩)⟩ | ⟨q2, h⟩)⟩
  all_goals (refine Eq.trans ?_ h; clear h; simp +decide [*, kk, Zug])
theorem Zro (out : List Int) (location : List Int) (x : List Int) (x1 : Int) (x2 : Int) (r : AV × List Blk) (h : (if x2 < x1 then (0 ≤ x2 ∧ (∃ (e1 : Int), x[x2.toNat]? = some e1 ∧ (∃ (v2_0 : Int), Zer e1 = some (I v2_0, []) ∧ (out.length + 1 ≤ 68719476736 ∧ (Zey (out ++ [v2_0]) location x x1 (w (x2 + 1)) = some r))))) else (∃ (v3_0 : Bool), Zfh location = some (Bo v3_0, []) ∧ (if v3_0 = true then (some (.own 0, [.arr 3 1 true (out.map ic)]) = some r) else (some (.t .nil, []) = some r))))) : Zey out location x x1 x2 = some r := by
  unfold Zey
  rw [EvL_eq Zow.eq_1]
  simp only [Zer, Zfh, mpl, dfs] at h
  try simp only [itb] at h
  try simp only [itf, List.getElem?_eq_some_iff, kk] at h
  rcases h with ⟨q1, q2, e1, ⟨g3, q3⟩, v2_0, q4, q5, h⟩ | ⟨q1, v3_0, q6, (⟨q7, h⟩ | ⟨q7, h⟩)⟩
  all_goals (refine Eq.trans ?_ h; clear h; simp +decide [*, kk, Zey, Zox])
theorem Zx1 (a : List Int) (r : AV × List Blk) (h : (Zey ([] : List Int) a a (a.length : Int) 0 = some r)) : Zex a = some r := by
  unfold Zex
  refine run Z42 rfl ?_
  refine Eq.trans ?_ h; clear h; simp +decide [*, kk, Zuh, Zey]
theorem Zx2 (q : Zb) (sizes : List Int) (x : List Int) (x1 : Int) (x2 : Int) (r : AV × List Blk) (h : (if x2 < x1 then (0 ≤ x2 ∧ (∃ (e1 : Int), x[x2.toNat]? = some e1 ∧ (∃ (v2_0 : Bool), Zu e1 0 4096 = some (Bo v2_0, []) ∧ (if v2_0 = true then (Zhe q sizes x x1 (w (x2 + 1)) = some r) else (some (Bo false, []) = some r))))) else (∃ (v3_0 : Bool), Zcv q = some (Bo v3_0, []) ∧ (if v3_0 = true then (∃ (v4_0 : Int), Zbz q = some (I v4_0, []) ∧ (some (Bo (decide ((sizes.length : Int) = (w (v4_0 + 1)))), []) = some r)) else (some (Bo false, []) = some r))))) : Zhe q sizes x x1 x2 = some r := by
  unfold Zhe
  rw [EvL_eq Zoy.eq_1]
  simp only [Zu, Zcv, Zbz, Zb.c_def, mpl, dfs] at h
  try simp only [itb] at h
  try simp only [itf, List.getElem?_eq_some_iff, kk] at h
  rcases h with ⟨q1, q2, e1, ⟨g3, q3⟩, v2_0, q4, (⟨q5, h⟩ | ⟨q5, h⟩)⟩ | ⟨q1, v3_0, q6, (⟨q7, v4_0, q8, h⟩ | ⟨q7, h⟩)⟩
  all_goals (refine Eq.trans ?_ h; clear h; simp +decide [*, kk, Zhe, Zoz])
theorem Z76 (a : Zb) (a1 : List Int) (r : AV × List Blk) (h : (Zhe a a1 a1 (a1.length : Int) 0 = some r)) : Zhd a a1 = some r := by
  unfold Zhd
  refine run Z43 rfl ?_
  refine Eq.trans ?_ h; clear h; simp +decide [*, kk, Zui, Zhe]
theorem Z77 (a : Zh) (a1 : Int) (a2 : Int) (a3 : Int) (r : AV × List Blk) (h : (∃ (v1_0 : Bool), Zbj a = some (Bo v1_0, []) ∧ (if v1_0 = true then (∃ (v2_0 : Bool), Zu a1 0 4096 = some (Bo v2_0, []) ∧ (if v2_0 = true then (∃ (v3_0 : Bool), Zu a2 0 4096 = some (Bo v3_0, []) ∧ (if v3_0 = true then (∃ (v4_0 : Bool), Zu a3 0 4096 = some (Bo v4_0, []) ∧ (if v4_0 = true then (∃ (v5_0 : Int), Zha a a1 a2 a3 = some (I v5_0, []) ∧ (some (I v5_0, []) = some r)) else (some (I 0, []) = some r))) else (some (I 0, []) = some r))) else (some (I 0, []) = some r))) else (some (I 0, []) = some r)))) : Zbh a a1 a2 a3 = some r := by
  unfold Zbh
  refine run Z44 rfl ?_
  simp only [Zbj, Zu, Zha, Zh.c_def, mpl, dfs] at h
  try simp only [itb] at h
  try simp only [itf, List.getElem?_eq_some_iff, kk] at h
  rcases h with ⟨v1_0, q1, (⟨q2, v2_0, q3, (⟨q4, v3_0, q5, (⟨q6, v4_0, q7, (⟨q8, v5_0, q9, h⟩ | ⟨q8, h⟩)⟩ | ⟨q6, h⟩)⟩ | ⟨q4, h⟩)⟩ | ⟨q2, h⟩)⟩
  all_goals (refine Eq.trans ?_ h; clear h; simp +decide [*, kk, Zuj])
end Go.Proofs.YtbapkgocloaaeaaGreat
