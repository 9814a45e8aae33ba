/-
  Parts of the proofs for this seat: K FA MP MQ MR.
-/
import Derived.Test.YtgnfoghkbpkgjaaGreatP6
import Derived.Test.YtgnfoghkbpkgjaaGreatP7
set_option linter.unusedSimpArgs false
set_option linter.unusedVariables false
set_option maxRecDepth 100000
set_option maxHeartbeats 4000000
namespace Go.Proofs.YtgnfoghkbpkgjaaGreat
open Go.AM
noncomputable section
def Zdb:MFun:=⟨6,175,[.tmp 12],.r [.bx 6 0,.bx 7 1,.bx 8 2,.bx 9 3,.o 12 (.mov (.q false))] [4,5,6,7,8,9] (.r [.mk' 13 1048576] [4,5,6,7,8,9,13] (.r [.ln 27 30 6,.m 28 13,.cl 29 11 [27,28],.m 13 29] [4,5,6,7,8,9,13] (.wc [.m 30 13,.bk 31 .lss 30 0] [4,5,6,7,8,9,13,31] 31 (.r [.o 12 (.mov (.q true))] [12] .ret) (.r [.ln 32 1 7,.m 33 13,.cl 34 28 [32,33],.m 13 34] [4,5,6,7,8,9,13] (.wc [.m 35 13,.bk 36 .lss 35 0] [4,5,6,7,8,9,13,36] 36 (.r [.o 12 (.mov (.q true))] [12] .ret) (.r [.ln 37 2 8,.m 38 13,.cl 39 12 [37,38],.m 13 39] [4,5,6,7,8,9,13] (.wc [.m 40 13,.bk 41 .lss 40 0] [4,5,6,7,8,9,13,41] 41 (.r [.o 12 (.mov (.q true))] [12] .ret) (.r [.ln 42 1 9,.m 43 13,.cl 44 55 [42,43],.m 13 44] [4,5,6,7,8,9,13] (.wc [.m 45 13,.bk 46 .lss 45 0] [4,5,6,7,8,9,46] 46 (.r [.o 12 (.mov (.q true))] [12] .ret) (.seq (.drw [.ln 48 30 6,.xl 49 15 [48],.ln 50 1 7,.xl 51 30 [50],.ln 52 2 8,.xl 53 16 [52],.ln 54 1 9,.xl 55 57 [54],.m 56 4,.m 57 5,.cl 58 56 [49,51,53,55,56,57],.m 47 58,.o 59 (.ext (.s 47) 0),.o 60 (.ext (.s 47) 1),.o 14 (.alloc [.t (.bool false),.t .z,.t .z,.t .nil,.t .nil,.t .nil]),.st 6 14 59,.m 15 60] [[],[0],[],[2,1],[],[4,3],[],[6,5],[],[],[1,3,5,7,8,9,7],[10],[11],[11],[],[14,12,10,0,1,2,3,4,5,6,7,8,9,10,11,12,14],[13,15,0,1,2,3,4,5,6,7,8,9,10,11,12,13,14,15]] [4,5,6,7,8,9,14,15]) (.r [.ln 61 30 6,.xl 62 15 [61],.o 16 (.alloc [.t .z,.t .z,.t .z,.t .z,.t .z,.t .nil,.t .z,.t .z,.t .z,.t .z,.t .z,.t .nil,.t .z,.t .z,.t .z,.t .z,.t .z,.t .nil,.t .z,.t .z,.t .z,.t .z,.t .z,.t .nil,.t .z,.t .z,.t .z,.t .z,.t .z,.t .nil]),.st 30 16 62] [4,5,6,7,8,9,14,15,16] (.r [.ln 63 1 7,.xl 64 30 [63],.o 17 (.alloc [.t .nil]),.st 1 17 64] [4,5,6,7,8,9,14,15,16,17] (.r [.ln 65 2 8,.xl 66 16 [65],.o 18 (.alloc [.t .z,.t .nil]),.st 2 18 66] [4,5,6,7,8,9,14,15,16,17,18] (.r [.ln 67 1 9,.xl 68 57 [67],.o 19 (.alloc [.t .nil]),.st 1 19 68] [4,5,6,7,8,9,14,15,16,17,18,19] (.r [.ln 70 30 16,.ln 71 1 17,.ln 72 2 18,.ln 73 1 19,.m 74 4,.m 75 5,.xl 76 58 [70,71,72,73,74,75],.m 69 76,.o 77 (.ext (.s 69) 0),.o 78 (.ext (.s 69) 1),.o 20 (.alloc [.t (.bool false),.t .z,.t .z,.t .nil,.t .nil,.t .nil]),.st 6 20 77,.m 21 78] [4,5,6,7,8,9,14,15,16,17,18,19,20,21] (.wc [.ln 79 6 20,.ln 80 6 14,.cl 81 59 [79,80],.o 82 (.un .not (.s 81)),.m 83 82,.h 84 83 (.mov (.s 21)),.h 85 83 (.mov (.s 15)),.h 86 83 (.beq true (.s 84) (.s 85)),.o 87 (.pick (.s 83) (.q true) (.s 86))] [4,5,6,7,8,9,14,15,16,17,18,19,20,21,87] 87 (.r [.o 12 (.mov (.q false))] [12] .ret) (.seq (.seq (.drw [.ln 88 30 16,.ln 89 30 6,.xl 90 15 [89],.cl 91 20 [88,90],.o 92 (.un .not (.s 91))] [[],[],[1],[0,2,2],[3]] [4,5,6,7,8,9,14,15,16,17,18,19,20,21,92]) (.cond (.s 92) (.r [.o 12 (.mov (.q false))] [12] .ret) .skip)) (.seq (.seq (.drw [.ln 93 1 17,.ln 94 1 7,.xl 95 30 [94],.cl 96 32 [93,95],.o 97 (.un .not (.s 96))] [[],[],[1],[0,2,2],[3]] [4,5,6,7,8,9,14,15,16,17,18,19,20,21,97]) (.cond (.s 97) (.r [.o 12 (.mov (.q false))] [12] .ret) .skip)) (.seq (.seq (.drw [.ln 98 2 18,.ln 99 2 8,.xl 100 16 [99],.cl 101 21 [98,100],.o 102 (.un .not (.s 101))] [[],[],[1],[0,2,2],[3]] [4,5,6,7,8,9,14,15,16,17,18,19,20,21,102]) (.cond (.s 102) (.r [.o 12 (.mov (.q false))] [12] .ret) .skip)) (.seq (.seq (.drw [.ln 103 1 19,.ln 104 1 9,.xl 105 57 [104],.cl 106 35 [103,105],.o 107 (.un .not (.s 106))] [[],[],[1],[0,2,2],[3]] [4,5,6,7,8,9,14,15,16,17,18,19,20,21,107]) (.cond (.s 107) (.r [.o 12 (.mov (.q false))] [12] .ret) .skip)) (.r [.mk' 22 1] [4,5,6,7,8,9,14,15,16,17,18,19,20,21,22] (.r [.ln 108 30 16,.m 109 22,.o 110 (.icall 23 [.s 108,.s 109]),.m 22 110] [4,5,6,7,8,9,14,15,17,18,19,20,21,22] (.r [.ln 111 1 17,.m 112 22,.o 113 (.icall 36 [.s 111,.s 112]),.m 22 113] [4,5,6,7,8,9,14,15,18,19,20,21,22] (.r [.ln 114 2 18,.m 115 22,.o 116 (.icall 24 [.s 114,.s 115]),.m 22 116] [4,5,6,7,8,9,14,15,19,20,21,22] (.r [.ln 117 1 19,.m 118 22,.o 119 (.icall 37 [.s 117,.s 118]),.m 22 119] [4,5,6,7,8,9,14,15,20,21,22] (.wc [.m 120 22,.bk 121 .lss 120 0,.m 122 121,.h 123 122 (.ln 6 20),.h 124 122 (.ln 6 14),.h 125 122 (.cl 59 [123,124]),.h 126 122 (.un .not (.s 125)),.o 127 (.pick (.s 122) (.q true) (.s 126)),.m 128 127,.h 129 128 (.mov (.s 21)),.h 130 128 (.mov (.s 15)),.h 131 128 (.beq true (.s 129) (.s 130)),.o 132 (.pick (.s 128) (.q true) (.s 131))] [4,5,6,7,8,9,14,15,20,132] 132 (.r [.o 12 (.mov (.q false))] [12] .ret) (.r [.mk' 23 1] [4,5,6,7,8,9,14,15,20,23] (.r [.ln 133 6 20,.m 134 23,.o 135 (.icall 60 [.s 133,.s 134]),.m 23 135] [4,5,6,7,8,9,14,15,20,23] (.r [.mk' 24 1] [4,5,6,7,8,9,14,15,20,23,24] (.r [.ln 136 6 20,.m 137 24,.cl 138 61 [136,137],.m 24 138] [4,5,6,7,8,9,14,15,20,23,24] (.wc [.m 139 24,.bk 140 .lss 139 0] [4,5,6,7,8,9,14,15,20,23,24,140] 140 (.r [.o 12 (.mov (.q false))] [12] .ret) (.wc [.m 141 24,.m 142 23,.b 143 .neq 141 142] [4,5,6,7,8,9,14,15,20,23,143] 143 (.r [.o 12 (.mov (.q false))] [12] .ret) (.seq (.drw [.ln 145 30 6,.xl 146 15 [145],.ln 147 1 7,.xl 148 30 [147],.ln 149 2 8,.xl 150 16 [149],.ln 151 1 9,.xl 152 57 [151],.m 153 4,.m 154 5,.xl 155 58 [146,148,150,152,153,154],.m 144 155,.o 156 (.ext (.s 144) 0),.o 157 (.ext (.s 144) 1),.o 25 (.alloc [.t (.bool false),.t .z,.t .z,.t .nil,.t .nil,.t .nil]),.st 6 25 156,.m 26 157] [[],[0],[],[2,1],[],[4,3],[],[6,5],[],[],[1,3,5,7,8,9,7],[10],[11],[11],[],[14,12,10,0,1,2,3,4,5,6,7,8,9,10,11,12,14],[13,15,0,1,2,3,4,5,6,7,8,9,10,11,12,13,14,15]] [14,15,20,23,25,26]) (.wc [.ln 158 6 25,.ln 159 6 14,.cl 160 59 [158,159],.o 161 (.un .not (.s 160)),.m 162 161,.h 163 162 (.mov (.s 26)),.h 164 162 (.mov (.s 15)),.h 165 162 (.beq true (.s 163) (.s 164)),.o 166 (.pick (.s 162) (.q true) (.s 165))] [20,23,166] 166 (.r [.o 12 (.mov (.q false))] [12] .ret) (.r [.mk' 24 1] [20,23,24] (.r [.ln 167 6 20,.m 168 24,.cl 169 61 [167,168],.m 24 169] [23,24] (.wc [.m 170 24,.bk 171 .lss 170 0] [23,24,171] 171 (.r [.o 12 (.mov (.q false))] [12] .ret) (.wc [.m 172 24,.m 173 23,.b 174 .neq 172 173] [174] 174 (.r [.o 12 (.mov (.q false))] [12] .ret) (.r [.o 12 (.mov (.q true))] [12] .ret)))))))))))))))))))))))))))))))))))))))⟩
theorem Zbo0:tbl 8=some Zdb:=Zc Tryz.func8 (by kernel_rfl) (by kernel_rfl)
def Z9z:MFun:=⟨2,36,[.tmp 4],.r [.bx 2 0,.mk' 4 0] [1,2] (.r [.fa 5 0 2,.ln 6 6 5,.m 7 1,.cl 8 74 [6,7],.m 1 8] [1,2] (.wc [.m 9 1,.bk 10 .lss 9 0] [1,2,10] 10 (.r [.mk' 4 (-1)] [4] .ret) (.r [.fa 11 6 2,.ln 12 6 11,.m 13 1,.cl 14 74 [12,13],.m 1 14] [1,2] (.wc [.m 15 1,.bk 16 .lss 15 0] [1,2,16] 16 (.r [.mk' 4 (-1)] [4] .ret) (.r [.fa 17 12 2,.ln 18 6 17,.m 19 1,.cl 20 74 [18,19],.m 1 20] [1,2] (.wc [.m 21 1,.bk 22 .lss 21 0] [1,2,22] 22 (.r [.mk' 4 (-1)] [4] .ret) (.r [.fa 23 18 2,.ln 24 6 23,.m 25 1,.cl 26 74 [24,25],.m 1 26] [1,2] (.wc [.m 27 1,.bk 28 .lss 27 0] [1,2,28] 28 (.r [.mk' 4 (-1)] [4] .ret) (.r [.fa 29 24 2,.ln 30 6 29,.m 31 1,.cl 32 74 [30,31],.m 1 32] [1] (.wc [.m 33 1,.bk 34 .lss 33 0] [1,34] 34 (.r [.mk' 4 (-1)] [4] .ret) (.r [.m 35 1,.m 4 35] [4] .ret)))))))))))⟩
theorem Zbo1:tbl 11=some Z9z:=Zc Tryz.func11 (by kernel_rfl) (by kernel_rfl)
def Z90:MFun:=⟨2,12,[.tmp 4],.r [.bx 2 0,.mk' 4 0] [1,2] (.r [.fa 5 1 2,.l 6 5,.m 7 1,.cl 8 75 [6,7],.m 1 8] [1] (.wc [.m 9 1,.bk 10 .lss 9 0] [1,10] 10 (.r [.mk' 4 (-1)] [4] .ret) (.r [.m 11 1,.m 4 11] [4] .ret)))⟩
theorem Zbo2:tbl 12=some Z90:=Zc Tryz.func12 (by kernel_rfl) (by kernel_rfl)
def Z91:MFun:=⟨1,25,[.cell 2 (some 30)],.r [.bx 1 0,.o 2 (.alloc [.t .z,.t .z,.t .z,.t .z,.t .z,.t .nil,.t .z,.t .z,.t .z,.t .z,.t .z,.t .nil,.t .z,.t .z,.t .z,.t .z,.t .z,.t .nil,.t .z,.t .z,.t .z,.t .z,.t .z,.t .nil,.t .z,.t .z,.t .z,.t .z,.t .z,.t .nil])] [1,2] (.r [.o 3 (.alloc [.t .z,.t .z,.t .z,.t .z,.t .z,.t .nil,.t .z,.t .z,.t .z,.t .z,.t .z,.t .nil,.t .z,.t .z,.t .z,.t .z,.t .z,.t .nil,.t .z,.t .z,.t .z,.t .z,.t .z,.t .nil,.t .z,.t .z,.t .z,.t .z,.t .z,.t .nil])] [1,2,3] (.r [.fa 4 0 1,.ln 5 6 4,.cl 6 89 [5],.fa 7 0 3,.st 6 7 6] [1,2,3] (.r [.fa 8 6 1,.ln 9 6 8,.cl 10 89 [9],.fa 11 6 3,.st 6 11 10] [1,2,3] (.r [.fa 12 12 1,.ln 13 6 12,.cl 14 89 [13],.fa 15 12 3,.st 6 15 14] [1,2,3] (.r [.fa 16 18 1,.ln 17 6 16,.cl 18 89 [17],.fa 19 18 3,.st 6 19 18] [1,2,3] (.r [.fa 20 24 1,.ln 21 6 20,.cl 22 89 [21],.fa 23 24 3,.st 6 23 22] [2,3] (.r [.ln 24 30 3,.st 30 2 24] [2] .ret)))))))⟩
theorem Zbo3:tbl 15=some Z91:=Zc Tryz.func15 (by kernel_rfl) (by kernel_rfl)
def Z92:MFun:=⟨1,12,[.cell 2 (some 2)],.r [.bx 1 0,.o 2 (.alloc [.t .z,.t .nil])] [1,2] (.r [.o 3 (.alloc [.t .z,.t .nil])] [1,2,3] (.r [.fa 4 0 1,.l 5 4,.fa 6 0 3,.st 1 6 5] [1,2,3] (.r [.fa 7 1 1,.l 8 7,.cl 9 90 [8],.fa 10 1 3,.st 1 10 9] [2,3] (.r [.ln 11 2 3,.st 2 2 11] [2] .ret))))⟩
theorem Zbo4:tbl 16=some Z92:=Zc Tryz.func16 (by kernel_rfl) (by kernel_rfl)
def Zne:MCode :=.we [.m 11 5,.m 12 0,.ll 13 12,.b 14 .lss 11 13] [0,1,5,14] 14 0 (.seq (.block 1 (.seq (.drw [.m 17 0,.m 18 5,.ia 19 1 17 18,.l 20 19,.m 21 1,.m 22 5,.ia 23 1 21 22,.l 24 23,.b 25 .neq 20 24] [[],[],[0,1],[2],[],[],[4,5],[6],[3,7]] [0,1,5,25]) (.cond (.s 25) (.r [.o 4 (.mov (.q false))] [4] .ret) .skip))) (.reg [.m 15 5,.bk 16 .add 15 1,.m 5 16] [0,1,5]))
def Zq0:MFun:=⟨2,26,[.tmp 4],.r [.o 4 (.mov (.q false))] [0,1] (.wc [.m 6 0,.ll 7 6,.m 8 1,.ll 9 8,.b 10 .neq 7 9] [0,1,10] 10 (.r [.o 4 (.mov (.q false))] [4] .ret) (.seq (.r [.mk' 5 0] [0,1,5] (.block 0 (.loop [0,1,5] Zne))) (.r [.o 4 (.mov (.q true))] [4] .ret)))⟩
theorem Z93:tbl 19=some Zq0:=Zc Tryz.func19 (by kernel_rfl) (by kernel_rfl)
def Z94:MFun:=⟨2,35,[.tmp 4],.r [.bx 2 0,.bx 3 1,.o 4 (.mov (.q false))] [2,3] (.wc [.fa 5 0 2,.ln 6 6 5,.fa 7 0 3,.ln 8 6 7,.cl 9 99 [6,8],.o 10 (.un .not (.s 9))] [2,3,10] 10 (.r [.o 4 (.mov (.q false))] [4] .ret) (.wc [.fa 11 6 2,.ln 12 6 11,.fa 13 6 3,.ln 14 6 13,.cl 15 99 [12,14],.o 16 (.un .not (.s 15))] [2,3,16] 16 (.r [.o 4 (.mov (.q false))] [4] .ret) (.wc [.fa 17 12 2,.ln 18 6 17,.fa 19 12 3,.ln 20 6 19,.cl 21 99 [18,20],.o 22 (.un .not (.s 21))] [2,3,22] 22 (.r [.o 4 (.mov (.q false))] [4] .ret) (.wc [.fa 23 18 2,.ln 24 6 23,.fa 25 18 3,.ln 26 6 25,.cl 27 99 [24,26],.o 28 (.un .not (.s 27))] [2,3,28] 28 (.r [.o 4 (.mov (.q false))] [4] .ret) (.wc [.fa 29 24 2,.ln 30 6 29,.fa 31 24 3,.ln 32 6 31,.cl 33 99 [30,32],.o 34 (.un .not (.s 33))] [34] 34 (.r [.o 4 (.mov (.q false))] [4] .ret) (.r [.o 4 (.mov (.q true))] [4] .ret))))))⟩
theorem Zbo5:tbl 20=some Z94:=Zc Tryz.func20 (by kernel_rfl) (by kernel_rfl)
def Z95:MFun:=⟨2,16,[.tmp 4],.r [.bx 2 0,.bx 3 1,.o 4 (.mov (.q false))] [2,3] (.wc [.fa 5 0 2,.l 6 5,.fa 7 0 3,.l 8 7,.b 9 .neq 6 8] [2,3,9] 9 (.r [.o 4 (.mov (.q false))] [4] .ret) (.wc [.fa 10 1 2,.l 11 10,.fa 12 1 3,.l 13 12,.cl 14 100 [11,13],.o 15 (.un .not (.s 14))] [15] 15 (.r [.o 4 (.mov (.q false))] [4] .ret) (.r [.o 4 (.mov (.q true))] [4] .ret)))⟩
theorem Zbo6:tbl 21=some Z95:=Zc Tryz.func21 (by kernel_rfl) (by kernel_rfl)
def Z96:MFun:=⟨2,26,[.tmp 4],.r [.bx 2 0,.mk' 4 0] [1,2] (.r [.fa 5 0 2,.ln 6 6 5,.m 7 1,.o 8 (.icall 103 [.s 6,.s 7]),.m 1 8] [1,2] (.r [.fa 9 6 2,.ln 10 6 9,.m 11 1,.o 12 (.icall 103 [.s 10,.s 11]),.m 1 12] [1,2] (.r [.fa 13 12 2,.ln 14 6 13,.m 15 1,.o 16 (.icall 103 [.s 14,.s 15]),.m 1 16] [1,2] (.r [.fa 17 18 2,.ln 18 6 17,.m 19 1,.o 20 (.icall 103 [.s 18,.s 19]),.m 1 20] [1,2] (.r [.fa 21 24 2,.ln 22 6 21,.m 23 1,.o 24 (.icall 103 [.s 22,.s 23]),.m 1 24] [1] (.r [.m 25 1,.m 4 25] [4] .ret))))))⟩
theorem Zbo7:tbl 23=some Z96:=Zc Tryz.func23 (by kernel_rfl) (by kernel_rfl)
def Z97:MFun:=⟨2,10,[.tmp 4],.r [.bx 2 0,.mk' 4 0] [1,2] (.r [.fa 5 1 2,.o 6 (.loadU false (.s 5)),.m 7 1,.o 8 (.scall 104 [.s 6,.s 7] (.s 5)),.m 1 8] [1] (.r [.m 9 1,.m 4 9] [4] .ret))⟩
theorem Zbo8:tbl 24=some Z97:=Zc Tryz.func24 (by kernel_rfl) (by kernel_rfl)
def Zka:MCode :=.we [.m 6 5,.m 7 0,.ll 8 7,.b 9 .lss 6 8] [0,1,5,9] 9 0 (.seq (.block 1 (.r [.m 12 0,.m 13 5,.m 14 1,.ia 15 1 12 13,.st 1 15 14] [0,1,5] (.reg [.m 16 1,.bk 17 .add 16 1,.m 1 17] [0,1,5]))) (.reg [.m 10 5,.bk 11 .add 10 1,.m 5 11] [0,1,5]))
def Zq1:MFun:=⟨2,19,[.tmp 4],.r [.mk' 4 0] [0,1] (.seq (.r [.mk' 5 0] [0,1,5] (.block 0 (.loop [0,1,5] Zka))) (.r [.m 18 1,.m 4 18] [4] .ret))⟩
theorem Zya:tbl 26=some Zq1:=Zc Tryz.func26 (by kernel_rfl) (by kernel_rfl)
def Znf:MCode :=.we [.m 6 5,.m 7 0,.ll 8 7,.b 9 .lss 6 8] [0,1,5,9] 9 0 (.seq (.block 1 (.wc [.m 12 0,.m 13 5,.ia 14 1 12 13,.l 15 14,.m 16 1,.b 17 .neq 15 16] [0,1,5,17] 17 (.r [.mk' 4 (-1)] [4] .ret) (.reg [.m 18 1,.bk 19 .add 18 1,.m 1 19] [0,1,5]))) (.reg [.m 10 5,.bk 11 .add 10 1,.m 5 11] [0,1,5]))
def Zyb:MFun:=⟨2,21,[.tmp 4],.r [.mk' 4 0] [0,1] (.seq (.r [.mk' 5 0] [0,1,5] (.block 0 (.loop [0,1,5] Znf))) (.r [.m 20 1,.m 4 20] [4] .ret))⟩
theorem Z98:tbl 27=some Zyb:=Zc Tryz.func27 (by kernel_rfl) (by kernel_rfl)
def Z99:MFun:=⟨2,12,[.tmp 4],.r [.bx 2 0,.mk' 4 0] [1,2] (.r [.fa 5 0 2,.l 6 5,.m 7 1,.cl 8 107 [6,7],.m 1 8] [1] (.wc [.m 9 1,.bk 10 .lss 9 0] [1,10] 10 (.r [.mk' 4 (-1)] [4] .ret) (.r [.m 11 1,.m 4 11] [4] .ret)))⟩
theorem Zbo9:tbl 28=some Z99:=Zc Tryz.func28 (by kernel_rfl) (by kernel_rfl)
def Zbaa:MFun:=⟨1,9,[.cell 2 (some 1)],.r [.bx 1 0,.o 2 (.alloc [.t .nil])] [1,2] (.r [.o 3 (.alloc [.t .nil])] [1,2,3] (.r [.fa 4 0 1,.l 5 4,.cl 6 111 [5],.fa 7 0 3,.st 1 7 6] [2,3] (.r [.ln 8 1 3,.st 1 2 8] [2] .ret)))⟩
theorem Zbpa:tbl 30=some Zbaa:=Zc Tryz.func30 (by kernel_rfl) (by kernel_rfl)
def Zbab:MFun:=⟨2,11,[.tmp 4],.r [.bx 2 0,.bx 3 1,.o 4 (.mov (.q false))] [2,3] (.wc [.fa 5 0 2,.l 6 5,.fa 7 0 3,.l 8 7,.cl 9 114 [6,8],.o 10 (.un .not (.s 9))] [10] 10 (.r [.o 4 (.mov (.q false))] [4] .ret) (.r [.o 4 (.mov (.q true))] [4] .ret))⟩
theorem Zbpb:tbl 32=some Zbab:=Zc Tryz.func32 (by kernel_rfl) (by kernel_rfl)
def Zbac:MFun:=⟨2,11,[.tmp 4],.r [.bx 2 0,.bx 3 1,.o 4 (.mov (.q false))] [2,3] (.wc [.fa 5 0 2,.l 6 5,.fa 7 0 3,.l 8 7,.cl 9 118 [6,8],.o 10 (.un .not (.s 9))] [10] 10 (.r [.o 4 (.mov (.q false))] [4] .ret) (.r [.o 4 (.mov (.q true))] [4] .ret))⟩
theorem Zbpc:tbl 35=some Zbac:=Zc Tryz.func35 (by kernel_rfl) (by kernel_rfl)
def Zbad:MFun:=⟨2,10,[.tmp 4],.r [.bx 2 0,.mk' 4 0] [1,2] (.r [.fa 5 0 2,.o 6 (.loadU false (.s 5)),.m 7 1,.o 8 (.scall 119 [.s 6,.s 7] (.s 5)),.m 1 8] [1] (.r [.m 9 1,.m 4 9] [4] .ret))⟩
theorem Zbpd:tbl 36=some Zbad:=Zc Tryz.func36 (by kernel_rfl) (by kernel_rfl)
def Zbae:MFun:=⟨2,10,[.tmp 4],.r [.bx 2 0,.mk' 4 0] [1,2] (.r [.fa 5 0 2,.o 6 (.loadU false (.s 5)),.m 7 1,.o 8 (.scall 120 [.s 6,.s 7] (.s 5)),.m 1 8] [1] (.r [.m 9 1,.m 4 9] [4] .ret))⟩
theorem Zbpe:tbl 37=some Zbae:=Zc Tryz.func37 (by kernel_rfl) (by kernel_rfl)
def Zbaf:MFun:=⟨2,12,[.tmp 4],.r [.bx 2 0,.mk' 4 0] [1,2] (.r [.fa 5 0 2,.l 6 5,.m 7 1,.cl 8 168 [6,7],.m 1 8] [1] (.wc [.m 9 1,.bk 10 .lss 9 0] [1,10] 10 (.r [.mk' 4 (-1)] [4] .ret) (.r [.m 11 1,.m 4 11] [4] .ret)))⟩
theorem Zbpf:tbl 55=some Zbaf:=Zc Tryz.func55 (by kernel_rfl) (by kernel_rfl)
def Zbag:MFun:=⟨1,9,[.cell 2 (some 1)],.r [.bx 1 0,.o 2 (.alloc [.t .nil])] [1,2] (.r [.o 3 (.alloc [.t .nil])] [1,2,3] (.r [.fa 4 0 1,.l 5 4,.cl 6 170 [5],.fa 7 0 3,.st 1 7 6] [2,3] (.r [.ln 8 1 3,.st 1 2 8] [2] .ret)))⟩
theorem Zbpg:tbl 57=some Zbag:=Zc Tryz.func57 (by kernel_rfl) (by kernel_rfl)
def Zbah:MFun:=⟨2,32,[.tmp 4],.r [.bx 2 0,.bx 3 1,.o 4 (.mov (.q false))] [2,3] (.wc [.fa 5 0 2,.l 6 5,.fa 7 0 3,.l 8 7,.o 9 (.beq true (.s 6) (.s 8))] [2,3,9] 9 (.r [.o 4 (.mov (.q false))] [4] .ret) (.wc [.fa 10 1 2,.l 11 10,.fa 12 1 3,.l 13 12,.b 14 .neq 11 13] [2,3,14] 14 (.r [.o 4 (.mov (.q false))] [4] .ret) (.wc [.fa 15 2 2,.l 16 15,.fa 17 2 3,.l 18 17,.b 19 .neq 16 18] [2,3,19] 19 (.r [.o 4 (.mov (.q false))] [4] .ret) (.wc [.fa 20 3 2,.l 21 20,.fa 22 3 3,.l 23 22,.cl 24 172 [21,23],.o 25 (.un .not (.s 24))] [2,3,25] 25 (.r [.o 4 (.mov (.q false))] [4] .ret) (.wc [.fa 26 4 2,.ln 27 2 26,.fa 28 4 3,.ln 29 2 28,.cl 30 173 [27,29],.o 31 (.un .not (.s 30))] [31] 31 (.r [.o 4 (.mov (.q false))] [4] .ret) (.r [.o 4 (.mov (.q true))] [4] .ret))))))⟩
theorem Zbph:tbl 59=some Zbah:=Zc Tryz.func59 (by kernel_rfl) (by kernel_rfl)
def Zng:MFun:=⟨2,14,[.tmp 4],.r [.bx 2 0,.mk' 4 0] [1,2] (.r [.fa 5 3 2,.o 6 (.loadU false (.s 5)),.m 7 1,.o 8 (.scall 174 [.s 6,.s 7] (.s 5)),.m 1 8] [1,2] (.r [.fa 9 4 2,.ln 10 2 9,.m 11 1,.o 12 (.icall 175 [.s 10,.s 11]),.m 1 12] [1] (.r [.m 13 1,.m 4 13] [4] .ret)))⟩
theorem Zq2:tbl 60=some Zng:=Zc Tryz.func60 (by kernel_rfl) (by kernel_rfl)
def Znh:MFun:=⟨2,18,[.tmp 4],.r [.bx 2 0,.mk' 4 0] [1,2] (.r [.fa 5 3 2,.l 6 5,.m 7 1,.cl 8 176 [6,7],.m 1 8] [1,2] (.wc [.m 9 1,.bk 10 .lss 9 0] [1,2,10] 10 (.r [.mk' 4 (-1)] [4] .ret) (.r [.fa 11 4 2,.ln 12 2 11,.m 13 1,.cl 14 177 [12,13],.m 1 14] [1] (.wc [.m 15 1,.bk 16 .lss 15 0] [1,16] 16 (.r [.mk' 4 (-1)] [4] .ret) (.r [.m 17 1,.m 4 17] [4] .ret)))))⟩
theorem Zq3:tbl 61=some Znh:=Zc Tryz.func61 (by kernel_rfl) (by kernel_rfl)
def Zbai:MFun:=⟨2,12,[.tmp 4],.r [.mk' 4 0] [0,1] (.r [.m 5 1,.m 6 0,.ll 7 6,.b 8 .sub 5 7,.m 1 8] [1] (.wc [.m 9 1,.bk 10 .lss 9 0] [1,10] 10 (.r [.mk' 4 (-1)] [4] .ret) (.r [.m 11 1,.m 4 11] [4] .ret)))⟩
theorem Zbpi:tbl 69=some Zbai:=Zc Tryz.func69 (by kernel_rfl) (by kernel_rfl)
def Zbaj:MFun:=⟨2,12,[.tmp 4],.r [.bx 2 0,.mk' 4 0] [1,2] (.r [.fa 5 5 2,.l 6 5,.m 7 1,.cl 8 192 [6,7],.m 1 8] [1] (.wc [.m 9 1,.bk 10 .lss 9 0] [1,10] 10 (.r [.mk' 4 (-1)] [4] .ret) (.r [.m 11 1,.m 4 11] [4] .ret)))⟩
theorem Zbpj:tbl 74=some Zbaj:=Zc Tryz.func74 (by kernel_rfl) (by kernel_rfl)
def Zhk:MCode :=.we [.m 12 5,.m 13 0,.ll 14 13,.b 15 .lss 12 14] [0,1,5,15] 15 0 (.seq (.block 1 (.r [.m 18 0,.m 19 5,.ia 20 2 18 19,.ln 21 2 20,.m 22 1,.cl 23 193 [21,22],.m 1 23] [0,1,5] (.r [.m 24 1,.bk 25 .lss 24 0] [0,1,5,25] (.cond (.s 25) (.r [.mk' 4 (-1)] [4] .ret) .skip)))) (.reg [.m 16 5,.bk 17 .add 16 1,.m 5 17] [0,1,5]))
def Zbak:MFun:=⟨2,27,[.tmp 4],.r [.mk' 4 0] [0,1] (.r [.m 6 1,.m 7 0,.ll 8 7,.b 9 .sub 6 8,.m 1 9] [0,1] (.wc [.m 10 1,.bk 11 .lss 10 0] [0,1,11] 11 (.r [.mk' 4 (-1)] [4] .ret) (.seq (.r [.mk' 5 0] [0,1,5] (.block 0 (.loop [0,1,5] Zhk))) (.r [.m 26 1,.m 4 26] [4] .ret))))⟩
theorem Zbpk:tbl 75=some Zbak:=Zc Tryz.func75 (by kernel_rfl) (by kernel_rfl)
def Zbal:MFun:=⟨2,12,[.tmp 4],.r [.mk' 4 0] [0,1] (.r [.m 5 1,.m 6 0,.ll 7 6,.b 8 .sub 5 7,.m 1 8] [1] (.wc [.m 9 1,.bk 10 .lss 9 0] [1,10] 10 (.r [.mk' 4 (-1)] [4] .ret) (.r [.m 11 1,.m 4 11] [4] .ret)))⟩
theorem Zbpl:tbl 76=some Zbal:=Zc Tryz.func76 (by kernel_rfl) (by kernel_rfl)
def Zhl:MCode :=.we [.m 12 5,.m 13 0,.ll 14 13,.b 15 .lss 12 14] [0,1,5,15] 15 0 (.seq (.block 1 (.r [.m 18 0,.m 19 5,.ia 20 1 18 19,.l 21 20,.m 22 1,.cl 23 76 [21,22],.m 1 23] [0,1,5] (.r [.m 24 1,.bk 25 .lss 24 0] [0,1,5,25] (.cond (.s 25) (.r [.mk' 4 (-1)] [4] .ret) .skip)))) (.reg [.m 16 5,.bk 17 .add 16 1,.m 5 17] [0,1,5]))
def Zbam:MFun:=⟨2,27,[.tmp 4],.r [.mk' 4 0] [0,1] (.r [.m 6 1,.m 7 0,.ll 8 7,.b 9 .sub 6 8,.m 1 9] [0,1] (.wc [.m 10 1,.bk 11 .lss 10 0] [0,1,11] 11 (.r [.mk' 4 (-1)] [4] .ret) (.seq (.r [.mk' 5 0] [0,1,5] (.block 0 (.loop [0,1,5] Zhl))) (.r [.m 26 1,.m 4 26] [4] .ret))))⟩
theorem Zbpm:tbl 78=some Zbam:=Zc Tryz.func78 (by kernel_rfl) (by kernel_rfl)
def Zban:MFun:=⟨1,24,[.cell 2 (some 6)],.r [.bx 1 0,.o 2 (.alloc [.t .z,.t .z,.t .z,.t .z,.t .z,.t .nil])] [1,2] (.r [.o 3 (.alloc [.t .z,.t .z,.t .z,.t .z,.t .z,.t .nil])] [1,2,3] (.r [.fa 4 0 1,.l 5 4,.fa 6 0 3,.st 1 6 5] [1,2,3] (.r [.fa 7 1 1,.l 8 7,.fa 9 1 3,.st 1 9 8] [1,2,3] (.r [.fa 10 2 1,.l 11 10,.fa 12 2 3,.st 1 12 11] [1,2,3] (.r [.fa 13 3 1,.l 14 13,.fa 15 3 3,.st 1 15 14] [1,2,3] (.r [.fa 16 4 1,.l 17 16,.fa 18 4 3,.st 1 18 17] [1,2,3] (.r [.fa 19 5 1,.l 20 19,.cl 21 209 [20],.fa 22 5 3,.st 1 22 21] [2,3] (.r [.ln 23 6 3,.st 6 2 23] [2] .ret))))))))⟩
theorem Zbpn:tbl 89=some Zban:=Zc Tryz.func89 (by kernel_rfl) (by kernel_rfl)
def Zq4:MCode :=.we [.m 8 4,.m 9 0,.ll 10 9,.b 11 .lss 8 10] [0,3,4,11] 11 0 (.seq (.block 1 (.reg [.m 14 3,.m 15 4,.m 16 0,.m 17 4,.ia 18 2 16 17,.ln 19 2 18,.cl 20 210 [19],.ia 21 2 14 15,.st 2 21 20] [0,3,4])) (.reg [.m 12 4,.bk 13 .add 12 1,.m 4 13] [0,3,4]))
def Zbao:MFun:=⟨1,23,[.tmp 2],.r [.o 2 (.mov (.c (.t .nil)))] [0] (.r [.m 5 0,.ll 6 5,.o 7 (.mkslice 264 2 40 [.str ⟨#[]⟩,.lst 1 []] (.s 6) (.s 6)),.m 3 7] [0,3] (.seq (.r [.mk' 4 0] [0,3,4] (.block 0 (.loop [0,3,4] Zq4))) (.r [.m 22 3,.m 2 22] [2] .ret)))⟩
theorem Zbpo:tbl 90=some Zbao:=Zc Tryz.func90 (by kernel_rfl) (by kernel_rfl)
def Zq5:MCode :=.we [.m 8 4,.m 9 0,.ll 10 9,.b 11 .lss 8 10] [0,3,4,11] 11 0 (.seq (.block 1 (.reg [.m 14 3,.m 15 4,.m 16 0,.m 17 4,.ia 18 1 16 17,.l 19 18,.ia 20 1 14 15,.st 1 20 19] [0,3,4])) (.reg [.m 12 4,.bk 13 .add 12 1,.m 4 13] [0,3,4]))
def Zbap:MFun:=⟨1,22,[.tmp 2],.r [.o 2 (.mov (.c (.t .nil)))] [0] (.r [.m 5 0,.ll 6 5,.o 7 (.mkslice 3 1 8 [.z] (.s 6) (.s 6)),.m 3 7] [0,3] (.seq (.r [.mk' 4 0] [0,3,4] (.block 0 (.loop [0,3,4] Zq5))) (.r [.m 21 3,.m 2 21] [2] .ret)))⟩
theorem Zbpp:tbl 91=some Zbap:=Zc Tryz.func91 (by kernel_rfl) (by kernel_rfl)
def Zq6:MCode :=.we [.m 8 4,.m 9 0,.ll 10 9,.b 11 .lss 8 10] [0,3,4,11] 11 0 (.seq (.block 1 (.reg [.m 14 3,.m 15 4,.m 16 0,.m 17 4,.ia 18 1 16 17,.l 19 18,.cl 20 91 [19],.ia 21 1 14 15,.st 1 21 20] [0,3,4])) (.reg [.m 12 4,.bk 13 .add 12 1,.m 4 13] [0,3,4]))
def Zbaq:MFun:=⟨1,23,[.tmp 2],.r [.o 2 (.mov (.c (.t .nil)))] [0] (.r [.m 5 0,.ll 6 5,.o 7 (.mkslice 30 1 24 [.lst 1 []] (.s 6) (.s 6)),.m 3 7] [0,3] (.seq (.r [.mk' 4 0] [0,3,4] (.block 0 (.loop [0,3,4] Zq6))) (.r [.m 22 3,.m 2 22] [2] .ret)))⟩
theorem Zbpq:tbl 93=some Zbaq:=Zc Tryz.func93 (by kernel_rfl) (by kernel_rfl)
def Zbar:MFun:=⟨2,36,[.tmp 4],.r [.bx 2 0,.bx 3 1,.o 4 (.mov (.q false))] [2,3] (.wc [.fa 5 0 2,.l 6 5,.fa 7 0 3,.l 8 7,.b 9 .neq 6 8] [2,3,9] 9 (.r [.o 4 (.mov (.q false))] [4] .ret) (.wc [.fa 10 1 2,.l 11 10,.fa 12 1 3,.l 13 12,.b 14 .neq 11 13] [2,3,14] 14 (.r [.o 4 (.mov (.q false))] [4] .ret) (.wc [.fa 15 2 2,.l 16 15,.fa 17 2 3,.l 18 17,.b 19 .neq 16 18] [2,3,19] 19 (.r [.o 4 (.mov (.q false))] [4] .ret) (.wc [.fa 20 3 2,.l 21 20,.fa 22 3 3,.l 23 22,.b 24 .neq 21 23] [2,3,24] 24 (.r [.o 4 (.mov (.q false))] [4] .ret) (.wc [.fa 25 4 2,.l 26 25,.fa 27 4 3,.l 28 27,.b 29 .neq 26 28] [2,3,29] 29 (.r [.o 4 (.mov (.q false))] [4] .ret) (.wc [.fa 30 5 2,.l 31 30,.fa 32 5 3,.l 33 32,.cl 34 219 [31,33],.o 35 (.un .not (.s 34))] [35] 35 (.r [.o 4 (.mov (.q false))] [4] .ret) (.r [.o 4 (.mov (.q true))] [4] .ret)))))))⟩
theorem Zbpr:tbl 99=some Zbar:=Zc Tryz.func99 (by kernel_rfl) (by kernel_rfl)
def Zq7:MCode :=.we [.m 11 5,.m 12 0,.ll 13 12,.b 14 .lss 11 13] [0,1,5,14] 14 0 (.seq (.block 1 (.seq (.drw [.m 17 0,.m 18 5,.ia 19 2 17 18,.ln 20 2 19,.m 21 1,.m 22 5,.ia 23 2 21 22,.ln 24 2 23,.cl 25 220 [20,24],.o 26 (.un .not (.s 25))] [[],[],[0,1],[2],[],[],[4,5],[6],[3,7],[8]] [0,1,5,26]) (.cond (.s 26) (.r [.o 4 (.mov (.q false))] [4] .ret) .skip))) (.reg [.m 15 5,.bk 16 .add 15 1,.m 5 16] [0,1,5]))
def Zyc:MFun:=⟨2,27,[.tmp 4],.r [.o 4 (.mov (.q false))] [0,1] (.wc [.m 6 0,.ll 7 6,.m 8 1,.ll 9 8,.b 10 .neq 7 9] [0,1,10] 10 (.r [.o 4 (.mov (.q false))] [4] .ret) (.seq (.r [.mk' 5 0] [0,1,5] (.block 0 (.loop [0,1,5] Zq7))) (.r [.o 4 (.mov (.q true))] [4] .ret)))⟩
theorem Zbps:tbl 100=some Zyc:=Zc Tryz.func100 (by kernel_rfl) (by kernel_rfl)
def Zkb:MCode :=.we [.m 11 5,.m 12 0,.ll 13 12,.b 14 .lss 11 13] [0,1,5,14] 14 0 (.seq (.block 1 (.seq (.drw [.m 17 0,.m 18 5,.ia 19 1 17 18,.l 20 19,.m 21 1,.m 22 5,.ia 23 1 21 22,.l 24 23,.cl 25 19 [20,24],.o 26 (.un .not (.s 25))] [[],[],[0,1],[2],[],[],[4,5],[6],[3,7],[8]] [0,1,5,26]) (.cond (.s 26) (.r [.o 4 (.mov (.q false))] [4] .ret) .skip))) (.reg [.m 15 5,.bk 16 .add 15 1,.m 5 16] [0,1,5]))
def Zni:MFun:=⟨2,27,[.tmp 4],.r [.o 4 (.mov (.q false))] [0,1] (.wc [.m 6 0,.ll 7 6,.m 8 1,.ll 9 8,.b 10 .neq 7 9] [0,1,10] 10 (.r [.o 4 (.mov (.q false))] [4] .ret) (.seq (.r [.mk' 5 0] [0,1,5] (.block 0 (.loop [0,1,5] Zkb))) (.r [.o 4 (.mov (.q true))] [4] .ret)))⟩
theorem Zyd:tbl 102=some Zni:=Zc Tryz.func102 (by kernel_rfl) (by kernel_rfl)
def Zbas:MFun:=⟨2,10,[.tmp 4],.r [.bx 2 0,.mk' 4 0] [1,2] (.r [.fa 5 5 2,.o 6 (.loadU false (.s 5)),.m 7 1,.o 8 (.scall 221 [.s 6,.s 7] (.s 5)),.m 1 8] [1] (.r [.m 9 1,.m 4 9] [4] .ret))⟩
theorem Zbpt:tbl 103=some Zbas:=Zc Tryz.func103 (by kernel_rfl) (by kernel_rfl)
def Zq8:MCode :=.we [.m 6 5,.m 7 0,.ll 8 7,.b 9 .lss 6 8] [0,1,5,9] 9 0 (.seq (.block 1 (.r [.m 12 0,.m 13 5,.m 14 1,.cl 15 222 [14],.ia 16 2 12 13,.fa 17 0 16,.st 1 17 15] [0,1,5] (.r [.m 18 1,.bk 19 .add 18 1,.m 1 19] [0,1,5] (.reg [.m 20 0,.m 21 5,.ia 22 2 20 21,.fa 23 1 22,.o 24 (.loadU false (.s 23)),.m 25 1,.o 26 (.scall 26 [.s 24,.s 25] (.s 23)),.m 1 26] [0,1,5])))) (.reg [.m 10 5,.bk 11 .add 10 1,.m 5 11] [0,1,5]))
def Zbat:MFun:=⟨2,28,[.tmp 4],.r [.mk' 4 0] [0,1] (.seq (.r [.mk' 5 0] [0,1,5] (.block 0 (.loop [0,1,5] Zq8))) (.r [.m 27 1,.m 4 27] [4] .ret))⟩
theorem Zbpu:tbl 104=some Zbat:=Zc Tryz.func104 (by kernel_rfl) (by kernel_rfl)
def Zkc:MCode :=.we [.m 6 5,.m 7 0,.ll 8 7,.b 9 .lss 6 8] [0,1,5,9] 9 0 (.seq (.block 1 (.reg [.m 12 0,.m 13 5,.ia 14 1 12 13,.o 15 (.loadU false (.s 14)),.m 16 1,.o 17 (.scall 26 [.s 15,.s 16] (.s 14)),.m 1 17] [0,1,5])) (.reg [.m 10 5,.bk 11 .add 10 1,.m 5 11] [0,1,5]))
def Zq9:MFun:=⟨2,19,[.tmp 4],.r [.mk' 4 0] [0,1] (.seq (.r [.mk' 5 0] [0,1,5] (.block 0 (.loop [0,1,5] Zkc))) (.r [.m 18 1,.m 4 18] [4] .ret))⟩
theorem Zye:tbl 106=some Zq9:=Zc Tryz.func106 (by kernel_rfl) (by kernel_rfl)
def Zhm:MCode :=.we [.m 12 5,.m 13 0,.ll 14 13,.b 15 .lss 12 14] [0,1,5,15] 15 0 (.seq (.block 1 (.r [.m 18 0,.m 19 5,.ia 20 3 18 19,.ln 21 3 20,.m 22 1,.cl 23 223 [21,22],.m 1 23] [0,1,5] (.r [.m 24 1,.bk 25 .lss 24 0] [0,1,5,25] (.cond (.s 25) (.r [.mk' 4 (-1)] [4] .ret) .skip)))) (.reg [.m 16 5,.bk 17 .add 16 1,.m 5 17] [0,1,5]))
def Zbau:MFun:=⟨2,27,[.tmp 4],.r [.mk' 4 0] [0,1] (.r [.m 6 1,.m 7 0,.ll 8 7,.b 9 .sub 6 8,.m 1 9] [0,1] (.wc [.m 10 1,.bk 11 .lss 10 0] [0,1,11] 11 (.r [.mk' 4 (-1)] [4] .ret) (.seq (.r [.mk' 5 0] [0,1,5] (.block 0 (.loop [0,1,5] Zhm))) (.r [.m 26 1,.m 4 26] [4] .ret))))⟩
theorem Zbpv:tbl 107=some Zbau:=Zc Tryz.func107 (by kernel_rfl) (by kernel_rfl)
def Zra:MCode :=.we [.m 8 4,.m 9 0,.ll 10 9,.b 11 .lss 8 10] [0,3,4,11] 11 0 (.seq (.block 1 (.reg [.m 14 3,.m 15 4,.m 16 0,.m 17 4,.ia 18 3 16 17,.ln 19 3 18,.cl 20 228 [19],.ia 21 3 14 15,.st 3 21 20] [0,3,4])) (.reg [.m 12 4,.bk 13 .add 12 1,.m 4 13] [0,3,4]))
def Zbav:MFun:=⟨1,23,[.tmp 2],.r [.o 2 (.mov (.c (.t .nil)))] [0] (.r [.m 5 0,.ll 6 5,.o 7 (.mkslice 277 3 48 [.str ⟨#[]⟩,.z,.lst 1 []] (.s 6) (.s 6)),.m 3 7] [0,3] (.seq (.r [.mk' 4 0] [0,3,4] (.block 0 (.loop [0,3,4] Zra))) (.r [.m 22 3,.m 2 22] [2] .ret)))⟩
theorem Zbpw:tbl 111=some Zbav:=Zc Tryz.func111 (by kernel_rfl) (by kernel_rfl)
def Zrb:MCode :=.we [.m 11 5,.m 12 0,.ll 13 12,.b 14 .lss 11 13] [0,1,5,14] 14 0 (.seq (.block 1 (.seq (.drw [.m 17 0,.m 18 5,.ia 19 3 17 18,.ln 20 3 19,.m 21 1,.m 22 5,.ia 23 3 21 22,.ln 24 3 23,.cl 25 233 [20,24],.o 26 (.un .not (.s 25))] [[],[],[0,1],[2],[],[],[4,5],[6],[3,7],[8]] [0,1,5,26]) (.cond (.s 26) (.r [.o 4 (.mov (.q false))] [4] .ret) .skip))) (.reg [.m 15 5,.bk 16 .add 15 1,.m 5 16] [0,1,5]))
def Zyf:MFun:=⟨2,27,[.tmp 4],.r [.o 4 (.mov (.q false))] [0,1] (.wc [.m 6 0,.ll 7 6,.m 8 1,.ll 9 8,.b 10 .neq 7 9] [0,1,10] 10 (.r [.o 4 (.mov (.q false))] [4] .ret) (.seq (.r [.mk' 5 0] [0,1,5] (.block 0 (.loop [0,1,5] Zrb))) (.r [.o 4 (.mov (.q true))] [4] .ret)))⟩
theorem Zbpx:tbl 114=some Zyf:=Zc Tryz.func114 (by kernel_rfl) (by kernel_rfl)
def Zrc:MCode :=.we [.m 11 5,.m 12 0,.ll 13 12,.b 14 .lss 11 13] [0,1,5,14] 14 0 (.seq (.block 1 (.seq (.drw [.m 17 0,.m 18 5,.ia 19 3 17 18,.ln 20 3 19,.m 21 1,.m 22 5,.ia 23 3 21 22,.ln 24 3 23,.cl 25 238 [20,24],.o 26 (.un .not (.s 25))] [[],[],[0,1],[2],[],[],[4,5],[6],[3,7],[8]] [0,1,5,26]) (.cond (.s 26) (.r [.o 4 (.mov (.q false))] [4] .ret) .skip))) (.reg [.m 15 5,.bk 16 .add 15 1,.m 5 16] [0,1,5]))
def Zyg:MFun:=⟨2,27,[.tmp 4],.r [.o 4 (.mov (.q false))] [0,1] (.wc [.m 6 0,.ll 7 6,.m 8 1,.ll 9 8,.b 10 .neq 7 9] [0,1,10] 10 (.r [.o 4 (.mov (.q false))] [4] .ret) (.seq (.r [.mk' 5 0] [0,1,5] (.block 0 (.loop [0,1,5] Zrc))) (.r [.o 4 (.mov (.q true))] [4] .ret)))⟩
theorem Zbpy:tbl 118=some Zyg:=Zc Tryz.func118 (by kernel_rfl) (by kernel_rfl)
def Zrd:MCode :=.we [.m 6 5,.m 7 0,.ll 8 7,.b 9 .lss 6 8] [0,1,5,9] 9 0 (.seq (.block 1 (.r [.m 12 0,.m 13 5,.m 14 1,.cl 15 222 [14],.ia 16 3 12 13,.fa 17 0 16,.st 1 17 15] [0,1,5] (.r [.m 18 1,.bk 19 .add 18 1,.m 1 19] [0,1,5] (.r [.m 20 0,.m 21 5,.m 22 1,.ia 23 3 20 21,.fa 24 1 23,.st 1 24 22] [0,1,5] (.r [.m 25 1,.bk 26 .add 25 1,.m 1 26] [0,1,5] (.reg [.m 27 0,.m 28 5,.ia 29 3 27 28,.fa 30 2 29,.o 31 (.loadU false (.s 30)),.m 32 1,.o 33 (.scall 106 [.s 31,.s 32] (.s 30)),.m 1 33] [0,1,5])))))) (.reg [.m 10 5,.bk 11 .add 10 1,.m 5 11] [0,1,5]))
def Zbaw:MFun:=⟨2,35,[.tmp 4],.r [.mk' 4 0] [0,1] (.seq (.r [.mk' 5 0] [0,1,5] (.block 0 (.loop [0,1,5] Zrd))) (.r [.m 34 1,.m 4 34] [4] .ret))⟩
theorem Zbpz:tbl 119=some Zbaw:=Zc Tryz.func119 (by kernel_rfl) (by kernel_rfl)
def Zre:MCode :=.we [.m 6 5,.m 7 0,.ll 8 7,.b 9 .lss 6 8] [0,1,5,9] 9 0 (.seq (.block 1 (.r [.m 12 0,.m 13 5,.m 14 1,.ia 15 3 12 13,.fa 16 0 15,.st 1 16 14] [0,1,5] (.r [.m 17 1,.bk 18 .add 17 1,.m 1 18] [0,1,5] (.r [.m 19 0,.m 20 5,.m 21 1,.ia 22 3 19 20,.fa 23 1 22,.st 1 23 21] [0,1,5] (.r [.m 24 1,.bk 25 .add 24 1,.m 1 25] [0,1,5] (.r [.m 26 0,.m 27 5,.m 28 1,.ia 29 3 26 27,.fa 30 2 29,.st 1 30 28] [0,1,5] (.reg [.m 31 1,.bk 32 .add 31 1,.m 1 32] [0,1,5]))))))) (.reg [.m 10 5,.bk 11 .add 10 1,.m 5 11] [0,1,5]))
def Zbax:MFun:=⟨2,34,[.tmp 4],.r [.mk' 4 0] [0,1] (.seq (.r [.mk' 5 0] [0,1,5] (.block 0 (.loop [0,1,5] Zre))) (.r [.m 33 1,.m 4 33] [4] .ret))⟩
theorem Zbp0:tbl 120=some Zbax:=Zc Tryz.func120 (by kernel_rfl) (by kernel_rfl)
def Zbay:MFun:=⟨2,12,[.tmp 4],.r [.mk' 4 0] [0,1] (.r [.m 5 1,.m 6 0,.ll 7 6,.b 8 .sub 5 7,.m 1 8] [1] (.wc [.m 9 1,.bk 10 .lss 9 0] [1,10] 10 (.r [.mk' 4 (-1)] [4] .ret) (.r [.m 11 1,.m 4 11] [4] .ret)))⟩
theorem Zbp1:tbl 168=some Zbay:=Zc Tryz.func168 (by kernel_rfl) (by kernel_rfl)
def Zrf:MCode :=.we [.m 8 4,.m 9 0,.ll 10 9,.b 11 .lss 8 10] [0,3,4,11] 11 0 (.seq (.block 1 (.reg [.m 14 3,.m 15 4,.m 16 0,.m 17 4,.ia 18 3 16 17,.ln 19 3 18,.cl 20 279 [19],.ia 21 3 14 15,.st 3 21 20] [0,3,4])) (.reg [.m 12 4,.bk 13 .add 12 1,.m 4 13] [0,3,4]))
def Zbaz:MFun:=⟨1,23,[.tmp 2],.r [.o 2 (.mov (.c (.t .nil)))] [0] (.r [.m 5 0,.ll 6 5,.o 7 (.mkslice 194 3 24 [.z,.z,.z] (.s 6) (.s 6)),.m 3 7] [0,3] (.seq (.r [.mk' 4 0] [0,3,4] (.block 0 (.loop [0,3,4] Zrf))) (.r [.m 22 3,.m 2 22] [2] .ret)))⟩
theorem Zbp2:tbl 170=some Zbaz:=Zc Tryz.func170 (by kernel_rfl) (by kernel_rfl)
def Znj:MCode :=.we [.m 11 5,.m 12 0,.ll 13 12,.b 14 .lss 11 13] [0,1,5,14] 14 0 (.seq (.block 1 (.seq (.drw [.m 17 0,.m 18 5,.ia 19 3 17 18,.ln 20 3 19,.m 21 1,.m 22 5,.ia 23 3 21 22,.ln 24 3 23,.cl 25 281 [20,24],.o 26 (.un .not (.s 25))] [[],[],[0,1],[2],[],[],[4,5],[6],[3,7],[8]] [0,1,5,26]) (.cond (.s 26) (.r [.o 4 (.mov (.q false))] [4] .ret) .skip))) (.reg [.m 15 5,.bk 16 .add 15 1,.m 5 16] [0,1,5]))
def Zrg:MFun:=⟨2,27,[.tmp 4],.r [.o 4 (.mov (.q false))] [0,1] (.wc [.m 6 0,.ll 7 6,.m 8 1,.ll 9 8,.b 10 .neq 7 9] [0,1,10] 10 (.r [.o 4 (.mov (.q false))] [4] .ret) (.seq (.r [.mk' 5 0] [0,1,5] (.block 0 (.loop [0,1,5] Znj))) (.r [.o 4 (.mov (.q true))] [4] .ret)))⟩
theorem Zba0:tbl 172=some Zrg:=Zc Tryz.func172 (by kernel_rfl) (by kernel_rfl)
def Zba1:MFun:=⟨2,17,[.tmp 4],.r [.bx 2 0,.bx 3 1,.o 4 (.mov (.q false))] [2,3] (.wc [.fa 5 0 2,.l 6 5,.fa 7 0 3,.l 8 7,.cl 9 19 [6,8],.o 10 (.un .not (.s 9))] [2,3,10] 10 (.r [.o 4 (.mov (.q false))] [4] .ret) (.wc [.fa 11 1 2,.l 12 11,.fa 13 1 3,.l 14 13,.cl 15 102 [12,14],.o 16 (.un .not (.s 15))] [16] 16 (.r [.o 4 (.mov (.q false))] [4] .ret) (.r [.o 4 (.mov (.q true))] [4] .ret)))⟩
theorem Zbp3:tbl 173=some Zba1:=Zc Tryz.func173 (by kernel_rfl) (by kernel_rfl)
def Znk:MCode :=.we [.m 6 5,.m 7 0,.ll 8 7,.b 9 .lss 6 8] [0,1,5,9] 9 0 (.seq (.block 1 (.r [.m 12 0,.m 13 5,.m 14 1,.ia 15 3 12 13,.fa 16 0 15,.st 1 16 14] [0,1,5] (.r [.m 17 1,.bk 18 .add 17 1,.m 1 18] [0,1,5] (.r [.m 19 0,.m 20 5,.m 21 1,.ia 22 3 19 20,.fa 23 1 22,.st 1 23 21] [0,1,5] (.r [.m 24 1,.bk 25 .add 24 1,.m 1 25] [0,1,5] (.r [.m 26 0,.m 27 5,.m 28 1,.bk 29 .rem 28 3,.bk 30 .eql 29 0,.ia 31 3 26 27,.fa 32 2 31,.st 1 32 30] [0,1,5] (.reg [.m 33 1,.bk 34 .add 33 1,.m 1 34] [0,1,5]))))))) (.reg [.m 10 5,.bk 11 .add 10 1,.m 5 11] [0,1,5]))
def Zyh:MFun:=⟨2,36,[.tmp 4],.r [.mk' 4 0] [0,1] (.seq (.r [.mk' 5 0] [0,1,5] (.block 0 (.loop [0,1,5] Znk))) (.r [.m 35 1,.m 4 35] [4] .ret))⟩
theorem Zba2:tbl 174=some Zyh:=Zc Tryz.func174 (by kernel_rfl) (by kernel_rfl)
def Zyi:MFun:=⟨2,14,[.tmp 4],.r [.bx 2 0,.mk' 4 0] [1,2] (.r [.fa 5 0 2,.o 6 (.loadU false (.s 5)),.m 7 1,.o 8 (.scall 26 [.s 6,.s 7] (.s 5)),.m 1 8] [1,2] (.r [.fa 9 1 2,.o 10 (.loadU false (.s 9)),.m 11 1,.o 12 (.scall 106 [.s 10,.s 11] (.s 9)),.m 1 12] [1] (.r [.m 13 1,.m 4 13] [4] .ret)))⟩
theorem Zba3:tbl 175=some Zyi:=Zc Tryz.func175 (by kernel_rfl) (by kernel_rfl)
def Znl:MCode :=.we [.m 6 5,.m 7 0,.ll 8 7,.b 9 .lss 6 8] [0,1,5,9] 9 0 (.seq (.block 1 (.wc [.m 12 0,.m 13 5,.ia 14 3 12 13,.fa 15 0 14,.l 16 15,.m 17 1,.b 18 .neq 16 17] [0,1,5,18] 18 (.r [.mk' 4 (-1)] [4] .ret) (.r [.m 19 1,.bk 20 .add 19 1,.m 1 20] [0,1,5] (.wc [.m 21 0,.m 22 5,.ia 23 3 21 22,.fa 24 1 23,.l 25 24,.m 26 1,.b 27 .neq 25 26] [0,1,5,27] 27 (.r [.mk' 4 (-1)] [4] .ret) (.r [.m 28 1,.bk 29 .add 28 1,.m 1 29] [0,1,5] (.wc [.m 30 0,.m 31 5,.ia 32 3 30 31,.fa 33 2 32,.l 34 33,.m 35 1,.bk 36 .rem 35 3,.bk 37 .eql 36 0,.o 38 (.beq true (.s 34) (.s 37))] [0,1,5,38] 38 (.r [.mk' 4 (-1)] [4] .ret) (.reg [.m 39 1,.bk 40 .add 39 1,.m 1 40] [0,1,5]))))))) (.reg [.m 10 5,.bk 11 .add 10 1,.m 5 11] [0,1,5]))
def Zyj:MFun:=⟨2,42,[.tmp 4],.r [.mk' 4 0] [0,1] (.seq (.r [.mk' 5 0] [0,1,5] (.block 0 (.loop [0,1,5] Znl))) (.r [.m 41 1,.m 4 41] [4] .ret))⟩
theorem Zba4:tbl 176=some Zyj:=Zc Tryz.func176 (by kernel_rfl) (by kernel_rfl)
def Zyk:MFun:=⟨2,18,[.tmp 4],.r [.bx 2 0,.mk' 4 0] [1,2] (.r [.fa 5 0 2,.l 6 5,.m 7 1,.cl 8 27 [6,7],.m 1 8] [1,2] (.wc [.m 9 1,.bk 10 .lss 9 0] [1,2,10] 10 (.r [.mk' 4 (-1)] [4] .ret) (.r [.fa 11 1 2,.l 12 11,.m 13 1,.cl 14 282 [12,13],.m 1 14] [1] (.wc [.m 15 1,.bk 16 .lss 15 0] [1,16] 16 (.r [.mk' 4 (-1)] [4] .ret) (.r [.m 17 1,.m 4 17] [4] .ret)))))⟩
theorem Zba5:tbl 177=some Zyk:=Zc Tryz.func177 (by kernel_rfl) (by kernel_rfl)
def Zba6:MFun:=⟨2,12,[.tmp 4],.r [.mk' 4 0] [0,1] (.r [.m 5 1,.m 6 0,.ll 7 6,.b 8 .sub 5 7,.m 1 8] [1] (.wc [.m 9 1,.bk 10 .lss 9 0] [1,10] 10 (.r [.mk' 4 (-1)] [4] .ret) (.r [.m 11 1,.m 4 11] [4] .ret)))⟩
theorem Zbp4:tbl 192=some Zba6:=Zc Tryz.func192 (by kernel_rfl) (by kernel_rfl)
def Zba7:MFun:=⟨2,19,[.tmp 4],.r [.bx 2 0,.mk' 4 0] [1,2] (.r [.m 5 1,.fa 6 0 2,.l 7 6,.o 8 (.len true (.s 7)),.b 9 .sub 5 8,.m 1 9] [1,2] (.wc [.m 10 1,.bk 11 .lss 10 0] [1,2,11] 11 (.r [.mk' 4 (-1)] [4] .ret) (.r [.fa 12 1 2,.l 13 12,.m 14 1,.cl 15 76 [13,14],.m 1 15] [1] (.wc [.m 16 1,.bk 17 .lss 16 0] [1,17] 17 (.r [.mk' 4 (-1)] [4] .ret) (.r [.m 18 1,.m 4 18] [4] .ret)))))⟩
theorem Zbp5:tbl 193=some Zba7:=Zc Tryz.func193 (by kernel_rfl) (by kernel_rfl)
def Zrh:MCode :=.we [.m 8 4,.m 9 0,.ll 10 9,.b 11 .lss 8 10] [0,3,4,11] 11 0 (.seq (.block 1 (.reg [.m 14 3,.m 15 4,.m 16 0,.m 17 4,.ia 18 2 16 17,.ln 19 2 18,.cl 20 294 [19],.ia 21 2 14 15,.st 2 21 20] [0,3,4])) (.reg [.m 12 4,.bk 13 .add 12 1,.m 4 13] [0,3,4]))
def Zba8:MFun:=⟨1,23,[.tmp 2],.r [.o 2 (.mov (.c (.t .nil)))] [0] (.r [.m 5 0,.ll 6 5,.o 7 (.mkslice 307 2 16 [.z,.z] (.s 6) (.s 6)),.m 3 7] [0,3] (.seq (.r [.mk' 4 0] [0,3,4] (.block 0 (.loop [0,3,4] Zrh))) (.r [.m 22 3,.m 2 22] [2] .ret)))⟩
theorem Zbp6:tbl 209=some Zba8:=Zc Tryz.func209 (by kernel_rfl) (by kernel_rfl)
def Zba9:MFun:=⟨1,12,[.cell 2 (some 2)],.r [.bx 1 0,.o 2 (.alloc [.t (.str ⟨#[]⟩),.t .nil])] [1,2] (.r [.o 3 (.alloc [.t (.str ⟨#[]⟩),.t .nil])] [1,2,3] (.r [.fa 4 0 1,.l 5 4,.fa 6 0 3,.st 1 6 5] [1,2,3] (.r [.fa 7 1 1,.l 8 7,.cl 9 91 [8],.fa 10 1 3,.st 1 10 9] [2,3] (.r [.ln 11 2 3,.st 2 2 11] [2] .ret))))⟩
theorem Zbp7:tbl 210=some Zba9:=Zc Tryz.func210 (by kernel_rfl) (by kernel_rfl)
def Zri:MCode :=.we [.m 11 5,.m 12 0,.ll 13 12,.b 14 .lss 11 13] [0,1,5,14] 14 0 (.seq (.block 1 (.seq (.drw [.m 17 0,.m 18 5,.ia 19 2 17 18,.ln 20 2 19,.m 21 1,.m 22 5,.ia 23 2 21 22,.ln 24 2 23,.cl 25 299 [20,24],.o 26 (.un .not (.s 25))] [[],[],[0,1],[2],[],[],[4,5],[6],[3,7],[8]] [0,1,5,26]) (.cond (.s 26) (.r [.o 4 (.mov (.q false))] [4] .ret) .skip))) (.reg [.m 15 5,.bk 16 .add 15 1,.m 5 16] [0,1,5]))
def Zyl:MFun:=⟨2,27,[.tmp 4],.r [.o 4 (.mov (.q false))] [0,1] (.wc [.m 6 0,.ll 7 6,.m 8 1,.ll 9 8,.b 10 .neq 7 9] [0,1,10] 10 (.r [.o 4 (.mov (.q false))] [4] .ret) (.seq (.r [.mk' 5 0] [0,1,5] (.block 0 (.loop [0,1,5] Zri))) (.r [.o 4 (.mov (.q true))] [4] .ret)))⟩
theorem Zbp8:tbl 219=some Zyl:=Zc Tryz.func219 (by kernel_rfl) (by kernel_rfl)
def Zbba:MFun:=⟨2,16,[.tmp 4],.r [.bx 2 0,.bx 3 1,.o 4 (.mov (.q false))] [2,3] (.wc [.fa 5 0 2,.l 6 5,.fa 7 0 3,.l 8 7,.b 9 .neq 6 8] [2,3,9] 9 (.r [.o 4 (.mov (.q false))] [4] .ret) (.wc [.fa 10 1 2,.l 11 10,.fa 12 1 3,.l 13 12,.cl 14 19 [11,13],.o 15 (.un .not (.s 14))] [15] 15 (.r [.o 4 (.mov (.q false))] [4] .ret) (.r [.o 4 (.mov (.q true))] [4] .ret)))⟩
theorem Zbp9:tbl 220=some Zbba:=Zc Tryz.func220 (by kernel_rfl) (by kernel_rfl)
def Zrj:MCode :=.we [.m 6 5,.m 7 0,.ll 8 7,.b 9 .lss 6 8] [0,1,5,9] 9 0 (.seq (.block 1 (.r [.m 12 0,.m 13 5,.m 14 1,.ia 15 2 12 13,.fa 16 0 15,.st 1 16 14] [0,1,5] (.r [.m 17 1,.bk 18 .add 17 1,.m 1 18] [0,1,5] (.r [.m 19 0,.m 20 5,.m 21 1,.ia 22 2 19 20,.fa 23 1 22,.st 1 23 21] [0,1,5] (.reg [.m 24 1,.bk 25 .add 24 1,.m 1 25] [0,1,5]))))) (.reg [.m 10 5,.bk 11 .add 10 1,.m 5 11] [0,1,5]))
def Zbbb:MFun:=⟨2,27,[.tmp 4],.r [.mk' 4 0] [0,1] (.seq (.r [.mk' 5 0] [0,1,5] (.block 0 (.loop [0,1,5] Zrj))) (.r [.m 26 1,.m 4 26] [4] .ret))⟩
theorem Zbqa:tbl 221=some Zbbb:=Zc Tryz.func221 (by kernel_rfl) (by kernel_rfl)
def Znm:MCode :=.we [.m 6 0,.bk 7 .gtr 6 0] [0,3,7] 7 0 (.block 1 (.r [.m 8 0,.bk 9 .rem 8 10,.o 10 (.bin .add (.k 48) (.s 9)),.o 11 (.conv .u8 (.s 10)),.o 12 (.bslice 5 1 1 [.int .u8 0] [(0,.s 11)]),.o 13 (.tostr (.s 12)),.m 14 3,.b 15 .add 13 14,.m 3 15] [0,3] (.reg [.m 16 0,.bk 17 .quo 16 10,.m 0 17] [0,3])))
def Zym:MFun:=⟨1,20,[.tmp 2],.r [.o 2 (.mov (.c (.t (.str ⟨#[]⟩))))] [0] (.wc [.m 4 0,.bk 5 .leq 4 0] [0,5] 5 (.r [.o 2 (.mov (.c (.t (.str ⟨#[109,48]⟩))))] [2] .ret) (.r [.o 3 (.mov (.c (.t (.str ⟨#[]⟩))))] [0,3] (.seq (.block 0 (.loop [0,3] Znm)) (.r [.m 18 3,.o 19 (.bin .add (.c (.t (.str ⟨#[109]⟩))) (.s 18)),.m 2 19] [2] .ret))))⟩
theorem Zbbc:tbl 222=some Zym:=Zc Tryz.func222 (by kernel_rfl) (by kernel_rfl)
def Zbbd:MFun:=⟨2,19,[.tmp 4],.r [.bx 2 0,.mk' 4 0] [1,2] (.r [.m 5 1,.fa 6 0 2,.l 7 6,.o 8 (.len true (.s 7)),.b 9 .sub 5 8,.m 1 9] [1,2] (.wc [.m 10 1,.bk 11 .lss 10 0] [1,2,11] 11 (.r [.mk' 4 (-1)] [4] .ret) (.r [.fa 12 2 2,.l 13 12,.m 14 1,.cl 15 78 [13,14],.m 1 15] [1] (.wc [.m 16 1,.bk 17 .lss 16 0] [1,17] 17 (.r [.mk' 4 (-1)] [4] .ret) (.r [.m 18 1,.m 4 18] [4] .ret)))))⟩
theorem Zbqb:tbl 223=some Zbbd:=Zc Tryz.func223 (by kernel_rfl) (by kernel_rfl)
def Zbbe:MFun:=⟨1,15,[.cell 2 (some 3)],.r [.bx 1 0,.o 2 (.alloc [.t (.str ⟨#[]⟩),.t .z,.t .nil])] [1,2] (.r [.o 3 (.alloc [.t (.str ⟨#[]⟩),.t .z,.t .nil])] [1,2,3] (.r [.fa 4 0 1,.l 5 4,.fa 6 0 3,.st 1 6 5] [1,2,3] (.r [.fa 7 1 1,.l 8 7,.fa 9 1 3,.st 1 9 8] [1,2,3] (.r [.fa 10 2 1,.l 11 10,.cl 12 93 [11],.fa 13 2 3,.st 1 13 12] [2,3] (.r [.ln 14 3 3,.st 3 2 14] [2] .ret)))))⟩
theorem Zbqc:tbl 228=some Zbbe:=Zc Tryz.func228 (by kernel_rfl) (by kernel_rfl)
def Zbbf:MFun:=⟨2,21,[.tmp 4],.r [.bx 2 0,.bx 3 1,.o 4 (.mov (.q false))] [2,3] (.wc [.fa 5 0 2,.l 6 5,.fa 7 0 3,.l 8 7,.b 9 .neq 6 8] [2,3,9] 9 (.r [.o 4 (.mov (.q false))] [4] .ret) (.wc [.fa 10 1 2,.l 11 10,.fa 12 1 3,.l 13 12,.b 14 .neq 11 13] [2,3,14] 14 (.r [.o 4 (.mov (.q false))] [4] .ret) (.wc [.fa 15 2 2,.l 16 15,.fa 17 2 3,.l 18 17,.cl 19 102 [16,18],.o 20 (.un .not (.s 19))] [20] 20 (.r [.o 4 (.mov (.q false))] [4] .ret) (.r [.o 4 (.mov (.q true))] [4] .ret))))⟩
theorem Zbqd:tbl 233=some Zbbf:=Zc Tryz.func233 (by kernel_rfl) (by kernel_rfl)
def Zbbg:MFun:=⟨2,20,[.tmp 4],.r [.bx 2 0,.bx 3 1,.o 4 (.mov (.q false))] [2,3] (.wc [.fa 5 0 2,.l 6 5,.fa 7 0 3,.l 8 7,.b 9 .neq 6 8] [2,3,9] 9 (.r [.o 4 (.mov (.q false))] [4] .ret) (.wc [.fa 10 1 2,.l 11 10,.fa 12 1 3,.l 13 12,.b 14 .neq 11 13] [2,3,14] 14 (.r [.o 4 (.mov (.q false))] [4] .ret) (.wc [.fa 15 2 2,.l 16 15,.fa 17 2 3,.l 18 17,.b 19 .neq 16 18] [19] 19 (.r [.o 4 (.mov (.q false))] [4] .ret) (.r [.o 4 (.mov (.q true))] [4] .ret))))⟩
theorem Zbqe:tbl 238=some Zbbg:=Zc Tryz.func238 (by kernel_rfl) (by kernel_rfl)
def Zbbh:MFun:=⟨1,14,[.cell 2 (some 3)],.r [.bx 1 0,.o 2 (.alloc [.t .z,.t .z,.t .z])] [1,2] (.r [.o 3 (.alloc [.t .z,.t .z,.t .z])] [1,2,3] (.r [.fa 4 0 1,.l 5 4,.fa 6 0 3,.st 1 6 5] [1,2,3] (.r [.fa 7 1 1,.l 8 7,.fa 9 1 3,.st 1 9 8] [1,2,3] (.r [.fa 10 2 1,.l 11 10,.fa 12 2 3,.st 1 12 11] [2,3] (.r [.ln 13 3 3,.st 3 2 13] [2] .ret)))))⟩
theorem Zbqf:tbl 279=some Zbbh:=Zc Tryz.func279 (by kernel_rfl) (by kernel_rfl)
def Zbbi:MFun:=⟨2,20,[.tmp 4],.r [.bx 2 0,.bx 3 1,.o 4 (.mov (.q false))] [2,3] (.wc [.fa 5 0 2,.l 6 5,.fa 7 0 3,.l 8 7,.b 9 .neq 6 8] [2,3,9] 9 (.r [.o 4 (.mov (.q false))] [4] .ret) (.wc [.fa 10 1 2,.l 11 10,.fa 12 1 3,.l 13 12,.b 14 .neq 11 13] [2,3,14] 14 (.r [.o 4 (.mov (.q false))] [4] .ret) (.wc [.fa 15 2 2,.l 16 15,.fa 17 2 3,.l 18 17,.o 19 (.beq true (.s 16) (.s 18))] [19] 19 (.r [.o 4 (.mov (.q false))] [4] .ret) (.r [.o 4 (.mov (.q true))] [4] .ret))))⟩
theorem Zbqg:tbl 281=some Zbbi:=Zc Tryz.func281 (by kernel_rfl) (by kernel_rfl)
def Znn:MCode :=.we [.m 6 5,.m 7 0,.ll 8 7,.b 9 .lss 6 8] [0,1,5,9] 9 0 (.seq (.block 1 (.r [.m 12 0,.m 13 5,.ia 14 1 12 13,.l 15 14,.m 16 1,.cl 17 27 [15,16],.m 1 17] [0,1,5] (.r [.m 18 1,.bk 19 .lss 18 0] [0,1,5,19] (.cond (.s 19) (.r [.mk' 4 (-1)] [4] .ret) .skip)))) (.reg [.m 10 5,.bk 11 .add 10 1,.m 5 11] [0,1,5]))
def Zyn:MFun:=⟨2,21,[.tmp 4],.r [.mk' 4 0] [0,1] (.seq (.r [.mk' 5 0] [0,1,5] (.block 0 (.loop [0,1,5] Znn))) (.r [.m 20 1,.m 4 20] [4] .ret))⟩
theorem Zbbj:tbl 282=some Zyn:=Zc Tryz.func282 (by kernel_rfl) (by kernel_rfl)
def Zbbk:MFun:=⟨1,11,[.cell 2 (some 2)],.r [.bx 1 0,.o 2 (.alloc [.t .z,.t .z])] [1,2] (.r [.o 3 (.alloc [.t .z,.t .z])] [1,2,3] (.r [.fa 4 0 1,.l 5 4,.fa 6 0 3,.st 1 6 5] [1,2,3] (.r [.fa 7 1 1,.l 8 7,.fa 9 1 3,.st 1 9 8] [2,3] (.r [.ln 10 2 3,.st 2 2 10] [2] .ret))))⟩
theorem Zbqh:tbl 294=some Zbbk:=Zc Tryz.func294 (by kernel_rfl) (by kernel_rfl)
def Zbbl:MFun:=⟨2,15,[.tmp 4],.r [.bx 2 0,.bx 3 1,.o 4 (.mov (.q false))] [2,3] (.wc [.fa 5 0 2,.l 6 5,.fa 7 0 3,.l 8 7,.b 9 .neq 6 8] [2,3,9] 9 (.r [.o 4 (.mov (.q false))] [4] .ret) (.wc [.fa 10 1 2,.l 11 10,.fa 12 1 3,.l 13 12,.b 14 .neq 11 13] [14] 14 (.r [.o 4 (.mov (.q false))] [4] .ret) (.r [.o 4 (.mov (.q true))] [4] .ret)))⟩
theorem Zbqi:tbl 299=some Zbbl:=Zc Tryz.func299 (by kernel_rfl) (by kernel_rfl)
theorem l_toIntS (xs:List Int) (h:SmA xs) (fr:List Fr):∀ i,i≤xs.length→EvL C fr [0,3,4] Zq5 ⟨[(0,L 1 (xs.map ic)),(3,.own 0),(4,I i)],[[]],[.arr Zbg 1 true (fill ic [.int .i64 0] xs i)]⟩ =
  EvX C fr (.x 0) ⟨[(0,L 1 (xs.map ic)),(3,.own 0),(4,I xs.length),(11,Bo false)],[[]],[.arr Zbg 1 true (xs.map ic)]⟩:=by
 have hl:xs.length≤4294967296:=h;refine down xs.length ?_ ?_
 ·rw [EvL_eq Zq5.eq_1];simp [fill_all]
 ·intro i hi ih;rw [EvL_eq Zq5.eq_1,← ih];have h1:=fill_set (f:=ic) (z:=[.int .i64 0]) hi;have h3:=fill_len (f:=ic) (z:=[.int .i64 0]) (Nat.le_of_lt hi);have h4:IntKind.wrap .i64 ((i:Int)+1)=(i:Int)+1:=wrap64 (by omega) (by omega);simp at h1;simp [hi,h3,h4,h1]
theorem Zbbm (xs:List Int) (h:SmA xs):C Zbda [L 1 (xs.map ic)] []=some (.own 0,[.arr Zbg 1 true (xs.map ic)]):=by
 refine run Zbpp rfl ?_;have hl:xs.length≤4294967296:=h;have h1:∀ b,b≤4096→xs.length*b≤room:=fun b hb=>Nat.le_trans (Nat.mul_le_mul hl hb) (by decide)
 have h2:(xs.length:Int)≤140737488355328:=by omega
 have h3:=fun fr=>l_toIntS xs h fr 0 (Nat.zero_le _)
 simp [fill_zero] at h3;simp [Zbap,h1,h2,h3]
theorem l_eqIntS (xs ys:List Int) (h:SmA xs) (hl:ys.length=xs.length) (fr:List Fr):∀ i,i≤xs.length→EvL C fr [0,1,5] Zne ⟨[(0,L 1 (xs.map ic)),(1,L 1 (ys.map ic)),(5,I i)],[[]],[]⟩ =
  if xs.drop i=ys.drop i then EvX C fr (.x 0) ⟨[(0,L 1 (xs.map ic)),(1,L 1 (ys.map ic)),(5,I xs.length),(14,Bo false)],[[]],[]⟩ else EvX C fr .r ⟨[(4,Bo false)],[[]],[]⟩:=by
 have hm:xs.length≤4294967296:=h;refine down xs.length ?_ ?_
 ·rw [EvL_eq Zne.eq_1];simp [hl,List.drop_eq_nil_of_le]
 ·intro i hi ih;have hi2:i<ys.length:=by omega
  have h4:IntKind.wrap .i64 ((i:Int)+1)=(i:Int)+1:=wrap64 (by omega) (by omega);rw [EvL_eq Zne.eq_1];simp +decide [hi,hi2,h4];simp at ih;simp only [drop_eq_iff hi hi2,ih];split <;> first | (simp_all;done) | grind
theorem Zyo (xs ys:List Int) (h:SmA xs):C Zrt [L 1 (xs.map ic),L 1 (ys.map ic)] []=some (Bo (decide (xs=ys)),[]):=by
 refine run Z93 rfl ?_;by_cases hl:ys.length=xs.length
 ·have h3:=fun fr=>l_eqIntS xs ys h hl fr 0 (Nat.zero_le _)
  simp at h3;simp [Zq0,h3,hl];split <;> simp_all
 ·have h1:xs≠ys:=fun h=>hl (by rw [h])
  have h2:¬ ((xs.length:Int)=ys.length):=by omega
  simp [Zq0,h1,h2]
@[simp] theorem Zbbn (es:List (List T)) (left:Int):C Zbc6 [L 1 es,I left] []=some (I (sz1 es.length left),[]):=by
 refine run Zbpl rfl ?_;simp [Zbal,sz1];split <;> simp_all
theorem Zbqj (xs:List (List Int)) (h:SmL SmA xs) (fr:List Fr):∀ i,i≤xs.length→EvL C fr [0,3,4] Zq6 ⟨[(0,L 1 (xs.map isc)),(3,.own 0),(4,I i)],[[]],[.arr Zhr 1 true (fill isc [.lst 1 []] xs i)]⟩ =
  EvX C fr (.x 0) ⟨[(0,L 1 (xs.map isc)),(3,.own 0),(4,I xs.length),(11,Bo false)],[[]],[.arr Zhr 1 true (xs.map isc)]⟩:=by
 have hl:xs.length≤4294967296:=h.1;refine down xs.length ?_ ?_
 ·rw [EvL_eq Zq6.eq_1];simp [fill_all]
 ·intro i hi ih;rw [EvL_eq Zq6.eq_1,← ih];have h1:=fill_set (f:=isc) (z:=[.lst 1 []]) hi;have h3:=fill_len (f:=isc) (z:=[.lst 1 []]) (Nat.le_of_lt hi);have h4:IntKind.wrap .i64 ((i:Int)+1)=(i:Int)+1:=wrap64 (by omega) (by omega);simp at h1;simp [hi,Zbbm _ (h.2 _ (List.getElem_mem hi)),h3,h4,h1]
theorem Zbqk (xs:List (List Int)) (h:SmL SmA xs):C Zbdb [L 1 (xs.map isc)] []=some (.own 0,[.arr Zhr 1 true (xs.map isc)]):=by
 refine run Zbpq rfl ?_;have hl:xs.length≤4294967296:=h.1;have h1:∀ b,b≤4096→xs.length*b≤room:=fun b hb=>Nat.le_trans (Nat.mul_le_mul hl hb) (by decide)
 have h2:(xs.length:Int)≤140737488355328:=by omega
 have h3:=fun fr=>Zbqj xs h fr 0 (Nat.zero_le _)
 simp [fill_zero] at h3;simp [Zbaq,h1,h2,h3]
theorem Zbql (xs ys:List (List Int)) (h:SmL SmA xs) (hl:ys.length=xs.length) (fr:List Fr):∀ i,i≤xs.length→EvL C fr [0,1,5] Zkb ⟨[(0,L 1 (xs.map isc)),(1,L 1 (ys.map isc)),(5,I i)],[[]],[]⟩ =
  if xs.drop i=ys.drop i then EvX C fr (.x 0) ⟨[(0,L 1 (xs.map isc)),(1,L 1 (ys.map isc)),(5,I xs.length),(14,Bo false)],[[]],[]⟩ else EvX C fr .r ⟨[(4,Bo false)],[[]],[]⟩:=by
 have hm:xs.length≤4294967296:=h.1;refine down xs.length ?_ ?_
 ·rw [EvL_eq Zkb.eq_1];simp [hl,List.drop_eq_nil_of_le]
 ·intro i hi ih;have hi2:i<ys.length:=by omega
  have h4:IntKind.wrap .i64 ((i:Int)+1)=(i:Int)+1:=wrap64 (by omega) (by omega);rw [EvL_eq Zkb.eq_1];simp +decide [hi,hi2,Zyo _ _ (h.2 _ (List.getElem_mem hi)),h4];simp at ih;simp only [drop_eq_iff hi hi2,ih];split <;> first | (simp_all;done) | grind
theorem Zbbo (xs ys:List (List Int)) (h:SmL SmA xs):C Znz [L 1 (xs.map isc),L 1 (ys.map isc)] []=some (Bo (decide (xs=ys)),[]):=by
 refine run Zyd rfl ?_;by_cases hl:ys.length=xs.length
 ·have h3:=fun fr=>Zbql xs ys h hl fr 0 (Nat.zero_le _)
  simp at h3;simp [Zni,h3,hl];split <;> simp_all
 ·have h1:xs≠ys:=fun h=>hl (by rw [h])
  have h2:¬ ((xs.length:Int)=ys.length):=by omega
  simp [Zni,h1,h2]
theorem Zbqm (xs:List (List Int)) (h:OkL (OkL OkI) xs) (fr:List Fr):∀ i,i≤xs.length→∀ left:Int,
  (EvL C fr [0,1,5] Zhl ⟨[(0,L 1 (xs.map isc)),(1,I left),(5,I i)],[[]],[]⟩=EvX C fr .r ⟨[(4,I (-1))],[[]],[]⟩∧szFold szI (xs.drop i) left=-1) ∨
  EvL C fr [0,1,5] Zhl ⟨[(0,L 1 (xs.map isc)),(1,I left),(5,I i)],[[]],[]⟩=EvX C fr (.x 0) ⟨[(0,L 1 (xs.map isc)),(1,I (szFold szI (xs.drop i) left)),(5,I xs.length),(15,Bo false)],[[]],[]⟩:=by
 have hm:maxLen≤9223372036854775807:=by decide
 have hl:=h.1;refine down xs.length ?_ ?_
 ·intro left;right;rw [EvL_eq Zhl.eq_1];simp [List.drop_eq_nil_of_le,szFold]
 ·intro i hi ih left;have h4:IntKind.wrap .i64 ((i:Int)+1)=(i:Int)+1:=wrap64 (by omega) (by omega);have e:EvL C fr [0,1,5] Zhl ⟨[(0,L 1 (xs.map isc)),(1,I left),(5,I i)],[[]],[]⟩=if szI xs[i] left<0 then EvX C fr .r ⟨[(4,I (-1))],[[]],[]⟩ else EvL C fr [0,1,5] Zhl ⟨[(0,L 1 (xs.map isc)),(1,I (szI xs[i] left)),(5,I ((i+1:Nat):Int))],[[]],[]⟩:=by
   rw [EvL_eq Zhl.eq_1];simp [hi,Zbbn,h4]
  rw [e,List.drop_eq_getElem_cons hi,szFold];split
  ·exact .inl ⟨rfl,rfl⟩
  ·exact ih _
theorem Zbqn (xs:List (List Int)) (left:Int) (h:OkL (OkL OkI) xs):C Zbc7 [L 1 (xs.map isc),I left] []=some (I (szL szI xs left),[]):=by
 refine run Zbpm rfl ?_;have h3:=fun fr l=>Zbqm xs h fr 0 (Nat.zero_le _) l
 simp at h3;simp [Zbam,szL,andSz,sz1];split
 ·simp_all
 ·rcases h3 [.blk 0,.seq _,.fin _ _] (IntKind.wrap .i64 (left - xs.length)) with ⟨h5,h6⟩ | h5
  ·rw [h5];simp [h6]
  ·rw [h5];simp
theorem Zbqo (x0:ByteArray) (x1:Int) (x2:List (List Int)) (h2:SmL SmA x2):C Zbdx [.agg [.t (.str x0),I x1,.t (tII x2)]] []=some (.agg [.t (.str x0),I x1,.own 0],[.arr Zhr 1 true (x2.map isc)]):=by
 refine run Zbqc rfl ?_;simp [Zbbe,Zbqk _ h2]
theorem Zbqp (x0:ByteArray) (x1:Int) (x2:List (List Int)) (y0:ByteArray) (y1:Int) (y2:List (List Int)) (h2:SmL SmA x2):C Zbdy [.agg [.t (.str x0),I x1,.t (tII x2)],.agg [.t (.str y0),I y1,.t (tII y2)]] []=some (Bo (decide (x0=y0∧x1=y1∧x2=y2)),[]):=by
 refine run Zbqd rfl ?_;simp [Zbbf,Zbbo _ _ h2]
 repeat' split
 all_goals first | (simp_all;done) | grind
theorem Zbqq (x0:ByteArray) (x1:Int) (x2:List (List Int)) (left:Int) (h2:OkL (OkL OkI) x2):C Zbdw [.agg [.t (.str x0),I x1,.t (tII x2)],I left] []=some (I (Zh.sz ⟨x0,x1,x2⟩ left),[]):=by
 refine run Zbqb rfl ?_;simp [Zbbd,Zbqn _ _ h2,Zh.sz,andSz,sz1]
 repeat' split
 all_goals first | (simp_all;done) | grind
theorem Zbqr (xs:List Zh) (h:SmL Zh.small xs) (fr:List Fr):∀ i,i≤xs.length→EvL C fr [0,3,4] Zra ⟨[(0,L 3 (xs.map Zh.c)),(3,.own 0),(4,I i)],[[]],[.arr Zn2 3 true (fill Zh.c [.str ⟨#[]⟩,.int .i64 0,.lst 1 []] xs i)]⟩ =
  EvX C fr (.x 0) ⟨[(0,L 3 (xs.map Zh.c)),(3,.own 0),(4,I xs.length),(11,Bo false)],[[]],[.arr Zn2 3 true (xs.map Zh.c)]⟩:=by
 have hl:xs.length≤4294967296:=h.1;refine down xs.length ?_ ?_
 ·rw [EvL_eq Zra.eq_1];simp [fill_all]
 ·intro i hi ih;rw [EvL_eq Zra.eq_1,← ih];have h1:=fill_set (f:=Zh.c) (z:=[.str ⟨#[]⟩,.int .i64 0,.lst 1 []]) hi;have h3:=fill_len (f:=Zh.c) (z:=[.str ⟨#[]⟩,.int .i64 0,.lst 1 []]) (Nat.le_of_lt hi);have h4:IntKind.wrap .i64 ((i:Int)+1)=(i:Int)+1:=wrap64 (by omega) (by omega);simp at h1;simp [hi,Zbqo _ _ _ (h.2 _ (List.getElem_mem hi)).2,h3,h4,h1]
theorem Zbqs (xs:List Zh) (h:SmL Zh.small xs):C Zbdh [L 3 (xs.map Zh.c)] []=some (.own 0,[.arr Zn2 3 true (xs.map Zh.c)]):=by
 refine run Zbpw rfl ?_;have hl:xs.length≤4294967296:=h.1;have h1:∀ b,b≤4096→xs.length*b≤room:=fun b hb=>Nat.le_trans (Nat.mul_le_mul hl hb) (by decide)
 have h2:(xs.length:Int)≤140737488355328:=by omega
 have h3:=fun fr=>Zbqr xs h fr 0 (Nat.zero_le _)
 simp [fill_zero] at h3;simp [Zbav,h1,h2,h3]
theorem Zbqt (xs ys:List Zh) (h:SmL Zh.small xs) (hl:ys.length=xs.length) (fr:List Fr):∀ i,i≤xs.length→EvL C fr [0,1,5] Zrb ⟨[(0,L 3 (xs.map Zh.c)),(1,L 3 (ys.map Zh.c)),(5,I i)],[[]],[]⟩ =
  if xs.drop i=ys.drop i then EvX C fr (.x 0) ⟨[(0,L 3 (xs.map Zh.c)),(1,L 3 (ys.map Zh.c)),(5,I xs.length),(14,Bo false)],[[]],[]⟩ else EvX C fr .r ⟨[(4,Bo false)],[[]],[]⟩:=by
 have hm:xs.length≤4294967296:=h.1;refine down xs.length ?_ ?_
 ·rw [EvL_eq Zrb.eq_1];simp [hl,List.drop_eq_nil_of_le]
 ·intro i hi ih;have hi2:i<ys.length:=by omega
  have h4:IntKind.wrap .i64 ((i:Int)+1)=(i:Int)+1:=wrap64 (by omega) (by omega);rw [EvL_eq Zrb.eq_1];simp +decide [hi,hi2,Zbqp _ _ _ _ _ _ (h.2 _ (List.getElem_mem hi)).2,h4];simp at ih;simp only [drop_eq_iff hi hi2,ih,Zh.ext_iff];split <;> first | (simp_all;done) | grind
theorem Zbqu (xs ys:List Zh) (h:SmL Zh.small xs):C Zbdi [L 3 (xs.map Zh.c),L 3 (ys.map Zh.c)] []=some (Bo (decide (xs=ys)),[]):=by
 refine run Zbpx rfl ?_;by_cases hl:ys.length=xs.length
 ·have h3:=fun fr=>Zbqt xs ys h hl fr 0 (Nat.zero_le _)
  simp at h3;simp [Zyf,h3,hl];split <;> simp_all
 ·have h1:xs≠ys:=fun h=>hl (by rw [h])
  have h2:¬ ((xs.length:Int)=ys.length):=by omega
  simp [Zyf,h1,h2]
theorem Zbqv (xs:List Zh) (h:OkL Zh.okay xs) (fr:List Fr):∀ i,i≤xs.length→∀ left:Int,
  (EvL C fr [0,1,5] Zhm ⟨[(0,L 3 (xs.map Zh.c)),(1,I left),(5,I i)],[[]],[]⟩=EvX C fr .r ⟨[(4,I (-1))],[[]],[]⟩∧szFold Zh.sz (xs.drop i) left=-1) ∨
  EvL C fr [0,1,5] Zhm ⟨[(0,L 3 (xs.map Zh.c)),(1,I left),(5,I i)],[[]],[]⟩=EvX C fr (.x 0) ⟨[(0,L 3 (xs.map Zh.c)),(1,I (szFold Zh.sz (xs.drop i) left)),(5,I xs.length),(15,Bo false)],[[]],[]⟩:=by
 have hm:maxLen≤9223372036854775807:=by decide
 have hl:=h.1;refine down xs.length ?_ ?_
 ·intro left;right;rw [EvL_eq Zhm.eq_1];simp [List.drop_eq_nil_of_le,szFold]
 ·intro i hi ih left;have h4:IntKind.wrap .i64 ((i:Int)+1)=(i:Int)+1:=wrap64 (by omega) (by omega);have e:EvL C fr [0,1,5] Zhm ⟨[(0,L 3 (xs.map Zh.c)),(1,I left),(5,I i)],[[]],[]⟩=if Zh.sz xs[i] left<0 then EvX C fr .r ⟨[(4,I (-1))],[[]],[]⟩ else EvL C fr [0,1,5] Zhm ⟨[(0,L 3 (xs.map Zh.c)),(1,I (Zh.sz xs[i] left)),(5,I ((i+1:Nat):Int))],[[]],[]⟩:=by
   rw [EvL_eq Zhm.eq_1];simp [hi,Zbqq _ _ _ _ (h.2 _ (List.getElem_mem hi)).2.2,h4]
  rw [e,List.drop_eq_getElem_cons hi,szFold];split
  ·exact .inl ⟨rfl,rfl⟩
  ·exact ih _
theorem Zbqw (xs:List Zh) (left:Int) (h:OkL Zh.okay xs):C Zbdg [L 3 (xs.map Zh.c),I left] []=some (I (szL Zh.sz xs left),[]):=by
 refine run Zbpv rfl ?_;have h3:=fun fr l=>Zbqv xs h fr 0 (Nat.zero_le _) l
 simp at h3;simp [Zbau,szL,andSz,sz1];split
 ·simp_all
 ·rcases h3 [.blk 0,.seq _,.fin _ _] (IntKind.wrap .i64 (left - xs.length)) with ⟨h5,h6⟩ | h5
  ·rw [h5];simp [h6]
  ·rw [h5];simp
theorem Zbqx (x0:List Zh) (h0:SmL Zh.small x0):C Zbcv [.agg [.t (.lst 3 (x0.map Zh.c))]] []=some (.agg [.own 0],[.arr Zn2 3 true (x0.map Zh.c)]):=by
 refine run Zbpa rfl ?_;simp [Zbaa,Zbqs _ h0]
theorem Zbqy (x0 y0:List Zh) (h0:SmL Zh.small x0):C Zbcw [.agg [.t (.lst 3 (x0.map Zh.c))],.agg [.t (.lst 3 (y0.map Zh.c))]] []=some (Bo (decide (x0=y0)),[]):=by
 refine run Zbpb rfl ?_;simp [Zbab,Zbqu _ _ h0]
 repeat' split
 all_goals first | (simp_all;done) | grind
theorem Zbqz (x0:List Zh) (left:Int) (h0:OkL Zh.okay x0):C Zbcu [.agg [.t (.lst 3 (x0.map Zh.c))],I left] []=some (I (Zk.sz ⟨x0⟩ left),[]):=by
 refine run Zbo9 rfl ?_;simp [Z99,Zbqw _ _ h0,Zk.sz,andSz,sz1]
 repeat' split
 all_goals first | (simp_all;done) | grind
theorem c_toAtom (x0:ByteArray) (x1:List Int) (h1:SmA x1):C Zbds [.agg [.t (.str x0),.t (tI x1)]] []=some (.agg [.t (.str x0),.own 0],[.arr Zbg 1 true (x1.map ic)]):=by
 refine run Zbp7 rfl ?_;simp [Zba9,Zbbm _ h1]
theorem c_eqAtom (x0:ByteArray) (x1:List Int) (y0:ByteArray) (y1:List Int) (h1:SmA x1):C Zbdu [.agg [.t (.str x0),.t (tI x1)],.agg [.t (.str y0),.t (tI y1)]] []=some (Bo (decide (x0=y0∧x1=y1)),[]):=by
 refine run Zbp9 rfl ?_;simp [Zbba,Zyo _ _ h1]
 repeat' split
 all_goals first | (simp_all;done) | grind
theorem c_szAtom (x0:ByteArray) (x1:List Int) (left:Int) :C Zbdq [.agg [.t (.str x0),.t (tI x1)],I left] []=some (I (Atom.sz ⟨x0,x1⟩ left),[]):=by
 refine run Zbp5 rfl ?_;simp [Zba7,Zbbn,Atom.sz,andSz,sz1]
 repeat' split
 all_goals first | (simp_all;done) | grind
theorem Zbq0 (xs:List Atom) (h:SmL Atom.small xs) (fr:List Fr):∀ i,i≤xs.length→EvL C fr [0,3,4] Zq4 ⟨[(0,L 2 (xs.map Atom.c)),(3,.own 0),(4,I i)],[[]],[.arr Zn1 2 true (fill Atom.c [.str ⟨#[]⟩,.lst 1 []] xs i)]⟩ =
  EvX C fr (.x 0) ⟨[(0,L 2 (xs.map Atom.c)),(3,.own 0),(4,I xs.length),(11,Bo false)],[[]],[.arr Zn1 2 true (xs.map Atom.c)]⟩:=by
 have hl:xs.length≤4294967296:=h.1;refine down xs.length ?_ ?_
 ·rw [EvL_eq Zq4.eq_1];simp [fill_all]
 ·intro i hi ih;rw [EvL_eq Zq4.eq_1,← ih];have h1:=fill_set (f:=Atom.c) (z:=[.str ⟨#[]⟩,.lst 1 []]) hi;have h3:=fill_len (f:=Atom.c) (z:=[.str ⟨#[]⟩,.lst 1 []]) (Nat.le_of_lt hi);have h4:IntKind.wrap .i64 ((i:Int)+1)=(i:Int)+1:=wrap64 (by omega) (by omega);simp at h1;simp [hi,c_toAtom _ _ (h.2 _ (List.getElem_mem hi)).2,h3,h4,h1]
theorem Zbq1 (xs:List Atom) (h:SmL Atom.small xs):C Zbc9 [L 2 (xs.map Atom.c)] []=some (.own 0,[.arr Zn1 2 true (xs.map Atom.c)]):=by
 refine run Zbpo rfl ?_;have hl:xs.length≤4294967296:=h.1;have h1:∀ b,b≤4096→xs.length*b≤room:=fun b hb=>Nat.le_trans (Nat.mul_le_mul hl hb) (by decide)
 have h2:(xs.length:Int)≤140737488355328:=by omega
 have h3:=fun fr=>Zbq0 xs h fr 0 (Nat.zero_le _)
 simp [fill_zero] at h3;simp [Zbao,h1,h2,h3]
theorem Zbq2 (xs ys:List Atom) (h:SmL Atom.small xs) (hl:ys.length=xs.length) (fr:List Fr):∀ i,i≤xs.length→EvL C fr [0,1,5] Zq7 ⟨[(0,L 2 (xs.map Atom.c)),(1,L 2 (ys.map Atom.c)),(5,I i)],[[]],[]⟩ =
  if xs.drop i=ys.drop i then EvX C fr (.x 0) ⟨[(0,L 2 (xs.map Atom.c)),(1,L 2 (ys.map Atom.c)),(5,I xs.length),(14,Bo false)],[[]],[]⟩ else EvX C fr .r ⟨[(4,Bo false)],[[]],[]⟩:=by
 have hm:xs.length≤4294967296:=h.1;refine down xs.length ?_ ?_
 ·rw [EvL_eq Zq7.eq_1];simp [hl,List.drop_eq_nil_of_le]
 ·intro i hi ih;have hi2:i<ys.length:=by omega
  have h4:IntKind.wrap .i64 ((i:Int)+1)=(i:Int)+1:=wrap64 (by omega) (by omega);rw [EvL_eq Zq7.eq_1];simp +decide [hi,hi2,c_eqAtom _ _ _ _ (h.2 _ (List.getElem_mem hi)).2,h4];simp at ih;simp only [drop_eq_iff hi hi2,ih,Atom.ext_iff];split <;> first | (simp_all;done) | grind
theorem Zbq3 (xs ys:List Atom) (h:SmL Atom.small xs):C Zbdd [L 2 (xs.map Atom.c),L 2 (ys.map Atom.c)] []=some (Bo (decide (xs=ys)),[]):=by
 refine run Zbps rfl ?_;by_cases hl:ys.length=xs.length
 ·have h3:=fun fr=>Zbq2 xs ys h hl fr 0 (Nat.zero_le _)
  simp at h3;simp [Zyc,h3,hl];split <;> simp_all
 ·have h1:xs≠ys:=fun h=>hl (by rw [h])
  have h2:¬ ((xs.length:Int)=ys.length):=by omega
  simp [Zyc,h1,h2]
theorem Zbq4 (xs:List Atom) (h:OkL Atom.okay xs) (fr:List Fr):∀ i,i≤xs.length→∀ left:Int,
  (EvL C fr [0,1,5] Zhk ⟨[(0,L 2 (xs.map Atom.c)),(1,I left),(5,I i)],[[]],[]⟩=EvX C fr .r ⟨[(4,I (-1))],[[]],[]⟩∧szFold Atom.sz (xs.drop i) left=-1) ∨
  EvL C fr [0,1,5] Zhk ⟨[(0,L 2 (xs.map Atom.c)),(1,I left),(5,I i)],[[]],[]⟩=EvX C fr (.x 0) ⟨[(0,L 2 (xs.map Atom.c)),(1,I (szFold Atom.sz (xs.drop i) left)),(5,I xs.length),(15,Bo false)],[[]],[]⟩:=by
 have hm:maxLen≤9223372036854775807:=by decide
 have hl:=h.1;refine down xs.length ?_ ?_
 ·intro left;right;rw [EvL_eq Zhk.eq_1];simp [List.drop_eq_nil_of_le,szFold]
 ·intro i hi ih left;have h4:IntKind.wrap .i64 ((i:Int)+1)=(i:Int)+1:=wrap64 (by omega) (by omega);have e:EvL C fr [0,1,5] Zhk ⟨[(0,L 2 (xs.map Atom.c)),(1,I left),(5,I i)],[[]],[]⟩=if Atom.sz xs[i] left<0 then EvX C fr .r ⟨[(4,I (-1))],[[]],[]⟩ else EvL C fr [0,1,5] Zhk ⟨[(0,L 2 (xs.map Atom.c)),(1,I (Atom.sz xs[i] left)),(5,I ((i+1:Nat):Int))],[[]],[]⟩:=by
   rw [EvL_eq Zhk.eq_1];simp [hi,c_szAtom,h4]
  rw [e,List.drop_eq_getElem_cons hi,szFold];split
  ·exact .inl ⟨rfl,rfl⟩
  ·exact ih _
theorem Zbq5 (xs:List Atom) (left:Int) (h:OkL Atom.okay xs):C Zbc5 [L 2 (xs.map Atom.c),I left] []=some (I (szL Atom.sz xs left),[]):=by
 refine run Zbpk rfl ?_;have h3:=fun fr l=>Zbq4 xs h fr 0 (Nat.zero_le _) l
 simp at h3;simp [Zbak,szL,andSz,sz1];split
 ·simp_all
 ·rcases h3 [.blk 0,.seq _,.fin _ _] (IntKind.wrap .i64 (left - xs.length)) with ⟨h5,h6⟩ | h5
  ·rw [h5];simp [h6]
  ·rw [h5];simp
theorem Zbq6 (x0:Int) (x1:List Atom) (h1:SmL Atom.small x1):C Zbcp [.agg [I x0,.t (.lst 2 (x1.map Atom.c))]] []=some (.agg [I x0,.own 0],[.arr Zn1 2 true (x1.map Atom.c)]):=by
 refine run Zbo4 rfl ?_;simp [Z92,Zbq1 _ h1]
theorem Zbq7 (x0:Int) (x1:List Atom) (y0:Int) (y1:List Atom) (h1:SmL Atom.small x1):C Zbcr [.agg [I x0,.t (.lst 2 (x1.map Atom.c))],.agg [I y0,.t (.lst 2 (y1.map Atom.c))]] []=some (Bo (decide (x0=y0∧x1=y1)),[]):=by
 refine run Zbo6 rfl ?_;simp [Z95,Zbq3 _ _ h1]
 repeat' split
 all_goals first | (simp_all;done) | grind
theorem Zbq8 (x0:Int) (x1:List Atom) (left:Int) (h1:OkL Atom.okay x1):C Zbcn [.agg [I x0,.t (.lst 2 (x1.map Atom.c))],I left] []=some (I (Zd.sz ⟨x0,x1⟩ left),[]):=by
 refine run Zbo2 rfl ?_;simp [Z90,Zbq5 _ _ h1,Zd.sz,andSz,sz1]
 repeat' split
 all_goals first | (simp_all;done) | grind
theorem Zbq9 (x0 x1:Int) :C Zbd2 [.agg [I x0,I x1]] []=some (.agg [I x0,I x1],[]):=by
 refine run Zbqh rfl ?_;simp [Zbbk]
theorem Zbra (x0 x1 y0 y1:Int) :C Zbd3 [.agg [I x0,I x1],.agg [I y0,I y1]] []=some (Bo (decide (x0=y0∧x1=y1)),[]):=by
 refine run Zbqi rfl ?_;simp [Zbbl]
 repeat' split
 all_goals first | (simp_all;done) | grind
theorem Zbrb (xs:List Zg) (h:SmA xs) (fr:List Fr):∀ i,i≤xs.length→EvL C fr [0,3,4] Zrh ⟨[(0,L 2 (xs.map Zg.c)),(3,.own 0),(4,I i)],[[]],[.arr Zec 2 true (fill Zg.c [.int .i64 0,.int .i64 0] xs i)]⟩ =
  EvX C fr (.x 0) ⟨[(0,L 2 (xs.map Zg.c)),(3,.own 0),(4,I xs.length),(11,Bo false)],[[]],[.arr Zec 2 true (xs.map Zg.c)]⟩:=by
 have hl:xs.length≤4294967296:=h;refine down xs.length ?_ ?_
 ·rw [EvL_eq Zrh.eq_1];simp [fill_all]
 ·intro i hi ih;rw [EvL_eq Zrh.eq_1,← ih];have h1:=fill_set (f:=Zg.c) (z:=[.int .i64 0,.int .i64 0]) hi;have h3:=fill_len (f:=Zg.c) (z:=[.int .i64 0,.int .i64 0]) (Nat.le_of_lt hi);have h4:IntKind.wrap .i64 ((i:Int)+1)=(i:Int)+1:=wrap64 (by omega) (by omega);simp at h1;simp [hi,Zbq9,h3,h4,h1]
theorem Zbrc (xs:List Zg) (h:SmA xs):C Zbdr [L 2 (xs.map Zg.c)] []=some (.own 0,[.arr Zec 2 true (xs.map Zg.c)]):=by
 refine run Zbp6 rfl ?_;have hl:xs.length≤4294967296:=h;have h1:∀ b,b≤4096→xs.length*b≤room:=fun b hb=>Nat.le_trans (Nat.mul_le_mul hl hb) (by decide)
 have h2:(xs.length:Int)≤140737488355328:=by omega
 have h3:=fun fr=>Zbrb xs h fr 0 (Nat.zero_le _)
 simp [fill_zero] at h3;simp [Zba8,h1,h2,h3]
theorem Zbrd (xs ys:List Zg) (h:SmA xs) (hl:ys.length=xs.length) (fr:List Fr):∀ i,i≤xs.length→EvL C fr [0,1,5] Zri ⟨[(0,L 2 (xs.map Zg.c)),(1,L 2 (ys.map Zg.c)),(5,I i)],[[]],[]⟩ =
  if xs.drop i=ys.drop i then EvX C fr (.x 0) ⟨[(0,L 2 (xs.map Zg.c)),(1,L 2 (ys.map Zg.c)),(5,I xs.length),(14,Bo false)],[[]],[]⟩ else EvX C fr .r ⟨[(4,Bo false)],[[]],[]⟩:=by
 have hm:xs.length≤4294967296:=h;refine down xs.length ?_ ?_
 ·rw [EvL_eq Zri.eq_1];simp [hl,List.drop_eq_nil_of_le]
 ·intro i hi ih;have hi2:i<ys.length:=by omega
  have h4:IntKind.wrap .i64 ((i:Int)+1)=(i:Int)+1:=wrap64 (by omega) (by omega);rw [EvL_eq Zri.eq_1];simp +decide [hi,hi2,Zbra _ _ _ _ ,h4];simp at ih;simp only [drop_eq_iff hi hi2,ih,Zg.ext_iff];split <;> first | (simp_all;done) | grind
theorem Zbre (xs ys:List Zg) (h:SmA xs):C Zbdt [L 2 (xs.map Zg.c),L 2 (ys.map Zg.c)] []=some (Bo (decide (xs=ys)),[]):=by
 refine run Zbp8 rfl ?_;by_cases hl:ys.length=xs.length
 ·have h3:=fun fr=>Zbrd xs ys h hl fr 0 (Nat.zero_le _)
  simp at h3;simp [Zyl,h3,hl];split <;> simp_all
 ·have h1:xs≠ys:=fun h=>hl (by rw [h])
  have h2:¬ ((xs.length:Int)=ys.length):=by omega
  simp [Zyl,h1,h2]
@[simp] theorem Zbrf (es:List (List T)) (left:Int):C Zbdp [L 2 es,I left] []=some (I (sz1 es.length left),[]):=by
 refine run Zbp4 rfl ?_;simp [Zba6,sz1];split <;> simp_all
theorem Zno (x0 x1 x2 x3 x4:Int) (x5:List Zg) (h5:SmA x5):C Zbc8 [.agg [I x0,I x1,I x2,I x3,I x4,.t (.lst 2 (x5.map Zg.c))]] []=some (.agg [I x0,I x1,I x2,I x3,I x4,.own 0],[.arr Zec 2 true (x5.map Zg.c)]):=by
 refine run Zbpn rfl ?_;simp [Zban,Zbrc _ h5]
theorem Znp (x0 x1 x2 x3 x4:Int) (x5:List Zg) (y0 y1 y2 y3 y4:Int) (y5:List Zg) (h5:SmA x5):C Zbdc [.agg [I x0,I x1,I x2,I x3,I x4,.t (.lst 2 (x5.map Zg.c))],.agg [I y0,I y1,I y2,I y3,I y4,.t (.lst 2 (y5.map Zg.c))]] []=some (Bo (decide (x0=y0∧x1=y1∧x2=y2∧x3=y3∧x4=y4∧x5=y5)),[]):=by
 refine run Zbpr rfl ?_;simp [Zbar,Zbre _ _ h5]
 repeat' split
 all_goals first | (simp_all;done) | grind
theorem Zbrg (x0 x1 x2 x3 x4:Int) (x5:List Zg) (left:Int) :C Zbc4 [.agg [I x0,I x1,I x2,I x3,I x4,.t (.lst 2 (x5.map Zg.c))],I left] []=some (I (Zi.sz ⟨x0,x1,x2,x3,x4,x5⟩ left),[]):=by
 refine run Zbpj rfl ?_;simp [Zbaj,Zbrf,Zi.sz,andSz,sz1]
 repeat' split
 all_goals first | (simp_all;done) | grind
theorem Zbrh (x0 x1 x2 x3 x4:Int) (x5:List Zg) (x6 x7 x8 x9 x10:Int) (x11:List Zg) (x12 x13 x14 x15 x16:Int) (x17:List Zg) (x18 x19 x20 x21 x22:Int) (x23:List Zg) (x24 x25 x26 x27 x28:Int) (x29:List Zg) (h5:SmA x5) (h11:SmA x11) (h17:SmA x17) (h23:SmA x23) (h29:SmA x29):C Zbco [.agg [I x0,I x1,I x2,I x3,I x4,.t (.lst 2 (x5.map Zg.c)),I x6,I x7,I x8,I x9,I x10,.t (.lst 2 (x11.map Zg.c)),I x12,I x13,I x14,I x15,I x16,.t (.lst 2 (x17.map Zg.c)),I x18,I x19,I x20,I x21,I x22,.t (.lst 2 (x23.map Zg.c)),I x24,I x25,I x26,I x27,I x28,.t (.lst 2 (x29.map Zg.c))]] []=some (.agg [I x0,I x1,I x2,I x3,I x4,.own 0,I x6,I x7,I x8,I x9,I x10,.own 1,I x12,I x13,I x14,I x15,I x16,.own 2,I x18,I x19,I x20,I x21,I x22,.own 3,I x24,I x25,I x26,I x27,I x28,.own 4],[.arr Zec 2 true (x5.map Zg.c),.arr Zec 2 true (x11.map Zg.c),.arr Zec 2 true (x17.map Zg.c),.arr Zec 2 true (x23.map Zg.c),.arr Zec 2 true (x29.map Zg.c)]):=by
 refine run Zbo3 rfl ?_;simp [Z91,Zno _ _ _ _ _ _ h5,Zno _ _ _ _ _ _ h11,Zno _ _ _ _ _ _ h17,Zno _ _ _ _ _ _ h23,Zno _ _ _ _ _ _ h29]
theorem Zbri (x0 x1 x2 x3 x4:Int) (x5:List Zg) (x6 x7 x8 x9 x10:Int) (x11:List Zg) (x12 x13 x14 x15 x16:Int) (x17:List Zg) (x18 x19 x20 x21 x22:Int) (x23:List Zg) (x24 x25 x26 x27 x28:Int) (x29:List Zg) (y0 y1 y2 y3 y4:Int) (y5:List Zg) (y6 y7 y8 y9 y10:Int) (y11:List Zg) (y12 y13 y14 y15 y16:Int) (y17:List Zg) (y18 y19 y20 y21 y22:Int) (y23:List Zg) (y24 y25 y26 y27 y28:Int) (y29:List Zg) (h5:SmA x5) (h11:SmA x11) (h17:SmA x17) (h23:SmA x23) (h29:SmA x29):C Zbcq [.agg [I x0,I x1,I x2,I x3,I x4,.t (.lst 2 (x5.map Zg.c)),I x6,I x7,I x8,I x9,I x10,.t (.lst 2 (x11.map Zg.c)),I x12,I x13,I x14,I x15,I x16,.t (.lst 2 (x17.map Zg.c)),I x18,I x19,I x20,I x21,I x22,.t (.lst 2 (x23.map Zg.c)),I x24,I x25,I x26,I x27,I x28,.t (.lst 2 (x29.map Zg.c))],.agg [I y0,I y1,I y2,I y3,I y4,.t (.lst 2 (y5.map Zg.c)),I y6,I y7,I y8,I y9,I y10,.t (.lst 2 (y11.map Zg.c)),I y12,I y13,I y14,I y15,I y16,.t (.lst 2 (y17.map Zg.c)),I y18,I y19,I y20,I y21,I y22,.t (.lst 2 (y23.map Zg.c)),I y24,I y25,I y26,I y27,I y28,.t (.lst 2 (y29.map Zg.c))]] []=some (Bo (decide (x0=y0∧x1=y1∧x2=y2∧x3=y3∧x4=y4∧x5=y5∧x6=y6∧x7=y7∧x8=y8∧x9=y9∧x10=y10∧x11=y11∧x12=y12∧x13=y13∧x14=y14∧x15=y15∧x16=y16∧x17=y17∧x18=y18∧x19=y19∧x20=y20∧x21=y21∧x22=y22∧x23=y23∧x24=y24∧x25=y25∧x26=y26∧x27=y27∧x28=y28∧x29=y29)),[]):=by
 refine run Zbo5 rfl ?_;simp [Z94,Znp _ _ _ _ _ _ _ _ _ _ _ _ h5,Znp _ _ _ _ _ _ _ _ _ _ _ _ h11,Znp _ _ _ _ _ _ _ _ _ _ _ _ h17,Znp _ _ _ _ _ _ _ _ _ _ _ _ h23,Znp _ _ _ _ _ _ _ _ _ _ _ _ h29]
 repeat' split
 all_goals first | (simp_all;done) | grind
theorem Zbrj (x0 x1 x2 x3 x4:Int) (x5:List Zg) (x6 x7 x8 x9 x10:Int) (x11:List Zg) (x12 x13 x14 x15 x16:Int) (x17:List Zg) (x18 x19 x20 x21 x22:Int) (x23:List Zg) (x24 x25 x26 x27 x28:Int) (x29:List Zg) (left:Int) :C Zbcm [.agg [I x0,I x1,I x2,I x3,I x4,.t (.lst 2 (x5.map Zg.c)),I x6,I x7,I x8,I x9,I x10,.t (.lst 2 (x11.map Zg.c)),I x12,I x13,I x14,I x15,I x16,.t (.lst 2 (x17.map Zg.c)),I x18,I x19,I x20,I x21,I x22,.t (.lst 2 (x23.map Zg.c)),I x24,I x25,I x26,I x27,I x28,.t (.lst 2 (x29.map Zg.c))],I left] []=some (I (Zj.sz ⟨⟨x0,x1,x2,x3,x4,x5⟩,⟨x6,x7,x8,x9,x10,x11⟩,⟨x12,x13,x14,x15,x16,x17⟩,⟨x18,x19,x20,x21,x22,x23⟩,⟨x24,x25,x26,x27,x28,x29⟩⟩ left),[]):=by
 refine run Zbo1 rfl ?_;simp [Z9z,Zbrg,Zj.sz,andSz,sz1]
 repeat' split
 all_goals first | (simp_all;done) | grind
theorem Zbrk (x0 x1 x2:Int) :C Zbd0 [.agg [I x0,I x1,I x2]] []=some (.agg [I x0,I x1,I x2],[]):=by
 refine run Zbqf rfl ?_;simp [Zbbh]
theorem Zbrl (x0 x1 x2 y0 y1 y2:Int) :C Zbdz [.agg [I x0,I x1,I x2],.agg [I y0,I y1,I y2]] []=some (Bo (decide (x0=y0∧x1=y1∧x2=y2)),[]):=by
 refine run Zbqe rfl ?_;simp [Zbbg]
 repeat' split
 all_goals first | (simp_all;done) | grind
theorem Zbrm (xs:List Ze) (h:SmA xs) (fr:List Fr):∀ i,i≤xs.length→EvL C fr [0,3,4] Zrf ⟨[(0,L 3 (xs.map Ze.c)),(3,.own 0),(4,I i)],[[]],[.arr Zn0 3 true (fill Ze.c [.int .i64 0,.int .i64 0,.int .i64 0] xs i)]⟩ =
  EvX C fr (.x 0) ⟨[(0,L 3 (xs.map Ze.c)),(3,.own 0),(4,I xs.length),(11,Bo false)],[[]],[.arr Zn0 3 true (xs.map Ze.c)]⟩:=by
 have hl:xs.length≤4294967296:=h;refine down xs.length ?_ ?_
 ·rw [EvL_eq Zrf.eq_1];simp [fill_all]
 ·intro i hi ih;rw [EvL_eq Zrf.eq_1,← ih];have h1:=fill_set (f:=Ze.c) (z:=[.int .i64 0,.int .i64 0,.int .i64 0]) hi;have h3:=fill_len (f:=Ze.c) (z:=[.int .i64 0,.int .i64 0,.int .i64 0]) (Nat.le_of_lt hi);have h4:IntKind.wrap .i64 ((i:Int)+1)=(i:Int)+1:=wrap64 (by omega) (by omega);simp at h1;simp [hi,Zbrk,h3,h4,h1]
theorem Zbrn (xs:List Ze) (h:SmA xs):C Zbdn [L 3 (xs.map Ze.c)] []=some (.own 0,[.arr Zn0 3 true (xs.map Ze.c)]):=by
 refine run Zbp2 rfl ?_;have hl:xs.length≤4294967296:=h;have h1:∀ b,b≤4096→xs.length*b≤room:=fun b hb=>Nat.le_trans (Nat.mul_le_mul hl hb) (by decide)
 have h2:(xs.length:Int)≤140737488355328:=by omega
 have h3:=fun fr=>Zbrm xs h fr 0 (Nat.zero_le _)
 simp [fill_zero] at h3;simp [Zbaz,h1,h2,h3]
theorem Zbro (xs ys:List Ze) (h:SmA xs) (hl:ys.length=xs.length) (fr:List Fr):∀ i,i≤xs.length→EvL C fr [0,1,5] Zrc ⟨[(0,L 3 (xs.map Ze.c)),(1,L 3 (ys.map Ze.c)),(5,I i)],[[]],[]⟩ =
  if xs.drop i=ys.drop i then EvX C fr (.x 0) ⟨[(0,L 3 (xs.map Ze.c)),(1,L 3 (ys.map Ze.c)),(5,I xs.length),(14,Bo false)],[[]],[]⟩ else EvX C fr .r ⟨[(4,Bo false)],[[]],[]⟩:=by
 have hm:xs.length≤4294967296:=h;refine down xs.length ?_ ?_
 ·rw [EvL_eq Zrc.eq_1];simp [hl,List.drop_eq_nil_of_le]
 ·intro i hi ih;have hi2:i<ys.length:=by omega
  have h4:IntKind.wrap .i64 ((i:Int)+1)=(i:Int)+1:=wrap64 (by omega) (by omega);rw [EvL_eq Zrc.eq_1];simp +decide [hi,hi2,Zbrl _ _ _ _ _ _ ,h4];simp at ih;simp only [drop_eq_iff hi hi2,ih,Ze.ext_iff];split <;> first | (simp_all;done) | grind
theorem Zbrp (xs ys:List Ze) (h:SmA xs):C Zbdj [L 3 (xs.map Ze.c),L 3 (ys.map Ze.c)] []=some (Bo (decide (xs=ys)),[]):=by
 refine run Zbpy rfl ?_;by_cases hl:ys.length=xs.length
 ·have h3:=fun fr=>Zbro xs ys h hl fr 0 (Nat.zero_le _)
  simp at h3;simp [Zyg,h3,hl];split <;> simp_all
 ·have h1:xs≠ys:=fun h=>hl (by rw [h])
  have h2:¬ ((xs.length:Int)=ys.length):=by omega
  simp [Zyg,h1,h2]
@[simp] theorem Zbrq (es:List (List T)) (left:Int):C Zbdm [L 3 es,I left] []=some (I (sz1 es.length left),[]):=by
 refine run Zbp1 rfl ?_;simp [Zbay,sz1];split <;> simp_all
theorem c_toPlan (x0:List Ze) (h0:SmA x0):C Zbc1 [.agg [.t (.lst 3 (x0.map Ze.c))]] []=some (.agg [.own 0],[.arr Zn0 3 true (x0.map Ze.c)]):=by
 refine run Zbpg rfl ?_;simp [Zbag,Zbrn _ h0]
theorem c_eqPlan (x0 y0:List Ze) (h0:SmA x0):C Zbcx [.agg [.t (.lst 3 (x0.map Ze.c))],.agg [.t (.lst 3 (y0.map Ze.c))]] []=some (Bo (decide (x0=y0)),[]):=by
 refine run Zbpc rfl ?_;simp [Zbac,Zbrp _ _ h0]
 repeat' split
 all_goals first | (simp_all;done) | grind
theorem c_szPlan (x0:List Ze) (left:Int) :C Zbc0 [.agg [.t (.lst 3 (x0.map Ze.c))],I left] []=some (I (Plan.sz ⟨x0⟩ left),[]):=by
 refine run Zbpf rfl ?_;simp [Zbaf,Zbrq,Plan.sz,andSz,sz1]
 repeat' split
 all_goals first | (simp_all;done) | grind
theorem Zbrr (x0 x1:Int) (x2:Bool) (y0 y1:Int) (y2:Bool) :C Zbd1 [.agg [I x0,I x1,Bo x2],.agg [I y0,I y1,Bo y2]] []=some (Bo (decide (x0=y0∧x1=y1∧x2=y2)),[]):=by
 refine run Zbqg rfl ?_;simp [Zbbi]
 repeat' split
 all_goals first | (simp_all;done) | grind
theorem Zbrs (xs ys:List Zf) (h:SmA xs) (hl:ys.length=xs.length) (fr:List Fr):∀ i,i≤xs.length→EvL C fr [0,1,5] Znj ⟨[(0,L 3 (xs.map Zf.c)),(1,L 3 (ys.map Zf.c)),(5,I i)],[[]],[]⟩ =
  if xs.drop i=ys.drop i then EvX C fr (.x 0) ⟨[(0,L 3 (xs.map Zf.c)),(1,L 3 (ys.map Zf.c)),(5,I xs.length),(14,Bo false)],[[]],[]⟩ else EvX C fr .r ⟨[(4,Bo false)],[[]],[]⟩:=by
 have hm:xs.length≤4294967296:=h;refine down xs.length ?_ ?_
 ·rw [EvL_eq Znj.eq_1];simp [hl,List.drop_eq_nil_of_le]
 ·intro i hi ih;have hi2:i<ys.length:=by omega
  have h4:IntKind.wrap .i64 ((i:Int)+1)=(i:Int)+1:=wrap64 (by omega) (by omega);rw [EvL_eq Znj.eq_1];simp +decide [hi,hi2,Zbrr _ _ _ _ _ _ ,h4];simp at ih;simp only [drop_eq_iff hi hi2,ih,Zf.ext_iff];split <;> first | (simp_all;done) | grind
theorem Zbrt (xs ys:List Zf) (h:SmA xs):C Zru [L 3 (xs.map Zf.c),L 3 (ys.map Zf.c)] []=some (Bo (decide (xs=ys)),[]):=by
 refine run Zba0 rfl ?_;by_cases hl:ys.length=xs.length
 ·have h3:=fun fr=>Zbrs xs ys h hl fr 0 (Nat.zero_le _)
  simp at h3;simp [Zrg,h3,hl];split <;> simp_all
 ·have h1:xs≠ys:=fun h=>hl (by rw [h])
  have h2:¬ ((xs.length:Int)=ys.length):=by omega
  simp [Zrg,h1,h2]
@[simp] theorem c_szKeptS (es:List (List T)) (left:Int):C Zbc3 [L 2 es,I left] []=some (I (sz1 es.length left),[]):=by
 refine run Zbpi rfl ?_;simp [Zbai,sz1];split <;> simp_all
def mkL {α:Type} (f:α→Int→α) (n:α→Nat):List α→Int→List α
 | [],_=>[]
 | x::xs,k=>f x k::mkL f n xs (k+(n x:Int))
def cnL {α:Type} (n:α→Nat):List α→Nat
 | []=>0
 | x::xs=>n x+cnL n xs
def mkI (xs:List Int) (k:Int):List Int:=mkL (fun _ k=>k) (fun _=>1) xs k
theorem Zbbp (x:Int) (xs:List Int) (k:Int):mkI (x::xs) k=k::mkI xs (k+1):=rfl
theorem Zbru (e:Nat) (fr:List Fr):∀ (xs d:List Int) (k:Int),0≤k→k+(xs.length:Int)≤4611686018427387904→d.length+xs.length≤4294967296→EvL C fr [0,1,5] Zka ⟨[(0,.own 0),(1,I k),(5,I d.length)],[[(0,.own 0)]],[.xarr e 1 ((d++xs).map ic)]⟩ =
  EvX C fr (.x 0) ⟨[(0,.own 0),(1,I (k+xs.length)),(5,I (d.length+xs.length)),(9,Bo false)],[[(0,.own 0)]],[.xarr e 1 ((d++mkI xs k).map ic)]⟩:=by
 intro xs
 induction xs with
 | nil =>
  intro d k h1 h2 h3;rw [EvL_eq Zka.eq_1]
  simp [mkI,mkL]
 | cons x xs ih =>
  intro d k h1 h2 h3;simp only [List.length_cons] at h2 h3;have ih':=ih (d++[k]) (k+1) (by omega) (by omega) (by simp;omega);rw [EvL_eq Zka.eq_1];have g1:IntKind.wrap .i64 ((d.length:Int)+1)=(d.length:Int)+1:=wrap64 (by omega) (by omega);have g2:IntKind.wrap .i64 (k+1)=k+1:=wrap64 (by omega) (by omega);have g3:(d.length:Int)<(d.length:Int)+((xs.length:Int)+1):=by omega
  have g4:k+1+(xs.length:Int)=k+((xs.length:Int)+1):=by omega
  have g5:(d.length:Int)+1+(xs.length:Int)=(d.length:Int)+((xs.length:Int)+1):=by omega
  simp [g4,g5] at ih';simp [g1,g2,g3,ih',Zbbp]
theorem Zbbq (e:Nat) (xs:List Int) (k:Int) (h1:0≤k) (h2:k+(xs.length:Int)≤4611686018427387904) (h3:SmA xs):C Zko [.own 0,I k] [.xarr e 1 (xs.map ic)]=some (I (k+xs.length),[.xarr e 1 ((mkI xs k).map ic)]):=by
 refine runM Zya rfl ?_;have h4:=fun fr=>Zbru e fr xs [] k h1 h2 (by have:xs.length≤4294967296:=h3;simp;omega)
 simp at h4;simp [Zq1,h4]
theorem Zbrv (n:Nat) (k:Int):C Zko [.t (.lst n []),I k] []=some (I k,[]):=by
 refine run Zya rfl ?_;simp [Zq1,EvL_eq Zka.eq_1]
theorem Zbrw (k:Int):C Zko [.t .nil,I k] []=some (I k,[]):=by
 refine run Zya rfl ?_;simp [Zq1,EvL_eq Zka.eq_1]
theorem Zbrx (fr:List Fr):∀ (xs d:List Int) (k:Int),0≤k→k+(xs.length:Int)≤4611686018427387904→d.length+xs.length≤4294967296→EvL C fr [0,1,5] Znf ⟨[(0,L 1 ((d++mkI xs k).map ic)),(1,I k),(5,I d.length)],[[]],[]⟩ =
  EvX C fr (.x 0) ⟨[(0,L 1 ((d++mkI xs k).map ic)),(1,I (k+xs.length)),(5,I (d.length+xs.length)),(9,Bo false)],[[]],[]⟩:=by
 intro xs
 induction xs with
 | nil =>
  intro d k h1 h2 h3;rw [EvL_eq Znf.eq_1]
  simp [mkI,mkL]
 | cons x xs ih =>
  intro d k h1 h2 h3;simp only [List.length_cons] at h2 h3;have ih':=ih (d++[k]) (k+1) (by omega) (by omega) (by simp;omega);rw [EvL_eq Znf.eq_1];have g1:IntKind.wrap .i64 ((d.length:Int)+1)=(d.length:Int)+1:=wrap64 (by omega) (by omega);have g2:IntKind.wrap .i64 (k+1)=k+1:=wrap64 (by omega) (by omega);have g3:(d.length:Int)<(d.length:Int)+(((mkI xs (k+1)).length:Int)+1):=by omega
  have g4:k+1+(xs.length:Int)=k+((xs.length:Int)+1):=by omega
  have g5:(d.length:Int)+1+(xs.length:Int)=(d.length:Int)+((xs.length:Int)+1):=by omega
  simp [g4,g5] at ih';simp [g1,g2,g3,ih',Zbbp]
theorem strB_one (x:Int):(strB [x]).size=1:=by simp [strB];rfl
theorem Zbry (fr:List Fr):∀ (n:Nat) (k:Int) (out:ByteArray),k.toNat≤n→(out.size:Int)+k≤4611686018427387904→0≤k→∃ s,s.size≤out.size+n∧EvL C fr [0,3] Znm ⟨[(0,I k),(3,.t (.str out))],[[]],[]⟩=EvX C fr (.x 0) ⟨[(0,I 0),(3,.t (.str s)),(7,Bo false)],[[]],[]⟩:=by
 intro n
 induction n with
 | zero =>
  intro k out h1 h2 h3;have:k=0:=by omega
  subst this;rw [EvL_eq Znm.eq_1]
  exact ⟨out,by simp⟩
 | succ n ih =>
  intro k out h1 h2 h3;by_cases h0:k=0
  ·subst h0;rw [EvL_eq Znm.eq_1];exact ⟨out,by simp⟩
  have hk:0<k:=by omega
  have e:k.tdiv 10=k / 10:=Int.tdiv_eq_ediv_of_nonneg h3;have e2:IntKind.wrap .i64 (k / 10)=k / 10:=wrap64 (by omega) (by omega);generalize hx:IntKind.wrap .u8 (IntKind.wrap .i64 (48+k.tmod 10))=x;have s1:=strB_one x;have c:1+out.size≤9223372036854775807:=by omega
  obtain ⟨s,hs,hr⟩:=ih (k / 10) (strB [x]++out) (by omega) (by rw [ByteArray.size_append,s1];omega) (by omega);rw [ByteArray.size_append,s1] at hs;refine ⟨s,by omega,?_⟩;rw [EvL_eq Znm.eq_1];simp [hk,hx,s1,c,e,e2,hr]
theorem Zbrz (k:Int) (h1:0≤k) (h2:k≤4000000000000000000):∃ s,C Zrv [I k] []=some (.t (.str s),[]):=by
 by_cases h0:k=0
 ·subst h0;refine ⟨⟨#[109,48]⟩,run Zbbc rfl ?_⟩;simp [Zym]
 ·have h3:¬ k≤0:=by omega
  obtain ⟨s,hs,hr⟩:=Zbry [.blk 0,.seq (.seq (.reg [⟨some 18,none,.mov (.s 3)⟩,⟨some 19,none,.bin .add (.c (.t (.str ⟨#[109]⟩))) (.s 18)⟩,⟨some 2,none,.mov (.s 19)⟩] [2]) .ret),.fin 0 [.tmp 2]] k.toNat k ⟨#[]⟩ (Nat.le_refl _) (by simp [ByteArray.size];omega) h1;have c:(⟨#[109]⟩:ByteArray).size+s.size≤9223372036854775807:=by
   have:(⟨#[]⟩:ByteArray).size=0:=rfl;have:(⟨#[109]⟩:ByteArray).size=1:=rfl;omega
  refine ⟨⟨#[109]⟩++s,run Zbbc rfl ?_⟩;simp at hr;simp [Zym,h3,hr,c]
def mtext (k:Int):ByteArray:=match C Zrv [I k] [] with
 | some (.t (.str s),[])=>s
 | _=>⟨#[]⟩
theorem Zbbr (k:Int) (h1:0≤k) (h2:k≤4000000000000000000):C Zrv [I k] []=some (.t (.str (mtext k)),[]):=by
 obtain ⟨s,h⟩:=Zbrz k h1 h2;have:mtext k=s:=by unfold mtext;rw [h]
 rw [this,h]
theorem Zbbs (xs:List Int) (k:Int) (h1:0≤k) (h2:k+(xs.length:Int)≤4000000000000000000) (h3:SmA xs):C Zze [L 1 ((mkI xs k).map ic),I k] []=some (I (k+xs.length),[]):=by
 refine run Z98 rfl ?_;have h4:=fun fr=>Zbrx fr xs [] k h1 (by omega) (by have:xs.length≤4294967296:=h3;simp;omega)
 simp at h4;simp [Zyb,h4]
theorem Zbr0 (k:Int):C Zze [.t .nil,I k] []=some (I k,[]):=by
 refine run Z98 rfl ?_;simp [Zyb,EvL_eq Znf.eq_1]
theorem Zbbt (xs:List Int) (k:Int) (h1:0≤k) (h2:k+(xs.length:Int)≤4000000000000000000) (h3:SmA xs):(xs.map ic=[]∧(mkI xs (k)).map ic=[]∧C Zko [.t (.lst 1 []),I k] []=some (I (k+(xs.length:Int)),[]))∨∃ y ys,xs.map ic=y::ys∧True∧C Zko [.own 0,I k] [.xarr unk 1 (y::ys)]=some (I (k+(xs.length:Int)),[.xarr unk 1 ((mkI xs (k)).map ic)]):=by
 have c:=Zbbq unk xs k h1 (by omega) h3
 cases xs with
 | nil=>exact .inl ⟨rfl,rfl,by have:=Zbrv 1 k;simpa [mkI,mkL] using this⟩
 | cons y ys=>exact .inr ⟨_,_,rfl,trivial,c⟩
def Zfn (a:List Int) (k:Int):List Int:=mkI a k
def Zbp (a:List Int):Nat:=a.length
def Zbk (xs:List (List Int)) (k:Int):List (List Int):=mkL Zfn Zbp xs k
def Zo (xs:List (List Int)):Nat:=cnL Zbp xs
theorem Zbbu (x:List Int) (xs:List (List Int)) (k:Int):Zbk (x::xs) k=Zfn x k::Zbk xs (k+(Zbp x:Int)):=rfl
theorem Zbr1 (e:Nat) (fr:List Fr):∀ (xs d:List (List Int)) (k:Int),0≤k→k+(Zo xs:Int)≤4000000000000000000→d.length+xs.length≤4294967296→(∀ x∈xs,SmA x)→EvL C fr [0,1,5] Zkc ⟨[(0,.own 0),(1,I k),(5,I d.length)],[[(0,.own 0)]],[.xarr e 1 ((d++xs).map isc)]⟩ =
  EvX C fr (.x 0) ⟨[(0,.own 0),(1,I (k+Zo xs)),(5,I (d.length+xs.length)),(9,Bo false)],[[(0,.own 0)]],[.xarr e 1 ((d++Zbk xs k).map isc)]⟩:=by
 intro xs
 induction xs with
 | nil =>
  intro d k h1 h2 h3 h4;rw [EvL_eq Zkc.eq_1]
  simp [Zbk,Zo,cnL,mkL]
 | cons x xs ih =>
  intro d k h1 h2 h3 h4;have hx:=h4 x (by simp);have e0:Zo (x::xs)=Zbp x+Zo xs:=rfl;rw [e0] at h2;simp only [List.length_cons] at h3;have e1:Zbp x=x.length:=rfl;have eK:k+(Zbp x:Int)=k+(x.length:Int):=by omega
  have eL:k+(Zo (x::xs):Int)=k+(x.length:Int)+(Zo xs:Int):=by omega
  have ih':=ih (d++[Zfn x k]) (k+(x.length:Int)) (by omega) (by omega) (by simp;omega) (fun y hy=>h4 y (by simp [hy]));rw [EvL_eq Zkc.eq_1,eL,Zbbu,eK];have g1:IntKind.wrap .i64 ((d.length:Int)+1)=(d.length:Int)+1:=wrap64 (by omega) (by omega);have g3:(d.length:Int)<(d.length:Int)+((xs.length:Int)+1):=by omega
  have g5:(d.length:Int)+1+(xs.length:Int)=(d.length:Int)+((xs.length:Int)+1):=by omega
  have m0:=Zbbt x (k) (by omega) (by omega) hx;rcases m0 with ⟨r0,s0,m0⟩ | ⟨y0,ys0,r0,s0,m0⟩
  all_goals (simp [g5,Zfn,tI,r0,s0] at ih';simp [g1,g3,m0,r0,s0,ih',Zfn,tI])
theorem Zbbv (e:Nat) (xs:List (List Int)) (k:Int) (h1:0≤k) (h2:k+(Zo xs:Int)≤4000000000000000000) (h3:SmL SmA xs):C Zkp [.own 0,I k] [.xarr e 1 (xs.map isc)]=some (I (k+Zo xs),[.xarr e 1 ((Zbk xs k).map isc)]):=by
 refine runM Zye rfl ?_;have h4:=fun fr=>Zbr1 e fr xs [] k h1 h2 (by have:xs.length≤4294967296:=h3.1;simp;omega) h3.2
 simp at h4;simp [Zq9,h4]
theorem Zbr2 (n:Nat) (k:Int):C Zkp [.t (.lst n []),I k] []=some (I k,[]):=by
 refine run Zye rfl ?_;simp [Zq9,EvL_eq Zkc.eq_1]
theorem Zbr3 (k:Int):C Zkp [.t .nil,I k] []=some (I k,[]):=by
 refine run Zye rfl ?_;simp [Zq9,EvL_eq Zkc.eq_1]
theorem Zbr4 (xs:List (List Int)) (k:Int) (h1:0≤k) (h2:k+(Zo xs:Int)≤4000000000000000000) (h3:SmL SmA xs):(xs.map isc=[]∧(Zbk xs (k)).map isc=[]∧C Zkp [.t (.lst 1 []),I k] []=some (I (k+(Zo xs:Int)),[]))∨∃ y ys,xs.map isc=y::ys∧True∧C Zkp [.own 0,I k] [.xarr unk 1 (y::ys)]=some (I (k+(Zo xs:Int)),[.xarr unk 1 ((Zbk xs (k)).map isc)]):=by
 have c:=Zbbv unk xs k h1 h2 h3
 cases xs with
 | nil=>exact .inl ⟨rfl,rfl,by have:=Zbr2 1 k;simpa [Zbk,Zo,cnL,mkL] using this⟩
 | cons y ys=>exact .inr ⟨_,_,rfl,trivial,c⟩
def Znq (a:Atom) (k:Int):Atom:=⟨mtext (k),mkI a.Vars (k+1)⟩
def Zd8 (a:Atom):Nat:=1+a.Vars.length
def Zkd (xs:List Atom) (k:Int):List Atom:=mkL Znq Zd8 xs k
def Zb1 (xs:List Atom):Nat:=cnL Zd8 xs
theorem Zbr5 (x:Atom) (xs:List Atom) (k:Int):Zkd (x::xs) k=Znq x k::Zkd xs (k+(Zd8 x:Int)):=rfl
theorem Zbr6 (e:Nat) (fr:List Fr):∀ (xs d:List Atom) (k:Int),0≤k→k+(Zb1 xs:Int)≤4000000000000000000→d.length+xs.length≤4294967296→(∀ x∈xs,x.small)→EvL C fr [0,1,5] Zq8 ⟨[(0,.own 0),(1,I k),(5,I d.length)],[[(0,.own 0)]],[.xarr e 2 ((d++xs).map Atom.c)]⟩ =
  EvX C fr (.x 0) ⟨[(0,.own 0),(1,I (k+Zb1 xs)),(5,I (d.length+xs.length)),(9,Bo false)],[[(0,.own 0)]],[.xarr e 2 ((d++Zkd xs k).map Atom.c)]⟩:=by
 intro xs
 induction xs with
 | nil =>
  intro d k h1 h2 h3 h4;rw [EvL_eq Zq8.eq_1]
  simp [Zkd,Zb1,cnL,mkL]
 | cons x xs ih =>
  intro d k h1 h2 h3 h4;have hx:=h4 x (by simp);have e0:Zb1 (x::xs)=Zd8 x+Zb1 xs:=rfl;rw [e0] at h2;simp only [List.length_cons] at h3;rcases x with ⟨x0,x1⟩;have e1:Zd8 ⟨x0,x1⟩=1+x1.length:=rfl;have eK:k+(Zd8 ⟨x0,x1⟩:Int)=k+1+(x1.length:Int):=by omega
  have eL:k+(Zb1 (⟨x0,x1⟩::xs):Int)=k+1+(x1.length:Int)+(Zb1 xs:Int):=by omega
  have ih':=ih (d++[Znq ⟨x0,x1⟩ k]) (k+1+(x1.length:Int)) (by omega) (by omega) (by simp;omega) (fun y hy=>h4 y (by simp [hy]));rw [EvL_eq Zq8.eq_1,eL,Zbr5,eK];have g1:IntKind.wrap .i64 ((d.length:Int)+1)=(d.length:Int)+1:=wrap64 (by omega) (by omega);have g3:(d.length:Int)<(d.length:Int)+((xs.length:Int)+1):=by omega
  have g5:(d.length:Int)+1+(xs.length:Int)=(d.length:Int)+((xs.length:Int)+1):=by omega
  have w0:IntKind.wrap .i64 (k+1)=k+1:=wrap64 (by omega) (by omega);have t0:=Zbbr (k) (by omega) (by omega);have m0:=Zbbt x1 (k+1) (by omega) (by omega) (by first | exact hx | exact hx.1 | exact hx.2 | exact hx.2.1 | exact hx.2.2 | exact hx.2.2.1 | exact hx.2.2.2 | exact hx.2.2.2.1 | exact hx.2.2.2.2 | exact hx.2.2.2.2.1 | exact hx.2.2.2.2.2);rcases m0 with ⟨r0,s0,m0⟩ | ⟨y0,ys0,r0,s0,m0⟩
  all_goals (simp [g5,Znq,tI,r0,s0] at ih';simp [g1,g3,w0,t0,m0,r0,s0,ih',Znq,tI])
theorem Zbr7 (e:Nat) (xs:List Atom) (k:Int) (h1:0≤k) (h2:k+(Zb1 xs:Int)≤4000000000000000000) (h3:SmL Atom.small xs):C Zbdf [.own 0,I k] [.xarr e 2 (xs.map Atom.c)]=some (I (k+Zb1 xs),[.xarr e 2 ((Zkd xs k).map Atom.c)]):=by
 refine runM Zbpu rfl ?_;have h4:=fun fr=>Zbr6 e fr xs [] k h1 h2 (by have:xs.length≤4294967296:=h3.1;simp;omega) h3.2
 simp at h4;simp [Zbat,h4]
def Znr (a:Zg) (k:Int):Zg:=⟨k,k+1⟩
def Zke (a:Zg):Nat:=1+1
def Zdq (xs:List Zg) (k:Int):List Zg:=mkL Znr Zke xs k
def Zm (xs:List Zg):Nat:=cnL Zke xs
theorem Zbr8 (x:Zg) (xs:List Zg) (k:Int):Zdq (x::xs) k=Znr x k::Zdq xs (k+(Zke x:Int)):=rfl
theorem Zbr9 (e:Nat) (fr:List Fr):∀ (xs d:List Zg) (k:Int),0≤k→k+(Zm xs:Int)≤4000000000000000000→d.length+xs.length≤4294967296→(∀ x∈xs,x.small)→EvL C fr [0,1,5] Zrj ⟨[(0,.own 0),(1,I k),(5,I d.length)],[[(0,.own 0)]],[.xarr e 2 ((d++xs).map Zg.c)]⟩ =
  EvX C fr (.x 0) ⟨[(0,.own 0),(1,I (k+Zm xs)),(5,I (d.length+xs.length)),(9,Bo false)],[[(0,.own 0)]],[.xarr e 2 ((d++Zdq xs k).map Zg.c)]⟩:=by
 intro xs
 induction xs with
 | nil =>
  intro d k h1 h2 h3 h4;rw [EvL_eq Zrj.eq_1]
  simp [Zdq,Zm,cnL,mkL]
 | cons x xs ih =>
  intro d k h1 h2 h3 h4;have hx:=h4 x (by simp);have e0:Zm (x::xs)=Zke x+Zm xs:=rfl;rw [e0] at h2;simp only [List.length_cons] at h3;rcases x with ⟨x0,x1⟩;have e1:Zke ⟨x0,x1⟩=1+1:=rfl;have eK:k+(Zke ⟨x0,x1⟩:Int)=k+1+1:=by omega
  have eL:k+(Zm (⟨x0,x1⟩::xs):Int)=k+1+1+(Zm xs:Int):=by omega
  have ih':=ih (d++[Znr ⟨x0,x1⟩ k]) (k+1+1) (by omega) (by omega) (by simp;omega) (fun y hy=>h4 y (by simp [hy]));rw [EvL_eq Zrj.eq_1,eL,Zbr8,eK];have g1:IntKind.wrap .i64 ((d.length:Int)+1)=(d.length:Int)+1:=wrap64 (by omega) (by omega);have g3:(d.length:Int)<(d.length:Int)+((xs.length:Int)+1):=by omega
  have g5:(d.length:Int)+1+(xs.length:Int)=(d.length:Int)+((xs.length:Int)+1):=by omega
  have w0:IntKind.wrap .i64 (k+1)=k+1:=wrap64 (by omega) (by omega);have w1:IntKind.wrap .i64 (k+1+1)=k+1+1:=wrap64 (by omega) (by omega)
  (simp [g5,Znr,tI] at ih';simp [g1,g3,w0,w1,ih',Znr,tI])
theorem Zbsa (e:Nat) (xs:List Zg) (k:Int) (h1:0≤k) (h2:k+(Zm xs:Int)≤4000000000000000000) (h3:SmA xs):C Zbdv [.own 0,I k] [.xarr e 2 (xs.map Zg.c)]=some (I (k+Zm xs),[.xarr e 2 ((Zdq xs k).map Zg.c)]):=by
 refine runM Zbqa rfl ?_;have h4:=fun fr=>Zbr9 e fr xs [] k h1 h2 (by have:xs.length≤4294967296:=h3;simp;omega) (fun _ _=>trivial)
 simp at h4;simp [Zbbb,h4]
def Zfo (a:Zf) (k:Int):Zf:=⟨k,k+1,decide ((k+1+1).tmod 3=0)⟩
def Zd9 (a:Zf):Nat:=1+1+1
def Zcb (xs:List Zf) (k:Int):List Zf:=mkL Zfo Zd9 xs k
def Zv (xs:List Zf):Nat:=cnL Zd9 xs
theorem Zbbw (x:Zf) (xs:List Zf) (k:Int):Zcb (x::xs) k=Zfo x k::Zcb xs (k+(Zd9 x:Int)):=rfl
theorem Zbsb (e:Nat) (fr:List Fr):∀ (xs d:List Zf) (k:Int),0≤k→k+(Zv xs:Int)≤4000000000000000000→d.length+xs.length≤4294967296→(∀ x∈xs,x.small)→EvL C fr [0,1,5] Znk ⟨[(0,.own 0),(1,I k),(5,I d.length)],[[(0,.own 0)]],[.xarr e 3 ((d++xs).map Zf.c)]⟩ =
  EvX C fr (.x 0) ⟨[(0,.own 0),(1,I (k+Zv xs)),(5,I (d.length+xs.length)),(9,Bo false)],[[(0,.own 0)]],[.xarr e 3 ((d++Zcb xs k).map Zf.c)]⟩:=by
 intro xs
 induction xs with
 | nil =>
  intro d k h1 h2 h3 h4;rw [EvL_eq Znk.eq_1]
  simp [Zcb,Zv,cnL,mkL]
 | cons x xs ih =>
  intro d k h1 h2 h3 h4;have hx:=h4 x (by simp);have e0:Zv (x::xs)=Zd9 x+Zv xs:=rfl;rw [e0] at h2;simp only [List.length_cons] at h3;rcases x with ⟨x0,x1,x2⟩;have e1:Zd9 ⟨x0,x1,x2⟩=1+1+1:=rfl;have eK:k+(Zd9 ⟨x0,x1,x2⟩:Int)=k+1+1+1:=by omega
  have eL:k+(Zv (⟨x0,x1,x2⟩::xs):Int)=k+1+1+1+(Zv xs:Int):=by omega
  have ih':=ih (d++[Zfo ⟨x0,x1,x2⟩ k]) (k+1+1+1) (by omega) (by omega) (by simp;omega) (fun y hy=>h4 y (by simp [hy]));rw [EvL_eq Znk.eq_1,eL,Zbbw,eK];have g1:IntKind.wrap .i64 ((d.length:Int)+1)=(d.length:Int)+1:=wrap64 (by omega) (by omega);have g3:(d.length:Int)<(d.length:Int)+((xs.length:Int)+1):=by omega
  have g5:(d.length:Int)+1+(xs.length:Int)=(d.length:Int)+((xs.length:Int)+1):=by omega
  have w0:IntKind.wrap .i64 (k+1)=k+1:=wrap64 (by omega) (by omega);have w1:IntKind.wrap .i64 (k+1+1)=k+1+1:=wrap64 (by omega) (by omega);have w2:IntKind.wrap .i64 (k+1+1+1)=k+1+1+1:=wrap64 (by omega) (by omega)
  (simp [g5,Zfo,tI] at ih';simp [g1,g3,w0,w1,w2,ih',Zfo,tI])
theorem Zbbx (e:Nat) (xs:List Zf) (k:Int) (h1:0≤k) (h2:k+(Zv xs:Int)≤4000000000000000000) (h3:SmA xs):C Zzf [.own 0,I k] [.xarr e 3 (xs.map Zf.c)]=some (I (k+Zv xs),[.xarr e 3 ((Zcb xs k).map Zf.c)]):=by
 refine runM Zba2 rfl ?_;have h4:=fun fr=>Zbsb e fr xs [] k h1 h2 (by have:xs.length≤4294967296:=h3;simp;omega) (fun _ _=>trivial)
 simp at h4;simp [Zyh,h4]
theorem Zbby (k:Int):C Zzf [.t .nil,I k] []=some (I k,[]):=by
 refine run Zba2 rfl ?_;simp [Zyh,EvL_eq Znk.eq_1]
theorem Zbsc (fr:List Fr):∀ (xs d:List Zf) (k:Int),0≤k→k+(Zv xs:Int)≤4000000000000000000→d.length+xs.length≤4294967296→(∀ x∈xs,x.small)→EvL C fr [0,1,5] Znl ⟨[(0,L 3 ((d++Zcb xs k).map Zf.c)),(1,I k),(5,I d.length)],[[]],[]⟩ =
  EvX C fr (.x 0) ⟨[(0,L 3 ((d++Zcb xs k).map Zf.c)),(1,I (k+Zv xs)),(5,I (d.length+xs.length)),(9,Bo false)],[[]],[]⟩:=by
 intro xs
 induction xs with
 | nil =>
  intro d k h1 h2 h3 h4;rw [EvL_eq Znl.eq_1]
  simp [Zcb,Zv,cnL,mkL]
 | cons x xs ih =>
  intro d k h1 h2 h3 h4;have hx:=h4 x (by simp);have e0:Zv (x::xs)=Zd9 x+Zv xs:=rfl;rw [e0] at h2;simp only [List.length_cons] at h3;rcases x with ⟨x0,x1,x2⟩;have e1:Zd9 ⟨x0,x1,x2⟩=1+1+1:=rfl;have eK:k+(Zd9 ⟨x0,x1,x2⟩:Int)=k+1+1+1:=by omega
  have eL:k+(Zv (⟨x0,x1,x2⟩::xs):Int)=k+1+1+1+(Zv xs:Int):=by omega
  have ih':=ih (d++[Zfo ⟨x0,x1,x2⟩ k]) (k+1+1+1) (by omega) (by omega) (by simp;omega) (fun y hy=>h4 y (by simp [hy]));rw [EvL_eq Znl.eq_1,eL,Zbbw,eK];have g1:IntKind.wrap .i64 ((d.length:Int)+1)=(d.length:Int)+1:=wrap64 (by omega) (by omega);have g3:(d.length:Int)<(d.length:Int)+(((Zcb xs (k+1+1+1)).length:Int)+1):=by omega
  have g5:(d.length:Int)+1+(xs.length:Int)=(d.length:Int)+((xs.length:Int)+1):=by omega
  have w0:IntKind.wrap .i64 (k+1)=k+1:=wrap64 (by omega) (by omega);have w1:IntKind.wrap .i64 (k+1+1)=k+1+1:=wrap64 (by omega) (by omega);have w2:IntKind.wrap .i64 (k+1+1+1)=k+1+1+1:=wrap64 (by omega) (by omega);simp [g5,Zfo,tI] at ih';simp +decide [g1,g3,w0,w1,w2,ih',Zfo,tI]
theorem Zbbz (xs:List Zf) (k:Int) (h1:0≤k) (h2:k+(Zv xs:Int)≤4000000000000000000) (h3:SmA xs):C Zzh [L 3 ((Zcb xs k).map Zf.c),I k] []=some (I (k+Zv xs),[]):=by
 refine run Zba4 rfl ?_;have h4:=fun fr=>Zbsc fr xs [] k h1 h2 (by have:xs.length≤4294967296:=h3;simp;omega) (fun _ _=>trivial)
 simp at h4;simp [Zyj,h4]
theorem Zbb0 (k:Int):C Zzh [.t .nil,I k] []=some (I k,[]):=by
 refine run Zba4 rfl ?_;simp [Zyj,EvL_eq Znl.eq_1]
def Zns (a:Ze) (k:Int):Ze:=⟨k,k+1,k+1+1⟩
def Zkf (a:Ze):Nat:=1+1+1
def Zkg (xs:List Ze) (k:Int):List Ze:=mkL Zns Zkf xs k
def Zcc (xs:List Ze):Nat:=cnL Zkf xs
theorem Zbsd (x:Ze) (xs:List Ze) (k:Int):Zkg (x::xs) k=Zns x k::Zkg xs (k+(Zkf x:Int)):=rfl
theorem Zbse (e:Nat) (fr:List Fr):∀ (xs d:List Ze) (k:Int),0≤k→k+(Zcc xs:Int)≤4000000000000000000→d.length+xs.length≤4294967296→(∀ x∈xs,x.small)→EvL C fr [0,1,5] Zre ⟨[(0,.own 0),(1,I k),(5,I d.length)],[[(0,.own 0)]],[.xarr e 3 ((d++xs).map Ze.c)]⟩ =
  EvX C fr (.x 0) ⟨[(0,.own 0),(1,I (k+Zcc xs)),(5,I (d.length+xs.length)),(9,Bo false)],[[(0,.own 0)]],[.xarr e 3 ((d++Zkg xs k).map Ze.c)]⟩:=by
 intro xs
 induction xs with
 | nil =>
  intro d k h1 h2 h3 h4;rw [EvL_eq Zre.eq_1]
  simp [Zkg,Zcc,cnL,mkL]
 | cons x xs ih =>
  intro d k h1 h2 h3 h4;have hx:=h4 x (by simp);have e0:Zcc (x::xs)=Zkf x+Zcc xs:=rfl;rw [e0] at h2;simp only [List.length_cons] at h3;rcases x with ⟨x0,x1,x2⟩;have e1:Zkf ⟨x0,x1,x2⟩=1+1+1:=rfl;have eK:k+(Zkf ⟨x0,x1,x2⟩:Int)=k+1+1+1:=by omega
  have eL:k+(Zcc (⟨x0,x1,x2⟩::xs):Int)=k+1+1+1+(Zcc xs:Int):=by omega
  have ih':=ih (d++[Zns ⟨x0,x1,x2⟩ k]) (k+1+1+1) (by omega) (by omega) (by simp;omega) (fun y hy=>h4 y (by simp [hy]));rw [EvL_eq Zre.eq_1,eL,Zbsd,eK];have g1:IntKind.wrap .i64 ((d.length:Int)+1)=(d.length:Int)+1:=wrap64 (by omega) (by omega);have g3:(d.length:Int)<(d.length:Int)+((xs.length:Int)+1):=by omega
  have g5:(d.length:Int)+1+(xs.length:Int)=(d.length:Int)+((xs.length:Int)+1):=by omega
  have w0:IntKind.wrap .i64 (k+1)=k+1:=wrap64 (by omega) (by omega);have w1:IntKind.wrap .i64 (k+1+1)=k+1+1:=wrap64 (by omega) (by omega);have w2:IntKind.wrap .i64 (k+1+1+1)=k+1+1+1:=wrap64 (by omega) (by omega)
  (simp [g5,Zns,tI] at ih';simp [g1,g3,w0,w1,w2,ih',Zns,tI])
theorem Zbsf (e:Nat) (xs:List Ze) (k:Int) (h1:0≤k) (h2:k+(Zcc xs:Int)≤4000000000000000000) (h3:SmA xs):C Zbdl [.own 0,I k] [.xarr e 3 (xs.map Ze.c)]=some (I (k+Zcc xs),[.xarr e 3 ((Zkg xs k).map Ze.c)]):=by
 refine runM Zbp0 rfl ?_;have h4:=fun fr=>Zbse e fr xs [] k h1 h2 (by have:xs.length≤4294967296:=h3;simp;omega) (fun _ _=>trivial)
 simp at h4;simp [Zbax,h4]
def Znt (a:Zh) (k:Int):Zh:=⟨mtext (k),k+1,Zbk a.Rows (k+1+1)⟩
def Zea (a:Zh):Nat:=1+1+Zo a.Rows
def Zkh (xs:List Zh) (k:Int):List Zh:=mkL Znt Zea xs k
def Zbu (xs:List Zh):Nat:=cnL Zea xs
theorem Zbsg (x:Zh) (xs:List Zh) (k:Int):Zkh (x::xs) k=Znt x k::Zkh xs (k+(Zea x:Int)):=rfl
theorem Zbsh (e:Nat) (fr:List Fr):∀ (xs d:List Zh) (k:Int),0≤k→k+(Zbu xs:Int)≤4000000000000000000→d.length+xs.length≤4294967296→(∀ x∈xs,x.small)→EvL C fr [0,1,5] Zrd ⟨[(0,.own 0),(1,I k),(5,I d.length)],[[(0,.own 0)]],[.xarr e 3 ((d++xs).map Zh.c)]⟩ =
  EvX C fr (.x 0) ⟨[(0,.own 0),(1,I (k+Zbu xs)),(5,I (d.length+xs.length)),(9,Bo false)],[[(0,.own 0)]],[.xarr e 3 ((d++Zkh xs k).map Zh.c)]⟩:=by
 intro xs
 induction xs with
 | nil =>
  intro d k h1 h2 h3 h4;rw [EvL_eq Zrd.eq_1]
  simp [Zkh,Zbu,cnL,mkL]
 | cons x xs ih =>
  intro d k h1 h2 h3 h4;have hx:=h4 x (by simp);have e0:Zbu (x::xs)=Zea x+Zbu xs:=rfl;rw [e0] at h2;simp only [List.length_cons] at h3;rcases x with ⟨x0,x1,x2⟩;have e1:Zea ⟨x0,x1,x2⟩=1+1+Zo x2:=rfl;have eK:k+(Zea ⟨x0,x1,x2⟩:Int)=k+1+1+(Zo x2:Int):=by omega
  have eL:k+(Zbu (⟨x0,x1,x2⟩::xs):Int)=k+1+1+(Zo x2:Int)+(Zbu xs:Int):=by omega
  have ih':=ih (d++[Znt ⟨x0,x1,x2⟩ k]) (k+1+1+(Zo x2:Int)) (by omega) (by omega) (by simp;omega) (fun y hy=>h4 y (by simp [hy]));rw [EvL_eq Zrd.eq_1,eL,Zbsg,eK];have g1:IntKind.wrap .i64 ((d.length:Int)+1)=(d.length:Int)+1:=wrap64 (by omega) (by omega);have g3:(d.length:Int)<(d.length:Int)+((xs.length:Int)+1):=by omega
  have g5:(d.length:Int)+1+(xs.length:Int)=(d.length:Int)+((xs.length:Int)+1):=by omega
  have w0:IntKind.wrap .i64 (k+1)=k+1:=wrap64 (by omega) (by omega);have w1:IntKind.wrap .i64 (k+1+1)=k+1+1:=wrap64 (by omega) (by omega);have t0:=Zbbr (k) (by omega) (by omega);have m0:=Zbr4 x2 (k+1+1) (by omega) (by omega) (by first | exact hx | exact hx.1 | exact hx.2 | exact hx.2.1 | exact hx.2.2 | exact hx.2.2.1 | exact hx.2.2.2 | exact hx.2.2.2.1 | exact hx.2.2.2.2 | exact hx.2.2.2.2.1 | exact hx.2.2.2.2.2);rcases m0 with ⟨r0,s0,m0⟩ | ⟨y0,ys0,r0,s0,m0⟩
  all_goals (simp [g5,Znt,tI,tII,r0,s0] at ih';simp [g1,g3,w0,w1,t0,m0,r0,s0,ih',Znt,tI,tII])
theorem Zbsi (e:Nat) (xs:List Zh) (k:Int) (h1:0≤k) (h2:k+(Zbu xs:Int)≤4000000000000000000) (h3:SmL Zh.small xs):C Zbdk [.own 0,I k] [.xarr e 3 (xs.map Zh.c)]=some (I (k+Zbu xs),[.xarr e 3 ((Zkh xs k).map Zh.c)]):=by
 refine runM Zbpz rfl ?_;have h4:=fun fr=>Zbsh e fr xs [] k h1 h2 (by have:xs.length≤4294967296:=h3.1;simp;omega) h3.2
 simp at h4;simp [Zbaw,h4]
theorem Zbsj (e0:Nat) (x0:List Zh) (k:Int) (h1:0≤k) (h2:k+(Zbu x0:Int)≤4000000000000000000) (sx0:SmL Zh.small x0):C Zbcy [.agg [.own 0],I k] [.xarr e0 3 (x0.map Zh.c)]=some (I (k+(Zbu x0:Int)),[.xarr e0 3 ((Zkh x0 (k)).map Zh.c)]):=by
 refine runM Zbpd rfl ?_;have m0:=Zbsi e0 x0 (k) (by omega) (by omega) sx0;simp [Zbad,m0]
theorem Znu (e0:Nat) (x0 x1 x2 x3 x4:Int) (x5:List Zg) (k:Int) (h1:0≤k) (h2:k+(Zm x5:Int)≤4000000000000000000) (sx5:SmA x5):C Zbde [.agg [I x0,I x1,I x2,I x3,I x4,.own 0],I k] [.xarr e0 2 (x5.map Zg.c)]=some (I (k+(Zm x5:Int)),[.xarr e0 2 ((Zdq x5 (k)).map Zg.c)]):=by
 refine runM Zbpt rfl ?_;have m0:=Zbsa e0 x5 (k) (by omega) (by omega) sx5;simp [Zbas,m0]
theorem Zbsk (e0 e1 e2 e3 e4:Nat) (x0 x1 x2 x3 x4:Int) (x5:List Zg) (x6 x7 x8 x9 x10:Int) (x11:List Zg) (x12 x13 x14 x15 x16:Int) (x17:List Zg) (x18 x19 x20 x21 x22:Int) (x23:List Zg) (x24 x25 x26 x27 x28:Int) (x29:List Zg) (k:Int) (h1:0≤k) (h2:k+(Zm x5:Int)+(Zm x11:Int)+(Zm x17:Int)+(Zm x23:Int)+(Zm x29:Int)≤4000000000000000000) (sx5:SmA x5) (sx11:SmA x11) (sx17:SmA x17) (sx23:SmA x23) (sx29:SmA x29):C Zbcs [.agg [I x0,I x1,I x2,I x3,I x4,.own 0,I x6,I x7,I x8,I x9,I x10,.own 1,I x12,I x13,I x14,I x15,I x16,.own 2,I x18,I x19,I x20,I x21,I x22,.own 3,I x24,I x25,I x26,I x27,I x28,.own 4],I k] [.xarr e0 2 (x5.map Zg.c),.xarr e1 2 (x11.map Zg.c),.xarr e2 2 (x17.map Zg.c),.xarr e3 2 (x23.map Zg.c),.xarr e4 2 (x29.map Zg.c)]=some (I (k+(Zm x5:Int)+(Zm x11:Int)+(Zm x17:Int)+(Zm x23:Int)+(Zm x29:Int)),[.xarr e0 2 ((Zdq x5 (k)).map Zg.c),.xarr e1 2 ((Zdq x11 (k+(Zm x5:Int))).map Zg.c),.xarr e2 2 ((Zdq x17 (k+(Zm x5:Int)+(Zm x11:Int))).map Zg.c),.xarr e3 2 ((Zdq x23 (k+(Zm x5:Int)+(Zm x11:Int)+(Zm x17:Int))).map Zg.c),.xarr e4 2 ((Zdq x29 (k+(Zm x5:Int)+(Zm x11:Int)+(Zm x17:Int)+(Zm x23:Int))).map Zg.c)]):=by
 refine runM Zbo7 rfl ?_;have m0:=Znu e0 x0 x1 x2 x3 x4 x5 (k) (by omega) (by omega) sx5;have m1:=Znu e1 x6 x7 x8 x9 x10 x11 (k+(Zm x5:Int)) (by omega) (by omega) sx11;have m2:=Znu e2 x12 x13 x14 x15 x16 x17 (k+(Zm x5:Int)+(Zm x11:Int)) (by omega) (by omega) sx17;have m3:=Znu e3 x18 x19 x20 x21 x22 x23 (k+(Zm x5:Int)+(Zm x11:Int)+(Zm x17:Int)) (by omega) (by omega) sx23;have m4:=Znu e4 x24 x25 x26 x27 x28 x29 (k+(Zm x5:Int)+(Zm x11:Int)+(Zm x17:Int)+(Zm x23:Int)) (by omega) (by omega) sx29;simp [Z96,m0,m1,m2,m3,m4]
theorem Zbsl (e0:Nat) (x0:List Ze) (k:Int) (h1:0≤k) (h2:k+(Zcc x0:Int)≤4000000000000000000) (sx0:SmA x0):C Zbcz [.agg [.own 0],I k] [.xarr e0 3 (x0.map Ze.c)]=some (I (k+(Zcc x0:Int)),[.xarr e0 3 ((Zkg x0 (k)).map Ze.c)]):=by
 refine runM Zbpe rfl ?_;have m0:=Zbsf e0 x0 (k) (by omega) (by omega) sx0;simp [Zbae,m0]
theorem Zbsm (e0:Nat) (x0:Int) (x1:List Atom) (k:Int) (h1:0≤k) (h2:k+(Zb1 x1:Int)≤4000000000000000000) (sx1:SmL Atom.small x1):C Zbct [.agg [I x0,.own 0],I k] [.xarr e0 2 (x1.map Atom.c)]=some (I (k+(Zb1 x1:Int)),[.xarr e0 2 ((Zkd x1 (k)).map Atom.c)]):=by
 refine runM Zbo8 rfl ?_;have m0:=Zbr7 e0 x1 (k) (by omega) (by omega) sx1;simp [Z97,m0]
theorem Zdr {n:Nat} {left:Int} (hn:n≤maxLen) (h0:0≤left) (h1:left≤1048576) (h:0≤sz1 n left):sz1 n left≤left∧(n:Int)≤left - sz1 n left:=by
 unfold maxLen at hn;have hw:IntKind.wrap .i64 (left - n)=left - n:=wrap64 (by omega) (by omega);unfold sz1 at h ⊢;rw [hw] at h ⊢;split at h
 ·omega
 ·rename_i hx;rw [if_neg hx];omega
theorem Zbb1 {α:Type} {f:α→Int→Int} {n:α→Nat} {M:Int}:∀ (xs:List α) (left:Int),(∀ x∈xs,∀ l,0≤l→l≤M→0≤f x l→f x l≤l∧(n x:Int)≤16+16*(l - f x l))→0≤left→left≤M→0≤szFold f xs left→szFold f xs left≤left∧(cnL n xs:Int)≤16*(xs.length:Int)+16*(left - szFold f xs left)
 | [],left,_,_,_,h=>by simp [szFold,cnL]
 | x::xs,left,hf,h0,h1,h=>by
  unfold szFold at h ⊢;split at h
  ·omega
  ·rename_i hx;rw [if_neg hx];obtain ⟨h2,h3⟩:=hf x (by simp) left h0 h1 (by omega);obtain ⟨h4,h5⟩:=Zbb1 xs (f x left) (fun y hy=>hf y (by simp [hy])) (by omega) (by omega) h;have e:cnL n (x::xs)=n x+cnL n xs:=rfl;rw [e,List.length_cons];omega
theorem Zrk {α:Type} {f:α→Int→Int} {n:α→Nat} {xs:List α} {left:Int} (hn:xs.length≤maxLen) (hf:∀ x∈xs,∀ l,0≤l→l≤1048576→0≤f x l→f x l≤l∧(n x:Int)≤16+16*(l - f x l)) (h0:0≤left) (h1:left≤1048576) (h:0≤szL f xs left) :
  szL f xs left≤left∧(cnL n xs:Int)≤16*(left - szL f xs left):=by
 unfold szL andSz at h ⊢;split at h
 ·omega
 ·rename_i hx;rw [if_neg hx];have a:=Zdr hn h0 h1 (by omega);have b:=Zbb1 xs _ hf (by omega) (by omega) h;omega
theorem Zrl {α:Type} {n:α→Nat} {c:Nat} (h:∀ x,n x=c):∀ xs:List α,cnL n xs=c*xs.length
 | []=>rfl
 | x::xs=>by
  have e:cnL n (x::xs)=n x+cnL n xs:=rfl;rw [e,h,Zrl h xs,List.length_cons,Nat.mul_succ,Nat.add_comm]
theorem Zbb2 (x:List Int) (l:Int) (hx:x.length≤maxLen) (h0:0≤l) (h1:l≤1048576) (h:0≤szI x l):szI x l≤l∧(Zbp x:Int)≤16+16*(l - szI x l):=by
 have a:=Zdr hx h0 h1 h;unfold Zbp;have e:szI x l=sz1 x.length l:=rfl;rw [e];omega
def Zyp (x:Zh):Nat:=Zo x.Rows
theorem Zh.ct (x:Zh) (l:Int) (hx:x.okay) (h0:0≤l) (h1:l≤1048576) (h:0≤x.sz l):x.sz l≤l∧(Zyp x:Int)≤16*(l - x.sz l):=by
 unfold Zh.sz at h ⊢;simp only [andSz] at h ⊢;split at h
 ·omega
 rename_i q0;rw [if_neg q0];have s0:=Zdr hx.1 h0 h1 (Int.not_lt.1 q0);split at h
 ·omega
 rename_i q1;rw [if_neg q1];have s1:=Zrk (f:=szI) (n:=Zbp) hx.2.2.1 (fun y hy l a b c=>Zbb2 y l (hx.2.2.2 y hy).1 a b c) (by omega) (by omega) (Int.not_lt.1 q1);refine ⟨by omega,?_⟩;unfold Zyp;have v0:Zo x.Rows=cnL Zbp x.Rows:=rfl;omega
theorem Zbsn (x:Zh) (l:Int) (hx:x.okay) (h0:0≤l) (h1:l≤1048576) (h:0≤x.sz l):x.sz l≤l∧(Zea x:Int)≤16+16*(l - x.sz l):=by
 have a:=Zh.ct x l hx h0 h1 h;unfold Zyp at a;unfold Zea;omega
def Zyq (x:Zk):Nat:=Zbu x.Tables
theorem Zk.ct (x:Zk) (l:Int) (hx:x.okay) (h0:0≤l) (h1:l≤1048576) (h:0≤x.sz l):x.sz l≤l∧(Zyq x:Int)≤16*(l - x.sz l):=by
 unfold Zk.sz at h ⊢;simp only [andSz] at h ⊢;split at h
 ·omega
 rename_i q0;rw [if_neg q0];have s0:=Zrk (n:=Zea) hx.1 (fun y hy l a b c=>Zbsn y l (hx.2 y hy) a b c) h0 h1 (Int.not_lt.1 q0);refine ⟨by omega,?_⟩;unfold Zyq;have v0:Zbu x.Tables=cnL Zea x.Tables:=rfl;omega
def Zyr (x:Atom):Nat:=x.Vars.length
theorem Atom.ct (x:Atom) (l:Int) (hx:x.okay) (h0:0≤l) (h1:l≤1048576) (h:0≤x.sz l):x.sz l≤l∧(Zyr x:Int)≤16*(l - x.sz l):=by
 unfold Atom.sz at h ⊢;simp only [andSz] at h ⊢;split at h
 ·omega
 rename_i q0;rw [if_neg q0];have s0:=Zdr hx.1 h0 h1 (Int.not_lt.1 q0);split at h
 ·omega
 rename_i q1;rw [if_neg q1];have s1:=Zdr hx.2.1 (by omega) (by omega) (Int.not_lt.1 q1);refine ⟨by omega,?_⟩;unfold Zyr;omega
theorem Zbso (x:Atom) (l:Int) (hx:x.okay) (h0:0≤l) (h1:l≤1048576) (h:0≤x.sz l):x.sz l≤l∧(Zd8 x:Int)≤16+16*(l - x.sz l):=by
 have a:=Atom.ct x l hx h0 h1 h;unfold Zyr at a;unfold Zd8;omega
def Zys (x:Zd):Nat:=Zb1 x.Atoms
theorem Zd.ct (x:Zd) (l:Int) (hx:x.okay) (h0:0≤l) (h1:l≤1048576) (h:0≤x.sz l):x.sz l≤l∧(Zys x:Int)≤16*(l - x.sz l):=by
 unfold Zd.sz at h ⊢;simp only [andSz] at h ⊢;split at h
 ·omega
 rename_i q0;rw [if_neg q0];have s0:=Zrk (n:=Zd8) hx.2.1 (fun y hy l a b c=>Zbso y l (hx.2.2 y hy) a b c) h0 h1 (Int.not_lt.1 q0);refine ⟨by omega,?_⟩;unfold Zys;have v0:Zb1 x.Atoms=cnL Zd8 x.Atoms:=rfl;omega
def Zyt (x:Zu):Nat:=x.Vars.length+Zo x.Rows
theorem Zu.ct (x:Zu) (l:Int) (hx:x.okay) (h0:0≤l) (h1:l≤1048576) (h:0≤x.sz l):x.sz l≤l∧(Zyt x:Int)≤16*(l - x.sz l):=by
 unfold Zu.sz at h ⊢;simp only [andSz] at h ⊢;split at h
 ·omega
 rename_i q0;rw [if_neg q0];have s0:=Zdr hx.1.1 h0 h1 (Int.not_lt.1 q0);split at h
 ·omega
 rename_i q1;rw [if_neg q1];have s1:=Zrk (f:=szI) (n:=Zbp) hx.2.1 (fun y hy l a b c=>Zbb2 y l (hx.2.2 y hy).1 a b c) (by omega) (by omega) (Int.not_lt.1 q1);refine ⟨by omega,?_⟩;unfold Zyt;have v0:Zo x.Rows=cnL Zbp x.Rows:=rfl;omega
def nt_Box (x:Box):Nat:=x.Low.length+x.High.length
theorem Box.ct (x:Box) (l:Int) (hx:x.okay) (h0:0≤l) (h1:l≤1048576) (h:0≤x.sz l):x.sz l≤l∧(nt_Box x:Int)≤16*(l - x.sz l):=by
 unfold Box.sz at h ⊢;simp only [andSz] at h ⊢;split at h
 ·omega
 rename_i q0;rw [if_neg q0];have s0:=Zdr hx.1.1 h0 h1 (Int.not_lt.1 q0);split at h
 ·omega
 rename_i q1;rw [if_neg q1];have s1:=Zdr hx.2.1 (by omega) (by omega) (Int.not_lt.1 q1);refine ⟨by omega,?_⟩;unfold nt_Box;omega
theorem Zki (xs:List Zg):Zm xs=2*xs.length:=Zrl (fun _=>rfl) xs
def Zhn (x:Zi):Nat:=Zm x.Steps
theorem Zi.ct (x:Zi) (l:Int) (hx:x.okay) (h0:0≤l) (h1:l≤1048576) (h:0≤x.sz l):x.sz l≤l∧(Zhn x:Int)≤16*(l - x.sz l):=by
 unfold Zi.sz at h ⊢;simp only [andSz] at h ⊢;split at h
 ·omega
 rename_i q0;rw [if_neg q0];have s0:=Zdr hx.2.2.2.2.2.1 h0 h1 (Int.not_lt.1 q0);refine ⟨by omega,?_⟩;unfold Zhn;have v0:=Zki x.Steps;omega
def Zyu (x:Zj):Nat:=Zm x.Scan.Steps+Zm x.Sort_.Steps+Zm x.Hash.Steps+Zm x.Merge.Steps+Zm x.Nested.Steps
theorem Zj.ct (x:Zj) (l:Int) (hx:x.okay) (h0:0≤l) (h1:l≤1048576) (h:0≤x.sz l):x.sz l≤l∧(Zyu x:Int)≤16*(l - x.sz l):=by
 unfold Zj.sz at h ⊢;simp only [andSz] at h ⊢;split at h
 ·omega
 rename_i q0;rw [if_neg q0];have s0:=Zi.ct x.Scan _ ⟨hx.1,hx.2.1,hx.2.2.1,hx.2.2.2.1,hx.2.2.2.2.1,hx.2.2.2.2.2.1⟩ h0 h1 (Int.not_lt.1 q0);split at h
 ·omega
 rename_i q1;rw [if_neg q1];have s1:=Zi.ct x.Sort_ _ ⟨hx.2.2.2.2.2.2.1,hx.2.2.2.2.2.2.2.1,hx.2.2.2.2.2.2.2.2.1,hx.2.2.2.2.2.2.2.2.2.1,hx.2.2.2.2.2.2.2.2.2.2.1,hx.2.2.2.2.2.2.2.2.2.2.2.1⟩ (by omega) (by omega) (Int.not_lt.1 q1);split at h
 ·omega
 rename_i q2;rw [if_neg q2];have s2:=Zi.ct x.Hash _ ⟨hx.2.2.2.2.2.2.2.2.2.2.2.2.1,hx.2.2.2.2.2.2.2.2.2.2.2.2.2.1,hx.2.2.2.2.2.2.2.2.2.2.2.2.2.2.1,hx.2.2.2.2.2.2.2.2.2.2.2.2.2.2.2.1,hx.2.2.2.2.2.2.2.2.2.2.2.2.2.2.2.2.1,hx.2.2.2.2.2.2.2.2.2.2.2.2.2.2.2.2.2.1⟩ (by omega) (by omega) (Int.not_lt.1 q2);split at h
 ·omega
 rename_i q3;rw [if_neg q3];have s3:=Zi.ct x.Merge _ ⟨hx.2.2.2.2.2.2.2.2.2.2.2.2.2.2.2.2.2.2.1,hx.2.2.2.2.2.2.2.2.2.2.2.2.2.2.2.2.2.2.2.1,hx.2.2.2.2.2.2.2.2.2.2.2.2.2.2.2.2.2.2.2.2.1,hx.2.2.2.2.2.2.2.2.2.2.2.2.2.2.2.2.2.2.2.2.2.1,hx.2.2.2.2.2.2.2.2.2.2.2.2.2.2.2.2.2.2.2.2.2.2.1,hx.2.2.2.2.2.2.2.2.2.2.2.2.2.2.2.2.2.2.2.2.2.2.2.1⟩ (by omega) (by omega) (Int.not_lt.1 q3);split at h
 ·omega
 rename_i q4;rw [if_neg q4];have s4:=Zi.ct x.Nested _ ⟨hx.2.2.2.2.2.2.2.2.2.2.2.2.2.2.2.2.2.2.2.2.2.2.2.2.1,hx.2.2.2.2.2.2.2.2.2.2.2.2.2.2.2.2.2.2.2.2.2.2.2.2.2.1,hx.2.2.2.2.2.2.2.2.2.2.2.2.2.2.2.2.2.2.2.2.2.2.2.2.2.2.1,hx.2.2.2.2.2.2.2.2.2.2.2.2.2.2.2.2.2.2.2.2.2.2.2.2.2.2.2.1,hx.2.2.2.2.2.2.2.2.2.2.2.2.2.2.2.2.2.2.2.2.2.2.2.2.2.2.2.2.1,hx.2.2.2.2.2.2.2.2.2.2.2.2.2.2.2.2.2.2.2.2.2.2.2.2.2.2.2.2.2⟩ (by omega) (by omega) (Int.not_lt.1 q4);refine ⟨by omega,?_⟩;unfold Zyu;have v0:Zhn x.Scan=Zm x.Scan.Steps:=rfl;have v1:Zhn x.Sort_=Zm x.Sort_.Steps:=rfl;have v2:Zhn x.Hash=Zm x.Hash.Steps:=rfl;have v3:Zhn x.Merge=Zm x.Merge.Steps:=rfl;have v4:Zhn x.Nested=Zm x.Nested.Steps:=rfl;have v5:=Zki x.Scan.Steps;have v6:=Zki x.Sort_.Steps;have v7:=Zki x.Hash.Steps;have v8:=Zki x.Merge.Steps;have v9:=Zki x.Nested.Steps;omega
theorem Zbsp (xs:List Ze):Zcc xs=3*xs.length:=Zrl (fun _=>rfl) xs
def Zyv (x:Plan):Nat:=Zcc x.Steps
theorem Plan.ct (x:Plan) (l:Int) (hx:x.okay) (h0:0≤l) (h1:l≤1048576) (h:0≤x.sz l):x.sz l≤l∧(Zyv x:Int)≤16*(l - x.sz l):=by
 unfold Plan.sz at h ⊢;simp only [andSz] at h ⊢;split at h
 ·omega
 rename_i q0;rw [if_neg q0];have s0:=Zdr hx.1 h0 h1 (Int.not_lt.1 q0);refine ⟨by omega,?_⟩;unfold Zyv;have v0:=Zbsp x.Steps;omega
theorem Zbsq (xs:List Zf):Zv xs=3*xs.length:=Zrl (fun _=>rfl) xs
def nt_Run (x:Run):Nat:=Zv x.Seen+x.Zu.Vars.length+Zo x.Zu.Rows
theorem Run.ct (x:Run) (l:Int) (hx:x.okay) (h0:0≤l) (h1:l≤1048576) (h:0≤x.sz l):x.sz l≤l∧(nt_Run x:Int)≤16*(l - x.sz l):=by
 unfold Run.sz at h ⊢;simp only [andSz] at h ⊢;split at h
 ·omega
 rename_i q0;rw [if_neg q0];have s0:=Zdr hx.2.2.1.1 h0 h1 (Int.not_lt.1 q0);split at h
 ·omega
 rename_i q1;rw [if_neg q1];have s1:=Zu.ct x.Zu _ ⟨hx.2.2.2.1,hx.2.2.2.2⟩ (by omega) (by omega) (Int.not_lt.1 q1);refine ⟨by omega,?_⟩;unfold nt_Run;have v0:Zyt x.Zu=x.Zu.Vars.length+Zo x.Zu.Rows:=rfl;have v1:=Zbsq x.Seen;have v2:Zo x.Zu.Rows=cnL Zbp x.Zu.Rows:=rfl;omega
end
end Go.Proofs.YtgnfoghkbpkgjaaGreat
