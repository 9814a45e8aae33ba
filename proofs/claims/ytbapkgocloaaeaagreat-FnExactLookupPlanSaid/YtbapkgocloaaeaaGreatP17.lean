/-
  Parts of the proofs for this seat: K FA MP MQ.
-/
import Derived.Test.YtbapkgocloaaeaaGreatP7
import Derived.Test.YtbapkgocloaaeaaGreatP8
set_option linter.unusedSimpArgs false
set_option linter.unusedVariables false
set_option maxRecDepth 100000
set_option maxHeartbeats 4000000
/- part: K -/
namespace Go.Proofs.YtbapkgocloaaeaaGreat
open Go.AM
def Zhf:MFun:=⟨5,205,[.tmp 10],.r [.bx 5 0,.bx 6 1,.bx 7 2,.o 10 (.mov (.q false))] [3,4,5,6,7] (.wc [.m 28 4,.ll 29 28,.bk 30 .gtr 29 1048576] [3,4,5,6,7,30] 30 (.r [.o 10 (.mov (.q true))] [10] .ret) (.r [.mk' 11 1048576] [3,4,5,6,7,11] (.r [.ln 31 30 5,.m 32 11,.cl 33 13 [31,32],.m 11 33] [3,4,5,6,7,11] (.wc [.m 34 11,.bk 35 .lss 34 0] [3,4,5,6,7,11,35] 35 (.r [.o 10 (.mov (.q true))] [10] .ret) (.r [.ln 36 2 6,.m 37 11,.cl 38 52 [36,37],.m 11 38] [3,4,5,6,7,11] (.wc [.m 39 11,.bk 40 .lss 39 0] [3,4,5,6,7,11,40] 40 (.r [.o 10 (.mov (.q true))] [10] .ret) (.r [.ln 41 2 7,.m 42 11,.cl 43 14 [41,42],.m 11 43] [3,4,5,6,7,11] (.wc [.m 44 11,.bk 45 .lss 44 0] [3,4,5,6,7,45] 45 (.r [.o 10 (.mov (.q true))] [10] .ret) (.seq (.drw [.ln 47 30 5,.xl 48 18 [47],.ln 49 2 6,.xl 50 54 [49],.ln 51 2 7,.xl 52 19 [51],.m 53 3,.m 54 4,.xl 55 59 [54],.cl 56 66 [48,50,52,53,55],.m 46 56,.o 57 (.ext (.s 46) 0),.o 58 (.ext (.s 46) 1),.o 59 (.ext (.s 46) 2),.o 12 (.alloc [.t .z,.t .nil]),.o 13 (.alloc [.t .nil]),.st 2 12 57,.st 1 13 58,.m 14 59] [[],[0],[],[2,1],[],[4,3],[],[],[7,5],[1,3,5,6,8,8],[9],[10],[10],[10],[],[],[14,11,9,0,1,2,3,4,5,6,7,8,9,10,11,14,15],[15,12,16,0,1,2,3,4,5,6,7,8,9,10,11,12,14,15,16],[13,17,0,1,2,3,4,5,6,7,8,9,10,11,12,13,14,15,16,17]] [3,4,5,6,7,12,13,14]) (.r [.ln 60 30 5,.xl 61 18 [60],.o 15 (.alloc [.t .z,.t .z,.t .z,.t .z,.t .z,.t .nil,.t .z,.t .z,.t .z,.t .z,.t .z,.t .nil,.t .z,.t .z,.t .z,.t .z,.t .z,.t .nil,.t .z,.t .z,.t .z,.t .z,.t .z,.t .nil,.t .z,.t .z,.t .z,.t .z,.t .z,.t .nil]),.st 30 15 61] [3,4,5,6,7,12,13,14,15] (.r [.ln 62 2 6,.xl 63 54 [62],.o 16 (.alloc [.t .z,.t .nil]),.st 2 16 63] [3,4,5,6,7,12,13,14,15,16] (.r [.ln 64 2 7,.xl 65 19 [64],.o 17 (.alloc [.t .z,.t .nil]),.st 2 17 65] [3,4,5,6,7,12,13,14,15,16,17] (.r [.m 66 4,.xl 67 59 [66],.m 18 67] [3,4,5,6,7,12,13,14,15,16,17,18] (.r [.ln 69 30 15,.ln 70 2 16,.ln 71 2 17,.m 72 3,.m 73 18,.xl 74 65 [69,70,71,72,73],.m 68 74,.o 75 (.ext (.s 68) 0),.o 76 (.ext (.s 68) 1),.o 77 (.ext (.s 68) 2),.o 19 (.alloc [.t .z,.t .nil]),.o 20 (.alloc [.t .nil]),.st 2 19 75,.st 1 20 76,.m 21 77] [3,4,5,6,7,12,13,14,15,16,17,18,19,20,21] (.wc [.ln 78 2 19,.ln 79 2 12,.cl 80 56 [78,79],.o 81 (.un .not (.s 80)),.m 82 81,.h 83 82 (.ln 1 20),.h 84 82 (.ln 1 13),.h 85 82 (.cl 26 [83,84]),.h 86 82 (.un .not (.s 85)),.o 87 (.pick (.s 82) (.q true) (.s 86)),.m 88 87,.h 89 88 (.mov (.s 21)),.h 90 88 (.mov (.s 14)),.h 91 88 (.beq true (.s 89) (.s 90)),.o 92 (.pick (.s 88) (.q true) (.s 91))] [3,4,5,6,7,12,13,14,15,16,17,18,19,20,21,92] 92 (.r [.o 10 (.mov (.q false))] [10] .ret) (.seq (.seq (.drw [.ln 93 30 15,.ln 94 30 5,.xl 95 18 [94],.cl 96 24 [93,95],.o 97 (.un .not (.s 96))] [[],[],[1],[0,2,2],[3]] [3,4,5,6,7,12,13,14,15,16,17,18,19,20,21,97]) (.cond (.s 97) (.r [.o 10 (.mov (.q false))] [10] .ret) .skip)) (.seq (.seq (.drw [.ln 98 2 16,.ln 99 2 6,.xl 100 54 [99],.cl 101 56 [98,100],.o 102 (.un .not (.s 101))] [[],[],[1],[0,2,2],[3]] [3,4,5,6,7,12,13,14,15,16,17,18,19,20,21,102]) (.cond (.s 102) (.r [.o 10 (.mov (.q false))] [10] .ret) .skip)) (.seq (.seq (.drw [.ln 103 2 17,.ln 104 2 7,.xl 105 19 [104],.cl 106 25 [103,105],.o 107 (.un .not (.s 106))] [[],[],[1],[0,2,2],[3]] [3,4,5,6,7,12,13,14,15,16,17,18,19,20,21,107]) (.cond (.s 107) (.r [.o 10 (.mov (.q false))] [10] .ret) .skip)) (.wc [.m 108 18,.m 109 4,.xl 110 59 [109],.cl 111 23 [108,110],.o 112 (.un .not (.s 111))] [3,4,5,6,7,12,13,14,15,16,17,18,19,20,21,112] 112 (.r [.o 10 (.mov (.q false))] [10] .ret) (.r [.mk' 22 1] [3,4,5,6,7,12,13,14,15,16,17,18,19,20,21,22] (.r [.ln 113 30 15,.m 114 22,.o 115 (.icall 28 [.s 113,.s 114]),.m 22 115] [3,4,5,6,7,12,13,14,16,17,18,19,20,21,22] (.r [.ln 116 2 16,.m 117 22,.o 118 (.icall 81 [.s 116,.s 117]),.m 22 118] [3,4,5,6,7,12,13,14,17,18,19,20,21,22] (.r [.ln 119 2 17,.m 120 22,.o 121 (.icall 29 [.s 119,.s 120]),.m 22 121] [3,4,5,6,7,12,13,14,18,19,20,21,22] (.r [.m 122 18,.m 123 22,.o 124 (.icall 32 [.s 122,.s 123]),.m 22 124] [3,4,5,6,7,12,13,14,19,20,21,22] (.wc [.m 125 22,.bk 126 .lss 125 0,.m 127 126,.h 128 127 (.ln 2 19),.h 129 127 (.ln 2 12),.h 130 127 (.cl 56 [128,129]),.h 131 127 (.un .not (.s 130)),.o 132 (.pick (.s 127) (.q true) (.s 131)),.m 133 132,.h 134 133 (.ln 1 20),.h 135 133 (.ln 1 13),.h 136 133 (.cl 26 [134,135]),.h 137 133 (.un .not (.s 136)),.o 138 (.pick (.s 133) (.q true) (.s 137)),.m 139 138,.h 140 139 (.mov (.s 21)),.h 141 139 (.mov (.s 14)),.h 142 139 (.beq true (.s 140) (.s 141)),.o 143 (.pick (.s 139) (.q true) (.s 142))] [3,4,5,6,7,12,13,14,19,20,143] 143 (.r [.o 10 (.mov (.q false))] [10] .ret) (.r [.mk' 23 1] [3,4,5,6,7,12,13,14,19,20,23] (.r [.ln 144 2 19,.m 145 23,.o 146 (.icall 81 [.s 144,.s 145]),.m 23 146] [3,4,5,6,7,12,13,14,19,20,23] (.r [.ln 147 1 20,.m 148 23,.o 149 (.icall 30 [.s 147,.s 148]),.m 23 149] [3,4,5,6,7,12,13,14,19,20,23] (.r [.mk' 24 1] [3,4,5,6,7,12,13,14,19,20,23,24] (.r [.ln 150 2 19,.m 151 24,.cl 152 82 [150,151],.m 24 152] [3,4,5,6,7,12,13,14,19,20,23,24] (.wc [.m 153 24,.bk 154 .lss 153 0] [3,4,5,6,7,12,13,14,19,20,23,24,154] 154 (.r [.o 10 (.mov (.q false))] [10] .ret) (.r [.ln 155 1 20,.m 156 24,.cl 157 83 [155,156],.m 24 157] [3,4,5,6,7,12,13,14,19,20,23,24] (.wc [.m 158 24,.bk 159 .lss 158 0] [3,4,5,6,7,12,13,14,19,20,23,24,159] 159 (.r [.o 10 (.mov (.q false))] [10] .ret) (.wc [.m 160 24,.m 161 23,.b 162 .neq 160 161] [3,4,5,6,7,12,13,14,19,20,23,162] 162 (.r [.o 10 (.mov (.q false))] [10] .ret) (.seq (.drw [.ln 164 30 5,.xl 165 18 [164],.ln 166 2 6,.xl 167 54 [166],.ln 168 2 7,.xl 169 19 [168],.m 170 3,.m 171 4,.xl 172 59 [171],.xl 173 65 [165,167,169,170,172],.m 163 173,.o 174 (.ext (.s 163) 0),.o 175 (.ext (.s 163) 1),.o 176 (.ext (.s 163) 2),.o 25 (.alloc [.t .z,.t .nil]),.o 26 (.alloc [.t .nil]),.st 2 25 174,.st 1 26 175,.m 27 176] [[],[0],[],[2,1],[],[4,3],[],[],[7,5],[1,3,5,6,8,8],[9],[10],[10],[10],[],[],[14,11,9,0,1,2,3,4,5,6,7,8,9,10,11,14,15],[15,12,16,0,1,2,3,4,5,6,7,8,9,10,11,12,14,15,16],[13,17,0,1,2,3,4,5,6,7,8,9,10,11,12,13,14,15,16,17]] [12,13,14,19,20,23,25,26,27]) (.wc [.ln 177 2 25,.ln 178 2 12,.cl 179 56 [177,178],.o 180 (.un .not (.s 179)),.m 181 180,.h 182 181 (.ln 1 26),.h 183 181 (.ln 1 13),.h 184 181 (.cl 26 [182,183]),.h 185 181 (.un .not (.s 184)),.o 186 (.pick (.s 181) (.q true) (.s 185)),.m 187 186,.h 188 187 (.mov (.s 27)),.h 189 187 (.mov (.s 14)),.h 190 187 (.beq true (.s 188) (.s 189)),.o 191 (.pick (.s 187) (.q true) (.s 190))] [19,20,23,191] 191 (.r [.o 10 (.mov (.q false))] [10] .ret) (.r [.mk' 24 1] [19,20,23,24] (.r [.ln 192 2 19,.m 193 24,.cl 194 82 [192,193],.m 24 194] [20,23,24] (.wc [.m 195 24,.bk 196 .lss 195 0] [20,23,24,196] 196 (.r [.o 10 (.mov (.q false))] [10] .ret) (.r [.ln 197 1 20,.m 198 24,.cl 199 83 [197,198],.m 24 199] [23,24] (.wc [.m 200 24,.bk 201 .lss 200 0] [23,24,201] 201 (.r [.o 10 (.mov (.q false))] [10] .ret) (.wc [.m 202 24,.m 203 23,.b 204 .neq 202 203] [204] 204 (.r [.o 10 (.mov (.q false))] [10] .ret) (.r [.o 10 (.mov (.q true))] [10] .ret)))))))))))))))))))))))))))))))))))))))))))⟩
theorem Zbm2:tbl 12=some Zhf:=tblOf_eq Tryz.func12 (by kernel_rfl) (by kernel_rfl)
def Z7h:MFun:=⟨2,36,[.tmp 4],.r [.bx 2 0,.mk' 4 0] [1,2] (.r [.fa 5 0 2,.ln 6 6 5,.m 7 1,.cl 8 84 [6,7],.m 1 8] [1,2] (.wc [.m 9 1,.bk 10 .lss 9 0] [1,2,10] 10 (.r [.mk' 4 (-1)] [4] .ret) (.r [.fa 11 6 2,.ln 12 6 11,.m 13 1,.cl 14 84 [12,13],.m 1 14] [1,2] (.wc [.m 15 1,.bk 16 .lss 15 0] [1,2,16] 16 (.r [.mk' 4 (-1)] [4] .ret) (.r [.fa 17 12 2,.ln 18 6 17,.m 19 1,.cl 20 84 [18,19],.m 1 20] [1,2] (.wc [.m 21 1,.bk 22 .lss 21 0] [1,2,22] 22 (.r [.mk' 4 (-1)] [4] .ret) (.r [.fa 23 18 2,.ln 24 6 23,.m 25 1,.cl 26 84 [24,25],.m 1 26] [1,2] (.wc [.m 27 1,.bk 28 .lss 27 0] [1,2,28] 28 (.r [.mk' 4 (-1)] [4] .ret) (.r [.fa 29 24 2,.ln 30 6 29,.m 31 1,.cl 32 84 [30,31],.m 1 32] [1] (.wc [.m 33 1,.bk 34 .lss 33 0] [1,34] 34 (.r [.mk' 4 (-1)] [4] .ret) (.r [.m 35 1,.m 4 35] [4] .ret)))))))))))⟩
theorem Zbm3:tbl 13=some Z7h:=tblOf_eq Tryz.func13 (by kernel_rfl) (by kernel_rfl)
def Z7i:MFun:=⟨2,12,[.tmp 4],.r [.bx 2 0,.mk' 4 0] [1,2] (.r [.fa 5 1 2,.l 6 5,.m 7 1,.cl 8 85 [6,7],.m 1 8] [1] (.wc [.m 9 1,.bk 10 .lss 9 0] [1,10] 10 (.r [.mk' 4 (-1)] [4] .ret) (.r [.m 11 1,.m 4 11] [4] .ret)))⟩
theorem Zbm4:tbl 14=some Z7i:=tblOf_eq Tryz.func14 (by kernel_rfl) (by kernel_rfl)
def Z7j:MFun:=⟨2,12,[.tmp 4],.r [.bx 2 0,.mk' 4 0] [1,2] (.r [.fa 5 0 2,.l 6 5,.m 7 1,.cl 8 86 [6,7],.m 1 8] [1] (.wc [.m 9 1,.bk 10 .lss 9 0] [1,10] 10 (.r [.mk' 4 (-1)] [4] .ret) (.r [.m 11 1,.m 4 11] [4] .ret)))⟩
theorem Zbm5:tbl 15=some Z7j:=tblOf_eq Tryz.func15 (by kernel_rfl) (by kernel_rfl)
def Z7k:MFun:=⟨2,12,[.tmp 4],.r [.mk' 4 0] [0,1] (.r [.m 5 1,.m 6 0,.ll 7 6,.b 8 .sub 5 7,.m 1 8] [1] (.wc [.m 9 1,.bk 10 .lss 9 0] [1,10] 10 (.r [.mk' 4 (-1)] [4] .ret) (.r [.m 11 1,.m 4 11] [4] .ret)))⟩
theorem Zbm6:tbl 16=some Z7k:=tblOf_eq Tryz.func16 (by kernel_rfl) (by kernel_rfl)
def Z7l:MFun:=⟨1,25,[.cell 2 (some 30)],.r [.bx 1 0,.o 2 (.alloc [.t .z,.t .z,.t .z,.t .z,.t .z,.t .nil,.t .z,.t .z,.t .z,.t .z,.t .z,.t .nil,.t .z,.t .z,.t .z,.t .z,.t .z,.t .nil,.t .z,.t .z,.t .z,.t .z,.t .z,.t .nil,.t .z,.t .z,.t .z,.t .z,.t .z,.t .nil])] [1,2] (.r [.o 3 (.alloc [.t .z,.t .z,.t .z,.t .z,.t .z,.t .nil,.t .z,.t .z,.t .z,.t .z,.t .z,.t .nil,.t .z,.t .z,.t .z,.t .z,.t .z,.t .nil,.t .z,.t .z,.t .z,.t .z,.t .z,.t .nil,.t .z,.t .z,.t .z,.t .z,.t .z,.t .nil])] [1,2,3] (.r [.fa 4 0 1,.ln 5 6 4,.cl 6 95 [5],.fa 7 0 3,.st 6 7 6] [1,2,3] (.r [.fa 8 6 1,.ln 9 6 8,.cl 10 95 [9],.fa 11 6 3,.st 6 11 10] [1,2,3] (.r [.fa 12 12 1,.ln 13 6 12,.cl 14 95 [13],.fa 15 12 3,.st 6 15 14] [1,2,3] (.r [.fa 16 18 1,.ln 17 6 16,.cl 18 95 [17],.fa 19 18 3,.st 6 19 18] [1,2,3] (.r [.fa 20 24 1,.ln 21 6 20,.cl 22 95 [21],.fa 23 24 3,.st 6 23 22] [2,3] (.r [.ln 24 30 3,.st 30 2 24] [2] .ret)))))))⟩
theorem Zbm7:tbl 18=some Z7l:=tblOf_eq Tryz.func18 (by kernel_rfl) (by kernel_rfl)
def Z7m:MFun:=⟨1,12,[.cell 2 (some 2)],.r [.bx 1 0,.o 2 (.alloc [.t .z,.t .nil])] [1,2] (.r [.o 3 (.alloc [.t .z,.t .nil])] [1,2,3] (.r [.fa 4 0 1,.l 5 4,.fa 6 0 3,.st 1 6 5] [1,2,3] (.r [.fa 7 1 1,.l 8 7,.cl 9 96 [8],.fa 10 1 3,.st 1 10 9] [2,3] (.r [.ln 11 2 3,.st 2 2 11] [2] .ret))))⟩
theorem Zbm8:tbl 19=some Z7m:=tblOf_eq Tryz.func19 (by kernel_rfl) (by kernel_rfl)
def Z7n:MFun:=⟨1,9,[.cell 2 (some 1)],.r [.bx 1 0,.o 2 (.alloc [.t .nil])] [1,2] (.r [.o 3 (.alloc [.t .nil])] [1,2,3] (.r [.fa 4 0 1,.l 5 4,.cl 6 97 [5],.fa 7 0 3,.st 1 7 6] [2,3] (.r [.ln 8 1 3,.st 1 2 8] [2] .ret)))⟩
theorem Zbm9:tbl 20=some Z7n:=tblOf_eq Tryz.func20 (by kernel_rfl) (by kernel_rfl)
def Zql:MCode :=.we [.m 11 5,.m 12 0,.ll 13 12,.b 14 .lss 11 13] [0,1,5,14] 14 0 (.seq (.block 1 (.seq (.drw [.m 17 0,.m 18 5,.ia 19 1 17 18,.l 20 19,.m 21 1,.m 22 5,.ia 23 1 21 22,.l 24 23,.b 25 .neq 20 24] [[],[],[0,1],[2],[],[],[4,5],[6],[3,7]] [0,1,5,25]) (.cond (.s 25) (.r [.o 4 (.mov (.q false))] [4] .ret) .skip))) (.reg [.m 15 5,.bk 16 .add 15 1,.m 5 16] [0,1,5]))
def Zwl:MFun:=⟨2,26,[.tmp 4],.r [.o 4 (.mov (.q false))] [0,1] (.wc [.m 6 0,.ll 7 6,.m 8 1,.ll 9 8,.b 10 .neq 7 9] [0,1,10] 10 (.r [.o 4 (.mov (.q false))] [4] .ret) (.seq (.r [.mk' 5 0] [0,1,5] (.block 0 (.loop [0,1,5] Zql))) (.r [.o 4 (.mov (.q true))] [4] .ret)))⟩
theorem Zbna:tbl 23=some Zwl:=tblOf_eq Tryz.func23 (by kernel_rfl) (by kernel_rfl)
def Z7o:MFun:=⟨2,35,[.tmp 4],.r [.bx 2 0,.bx 3 1,.o 4 (.mov (.q false))] [2,3] (.wc [.fa 5 0 2,.ln 6 6 5,.fa 7 0 3,.ln 8 6 7,.cl 9 109 [6,8],.o 10 (.un .not (.s 9))] [2,3,10] 10 (.r [.o 4 (.mov (.q false))] [4] .ret) (.wc [.fa 11 6 2,.ln 12 6 11,.fa 13 6 3,.ln 14 6 13,.cl 15 109 [12,14],.o 16 (.un .not (.s 15))] [2,3,16] 16 (.r [.o 4 (.mov (.q false))] [4] .ret) (.wc [.fa 17 12 2,.ln 18 6 17,.fa 19 12 3,.ln 20 6 19,.cl 21 109 [18,20],.o 22 (.un .not (.s 21))] [2,3,22] 22 (.r [.o 4 (.mov (.q false))] [4] .ret) (.wc [.fa 23 18 2,.ln 24 6 23,.fa 25 18 3,.ln 26 6 25,.cl 27 109 [24,26],.o 28 (.un .not (.s 27))] [2,3,28] 28 (.r [.o 4 (.mov (.q false))] [4] .ret) (.wc [.fa 29 24 2,.ln 30 6 29,.fa 31 24 3,.ln 32 6 31,.cl 33 109 [30,32],.o 34 (.un .not (.s 33))] [34] 34 (.r [.o 4 (.mov (.q false))] [4] .ret) (.r [.o 4 (.mov (.q true))] [4] .ret))))))⟩
theorem Zbnb:tbl 24=some Z7o:=tblOf_eq Tryz.func24 (by kernel_rfl) (by kernel_rfl)
def Z7p:MFun:=⟨2,16,[.tmp 4],.r [.bx 2 0,.bx 3 1,.o 4 (.mov (.q false))] [2,3] (.wc [.fa 5 0 2,.l 6 5,.fa 7 0 3,.l 8 7,.b 9 .neq 6 8] [2,3,9] 9 (.r [.o 4 (.mov (.q false))] [4] .ret) (.wc [.fa 10 1 2,.l 11 10,.fa 12 1 3,.l 13 12,.cl 14 110 [11,13],.o 15 (.un .not (.s 14))] [15] 15 (.r [.o 4 (.mov (.q false))] [4] .ret) (.r [.o 4 (.mov (.q true))] [4] .ret)))⟩
theorem Zbnc:tbl 25=some Z7p:=tblOf_eq Tryz.func25 (by kernel_rfl) (by kernel_rfl)
def Zwm:MFun:=⟨2,11,[.tmp 4],.r [.bx 2 0,.bx 3 1,.o 4 (.mov (.q false))] [2,3] (.wc [.fa 5 0 2,.l 6 5,.fa 7 0 3,.l 8 7,.cl 9 111 [6,8],.o 10 (.un .not (.s 9))] [10] 10 (.r [.o 4 (.mov (.q false))] [4] .ret) (.r [.o 4 (.mov (.q true))] [4] .ret))⟩
theorem Z7q:tbl 26=some Zwm:=tblOf_eq Tryz.func26 (by kernel_rfl) (by kernel_rfl)
def Z7r:MFun:=⟨2,26,[.tmp 4],.r [.bx 2 0,.mk' 4 0] [1,2] (.r [.fa 5 0 2,.ln 6 6 5,.m 7 1,.o 8 (.icall 113 [.s 6,.s 7]),.m 1 8] [1,2] (.r [.fa 9 6 2,.ln 10 6 9,.m 11 1,.o 12 (.icall 113 [.s 10,.s 11]),.m 1 12] [1,2] (.r [.fa 13 12 2,.ln 14 6 13,.m 15 1,.o 16 (.icall 113 [.s 14,.s 15]),.m 1 16] [1,2] (.r [.fa 17 18 2,.ln 18 6 17,.m 19 1,.o 20 (.icall 113 [.s 18,.s 19]),.m 1 20] [1,2] (.r [.fa 21 24 2,.ln 22 6 21,.m 23 1,.o 24 (.icall 113 [.s 22,.s 23]),.m 1 24] [1] (.r [.m 25 1,.m 4 25] [4] .ret))))))⟩
theorem Zbnd:tbl 28=some Z7r:=tblOf_eq Tryz.func28 (by kernel_rfl) (by kernel_rfl)
def Z7s:MFun:=⟨2,10,[.tmp 4],.r [.bx 2 0,.mk' 4 0] [1,2] (.r [.fa 5 1 2,.o 6 (.loadU (.s 5)),.m 7 1,.o 8 (.scall 114 [.s 6,.s 7] (.s 5)),.m 1 8] [1] (.r [.m 9 1,.m 4 9] [4] .ret))⟩
theorem Zbne:tbl 29=some Z7s:=tblOf_eq Tryz.func29 (by kernel_rfl) (by kernel_rfl)
def Zwn:MFun:=⟨2,10,[.tmp 4],.r [.bx 2 0,.mk' 4 0] [1,2] (.r [.fa 5 0 2,.o 6 (.loadU (.s 5)),.m 7 1,.o 8 (.scall 115 [.s 6,.s 7] (.s 5)),.m 1 8] [1] (.r [.m 9 1,.m 4 9] [4] .ret))⟩
theorem Z7t:tbl 30=some Zwn:=tblOf_eq Tryz.func30 (by kernel_rfl) (by kernel_rfl)
def Zn3:MCode :=.we [.m 6 5,.m 7 0,.ll 8 7,.b 9 .lss 6 8] [0,1,5,9] 9 0 (.seq (.block 1 (.r [.m 12 0,.m 13 5,.m 14 1,.ia 15 1 12 13,.st 1 15 14] [0,1,5] (.reg [.m 16 1,.bk 17 .add 16 1,.m 1 17] [0,1,5]))) (.reg [.m 10 5,.bk 11 .add 10 1,.m 5 11] [0,1,5]))
def Zwo:MFun:=⟨2,19,[.tmp 4],.r [.mk' 4 0] [0,1] (.seq (.r [.mk' 5 0] [0,1,5] (.block 0 (.loop [0,1,5] Zn3))) (.r [.m 18 1,.m 4 18] [4] .ret))⟩
theorem Z7u:tbl 32=some Zwo:=tblOf_eq Tryz.func32 (by kernel_rfl) (by kernel_rfl)
def Zqm:MCode :=.we [.m 6 5,.m 7 0,.ll 8 7,.b 9 .lss 6 8] [0,1,5,9] 9 0 (.seq (.block 1 (.wc [.m 12 0,.m 13 5,.ia 14 1 12 13,.l 15 14,.m 16 1,.b 17 .neq 15 16] [0,1,5,17] 17 (.r [.mk' 4 (-1)] [4] .ret) (.reg [.m 18 1,.bk 19 .add 18 1,.m 1 19] [0,1,5]))) (.reg [.m 10 5,.bk 11 .add 10 1,.m 5 11] [0,1,5]))
def Z7v:MFun:=⟨2,21,[.tmp 4],.r [.mk' 4 0] [0,1] (.seq (.r [.mk' 5 0] [0,1,5] (.block 0 (.loop [0,1,5] Zqm))) (.r [.m 20 1,.m 4 20] [4] .ret))⟩
theorem Zbnf:tbl 33=some Z7v:=tblOf_eq Tryz.func33 (by kernel_rfl) (by kernel_rfl)
def Z7w:MFun:=⟨2,18,[.tmp 4],.r [.bx 2 0,.mk' 4 0] [1,2] (.r [.fa 5 0 2,.ln 6 1 5,.m 7 1,.cl 8 15 [6,7],.m 1 8] [1,2] (.wc [.m 9 1,.bk 10 .lss 9 0] [1,2,10] 10 (.r [.mk' 4 (-1)] [4] .ret) (.r [.fa 11 1 2,.ln 12 2 11,.m 13 1,.cl 14 57 [12,13],.m 1 14] [1] (.wc [.m 15 1,.bk 16 .lss 15 0] [1,16] 16 (.r [.mk' 4 (-1)] [4] .ret) (.r [.m 17 1,.m 4 17] [4] .ret)))))⟩
theorem Zbng:tbl 34=some Z7w:=tblOf_eq Tryz.func34 (by kernel_rfl) (by kernel_rfl)
def Z7x:MFun:=⟨1,16,[.cell 2 (some 4)],.r [.bx 1 0,.o 2 (.alloc [.t .nil,.t .nil,.t .nil,.t .z])] [1,2] (.r [.o 3 (.alloc [.t .nil,.t .nil,.t .nil,.t .z])] [1,2,3] (.r [.fa 4 0 1,.ln 5 1 4,.cl 6 20 [5],.fa 7 0 3,.st 1 7 6] [1,2,3] (.r [.fa 8 1 1,.ln 9 2 8,.cl 10 58 [9],.fa 11 1 3,.st 2 11 10] [1,2,3] (.r [.fa 12 3 1,.l 13 12,.fa 14 3 3,.st 1 14 13] [2,3] (.r [.ln 15 4 3,.st 4 2 15] [2] .ret)))))⟩
theorem Zbnh:tbl 36=some Z7x:=tblOf_eq Tryz.func36 (by kernel_rfl) (by kernel_rfl)
def Z7y:MFun:=⟨2,22,[.tmp 4],.r [.bx 2 0,.bx 3 1,.o 4 (.mov (.q false))] [2,3] (.wc [.fa 5 0 2,.ln 6 1 5,.fa 7 0 3,.ln 8 1 7,.cl 9 26 [6,8],.o 10 (.un .not (.s 9))] [2,3,10] 10 (.r [.o 4 (.mov (.q false))] [4] .ret) (.wc [.fa 11 1 2,.ln 12 2 11,.fa 13 1 3,.ln 14 2 13,.cl 15 60 [12,14],.o 16 (.un .not (.s 15))] [2,3,16] 16 (.r [.o 4 (.mov (.q false))] [4] .ret) (.wc [.fa 17 3 2,.l 18 17,.fa 19 3 3,.l 20 19,.b 21 .neq 18 20] [21] 21 (.r [.o 4 (.mov (.q false))] [4] .ret) (.r [.o 4 (.mov (.q true))] [4] .ret))))⟩
theorem Zbni:tbl 38=some Z7y:=tblOf_eq Tryz.func38 (by kernel_rfl) (by kernel_rfl)
def Z7z:MFun:=⟨2,12,[.tmp 4],.r [.bx 2 0,.mk' 4 0] [1,2] (.r [.fa 5 1 2,.l 6 5,.m 7 1,.cl 8 146 [6,7],.m 1 8] [1] (.wc [.m 9 1,.bk 10 .lss 9 0] [1,10] 10 (.r [.mk' 4 (-1)] [4] .ret) (.r [.m 11 1,.m 4 11] [4] .ret)))⟩
theorem Zbnj:tbl 52=some Z7z:=tblOf_eq Tryz.func52 (by kernel_rfl) (by kernel_rfl)
def Z70:MFun:=⟨1,12,[.cell 2 (some 2)],.r [.bx 1 0,.o 2 (.alloc [.t .z,.t .nil])] [1,2] (.r [.o 3 (.alloc [.t .z,.t .nil])] [1,2,3] (.r [.fa 4 0 1,.l 5 4,.fa 6 0 3,.st 1 6 5] [1,2,3] (.r [.fa 7 1 1,.l 8 7,.cl 9 147 [8],.fa 10 1 3,.st 1 10 9] [2,3] (.r [.ln 11 2 3,.st 2 2 11] [2] .ret))))⟩
theorem Zbnk:tbl 54=some Z70:=tblOf_eq Tryz.func54 (by kernel_rfl) (by kernel_rfl)
def Zwp:MFun:=⟨2,16,[.tmp 4],.r [.bx 2 0,.bx 3 1,.o 4 (.mov (.q false))] [2,3] (.wc [.fa 5 0 2,.l 6 5,.fa 7 0 3,.l 8 7,.b 9 .neq 6 8] [2,3,9] 9 (.r [.o 4 (.mov (.q false))] [4] .ret) (.wc [.fa 10 1 2,.l 11 10,.fa 12 1 3,.l 13 12,.cl 14 150 [11,13],.o 15 (.un .not (.s 14))] [15] 15 (.r [.o 4 (.mov (.q false))] [4] .ret) (.r [.o 4 (.mov (.q true))] [4] .ret)))⟩
theorem Z71:tbl 56=some Zwp:=tblOf_eq Tryz.func56 (by kernel_rfl) (by kernel_rfl)
def Z72:MFun:=⟨2,18,[.tmp 4],.r [.bx 2 0,.mk' 4 0] [1,2] (.r [.fa 5 0 2,.l 6 5,.m 7 1,.cl 8 151 [6,7],.m 1 8] [1,2] (.wc [.m 9 1,.bk 10 .lss 9 0] [1,2,10] 10 (.r [.mk' 4 (-1)] [4] .ret) (.r [.fa 11 1 2,.l 12 11,.m 13 1,.cl 14 151 [12,13],.m 1 14] [1] (.wc [.m 15 1,.bk 16 .lss 15 0] [1,16] 16 (.r [.mk' 4 (-1)] [4] .ret) (.r [.m 17 1,.m 4 17] [4] .ret)))))⟩
theorem Zbnl:tbl 57=some Z72:=tblOf_eq Tryz.func57 (by kernel_rfl) (by kernel_rfl)
def Z73:MFun:=⟨1,13,[.cell 2 (some 2)],.r [.bx 1 0,.o 2 (.alloc [.t .nil,.t .nil])] [1,2] (.r [.o 3 (.alloc [.t .nil,.t .nil])] [1,2,3] (.r [.fa 4 0 1,.l 5 4,.cl 6 59 [5],.fa 7 0 3,.st 1 7 6] [1,2,3] (.r [.fa 8 1 1,.l 9 8,.cl 10 59 [9],.fa 11 1 3,.st 1 11 10] [2,3] (.r [.ln 12 2 3,.st 2 2 12] [2] .ret))))⟩
theorem Zbnm:tbl 58=some Z73:=tblOf_eq Tryz.func58 (by kernel_rfl) (by kernel_rfl)
def Zqn:MCode :=.we [.m 8 4,.m 9 0,.ll 10 9,.b 11 .lss 8 10] [0,3,4,11] 11 0 (.seq (.block 1 (.reg [.m 14 3,.m 15 4,.m 16 0,.m 17 4,.ia 18 1 16 17,.l 19 18,.ia 20 1 14 15,.st 1 20 19] [0,3,4])) (.reg [.m 12 4,.bk 13 .add 12 1,.m 4 13] [0,3,4]))
def Z74:MFun:=⟨1,22,[.tmp 2],.r [.o 2 (.mov (.c (.t .nil)))] [0] (.r [.m 5 0,.ll 6 5,.o 7 (.mkslice 3 1 8 [.z] (.s 6) (.s 6)),.m 3 7] [0,3] (.seq (.r [.mk' 4 0] [0,3,4] (.block 0 (.loop [0,3,4] Zqn))) (.r [.m 21 3,.m 2 21] [2] .ret)))⟩
theorem Zbnn:tbl 59=some Z74:=tblOf_eq Tryz.func59 (by kernel_rfl) (by kernel_rfl)
def Z75:MFun:=⟨2,17,[.tmp 4],.r [.bx 2 0,.bx 3 1,.o 4 (.mov (.q false))] [2,3] (.wc [.fa 5 0 2,.l 6 5,.fa 7 0 3,.l 8 7,.cl 9 23 [6,8],.o 10 (.un .not (.s 9))] [2,3,10] 10 (.r [.o 4 (.mov (.q false))] [4] .ret) (.wc [.fa 11 1 2,.l 12 11,.fa 13 1 3,.l 14 13,.cl 15 23 [12,14],.o 16 (.un .not (.s 15))] [16] 16 (.r [.o 4 (.mov (.q false))] [4] .ret) (.r [.o 4 (.mov (.q true))] [4] .ret)))⟩
theorem Zbno:tbl 60=some Z75:=tblOf_eq Tryz.func60 (by kernel_rfl) (by kernel_rfl)
def Zwq:MFun:=⟨2,10,[.tmp 4],.r [.bx 2 0,.mk' 4 0] [1,2] (.r [.fa 5 1 2,.o 6 (.loadU (.s 5)),.m 7 1,.o 8 (.scall 175 [.s 6,.s 7] (.s 5)),.m 1 8] [1] (.r [.m 9 1,.m 4 9] [4] .ret))⟩
theorem Z76:tbl 81=some Zwq:=tblOf_eq Tryz.func81 (by kernel_rfl) (by kernel_rfl)
def Zwr:MFun:=⟨2,12,[.tmp 4],.r [.bx 2 0,.mk' 4 0] [1,2] (.r [.fa 5 1 2,.l 6 5,.m 7 1,.cl 8 176 [6,7],.m 1 8] [1] (.wc [.m 9 1,.bk 10 .lss 9 0] [1,10] 10 (.r [.mk' 4 (-1)] [4] .ret) (.r [.m 11 1,.m 4 11] [4] .ret)))⟩
theorem Z77:tbl 82=some Zwr:=tblOf_eq Tryz.func82 (by kernel_rfl) (by kernel_rfl)
def Zws:MFun:=⟨2,12,[.tmp 4],.r [.bx 2 0,.mk' 4 0] [1,2] (.r [.fa 5 0 2,.l 6 5,.m 7 1,.cl 8 177 [6,7],.m 1 8] [1] (.wc [.m 9 1,.bk 10 .lss 9 0] [1,10] 10 (.r [.mk' 4 (-1)] [4] .ret) (.r [.m 11 1,.m 4 11] [4] .ret)))⟩
theorem Z78:tbl 83=some Zws:=tblOf_eq Tryz.func83 (by kernel_rfl) (by kernel_rfl)
def Z79:MFun:=⟨2,12,[.tmp 4],.r [.bx 2 0,.mk' 4 0] [1,2] (.r [.fa 5 5 2,.l 6 5,.m 7 1,.cl 8 178 [6,7],.m 1 8] [1] (.wc [.m 9 1,.bk 10 .lss 9 0] [1,10] 10 (.r [.mk' 4 (-1)] [4] .ret) (.r [.m 11 1,.m 4 11] [4] .ret)))⟩
theorem Zbnp:tbl 84=some Z79:=tblOf_eq Tryz.func84 (by kernel_rfl) (by kernel_rfl)
def Zjf:MCode :=.we [.m 12 5,.m 13 0,.ll 14 13,.b 15 .lss 12 14] [0,1,5,15] 15 0 (.seq (.block 1 (.r [.m 18 0,.m 19 5,.ia 20 2 18 19,.ln 21 2 20,.m 22 1,.cl 23 179 [21,22],.m 1 23] [0,1,5] (.r [.m 24 1,.bk 25 .lss 24 0] [0,1,5,25] (.cond (.s 25) (.r [.mk' 4 (-1)] [4] .ret) .skip)))) (.reg [.m 16 5,.bk 17 .add 16 1,.m 5 17] [0,1,5]))
def Z8a:MFun:=⟨2,27,[.tmp 4],.r [.mk' 4 0] [0,1] (.r [.m 6 1,.m 7 0,.ll 8 7,.b 9 .sub 6 8,.m 1 9] [0,1] (.wc [.m 10 1,.bk 11 .lss 10 0] [0,1,11] 11 (.r [.mk' 4 (-1)] [4] .ret) (.seq (.r [.mk' 5 0] [0,1,5] (.block 0 (.loop [0,1,5] Zjf))) (.r [.m 26 1,.m 4 26] [4] .ret))))⟩
theorem Zbnq:tbl 85=some Z8a:=tblOf_eq Tryz.func85 (by kernel_rfl) (by kernel_rfl)
def Z8b:MFun:=⟨2,12,[.tmp 4],.r [.mk' 4 0] [0,1] (.r [.m 5 1,.m 6 0,.ll 7 6,.b 8 .sub 5 7,.m 1 8] [1] (.wc [.m 9 1,.bk 10 .lss 9 0] [1,10] 10 (.r [.mk' 4 (-1)] [4] .ret) (.r [.m 11 1,.m 4 11] [4] .ret)))⟩
theorem Zbnr:tbl 86=some Z8b:=tblOf_eq Tryz.func86 (by kernel_rfl) (by kernel_rfl)
def Z8c:MFun:=⟨1,24,[.cell 2 (some 6)],.r [.bx 1 0,.o 2 (.alloc [.t .z,.t .z,.t .z,.t .z,.t .z,.t .nil])] [1,2] (.r [.o 3 (.alloc [.t .z,.t .z,.t .z,.t .z,.t .z,.t .nil])] [1,2,3] (.r [.fa 4 0 1,.l 5 4,.fa 6 0 3,.st 1 6 5] [1,2,3] (.r [.fa 7 1 1,.l 8 7,.fa 9 1 3,.st 1 9 8] [1,2,3] (.r [.fa 10 2 1,.l 11 10,.fa 12 2 3,.st 1 12 11] [1,2,3] (.r [.fa 13 3 1,.l 14 13,.fa 15 3 3,.st 1 15 14] [1,2,3] (.r [.fa 16 4 1,.l 17 16,.fa 18 4 3,.st 1 18 17] [1,2,3] (.r [.fa 19 5 1,.l 20 19,.cl 21 186 [20],.fa 22 5 3,.st 1 22 21] [2,3] (.r [.ln 23 6 3,.st 6 2 23] [2] .ret))))))))⟩
theorem Zbns:tbl 95=some Z8c:=tblOf_eq Tryz.func95 (by kernel_rfl) (by kernel_rfl)
def Zqo:MCode :=.we [.m 8 4,.m 9 0,.ll 10 9,.b 11 .lss 8 10] [0,3,4,11] 11 0 (.seq (.block 1 (.reg [.m 14 3,.m 15 4,.m 16 0,.m 17 4,.ia 18 2 16 17,.ln 19 2 18,.cl 20 187 [19],.ia 21 2 14 15,.st 2 21 20] [0,3,4])) (.reg [.m 12 4,.bk 13 .add 12 1,.m 4 13] [0,3,4]))
def Z8d:MFun:=⟨1,23,[.tmp 2],.r [.o 2 (.mov (.c (.t .nil)))] [0] (.r [.m 5 0,.ll 6 5,.o 7 (.mkslice 223 2 40 [.str ⟨#[]⟩,.lst 1 []] (.s 6) (.s 6)),.m 3 7] [0,3] (.seq (.r [.mk' 4 0] [0,3,4] (.block 0 (.loop [0,3,4] Zqo))) (.r [.m 22 3,.m 2 22] [2] .ret)))⟩
theorem Zbnt:tbl 96=some Z8d:=tblOf_eq Tryz.func96 (by kernel_rfl) (by kernel_rfl)
def Zqp:MCode :=.we [.m 8 4,.m 9 0,.ll 10 9,.b 11 .lss 8 10] [0,3,4,11] 11 0 (.seq (.block 1 (.reg [.m 14 3,.m 15 4,.m 16 0,.m 17 4,.ia 18 3 16 17,.ln 19 3 18,.cl 20 188 [19],.ia 21 3 14 15,.st 3 21 20] [0,3,4])) (.reg [.m 12 4,.bk 13 .add 12 1,.m 4 13] [0,3,4]))
def Z8e:MFun:=⟨1,23,[.tmp 2],.r [.o 2 (.mov (.c (.t .nil)))] [0] (.r [.m 5 0,.ll 6 5,.o 7 (.mkslice 142 3 24 [.z,.z,.z] (.s 6) (.s 6)),.m 3 7] [0,3] (.seq (.r [.mk' 4 0] [0,3,4] (.block 0 (.loop [0,3,4] Zqp))) (.r [.m 22 3,.m 2 22] [2] .ret)))⟩
theorem Zbnu:tbl 97=some Z8e:=tblOf_eq Tryz.func97 (by kernel_rfl) (by kernel_rfl)
def Z8f:MFun:=⟨2,36,[.tmp 4],.r [.bx 2 0,.bx 3 1,.o 4 (.mov (.q false))] [2,3] (.wc [.fa 5 0 2,.l 6 5,.fa 7 0 3,.l 8 7,.b 9 .neq 6 8] [2,3,9] 9 (.r [.o 4 (.mov (.q false))] [4] .ret) (.wc [.fa 10 1 2,.l 11 10,.fa 12 1 3,.l 13 12,.b 14 .neq 11 13] [2,3,14] 14 (.r [.o 4 (.mov (.q false))] [4] .ret) (.wc [.fa 15 2 2,.l 16 15,.fa 17 2 3,.l 18 17,.b 19 .neq 16 18] [2,3,19] 19 (.r [.o 4 (.mov (.q false))] [4] .ret) (.wc [.fa 20 3 2,.l 21 20,.fa 22 3 3,.l 23 22,.b 24 .neq 21 23] [2,3,24] 24 (.r [.o 4 (.mov (.q false))] [4] .ret) (.wc [.fa 25 4 2,.l 26 25,.fa 27 4 3,.l 28 27,.b 29 .neq 26 28] [2,3,29] 29 (.r [.o 4 (.mov (.q false))] [4] .ret) (.wc [.fa 30 5 2,.l 31 30,.fa 32 5 3,.l 33 32,.cl 34 197 [31,33],.o 35 (.un .not (.s 34))] [35] 35 (.r [.o 4 (.mov (.q false))] [4] .ret) (.r [.o 4 (.mov (.q true))] [4] .ret)))))))⟩
theorem Zbnv:tbl 109=some Z8f:=tblOf_eq Tryz.func109 (by kernel_rfl) (by kernel_rfl)
def Zqq:MCode :=.we [.m 11 5,.m 12 0,.ll 13 12,.b 14 .lss 11 13] [0,1,5,14] 14 0 (.seq (.block 1 (.seq (.drw [.m 17 0,.m 18 5,.ia 19 2 17 18,.ln 20 2 19,.m 21 1,.m 22 5,.ia 23 2 21 22,.ln 24 2 23,.cl 25 198 [20,24],.o 26 (.un .not (.s 25))] [[],[],[0,1],[2],[],[],[4,5],[6],[3,7],[8]] [0,1,5,26]) (.cond (.s 26) (.r [.o 4 (.mov (.q false))] [4] .ret) .skip))) (.reg [.m 15 5,.bk 16 .add 15 1,.m 5 16] [0,1,5]))
def Zwt:MFun:=⟨2,27,[.tmp 4],.r [.o 4 (.mov (.q false))] [0,1] (.wc [.m 6 0,.ll 7 6,.m 8 1,.ll 9 8,.b 10 .neq 7 9] [0,1,10] 10 (.r [.o 4 (.mov (.q false))] [4] .ret) (.seq (.r [.mk' 5 0] [0,1,5] (.block 0 (.loop [0,1,5] Zqq))) (.r [.o 4 (.mov (.q true))] [4] .ret)))⟩
theorem Zbnw:tbl 110=some Zwt:=tblOf_eq Tryz.func110 (by kernel_rfl) (by kernel_rfl)
def Zn4:MCode :=.we [.m 11 5,.m 12 0,.ll 13 12,.b 14 .lss 11 13] [0,1,5,14] 14 0 (.seq (.block 1 (.seq (.drw [.m 17 0,.m 18 5,.ia 19 3 17 18,.ln 20 3 19,.m 21 1,.m 22 5,.ia 23 3 21 22,.ln 24 3 23,.cl 25 199 [20,24],.o 26 (.un .not (.s 25))] [[],[],[0,1],[2],[],[],[4,5],[6],[3,7],[8]] [0,1,5,26]) (.cond (.s 26) (.r [.o 4 (.mov (.q false))] [4] .ret) .skip))) (.reg [.m 15 5,.bk 16 .add 15 1,.m 5 16] [0,1,5]))
def Zqr:MFun:=⟨2,27,[.tmp 4],.r [.o 4 (.mov (.q false))] [0,1] (.wc [.m 6 0,.ll 7 6,.m 8 1,.ll 9 8,.b 10 .neq 7 9] [0,1,10] 10 (.r [.o 4 (.mov (.q false))] [4] .ret) (.seq (.r [.mk' 5 0] [0,1,5] (.block 0 (.loop [0,1,5] Zn4))) (.r [.o 4 (.mov (.q true))] [4] .ret)))⟩
theorem Z8g:tbl 111=some Zqr:=tblOf_eq Tryz.func111 (by kernel_rfl) (by kernel_rfl)
def Z8h:MFun:=⟨2,10,[.tmp 4],.r [.bx 2 0,.mk' 4 0] [1,2] (.r [.fa 5 5 2,.o 6 (.loadU (.s 5)),.m 7 1,.o 8 (.scall 200 [.s 6,.s 7] (.s 5)),.m 1 8] [1] (.r [.m 9 1,.m 4 9] [4] .ret))⟩
theorem Zbnx:tbl 113=some Z8h:=tblOf_eq Tryz.func113 (by kernel_rfl) (by kernel_rfl)
def Zn5:MCode :=.we [.m 6 5,.m 7 0,.ll 8 7,.b 9 .lss 6 8] [0,1,5,9] 9 0 (.seq (.block 1 (.r [.m 12 0,.m 13 5,.m 14 1,.cl 15 201 [14],.ia 16 2 12 13,.fa 17 0 16,.st 1 17 15] [0,1,5] (.r [.m 18 1,.bk 19 .add 18 1,.m 1 19] [0,1,5] (.reg [.m 20 0,.m 21 5,.ia 22 2 20 21,.fa 23 1 22,.o 24 (.loadU (.s 23)),.m 25 1,.o 26 (.scall 32 [.s 24,.s 25] (.s 23)),.m 1 26] [0,1,5])))) (.reg [.m 10 5,.bk 11 .add 10 1,.m 5 11] [0,1,5]))
def Zwu:MFun:=⟨2,28,[.tmp 4],.r [.mk' 4 0] [0,1] (.seq (.r [.mk' 5 0] [0,1,5] (.block 0 (.loop [0,1,5] Zn5))) (.r [.m 27 1,.m 4 27] [4] .ret))⟩
theorem Z8i:tbl 114=some Zwu:=tblOf_eq Tryz.func114 (by kernel_rfl) (by kernel_rfl)
def Zkt:MCode :=.we [.m 6 5,.m 7 0,.ll 8 7,.b 9 .lss 6 8] [0,1,5,9] 9 0 (.seq (.block 1 (.r [.m 12 0,.m 13 5,.m 14 1,.ia 15 3 12 13,.fa 16 0 15,.st 1 16 14] [0,1,5] (.r [.m 17 1,.bk 18 .add 17 1,.m 1 18] [0,1,5] (.r [.m 19 0,.m 20 5,.m 21 1,.ia 22 3 19 20,.fa 23 1 22,.st 1 23 21] [0,1,5] (.r [.m 24 1,.bk 25 .add 24 1,.m 1 25] [0,1,5] (.r [.m 26 0,.m 27 5,.m 28 1,.ia 29 3 26 27,.fa 30 2 29,.st 1 30 28] [0,1,5] (.reg [.m 31 1,.bk 32 .add 31 1,.m 1 32] [0,1,5]))))))) (.reg [.m 10 5,.bk 11 .add 10 1,.m 5 11] [0,1,5]))
def Zqs:MFun:=⟨2,34,[.tmp 4],.r [.mk' 4 0] [0,1] (.seq (.r [.mk' 5 0] [0,1,5] (.block 0 (.loop [0,1,5] Zkt))) (.r [.m 33 1,.m 4 33] [4] .ret))⟩
theorem Zwv:tbl 115=some Zqs:=tblOf_eq Tryz.func115 (by kernel_rfl) (by kernel_rfl)
def Zjg:MCode :=.we [.m 12 5,.m 13 0,.ll 14 13,.b 15 .lss 12 14] [0,1,5,15] 15 0 (.seq (.block 1 (.r [.m 18 0,.m 19 5,.ia 20 8 18 19,.ln 21 8 20,.m 22 1,.cl 23 235 [21,22],.m 1 23] [0,1,5] (.r [.m 24 1,.bk 25 .lss 24 0] [0,1,5,25] (.cond (.s 25) (.r [.mk' 4 (-1)] [4] .ret) .skip)))) (.reg [.m 16 5,.bk 17 .add 16 1,.m 5 17] [0,1,5]))
def Z8j:MFun:=⟨2,27,[.tmp 4],.r [.mk' 4 0] [0,1] (.r [.m 6 1,.m 7 0,.ll 8 7,.b 9 .sub 6 8,.m 1 9] [0,1] (.wc [.m 10 1,.bk 11 .lss 10 0] [0,1,11] 11 (.r [.mk' 4 (-1)] [4] .ret) (.seq (.r [.mk' 5 0] [0,1,5] (.block 0 (.loop [0,1,5] Zjg))) (.r [.m 26 1,.m 4 26] [4] .ret))))⟩
theorem Zbny:tbl 146=some Z8j:=tblOf_eq Tryz.func146 (by kernel_rfl) (by kernel_rfl)
def Zqt:MCode :=.we [.m 8 4,.m 9 0,.ll 10 9,.b 11 .lss 8 10] [0,3,4,11] 11 0 (.seq (.block 1 (.reg [.m 14 3,.m 15 4,.m 16 0,.m 17 4,.ia 18 8 16 17,.ln 19 8 18,.cl 20 236 [19],.ia 21 8 14 15,.st 8 21 20] [0,3,4])) (.reg [.m 12 4,.bk 13 .add 12 1,.m 4 13] [0,3,4]))
def Z8k:MFun:=⟨1,23,[.tmp 2],.r [.o 2 (.mov (.c (.t .nil)))] [0] (.r [.m 5 0,.ll 6 5,.o 7 (.mkslice 114 8 128 [.z,.lst 2 [],.lst 3 [],.lst 1 [],.lst 1 [],.z,.z,.z] (.s 6) (.s 6)),.m 3 7] [0,3] (.seq (.r [.mk' 4 0] [0,3,4] (.block 0 (.loop [0,3,4] Zqt))) (.r [.m 22 3,.m 2 22] [2] .ret)))⟩
theorem Zbnz:tbl 147=some Z8k:=tblOf_eq Tryz.func147 (by kernel_rfl) (by kernel_rfl)
def Zn6:MCode :=.we [.m 11 5,.m 12 0,.ll 13 12,.b 14 .lss 11 13] [0,1,5,14] 14 0 (.seq (.block 1 (.seq (.drw [.m 17 0,.m 18 5,.ia 19 8 17 18,.ln 20 8 19,.m 21 1,.m 22 5,.ia 23 8 21 22,.ln 24 8 23,.cl 25 237 [20,24],.o 26 (.un .not (.s 25))] [[],[],[0,1],[2],[],[],[4,5],[6],[3,7],[8]] [0,1,5,26]) (.cond (.s 26) (.r [.o 4 (.mov (.q false))] [4] .ret) .skip))) (.reg [.m 15 5,.bk 16 .add 15 1,.m 5 16] [0,1,5]))
def Zqu:MFun:=⟨2,27,[.tmp 4],.r [.o 4 (.mov (.q false))] [0,1] (.wc [.m 6 0,.ll 7 6,.m 8 1,.ll 9 8,.b 10 .neq 7 9] [0,1,10] 10 (.r [.o 4 (.mov (.q false))] [4] .ret) (.seq (.r [.mk' 5 0] [0,1,5] (.block 0 (.loop [0,1,5] Zn6))) (.r [.o 4 (.mov (.q true))] [4] .ret)))⟩
theorem Z8l:tbl 150=some Zqu:=tblOf_eq Tryz.func150 (by kernel_rfl) (by kernel_rfl)
def Z8m:MFun:=⟨2,12,[.tmp 4],.r [.mk' 4 0] [0,1] (.r [.m 5 1,.m 6 0,.ll 7 6,.b 8 .sub 5 7,.m 1 8] [1] (.wc [.m 9 1,.bk 10 .lss 9 0] [1,10] 10 (.r [.mk' 4 (-1)] [4] .ret) (.r [.m 11 1,.m 4 11] [4] .ret)))⟩
theorem Zbn0:tbl 151=some Z8m:=tblOf_eq Tryz.func151 (by kernel_rfl) (by kernel_rfl)
def Zn7:MCode :=.we [.m 6 5,.m 7 0,.ll 8 7,.b 9 .lss 6 8] [0,1,5,9] 9 0 (.seq (.block 1 (.r [.m 12 0,.m 13 5,.m 14 1,.ia 15 8 12 13,.fa 16 0 15,.fa 17 0 16,.st 1 17 14] [0,1,5] (.r [.m 18 1,.bk 19 .add 18 1,.m 1 19] [0,1,5] (.r [.m 20 0,.m 21 5,.ia 22 8 20 21,.fa 23 0 22,.fa 24 1 23,.o 25 (.loadU (.s 24)),.m 26 1,.o 27 (.scall 114 [.s 25,.s 26] (.s 24)),.m 1 27] [0,1,5] (.r [.m 28 0,.m 29 5,.ia 30 8 28 29,.fa 31 2 30,.fa 32 0 31,.fa 33 0 32,.o 34 (.loadU (.s 33)),.m 35 1,.o 36 (.scall 115 [.s 34,.s 35] (.s 33)),.m 1 36] [0,1,5] (.r [.m 37 0,.m 38 5,.ia 39 8 37 38,.fa 40 2 39,.fa 41 1 40,.fa 42 0 41,.o 43 (.loadU (.s 42)),.m 44 1,.o 45 (.scall 32 [.s 43,.s 44] (.s 42)),.m 1 45] [0,1,5] (.r [.m 46 0,.m 47 5,.ia 48 8 46 47,.fa 49 2 48,.fa 50 1 49,.fa 51 1 50,.o 52 (.loadU (.s 51)),.m 53 1,.o 54 (.scall 32 [.s 52,.s 53] (.s 51)),.m 1 54] [0,1,5] (.r [.m 55 0,.m 56 5,.m 57 1,.ia 58 8 55 56,.fa 59 2 58,.fa 60 3 59,.st 1 60 57] [0,1,5] (.r [.m 61 1,.bk 62 .add 61 1,.m 1 62] [0,1,5] (.r [.m 63 0,.m 64 5,.m 65 1,.ia 66 8 63 64,.fa 67 6 66,.st 1 67 65] [0,1,5] (.r [.m 68 1,.bk 69 .add 68 1,.m 1 69] [0,1,5] (.r [.m 70 0,.m 71 5,.m 72 1,.ia 73 8 70 71,.fa 74 7 73,.st 1 74 72] [0,1,5] (.reg [.m 75 1,.bk 76 .add 75 1,.m 1 76] [0,1,5]))))))))))))) (.reg [.m 10 5,.bk 11 .add 10 1,.m 5 11] [0,1,5]))
def Zww:MFun:=⟨2,78,[.tmp 4],.r [.mk' 4 0] [0,1] (.seq (.r [.mk' 5 0] [0,1,5] (.block 0 (.loop [0,1,5] Zn7))) (.r [.m 77 1,.m 4 77] [4] .ret))⟩
theorem Z8n:tbl 175=some Zww:=tblOf_eq Tryz.func175 (by kernel_rfl) (by kernel_rfl)
def Zn8:MCode :=.we [.m 6 5,.m 7 0,.ll 8 7,.b 9 .lss 6 8] [0,1,5,9] 9 0 (.seq (.block 1 (.wc [.m 12 0,.m 13 5,.ia 14 8 12 13,.fa 15 0 14,.fa 16 0 15,.l 17 16,.m 18 1,.b 19 .neq 17 18] [0,1,5,19] 19 (.r [.mk' 4 (-1)] [4] .ret) (.r [.m 20 1,.bk 21 .add 20 1,.m 1 21] [0,1,5] (.r [.m 22 0,.m 23 5,.ia 24 8 22 23,.fa 25 0 24,.fa 26 1 25,.l 27 26,.m 28 1,.cl 29 248 [27,28],.m 1 29] [0,1,5] (.wc [.m 30 1,.bk 31 .lss 30 0] [0,1,5,31] 31 (.r [.mk' 4 (-1)] [4] .ret) (.r [.m 32 0,.m 33 5,.ia 34 8 32 33,.fa 35 2 34,.fa 36 0 35,.fa 37 0 36,.l 38 37,.m 39 1,.cl 40 177 [38,39],.m 1 40] [0,1,5] (.wc [.m 41 1,.bk 42 .lss 41 0] [0,1,5,42] 42 (.r [.mk' 4 (-1)] [4] .ret) (.r [.m 43 0,.m 44 5,.ia 45 8 43 44,.fa 46 2 45,.fa 47 1 46,.fa 48 0 47,.l 49 48,.m 50 1,.cl 51 33 [49,50],.m 1 51] [0,1,5] (.wc [.m 52 1,.bk 53 .lss 52 0] [0,1,5,53] 53 (.r [.mk' 4 (-1)] [4] .ret) (.r [.m 54 0,.m 55 5,.ia 56 8 54 55,.fa 57 2 56,.fa 58 1 57,.fa 59 1 58,.l 60 59,.m 61 1,.cl 62 33 [60,61],.m 1 62] [0,1,5] (.wc [.m 63 1,.bk 64 .lss 63 0] [0,1,5,64] 64 (.r [.mk' 4 (-1)] [4] .ret) (.wc [.m 65 0,.m 66 5,.ia 67 8 65 66,.fa 68 2 67,.fa 69 3 68,.l 70 69,.m 71 1,.b 72 .neq 70 71] [0,1,5,72] 72 (.r [.mk' 4 (-1)] [4] .ret) (.r [.m 73 1,.bk 74 .add 73 1,.m 1 74] [0,1,5] (.wc [.m 75 0,.m 76 5,.ia 77 8 75 76,.fa 78 6 77,.l 79 78,.m 80 1,.b 81 .neq 79 80] [0,1,5,81] 81 (.r [.mk' 4 (-1)] [4] .ret) (.r [.m 82 1,.bk 83 .add 82 1,.m 1 83] [0,1,5] (.wc [.m 84 0,.m 85 5,.ia 86 8 84 85,.fa 87 7 86,.l 88 87,.m 89 1,.b 90 .neq 88 89] [0,1,5,90] 90 (.r [.mk' 4 (-1)] [4] .ret) (.reg [.m 91 1,.bk 92 .add 91 1,.m 1 92] [0,1,5]))))))))))))))))) (.reg [.m 10 5,.bk 11 .add 10 1,.m 5 11] [0,1,5]))
def Zwx:MFun:=⟨2,94,[.tmp 4],.r [.mk' 4 0] [0,1] (.seq (.r [.mk' 5 0] [0,1,5] (.block 0 (.loop [0,1,5] Zn8))) (.r [.m 93 1,.m 4 93] [4] .ret))⟩
theorem Z8o:tbl 176=some Zwx:=tblOf_eq Tryz.func176 (by kernel_rfl) (by kernel_rfl)
def Zn9:MCode :=.we [.m 6 5,.m 7 0,.ll 8 7,.b 9 .lss 6 8] [0,1,5,9] 9 0 (.seq (.block 1 (.wc [.m 12 0,.m 13 5,.ia 14 3 12 13,.fa 15 0 14,.l 16 15,.m 17 1,.b 18 .neq 16 17] [0,1,5,18] 18 (.r [.mk' 4 (-1)] [4] .ret) (.r [.m 19 1,.bk 20 .add 19 1,.m 1 20] [0,1,5] (.wc [.m 21 0,.m 22 5,.ia 23 3 21 22,.fa 24 1 23,.l 25 24,.m 26 1,.b 27 .neq 25 26] [0,1,5,27] 27 (.r [.mk' 4 (-1)] [4] .ret) (.r [.m 28 1,.bk 29 .add 28 1,.m 1 29] [0,1,5] (.wc [.m 30 0,.m 31 5,.ia 32 3 30 31,.fa 33 2 32,.l 34 33,.m 35 1,.b 36 .neq 34 35] [0,1,5,36] 36 (.r [.mk' 4 (-1)] [4] .ret) (.reg [.m 37 1,.bk 38 .add 37 1,.m 1 38] [0,1,5]))))))) (.reg [.m 10 5,.bk 11 .add 10 1,.m 5 11] [0,1,5]))
def Zwy:MFun:=⟨2,40,[.tmp 4],.r [.mk' 4 0] [0,1] (.seq (.r [.mk' 5 0] [0,1,5] (.block 0 (.loop [0,1,5] Zn9))) (.r [.m 39 1,.m 4 39] [4] .ret))⟩
theorem Z8p:tbl 177=some Zwy:=tblOf_eq Tryz.func177 (by kernel_rfl) (by kernel_rfl)
def Z8q:MFun:=⟨2,12,[.tmp 4],.r [.mk' 4 0] [0,1] (.r [.m 5 1,.m 6 0,.ll 7 6,.b 8 .sub 5 7,.m 1 8] [1] (.wc [.m 9 1,.bk 10 .lss 9 0] [1,10] 10 (.r [.mk' 4 (-1)] [4] .ret) (.r [.m 11 1,.m 4 11] [4] .ret)))⟩
theorem Zbn1:tbl 178=some Z8q:=tblOf_eq Tryz.func178 (by kernel_rfl) (by kernel_rfl)
def Z8r:MFun:=⟨2,19,[.tmp 4],.r [.bx 2 0,.mk' 4 0] [1,2] (.r [.m 5 1,.fa 6 0 2,.l 7 6,.o 8 (.len true (.s 7)),.b 9 .sub 5 8,.m 1 9] [1,2] (.wc [.m 10 1,.bk 11 .lss 10 0] [1,2,11] 11 (.r [.mk' 4 (-1)] [4] .ret) (.r [.fa 12 1 2,.l 13 12,.m 14 1,.cl 15 151 [13,14],.m 1 15] [1] (.wc [.m 16 1,.bk 17 .lss 16 0] [1,17] 17 (.r [.mk' 4 (-1)] [4] .ret) (.r [.m 18 1,.m 4 18] [4] .ret)))))⟩
theorem Zbn2:tbl 179=some Z8r:=tblOf_eq Tryz.func179 (by kernel_rfl) (by kernel_rfl)
def Zqv:MCode :=.we [.m 8 4,.m 9 0,.ll 10 9,.b 11 .lss 8 10] [0,3,4,11] 11 0 (.seq (.block 1 (.reg [.m 14 3,.m 15 4,.m 16 0,.m 17 4,.ia 18 2 16 17,.ln 19 2 18,.cl 20 256 [19],.ia 21 2 14 15,.st 2 21 20] [0,3,4])) (.reg [.m 12 4,.bk 13 .add 12 1,.m 4 13] [0,3,4]))
def Z8s:MFun:=⟨1,23,[.tmp 2],.r [.o 2 (.mov (.c (.t .nil)))] [0] (.r [.m 5 0,.ll 6 5,.o 7 (.mkslice 221 2 16 [.z,.z] (.s 6) (.s 6)),.m 3 7] [0,3] (.seq (.r [.mk' 4 0] [0,3,4] (.block 0 (.loop [0,3,4] Zqv))) (.r [.m 22 3,.m 2 22] [2] .ret)))⟩
theorem Zbn3:tbl 186=some Z8s:=tblOf_eq Tryz.func186 (by kernel_rfl) (by kernel_rfl)
def Z8t:MFun:=⟨1,12,[.cell 2 (some 2)],.r [.bx 1 0,.o 2 (.alloc [.t (.str ⟨#[]⟩),.t .nil])] [1,2] (.r [.o 3 (.alloc [.t (.str ⟨#[]⟩),.t .nil])] [1,2,3] (.r [.fa 4 0 1,.l 5 4,.fa 6 0 3,.st 1 6 5] [1,2,3] (.r [.fa 7 1 1,.l 8 7,.cl 9 59 [8],.fa 10 1 3,.st 1 10 9] [2,3] (.r [.ln 11 2 3,.st 2 2 11] [2] .ret))))⟩
theorem Zbn4:tbl 187=some Z8t:=tblOf_eq Tryz.func187 (by kernel_rfl) (by kernel_rfl)
def Z8u:MFun:=⟨1,14,[.cell 2 (some 3)],.r [.bx 1 0,.o 2 (.alloc [.t .z,.t .z,.t .z])] [1,2] (.r [.o 3 (.alloc [.t .z,.t .z,.t .z])] [1,2,3] (.r [.fa 4 0 1,.l 5 4,.fa 6 0 3,.st 1 6 5] [1,2,3] (.r [.fa 7 1 1,.l 8 7,.fa 9 1 3,.st 1 9 8] [1,2,3] (.r [.fa 10 2 1,.l 11 10,.fa 12 2 3,.st 1 12 11] [2,3] (.r [.ln 13 3 3,.st 3 2 13] [2] .ret)))))⟩
theorem Zbn5:tbl 188=some Z8u:=tblOf_eq Tryz.func188 (by kernel_rfl) (by kernel_rfl)
def Zqw:MCode :=.we [.m 11 5,.m 12 0,.ll 13 12,.b 14 .lss 11 13] [0,1,5,14] 14 0 (.seq (.block 1 (.seq (.drw [.m 17 0,.m 18 5,.ia 19 2 17 18,.ln 20 2 19,.m 21 1,.m 22 5,.ia 23 2 21 22,.ln 24 2 23,.cl 25 266 [20,24],.o 26 (.un .not (.s 25))] [[],[],[0,1],[2],[],[],[4,5],[6],[3,7],[8]] [0,1,5,26]) (.cond (.s 26) (.r [.o 4 (.mov (.q false))] [4] .ret) .skip))) (.reg [.m 15 5,.bk 16 .add 15 1,.m 5 16] [0,1,5]))
def Zwz:MFun:=⟨2,27,[.tmp 4],.r [.o 4 (.mov (.q false))] [0,1] (.wc [.m 6 0,.ll 7 6,.m 8 1,.ll 9 8,.b 10 .neq 7 9] [0,1,10] 10 (.r [.o 4 (.mov (.q false))] [4] .ret) (.seq (.r [.mk' 5 0] [0,1,5] (.block 0 (.loop [0,1,5] Zqw))) (.r [.o 4 (.mov (.q true))] [4] .ret)))⟩
theorem Zbn6:tbl 197=some Zwz:=tblOf_eq Tryz.func197 (by kernel_rfl) (by kernel_rfl)
def Z8v:MFun:=⟨2,16,[.tmp 4],.r [.bx 2 0,.bx 3 1,.o 4 (.mov (.q false))] [2,3] (.wc [.fa 5 0 2,.l 6 5,.fa 7 0 3,.l 8 7,.b 9 .neq 6 8] [2,3,9] 9 (.r [.o 4 (.mov (.q false))] [4] .ret) (.wc [.fa 10 1 2,.l 11 10,.fa 12 1 3,.l 13 12,.cl 14 23 [11,13],.o 15 (.un .not (.s 14))] [15] 15 (.r [.o 4 (.mov (.q false))] [4] .ret) (.r [.o 4 (.mov (.q true))] [4] .ret)))⟩
theorem Zbn7:tbl 198=some Z8v:=tblOf_eq Tryz.func198 (by kernel_rfl) (by kernel_rfl)
def Z8w:MFun:=⟨2,20,[.tmp 4],.r [.bx 2 0,.bx 3 1,.o 4 (.mov (.q false))] [2,3] (.wc [.fa 5 0 2,.l 6 5,.fa 7 0 3,.l 8 7,.b 9 .neq 6 8] [2,3,9] 9 (.r [.o 4 (.mov (.q false))] [4] .ret) (.wc [.fa 10 1 2,.l 11 10,.fa 12 1 3,.l 13 12,.b 14 .neq 11 13] [2,3,14] 14 (.r [.o 4 (.mov (.q false))] [4] .ret) (.wc [.fa 15 2 2,.l 16 15,.fa 17 2 3,.l 18 17,.b 19 .neq 16 18] [19] 19 (.r [.o 4 (.mov (.q false))] [4] .ret) (.r [.o 4 (.mov (.q true))] [4] .ret))))⟩
theorem Zbn8:tbl 199=some Z8w:=tblOf_eq Tryz.func199 (by kernel_rfl) (by kernel_rfl)
def Zqx:MCode :=.we [.m 6 5,.m 7 0,.ll 8 7,.b 9 .lss 6 8] [0,1,5,9] 9 0 (.seq (.block 1 (.r [.m 12 0,.m 13 5,.m 14 1,.ia 15 2 12 13,.fa 16 0 15,.st 1 16 14] [0,1,5] (.r [.m 17 1,.bk 18 .add 17 1,.m 1 18] [0,1,5] (.r [.m 19 0,.m 20 5,.m 21 1,.ia 22 2 19 20,.fa 23 1 22,.st 1 23 21] [0,1,5] (.reg [.m 24 1,.bk 25 .add 24 1,.m 1 25] [0,1,5]))))) (.reg [.m 10 5,.bk 11 .add 10 1,.m 5 11] [0,1,5]))
def Z8x:MFun:=⟨2,27,[.tmp 4],.r [.mk' 4 0] [0,1] (.seq (.r [.mk' 5 0] [0,1,5] (.block 0 (.loop [0,1,5] Zqx))) (.r [.m 26 1,.m 4 26] [4] .ret))⟩
theorem Zbn9:tbl 200=some Z8x:=tblOf_eq Tryz.func200 (by kernel_rfl) (by kernel_rfl)
def Zoa:MCode :=.we [.m 6 0,.bk 7 .gtr 6 0] [0,3,7] 7 0 (.block 1 (.r [.m 8 0,.bk 9 .rem 8 10,.o 10 (.bin .add (.k 48) (.s 9)),.o 11 (.conv .u8 (.s 10)),.o 12 (.bslice 5 1 1 [.int .u8 0] [(0,.s 11)]),.o 13 (.tostr (.s 12)),.m 14 3,.b 15 .add 13 14,.m 3 15] [0,3] (.reg [.m 16 0,.bk 17 .quo 16 10,.m 0 17] [0,3])))
def Zw0:MFun:=⟨1,20,[.tmp 2],.r [.o 2 (.mov (.c (.t (.str ⟨#[]⟩))))] [0] (.wc [.m 4 0,.bk 5 .leq 4 0] [0,5] 5 (.r [.o 2 (.mov (.c (.t (.str ⟨#[109,48]⟩))))] [2] .ret) (.r [.o 3 (.mov (.c (.t (.str ⟨#[]⟩))))] [0,3] (.seq (.block 0 (.loop [0,3] Zoa)) (.r [.m 18 3,.o 19 (.bin .add (.c (.t (.str ⟨#[109]⟩))) (.s 18)),.m 2 19] [2] .ret))))⟩
theorem Z8y:tbl 201=some Zw0:=tblOf_eq Tryz.func201 (by kernel_rfl) (by kernel_rfl)
def Z8z:MFun:=⟨2,18,[.tmp 4],.r [.bx 2 0,.mk' 4 0] [1,2] (.r [.fa 5 0 2,.ln 6 2 5,.m 7 1,.cl 8 14 [6,7],.m 1 8] [1,2] (.wc [.m 9 1,.bk 10 .lss 9 0] [1,2,10] 10 (.r [.mk' 4 (-1)] [4] .ret) (.r [.fa 11 2 2,.ln 12 4 11,.m 13 1,.cl 14 34 [12,13],.m 1 14] [1] (.wc [.m 15 1,.bk 16 .lss 15 0] [1,16] 16 (.r [.mk' 4 (-1)] [4] .ret) (.r [.m 17 1,.m 4 17] [4] .ret)))))⟩
theorem Zboa:tbl 235=some Z8z:=tblOf_eq Tryz.func235 (by kernel_rfl) (by kernel_rfl)
def Z80:MFun:=⟨1,19,[.cell 2 (some 8)],.r [.bx 1 0,.o 2 (.alloc [.t .z,.t .nil,.t .nil,.t .nil,.t .nil,.t .z,.t .z,.t .z])] [1,2] (.r [.o 3 (.alloc [.t .z,.t .nil,.t .nil,.t .nil,.t .nil,.t .z,.t .z,.t .z])] [1,2,3] (.r [.fa 4 0 1,.ln 5 2 4,.cl 6 19 [5],.fa 7 0 3,.st 2 7 6] [1,2,3] (.r [.fa 8 2 1,.ln 9 4 8,.cl 10 36 [9],.fa 11 2 3,.st 4 11 10] [1,2,3] (.r [.fa 12 6 1,.l 13 12,.fa 14 6 3,.st 1 14 13] [1,2,3] (.r [.fa 15 7 1,.l 16 15,.fa 17 7 3,.st 1 17 16] [2,3] (.r [.ln 18 8 3,.st 8 2 18] [2] .ret))))))⟩
theorem Zbob:tbl 236=some Z80:=tblOf_eq Tryz.func236 (by kernel_rfl) (by kernel_rfl)
def Z81:MFun:=⟨2,27,[.tmp 4],.r [.bx 2 0,.bx 3 1,.o 4 (.mov (.q false))] [2,3] (.wc [.fa 5 0 2,.ln 6 2 5,.fa 7 0 3,.ln 8 2 7,.cl 9 25 [6,8],.o 10 (.un .not (.s 9))] [2,3,10] 10 (.r [.o 4 (.mov (.q false))] [4] .ret) (.wc [.fa 11 2 2,.ln 12 4 11,.fa 13 2 3,.ln 14 4 13,.cl 15 38 [12,14],.o 16 (.un .not (.s 15))] [2,3,16] 16 (.r [.o 4 (.mov (.q false))] [4] .ret) (.wc [.fa 17 6 2,.l 18 17,.fa 19 6 3,.l 20 19,.b 21 .neq 18 20] [2,3,21] 21 (.r [.o 4 (.mov (.q false))] [4] .ret) (.wc [.fa 22 7 2,.l 23 22,.fa 24 7 3,.l 25 24,.b 26 .neq 23 25] [26] 26 (.r [.o 4 (.mov (.q false))] [4] .ret) (.r [.o 4 (.mov (.q true))] [4] .ret)))))⟩
theorem Zboc:tbl 237=some Z81:=tblOf_eq Tryz.func237 (by kernel_rfl) (by kernel_rfl)
def Zqy:MCode :=.we [.m 6 5,.m 7 0,.ll 8 7,.b 9 .lss 6 8] [0,1,5,9] 9 0 (.seq (.block 1 (.seq (.seq (.drw [.m 12 0,.m 13 5,.ia 14 2 12 13,.fa 15 0 14,.l 16 15,.m 17 1,.cl 18 201 [17],.b 19 .neq 16 18] [[],[],[0,1],[2],[3],[],[5],[4,6]] [0,1,5,19]) (.cond (.s 19) (.r [.mk' 4 (-1)] [4] .ret) .skip)) (.r [.m 20 1,.bk 21 .add 20 1,.m 1 21] [0,1,5] (.r [.m 22 0,.m 23 5,.ia 24 2 22 23,.fa 25 1 24,.l 26 25,.m 27 1,.cl 28 33 [26,27],.m 1 28] [0,1,5] (.r [.m 29 1,.bk 30 .lss 29 0] [0,1,5,30] (.cond (.s 30) (.r [.mk' 4 (-1)] [4] .ret) .skip)))))) (.reg [.m 10 5,.bk 11 .add 10 1,.m 5 11] [0,1,5]))
def Z82:MFun:=⟨2,32,[.tmp 4],.r [.mk' 4 0] [0,1] (.seq (.r [.mk' 5 0] [0,1,5] (.block 0 (.loop [0,1,5] Zqy))) (.r [.m 31 1,.m 4 31] [4] .ret))⟩
theorem Zbod:tbl 248=some Z82:=tblOf_eq Tryz.func248 (by kernel_rfl) (by kernel_rfl)
def Z83:MFun:=⟨1,11,[.cell 2 (some 2)],.r [.bx 1 0,.o 2 (.alloc [.t .z,.t .z])] [1,2] (.r [.o 3 (.alloc [.t .z,.t .z])] [1,2,3] (.r [.fa 4 0 1,.l 5 4,.fa 6 0 3,.st 1 6 5] [1,2,3] (.r [.fa 7 1 1,.l 8 7,.fa 9 1 3,.st 1 9 8] [2,3] (.r [.ln 10 2 3,.st 2 2 10] [2] .ret))))⟩
theorem Zboe:tbl 256=some Z83:=tblOf_eq Tryz.func256 (by kernel_rfl) (by kernel_rfl)
def Z84:MFun:=⟨2,15,[.tmp 4],.r [.bx 2 0,.bx 3 1,.o 4 (.mov (.q false))] [2,3] (.wc [.fa 5 0 2,.l 6 5,.fa 7 0 3,.l 8 7,.b 9 .neq 6 8] [2,3,9] 9 (.r [.o 4 (.mov (.q false))] [4] .ret) (.wc [.fa 10 1 2,.l 11 10,.fa 12 1 3,.l 13 12,.b 14 .neq 11 13] [14] 14 (.r [.o 4 (.mov (.q false))] [4] .ret) (.r [.o 4 (.mov (.q true))] [4] .ret)))⟩
theorem Zbof:tbl 266=some Z84:=tblOf_eq Tryz.func266 (by kernel_rfl) (by kernel_rfl)
end Go.Proofs.YtbapkgocloaaeaaGreat
/- part: FA -/
namespace Go.Proofs.YtbapkgocloaaeaaGreat
open Go.AM
theorem l_toIntS (xs:List Int) (h:SmA xs) (fr:List Fr):∀ i,i≤xs.length→EvL C fr [0,3,4] Zqn ⟨[(0,L 1 (xs.map ic)),(3,.own 0),(4,I i)],[[]],[.arr Zx 1 true (fill ic [.int .i64 0] xs i)]⟩ =
  EvX C fr (.x 0) ⟨[(0,L 1 (xs.map ic)),(3,.own 0),(4,I xs.length),(11,Bo false)],[[]],[.arr Zx 1 true (xs.map ic)]⟩:=by
 have hl:xs.length≤4294967296:=h
 refine down xs.length ?_ ?_
 ·rw [EvL_eq Zqn.eq_1]
  simp [fill_all]
 ·intro i hi ih
  rw [EvL_eq Zqn.eq_1,← ih]
  have h1:=fill_set (f:=ic) (z:=[.int .i64 0]) hi
  have h3:=fill_len (f:=ic) (z:=[.int .i64 0]) (Nat.le_of_lt hi)
  have h4:IntKind.wrap .i64 ((i:Int)+1)=(i:Int)+1:=wrap64 (by omega) (by omega)
  simp at h1
  simp [hi,h3,h4,h1]
theorem Zqz (xs:List Int) (h:SmA xs):C Zbak [L 1 (xs.map ic)] []=some (.own 0,[.arr Zx 1 true (xs.map ic)]):=by
 refine run Zbnn rfl ?_
 have hl:xs.length≤4294967296:=h
 have h1:∀ b,b≤4096→xs.length*b≤room:=fun b hb=>Nat.le_trans (Nat.mul_le_mul hl hb) (by decide)
 have h2:(xs.length:Int)≤140737488355328:=by omega
 have h3:=fun fr=>l_toIntS xs h fr 0 (Nat.zero_le _)
 simp [fill_zero] at h3
 simp [Z74,h1,h2,h3]
theorem l_eqIntS (xs ys:List Int) (h:SmA xs) (hl:ys.length=xs.length) (fr:List Fr):∀ i,i≤xs.length→EvL C fr [0,1,5] Zql ⟨[(0,L 1 (xs.map ic)),(1,L 1 (ys.map ic)),(5,I i)],[[]],[]⟩ =
  if xs.drop i=ys.drop i then EvX C fr (.x 0) ⟨[(0,L 1 (xs.map ic)),(1,L 1 (ys.map ic)),(5,I xs.length),(14,Bo false)],[[]],[]⟩ else EvX C fr .r ⟨[(4,Bo false)],[[]],[]⟩:=by
 have hm:xs.length≤4294967296:=h
 refine down xs.length ?_ ?_
 ·rw [EvL_eq Zql.eq_1]
  simp [hl,List.drop_eq_nil_of_le]
 ·intro i hi ih
  have hi2:i<ys.length:=by omega
  have h4:IntKind.wrap .i64 ((i:Int)+1)=(i:Int)+1:=wrap64 (by omega) (by omega)
  rw [EvL_eq Zql.eq_1]
  simp +decide [hi,hi2,h4]
  simp at ih
  simp only [drop_eq_iff hi hi2,ih]
  split <;> first | (simp_all;done) | grind
theorem Zq0 (xs ys:List Int) (h:SmA xs):C Z97 [L 1 (xs.map ic),L 1 (ys.map ic)] []=some (Bo (decide (xs=ys)),[]):=by
 refine run Zbna rfl ?_
 by_cases hl:ys.length=xs.length
 ·have h3:=fun fr=>l_eqIntS xs ys h hl fr 0 (Nat.zero_le _)
  simp at h3
  simp [Zwl,h3,hl]
  split <;> simp_all
 ·have h1:xs≠ys:=fun h=>hl (by rw [h])
  have h2:¬ ((xs.length:Int)=ys.length):=by omega
  simp [Zwl,h1,h2]
@[simp] theorem Z85 (es:List (List T)) (left:Int):C Zbax [L 1 es,I left] []=some (I (sz1 es.length left),[]):=by
 refine run Zbn0 rfl ?_
 simp [Z8m,sz1]
 split <;> simp_all
theorem c_toAtom (x0:ByteArray) (x1:List Int) (h1:SmA x1):C Zba1 [.agg [.t (.str x0),.t (tI x1)]] []=some (.agg [.t (.str x0),.own 0],[.arr Zx 1 true (x1.map ic)]):=by
 refine run Zbn4 rfl ?_
 simp [Z8t,Zqz _ h1]
theorem c_eqAtom (x0:ByteArray) (x1:List Int) (y0:ByteArray) (y1:List Int) (h1:SmA x1):C Zba4 [.agg [.t (.str x0),.t (tI x1)],.agg [.t (.str y0),.t (tI y1)]] []=some (Bo (decide (x0=y0∧x1=y1)),[]):=by
 refine run Zbn7 rfl ?_
 simp [Z8v,Zq0 _ _ h1]
 repeat' split
 all_goals first | (simp_all;done) | grind
theorem c_szAtom (x0:ByteArray) (x1:List Int) (left:Int) :C Zbaz [.agg [.t (.str x0),.t (tI x1)],I left] []=some (I (Atom.sz ⟨x0,x1⟩ left),[]):=by
 refine run Zbn2 rfl ?_
 simp [Z8r,Z85,Atom.sz,andSz,sz1]
 repeat' split
 all_goals first | (simp_all;done) | grind
theorem Zbog (xs:List Atom) (h:SmL Atom.small xs) (fr:List Fr):∀ i,i≤xs.length→EvL C fr [0,3,4] Zqo ⟨[(0,L 2 (xs.map Atom.c)),(3,.own 0),(4,I i)],[[]],[.arr Zk0 2 true (fill Atom.c [.str ⟨#[]⟩,.lst 1 []] xs i)]⟩ =
  EvX C fr (.x 0) ⟨[(0,L 2 (xs.map Atom.c)),(3,.own 0),(4,I xs.length),(11,Bo false)],[[]],[.arr Zk0 2 true (xs.map Atom.c)]⟩:=by
 have hl:xs.length≤4294967296:=h.1
 refine down xs.length ?_ ?_
 ·rw [EvL_eq Zqo.eq_1]
  simp [fill_all]
 ·intro i hi ih
  rw [EvL_eq Zqo.eq_1,← ih]
  have h1:=fill_set (f:=Atom.c) (z:=[.str ⟨#[]⟩,.lst 1 []]) hi
  have h3:=fill_len (f:=Atom.c) (z:=[.str ⟨#[]⟩,.lst 1 []]) (Nat.le_of_lt hi)
  have h4:IntKind.wrap .i64 ((i:Int)+1)=(i:Int)+1:=wrap64 (by omega) (by omega)
  simp at h1
  simp [hi,c_toAtom _ _ (h.2 _ (List.getElem_mem hi)).2,h3,h4,h1]
theorem Zboh (xs:List Atom) (h:SmL Atom.small xs):C Zbaq [L 2 (xs.map Atom.c)] []=some (.own 0,[.arr Zk0 2 true (xs.map Atom.c)]):=by
 refine run Zbnt rfl ?_
 have hl:xs.length≤4294967296:=h.1
 have h1:∀ b,b≤4096→xs.length*b≤room:=fun b hb=>Nat.le_trans (Nat.mul_le_mul hl hb) (by decide)
 have h2:(xs.length:Int)≤140737488355328:=by omega
 have h3:=fun fr=>Zbog xs h fr 0 (Nat.zero_le _)
 simp [fill_zero] at h3
 simp [Z8d,h1,h2,h3]
theorem Zboi (xs ys:List Atom) (h:SmL Atom.small xs) (hl:ys.length=xs.length) (fr:List Fr):∀ i,i≤xs.length→EvL C fr [0,1,5] Zqq ⟨[(0,L 2 (xs.map Atom.c)),(1,L 2 (ys.map Atom.c)),(5,I i)],[[]],[]⟩ =
  if xs.drop i=ys.drop i then EvX C fr (.x 0) ⟨[(0,L 2 (xs.map Atom.c)),(1,L 2 (ys.map Atom.c)),(5,I xs.length),(14,Bo false)],[[]],[]⟩ else EvX C fr .r ⟨[(4,Bo false)],[[]],[]⟩:=by
 have hm:xs.length≤4294967296:=h.1
 refine down xs.length ?_ ?_
 ·rw [EvL_eq Zqq.eq_1]
  simp [hl,List.drop_eq_nil_of_le]
 ·intro i hi ih
  have hi2:i<ys.length:=by omega
  have h4:IntKind.wrap .i64 ((i:Int)+1)=(i:Int)+1:=wrap64 (by omega) (by omega)
  rw [EvL_eq Zqq.eq_1]
  simp +decide [hi,hi2,c_eqAtom _ _ _ _ (h.2 _ (List.getElem_mem hi)).2,h4]
  simp at ih
  simp only [drop_eq_iff hi hi2,ih,Atom.ext_iff]
  split <;> first | (simp_all;done) | grind
theorem Zboj (xs ys:List Atom) (h:SmL Atom.small xs):C Zbat [L 2 (xs.map Atom.c),L 2 (ys.map Atom.c)] []=some (Bo (decide (xs=ys)),[]):=by
 refine run Zbnw rfl ?_
 by_cases hl:ys.length=xs.length
 ·have h3:=fun fr=>Zboi xs ys h hl fr 0 (Nat.zero_le _)
  simp at h3
  simp [Zwt,h3,hl]
  split <;> simp_all
 ·have h1:xs≠ys:=fun h=>hl (by rw [h])
  have h2:¬ ((xs.length:Int)=ys.length):=by omega
  simp [Zwt,h1,h2]
theorem Zbok (xs:List Atom) (h:OkL Atom.okay xs) (fr:List Fr):∀ i,i≤xs.length→∀ left:Int,
  (EvL C fr [0,1,5] Zjf ⟨[(0,L 2 (xs.map Atom.c)),(1,I left),(5,I i)],[[]],[]⟩=EvX C fr .r ⟨[(4,I (-1))],[[]],[]⟩∧szFold Atom.sz (xs.drop i) left=-1) ∨
  EvL C fr [0,1,5] Zjf ⟨[(0,L 2 (xs.map Atom.c)),(1,I left),(5,I i)],[[]],[]⟩=EvX C fr (.x 0) ⟨[(0,L 2 (xs.map Atom.c)),(1,I (szFold Atom.sz (xs.drop i) left)),(5,I xs.length),(15,Bo false)],[[]],[]⟩:=by
 have hm:maxLen≤9223372036854775807:=by decide
 have hl:=h.1
 refine down xs.length ?_ ?_
 ·intro left
  right
  rw [EvL_eq Zjf.eq_1]
  simp [List.drop_eq_nil_of_le,szFold]
 ·intro i hi ih left
  have h4:IntKind.wrap .i64 ((i:Int)+1)=(i:Int)+1:=wrap64 (by omega) (by omega)
  have e:EvL C fr [0,1,5] Zjf ⟨[(0,L 2 (xs.map Atom.c)),(1,I left),(5,I i)],[[]],[]⟩=if Atom.sz xs[i] left<0 then EvX C fr .r ⟨[(4,I (-1))],[[]],[]⟩ else EvL C fr [0,1,5] Zjf ⟨[(0,L 2 (xs.map Atom.c)),(1,I (Atom.sz xs[i] left)),(5,I ((i+1:Nat):Int))],[[]],[]⟩:=by
   rw [EvL_eq Zjf.eq_1]
   simp [hi,c_szAtom,h4]
  rw [e,List.drop_eq_getElem_cons hi,szFold]
  split
  ·exact .inl ⟨rfl,rfl⟩
  ·exact ih _
theorem Zbol (xs:List Atom) (left:Int) (h:OkL Atom.okay xs):C Zban [L 2 (xs.map Atom.c),I left] []=some (I (szL Atom.sz xs left),[]):=by
 refine run Zbnq rfl ?_
 have h3:=fun fr l=>Zbok xs h fr 0 (Nat.zero_le _) l
 simp at h3
 simp [Z8a,szL,andSz,sz1]
 split
 ·simp_all
 ·rcases h3 [.blk 0,.seq _,.fin _ _] (IntKind.wrap .i64 (left - xs.length)) with ⟨h5,h6⟩ | h5
  ·rw [h5];simp [h6]
  ·rw [h5];simp
theorem Z86 (x0:Int) (x1:List Atom) (h1:SmL Atom.small x1):C Z95 [.agg [I x0,.t (.lst 2 (x1.map Atom.c))]] []=some (.agg [I x0,.own 0],[.arr Zk0 2 true (x1.map Atom.c)]):=by
 refine run Zbm8 rfl ?_
 simp [Z7m,Zboh _ h1]
theorem Z87 (x0:Int) (x1:List Atom) (y0:Int) (y1:List Atom) (h1:SmL Atom.small x1):C Z99 [.agg [I x0,.t (.lst 2 (x1.map Atom.c))],.agg [I y0,.t (.lst 2 (y1.map Atom.c))]] []=some (Bo (decide (x0=y0∧x1=y1)),[]):=by
 refine run Zbnc rfl ?_
 simp [Z7p,Zboj _ _ h1]
 repeat' split
 all_goals first | (simp_all;done) | grind
theorem Z88 (x0:Int) (x1:List Atom) (left:Int) (h1:OkL Atom.okay x1):C Z91 [.agg [I x0,.t (.lst 2 (x1.map Atom.c))],I left] []=some (I (Zb.sz ⟨x0,x1⟩ left),[]):=by
 refine run Zbm4 rfl ?_
 simp [Z7i,Zbol _ _ h1,Zb.sz,andSz,sz1]
 repeat' split
 all_goals first | (simp_all;done) | grind
theorem c_toBox (x0:List Int) (x1:List Int) (h0:SmA x0) (h1:SmA x1):C Zbaj [.agg [.t (tI x0),.t (tI x1)]] []=some (.agg [.own 0,.own 1],[.arr Zx 1 true (x0.map ic),.arr Zx 1 true (x1.map ic)]):=by
 refine run Zbnm rfl ?_
 simp [Z73,Zqz _ h0,Zqz _ h1]
theorem c_eqBox (x0:List Int) (x1:List Int) (y0:List Int) (y1:List Int) (h0:SmA x0) (h1:SmA x1):C Zbal [.agg [.t (tI x0),.t (tI x1)],.agg [.t (tI y0),.t (tI y1)]] []=some (Bo (decide (x0=y0∧x1=y1)),[]):=by
 refine run Zbno rfl ?_
 simp [Z75,Zq0 _ _ h0,Zq0 _ _ h1]
 repeat' split
 all_goals first | (simp_all;done) | grind
theorem c_szBox (x0:List Int) (x1:List Int) (left:Int) :C Zbai [.agg [.t (tI x0),.t (tI x1)],I left] []=some (I (Box.sz ⟨x0,x1⟩ left),[]):=by
 refine run Zbnl rfl ?_
 simp [Z72,Z85,Box.sz,andSz,sz1]
 repeat' split
 all_goals first | (simp_all;done) | grind
theorem Zbom (x0:Int) (x1:Int) :C Zbbb [.agg [I x0,I x1]] []=some (.agg [I x0,I x1],[]):=by
 refine run Zboe rfl ?_
 simp [Z83]
theorem Zbon (x0:Int) (x1:Int) (y0:Int) (y1:Int) :C Zbbc [.agg [I x0,I x1],.agg [I y0,I y1]] []=some (Bo (decide (x0=y0∧x1=y1)),[]):=by
 refine run Zbof rfl ?_
 simp [Z84]
 repeat' split
 all_goals first | (simp_all;done) | grind
theorem Zboo (xs:List Zg) (h:SmA xs) (fr:List Fr):∀ i,i≤xs.length→EvL C fr [0,3,4] Zqv ⟨[(0,L 2 (xs.map Zg.c)),(3,.own 0),(4,I i)],[[]],[.arr Zex 2 true (fill Zg.c [.int .i64 0,.int .i64 0] xs i)]⟩ =
  EvX C fr (.x 0) ⟨[(0,L 2 (xs.map Zg.c)),(3,.own 0),(4,I xs.length),(11,Bo false)],[[]],[.arr Zex 2 true (xs.map Zg.c)]⟩:=by
 have hl:xs.length≤4294967296:=h
 refine down xs.length ?_ ?_
 ·rw [EvL_eq Zqv.eq_1]
  simp [fill_all]
 ·intro i hi ih
  rw [EvL_eq Zqv.eq_1,← ih]
  have h1:=fill_set (f:=Zg.c) (z:=[.int .i64 0,.int .i64 0]) hi
  have h3:=fill_len (f:=Zg.c) (z:=[.int .i64 0,.int .i64 0]) (Nat.le_of_lt hi)
  have h4:IntKind.wrap .i64 ((i:Int)+1)=(i:Int)+1:=wrap64 (by omega) (by omega)
  simp at h1
  simp [hi,Zbom,h3,h4,h1]
theorem Zbop (xs:List Zg) (h:SmA xs):C Zba0 [L 2 (xs.map Zg.c)] []=some (.own 0,[.arr Zex 2 true (xs.map Zg.c)]):=by
 refine run Zbn3 rfl ?_
 have hl:xs.length≤4294967296:=h
 have h1:∀ b,b≤4096→xs.length*b≤room:=fun b hb=>Nat.le_trans (Nat.mul_le_mul hl hb) (by decide)
 have h2:(xs.length:Int)≤140737488355328:=by omega
 have h3:=fun fr=>Zboo xs h fr 0 (Nat.zero_le _)
 simp [fill_zero] at h3
 simp [Z8s,h1,h2,h3]
theorem Zboq (xs ys:List Zg) (h:SmA xs) (hl:ys.length=xs.length) (fr:List Fr):∀ i,i≤xs.length→EvL C fr [0,1,5] Zqw ⟨[(0,L 2 (xs.map Zg.c)),(1,L 2 (ys.map Zg.c)),(5,I i)],[[]],[]⟩ =
  if xs.drop i=ys.drop i then EvX C fr (.x 0) ⟨[(0,L 2 (xs.map Zg.c)),(1,L 2 (ys.map Zg.c)),(5,I xs.length),(14,Bo false)],[[]],[]⟩ else EvX C fr .r ⟨[(4,Bo false)],[[]],[]⟩:=by
 have hm:xs.length≤4294967296:=h
 refine down xs.length ?_ ?_
 ·rw [EvL_eq Zqw.eq_1]
  simp [hl,List.drop_eq_nil_of_le]
 ·intro i hi ih
  have hi2:i<ys.length:=by omega
  have h4:IntKind.wrap .i64 ((i:Int)+1)=(i:Int)+1:=wrap64 (by omega) (by omega)
  rw [EvL_eq Zqw.eq_1]
  simp +decide [hi,hi2,Zbon _ _ _ _ ,h4]
  simp at ih
  simp only [drop_eq_iff hi hi2,ih,Zg.ext_iff]
  split <;> first | (simp_all;done) | grind
theorem Zbor (xs ys:List Zg) (h:SmA xs):C Zba3 [L 2 (xs.map Zg.c),L 2 (ys.map Zg.c)] []=some (Bo (decide (xs=ys)),[]):=by
 refine run Zbn6 rfl ?_
 by_cases hl:ys.length=xs.length
 ·have h3:=fun fr=>Zboq xs ys h hl fr 0 (Nat.zero_le _)
  simp at h3
  simp [Zwz,h3,hl]
  split <;> simp_all
 ·have h1:xs≠ys:=fun h=>hl (by rw [h])
  have h2:¬ ((xs.length:Int)=ys.length):=by omega
  simp [Zwz,h1,h2]
@[simp] theorem Zbos (es:List (List T)) (left:Int):C Zbay [L 2 es,I left] []=some (I (sz1 es.length left),[]):=by
 refine run Zbn1 rfl ?_
 simp [Z8q,sz1]
 split <;> simp_all
theorem Zob (x0:Int) (x1:Int) (x2:Int) (x3:Int) (x4:Int) (x5:List Zg) (h5:SmA x5):C Zbap [.agg [I x0,I x1,I x2,I x3,I x4,.t (.lst 2 (x5.map Zg.c))]] []=some (.agg [I x0,I x1,I x2,I x3,I x4,.own 0],[.arr Zex 2 true (x5.map Zg.c)]):=by
 refine run Zbns rfl ?_
 simp [Z8c,Zbop _ h5]
theorem Zoc (x0:Int) (x1:Int) (x2:Int) (x3:Int) (x4:Int) (x5:List Zg) (y0:Int) (y1:Int) (y2:Int) (y3:Int) (y4:Int) (y5:List Zg) (h5:SmA x5):C Zbas [.agg [I x0,I x1,I x2,I x3,I x4,.t (.lst 2 (x5.map Zg.c))],.agg [I y0,I y1,I y2,I y3,I y4,.t (.lst 2 (y5.map Zg.c))]] []=some (Bo (decide (x0=y0∧x1=y1∧x2=y2∧x3=y3∧x4=y4∧x5=y5)),[]):=by
 refine run Zbnv rfl ?_
 simp [Z8f,Zbor _ _ h5]
 repeat' split
 all_goals first | (simp_all;done) | grind
theorem Zbot (x0:Int) (x1:Int) (x2:Int) (x3:Int) (x4:Int) (x5:List Zg) (left:Int) :C Zbam [.agg [I x0,I x1,I x2,I x3,I x4,.t (.lst 2 (x5.map Zg.c))],I left] []=some (I (Zi.sz ⟨x0,x1,x2,x3,x4,x5⟩ left),[]):=by
 refine run Zbnp rfl ?_
 simp [Z79,Zbos,Zi.sz,andSz,sz1]
 repeat' split
 all_goals first | (simp_all;done) | grind
theorem Zbou (x0:Int) (x1:Int) (x2:Int) (x3:Int) (x4:Int) (x5:List Zg) (x6:Int) (x7:Int) (x8:Int) (x9:Int) (x10:Int) (x11:List Zg) (x12:Int) (x13:Int) (x14:Int) (x15:Int) (x16:Int) (x17:List Zg) (x18:Int) (x19:Int) (x20:Int) (x21:Int) (x22:Int) (x23:List Zg) (x24:Int) (x25:Int) (x26:Int) (x27:Int) (x28:Int) (x29:List Zg) (h5:SmA x5) (h11:SmA x11) (h17:SmA x17) (h23:SmA x23) (h29:SmA x29):C Z94 [.agg [I x0,I x1,I x2,I x3,I x4,.t (.lst 2 (x5.map Zg.c)),I x6,I x7,I x8,I x9,I x10,.t (.lst 2 (x11.map Zg.c)),I x12,I x13,I x14,I x15,I x16,.t (.lst 2 (x17.map Zg.c)),I x18,I x19,I x20,I x21,I x22,.t (.lst 2 (x23.map Zg.c)),I x24,I x25,I x26,I x27,I x28,.t (.lst 2 (x29.map Zg.c))]] []=some (.agg [I x0,I x1,I x2,I x3,I x4,.own 0,I x6,I x7,I x8,I x9,I x10,.own 1,I x12,I x13,I x14,I x15,I x16,.own 2,I x18,I x19,I x20,I x21,I x22,.own 3,I x24,I x25,I x26,I x27,I x28,.own 4],[.arr Zex 2 true (x5.map Zg.c),.arr Zex 2 true (x11.map Zg.c),.arr Zex 2 true (x17.map Zg.c),.arr Zex 2 true (x23.map Zg.c),.arr Zex 2 true (x29.map Zg.c)]):=by
 refine run Zbm7 rfl ?_
 simp [Z7l,Zob _ _ _ _ _ _ h5,Zob _ _ _ _ _ _ h11,Zob _ _ _ _ _ _ h17,Zob _ _ _ _ _ _ h23,Zob _ _ _ _ _ _ h29]
theorem Zbov (x0:Int) (x1:Int) (x2:Int) (x3:Int) (x4:Int) (x5:List Zg) (x6:Int) (x7:Int) (x8:Int) (x9:Int) (x10:Int) (x11:List Zg) (x12:Int) (x13:Int) (x14:Int) (x15:Int) (x16:Int) (x17:List Zg) (x18:Int) (x19:Int) (x20:Int) (x21:Int) (x22:Int) (x23:List Zg) (x24:Int) (x25:Int) (x26:Int) (x27:Int) (x28:Int) (x29:List Zg) (y0:Int) (y1:Int) (y2:Int) (y3:Int) (y4:Int) (y5:List Zg) (y6:Int) (y7:Int) (y8:Int) (y9:Int) (y10:Int) (y11:List Zg) (y12:Int) (y13:Int) (y14:Int) (y15:Int) (y16:Int) (y17:List Zg) (y18:Int) (y19:Int) (y20:Int) (y21:Int) (y22:Int) (y23:List Zg) (y24:Int) (y25:Int) (y26:Int) (y27:Int) (y28:Int) (y29:List Zg) (h5:SmA x5) (h11:SmA x11) (h17:SmA x17) (h23:SmA x23) (h29:SmA x29):C Z98 [.agg [I x0,I x1,I x2,I x3,I x4,.t (.lst 2 (x5.map Zg.c)),I x6,I x7,I x8,I x9,I x10,.t (.lst 2 (x11.map Zg.c)),I x12,I x13,I x14,I x15,I x16,.t (.lst 2 (x17.map Zg.c)),I x18,I x19,I x20,I x21,I x22,.t (.lst 2 (x23.map Zg.c)),I x24,I x25,I x26,I x27,I x28,.t (.lst 2 (x29.map Zg.c))],.agg [I y0,I y1,I y2,I y3,I y4,.t (.lst 2 (y5.map Zg.c)),I y6,I y7,I y8,I y9,I y10,.t (.lst 2 (y11.map Zg.c)),I y12,I y13,I y14,I y15,I y16,.t (.lst 2 (y17.map Zg.c)),I y18,I y19,I y20,I y21,I y22,.t (.lst 2 (y23.map Zg.c)),I y24,I y25,I y26,I y27,I y28,.t (.lst 2 (y29.map Zg.c))]] []=some (Bo (decide (x0=y0∧x1=y1∧x2=y2∧x3=y3∧x4=y4∧x5=y5∧x6=y6∧x7=y7∧x8=y8∧x9=y9∧x10=y10∧x11=y11∧x12=y12∧x13=y13∧x14=y14∧x15=y15∧x16=y16∧x17=y17∧x18=y18∧x19=y19∧x20=y20∧x21=y21∧x22=y22∧x23=y23∧x24=y24∧x25=y25∧x26=y26∧x27=y27∧x28=y28∧x29=y29)),[]):=by
 refine run Zbnb rfl ?_
 simp [Z7o,Zoc _ _ _ _ _ _ _ _ _ _ _ _ h5,Zoc _ _ _ _ _ _ _ _ _ _ _ _ h11,Zoc _ _ _ _ _ _ _ _ _ _ _ _ h17,Zoc _ _ _ _ _ _ _ _ _ _ _ _ h23,Zoc _ _ _ _ _ _ _ _ _ _ _ _ h29]
 repeat' split
 all_goals first | (simp_all;done) | grind
theorem Zbow (x0:Int) (x1:Int) (x2:Int) (x3:Int) (x4:Int) (x5:List Zg) (x6:Int) (x7:Int) (x8:Int) (x9:Int) (x10:Int) (x11:List Zg) (x12:Int) (x13:Int) (x14:Int) (x15:Int) (x16:Int) (x17:List Zg) (x18:Int) (x19:Int) (x20:Int) (x21:Int) (x22:Int) (x23:List Zg) (x24:Int) (x25:Int) (x26:Int) (x27:Int) (x28:Int) (x29:List Zg) (left:Int) :C Z90 [.agg [I x0,I x1,I x2,I x3,I x4,.t (.lst 2 (x5.map Zg.c)),I x6,I x7,I x8,I x9,I x10,.t (.lst 2 (x11.map Zg.c)),I x12,I x13,I x14,I x15,I x16,.t (.lst 2 (x17.map Zg.c)),I x18,I x19,I x20,I x21,I x22,.t (.lst 2 (x23.map Zg.c)),I x24,I x25,I x26,I x27,I x28,.t (.lst 2 (x29.map Zg.c))],I left] []=some (I (Zd.sz ⟨⟨x0,x1,x2,x3,x4,x5⟩,⟨x6,x7,x8,x9,x10,x11⟩,⟨x12,x13,x14,x15,x16,x17⟩,⟨x18,x19,x20,x21,x22,x23⟩,⟨x24,x25,x26,x27,x28,x29⟩⟩ left),[]):=by
 refine run Zbm3 rfl ?_
 simp [Z7h,Zbot,Zd.sz,andSz,sz1]
 repeat' split
 all_goals first | (simp_all;done) | grind
theorem Zbox (x0:Int) (x1:Int) (x2:Int) :C Zba2 [.agg [I x0,I x1,I x2]] []=some (.agg [I x0,I x1,I x2],[]):=by
 refine run Zbn5 rfl ?_
 simp [Z8u]
theorem Zboy (x0:Int) (x1:Int) (x2:Int) (y0:Int) (y1:Int) (y2:Int) :C Zba5 [.agg [I x0,I x1,I x2],.agg [I y0,I y1,I y2]] []=some (Bo (decide (x0=y0∧x1=y1∧x2=y2)),[]):=by
 refine run Zbn8 rfl ?_
 simp [Z8w]
 repeat' split
 all_goals first | (simp_all;done) | grind
theorem Zboz (xs:List Zc) (h:SmA xs) (fr:List Fr):∀ i,i≤xs.length→EvL C fr [0,3,4] Zqp ⟨[(0,L 3 (xs.map Zc.c)),(3,.own 0),(4,I i)],[[]],[.arr Zjn 3 true (fill Zc.c [.int .i64 0,.int .i64 0,.int .i64 0] xs i)]⟩ =
  EvX C fr (.x 0) ⟨[(0,L 3 (xs.map Zc.c)),(3,.own 0),(4,I xs.length),(11,Bo false)],[[]],[.arr Zjn 3 true (xs.map Zc.c)]⟩:=by
 have hl:xs.length≤4294967296:=h
 refine down xs.length ?_ ?_
 ·rw [EvL_eq Zqp.eq_1]
  simp [fill_all]
 ·intro i hi ih
  rw [EvL_eq Zqp.eq_1,← ih]
  have h1:=fill_set (f:=Zc.c) (z:=[.int .i64 0,.int .i64 0,.int .i64 0]) hi
  have h3:=fill_len (f:=Zc.c) (z:=[.int .i64 0,.int .i64 0,.int .i64 0]) (Nat.le_of_lt hi)
  have h4:IntKind.wrap .i64 ((i:Int)+1)=(i:Int)+1:=wrap64 (by omega) (by omega)
  simp at h1
  simp [hi,Zbox,h3,h4,h1]
theorem Zbo0 (xs:List Zc) (h:SmA xs):C Zbar [L 3 (xs.map Zc.c)] []=some (.own 0,[.arr Zjn 3 true (xs.map Zc.c)]):=by
 refine run Zbnu rfl ?_
 have hl:xs.length≤4294967296:=h
 have h1:∀ b,b≤4096→xs.length*b≤room:=fun b hb=>Nat.le_trans (Nat.mul_le_mul hl hb) (by decide)
 have h2:(xs.length:Int)≤140737488355328:=by omega
 have h3:=fun fr=>Zboz xs h fr 0 (Nat.zero_le _)
 simp [fill_zero] at h3
 simp [Z8e,h1,h2,h3]
theorem Zbo1 (xs ys:List Zc) (h:SmA xs) (hl:ys.length=xs.length) (fr:List Fr):∀ i,i≤xs.length→EvL C fr [0,1,5] Zn4 ⟨[(0,L 3 (xs.map Zc.c)),(1,L 3 (ys.map Zc.c)),(5,I i)],[[]],[]⟩ =
  if xs.drop i=ys.drop i then EvX C fr (.x 0) ⟨[(0,L 3 (xs.map Zc.c)),(1,L 3 (ys.map Zc.c)),(5,I xs.length),(14,Bo false)],[[]],[]⟩ else EvX C fr .r ⟨[(4,Bo false)],[[]],[]⟩:=by
 have hm:xs.length≤4294967296:=h
 refine down xs.length ?_ ?_
 ·rw [EvL_eq Zn4.eq_1]
  simp [hl,List.drop_eq_nil_of_le]
 ·intro i hi ih
  have hi2:i<ys.length:=by omega
  have h4:IntKind.wrap .i64 ((i:Int)+1)=(i:Int)+1:=wrap64 (by omega) (by omega)
  rw [EvL_eq Zn4.eq_1]
  simp +decide [hi,hi2,Zboy _ _ _ _ _ _ ,h4]
  simp at ih
  simp only [drop_eq_iff hi hi2,ih,Zc.ext_iff]
  split <;> first | (simp_all;done) | grind
theorem Zbo2 (xs ys:List Zc) (h:SmA xs):C Zxz [L 3 (xs.map Zc.c),L 3 (ys.map Zc.c)] []=some (Bo (decide (xs=ys)),[]):=by
 refine run Z8g rfl ?_
 by_cases hl:ys.length=xs.length
 ·have h3:=fun fr=>Zbo1 xs ys h hl fr 0 (Nat.zero_le _)
  simp at h3
  simp [Zqr,h3,hl]
  split <;> simp_all
 ·have h1:xs≠ys:=fun h=>hl (by rw [h])
  have h2:¬ ((xs.length:Int)=ys.length):=by omega
  simp [Zqr,h1,h2]
@[simp] theorem Zbo3 (es:List (List T)) (left:Int):C Zbao [L 3 es,I left] []=some (I (sz1 es.length left),[]):=by
 refine run Zbnr rfl ?_
 simp [Z8b,sz1]
 split <;> simp_all
theorem c_toPlan (x0:List Zc) (h0:SmA x0):C Z96 [.agg [.t (.lst 3 (x0.map Zc.c))]] []=some (.agg [.own 0],[.arr Zjn 3 true (x0.map Zc.c)]):=by
 refine run Zbm9 rfl ?_
 simp [Z7n,Zbo0 _ h0]
theorem Z89 (x0:List Zc) (y0:List Zc) (h0:SmA x0):C Zxt [.agg [.t (.lst 3 (x0.map Zc.c))],.agg [.t (.lst 3 (y0.map Zc.c))]] []=some (Bo (decide (x0=y0)),[]):=by
 refine run Z7q rfl ?_
 simp [Zwm,Zbo2 _ _ h0]
 repeat' split
 all_goals first | (simp_all;done) | grind
theorem c_szPlan (x0:List Zc) (left:Int) :C Z92 [.agg [.t (.lst 3 (x0.map Zc.c))],I left] []=some (I (Plan.sz ⟨x0⟩ left),[]):=by
 refine run Zbm5 rfl ?_
 simp [Z7j,Zbo3,Plan.sz,andSz,sz1]
 repeat' split
 all_goals first | (simp_all;done) | grind
theorem Zbo4 (x0:List Zc) (x1:List Int) (x2:List Int) (x3:Int) (h0:SmA x0) (h1:SmA x1) (h2:SmA x2):C Zbae [.agg [.t (.lst 3 (x0.map Zc.c)),.t (tI x1),.t (tI x2),I x3]] []=some (.agg [.own 0,.own 1,.own 2,I x3],[.arr Zjn 3 true (x0.map Zc.c),.arr Zx 1 true (x1.map ic),.arr Zx 1 true (x2.map ic)]):=by
 refine run Zbnh rfl ?_
 simp [Z7x,c_toPlan _ h0,c_toBox _ _ h1 h2]
theorem Zbo5 (x0:List Zc) (x1:List Int) (x2:List Int) (x3:Int) (y0:List Zc) (y1:List Int) (y2:List Int) (y3:Int) (h0:SmA x0) (h1:SmA x1) (h2:SmA x2):C Zbaf [.agg [.t (.lst 3 (x0.map Zc.c)),.t (tI x1),.t (tI x2),I x3],.agg [.t (.lst 3 (y0.map Zc.c)),.t (tI y1),.t (tI y2),I y3]] []=some (Bo (decide (x0=y0∧x1=y1∧x2=y2∧x3=y3)),[]):=by
 refine run Zbni rfl ?_
 simp [Z7y,Z89 _ _ h0,c_eqBox _ _ _ _ h1 h2]
 repeat' split
 all_goals first | (simp_all;done) | grind
theorem Zbo6 (x0:List Zc) (x1:List Int) (x2:List Int) (x3:Int) (left:Int) :C Zbad [.agg [.t (.lst 3 (x0.map Zc.c)),.t (tI x1),.t (tI x2),I x3],I left] []=some (I (Region.sz ⟨⟨x0⟩,⟨x1,x2⟩,x3⟩ left),[]):=by
 refine run Zbng rfl ?_
 simp [Z7w,c_szPlan,c_szBox,Region.sz,andSz,sz1]
 repeat' split
 all_goals first | (simp_all;done) | grind
theorem Zbo7 (x0:Int) (x1:List Atom) (x2:List Zc) (x3:List Int) (x4:List Int) (x5:Int) (x6:Int) (x7:Int) (h1:SmL Atom.small x1) (h2:SmA x2) (h3:SmA x3) (h4:SmA x4):C Zba8 [.agg [I x0,.t (.lst 2 (x1.map Atom.c)),.t (.lst 3 (x2.map Zc.c)),.t (tI x3),.t (tI x4),I x5,I x6,I x7]] []=some (.agg [I x0,.own 0,.own 1,.own 2,.own 3,I x5,I x6,I x7],[.arr Zk0 2 true (x1.map Atom.c),.arr Zjn 3 true (x2.map Zc.c),.arr Zx 1 true (x3.map ic),.arr Zx 1 true (x4.map ic)]):=by
 refine run Zbob rfl ?_
 simp [Z80,Z86 _ _ h1,Zbo4 _ _ _ _ h2 h3 h4]
theorem Zbo8 (x0:Int) (x1:List Atom) (x2:List Zc) (x3:List Int) (x4:List Int) (x5:Int) (x6:Int) (x7:Int) (y0:Int) (y1:List Atom) (y2:List Zc) (y3:List Int) (y4:List Int) (y5:Int) (y6:Int) (y7:Int) (h1:SmL Atom.small x1) (h2:SmA x2) (h3:SmA x3) (h4:SmA x4):C Zba9 [.agg [I x0,.t (.lst 2 (x1.map Atom.c)),.t (.lst 3 (x2.map Zc.c)),.t (tI x3),.t (tI x4),I x5,I x6,I x7],.agg [I y0,.t (.lst 2 (y1.map Atom.c)),.t (.lst 3 (y2.map Zc.c)),.t (tI y3),.t (tI y4),I y5,I y6,I y7]] []=some (Bo (decide (x0=y0∧x1=y1∧x2=y2∧x3=y3∧x4=y4∧x5=y5∧x6=y6∧x7=y7)),[]):=by
 refine run Zboc rfl ?_
 simp [Z81,Z87 _ _ _ _ h1,Zbo5 _ _ _ _ _ _ _ _ h2 h3 h4]
 repeat' split
 all_goals first | (simp_all;done) | grind
theorem Zbo9 (x0:Int) (x1:List Atom) (x2:List Zc) (x3:List Int) (x4:List Int) (x5:Int) (x6:Int) (x7:Int) (left:Int) (h1:OkL Atom.okay x1):C Zba7 [.agg [I x0,.t (.lst 2 (x1.map Atom.c)),.t (.lst 3 (x2.map Zc.c)),.t (tI x3),.t (tI x4),I x5,I x6,I x7],I left] []=some (I (Zf.sz ⟨⟨x0,x1⟩,⟨⟨x2⟩,⟨x3,x4⟩,x5⟩,x6,x7⟩ left),[]):=by
 refine run Zboa rfl ?_
 simp [Z8z,Z88 _ _ _ h1,Zbo6,Zf.sz,andSz,sz1]
 repeat' split
 all_goals first | (simp_all;done) | grind
theorem Zbpa (xs:List Zf) (h:SmL Zf.small xs) (fr:List Fr):∀ i,i≤xs.length→EvL C fr [0,3,4] Zqt ⟨[(0,L 8 (xs.map Zf.c)),(3,.own 0),(4,I i)],[[]],[.arr Zom 8 true (fill Zf.c [.int .i64 0,.lst 2 [],.lst 3 [],.lst 1 [],.lst 1 [],.int .i64 0,.int .i64 0,.int .i64 0] xs i)]⟩ =
  EvX C fr (.x 0) ⟨[(0,L 8 (xs.map Zf.c)),(3,.own 0),(4,I xs.length),(11,Bo false)],[[]],[.arr Zom 8 true (xs.map Zf.c)]⟩:=by
 have hl:xs.length≤4294967296:=h.1
 refine down xs.length ?_ ?_
 ·rw [EvL_eq Zqt.eq_1]
  simp [fill_all]
 ·intro i hi ih
  rw [EvL_eq Zqt.eq_1,← ih]
  have h1:=fill_set (f:=Zf.c) (z:=[.int .i64 0,.lst 2 [],.lst 3 [],.lst 1 [],.lst 1 [],.int .i64 0,.int .i64 0,.int .i64 0]) hi
  have h3:=fill_len (f:=Zf.c) (z:=[.int .i64 0,.lst 2 [],.lst 3 [],.lst 1 [],.lst 1 [],.int .i64 0,.int .i64 0,.int .i64 0]) (Nat.le_of_lt hi)
  have h4:IntKind.wrap .i64 ((i:Int)+1)=(i:Int)+1:=wrap64 (by omega) (by omega)
  simp at h1
  simp [hi,Zbo7 _ _ _ _ _ _ _ _ (h.2 _ (List.getElem_mem hi)).1 (h.2 _ (List.getElem_mem hi)).2.1 (h.2 _ (List.getElem_mem hi)).2.2.1 (h.2 _ (List.getElem_mem hi)).2.2.2,h3,h4,h1]
theorem Zbpb (xs:List Zf) (h:SmL Zf.small xs):C Zbaw [L 8 (xs.map Zf.c)] []=some (.own 0,[.arr Zom 8 true (xs.map Zf.c)]):=by
 refine run Zbnz rfl ?_
 have hl:xs.length≤4294967296:=h.1
 have h1:∀ b,b≤4096→xs.length*b≤room:=fun b hb=>Nat.le_trans (Nat.mul_le_mul hl hb) (by decide)
 have h2:(xs.length:Int)≤140737488355328:=by omega
 have h3:=fun fr=>Zbpa xs h fr 0 (Nat.zero_le _)
 simp [fill_zero] at h3
 simp [Z8k,h1,h2,h3]
theorem Zbpc (xs ys:List Zf) (h:SmL Zf.small xs) (hl:ys.length=xs.length) (fr:List Fr):∀ i,i≤xs.length→EvL C fr [0,1,5] Zn6 ⟨[(0,L 8 (xs.map Zf.c)),(1,L 8 (ys.map Zf.c)),(5,I i)],[[]],[]⟩ =
  if xs.drop i=ys.drop i then EvX C fr (.x 0) ⟨[(0,L 8 (xs.map Zf.c)),(1,L 8 (ys.map Zf.c)),(5,I xs.length),(14,Bo false)],[[]],[]⟩ else EvX C fr .r ⟨[(4,Bo false)],[[]],[]⟩:=by
 have hm:xs.length≤4294967296:=h.1
 refine down xs.length ?_ ?_
 ·rw [EvL_eq Zn6.eq_1]
  simp [hl,List.drop_eq_nil_of_le]
 ·intro i hi ih
  have hi2:i<ys.length:=by omega
  have h4:IntKind.wrap .i64 ((i:Int)+1)=(i:Int)+1:=wrap64 (by omega) (by omega)
  rw [EvL_eq Zn6.eq_1]
  simp +decide [hi,hi2,Zbo8 _ _ _ _ _ _ _ _ _ _ _ _ _ _ _ _ (h.2 _ (List.getElem_mem hi)).1 (h.2 _ (List.getElem_mem hi)).2.1 (h.2 _ (List.getElem_mem hi)).2.2.1 (h.2 _ (List.getElem_mem hi)).2.2.2,h4]
  simp at ih
  simp only [drop_eq_iff hi hi2,ih,Zf.ext_iff,Zb.ext_iff,Region.ext_iff,Plan.ext_iff,Box.ext_iff]
  split <;> first | (simp_all;done) | grind
theorem Zbpd (xs ys:List Zf) (h:SmL Zf.small xs):C Zx0 [L 8 (xs.map Zf.c),L 8 (ys.map Zf.c)] []=some (Bo (decide (xs=ys)),[]):=by
 refine run Z8l rfl ?_
 by_cases hl:ys.length=xs.length
 ·have h3:=fun fr=>Zbpc xs ys h hl fr 0 (Nat.zero_le _)
  simp at h3
  simp [Zqu,h3,hl]
  split <;> simp_all
 ·have h1:xs≠ys:=fun h=>hl (by rw [h])
  have h2:¬ ((xs.length:Int)=ys.length):=by omega
  simp [Zqu,h1,h2]
theorem Zbpe (xs:List Zf) (h:OkL Zf.okay xs) (fr:List Fr):∀ i,i≤xs.length→∀ left:Int,
  (EvL C fr [0,1,5] Zjg ⟨[(0,L 8 (xs.map Zf.c)),(1,I left),(5,I i)],[[]],[]⟩=EvX C fr .r ⟨[(4,I (-1))],[[]],[]⟩∧szFold Zf.sz (xs.drop i) left=-1) ∨
  EvL C fr [0,1,5] Zjg ⟨[(0,L 8 (xs.map Zf.c)),(1,I left),(5,I i)],[[]],[]⟩=EvX C fr (.x 0) ⟨[(0,L 8 (xs.map Zf.c)),(1,I (szFold Zf.sz (xs.drop i) left)),(5,I xs.length),(15,Bo false)],[[]],[]⟩:=by
 have hm:maxLen≤9223372036854775807:=by decide
 have hl:=h.1
 refine down xs.length ?_ ?_
 ·intro left
  right
  rw [EvL_eq Zjg.eq_1]
  simp [List.drop_eq_nil_of_le,szFold]
 ·intro i hi ih left
  have h4:IntKind.wrap .i64 ((i:Int)+1)=(i:Int)+1:=wrap64 (by omega) (by omega)
  have e:EvL C fr [0,1,5] Zjg ⟨[(0,L 8 (xs.map Zf.c)),(1,I left),(5,I i)],[[]],[]⟩=if Zf.sz xs[i] left<0 then EvX C fr .r ⟨[(4,I (-1))],[[]],[]⟩ else EvL C fr [0,1,5] Zjg ⟨[(0,L 8 (xs.map Zf.c)),(1,I (Zf.sz xs[i] left)),(5,I ((i+1:Nat):Int))],[[]],[]⟩:=by
   rw [EvL_eq Zjg.eq_1]
   simp [hi,Zbo9 _ _ _ _ _ _ _ _ _ (h.2 _ (List.getElem_mem hi)).2.1,h4]
  rw [e,List.drop_eq_getElem_cons hi,szFold]
  split
  ·exact .inl ⟨rfl,rfl⟩
  ·exact ih _
theorem Zbpf (xs:List Zf) (left:Int) (h:OkL Zf.okay xs):C Zbav [L 8 (xs.map Zf.c),I left] []=some (I (szL Zf.sz xs left),[]):=by
 refine run Zbny rfl ?_
 have h3:=fun fr l=>Zbpe xs h fr 0 (Nat.zero_le _) l
 simp at h3
 simp [Z8j,szL,andSz,sz1]
 split
 ·simp_all
 ·rcases h3 [.blk 0,.seq _,.fin _ _] (IntKind.wrap .i64 (left - xs.length)) with ⟨h5,h6⟩ | h5
  ·rw [h5];simp [h6]
  ·rw [h5];simp
theorem Zbpg (x0:Int) (x1:List Zf) (h1:SmL Zf.small x1):C Zbah [.agg [I x0,.t (.lst 8 (x1.map Zf.c))]] []=some (.agg [I x0,.own 0],[.arr Zom 8 true (x1.map Zf.c)]):=by
 refine run Zbnk rfl ?_
 simp [Z70,Zbpb _ h1]
theorem Z9a (x0:Int) (x1:List Zf) (y0:Int) (y1:List Zf) (h1:SmL Zf.small x1):C Zxv [.agg [I x0,.t (.lst 8 (x1.map Zf.c))],.agg [I y0,.t (.lst 8 (y1.map Zf.c))]] []=some (Bo (decide (x0=y0∧x1=y1)),[]):=by
 refine run Z71 rfl ?_
 simp [Zwp,Zbpd _ _ h1]
 repeat' split
 all_goals first | (simp_all;done) | grind
theorem Zbph (x0:Int) (x1:List Zf) (left:Int) (h1:OkL Zf.okay x1):C Zbag [.agg [I x0,.t (.lst 8 (x1.map Zf.c))],I left] []=some (I (Zp.sz ⟨x0,x1⟩ left),[]):=by
 refine run Zbnj rfl ?_
 simp [Z7z,Zbpf _ _ h1,Zp.sz,andSz,sz1]
 repeat' split
 all_goals first | (simp_all;done) | grind
@[simp] theorem c_szKeptS (es:List (List T)) (left:Int):C Z93 [L 2 es,I left] []=some (I (sz1 es.length left),[]):=by
 refine run Zbm6 rfl ?_
 simp [Z7k,sz1]
 split <;> simp_all
end Go.Proofs.YtbapkgocloaaeaaGreat
/- part: MP -/
namespace Go.Proofs.YtbapkgocloaaeaaGreat
open Go.AM
def mkL {α:Type} (f:α→Int→α) (n:α→Nat):List α→Int→List α
 | [],_=>[]
 | x::xs,k=>f x k::mkL f n xs (k+(n x:Int))
def cnL {α:Type} (n:α→Nat):List α→Nat
 | []=>0
 | x::xs=>n x+cnL n xs
def mkI (xs:List Int) (k:Int):List Int:=mkL (fun _ k=>k) (fun _=>1) xs k
theorem Z9b (x:Int) (xs:List Int) (k:Int):mkI (x::xs) k=k::mkI xs (k+1):=rfl
theorem Zbpi (e:Nat) (fr:List Fr):∀ (xs d:List Int) (k:Int),0≤k→k+(xs.length:Int)≤4611686018427387904→d.length+xs.length≤4294967296→EvL C fr [0,1,5] Zn3 ⟨[(0,.own 0),(1,I k),(5,I d.length)],[[(0,.own 0)]],[.xarr e 1 ((d++xs).map ic)]⟩ =
  EvX C fr (.x 0) ⟨[(0,.own 0),(1,I (k+xs.length)),(5,I (d.length+xs.length)),(9,Bo false)],[[(0,.own 0)]],[.xarr e 1 ((d++mkI xs k).map ic)]⟩:=by
 intro xs
 induction xs with
 | nil =>
  intro d k h1 h2 h3
  rw [EvL_eq Zn3.eq_1]
  simp [mkI,mkL]
 | cons x xs ih =>
  intro d k h1 h2 h3
  simp only [List.length_cons] at h2 h3
  have ih':=ih (d++[k]) (k+1) (by omega) (by omega) (by simp;omega)
  rw [EvL_eq Zn3.eq_1]
  have g1:IntKind.wrap .i64 ((d.length:Int)+1)=(d.length:Int)+1:=wrap64 (by omega) (by omega)
  have g2:IntKind.wrap .i64 (k+1)=k+1:=wrap64 (by omega) (by omega)
  have g3:(d.length:Int)<(d.length:Int)+((xs.length:Int)+1):=by omega
  have g4:k+1+(xs.length:Int)=k+((xs.length:Int)+1):=by omega
  have g5:(d.length:Int)+1+(xs.length:Int)=(d.length:Int)+((xs.length:Int)+1):=by omega
  simp [g4,g5] at ih'
  simp [g1,g2,g3,ih',Z9b]
theorem Z9c (e:Nat) (xs:List Int) (k:Int) (h1:0≤k) (h2:k+(xs.length:Int)≤4611686018427387904) (h3:SmA xs):C Zok [.own 0,I k] [.xarr e 1 (xs.map ic)]=some (I (k+xs.length),[.xarr e 1 ((mkI xs k).map ic)]):=by
 refine runM Z7u rfl ?_
 have h4:=fun fr=>Zbpi e fr xs [] k h1 h2 (by have:xs.length≤4294967296:=h3;simp;omega)
 simp at h4
 simp [Zwo,h4]
theorem Zbpj (n:Nat) (k:Int):C Zok [.t (.lst n []),I k] []=some (I k,[]):=by
 refine run Z7u rfl ?_
 simp [Zwo,EvL_eq Zn3.eq_1]
theorem Zbpk (fr:List Fr):∀ (xs d:List Int) (k:Int),0≤k→k+(xs.length:Int)≤4611686018427387904→d.length+xs.length≤4294967296→EvL C fr [0,1,5] Zqm ⟨[(0,L 1 ((d++mkI xs k).map ic)),(1,I k),(5,I d.length)],[[]],[]⟩ =
  EvX C fr (.x 0) ⟨[(0,L 1 ((d++mkI xs k).map ic)),(1,I (k+xs.length)),(5,I (d.length+xs.length)),(9,Bo false)],[[]],[]⟩:=by
 intro xs
 induction xs with
 | nil =>
  intro d k h1 h2 h3
  rw [EvL_eq Zqm.eq_1]
  simp [mkI,mkL]
 | cons x xs ih =>
  intro d k h1 h2 h3
  simp only [List.length_cons] at h2 h3
  have ih':=ih (d++[k]) (k+1) (by omega) (by omega) (by simp;omega)
  rw [EvL_eq Zqm.eq_1]
  have g1:IntKind.wrap .i64 ((d.length:Int)+1)=(d.length:Int)+1:=wrap64 (by omega) (by omega)
  have g2:IntKind.wrap .i64 (k+1)=k+1:=wrap64 (by omega) (by omega)
  have g3:(d.length:Int)<(d.length:Int)+(((mkI xs (k+1)).length:Int)+1):=by omega
  have g4:k+1+(xs.length:Int)=k+((xs.length:Int)+1):=by omega
  have g5:(d.length:Int)+1+(xs.length:Int)=(d.length:Int)+((xs.length:Int)+1):=by omega
  simp [g4,g5] at ih'
  simp [g1,g2,g3,ih',Z9b]
end Go.Proofs.YtbapkgocloaaeaaGreat
/- part: MQ -/
namespace Go.Proofs.YtbapkgocloaaeaaGreat
open Go.AM
theorem strB_one (x:Int):(strB [x]).size=1:=by simp [strB];rfl
theorem Zbpl (fr:List Fr):∀ (n:Nat) (k:Int) (out:ByteArray),k.toNat≤n→(out.size:Int)+k≤4611686018427387904→0≤k→∃ s,s.size≤out.size+n∧EvL C fr [0,3] Zoa ⟨[(0,I k),(3,.t (.str out))],[[]],[]⟩=EvX C fr (.x 0) ⟨[(0,I 0),(3,.t (.str s)),(7,Bo false)],[[]],[]⟩:=by
 intro n
 induction n with
 | zero =>
  intro k out h1 h2 h3
  have:k=0:=by omega
  subst this
  rw [EvL_eq Zoa.eq_1]
  exact ⟨out,by simp⟩
 | succ n ih =>
  intro k out h1 h2 h3
  by_cases h0:k=0
  ·subst h0
   rw [EvL_eq Zoa.eq_1]
   exact ⟨out,by simp⟩
  have hk:0<k:=by omega
  have e:k.tdiv 10=k / 10:=Int.tdiv_eq_ediv_of_nonneg h3
  have e2:IntKind.wrap .i64 (k / 10)=k / 10:=wrap64 (by omega) (by omega)
  generalize hx:IntKind.wrap .u8 (IntKind.wrap .i64 (48+k.tmod 10))=x
  have s1:=strB_one x
  have c:1+out.size≤9223372036854775807:=by omega
  obtain ⟨s,hs,hr⟩:=ih (k / 10) (strB [x]++out) (by omega) (by rw [ByteArray.size_append,s1];omega) (by omega)
  rw [ByteArray.size_append,s1] at hs
  refine ⟨s,by omega,?_⟩
  rw [EvL_eq Zoa.eq_1]
  simp [hk,hx,s1,c,e,e2,hr]
theorem Zbpm (k:Int) (h1:0≤k) (h2:k≤4000000000000000000):∃ s,C Zrc [I k] []=some (.t (.str s),[]):=by
 by_cases h0:k=0
 ·subst h0
  refine ⟨⟨#[109,48]⟩,run Z8y rfl ?_⟩
  simp [Zw0]
 ·have h3:¬ k≤0:=by omega
  obtain ⟨s,hs,hr⟩:=Zbpl [.blk 0,.seq (.seq (.reg [⟨some 18,none,.mov (.s 3)⟩,⟨some 19,none,.bin .add (.c (.t (.str ⟨#[109]⟩))) (.s 18)⟩,⟨some 2,none,.mov (.s 19)⟩] [2]) .ret),.fin 0 [.tmp 2]] k.toNat k ⟨#[]⟩ (Nat.le_refl _) (by simp [ByteArray.size];omega) h1
  have c:(⟨#[109]⟩:ByteArray).size+s.size≤9223372036854775807:=by
   have:(⟨#[]⟩:ByteArray).size=0:=rfl
   have:(⟨#[109]⟩:ByteArray).size=1:=rfl
   omega
  refine ⟨⟨#[109]⟩++s,run Z8y rfl ?_⟩
  simp at hr
  simp [Zw0,h3,hr,c]
noncomputable def mtext (k:Int):ByteArray:=match C Zrc [I k] [] with
 | some (.t (.str s),[])=>s
 | _=>⟨#[]⟩
theorem Z9d (k:Int) (h1:0≤k) (h2:k≤4000000000000000000):C Zrc [I k] []=some (.t (.str (mtext k)),[]):=by
 obtain ⟨s,h⟩:=Zbpm k h1 h2
 have:mtext k=s:=by unfold mtext;rw [h]
 rw [this,h]
end Go.Proofs.YtbapkgocloaaeaaGreat
