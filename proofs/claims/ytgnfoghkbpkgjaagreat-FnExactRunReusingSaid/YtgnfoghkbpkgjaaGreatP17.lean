/-
  Parts of the proofs for this seat: K FA MP MQ.
-/
import Derived.Test.YtgnfoghkbpkgjaaGreatP6
import Derived.Test.YtgnfoghkbpkgjaaGreatP7
set_option linter.unusedSimpArgs false
set_option linter.unusedVariables false
set_option maxRecDepth 100000
set_option maxHeartbeats 4000000
namespace Go.Proofs.YtgnfoghkbpkgjaaGreat
open Go.AM
def Zel:MFun:=⟨6,230,[.tmp 12],.r [.bx 6 0,.bx 7 1,.bx 8 2,.bx 9 3,.o 12 (.mov (.q false))] [4,5,6,7,8,9] (.r [.mk' 13 1048576] [4,5,6,7,8,9,13] (.r [.ln 31 30 6,.m 32 13,.cl 33 11 [31,32],.m 13 33] [4,5,6,7,8,9,13] (.wc [.m 34 13,.bk 35 .lss 34 0] [4,5,6,7,8,9,13,35] 35 (.r [.o 12 (.mov (.q true))] [12] .ret) (.r [.ln 36 1 7,.m 37 13,.cl 38 28 [36,37],.m 13 38] [4,5,6,7,8,9,13] (.wc [.m 39 13,.bk 40 .lss 39 0] [4,5,6,7,8,9,13,40] 40 (.r [.o 12 (.mov (.q true))] [12] .ret) (.r [.ln 41 2 8,.m 42 13,.cl 43 12 [41,42],.m 13 43] [4,5,6,7,8,9,13] (.wc [.m 44 13,.bk 45 .lss 44 0] [4,5,6,7,8,9,13,45] 45 (.r [.o 12 (.mov (.q true))] [12] .ret) (.r [.ln 46 1 9,.m 47 13,.cl 48 55 [46,47],.m 13 48] [4,5,6,7,8,9,13] (.wc [.m 49 13,.bk 50 .lss 49 0] [4,5,6,7,8,9,13,50] 50 (.r [.o 12 (.mov (.q true))] [12] .ret) (.r [.m 51 5,.m 52 13,.cl 53 69 [51,52],.m 13 53] [4,5,6,7,8,9,13] (.wc [.m 54 13,.bk 55 .lss 54 0] [4,5,6,7,8,9,55] 55 (.r [.o 12 (.mov (.q true))] [12] .ret) (.seq (.drw [.ln 57 30 6,.xl 58 15 [57],.ln 59 1 7,.xl 60 30 [59],.ln 61 2 8,.xl 62 16 [61],.ln 63 1 9,.xl 64 57 [63],.m 65 4,.m 66 5,.xl 67 70 [66],.cl 68 47 [58,60,62,64,65,67],.m 56 68,.o 69 (.ext (.s 56) 0),.o 70 (.ext (.s 56) 1),.o 71 (.ext (.s 56) 2),.o 14 (.alloc [.t (.bool false),.t .z,.t .z,.t .nil,.t .nil,.t .nil]),.st 6 14 69,.m 15 70,.m 16 71] [[],[0],[],[2,1],[],[4,3],[],[6,5],[],[],[9,7],[1,3,5,7,8,10,10],[11],[12],[12],[12],[],[16,13,11,0,1,2,3,4,5,6,7,8,9,10,11,12,13,16],[14,17,0,1,2,3,4,5,6,7,8,9,10,11,12,13,14,16,17],[15,18,0,1,2,3,4,5,6,7,8,9,10,11,12,13,14,15,16,17,18]] [4,5,6,7,8,9,14,15,16]) (.r [.ln 72 30 6,.xl 73 15 [72],.o 17 (.alloc [.t .z,.t .z,.t .z,.t .z,.t .z,.t .nil,.t .z,.t .z,.t .z,.t .z,.t .z,.t .nil,.t .z,.t .z,.t .z,.t .z,.t .z,.t .nil,.t .z,.t .z,.t .z,.t .z,.t .z,.t .nil,.t .z,.t .z,.t .z,.t .z,.t .z,.t .nil]),.st 30 17 73] [4,5,6,7,8,9,14,15,16,17] (.r [.ln 74 1 7,.xl 75 30 [74],.o 18 (.alloc [.t .nil]),.st 1 18 75] [4,5,6,7,8,9,14,15,16,17,18] (.r [.ln 76 2 8,.xl 77 16 [76],.o 19 (.alloc [.t .z,.t .nil]),.st 2 19 77] [4,5,6,7,8,9,14,15,16,17,18,19] (.r [.ln 78 1 9,.xl 79 57 [78],.o 20 (.alloc [.t .nil]),.st 1 20 79] [4,5,6,7,8,9,14,15,16,17,18,19,20] (.r [.m 80 5,.xl 81 70 [80],.m 21 81] [4,5,6,7,8,9,14,15,16,17,18,19,20,21] (.r [.ln 83 30 17,.ln 84 1 18,.ln 85 2 19,.ln 86 1 20,.m 87 4,.m 88 21,.xl 89 46 [83,84,85,86,87,88],.m 82 89,.o 90 (.ext (.s 82) 0),.o 91 (.ext (.s 82) 1),.o 92 (.ext (.s 82) 2),.o 22 (.alloc [.t (.bool false),.t .z,.t .z,.t .nil,.t .nil,.t .nil]),.st 6 22 90,.m 23 91,.m 24 92] [4,5,6,7,8,9,14,15,16,17,18,19,20,21,22,23,24] (.wc [.ln 93 6 22,.ln 94 6 14,.cl 95 59 [93,94],.o 96 (.un .not (.s 95)),.m 97 96,.h 98 97 (.mov (.s 23)),.h 99 97 (.mov (.s 15)),.h 100 97 (.cl 71 [98,99]),.h 101 97 (.un .not (.s 100)),.o 102 (.pick (.s 97) (.q true) (.s 101)),.m 103 102,.h 104 103 (.mov (.s 24)),.h 105 103 (.mov (.s 16)),.h 106 103 (.beq true (.s 104) (.s 105)),.o 107 (.pick (.s 103) (.q true) (.s 106))] [4,5,6,7,8,9,14,15,16,17,18,19,20,21,22,23,24,107] 107 (.r [.o 12 (.mov (.q false))] [12] .ret) (.seq (.seq (.drw [.ln 108 30 17,.ln 109 30 6,.xl 110 15 [109],.cl 111 20 [108,110],.o 112 (.un .not (.s 111))] [[],[],[1],[0,2,2],[3]] [4,5,6,7,8,9,14,15,16,17,18,19,20,21,22,23,24,112]) (.cond (.s 112) (.r [.o 12 (.mov (.q false))] [12] .ret) .skip)) (.seq (.seq (.drw [.ln 113 1 18,.ln 114 1 7,.xl 115 30 [114],.cl 116 32 [113,115],.o 117 (.un .not (.s 116))] [[],[],[1],[0,2,2],[3]] [4,5,6,7,8,9,14,15,16,17,18,19,20,21,22,23,24,117]) (.cond (.s 117) (.r [.o 12 (.mov (.q false))] [12] .ret) .skip)) (.seq (.seq (.drw [.ln 118 2 19,.ln 119 2 8,.xl 120 16 [119],.cl 121 21 [118,120],.o 122 (.un .not (.s 121))] [[],[],[1],[0,2,2],[3]] [4,5,6,7,8,9,14,15,16,17,18,19,20,21,22,23,24,122]) (.cond (.s 122) (.r [.o 12 (.mov (.q false))] [12] .ret) .skip)) (.seq (.seq (.drw [.ln 123 1 20,.ln 124 1 9,.xl 125 57 [124],.cl 126 35 [123,125],.o 127 (.un .not (.s 126))] [[],[],[1],[0,2,2],[3]] [4,5,6,7,8,9,14,15,16,17,18,19,20,21,22,23,24,127]) (.cond (.s 127) (.r [.o 12 (.mov (.q false))] [12] .ret) .skip)) (.wc [.m 128 21,.m 129 5,.xl 130 70 [129],.cl 131 71 [128,130],.o 132 (.un .not (.s 131))] [4,5,6,7,8,9,14,15,16,17,18,19,20,21,22,23,24,132] 132 (.r [.o 12 (.mov (.q false))] [12] .ret) (.r [.mk' 25 1] [4,5,6,7,8,9,14,15,16,17,18,19,20,21,22,23,24,25] (.r [.ln 133 30 17,.m 134 25,.o 135 (.icall 23 [.s 133,.s 134]),.m 25 135] [4,5,6,7,8,9,14,15,16,18,19,20,21,22,23,24,25] (.r [.ln 136 1 18,.m 137 25,.o 138 (.icall 36 [.s 136,.s 137]),.m 25 138] [4,5,6,7,8,9,14,15,16,19,20,21,22,23,24,25] (.r [.ln 139 2 19,.m 140 25,.o 141 (.icall 24 [.s 139,.s 140]),.m 25 141] [4,5,6,7,8,9,14,15,16,20,21,22,23,24,25] (.r [.ln 142 1 20,.m 143 25,.o 144 (.icall 37 [.s 142,.s 143]),.m 25 144] [4,5,6,7,8,9,14,15,16,21,22,23,24,25] (.r [.m 145 21,.m 146 25,.o 147 (.icall 72 [.s 145,.s 146]),.m 25 147] [4,5,6,7,8,9,14,15,16,22,23,24,25] (.wc [.m 148 25,.bk 149 .lss 148 0,.m 150 149,.h 151 150 (.ln 6 22),.h 152 150 (.ln 6 14),.h 153 150 (.cl 59 [151,152]),.h 154 150 (.un .not (.s 153)),.o 155 (.pick (.s 150) (.q true) (.s 154)),.m 156 155,.h 157 156 (.mov (.s 23)),.h 158 156 (.mov (.s 15)),.h 159 156 (.cl 71 [157,158]),.h 160 156 (.un .not (.s 159)),.o 161 (.pick (.s 156) (.q true) (.s 160)),.m 162 161,.h 163 162 (.mov (.s 24)),.h 164 162 (.mov (.s 16)),.h 165 162 (.beq true (.s 163) (.s 164)),.o 166 (.pick (.s 162) (.q true) (.s 165))] [4,5,6,7,8,9,14,15,16,22,23,166] 166 (.r [.o 12 (.mov (.q false))] [12] .ret) (.r [.mk' 26 1] [4,5,6,7,8,9,14,15,16,22,23,26] (.r [.ln 167 6 22,.m 168 26,.o 169 (.icall 60 [.s 167,.s 168]),.m 26 169] [4,5,6,7,8,9,14,15,16,22,23,26] (.r [.m 170 23,.m 171 26,.o 172 (.icall 72 [.s 170,.s 171]),.m 26 172] [4,5,6,7,8,9,14,15,16,22,23,26] (.r [.mk' 27 1] [4,5,6,7,8,9,14,15,16,22,23,26,27] (.r [.ln 173 6 22,.m 174 27,.cl 175 61 [173,174],.m 27 175] [4,5,6,7,8,9,14,15,16,22,23,26,27] (.wc [.m 176 27,.bk 177 .lss 176 0] [4,5,6,7,8,9,14,15,16,22,23,26,27,177] 177 (.r [.o 12 (.mov (.q false))] [12] .ret) (.r [.m 178 23,.m 179 27,.cl 180 73 [178,179],.m 27 180] [4,5,6,7,8,9,14,15,16,22,23,26,27] (.wc [.m 181 27,.bk 182 .lss 181 0] [4,5,6,7,8,9,14,15,16,22,23,26,27,182] 182 (.r [.o 12 (.mov (.q false))] [12] .ret) (.wc [.m 183 27,.m 184 26,.b 185 .neq 183 184] [4,5,6,7,8,9,14,15,16,22,23,26,185] 185 (.r [.o 12 (.mov (.q false))] [12] .ret) (.seq (.drw [.ln 187 30 6,.xl 188 15 [187],.ln 189 1 7,.xl 190 30 [189],.ln 191 2 8,.xl 192 16 [191],.ln 193 1 9,.xl 194 57 [193],.m 195 4,.m 196 5,.xl 197 70 [196],.xl 198 46 [188,190,192,194,195,197],.m 186 198,.o 199 (.ext (.s 186) 0),.o 200 (.ext (.s 186) 1),.o 201 (.ext (.s 186) 2),.o 28 (.alloc [.t (.bool false),.t .z,.t .z,.t .nil,.t .nil,.t .nil]),.st 6 28 199,.m 29 200,.m 30 201] [[],[0],[],[2,1],[],[4,3],[],[6,5],[],[],[9,7],[1,3,5,7,8,10,10],[11],[12],[12],[12],[],[16,13,11,0,1,2,3,4,5,6,7,8,9,10,11,12,13,16],[14,17,0,1,2,3,4,5,6,7,8,9,10,11,12,13,14,16,17],[15,18,0,1,2,3,4,5,6,7,8,9,10,11,12,13,14,15,16,17,18]] [14,15,16,22,23,26,28,29,30]) (.wc [.ln 202 6 28,.ln 203 6 14,.cl 204 59 [202,203],.o 205 (.un .not (.s 204)),.m 206 205,.h 207 206 (.mov (.s 29)),.h 208 206 (.mov (.s 15)),.h 209 206 (.cl 71 [207,208]),.h 210 206 (.un .not (.s 209)),.o 211 (.pick (.s 206) (.q true) (.s 210)),.m 212 211,.h 213 212 (.mov (.s 30)),.h 214 212 (.mov (.s 16)),.h 215 212 (.beq true (.s 213) (.s 214)),.o 216 (.pick (.s 212) (.q true) (.s 215))] [22,23,26,216] 216 (.r [.o 12 (.mov (.q false))] [12] .ret) (.r [.mk' 27 1] [22,23,26,27] (.r [.ln 217 6 22,.m 218 27,.cl 219 61 [217,218],.m 27 219] [23,26,27] (.wc [.m 220 27,.bk 221 .lss 220 0] [23,26,27,221] 221 (.r [.o 12 (.mov (.q false))] [12] .ret) (.r [.m 222 23,.m 223 27,.cl 224 73 [222,223],.m 27 224] [26,27] (.wc [.m 225 27,.bk 226 .lss 225 0] [26,27,226] 226 (.r [.o 12 (.mov (.q false))] [12] .ret) (.wc [.m 227 27,.m 228 26,.b 229 .neq 227 228] [229] 229 (.r [.o 12 (.mov (.q false))] [12] .ret) (.r [.o 12 (.mov (.q true))] [12] .ret)))))))))))))))))))))))))))))))))))))))))))))))))⟩
theorem Zb2v:tbl 10=some Zel:=Zc Tryz.func10 (by kernel_rfl) (by kernel_rfl)
def Zbk3:MFun:=⟨2,36,[.tmp 4],.r [.bx 2 0,.mk' 4 0] [1,2] (.r [.fa 5 0 2,.ln 6 6 5,.m 7 1,.cl 8 74 [6,7],.m 1 8] [1,2] (.wc [.m 9 1,.bk 10 .lss 9 0] [1,2,10] 10 (.r [.mk' 4 (-1)] [4] .ret) (.r [.fa 11 6 2,.ln 12 6 11,.m 13 1,.cl 14 74 [12,13],.m 1 14] [1,2] (.wc [.m 15 1,.bk 16 .lss 15 0] [1,2,16] 16 (.r [.mk' 4 (-1)] [4] .ret) (.r [.fa 17 12 2,.ln 18 6 17,.m 19 1,.cl 20 74 [18,19],.m 1 20] [1,2] (.wc [.m 21 1,.bk 22 .lss 21 0] [1,2,22] 22 (.r [.mk' 4 (-1)] [4] .ret) (.r [.fa 23 18 2,.ln 24 6 23,.m 25 1,.cl 26 74 [24,25],.m 1 26] [1,2] (.wc [.m 27 1,.bk 28 .lss 27 0] [1,2,28] 28 (.r [.mk' 4 (-1)] [4] .ret) (.r [.fa 29 24 2,.ln 30 6 29,.m 31 1,.cl 32 74 [30,31],.m 1 32] [1] (.wc [.m 33 1,.bk 34 .lss 33 0] [1,34] 34 (.r [.mk' 4 (-1)] [4] .ret) (.r [.m 35 1,.m 4 35] [4] .ret)))))))))))⟩
theorem Zb2w:tbl 11=some Zbk3:=Zc Tryz.func11 (by kernel_rfl) (by kernel_rfl)
def Zbk4:MFun:=⟨2,12,[.tmp 4],.r [.bx 2 0,.mk' 4 0] [1,2] (.r [.fa 5 1 2,.l 6 5,.m 7 1,.cl 8 75 [6,7],.m 1 8] [1] (.wc [.m 9 1,.bk 10 .lss 9 0] [1,10] 10 (.r [.mk' 4 (-1)] [4] .ret) (.r [.m 11 1,.m 4 11] [4] .ret)))⟩
theorem Zb2x:tbl 12=some Zbk4:=Zc Tryz.func12 (by kernel_rfl) (by kernel_rfl)
def Zbk5:MFun:=⟨1,25,[.cell 2 (some 30)],.r [.bx 1 0,.o 2 (.alloc [.t .z,.t .z,.t .z,.t .z,.t .z,.t .nil,.t .z,.t .z,.t .z,.t .z,.t .z,.t .nil,.t .z,.t .z,.t .z,.t .z,.t .z,.t .nil,.t .z,.t .z,.t .z,.t .z,.t .z,.t .nil,.t .z,.t .z,.t .z,.t .z,.t .z,.t .nil])] [1,2] (.r [.o 3 (.alloc [.t .z,.t .z,.t .z,.t .z,.t .z,.t .nil,.t .z,.t .z,.t .z,.t .z,.t .z,.t .nil,.t .z,.t .z,.t .z,.t .z,.t .z,.t .nil,.t .z,.t .z,.t .z,.t .z,.t .z,.t .nil,.t .z,.t .z,.t .z,.t .z,.t .z,.t .nil])] [1,2,3] (.r [.fa 4 0 1,.ln 5 6 4,.cl 6 89 [5],.fa 7 0 3,.st 6 7 6] [1,2,3] (.r [.fa 8 6 1,.ln 9 6 8,.cl 10 89 [9],.fa 11 6 3,.st 6 11 10] [1,2,3] (.r [.fa 12 12 1,.ln 13 6 12,.cl 14 89 [13],.fa 15 12 3,.st 6 15 14] [1,2,3] (.r [.fa 16 18 1,.ln 17 6 16,.cl 18 89 [17],.fa 19 18 3,.st 6 19 18] [1,2,3] (.r [.fa 20 24 1,.ln 21 6 20,.cl 22 89 [21],.fa 23 24 3,.st 6 23 22] [2,3] (.r [.ln 24 30 3,.st 30 2 24] [2] .ret)))))))⟩
theorem Zb2y:tbl 15=some Zbk5:=Zc Tryz.func15 (by kernel_rfl) (by kernel_rfl)
def Zbk6:MFun:=⟨1,12,[.cell 2 (some 2)],.r [.bx 1 0,.o 2 (.alloc [.t .z,.t .nil])] [1,2] (.r [.o 3 (.alloc [.t .z,.t .nil])] [1,2,3] (.r [.fa 4 0 1,.l 5 4,.fa 6 0 3,.st 1 6 5] [1,2,3] (.r [.fa 7 1 1,.l 8 7,.cl 9 90 [8],.fa 10 1 3,.st 1 10 9] [2,3] (.r [.ln 11 2 3,.st 2 2 11] [2] .ret))))⟩
theorem Zb2z:tbl 16=some Zbk6:=Zc Tryz.func16 (by kernel_rfl) (by kernel_rfl)
def Zsf:MCode :=.we [.m 11 5,.m 12 0,.ll 13 12,.b 14 .lss 11 13] [0,1,5,14] 14 0 (.seq (.block 1 (.seq (.drw [.m 17 0,.m 18 5,.ia 19 1 17 18,.l 20 19,.m 21 1,.m 22 5,.ia 23 1 21 22,.l 24 23,.b 25 .neq 20 24] [[],[],[0,1],[2],[],[],[4,5],[6],[3,7]] [0,1,5,25]) (.cond (.s 25) (.r [.o 4 (.mov (.q false))] [4] .ret) .skip))) (.reg [.m 15 5,.bk 16 .add 15 1,.m 5 16] [0,1,5]))
def Zw7:MFun:=⟨2,26,[.tmp 4],.r [.o 4 (.mov (.q false))] [0,1] (.wc [.m 6 0,.ll 7 6,.m 8 1,.ll 9 8,.b 10 .neq 7 9] [0,1,10] 10 (.r [.o 4 (.mov (.q false))] [4] .ret) (.seq (.r [.mk' 5 0] [0,1,5] (.block 0 (.loop [0,1,5] Zsf))) (.r [.o 4 (.mov (.q true))] [4] .ret)))⟩
theorem Zbk7:tbl 19=some Zw7:=Zc Tryz.func19 (by kernel_rfl) (by kernel_rfl)
def Zbk8:MFun:=⟨2,35,[.tmp 4],.r [.bx 2 0,.bx 3 1,.o 4 (.mov (.q false))] [2,3] (.wc [.fa 5 0 2,.ln 6 6 5,.fa 7 0 3,.ln 8 6 7,.cl 9 99 [6,8],.o 10 (.un .not (.s 9))] [2,3,10] 10 (.r [.o 4 (.mov (.q false))] [4] .ret) (.wc [.fa 11 6 2,.ln 12 6 11,.fa 13 6 3,.ln 14 6 13,.cl 15 99 [12,14],.o 16 (.un .not (.s 15))] [2,3,16] 16 (.r [.o 4 (.mov (.q false))] [4] .ret) (.wc [.fa 17 12 2,.ln 18 6 17,.fa 19 12 3,.ln 20 6 19,.cl 21 99 [18,20],.o 22 (.un .not (.s 21))] [2,3,22] 22 (.r [.o 4 (.mov (.q false))] [4] .ret) (.wc [.fa 23 18 2,.ln 24 6 23,.fa 25 18 3,.ln 26 6 25,.cl 27 99 [24,26],.o 28 (.un .not (.s 27))] [2,3,28] 28 (.r [.o 4 (.mov (.q false))] [4] .ret) (.wc [.fa 29 24 2,.ln 30 6 29,.fa 31 24 3,.ln 32 6 31,.cl 33 99 [30,32],.o 34 (.un .not (.s 33))] [34] 34 (.r [.o 4 (.mov (.q false))] [4] .ret) (.r [.o 4 (.mov (.q true))] [4] .ret))))))⟩
theorem Zb20:tbl 20=some Zbk8:=Zc Tryz.func20 (by kernel_rfl) (by kernel_rfl)
def Zbk9:MFun:=⟨2,16,[.tmp 4],.r [.bx 2 0,.bx 3 1,.o 4 (.mov (.q false))] [2,3] (.wc [.fa 5 0 2,.l 6 5,.fa 7 0 3,.l 8 7,.b 9 .neq 6 8] [2,3,9] 9 (.r [.o 4 (.mov (.q false))] [4] .ret) (.wc [.fa 10 1 2,.l 11 10,.fa 12 1 3,.l 13 12,.cl 14 100 [11,13],.o 15 (.un .not (.s 14))] [15] 15 (.r [.o 4 (.mov (.q false))] [4] .ret) (.r [.o 4 (.mov (.q true))] [4] .ret)))⟩
theorem Zb21:tbl 21=some Zbk9:=Zc Tryz.func21 (by kernel_rfl) (by kernel_rfl)
def Zbla:MFun:=⟨2,26,[.tmp 4],.r [.bx 2 0,.mk' 4 0] [1,2] (.r [.fa 5 0 2,.ln 6 6 5,.m 7 1,.o 8 (.icall 103 [.s 6,.s 7]),.m 1 8] [1,2] (.r [.fa 9 6 2,.ln 10 6 9,.m 11 1,.o 12 (.icall 103 [.s 10,.s 11]),.m 1 12] [1,2] (.r [.fa 13 12 2,.ln 14 6 13,.m 15 1,.o 16 (.icall 103 [.s 14,.s 15]),.m 1 16] [1,2] (.r [.fa 17 18 2,.ln 18 6 17,.m 19 1,.o 20 (.icall 103 [.s 18,.s 19]),.m 1 20] [1,2] (.r [.fa 21 24 2,.ln 22 6 21,.m 23 1,.o 24 (.icall 103 [.s 22,.s 23]),.m 1 24] [1] (.r [.m 25 1,.m 4 25] [4] .ret))))))⟩
theorem Zb22:tbl 23=some Zbla:=Zc Tryz.func23 (by kernel_rfl) (by kernel_rfl)
def Zblb:MFun:=⟨2,10,[.tmp 4],.r [.bx 2 0,.mk' 4 0] [1,2] (.r [.fa 5 1 2,.o 6 (.loadU false (.s 5)),.m 7 1,.o 8 (.scall 104 [.s 6,.s 7] (.s 5)),.m 1 8] [1] (.r [.m 9 1,.m 4 9] [4] .ret))⟩
theorem Zb23:tbl 24=some Zblb:=Zc Tryz.func24 (by kernel_rfl) (by kernel_rfl)
def Zoq:MCode :=.we [.m 6 5,.m 7 0,.ll 8 7,.b 9 .lss 6 8] [0,1,5,9] 9 0 (.seq (.block 1 (.r [.m 12 0,.m 13 5,.m 14 1,.ia 15 1 12 13,.st 1 15 14] [0,1,5] (.reg [.m 16 1,.bk 17 .add 16 1,.m 1 17] [0,1,5]))) (.reg [.m 10 5,.bk 11 .add 10 1,.m 5 11] [0,1,5]))
def Zw8:MFun:=⟨2,19,[.tmp 4],.r [.mk' 4 0] [0,1] (.seq (.r [.mk' 5 0] [0,1,5] (.block 0 (.loop [0,1,5] Zoq))) (.r [.m 18 1,.m 4 18] [4] .ret))⟩
theorem Z56:tbl 26=some Zw8:=Zc Tryz.func26 (by kernel_rfl) (by kernel_rfl)
def Zsg:MCode :=.we [.m 6 5,.m 7 0,.ll 8 7,.b 9 .lss 6 8] [0,1,5,9] 9 0 (.seq (.block 1 (.wc [.m 12 0,.m 13 5,.ia 14 1 12 13,.l 15 14,.m 16 1,.b 17 .neq 15 16] [0,1,5,17] 17 (.r [.mk' 4 (-1)] [4] .ret) (.reg [.m 18 1,.bk 19 .add 18 1,.m 1 19] [0,1,5]))) (.reg [.m 10 5,.bk 11 .add 10 1,.m 5 11] [0,1,5]))
def Z57:MFun:=⟨2,21,[.tmp 4],.r [.mk' 4 0] [0,1] (.seq (.r [.mk' 5 0] [0,1,5] (.block 0 (.loop [0,1,5] Zsg))) (.r [.m 20 1,.m 4 20] [4] .ret))⟩
theorem Zblc:tbl 27=some Z57:=Zc Tryz.func27 (by kernel_rfl) (by kernel_rfl)
def Zbld:MFun:=⟨2,12,[.tmp 4],.r [.bx 2 0,.mk' 4 0] [1,2] (.r [.fa 5 0 2,.l 6 5,.m 7 1,.cl 8 107 [6,7],.m 1 8] [1] (.wc [.m 9 1,.bk 10 .lss 9 0] [1,10] 10 (.r [.mk' 4 (-1)] [4] .ret) (.r [.m 11 1,.m 4 11] [4] .ret)))⟩
theorem Zb24:tbl 28=some Zbld:=Zc Tryz.func28 (by kernel_rfl) (by kernel_rfl)
def Zble:MFun:=⟨1,9,[.cell 2 (some 1)],.r [.bx 1 0,.o 2 (.alloc [.t .nil])] [1,2] (.r [.o 3 (.alloc [.t .nil])] [1,2,3] (.r [.fa 4 0 1,.l 5 4,.cl 6 111 [5],.fa 7 0 3,.st 1 7 6] [2,3] (.r [.ln 8 1 3,.st 1 2 8] [2] .ret)))⟩
theorem Zb25:tbl 30=some Zble:=Zc Tryz.func30 (by kernel_rfl) (by kernel_rfl)
def Zblf:MFun:=⟨2,11,[.tmp 4],.r [.bx 2 0,.bx 3 1,.o 4 (.mov (.q false))] [2,3] (.wc [.fa 5 0 2,.l 6 5,.fa 7 0 3,.l 8 7,.cl 9 114 [6,8],.o 10 (.un .not (.s 9))] [10] 10 (.r [.o 4 (.mov (.q false))] [4] .ret) (.r [.o 4 (.mov (.q true))] [4] .ret))⟩
theorem Zb26:tbl 32=some Zblf:=Zc Tryz.func32 (by kernel_rfl) (by kernel_rfl)
def Zblg:MFun:=⟨2,11,[.tmp 4],.r [.bx 2 0,.bx 3 1,.o 4 (.mov (.q false))] [2,3] (.wc [.fa 5 0 2,.l 6 5,.fa 7 0 3,.l 8 7,.cl 9 118 [6,8],.o 10 (.un .not (.s 9))] [10] 10 (.r [.o 4 (.mov (.q false))] [4] .ret) (.r [.o 4 (.mov (.q true))] [4] .ret))⟩
theorem Zb27:tbl 35=some Zblg:=Zc Tryz.func35 (by kernel_rfl) (by kernel_rfl)
def Zblh:MFun:=⟨2,10,[.tmp 4],.r [.bx 2 0,.mk' 4 0] [1,2] (.r [.fa 5 0 2,.o 6 (.loadU false (.s 5)),.m 7 1,.o 8 (.scall 119 [.s 6,.s 7] (.s 5)),.m 1 8] [1] (.r [.m 9 1,.m 4 9] [4] .ret))⟩
theorem Zb28:tbl 36=some Zblh:=Zc Tryz.func36 (by kernel_rfl) (by kernel_rfl)
def Zbli:MFun:=⟨2,10,[.tmp 4],.r [.bx 2 0,.mk' 4 0] [1,2] (.r [.fa 5 0 2,.o 6 (.loadU false (.s 5)),.m 7 1,.o 8 (.scall 120 [.s 6,.s 7] (.s 5)),.m 1 8] [1] (.r [.m 9 1,.m 4 9] [4] .ret))⟩
theorem Zb29:tbl 37=some Zbli:=Zc Tryz.func37 (by kernel_rfl) (by kernel_rfl)
def Zblj:MFun:=⟨2,12,[.tmp 4],.r [.bx 2 0,.mk' 4 0] [1,2] (.r [.fa 5 0 2,.l 6 5,.m 7 1,.cl 8 168 [6,7],.m 1 8] [1] (.wc [.m 9 1,.bk 10 .lss 9 0] [1,10] 10 (.r [.mk' 4 (-1)] [4] .ret) (.r [.m 11 1,.m 4 11] [4] .ret)))⟩
theorem Zb3a:tbl 55=some Zblj:=Zc Tryz.func55 (by kernel_rfl) (by kernel_rfl)
def Zblk:MFun:=⟨1,9,[.cell 2 (some 1)],.r [.bx 1 0,.o 2 (.alloc [.t .nil])] [1,2] (.r [.o 3 (.alloc [.t .nil])] [1,2,3] (.r [.fa 4 0 1,.l 5 4,.cl 6 170 [5],.fa 7 0 3,.st 1 7 6] [2,3] (.r [.ln 8 1 3,.st 1 2 8] [2] .ret)))⟩
theorem Zb3b:tbl 57=some Zblk:=Zc Tryz.func57 (by kernel_rfl) (by kernel_rfl)
def Zbll:MFun:=⟨2,32,[.tmp 4],.r [.bx 2 0,.bx 3 1,.o 4 (.mov (.q false))] [2,3] (.wc [.fa 5 0 2,.l 6 5,.fa 7 0 3,.l 8 7,.o 9 (.beq true (.s 6) (.s 8))] [2,3,9] 9 (.r [.o 4 (.mov (.q false))] [4] .ret) (.wc [.fa 10 1 2,.l 11 10,.fa 12 1 3,.l 13 12,.b 14 .neq 11 13] [2,3,14] 14 (.r [.o 4 (.mov (.q false))] [4] .ret) (.wc [.fa 15 2 2,.l 16 15,.fa 17 2 3,.l 18 17,.b 19 .neq 16 18] [2,3,19] 19 (.r [.o 4 (.mov (.q false))] [4] .ret) (.wc [.fa 20 3 2,.l 21 20,.fa 22 3 3,.l 23 22,.cl 24 172 [21,23],.o 25 (.un .not (.s 24))] [2,3,25] 25 (.r [.o 4 (.mov (.q false))] [4] .ret) (.wc [.fa 26 4 2,.ln 27 2 26,.fa 28 4 3,.ln 29 2 28,.cl 30 173 [27,29],.o 31 (.un .not (.s 30))] [31] 31 (.r [.o 4 (.mov (.q false))] [4] .ret) (.r [.o 4 (.mov (.q true))] [4] .ret))))))⟩
theorem Zb3c:tbl 59=some Zbll:=Zc Tryz.func59 (by kernel_rfl) (by kernel_rfl)
def Zsh:MFun:=⟨2,14,[.tmp 4],.r [.bx 2 0,.mk' 4 0] [1,2] (.r [.fa 5 3 2,.o 6 (.loadU false (.s 5)),.m 7 1,.o 8 (.scall 174 [.s 6,.s 7] (.s 5)),.m 1 8] [1,2] (.r [.fa 9 4 2,.ln 10 2 9,.m 11 1,.o 12 (.icall 175 [.s 10,.s 11]),.m 1 12] [1] (.r [.m 13 1,.m 4 13] [4] .ret)))⟩
theorem Zw9:tbl 60=some Zsh:=Zc Tryz.func60 (by kernel_rfl) (by kernel_rfl)
def Zsi:MFun:=⟨2,18,[.tmp 4],.r [.bx 2 0,.mk' 4 0] [1,2] (.r [.fa 5 3 2,.l 6 5,.m 7 1,.cl 8 176 [6,7],.m 1 8] [1,2] (.wc [.m 9 1,.bk 10 .lss 9 0] [1,2,10] 10 (.r [.mk' 4 (-1)] [4] .ret) (.r [.fa 11 4 2,.ln 12 2 11,.m 13 1,.cl 14 177 [12,13],.m 1 14] [1] (.wc [.m 15 1,.bk 16 .lss 15 0] [1,16] 16 (.r [.mk' 4 (-1)] [4] .ret) (.r [.m 17 1,.m 4 17] [4] .ret)))))⟩
theorem Zxa:tbl 61=some Zsi:=Zc Tryz.func61 (by kernel_rfl) (by kernel_rfl)
def Zblm:MFun:=⟨2,12,[.tmp 4],.r [.mk' 4 0] [0,1] (.r [.m 5 1,.m 6 0,.ll 7 6,.b 8 .sub 5 7,.m 1 8] [1] (.wc [.m 9 1,.bk 10 .lss 9 0] [1,10] 10 (.r [.mk' 4 (-1)] [4] .ret) (.r [.m 11 1,.m 4 11] [4] .ret)))⟩
theorem Zb3d:tbl 69=some Zblm:=Zc Tryz.func69 (by kernel_rfl) (by kernel_rfl)
def Zxb:MCode :=.we [.m 8 4,.m 9 0,.ll 10 9,.b 11 .lss 8 10] [0,3,4,11] 11 0 (.seq (.block 1 (.reg [.m 14 3,.m 15 4,.m 16 0,.m 17 4,.ia 18 2 16 17,.ln 19 2 18,.cl 20 190 [19],.ia 21 2 14 15,.st 2 21 20] [0,3,4])) (.reg [.m 12 4,.bk 13 .add 12 1,.m 4 13] [0,3,4]))
def Zbln:MFun:=⟨1,23,[.tmp 2],.r [.o 2 (.mov (.c (.t .nil)))] [0] (.r [.m 5 0,.ll 6 5,.o 7 (.mkslice 106 2 16 [.z,.z] (.s 6) (.s 6)),.m 3 7] [0,3] (.seq (.r [.mk' 4 0] [0,3,4] (.block 0 (.loop [0,3,4] Zxb))) (.r [.m 22 3,.m 2 22] [2] .ret)))⟩
theorem Zb3e:tbl 70=some Zbln:=Zc Tryz.func70 (by kernel_rfl) (by kernel_rfl)
def Zxc:MCode :=.we [.m 11 5,.m 12 0,.ll 13 12,.b 14 .lss 11 13] [0,1,5,14] 14 0 (.seq (.block 1 (.seq (.drw [.m 17 0,.m 18 5,.ia 19 2 17 18,.ln 20 2 19,.m 21 1,.m 22 5,.ia 23 2 21 22,.ln 24 2 23,.cl 25 191 [20,24],.o 26 (.un .not (.s 25))] [[],[],[0,1],[2],[],[],[4,5],[6],[3,7],[8]] [0,1,5,26]) (.cond (.s 26) (.r [.o 4 (.mov (.q false))] [4] .ret) .skip))) (.reg [.m 15 5,.bk 16 .add 15 1,.m 5 16] [0,1,5]))
def Z58:MFun:=⟨2,27,[.tmp 4],.r [.o 4 (.mov (.q false))] [0,1] (.wc [.m 6 0,.ll 7 6,.m 8 1,.ll 9 8,.b 10 .neq 7 9] [0,1,10] 10 (.r [.o 4 (.mov (.q false))] [4] .ret) (.seq (.r [.mk' 5 0] [0,1,5] (.block 0 (.loop [0,1,5] Zxc))) (.r [.o 4 (.mov (.q true))] [4] .ret)))⟩
theorem Zb3f:tbl 71=some Z58:=Zc Tryz.func71 (by kernel_rfl) (by kernel_rfl)
def Zxd:MCode :=.we [.m 6 5,.m 7 0,.ll 8 7,.b 9 .lss 6 8] [0,1,5,9] 9 0 (.seq (.block 1 (.r [.m 12 0,.m 13 5,.m 14 1,.ia 15 2 12 13,.fa 16 0 15,.st 1 16 14] [0,1,5] (.r [.m 17 1,.bk 18 .add 17 1,.m 1 18] [0,1,5] (.r [.m 19 0,.m 20 5,.m 21 1,.ia 22 2 19 20,.fa 23 1 22,.st 1 23 21] [0,1,5] (.reg [.m 24 1,.bk 25 .add 24 1,.m 1 25] [0,1,5]))))) (.reg [.m 10 5,.bk 11 .add 10 1,.m 5 11] [0,1,5]))
def Zblo:MFun:=⟨2,27,[.tmp 4],.r [.mk' 4 0] [0,1] (.seq (.r [.mk' 5 0] [0,1,5] (.block 0 (.loop [0,1,5] Zxd))) (.r [.m 26 1,.m 4 26] [4] .ret))⟩
theorem Zb3g:tbl 72=some Zblo:=Zc Tryz.func72 (by kernel_rfl) (by kernel_rfl)
def Zxe:MCode :=.we [.m 6 5,.m 7 0,.ll 8 7,.b 9 .lss 6 8] [0,1,5,9] 9 0 (.seq (.block 1 (.wc [.m 12 0,.m 13 5,.ia 14 2 12 13,.fa 15 0 14,.l 16 15,.m 17 1,.b 18 .neq 16 17] [0,1,5,18] 18 (.r [.mk' 4 (-1)] [4] .ret) (.r [.m 19 1,.bk 20 .add 19 1,.m 1 20] [0,1,5] (.wc [.m 21 0,.m 22 5,.ia 23 2 21 22,.fa 24 1 23,.l 25 24,.m 26 1,.b 27 .neq 25 26] [0,1,5,27] 27 (.r [.mk' 4 (-1)] [4] .ret) (.reg [.m 28 1,.bk 29 .add 28 1,.m 1 29] [0,1,5]))))) (.reg [.m 10 5,.bk 11 .add 10 1,.m 5 11] [0,1,5]))
def Zblp:MFun:=⟨2,31,[.tmp 4],.r [.mk' 4 0] [0,1] (.seq (.r [.mk' 5 0] [0,1,5] (.block 0 (.loop [0,1,5] Zxe))) (.r [.m 30 1,.m 4 30] [4] .ret))⟩
theorem Zb3h:tbl 73=some Zblp:=Zc Tryz.func73 (by kernel_rfl) (by kernel_rfl)
def Zblq:MFun:=⟨2,12,[.tmp 4],.r [.bx 2 0,.mk' 4 0] [1,2] (.r [.fa 5 5 2,.l 6 5,.m 7 1,.cl 8 192 [6,7],.m 1 8] [1] (.wc [.m 9 1,.bk 10 .lss 9 0] [1,10] 10 (.r [.mk' 4 (-1)] [4] .ret) (.r [.m 11 1,.m 4 11] [4] .ret)))⟩
theorem Zb3i:tbl 74=some Zblq:=Zc Tryz.func74 (by kernel_rfl) (by kernel_rfl)
def Zln:MCode :=.we [.m 12 5,.m 13 0,.ll 14 13,.b 15 .lss 12 14] [0,1,5,15] 15 0 (.seq (.block 1 (.r [.m 18 0,.m 19 5,.ia 20 2 18 19,.ln 21 2 20,.m 22 1,.cl 23 193 [21,22],.m 1 23] [0,1,5] (.r [.m 24 1,.bk 25 .lss 24 0] [0,1,5,25] (.cond (.s 25) (.r [.mk' 4 (-1)] [4] .ret) .skip)))) (.reg [.m 16 5,.bk 17 .add 16 1,.m 5 17] [0,1,5]))
def Zblr:MFun:=⟨2,27,[.tmp 4],.r [.mk' 4 0] [0,1] (.r [.m 6 1,.m 7 0,.ll 8 7,.b 9 .sub 6 8,.m 1 9] [0,1] (.wc [.m 10 1,.bk 11 .lss 10 0] [0,1,11] 11 (.r [.mk' 4 (-1)] [4] .ret) (.seq (.r [.mk' 5 0] [0,1,5] (.block 0 (.loop [0,1,5] Zln))) (.r [.m 26 1,.m 4 26] [4] .ret))))⟩
theorem Zb3j:tbl 75=some Zblr:=Zc Tryz.func75 (by kernel_rfl) (by kernel_rfl)
def Zbls:MFun:=⟨2,12,[.tmp 4],.r [.mk' 4 0] [0,1] (.r [.m 5 1,.m 6 0,.ll 7 6,.b 8 .sub 5 7,.m 1 8] [1] (.wc [.m 9 1,.bk 10 .lss 9 0] [1,10] 10 (.r [.mk' 4 (-1)] [4] .ret) (.r [.m 11 1,.m 4 11] [4] .ret)))⟩
theorem Zb3k:tbl 76=some Zbls:=Zc Tryz.func76 (by kernel_rfl) (by kernel_rfl)
def Zlo:MCode :=.we [.m 12 5,.m 13 0,.ll 14 13,.b 15 .lss 12 14] [0,1,5,15] 15 0 (.seq (.block 1 (.r [.m 18 0,.m 19 5,.ia 20 1 18 19,.l 21 20,.m 22 1,.cl 23 76 [21,22],.m 1 23] [0,1,5] (.r [.m 24 1,.bk 25 .lss 24 0] [0,1,5,25] (.cond (.s 25) (.r [.mk' 4 (-1)] [4] .ret) .skip)))) (.reg [.m 16 5,.bk 17 .add 16 1,.m 5 17] [0,1,5]))
def Zblt:MFun:=⟨2,27,[.tmp 4],.r [.mk' 4 0] [0,1] (.r [.m 6 1,.m 7 0,.ll 8 7,.b 9 .sub 6 8,.m 1 9] [0,1] (.wc [.m 10 1,.bk 11 .lss 10 0] [0,1,11] 11 (.r [.mk' 4 (-1)] [4] .ret) (.seq (.r [.mk' 5 0] [0,1,5] (.block 0 (.loop [0,1,5] Zlo))) (.r [.m 26 1,.m 4 26] [4] .ret))))⟩
theorem Zb3l:tbl 78=some Zblt:=Zc Tryz.func78 (by kernel_rfl) (by kernel_rfl)
def Zblu:MFun:=⟨1,24,[.cell 2 (some 6)],.r [.bx 1 0,.o 2 (.alloc [.t .z,.t .z,.t .z,.t .z,.t .z,.t .nil])] [1,2] (.r [.o 3 (.alloc [.t .z,.t .z,.t .z,.t .z,.t .z,.t .nil])] [1,2,3] (.r [.fa 4 0 1,.l 5 4,.fa 6 0 3,.st 1 6 5] [1,2,3] (.r [.fa 7 1 1,.l 8 7,.fa 9 1 3,.st 1 9 8] [1,2,3] (.r [.fa 10 2 1,.l 11 10,.fa 12 2 3,.st 1 12 11] [1,2,3] (.r [.fa 13 3 1,.l 14 13,.fa 15 3 3,.st 1 15 14] [1,2,3] (.r [.fa 16 4 1,.l 17 16,.fa 18 4 3,.st 1 18 17] [1,2,3] (.r [.fa 19 5 1,.l 20 19,.cl 21 209 [20],.fa 22 5 3,.st 1 22 21] [2,3] (.r [.ln 23 6 3,.st 6 2 23] [2] .ret))))))))⟩
theorem Zb3m:tbl 89=some Zblu:=Zc Tryz.func89 (by kernel_rfl) (by kernel_rfl)
def Zxf:MCode :=.we [.m 8 4,.m 9 0,.ll 10 9,.b 11 .lss 8 10] [0,3,4,11] 11 0 (.seq (.block 1 (.reg [.m 14 3,.m 15 4,.m 16 0,.m 17 4,.ia 18 2 16 17,.ln 19 2 18,.cl 20 210 [19],.ia 21 2 14 15,.st 2 21 20] [0,3,4])) (.reg [.m 12 4,.bk 13 .add 12 1,.m 4 13] [0,3,4]))
def Zblv:MFun:=⟨1,23,[.tmp 2],.r [.o 2 (.mov (.c (.t .nil)))] [0] (.r [.m 5 0,.ll 6 5,.o 7 (.mkslice 264 2 40 [.str ⟨#[]⟩,.lst 1 []] (.s 6) (.s 6)),.m 3 7] [0,3] (.seq (.r [.mk' 4 0] [0,3,4] (.block 0 (.loop [0,3,4] Zxf))) (.r [.m 22 3,.m 2 22] [2] .ret)))⟩
theorem Zb3n:tbl 90=some Zblv:=Zc Tryz.func90 (by kernel_rfl) (by kernel_rfl)
def Zxg:MCode :=.we [.m 8 4,.m 9 0,.ll 10 9,.b 11 .lss 8 10] [0,3,4,11] 11 0 (.seq (.block 1 (.reg [.m 14 3,.m 15 4,.m 16 0,.m 17 4,.ia 18 1 16 17,.l 19 18,.ia 20 1 14 15,.st 1 20 19] [0,3,4])) (.reg [.m 12 4,.bk 13 .add 12 1,.m 4 13] [0,3,4]))
def Zblw:MFun:=⟨1,22,[.tmp 2],.r [.o 2 (.mov (.c (.t .nil)))] [0] (.r [.m 5 0,.ll 6 5,.o 7 (.mkslice 3 1 8 [.z] (.s 6) (.s 6)),.m 3 7] [0,3] (.seq (.r [.mk' 4 0] [0,3,4] (.block 0 (.loop [0,3,4] Zxg))) (.r [.m 21 3,.m 2 21] [2] .ret)))⟩
theorem Zb3o:tbl 91=some Zblw:=Zc Tryz.func91 (by kernel_rfl) (by kernel_rfl)
def Zxh:MCode :=.we [.m 8 4,.m 9 0,.ll 10 9,.b 11 .lss 8 10] [0,3,4,11] 11 0 (.seq (.block 1 (.reg [.m 14 3,.m 15 4,.m 16 0,.m 17 4,.ia 18 1 16 17,.l 19 18,.cl 20 91 [19],.ia 21 1 14 15,.st 1 21 20] [0,3,4])) (.reg [.m 12 4,.bk 13 .add 12 1,.m 4 13] [0,3,4]))
def Zblx:MFun:=⟨1,23,[.tmp 2],.r [.o 2 (.mov (.c (.t .nil)))] [0] (.r [.m 5 0,.ll 6 5,.o 7 (.mkslice 30 1 24 [.lst 1 []] (.s 6) (.s 6)),.m 3 7] [0,3] (.seq (.r [.mk' 4 0] [0,3,4] (.block 0 (.loop [0,3,4] Zxh))) (.r [.m 22 3,.m 2 22] [2] .ret)))⟩
theorem Zb3p:tbl 93=some Zblx:=Zc Tryz.func93 (by kernel_rfl) (by kernel_rfl)
def Zbly:MFun:=⟨2,36,[.tmp 4],.r [.bx 2 0,.bx 3 1,.o 4 (.mov (.q false))] [2,3] (.wc [.fa 5 0 2,.l 6 5,.fa 7 0 3,.l 8 7,.b 9 .neq 6 8] [2,3,9] 9 (.r [.o 4 (.mov (.q false))] [4] .ret) (.wc [.fa 10 1 2,.l 11 10,.fa 12 1 3,.l 13 12,.b 14 .neq 11 13] [2,3,14] 14 (.r [.o 4 (.mov (.q false))] [4] .ret) (.wc [.fa 15 2 2,.l 16 15,.fa 17 2 3,.l 18 17,.b 19 .neq 16 18] [2,3,19] 19 (.r [.o 4 (.mov (.q false))] [4] .ret) (.wc [.fa 20 3 2,.l 21 20,.fa 22 3 3,.l 23 22,.b 24 .neq 21 23] [2,3,24] 24 (.r [.o 4 (.mov (.q false))] [4] .ret) (.wc [.fa 25 4 2,.l 26 25,.fa 27 4 3,.l 28 27,.b 29 .neq 26 28] [2,3,29] 29 (.r [.o 4 (.mov (.q false))] [4] .ret) (.wc [.fa 30 5 2,.l 31 30,.fa 32 5 3,.l 33 32,.cl 34 219 [31,33],.o 35 (.un .not (.s 34))] [35] 35 (.r [.o 4 (.mov (.q false))] [4] .ret) (.r [.o 4 (.mov (.q true))] [4] .ret)))))))⟩
theorem Zb3q:tbl 99=some Zbly:=Zc Tryz.func99 (by kernel_rfl) (by kernel_rfl)
def Zxi:MCode :=.we [.m 11 5,.m 12 0,.ll 13 12,.b 14 .lss 11 13] [0,1,5,14] 14 0 (.seq (.block 1 (.seq (.drw [.m 17 0,.m 18 5,.ia 19 2 17 18,.ln 20 2 19,.m 21 1,.m 22 5,.ia 23 2 21 22,.ln 24 2 23,.cl 25 220 [20,24],.o 26 (.un .not (.s 25))] [[],[],[0,1],[2],[],[],[4,5],[6],[3,7],[8]] [0,1,5,26]) (.cond (.s 26) (.r [.o 4 (.mov (.q false))] [4] .ret) .skip))) (.reg [.m 15 5,.bk 16 .add 15 1,.m 5 16] [0,1,5]))
def Z59:MFun:=⟨2,27,[.tmp 4],.r [.o 4 (.mov (.q false))] [0,1] (.wc [.m 6 0,.ll 7 6,.m 8 1,.ll 9 8,.b 10 .neq 7 9] [0,1,10] 10 (.r [.o 4 (.mov (.q false))] [4] .ret) (.seq (.r [.mk' 5 0] [0,1,5] (.block 0 (.loop [0,1,5] Zxi))) (.r [.o 4 (.mov (.q true))] [4] .ret)))⟩
theorem Zb3r:tbl 100=some Z59:=Zc Tryz.func100 (by kernel_rfl) (by kernel_rfl)
def Zor:MCode :=.we [.m 11 5,.m 12 0,.ll 13 12,.b 14 .lss 11 13] [0,1,5,14] 14 0 (.seq (.block 1 (.seq (.drw [.m 17 0,.m 18 5,.ia 19 1 17 18,.l 20 19,.m 21 1,.m 22 5,.ia 23 1 21 22,.l 24 23,.cl 25 19 [20,24],.o 26 (.un .not (.s 25))] [[],[],[0,1],[2],[],[],[4,5],[6],[3,7],[8]] [0,1,5,26]) (.cond (.s 26) (.r [.o 4 (.mov (.q false))] [4] .ret) .skip))) (.reg [.m 15 5,.bk 16 .add 15 1,.m 5 16] [0,1,5]))
def Zsj:MFun:=⟨2,27,[.tmp 4],.r [.o 4 (.mov (.q false))] [0,1] (.wc [.m 6 0,.ll 7 6,.m 8 1,.ll 9 8,.b 10 .neq 7 9] [0,1,10] 10 (.r [.o 4 (.mov (.q false))] [4] .ret) (.seq (.r [.mk' 5 0] [0,1,5] (.block 0 (.loop [0,1,5] Zor))) (.r [.o 4 (.mov (.q true))] [4] .ret)))⟩
theorem Z6a:tbl 102=some Zsj:=Zc Tryz.func102 (by kernel_rfl) (by kernel_rfl)
def Zblz:MFun:=⟨2,10,[.tmp 4],.r [.bx 2 0,.mk' 4 0] [1,2] (.r [.fa 5 5 2,.o 6 (.loadU false (.s 5)),.m 7 1,.o 8 (.scall 221 [.s 6,.s 7] (.s 5)),.m 1 8] [1] (.r [.m 9 1,.m 4 9] [4] .ret))⟩
theorem Zb3s:tbl 103=some Zblz:=Zc Tryz.func103 (by kernel_rfl) (by kernel_rfl)
def Zxj:MCode :=.we [.m 6 5,.m 7 0,.ll 8 7,.b 9 .lss 6 8] [0,1,5,9] 9 0 (.seq (.block 1 (.r [.m 12 0,.m 13 5,.m 14 1,.cl 15 222 [14],.ia 16 2 12 13,.fa 17 0 16,.st 1 17 15] [0,1,5] (.r [.m 18 1,.bk 19 .add 18 1,.m 1 19] [0,1,5] (.reg [.m 20 0,.m 21 5,.ia 22 2 20 21,.fa 23 1 22,.o 24 (.loadU false (.s 23)),.m 25 1,.o 26 (.scall 26 [.s 24,.s 25] (.s 23)),.m 1 26] [0,1,5])))) (.reg [.m 10 5,.bk 11 .add 10 1,.m 5 11] [0,1,5]))
def Zbl0:MFun:=⟨2,28,[.tmp 4],.r [.mk' 4 0] [0,1] (.seq (.r [.mk' 5 0] [0,1,5] (.block 0 (.loop [0,1,5] Zxj))) (.r [.m 27 1,.m 4 27] [4] .ret))⟩
theorem Zb3t:tbl 104=some Zbl0:=Zc Tryz.func104 (by kernel_rfl) (by kernel_rfl)
def Zos:MCode :=.we [.m 6 5,.m 7 0,.ll 8 7,.b 9 .lss 6 8] [0,1,5,9] 9 0 (.seq (.block 1 (.reg [.m 12 0,.m 13 5,.ia 14 1 12 13,.o 15 (.loadU false (.s 14)),.m 16 1,.o 17 (.scall 26 [.s 15,.s 16] (.s 14)),.m 1 17] [0,1,5])) (.reg [.m 10 5,.bk 11 .add 10 1,.m 5 11] [0,1,5]))
def Zxk:MFun:=⟨2,19,[.tmp 4],.r [.mk' 4 0] [0,1] (.seq (.r [.mk' 5 0] [0,1,5] (.block 0 (.loop [0,1,5] Zos))) (.r [.m 18 1,.m 4 18] [4] .ret))⟩
theorem Z6b:tbl 106=some Zxk:=Zc Tryz.func106 (by kernel_rfl) (by kernel_rfl)
def Zlp:MCode :=.we [.m 12 5,.m 13 0,.ll 14 13,.b 15 .lss 12 14] [0,1,5,15] 15 0 (.seq (.block 1 (.r [.m 18 0,.m 19 5,.ia 20 3 18 19,.ln 21 3 20,.m 22 1,.cl 23 223 [21,22],.m 1 23] [0,1,5] (.r [.m 24 1,.bk 25 .lss 24 0] [0,1,5,25] (.cond (.s 25) (.r [.mk' 4 (-1)] [4] .ret) .skip)))) (.reg [.m 16 5,.bk 17 .add 16 1,.m 5 17] [0,1,5]))
def Zbl1:MFun:=⟨2,27,[.tmp 4],.r [.mk' 4 0] [0,1] (.r [.m 6 1,.m 7 0,.ll 8 7,.b 9 .sub 6 8,.m 1 9] [0,1] (.wc [.m 10 1,.bk 11 .lss 10 0] [0,1,11] 11 (.r [.mk' 4 (-1)] [4] .ret) (.seq (.r [.mk' 5 0] [0,1,5] (.block 0 (.loop [0,1,5] Zlp))) (.r [.m 26 1,.m 4 26] [4] .ret))))⟩
theorem Zb3u:tbl 107=some Zbl1:=Zc Tryz.func107 (by kernel_rfl) (by kernel_rfl)
def Zxl:MCode :=.we [.m 8 4,.m 9 0,.ll 10 9,.b 11 .lss 8 10] [0,3,4,11] 11 0 (.seq (.block 1 (.reg [.m 14 3,.m 15 4,.m 16 0,.m 17 4,.ia 18 3 16 17,.ln 19 3 18,.cl 20 228 [19],.ia 21 3 14 15,.st 3 21 20] [0,3,4])) (.reg [.m 12 4,.bk 13 .add 12 1,.m 4 13] [0,3,4]))
def Zbl2:MFun:=⟨1,23,[.tmp 2],.r [.o 2 (.mov (.c (.t .nil)))] [0] (.r [.m 5 0,.ll 6 5,.o 7 (.mkslice 277 3 48 [.str ⟨#[]⟩,.z,.lst 1 []] (.s 6) (.s 6)),.m 3 7] [0,3] (.seq (.r [.mk' 4 0] [0,3,4] (.block 0 (.loop [0,3,4] Zxl))) (.r [.m 22 3,.m 2 22] [2] .ret)))⟩
theorem Zb3v:tbl 111=some Zbl2:=Zc Tryz.func111 (by kernel_rfl) (by kernel_rfl)
def Zxm:MCode :=.we [.m 11 5,.m 12 0,.ll 13 12,.b 14 .lss 11 13] [0,1,5,14] 14 0 (.seq (.block 1 (.seq (.drw [.m 17 0,.m 18 5,.ia 19 3 17 18,.ln 20 3 19,.m 21 1,.m 22 5,.ia 23 3 21 22,.ln 24 3 23,.cl 25 233 [20,24],.o 26 (.un .not (.s 25))] [[],[],[0,1],[2],[],[],[4,5],[6],[3,7],[8]] [0,1,5,26]) (.cond (.s 26) (.r [.o 4 (.mov (.q false))] [4] .ret) .skip))) (.reg [.m 15 5,.bk 16 .add 15 1,.m 5 16] [0,1,5]))
def Z6c:MFun:=⟨2,27,[.tmp 4],.r [.o 4 (.mov (.q false))] [0,1] (.wc [.m 6 0,.ll 7 6,.m 8 1,.ll 9 8,.b 10 .neq 7 9] [0,1,10] 10 (.r [.o 4 (.mov (.q false))] [4] .ret) (.seq (.r [.mk' 5 0] [0,1,5] (.block 0 (.loop [0,1,5] Zxm))) (.r [.o 4 (.mov (.q true))] [4] .ret)))⟩
theorem Zb3w:tbl 114=some Z6c:=Zc Tryz.func114 (by kernel_rfl) (by kernel_rfl)
def Zxn:MCode :=.we [.m 11 5,.m 12 0,.ll 13 12,.b 14 .lss 11 13] [0,1,5,14] 14 0 (.seq (.block 1 (.seq (.drw [.m 17 0,.m 18 5,.ia 19 3 17 18,.ln 20 3 19,.m 21 1,.m 22 5,.ia 23 3 21 22,.ln 24 3 23,.cl 25 238 [20,24],.o 26 (.un .not (.s 25))] [[],[],[0,1],[2],[],[],[4,5],[6],[3,7],[8]] [0,1,5,26]) (.cond (.s 26) (.r [.o 4 (.mov (.q false))] [4] .ret) .skip))) (.reg [.m 15 5,.bk 16 .add 15 1,.m 5 16] [0,1,5]))
def Z6d:MFun:=⟨2,27,[.tmp 4],.r [.o 4 (.mov (.q false))] [0,1] (.wc [.m 6 0,.ll 7 6,.m 8 1,.ll 9 8,.b 10 .neq 7 9] [0,1,10] 10 (.r [.o 4 (.mov (.q false))] [4] .ret) (.seq (.r [.mk' 5 0] [0,1,5] (.block 0 (.loop [0,1,5] Zxn))) (.r [.o 4 (.mov (.q true))] [4] .ret)))⟩
theorem Zb3x:tbl 118=some Z6d:=Zc Tryz.func118 (by kernel_rfl) (by kernel_rfl)
def Zxo:MCode :=.we [.m 6 5,.m 7 0,.ll 8 7,.b 9 .lss 6 8] [0,1,5,9] 9 0 (.seq (.block 1 (.r [.m 12 0,.m 13 5,.m 14 1,.cl 15 222 [14],.ia 16 3 12 13,.fa 17 0 16,.st 1 17 15] [0,1,5] (.r [.m 18 1,.bk 19 .add 18 1,.m 1 19] [0,1,5] (.r [.m 20 0,.m 21 5,.m 22 1,.ia 23 3 20 21,.fa 24 1 23,.st 1 24 22] [0,1,5] (.r [.m 25 1,.bk 26 .add 25 1,.m 1 26] [0,1,5] (.reg [.m 27 0,.m 28 5,.ia 29 3 27 28,.fa 30 2 29,.o 31 (.loadU false (.s 30)),.m 32 1,.o 33 (.scall 106 [.s 31,.s 32] (.s 30)),.m 1 33] [0,1,5])))))) (.reg [.m 10 5,.bk 11 .add 10 1,.m 5 11] [0,1,5]))
def Zbl3:MFun:=⟨2,35,[.tmp 4],.r [.mk' 4 0] [0,1] (.seq (.r [.mk' 5 0] [0,1,5] (.block 0 (.loop [0,1,5] Zxo))) (.r [.m 34 1,.m 4 34] [4] .ret))⟩
theorem Zb3y:tbl 119=some Zbl3:=Zc Tryz.func119 (by kernel_rfl) (by kernel_rfl)
def Zxp:MCode :=.we [.m 6 5,.m 7 0,.ll 8 7,.b 9 .lss 6 8] [0,1,5,9] 9 0 (.seq (.block 1 (.r [.m 12 0,.m 13 5,.m 14 1,.ia 15 3 12 13,.fa 16 0 15,.st 1 16 14] [0,1,5] (.r [.m 17 1,.bk 18 .add 17 1,.m 1 18] [0,1,5] (.r [.m 19 0,.m 20 5,.m 21 1,.ia 22 3 19 20,.fa 23 1 22,.st 1 23 21] [0,1,5] (.r [.m 24 1,.bk 25 .add 24 1,.m 1 25] [0,1,5] (.r [.m 26 0,.m 27 5,.m 28 1,.ia 29 3 26 27,.fa 30 2 29,.st 1 30 28] [0,1,5] (.reg [.m 31 1,.bk 32 .add 31 1,.m 1 32] [0,1,5]))))))) (.reg [.m 10 5,.bk 11 .add 10 1,.m 5 11] [0,1,5]))
def Zbl4:MFun:=⟨2,34,[.tmp 4],.r [.mk' 4 0] [0,1] (.seq (.r [.mk' 5 0] [0,1,5] (.block 0 (.loop [0,1,5] Zxp))) (.r [.m 33 1,.m 4 33] [4] .ret))⟩
theorem Zb3z:tbl 120=some Zbl4:=Zc Tryz.func120 (by kernel_rfl) (by kernel_rfl)
def Zbl5:MFun:=⟨2,12,[.tmp 4],.r [.mk' 4 0] [0,1] (.r [.m 5 1,.m 6 0,.ll 7 6,.b 8 .sub 5 7,.m 1 8] [1] (.wc [.m 9 1,.bk 10 .lss 9 0] [1,10] 10 (.r [.mk' 4 (-1)] [4] .ret) (.r [.m 11 1,.m 4 11] [4] .ret)))⟩
theorem Zb30:tbl 168=some Zbl5:=Zc Tryz.func168 (by kernel_rfl) (by kernel_rfl)
def Zxq:MCode :=.we [.m 8 4,.m 9 0,.ll 10 9,.b 11 .lss 8 10] [0,3,4,11] 11 0 (.seq (.block 1 (.reg [.m 14 3,.m 15 4,.m 16 0,.m 17 4,.ia 18 3 16 17,.ln 19 3 18,.cl 20 279 [19],.ia 21 3 14 15,.st 3 21 20] [0,3,4])) (.reg [.m 12 4,.bk 13 .add 12 1,.m 4 13] [0,3,4]))
def Zbl6:MFun:=⟨1,23,[.tmp 2],.r [.o 2 (.mov (.c (.t .nil)))] [0] (.r [.m 5 0,.ll 6 5,.o 7 (.mkslice 194 3 24 [.z,.z,.z] (.s 6) (.s 6)),.m 3 7] [0,3] (.seq (.r [.mk' 4 0] [0,3,4] (.block 0 (.loop [0,3,4] Zxq))) (.r [.m 22 3,.m 2 22] [2] .ret)))⟩
theorem Zb31:tbl 170=some Zbl6:=Zc Tryz.func170 (by kernel_rfl) (by kernel_rfl)
def Zsk:MCode :=.we [.m 11 5,.m 12 0,.ll 13 12,.b 14 .lss 11 13] [0,1,5,14] 14 0 (.seq (.block 1 (.seq (.drw [.m 17 0,.m 18 5,.ia 19 3 17 18,.ln 20 3 19,.m 21 1,.m 22 5,.ia 23 3 21 22,.ln 24 3 23,.cl 25 281 [20,24],.o 26 (.un .not (.s 25))] [[],[],[0,1],[2],[],[],[4,5],[6],[3,7],[8]] [0,1,5,26]) (.cond (.s 26) (.r [.o 4 (.mov (.q false))] [4] .ret) .skip))) (.reg [.m 15 5,.bk 16 .add 15 1,.m 5 16] [0,1,5]))
def Zxr:MFun:=⟨2,27,[.tmp 4],.r [.o 4 (.mov (.q false))] [0,1] (.wc [.m 6 0,.ll 7 6,.m 8 1,.ll 9 8,.b 10 .neq 7 9] [0,1,10] 10 (.r [.o 4 (.mov (.q false))] [4] .ret) (.seq (.r [.mk' 5 0] [0,1,5] (.block 0 (.loop [0,1,5] Zsk))) (.r [.o 4 (.mov (.q true))] [4] .ret)))⟩
theorem Zbl7:tbl 172=some Zxr:=Zc Tryz.func172 (by kernel_rfl) (by kernel_rfl)
def Zbl8:MFun:=⟨2,17,[.tmp 4],.r [.bx 2 0,.bx 3 1,.o 4 (.mov (.q false))] [2,3] (.wc [.fa 5 0 2,.l 6 5,.fa 7 0 3,.l 8 7,.cl 9 19 [6,8],.o 10 (.un .not (.s 9))] [2,3,10] 10 (.r [.o 4 (.mov (.q false))] [4] .ret) (.wc [.fa 11 1 2,.l 12 11,.fa 13 1 3,.l 14 13,.cl 15 102 [12,14],.o 16 (.un .not (.s 15))] [16] 16 (.r [.o 4 (.mov (.q false))] [4] .ret) (.r [.o 4 (.mov (.q true))] [4] .ret)))⟩
theorem Zb32:tbl 173=some Zbl8:=Zc Tryz.func173 (by kernel_rfl) (by kernel_rfl)
def Zsl:MCode :=.we [.m 6 5,.m 7 0,.ll 8 7,.b 9 .lss 6 8] [0,1,5,9] 9 0 (.seq (.block 1 (.r [.m 12 0,.m 13 5,.m 14 1,.ia 15 3 12 13,.fa 16 0 15,.st 1 16 14] [0,1,5] (.r [.m 17 1,.bk 18 .add 17 1,.m 1 18] [0,1,5] (.r [.m 19 0,.m 20 5,.m 21 1,.ia 22 3 19 20,.fa 23 1 22,.st 1 23 21] [0,1,5] (.r [.m 24 1,.bk 25 .add 24 1,.m 1 25] [0,1,5] (.r [.m 26 0,.m 27 5,.m 28 1,.bk 29 .rem 28 3,.bk 30 .eql 29 0,.ia 31 3 26 27,.fa 32 2 31,.st 1 32 30] [0,1,5] (.reg [.m 33 1,.bk 34 .add 33 1,.m 1 34] [0,1,5]))))))) (.reg [.m 10 5,.bk 11 .add 10 1,.m 5 11] [0,1,5]))
def Z6e:MFun:=⟨2,36,[.tmp 4],.r [.mk' 4 0] [0,1] (.seq (.r [.mk' 5 0] [0,1,5] (.block 0 (.loop [0,1,5] Zsl))) (.r [.m 35 1,.m 4 35] [4] .ret))⟩
theorem Zbl9:tbl 174=some Z6e:=Zc Tryz.func174 (by kernel_rfl) (by kernel_rfl)
def Z6f:MFun:=⟨2,14,[.tmp 4],.r [.bx 2 0,.mk' 4 0] [1,2] (.r [.fa 5 0 2,.o 6 (.loadU false (.s 5)),.m 7 1,.o 8 (.scall 26 [.s 6,.s 7] (.s 5)),.m 1 8] [1,2] (.r [.fa 9 1 2,.o 10 (.loadU false (.s 9)),.m 11 1,.o 12 (.scall 106 [.s 10,.s 11] (.s 9)),.m 1 12] [1] (.r [.m 13 1,.m 4 13] [4] .ret)))⟩
theorem Zbma:tbl 175=some Z6f:=Zc Tryz.func175 (by kernel_rfl) (by kernel_rfl)
def Zsm:MCode :=.we [.m 6 5,.m 7 0,.ll 8 7,.b 9 .lss 6 8] [0,1,5,9] 9 0 (.seq (.block 1 (.wc [.m 12 0,.m 13 5,.ia 14 3 12 13,.fa 15 0 14,.l 16 15,.m 17 1,.b 18 .neq 16 17] [0,1,5,18] 18 (.r [.mk' 4 (-1)] [4] .ret) (.r [.m 19 1,.bk 20 .add 19 1,.m 1 20] [0,1,5] (.wc [.m 21 0,.m 22 5,.ia 23 3 21 22,.fa 24 1 23,.l 25 24,.m 26 1,.b 27 .neq 25 26] [0,1,5,27] 27 (.r [.mk' 4 (-1)] [4] .ret) (.r [.m 28 1,.bk 29 .add 28 1,.m 1 29] [0,1,5] (.wc [.m 30 0,.m 31 5,.ia 32 3 30 31,.fa 33 2 32,.l 34 33,.m 35 1,.bk 36 .rem 35 3,.bk 37 .eql 36 0,.o 38 (.beq true (.s 34) (.s 37))] [0,1,5,38] 38 (.r [.mk' 4 (-1)] [4] .ret) (.reg [.m 39 1,.bk 40 .add 39 1,.m 1 40] [0,1,5]))))))) (.reg [.m 10 5,.bk 11 .add 10 1,.m 5 11] [0,1,5]))
def Z6g:MFun:=⟨2,42,[.tmp 4],.r [.mk' 4 0] [0,1] (.seq (.r [.mk' 5 0] [0,1,5] (.block 0 (.loop [0,1,5] Zsm))) (.r [.m 41 1,.m 4 41] [4] .ret))⟩
theorem Zbmb:tbl 176=some Z6g:=Zc Tryz.func176 (by kernel_rfl) (by kernel_rfl)
def Z6h:MFun:=⟨2,18,[.tmp 4],.r [.bx 2 0,.mk' 4 0] [1,2] (.r [.fa 5 0 2,.l 6 5,.m 7 1,.cl 8 27 [6,7],.m 1 8] [1,2] (.wc [.m 9 1,.bk 10 .lss 9 0] [1,2,10] 10 (.r [.mk' 4 (-1)] [4] .ret) (.r [.fa 11 1 2,.l 12 11,.m 13 1,.cl 14 282 [12,13],.m 1 14] [1] (.wc [.m 15 1,.bk 16 .lss 15 0] [1,16] 16 (.r [.mk' 4 (-1)] [4] .ret) (.r [.m 17 1,.m 4 17] [4] .ret)))))⟩
theorem Zbmc:tbl 177=some Z6h:=Zc Tryz.func177 (by kernel_rfl) (by kernel_rfl)
def Zbmd:MFun:=⟨1,11,[.cell 2 (some 2)],.r [.bx 1 0,.o 2 (.alloc [.t .z,.t .z])] [1,2] (.r [.o 3 (.alloc [.t .z,.t .z])] [1,2,3] (.r [.fa 4 0 1,.l 5 4,.fa 6 0 3,.st 1 6 5] [1,2,3] (.r [.fa 7 1 1,.l 8 7,.fa 9 1 3,.st 1 9 8] [2,3] (.r [.ln 10 2 3,.st 2 2 10] [2] .ret))))⟩
theorem Zb33:tbl 190=some Zbmd:=Zc Tryz.func190 (by kernel_rfl) (by kernel_rfl)
def Zbme:MFun:=⟨2,15,[.tmp 4],.r [.bx 2 0,.bx 3 1,.o 4 (.mov (.q false))] [2,3] (.wc [.fa 5 0 2,.l 6 5,.fa 7 0 3,.l 8 7,.b 9 .neq 6 8] [2,3,9] 9 (.r [.o 4 (.mov (.q false))] [4] .ret) (.wc [.fa 10 1 2,.l 11 10,.fa 12 1 3,.l 13 12,.b 14 .neq 11 13] [14] 14 (.r [.o 4 (.mov (.q false))] [4] .ret) (.r [.o 4 (.mov (.q true))] [4] .ret)))⟩
theorem Zb34:tbl 191=some Zbme:=Zc Tryz.func191 (by kernel_rfl) (by kernel_rfl)
def Zbmf:MFun:=⟨2,12,[.tmp 4],.r [.mk' 4 0] [0,1] (.r [.m 5 1,.m 6 0,.ll 7 6,.b 8 .sub 5 7,.m 1 8] [1] (.wc [.m 9 1,.bk 10 .lss 9 0] [1,10] 10 (.r [.mk' 4 (-1)] [4] .ret) (.r [.m 11 1,.m 4 11] [4] .ret)))⟩
theorem Zb35:tbl 192=some Zbmf:=Zc Tryz.func192 (by kernel_rfl) (by kernel_rfl)
def Zbmg:MFun:=⟨2,19,[.tmp 4],.r [.bx 2 0,.mk' 4 0] [1,2] (.r [.m 5 1,.fa 6 0 2,.l 7 6,.o 8 (.len true (.s 7)),.b 9 .sub 5 8,.m 1 9] [1,2] (.wc [.m 10 1,.bk 11 .lss 10 0] [1,2,11] 11 (.r [.mk' 4 (-1)] [4] .ret) (.r [.fa 12 1 2,.l 13 12,.m 14 1,.cl 15 76 [13,14],.m 1 15] [1] (.wc [.m 16 1,.bk 17 .lss 16 0] [1,17] 17 (.r [.mk' 4 (-1)] [4] .ret) (.r [.m 18 1,.m 4 18] [4] .ret)))))⟩
theorem Zb36:tbl 193=some Zbmg:=Zc Tryz.func193 (by kernel_rfl) (by kernel_rfl)
def Zxs:MCode :=.we [.m 8 4,.m 9 0,.ll 10 9,.b 11 .lss 8 10] [0,3,4,11] 11 0 (.seq (.block 1 (.reg [.m 14 3,.m 15 4,.m 16 0,.m 17 4,.ia 18 2 16 17,.ln 19 2 18,.cl 20 294 [19],.ia 21 2 14 15,.st 2 21 20] [0,3,4])) (.reg [.m 12 4,.bk 13 .add 12 1,.m 4 13] [0,3,4]))
def Zbmh:MFun:=⟨1,23,[.tmp 2],.r [.o 2 (.mov (.c (.t .nil)))] [0] (.r [.m 5 0,.ll 6 5,.o 7 (.mkslice 307 2 16 [.z,.z] (.s 6) (.s 6)),.m 3 7] [0,3] (.seq (.r [.mk' 4 0] [0,3,4] (.block 0 (.loop [0,3,4] Zxs))) (.r [.m 22 3,.m 2 22] [2] .ret)))⟩
theorem Zb37:tbl 209=some Zbmh:=Zc Tryz.func209 (by kernel_rfl) (by kernel_rfl)
def Zbmi:MFun:=⟨1,12,[.cell 2 (some 2)],.r [.bx 1 0,.o 2 (.alloc [.t (.str ⟨#[]⟩),.t .nil])] [1,2] (.r [.o 3 (.alloc [.t (.str ⟨#[]⟩),.t .nil])] [1,2,3] (.r [.fa 4 0 1,.l 5 4,.fa 6 0 3,.st 1 6 5] [1,2,3] (.r [.fa 7 1 1,.l 8 7,.cl 9 91 [8],.fa 10 1 3,.st 1 10 9] [2,3] (.r [.ln 11 2 3,.st 2 2 11] [2] .ret))))⟩
theorem Zb38:tbl 210=some Zbmi:=Zc Tryz.func210 (by kernel_rfl) (by kernel_rfl)
def Zxt:MCode :=.we [.m 11 5,.m 12 0,.ll 13 12,.b 14 .lss 11 13] [0,1,5,14] 14 0 (.seq (.block 1 (.seq (.drw [.m 17 0,.m 18 5,.ia 19 2 17 18,.ln 20 2 19,.m 21 1,.m 22 5,.ia 23 2 21 22,.ln 24 2 23,.cl 25 299 [20,24],.o 26 (.un .not (.s 25))] [[],[],[0,1],[2],[],[],[4,5],[6],[3,7],[8]] [0,1,5,26]) (.cond (.s 26) (.r [.o 4 (.mov (.q false))] [4] .ret) .skip))) (.reg [.m 15 5,.bk 16 .add 15 1,.m 5 16] [0,1,5]))
def Z6i:MFun:=⟨2,27,[.tmp 4],.r [.o 4 (.mov (.q false))] [0,1] (.wc [.m 6 0,.ll 7 6,.m 8 1,.ll 9 8,.b 10 .neq 7 9] [0,1,10] 10 (.r [.o 4 (.mov (.q false))] [4] .ret) (.seq (.r [.mk' 5 0] [0,1,5] (.block 0 (.loop [0,1,5] Zxt))) (.r [.o 4 (.mov (.q true))] [4] .ret)))⟩
theorem Zb39:tbl 219=some Z6i:=Zc Tryz.func219 (by kernel_rfl) (by kernel_rfl)
def Zbmj:MFun:=⟨2,16,[.tmp 4],.r [.bx 2 0,.bx 3 1,.o 4 (.mov (.q false))] [2,3] (.wc [.fa 5 0 2,.l 6 5,.fa 7 0 3,.l 8 7,.b 9 .neq 6 8] [2,3,9] 9 (.r [.o 4 (.mov (.q false))] [4] .ret) (.wc [.fa 10 1 2,.l 11 10,.fa 12 1 3,.l 13 12,.cl 14 19 [11,13],.o 15 (.un .not (.s 14))] [15] 15 (.r [.o 4 (.mov (.q false))] [4] .ret) (.r [.o 4 (.mov (.q true))] [4] .ret)))⟩
theorem Zb4a:tbl 220=some Zbmj:=Zc Tryz.func220 (by kernel_rfl) (by kernel_rfl)
def Zxu:MCode :=.we [.m 6 5,.m 7 0,.ll 8 7,.b 9 .lss 6 8] [0,1,5,9] 9 0 (.seq (.block 1 (.r [.m 12 0,.m 13 5,.m 14 1,.ia 15 2 12 13,.fa 16 0 15,.st 1 16 14] [0,1,5] (.r [.m 17 1,.bk 18 .add 17 1,.m 1 18] [0,1,5] (.r [.m 19 0,.m 20 5,.m 21 1,.ia 22 2 19 20,.fa 23 1 22,.st 1 23 21] [0,1,5] (.reg [.m 24 1,.bk 25 .add 24 1,.m 1 25] [0,1,5]))))) (.reg [.m 10 5,.bk 11 .add 10 1,.m 5 11] [0,1,5]))
def Zbmk:MFun:=⟨2,27,[.tmp 4],.r [.mk' 4 0] [0,1] (.seq (.r [.mk' 5 0] [0,1,5] (.block 0 (.loop [0,1,5] Zxu))) (.r [.m 26 1,.m 4 26] [4] .ret))⟩
theorem Zb4b:tbl 221=some Zbmk:=Zc Tryz.func221 (by kernel_rfl) (by kernel_rfl)
def Zsn:MCode :=.we [.m 6 0,.bk 7 .gtr 6 0] [0,3,7] 7 0 (.block 1 (.r [.m 8 0,.bk 9 .rem 8 10,.o 10 (.bin .add (.k 48) (.s 9)),.o 11 (.conv .u8 (.s 10)),.o 12 (.bslice 5 1 1 [.int .u8 0] [(0,.s 11)]),.o 13 (.tostr (.s 12)),.m 14 3,.b 15 .add 13 14,.m 3 15] [0,3] (.reg [.m 16 0,.bk 17 .quo 16 10,.m 0 17] [0,3])))
def Z6j:MFun:=⟨1,20,[.tmp 2],.r [.o 2 (.mov (.c (.t (.str ⟨#[]⟩))))] [0] (.wc [.m 4 0,.bk 5 .leq 4 0] [0,5] 5 (.r [.o 2 (.mov (.c (.t (.str ⟨#[109,48]⟩))))] [2] .ret) (.r [.o 3 (.mov (.c (.t (.str ⟨#[]⟩))))] [0,3] (.seq (.block 0 (.loop [0,3] Zsn)) (.r [.m 18 3,.o 19 (.bin .add (.c (.t (.str ⟨#[109]⟩))) (.s 18)),.m 2 19] [2] .ret))))⟩
theorem Zbml:tbl 222=some Z6j:=Zc Tryz.func222 (by kernel_rfl) (by kernel_rfl)
def Zbmm:MFun:=⟨2,19,[.tmp 4],.r [.bx 2 0,.mk' 4 0] [1,2] (.r [.m 5 1,.fa 6 0 2,.l 7 6,.o 8 (.len true (.s 7)),.b 9 .sub 5 8,.m 1 9] [1,2] (.wc [.m 10 1,.bk 11 .lss 10 0] [1,2,11] 11 (.r [.mk' 4 (-1)] [4] .ret) (.r [.fa 12 2 2,.l 13 12,.m 14 1,.cl 15 78 [13,14],.m 1 15] [1] (.wc [.m 16 1,.bk 17 .lss 16 0] [1,17] 17 (.r [.mk' 4 (-1)] [4] .ret) (.r [.m 18 1,.m 4 18] [4] .ret)))))⟩
theorem Zb4c:tbl 223=some Zbmm:=Zc Tryz.func223 (by kernel_rfl) (by kernel_rfl)
def Zbmn:MFun:=⟨1,15,[.cell 2 (some 3)],.r [.bx 1 0,.o 2 (.alloc [.t (.str ⟨#[]⟩),.t .z,.t .nil])] [1,2] (.r [.o 3 (.alloc [.t (.str ⟨#[]⟩),.t .z,.t .nil])] [1,2,3] (.r [.fa 4 0 1,.l 5 4,.fa 6 0 3,.st 1 6 5] [1,2,3] (.r [.fa 7 1 1,.l 8 7,.fa 9 1 3,.st 1 9 8] [1,2,3] (.r [.fa 10 2 1,.l 11 10,.cl 12 93 [11],.fa 13 2 3,.st 1 13 12] [2,3] (.r [.ln 14 3 3,.st 3 2 14] [2] .ret)))))⟩
theorem Zb4d:tbl 228=some Zbmn:=Zc Tryz.func228 (by kernel_rfl) (by kernel_rfl)
def Zbmo:MFun:=⟨2,21,[.tmp 4],.r [.bx 2 0,.bx 3 1,.o 4 (.mov (.q false))] [2,3] (.wc [.fa 5 0 2,.l 6 5,.fa 7 0 3,.l 8 7,.b 9 .neq 6 8] [2,3,9] 9 (.r [.o 4 (.mov (.q false))] [4] .ret) (.wc [.fa 10 1 2,.l 11 10,.fa 12 1 3,.l 13 12,.b 14 .neq 11 13] [2,3,14] 14 (.r [.o 4 (.mov (.q false))] [4] .ret) (.wc [.fa 15 2 2,.l 16 15,.fa 17 2 3,.l 18 17,.cl 19 102 [16,18],.o 20 (.un .not (.s 19))] [20] 20 (.r [.o 4 (.mov (.q false))] [4] .ret) (.r [.o 4 (.mov (.q true))] [4] .ret))))⟩
theorem Zb4e:tbl 233=some Zbmo:=Zc Tryz.func233 (by kernel_rfl) (by kernel_rfl)
def Zbmp:MFun:=⟨2,20,[.tmp 4],.r [.bx 2 0,.bx 3 1,.o 4 (.mov (.q false))] [2,3] (.wc [.fa 5 0 2,.l 6 5,.fa 7 0 3,.l 8 7,.b 9 .neq 6 8] [2,3,9] 9 (.r [.o 4 (.mov (.q false))] [4] .ret) (.wc [.fa 10 1 2,.l 11 10,.fa 12 1 3,.l 13 12,.b 14 .neq 11 13] [2,3,14] 14 (.r [.o 4 (.mov (.q false))] [4] .ret) (.wc [.fa 15 2 2,.l 16 15,.fa 17 2 3,.l 18 17,.b 19 .neq 16 18] [19] 19 (.r [.o 4 (.mov (.q false))] [4] .ret) (.r [.o 4 (.mov (.q true))] [4] .ret))))⟩
theorem Zb4f:tbl 238=some Zbmp:=Zc Tryz.func238 (by kernel_rfl) (by kernel_rfl)
def Zbmq:MFun:=⟨1,14,[.cell 2 (some 3)],.r [.bx 1 0,.o 2 (.alloc [.t .z,.t .z,.t .z])] [1,2] (.r [.o 3 (.alloc [.t .z,.t .z,.t .z])] [1,2,3] (.r [.fa 4 0 1,.l 5 4,.fa 6 0 3,.st 1 6 5] [1,2,3] (.r [.fa 7 1 1,.l 8 7,.fa 9 1 3,.st 1 9 8] [1,2,3] (.r [.fa 10 2 1,.l 11 10,.fa 12 2 3,.st 1 12 11] [2,3] (.r [.ln 13 3 3,.st 3 2 13] [2] .ret)))))⟩
theorem Zb4g:tbl 279=some Zbmq:=Zc Tryz.func279 (by kernel_rfl) (by kernel_rfl)
def Zbmr:MFun:=⟨2,20,[.tmp 4],.r [.bx 2 0,.bx 3 1,.o 4 (.mov (.q false))] [2,3] (.wc [.fa 5 0 2,.l 6 5,.fa 7 0 3,.l 8 7,.b 9 .neq 6 8] [2,3,9] 9 (.r [.o 4 (.mov (.q false))] [4] .ret) (.wc [.fa 10 1 2,.l 11 10,.fa 12 1 3,.l 13 12,.b 14 .neq 11 13] [2,3,14] 14 (.r [.o 4 (.mov (.q false))] [4] .ret) (.wc [.fa 15 2 2,.l 16 15,.fa 17 2 3,.l 18 17,.o 19 (.beq true (.s 16) (.s 18))] [19] 19 (.r [.o 4 (.mov (.q false))] [4] .ret) (.r [.o 4 (.mov (.q true))] [4] .ret))))⟩
theorem Zb4h:tbl 281=some Zbmr:=Zc Tryz.func281 (by kernel_rfl) (by kernel_rfl)
def Zso:MCode :=.we [.m 6 5,.m 7 0,.ll 8 7,.b 9 .lss 6 8] [0,1,5,9] 9 0 (.seq (.block 1 (.r [.m 12 0,.m 13 5,.ia 14 1 12 13,.l 15 14,.m 16 1,.cl 17 27 [15,16],.m 1 17] [0,1,5] (.r [.m 18 1,.bk 19 .lss 18 0] [0,1,5,19] (.cond (.s 19) (.r [.mk' 4 (-1)] [4] .ret) .skip)))) (.reg [.m 10 5,.bk 11 .add 10 1,.m 5 11] [0,1,5]))
def Z6k:MFun:=⟨2,21,[.tmp 4],.r [.mk' 4 0] [0,1] (.seq (.r [.mk' 5 0] [0,1,5] (.block 0 (.loop [0,1,5] Zso))) (.r [.m 20 1,.m 4 20] [4] .ret))⟩
theorem Zbms:tbl 282=some Z6k:=Zc Tryz.func282 (by kernel_rfl) (by kernel_rfl)
def Zbmt:MFun:=⟨1,11,[.cell 2 (some 2)],.r [.bx 1 0,.o 2 (.alloc [.t .z,.t .z])] [1,2] (.r [.o 3 (.alloc [.t .z,.t .z])] [1,2,3] (.r [.fa 4 0 1,.l 5 4,.fa 6 0 3,.st 1 6 5] [1,2,3] (.r [.fa 7 1 1,.l 8 7,.fa 9 1 3,.st 1 9 8] [2,3] (.r [.ln 10 2 3,.st 2 2 10] [2] .ret))))⟩
theorem Zb4i:tbl 294=some Zbmt:=Zc Tryz.func294 (by kernel_rfl) (by kernel_rfl)
def Zbmu:MFun:=⟨2,15,[.tmp 4],.r [.bx 2 0,.bx 3 1,.o 4 (.mov (.q false))] [2,3] (.wc [.fa 5 0 2,.l 6 5,.fa 7 0 3,.l 8 7,.b 9 .neq 6 8] [2,3,9] 9 (.r [.o 4 (.mov (.q false))] [4] .ret) (.wc [.fa 10 1 2,.l 11 10,.fa 12 1 3,.l 13 12,.b 14 .neq 11 13] [14] 14 (.r [.o 4 (.mov (.q false))] [4] .ret) (.r [.o 4 (.mov (.q true))] [4] .ret)))⟩
theorem Zb4j:tbl 299=some Zbmu:=Zc Tryz.func299 (by kernel_rfl) (by kernel_rfl)
theorem l_toIntS(xs:List Int)(h:SmA xs)(fr:List Fr):∀i,i<=xs.length->EvL C fr [0,3,4] Zxg ⟨[(0,L 1 (xs.map ic)),(3,.own 0),(4,I i)],[[]],[.arr Zb1 1 true (fill ic [.int .i64 0] xs i)]⟩ =
  EvX C fr (.x 0) ⟨[(0,L 1 (xs.map ic)),(3,.own 0),(4,I xs.length),(11,Bo false)],[[]],[.arr Zb1 1 true (xs.map ic)]⟩:=by
 have hl:xs.length<=4294967296:=h;refine down xs.length ?_ ?_
 .rw[Zd Zxg.eq_1];simp[Zjn]
 .intro i hi ih;rw[Zd Zxg.eq_1,<-ih];have h1:=Zjp (f:=ic) (z:=[.int .i64 0]) hi;have h3:=Zjo (f:=ic) (z:=[.int .i64 0]) (Yda hi);have h4:IntKind.wrap .i64 ((i:Int)+1)=(i:Int)+1:=Zo (by omega) (by omega);simp at h1;simp[hi,h3,h4,h1]
theorem Zbmv(xs:List Int)(h:SmA xs):C Zbqk [L 1 (xs.map ic)] []=some (.own 0,[.arr Zb1 1 true (xs.map ic)]):=by
 refine run Zb3o rfl ?_;have hl:xs.length<=4294967296:=h;have h1:∀b,b<=4096->xs.length*b<=room:=λb hb=>Yo (Yby hl hb) (by decide)
 have h2:(xs.length:Int)<=140737488355328:=by omega
 have h3:=λfr=>l_toIntS xs h fr 0 (Yb _)
 simp[Zjm]at h3;simp[Zblw,h1,h2,h3]
theorem l_eqIntS(xs ys:List Int)(h:SmA xs)(hl:ys.length=xs.length)(fr:List Fr):∀i,i<=xs.length->EvL C fr [0,1,5] Zsf ⟨[(0,L 1 (xs.map ic)),(1,L 1 (ys.map ic)),(5,I i)],[[]],[]⟩ =
  if xs.drop i=ys.drop i then EvX C fr (.x 0) ⟨[(0,L 1 (xs.map ic)),(1,L 1 (ys.map ic)),(5,I xs.length),(14,Bo false)],[[]],[]⟩else EvX C fr .r ⟨[(4,Bo false)],[[]],[]⟩:=by
 have hm:xs.length<=4294967296:=h;refine down xs.length ?_ ?_
 .rw[Zd Zsf.eq_1];simp[hl,Yb5]
 .intro i hi ih;have hi2:i<ys.length:=by omega
  have h4:IntKind.wrap .i64 ((i:Int)+1)=(i:Int)+1:=Zo (by omega) (by omega);rw[Zd Zsf.eq_1];simp +decide[hi,hi2,h4];simp at ih;simp only[Zh8 hi hi2,ih];split<;>first|(simp_all;done)|grind
theorem Z6l(xs ys:List Int)(h:SmA xs):C Zy4 [L 1 (xs.map ic),L 1 (ys.map ic)] []=some (Bo (decide (xs=ys)),[]):=by
 refine run Zbk7 rfl ?_;by_cases hl:ys.length=xs.length
 .have h3:=λfr=>l_eqIntS xs ys h hl fr 0 (Yb _)
  simp at h3;simp[Zw7,h3,hl];split<;>simp_all
 .have h1:xs≠ys:=λh=>hl (by rw[h])
  have h2:¬((xs.length:Int)=ys.length):=by omega
  simp[Zw7,h1,h2]
@[simp] theorem Zbmw(es:List (List T))(left:Int):C Zbqg [L 1 es,I left] []=some (I (sz1 es.length left),[]):=by
 refine run Zb3k rfl ?_;simp[Zbls,sz1];split<;>simp_all
theorem Zb4k(xs:List (List Int))(h:SmL SmA xs)(fr:List Fr):∀i,i<=xs.length->EvL C fr [0,3,4] Zxh ⟨[(0,L 1 (xs.map isc)),(3,.own 0),(4,I i)],[[]],[.arr Zma 1 true (fill isc [.lst 1 []] xs i)]⟩ =
  EvX C fr (.x 0) ⟨[(0,L 1 (xs.map isc)),(3,.own 0),(4,I xs.length),(11,Bo false)],[[]],[.arr Zma 1 true (xs.map isc)]⟩:=by
 have hl:xs.length<=4294967296:=h.1;refine down xs.length ?_ ?_
 .rw[Zd Zxh.eq_1];simp[Zjn]
 .intro i hi ih;rw[Zd Zxh.eq_1,<-ih];have h1:=Zjp (f:=isc) (z:=[.lst 1 []]) hi;have h3:=Zjo (f:=isc) (z:=[.lst 1 []]) (Yda hi);have h4:IntKind.wrap .i64 ((i:Int)+1)=(i:Int)+1:=Zo (by omega) (by omega);simp at h1;simp[hi,Zbmv _ (h.2 _ (Yd hi)),h3,h4,h1]
theorem Zb4l(xs:List (List Int))(h:SmL SmA xs):C Zbql [L 1 (xs.map isc)] []=some (.own 0,[.arr Zma 1 true (xs.map isc)]):=by
 refine run Zb3p rfl ?_;have hl:xs.length<=4294967296:=h.1;have h1:∀b,b<=4096->xs.length*b<=room:=λb hb=>Yo (Yby hl hb) (by decide)
 have h2:(xs.length:Int)<=140737488355328:=by omega
 have h3:=λfr=>Zb4k xs h fr 0 (Yb _)
 simp[Zjm]at h3;simp[Zblx,h1,h2,h3]
theorem Zb4m(xs ys:List (List Int))(h:SmL SmA xs)(hl:ys.length=xs.length)(fr:List Fr):∀i,i<=xs.length->EvL C fr [0,1,5] Zor ⟨[(0,L 1 (xs.map isc)),(1,L 1 (ys.map isc)),(5,I i)],[[]],[]⟩ =
  if xs.drop i=ys.drop i then EvX C fr (.x 0) ⟨[(0,L 1 (xs.map isc)),(1,L 1 (ys.map isc)),(5,I xs.length),(14,Bo false)],[[]],[]⟩else EvX C fr .r ⟨[(4,Bo false)],[[]],[]⟩:=by
 have hm:xs.length<=4294967296:=h.1;refine down xs.length ?_ ?_
 .rw[Zd Zor.eq_1];simp[hl,Yb5]
 .intro i hi ih;have hi2:i<ys.length:=by omega
  have h4:IntKind.wrap .i64 ((i:Int)+1)=(i:Int)+1:=Zo (by omega) (by omega);rw[Zd Zor.eq_1];simp +decide[hi,hi2,Z6l _ _ (h.2 _ (Yd hi)),h4];simp at ih;simp only[Zh8 hi hi2,ih];split<;>first|(simp_all;done)|grind
theorem Zbmx(xs ys:List (List Int))(h:SmL SmA xs):C Zt0 [L 1 (xs.map isc),L 1 (ys.map isc)] []=some (Bo (decide (xs=ys)),[]):=by
 refine run Z6a rfl ?_;by_cases hl:ys.length=xs.length
 .have h3:=λfr=>Zb4m xs ys h hl fr 0 (Yb _)
  simp at h3;simp[Zsj,h3,hl];split<;>simp_all
 .have h1:xs≠ys:=λh=>hl (by rw[h])
  have h2:¬((xs.length:Int)=ys.length):=by omega
  simp[Zsj,h1,h2]
theorem Zb4n(xs:List (List Int))(h:OkL (OkL OkI) xs)(fr:List Fr):∀i,i<=xs.length->∀left:Int,
  (EvL C fr [0,1,5] Zlo ⟨[(0,L 1 (xs.map isc)),(1,I left),(5,I i)],[[]],[]⟩=EvX C fr .r ⟨[(4,I (-1))],[[]],[]⟩/\Zcd szI (xs.drop i) left=-1)\/
  EvL C fr [0,1,5] Zlo ⟨[(0,L 1 (xs.map isc)),(1,I left),(5,I i)],[[]],[]⟩=EvX C fr (.x 0) ⟨[(0,L 1 (xs.map isc)),(1,I (Zcd szI (xs.drop i) left)),(5,I xs.length),(15,Bo false)],[[]],[]⟩:=by
 have hm:maxLen<=9223372036854775807:=by decide
 have hl:=h.1;refine down xs.length ?_ ?_
 .intro left;right;rw[Zd Zlo.eq_1];simp[Yb5,Zcd]
 .intro i hi ih left;have h4:IntKind.wrap .i64 ((i:Int)+1)=(i:Int)+1:=Zo (by omega) (by omega);have e:EvL C fr [0,1,5] Zlo ⟨[(0,L 1 (xs.map isc)),(1,I left),(5,I i)],[[]],[]⟩=if szI xs[i] left<0 then EvX C fr .r ⟨[(4,I (-1))],[[]],[]⟩else EvL C fr [0,1,5] Zlo ⟨[(0,L 1 (xs.map isc)),(1,I (szI xs[i] left)),(5,I ((i+1:Nat):Int))],[[]],[]⟩:=by
   rw[Zd Zlo.eq_1];simp[hi,Zbmw,h4]
  rw[e,Yh hi,Zcd];split
  .exact .inl ⟨rfl,rfl⟩
  .exact ih _
theorem Zb4o(xs:List (List Int))(left:Int)(h:OkL (OkL OkI) xs):C Zbqh [L 1 (xs.map isc),I left] []=some (I (szL szI xs left),[]):=by
 refine run Zb3l rfl ?_;have h3:=λfr l=>Zb4n xs h fr 0 (Yb _) l
 simp at h3;simp[Zblt,szL,Zy,sz1];split
 .simp_all
 .rcases h3 [.blk 0,.seq _,.fin _ _] (IntKind.wrap .i64 (left-xs.length))with⟨h5,h6⟩|h5
  .rw[h5];simp[h6]
  .rw[h5];simp
theorem Zb4p(x0:ByteArray)(x1:Int)(x2:List (List Int))(h2:SmL SmA x2):C Zbq9 [.agg [.t (.str x0),I x1,.t (tII x2)]] []=some (.agg [.t (.str x0),I x1,.own 0],[.arr Zma 1 true (x2.map isc)]):=by
 refine run Zb4d rfl ?_;simp[Zbmn,Zb4l _ h2]
theorem Zb4q(x0:ByteArray)(x1:Int)(x2:List (List Int))(y0:ByteArray)(y1:Int)(y2:List (List Int))(h2:SmL SmA x2):C Zbra [.agg [.t (.str x0),I x1,.t (tII x2)],.agg [.t (.str y0),I y1,.t (tII y2)]] []=some (Bo (decide (x0=y0/\x1=y1/\x2=y2)),[]):=by
 refine run Zb4e rfl ?_;simp[Zbmo,Zbmx _ _ h2]
 repeat' split
 all_goals first|(simp_all;done)|grind
theorem Zb4r(x0:ByteArray)(x1:Int)(x2:List (List Int))(left:Int)(h2:OkL (OkL OkI) x2):C Zbq8 [.agg [.t (.str x0),I x1,.t (tII x2)],I left] []=some (I (Zj.sz ⟨x0,x1,x2⟩ left),[]):=by
 refine run Zb4c rfl ?_;simp[Zbmm,Zb4o _ _ h2,Zj.sz,Zy,sz1]
 repeat' split
 all_goals first|(simp_all;done)|grind
theorem Zb4s(xs:List Zj)(h:SmL Zj.small xs)(fr:List Fr):∀i,i<=xs.length->EvL C fr [0,3,4] Zxl ⟨[(0,L 3 (xs.map Zj.c)),(3,.own 0),(4,I i)],[[]],[.arr Zt3 3 true (fill Zj.c [.str ⟨#[]⟩,.int .i64 0,.lst 1 []] xs i)]⟩ =
  EvX C fr (.x 0) ⟨[(0,L 3 (xs.map Zj.c)),(3,.own 0),(4,I xs.length),(11,Bo false)],[[]],[.arr Zt3 3 true (xs.map Zj.c)]⟩:=by
 have hl:xs.length<=4294967296:=h.1;refine down xs.length ?_ ?_
 .rw[Zd Zxl.eq_1];simp[Zjn]
 .intro i hi ih;rw[Zd Zxl.eq_1,<-ih];have h1:=Zjp (f:=Zj.c) (z:=[.str ⟨#[]⟩,.int .i64 0,.lst 1 []]) hi;have h3:=Zjo (f:=Zj.c) (z:=[.str ⟨#[]⟩,.int .i64 0,.lst 1 []]) (Yda hi);have h4:IntKind.wrap .i64 ((i:Int)+1)=(i:Int)+1:=Zo (by omega) (by omega);simp at h1;simp[hi,Zb4p _ _ _ (h.2 _ (Yd hi)).2,h3,h4,h1]
theorem Zb4t(xs:List Zj)(h:SmL Zj.small xs):C Zbqr [L 3 (xs.map Zj.c)] []=some (.own 0,[.arr Zt3 3 true (xs.map Zj.c)]):=by
 refine run Zb3v rfl ?_;have hl:xs.length<=4294967296:=h.1;have h1:∀b,b<=4096->xs.length*b<=room:=λb hb=>Yo (Yby hl hb) (by decide)
 have h2:(xs.length:Int)<=140737488355328:=by omega
 have h3:=λfr=>Zb4s xs h fr 0 (Yb _)
 simp[Zjm]at h3;simp[Zbl2,h1,h2,h3]
theorem Zb4u(xs ys:List Zj)(h:SmL Zj.small xs)(hl:ys.length=xs.length)(fr:List Fr):∀i,i<=xs.length->EvL C fr [0,1,5] Zxm ⟨[(0,L 3 (xs.map Zj.c)),(1,L 3 (ys.map Zj.c)),(5,I i)],[[]],[]⟩ =
  if xs.drop i=ys.drop i then EvX C fr (.x 0) ⟨[(0,L 3 (xs.map Zj.c)),(1,L 3 (ys.map Zj.c)),(5,I xs.length),(14,Bo false)],[[]],[]⟩else EvX C fr .r ⟨[(4,Bo false)],[[]],[]⟩:=by
 have hm:xs.length<=4294967296:=h.1;refine down xs.length ?_ ?_
 .rw[Zd Zxm.eq_1];simp[hl,Yb5]
 .intro i hi ih;have hi2:i<ys.length:=by omega
  have h4:IntKind.wrap .i64 ((i:Int)+1)=(i:Int)+1:=Zo (by omega) (by omega);rw[Zd Zxm.eq_1];simp +decide[hi,hi2,Zb4q _ _ _ _ _ _ (h.2 _ (Yd hi)).2,h4];simp at ih;simp only[Zh8 hi hi2,ih,Zj.ext_iff];split<;>first|(simp_all;done)|grind
theorem Zb4v(xs ys:List Zj)(h:SmL Zj.small xs):C Zbqs [L 3 (xs.map Zj.c),L 3 (ys.map Zj.c)] []=some (Bo (decide (xs=ys)),[]):=by
 refine run Zb3w rfl ?_;by_cases hl:ys.length=xs.length
 .have h3:=λfr=>Zb4u xs ys h hl fr 0 (Yb _)
  simp at h3;simp[Z6c,h3,hl];split<;>simp_all
 .have h1:xs≠ys:=λh=>hl (by rw[h])
  have h2:¬((xs.length:Int)=ys.length):=by omega
  simp[Z6c,h1,h2]
theorem Zb4w(xs:List Zj)(h:OkL Zj.okay xs)(fr:List Fr):∀i,i<=xs.length->∀left:Int,
  (EvL C fr [0,1,5] Zlp ⟨[(0,L 3 (xs.map Zj.c)),(1,I left),(5,I i)],[[]],[]⟩=EvX C fr .r ⟨[(4,I (-1))],[[]],[]⟩/\Zcd Zj.sz (xs.drop i) left=-1)\/
  EvL C fr [0,1,5] Zlp ⟨[(0,L 3 (xs.map Zj.c)),(1,I left),(5,I i)],[[]],[]⟩=EvX C fr (.x 0) ⟨[(0,L 3 (xs.map Zj.c)),(1,I (Zcd Zj.sz (xs.drop i) left)),(5,I xs.length),(15,Bo false)],[[]],[]⟩:=by
 have hm:maxLen<=9223372036854775807:=by decide
 have hl:=h.1;refine down xs.length ?_ ?_
 .intro left;right;rw[Zd Zlp.eq_1];simp[Yb5,Zcd]
 .intro i hi ih left;have h4:IntKind.wrap .i64 ((i:Int)+1)=(i:Int)+1:=Zo (by omega) (by omega);have e:EvL C fr [0,1,5] Zlp ⟨[(0,L 3 (xs.map Zj.c)),(1,I left),(5,I i)],[[]],[]⟩=if Zj.sz xs[i] left<0 then EvX C fr .r ⟨[(4,I (-1))],[[]],[]⟩else EvL C fr [0,1,5] Zlp ⟨[(0,L 3 (xs.map Zj.c)),(1,I (Zj.sz xs[i] left)),(5,I ((i+1:Nat):Int))],[[]],[]⟩:=by
   rw[Zd Zlp.eq_1];simp[hi,Zb4r _ _ _ _ (h.2 _ (Yd hi)).2.2,h4]
  rw[e,Yh hi,Zcd];split
  .exact .inl ⟨rfl,rfl⟩
  .exact ih _
theorem Zb4x(xs:List Zj)(left:Int)(h:OkL Zj.okay xs):C Zbqq [L 3 (xs.map Zj.c),I left] []=some (I (szL Zj.sz xs left),[]):=by
 refine run Zb3u rfl ?_;have h3:=λfr l=>Zb4w xs h fr 0 (Yb _) l
 simp at h3;simp[Zbl1,szL,Zy,sz1];split
 .simp_all
 .rcases h3 [.blk 0,.seq _,.fin _ _] (IntKind.wrap .i64 (left-xs.length))with⟨h5,h6⟩|h5
  .rw[h5];simp[h6]
  .rw[h5];simp
theorem Zb4y(x0:List Zj)(h0:SmL Zj.small x0):C Zbp1 [.agg [.t (.lst 3 (x0.map Zj.c))]] []=some (.agg [.own 0],[.arr Zt3 3 true (x0.map Zj.c)]):=by
 refine run Zb25 rfl ?_;simp[Zble,Zb4t _ h0]
theorem Zb4z(x0 y0:List Zj)(h0:SmL Zj.small x0):C Zbp2 [.agg [.t (.lst 3 (x0.map Zj.c))],.agg [.t (.lst 3 (y0.map Zj.c))]] []=some (Bo (decide (x0=y0)),[]):=by
 refine run Zb26 rfl ?_;simp[Zblf,Zb4v _ _ h0]
 repeat' split
 all_goals first|(simp_all;done)|grind
theorem Zb40(x0:List Zj)(left:Int)(h0:OkL Zj.okay x0):C Zbp0 [.agg [.t (.lst 3 (x0.map Zj.c))],I left] []=some (I (Zl.sz ⟨x0⟩ left),[]):=by
 refine run Zb24 rfl ?_;simp[Zbld,Zb4x _ _ h0,Zl.sz,Zy,sz1]
 repeat' split
 all_goals first|(simp_all;done)|grind
theorem c_toAtom(x0:ByteArray)(x1:List Int)(h1:SmA x1):C Zbq4 [.agg [.t (.str x0),.t (tI x1)]] []=some (.agg [.t (.str x0),.own 0],[.arr Zb1 1 true (x1.map ic)]):=by
 refine run Zb38 rfl ?_;simp[Zbmi,Zbmv _ h1]
theorem c_eqAtom(x0:ByteArray)(x1:List Int)(y0:ByteArray)(y1:List Int)(h1:SmA x1):C Zbq6 [.agg [.t (.str x0),.t (tI x1)],.agg [.t (.str y0),.t (tI y1)]] []=some (Bo (decide (x0=y0/\x1=y1)),[]):=by
 refine run Zb4a rfl ?_;simp[Zbmj,Z6l _ _ h1]
 repeat' split
 all_goals first|(simp_all;done)|grind
theorem c_szAtom(x0:ByteArray)(x1:List Int)(left:Int) :C Zbq2 [.agg [.t (.str x0),.t (tI x1)],I left] []=some (I (Atom.sz ⟨x0,x1⟩ left),[]):=by
 refine run Zb36 rfl ?_;simp[Zbmg,Zbmw,Atom.sz,Zy,sz1]
 repeat' split
 all_goals first|(simp_all;done)|grind
theorem Zb41(xs:List Atom)(h:SmL Atom.small xs)(fr:List Fr):∀i,i<=xs.length->EvL C fr [0,3,4] Zxf ⟨[(0,L 2 (xs.map Atom.c)),(3,.own 0),(4,I i)],[[]],[.arr Zt2 2 true (fill Atom.c [.str ⟨#[]⟩,.lst 1 []] xs i)]⟩ =
  EvX C fr (.x 0) ⟨[(0,L 2 (xs.map Atom.c)),(3,.own 0),(4,I xs.length),(11,Bo false)],[[]],[.arr Zt2 2 true (xs.map Atom.c)]⟩:=by
 have hl:xs.length<=4294967296:=h.1;refine down xs.length ?_ ?_
 .rw[Zd Zxf.eq_1];simp[Zjn]
 .intro i hi ih;rw[Zd Zxf.eq_1,<-ih];have h1:=Zjp (f:=Atom.c) (z:=[.str ⟨#[]⟩,.lst 1 []]) hi;have h3:=Zjo (f:=Atom.c) (z:=[.str ⟨#[]⟩,.lst 1 []]) (Yda hi);have h4:IntKind.wrap .i64 ((i:Int)+1)=(i:Int)+1:=Zo (by omega) (by omega);simp at h1;simp[hi,c_toAtom _ _ (h.2 _ (Yd hi)).2,h3,h4,h1]
theorem Zb42(xs:List Atom)(h:SmL Atom.small xs):C Zbqj [L 2 (xs.map Atom.c)] []=some (.own 0,[.arr Zt2 2 true (xs.map Atom.c)]):=by
 refine run Zb3n rfl ?_;have hl:xs.length<=4294967296:=h.1;have h1:∀b,b<=4096->xs.length*b<=room:=λb hb=>Yo (Yby hl hb) (by decide)
 have h2:(xs.length:Int)<=140737488355328:=by omega
 have h3:=λfr=>Zb41 xs h fr 0 (Yb _)
 simp[Zjm]at h3;simp[Zblv,h1,h2,h3]
theorem Zb43(xs ys:List Atom)(h:SmL Atom.small xs)(hl:ys.length=xs.length)(fr:List Fr):∀i,i<=xs.length->EvL C fr [0,1,5] Zxi ⟨[(0,L 2 (xs.map Atom.c)),(1,L 2 (ys.map Atom.c)),(5,I i)],[[]],[]⟩ =
  if xs.drop i=ys.drop i then EvX C fr (.x 0) ⟨[(0,L 2 (xs.map Atom.c)),(1,L 2 (ys.map Atom.c)),(5,I xs.length),(14,Bo false)],[[]],[]⟩else EvX C fr .r ⟨[(4,Bo false)],[[]],[]⟩:=by
 have hm:xs.length<=4294967296:=h.1;refine down xs.length ?_ ?_
 .rw[Zd Zxi.eq_1];simp[hl,Yb5]
 .intro i hi ih;have hi2:i<ys.length:=by omega
  have h4:IntKind.wrap .i64 ((i:Int)+1)=(i:Int)+1:=Zo (by omega) (by omega);rw[Zd Zxi.eq_1];simp +decide[hi,hi2,c_eqAtom _ _ _ _ (h.2 _ (Yd hi)).2,h4];simp at ih;simp only[Zh8 hi hi2,ih,Atom.ext_iff];split<;>first|(simp_all;done)|grind
theorem Zb44(xs ys:List Atom)(h:SmL Atom.small xs):C Zbqn [L 2 (xs.map Atom.c),L 2 (ys.map Atom.c)] []=some (Bo (decide (xs=ys)),[]):=by
 refine run Zb3r rfl ?_;by_cases hl:ys.length=xs.length
 .have h3:=λfr=>Zb43 xs ys h hl fr 0 (Yb _)
  simp at h3;simp[Z59,h3,hl];split<;>simp_all
 .have h1:xs≠ys:=λh=>hl (by rw[h])
  have h2:¬((xs.length:Int)=ys.length):=by omega
  simp[Z59,h1,h2]
theorem Zb45(xs:List Atom)(h:OkL Atom.okay xs)(fr:List Fr):∀i,i<=xs.length->∀left:Int,
  (EvL C fr [0,1,5] Zln ⟨[(0,L 2 (xs.map Atom.c)),(1,I left),(5,I i)],[[]],[]⟩=EvX C fr .r ⟨[(4,I (-1))],[[]],[]⟩/\Zcd Atom.sz (xs.drop i) left=-1)\/
  EvL C fr [0,1,5] Zln ⟨[(0,L 2 (xs.map Atom.c)),(1,I left),(5,I i)],[[]],[]⟩=EvX C fr (.x 0) ⟨[(0,L 2 (xs.map Atom.c)),(1,I (Zcd Atom.sz (xs.drop i) left)),(5,I xs.length),(15,Bo false)],[[]],[]⟩:=by
 have hm:maxLen<=9223372036854775807:=by decide
 have hl:=h.1;refine down xs.length ?_ ?_
 .intro left;right;rw[Zd Zln.eq_1];simp[Yb5,Zcd]
 .intro i hi ih left;have h4:IntKind.wrap .i64 ((i:Int)+1)=(i:Int)+1:=Zo (by omega) (by omega);have e:EvL C fr [0,1,5] Zln ⟨[(0,L 2 (xs.map Atom.c)),(1,I left),(5,I i)],[[]],[]⟩=if Atom.sz xs[i] left<0 then EvX C fr .r ⟨[(4,I (-1))],[[]],[]⟩else EvL C fr [0,1,5] Zln ⟨[(0,L 2 (xs.map Atom.c)),(1,I (Atom.sz xs[i] left)),(5,I ((i+1:Nat):Int))],[[]],[]⟩:=by
   rw[Zd Zln.eq_1];simp[hi,c_szAtom,h4]
  rw[e,Yh hi,Zcd];split
  .exact .inl ⟨rfl,rfl⟩
  .exact ih _
theorem Zb46(xs:List Atom)(left:Int)(h:OkL Atom.okay xs):C Zbqf [L 2 (xs.map Atom.c),I left] []=some (I (szL Atom.sz xs left),[]):=by
 refine run Zb3j rfl ?_;have h3:=λfr l=>Zb45 xs h fr 0 (Yb _) l
 simp at h3;simp[Zblr,szL,Zy,sz1];split
 .simp_all
 .rcases h3 [.blk 0,.seq _,.fin _ _] (IntKind.wrap .i64 (left-xs.length))with⟨h5,h6⟩|h5
  .rw[h5];simp[h6]
  .rw[h5];simp
theorem Zb47(x0:Int)(x1:List Atom)(h1:SmL Atom.small x1):C Zbpv [.agg [I x0,.t (.lst 2 (x1.map Atom.c))]] []=some (.agg [I x0,.own 0],[.arr Zt2 2 true (x1.map Atom.c)]):=by
 refine run Zb2z rfl ?_;simp[Zbk6,Zb42 _ h1]
theorem Zb48(x0:Int)(x1:List Atom)(y0:Int)(y1:List Atom)(h1:SmL Atom.small x1):C Zbpx [.agg [I x0,.t (.lst 2 (x1.map Atom.c))],.agg [I y0,.t (.lst 2 (y1.map Atom.c))]] []=some (Bo (decide (x0=y0/\x1=y1)),[]):=by
 refine run Zb21 rfl ?_;simp[Zbk9,Zb44 _ _ h1]
 repeat' split
 all_goals first|(simp_all;done)|grind
theorem Zb49(x0:Int)(x1:List Atom)(left:Int)(h1:OkL Atom.okay x1):C Zbpt [.agg [I x0,.t (.lst 2 (x1.map Atom.c))],I left] []=some (I (Ze.sz ⟨x0,x1⟩ left),[]):=by
 refine run Zb2x rfl ?_;simp[Zbk4,Zb46 _ _ h1,Ze.sz,Zy,sz1]
 repeat' split
 all_goals first|(simp_all;done)|grind
theorem Zb5a(x0 x1:Int) :C Zbre [.agg [I x0,I x1]] []=some (.agg [I x0,I x1],[]):=by
 refine run Zb4i rfl ?_;simp[Zbmt]
theorem Zb5b(x0 x1 y0 y1:Int) :C Zbrf [.agg [I x0,I x1],.agg [I y0,I y1]] []=some (Bo (decide (x0=y0/\x1=y1)),[]):=by
 refine run Zb4j rfl ?_;simp[Zbmu]
 repeat' split
 all_goals first|(simp_all;done)|grind
theorem Zb5c(xs:List Zg)(h:SmA xs)(fr:List Fr):∀i,i<=xs.length->EvL C fr [0,3,4] Zxs ⟨[(0,L 2 (xs.map Zg.c)),(3,.own 0),(4,I i)],[[]],[.arr Zg8 2 true (fill Zg.c [.int .i64 0,.int .i64 0] xs i)]⟩ =
  EvX C fr (.x 0) ⟨[(0,L 2 (xs.map Zg.c)),(3,.own 0),(4,I xs.length),(11,Bo false)],[[]],[.arr Zg8 2 true (xs.map Zg.c)]⟩:=by
 have hl:xs.length<=4294967296:=h;refine down xs.length ?_ ?_
 .rw[Zd Zxs.eq_1];simp[Zjn]
 .intro i hi ih;rw[Zd Zxs.eq_1,<-ih];have h1:=Zjp (f:=Zg.c) (z:=[.int .i64 0,.int .i64 0]) hi;have h3:=Zjo (f:=Zg.c) (z:=[.int .i64 0,.int .i64 0]) (Yda hi);have h4:IntKind.wrap .i64 ((i:Int)+1)=(i:Int)+1:=Zo (by omega) (by omega);simp at h1;simp[hi,Zb5a,h3,h4,h1]
theorem Zb5d(xs:List Zg)(h:SmA xs):C Zbq3 [L 2 (xs.map Zg.c)] []=some (.own 0,[.arr Zg8 2 true (xs.map Zg.c)]):=by
 refine run Zb37 rfl ?_;have hl:xs.length<=4294967296:=h;have h1:∀b,b<=4096->xs.length*b<=room:=λb hb=>Yo (Yby hl hb) (by decide)
 have h2:(xs.length:Int)<=140737488355328:=by omega
 have h3:=λfr=>Zb5c xs h fr 0 (Yb _)
 simp[Zjm]at h3;simp[Zbmh,h1,h2,h3]
theorem Zb5e(xs ys:List Zg)(h:SmA xs)(hl:ys.length=xs.length)(fr:List Fr):∀i,i<=xs.length->EvL C fr [0,1,5] Zxt ⟨[(0,L 2 (xs.map Zg.c)),(1,L 2 (ys.map Zg.c)),(5,I i)],[[]],[]⟩ =
  if xs.drop i=ys.drop i then EvX C fr (.x 0) ⟨[(0,L 2 (xs.map Zg.c)),(1,L 2 (ys.map Zg.c)),(5,I xs.length),(14,Bo false)],[[]],[]⟩else EvX C fr .r ⟨[(4,Bo false)],[[]],[]⟩:=by
 have hm:xs.length<=4294967296:=h;refine down xs.length ?_ ?_
 .rw[Zd Zxt.eq_1];simp[hl,Yb5]
 .intro i hi ih;have hi2:i<ys.length:=by omega
  have h4:IntKind.wrap .i64 ((i:Int)+1)=(i:Int)+1:=Zo (by omega) (by omega);rw[Zd Zxt.eq_1];simp +decide[hi,hi2,Zb5b _ _ _ _ ,h4];simp at ih;simp only[Zh8 hi hi2,ih,Zg.ext_iff];split<;>first|(simp_all;done)|grind
theorem Zb5f(xs ys:List Zg)(h:SmA xs):C Zbq5 [L 2 (xs.map Zg.c),L 2 (ys.map Zg.c)] []=some (Bo (decide (xs=ys)),[]):=by
 refine run Zb39 rfl ?_;by_cases hl:ys.length=xs.length
 .have h3:=λfr=>Zb5e xs ys h hl fr 0 (Yb _)
  simp at h3;simp[Z6i,h3,hl];split<;>simp_all
 .have h1:xs≠ys:=λh=>hl (by rw[h])
  have h2:¬((xs.length:Int)=ys.length):=by omega
  simp[Z6i,h1,h2]
@[simp] theorem Zb5g(es:List (List T))(left:Int):C Zbq1 [L 2 es,I left] []=some (I (sz1 es.length left),[]):=by
 refine run Zb35 rfl ?_;simp[Zbmf,sz1];split<;>simp_all
theorem Zsp(x0 x1 x2 x3 x4:Int)(x5:List Zg)(h5:SmA x5):C Zbqi [.agg [I x0,I x1,I x2,I x3,I x4,.t (.lst 2 (x5.map Zg.c))]] []=some (.agg [I x0,I x1,I x2,I x3,I x4,.own 0],[.arr Zg8 2 true (x5.map Zg.c)]):=by
 refine run Zb3m rfl ?_;simp[Zblu,Zb5d _ h5]
theorem Zsq(x0 x1 x2 x3 x4:Int)(x5:List Zg)(y0 y1 y2 y3 y4:Int)(y5:List Zg)(h5:SmA x5):C Zbqm [.agg [I x0,I x1,I x2,I x3,I x4,.t (.lst 2 (x5.map Zg.c))],.agg [I y0,I y1,I y2,I y3,I y4,.t (.lst 2 (y5.map Zg.c))]] []=some (Bo (decide (x0=y0/\x1=y1/\x2=y2/\x3=y3/\x4=y4/\x5=y5)),[]):=by
 refine run Zb3q rfl ?_;simp[Zbly,Zb5f _ _ h5]
 repeat' split
 all_goals first|(simp_all;done)|grind
theorem Zb5h(x0 x1 x2 x3 x4:Int)(x5:List Zg)(left:Int) :C Zbqe [.agg [I x0,I x1,I x2,I x3,I x4,.t (.lst 2 (x5.map Zg.c))],I left] []=some (I (Zk.sz ⟨x0,x1,x2,x3,x4,x5⟩ left),[]):=by
 refine run Zb3i rfl ?_;simp[Zblq,Zb5g,Zk.sz,Zy,sz1]
 repeat' split
 all_goals first|(simp_all;done)|grind
theorem Zb5i(x0 x1 x2 x3 x4:Int)(x5:List Zg)(x6 x7 x8 x9 x10:Int)(x11:List Zg)(x12 x13 x14 x15 x16:Int)(x17:List Zg)(x18 x19 x20 x21 x22:Int)(x23:List Zg)(x24 x25 x26 x27 x28:Int)(x29:List Zg)(h5:SmA x5)(h11:SmA x11)(h17:SmA x17)(h23:SmA x23)(h29:SmA x29):C Zbpu [.agg [I x0,I x1,I x2,I x3,I x4,.t (.lst 2 (x5.map Zg.c)),I x6,I x7,I x8,I x9,I x10,.t (.lst 2 (x11.map Zg.c)),I x12,I x13,I x14,I x15,I x16,.t (.lst 2 (x17.map Zg.c)),I x18,I x19,I x20,I x21,I x22,.t (.lst 2 (x23.map Zg.c)),I x24,I x25,I x26,I x27,I x28,.t (.lst 2 (x29.map Zg.c))]] []=some (.agg [I x0,I x1,I x2,I x3,I x4,.own 0,I x6,I x7,I x8,I x9,I x10,.own 1,I x12,I x13,I x14,I x15,I x16,.own 2,I x18,I x19,I x20,I x21,I x22,.own 3,I x24,I x25,I x26,I x27,I x28,.own 4],[.arr Zg8 2 true (x5.map Zg.c),.arr Zg8 2 true (x11.map Zg.c),.arr Zg8 2 true (x17.map Zg.c),.arr Zg8 2 true (x23.map Zg.c),.arr Zg8 2 true (x29.map Zg.c)]):=by
 refine run Zb2y rfl ?_;simp[Zbk5,Zsp _ _ _ _ _ _ h5,Zsp _ _ _ _ _ _ h11,Zsp _ _ _ _ _ _ h17,Zsp _ _ _ _ _ _ h23,Zsp _ _ _ _ _ _ h29]
theorem Zb5j(x0 x1 x2 x3 x4:Int)(x5:List Zg)(x6 x7 x8 x9 x10:Int)(x11:List Zg)(x12 x13 x14 x15 x16:Int)(x17:List Zg)(x18 x19 x20 x21 x22:Int)(x23:List Zg)(x24 x25 x26 x27 x28:Int)(x29:List Zg)(y0 y1 y2 y3 y4:Int)(y5:List Zg)(y6 y7 y8 y9 y10:Int)(y11:List Zg)(y12 y13 y14 y15 y16:Int)(y17:List Zg)(y18 y19 y20 y21 y22:Int)(y23:List Zg)(y24 y25 y26 y27 y28:Int)(y29:List Zg)(h5:SmA x5)(h11:SmA x11)(h17:SmA x17)(h23:SmA x23)(h29:SmA x29):C Zbpw [.agg [I x0,I x1,I x2,I x3,I x4,.t (.lst 2 (x5.map Zg.c)),I x6,I x7,I x8,I x9,I x10,.t (.lst 2 (x11.map Zg.c)),I x12,I x13,I x14,I x15,I x16,.t (.lst 2 (x17.map Zg.c)),I x18,I x19,I x20,I x21,I x22,.t (.lst 2 (x23.map Zg.c)),I x24,I x25,I x26,I x27,I x28,.t (.lst 2 (x29.map Zg.c))],.agg [I y0,I y1,I y2,I y3,I y4,.t (.lst 2 (y5.map Zg.c)),I y6,I y7,I y8,I y9,I y10,.t (.lst 2 (y11.map Zg.c)),I y12,I y13,I y14,I y15,I y16,.t (.lst 2 (y17.map Zg.c)),I y18,I y19,I y20,I y21,I y22,.t (.lst 2 (y23.map Zg.c)),I y24,I y25,I y26,I y27,I y28,.t (.lst 2 (y29.map Zg.c))]] []=some (Bo (decide (x0=y0/\x1=y1/\x2=y2/\x3=y3/\x4=y4/\x5=y5/\x6=y6/\x7=y7/\x8=y8/\x9=y9/\x10=y10/\x11=y11/\x12=y12/\x13=y13/\x14=y14/\x15=y15/\x16=y16/\x17=y17/\x18=y18/\x19=y19/\x20=y20/\x21=y21/\x22=y22/\x23=y23/\x24=y24/\x25=y25/\x26=y26/\x27=y27/\x28=y28/\x29=y29)),[]):=by
 refine run Zb20 rfl ?_;simp[Zbk8,Zsq _ _ _ _ _ _ _ _ _ _ _ _ h5,Zsq _ _ _ _ _ _ _ _ _ _ _ _ h11,Zsq _ _ _ _ _ _ _ _ _ _ _ _ h17,Zsq _ _ _ _ _ _ _ _ _ _ _ _ h23,Zsq _ _ _ _ _ _ _ _ _ _ _ _ h29]
 repeat' split
 all_goals first|(simp_all;done)|grind
theorem Zb5k(x0 x1 x2 x3 x4:Int)(x5:List Zg)(x6 x7 x8 x9 x10:Int)(x11:List Zg)(x12 x13 x14 x15 x16:Int)(x17:List Zg)(x18 x19 x20 x21 x22:Int)(x23:List Zg)(x24 x25 x26 x27 x28:Int)(x29:List Zg)(left:Int) :C Zbps [.agg [I x0,I x1,I x2,I x3,I x4,.t (.lst 2 (x5.map Zg.c)),I x6,I x7,I x8,I x9,I x10,.t (.lst 2 (x11.map Zg.c)),I x12,I x13,I x14,I x15,I x16,.t (.lst 2 (x17.map Zg.c)),I x18,I x19,I x20,I x21,I x22,.t (.lst 2 (x23.map Zg.c)),I x24,I x25,I x26,I x27,I x28,.t (.lst 2 (x29.map Zg.c))],I left] []=some (I (Zi.sz ⟨⟨x0,x1,x2,x3,x4,x5⟩,⟨x6,x7,x8,x9,x10,x11⟩,⟨x12,x13,x14,x15,x16,x17⟩,⟨x18,x19,x20,x21,x22,x23⟩,⟨x24,x25,x26,x27,x28,x29⟩⟩ left),[]):=by
 refine run Zb2w rfl ?_;simp[Zbk3,Zb5h,Zi.sz,Zy,sz1]
 repeat' split
 all_goals first|(simp_all;done)|grind
theorem Zb5l(x0 x1 x2:Int) :C Zbrc [.agg [I x0,I x1,I x2]] []=some (.agg [I x0,I x1,I x2],[]):=by
 refine run Zb4g rfl ?_;simp[Zbmq]
theorem Zb5m(x0 x1 x2 y0 y1 y2:Int) :C Zbrb [.agg [I x0,I x1,I x2],.agg [I y0,I y1,I y2]] []=some (Bo (decide (x0=y0/\x1=y1/\x2=y2)),[]):=by
 refine run Zb4f rfl ?_;simp[Zbmp]
 repeat' split
 all_goals first|(simp_all;done)|grind
theorem Zb5n(xs:List Zf)(h:SmA xs)(fr:List Fr):∀i,i<=xs.length->EvL C fr [0,3,4] Zxq ⟨[(0,L 3 (xs.map Zf.c)),(3,.own 0),(4,I i)],[[]],[.arr Zt1 3 true (fill Zf.c [.int .i64 0,.int .i64 0,.int .i64 0] xs i)]⟩ =
  EvX C fr (.x 0) ⟨[(0,L 3 (xs.map Zf.c)),(3,.own 0),(4,I xs.length),(11,Bo false)],[[]],[.arr Zt1 3 true (xs.map Zf.c)]⟩:=by
 have hl:xs.length<=4294967296:=h;refine down xs.length ?_ ?_
 .rw[Zd Zxq.eq_1];simp[Zjn]
 .intro i hi ih;rw[Zd Zxq.eq_1,<-ih];have h1:=Zjp (f:=Zf.c) (z:=[.int .i64 0,.int .i64 0,.int .i64 0]) hi;have h3:=Zjo (f:=Zf.c) (z:=[.int .i64 0,.int .i64 0,.int .i64 0]) (Yda hi);have h4:IntKind.wrap .i64 ((i:Int)+1)=(i:Int)+1:=Zo (by omega) (by omega);simp at h1;simp[hi,Zb5l,h3,h4,h1]
theorem Zb5o(xs:List Zf)(h:SmA xs):C Zbqx [L 3 (xs.map Zf.c)] []=some (.own 0,[.arr Zt1 3 true (xs.map Zf.c)]):=by
 refine run Zb31 rfl ?_;have hl:xs.length<=4294967296:=h;have h1:∀b,b<=4096->xs.length*b<=room:=λb hb=>Yo (Yby hl hb) (by decide)
 have h2:(xs.length:Int)<=140737488355328:=by omega
 have h3:=λfr=>Zb5n xs h fr 0 (Yb _)
 simp[Zjm]at h3;simp[Zbl6,h1,h2,h3]
theorem Zb5p(xs ys:List Zf)(h:SmA xs)(hl:ys.length=xs.length)(fr:List Fr):∀i,i<=xs.length->EvL C fr [0,1,5] Zxn ⟨[(0,L 3 (xs.map Zf.c)),(1,L 3 (ys.map Zf.c)),(5,I i)],[[]],[]⟩ =
  if xs.drop i=ys.drop i then EvX C fr (.x 0) ⟨[(0,L 3 (xs.map Zf.c)),(1,L 3 (ys.map Zf.c)),(5,I xs.length),(14,Bo false)],[[]],[]⟩else EvX C fr .r ⟨[(4,Bo false)],[[]],[]⟩:=by
 have hm:xs.length<=4294967296:=h;refine down xs.length ?_ ?_
 .rw[Zd Zxn.eq_1];simp[hl,Yb5]
 .intro i hi ih;have hi2:i<ys.length:=by omega
  have h4:IntKind.wrap .i64 ((i:Int)+1)=(i:Int)+1:=Zo (by omega) (by omega);rw[Zd Zxn.eq_1];simp +decide[hi,hi2,Zb5m _ _ _ _ _ _ ,h4];simp at ih;simp only[Zh8 hi hi2,ih,Zf.ext_iff];split<;>first|(simp_all;done)|grind
theorem Zb5q(xs ys:List Zf)(h:SmA xs):C Zbqt [L 3 (xs.map Zf.c),L 3 (ys.map Zf.c)] []=some (Bo (decide (xs=ys)),[]):=by
 refine run Zb3x rfl ?_;by_cases hl:ys.length=xs.length
 .have h3:=λfr=>Zb5p xs ys h hl fr 0 (Yb _)
  simp at h3;simp[Z6d,h3,hl];split<;>simp_all
 .have h1:xs≠ys:=λh=>hl (by rw[h])
  have h2:¬((xs.length:Int)=ys.length):=by omega
  simp[Z6d,h1,h2]
@[simp] theorem Zb5r(es:List (List T))(left:Int):C Zbqw [L 3 es,I left] []=some (I (sz1 es.length left),[]):=by
 refine run Zb30 rfl ?_;simp[Zbl5,sz1];split<;>simp_all
theorem c_toPlan(x0:List Zf)(h0:SmA x0):C Zbp7 [.agg [.t (.lst 3 (x0.map Zf.c))]] []=some (.agg [.own 0],[.arr Zt1 3 true (x0.map Zf.c)]):=by
 refine run Zb3b rfl ?_;simp[Zblk,Zb5o _ h0]
theorem c_eqPlan(x0 y0:List Zf)(h0:SmA x0):C Zbp3 [.agg [.t (.lst 3 (x0.map Zf.c))],.agg [.t (.lst 3 (y0.map Zf.c))]] []=some (Bo (decide (x0=y0)),[]):=by
 refine run Zb27 rfl ?_;simp[Zblg,Zb5q _ _ h0]
 repeat' split
 all_goals first|(simp_all;done)|grind
theorem c_szPlan(x0:List Zf)(left:Int) :C Zbp6 [.agg [.t (.lst 3 (x0.map Zf.c))],I left] []=some (I (Plan.sz ⟨x0⟩ left),[]):=by
 refine run Zb3a rfl ?_;simp[Zblj,Zb5r,Plan.sz,Zy,sz1]
 repeat' split
 all_goals first|(simp_all;done)|grind
theorem Zb5s(x0 x1:Int)(x2:Bool)(y0 y1:Int)(y2:Bool) :C Zbrd [.agg [I x0,I x1,Bo x2],.agg [I y0,I y1,Bo y2]] []=some (Bo (decide (x0=y0/\x1=y1/\x2=y2)),[]):=by
 refine run Zb4h rfl ?_;simp[Zbmr]
 repeat' split
 all_goals first|(simp_all;done)|grind
theorem Zb5t(xs ys:List Zh)(h:SmA xs)(hl:ys.length=xs.length)(fr:List Fr):∀i,i<=xs.length->EvL C fr [0,1,5] Zsk ⟨[(0,L 3 (xs.map Zh.c)),(1,L 3 (ys.map Zh.c)),(5,I i)],[[]],[]⟩ =
  if xs.drop i=ys.drop i then EvX C fr (.x 0) ⟨[(0,L 3 (xs.map Zh.c)),(1,L 3 (ys.map Zh.c)),(5,I xs.length),(14,Bo false)],[[]],[]⟩else EvX C fr .r ⟨[(4,Bo false)],[[]],[]⟩:=by
 have hm:xs.length<=4294967296:=h;refine down xs.length ?_ ?_
 .rw[Zd Zsk.eq_1];simp[hl,Yb5]
 .intro i hi ih;have hi2:i<ys.length:=by omega
  have h4:IntKind.wrap .i64 ((i:Int)+1)=(i:Int)+1:=Zo (by omega) (by omega);rw[Zd Zsk.eq_1];simp +decide[hi,hi2,Zb5s _ _ _ _ _ _ ,h4];simp at ih;simp only[Zh8 hi hi2,ih,Zh.ext_iff];split<;>first|(simp_all;done)|grind
theorem Zb5u(xs ys:List Zh)(h:SmA xs):C Zy5 [L 3 (xs.map Zh.c),L 3 (ys.map Zh.c)] []=some (Bo (decide (xs=ys)),[]):=by
 refine run Zbl7 rfl ?_;by_cases hl:ys.length=xs.length
 .have h3:=λfr=>Zb5t xs ys h hl fr 0 (Yb _)
  simp at h3;simp[Zxr,h3,hl];split<;>simp_all
 .have h1:xs≠ys:=λh=>hl (by rw[h])
  have h2:¬((xs.length:Int)=ys.length):=by omega
  simp[Zxr,h1,h2]
theorem c_toKept(x0 x1:Int) :C Zbqz [.agg [I x0,I x1]] []=some (.agg [I x0,I x1],[]):=by
 refine run Zb33 rfl ?_;simp[Zbmd]
theorem c_eqKept(x0 x1 y0 y1:Int) :C Zbq0 [.agg [I x0,I x1],.agg [I y0,I y1]] []=some (Bo (decide (x0=y0/\x1=y1)),[]):=by
 refine run Zb34 rfl ?_;simp[Zbme]
 repeat' split
 all_goals first|(simp_all;done)|grind
theorem Zb5v(xs:List Kept)(h:SmA xs)(fr:List Fr):∀i,i<=xs.length->EvL C fr [0,3,4] Zxb ⟨[(0,L 2 (xs.map Kept.c)),(3,.own 0),(4,I i)],[[]],[.arr Zy7 2 true (fill Kept.c [.int .i64 0,.int .i64 0] xs i)]⟩ =
  EvX C fr (.x 0) ⟨[(0,L 2 (xs.map Kept.c)),(3,.own 0),(4,I xs.length),(11,Bo false)],[[]],[.arr Zy7 2 true (xs.map Kept.c)]⟩:=by
 have hl:xs.length<=4294967296:=h;refine down xs.length ?_ ?_
 .rw[Zd Zxb.eq_1];simp[Zjn]
 .intro i hi ih;rw[Zd Zxb.eq_1,<-ih];have h1:=Zjp (f:=Kept.c) (z:=[.int .i64 0,.int .i64 0]) hi;have h3:=Zjo (f:=Kept.c) (z:=[.int .i64 0,.int .i64 0]) (Yda hi);have h4:IntKind.wrap .i64 ((i:Int)+1)=(i:Int)+1:=Zo (by omega) (by omega);simp at h1;simp[hi,c_toKept,h3,h4,h1]
theorem Zb5w(xs:List Kept)(h:SmA xs):C Zbqa [L 2 (xs.map Kept.c)] []=some (.own 0,[.arr Zy7 2 true (xs.map Kept.c)]):=by
 refine run Zb3e rfl ?_;have hl:xs.length<=4294967296:=h;have h1:∀b,b<=4096->xs.length*b<=room:=λb hb=>Yo (Yby hl hb) (by decide)
 have h2:(xs.length:Int)<=140737488355328:=by omega
 have h3:=λfr=>Zb5v xs h fr 0 (Yb _)
 simp[Zjm]at h3;simp[Zbln,h1,h2,h3]
theorem Zb5x(xs ys:List Kept)(h:SmA xs)(hl:ys.length=xs.length)(fr:List Fr):∀i,i<=xs.length->EvL C fr [0,1,5] Zxc ⟨[(0,L 2 (xs.map Kept.c)),(1,L 2 (ys.map Kept.c)),(5,I i)],[[]],[]⟩ =
  if xs.drop i=ys.drop i then EvX C fr (.x 0) ⟨[(0,L 2 (xs.map Kept.c)),(1,L 2 (ys.map Kept.c)),(5,I xs.length),(14,Bo false)],[[]],[]⟩else EvX C fr .r ⟨[(4,Bo false)],[[]],[]⟩:=by
 have hm:xs.length<=4294967296:=h;refine down xs.length ?_ ?_
 .rw[Zd Zxc.eq_1];simp[hl,Yb5]
 .intro i hi ih;have hi2:i<ys.length:=by omega
  have h4:IntKind.wrap .i64 ((i:Int)+1)=(i:Int)+1:=Zo (by omega) (by omega);rw[Zd Zxc.eq_1];simp +decide[hi,hi2,c_eqKept _ _ _ _ ,h4];simp at ih;simp only[Zh8 hi hi2,ih,Kept.ext_iff];split<;>first|(simp_all;done)|grind
theorem Zbmy(xs ys:List Kept)(h:SmA xs):C Zbqb [L 2 (xs.map Kept.c),L 2 (ys.map Kept.c)] []=some (Bo (decide (xs=ys)),[]):=by
 refine run Zb3f rfl ?_;by_cases hl:ys.length=xs.length
 .have h3:=λfr=>Zb5x xs ys h hl fr 0 (Yb _)
  simp at h3;simp[Z58,h3,hl];split<;>simp_all
 .have h1:xs≠ys:=λh=>hl (by rw[h])
  have h2:¬((xs.length:Int)=ys.length):=by omega
  simp[Z58,h1,h2]
@[simp] theorem Zb5y(es:List (List T))(left:Int):C Zbp9 [L 2 es,I left] []=some (I (sz1 es.length left),[]):=by
 refine run Zb3d rfl ?_;simp[Zblm,sz1];split<;>simp_all
def mkL{α:Type}(f:α->Int->α)(n:α->Nat):List α->Int->List α
 |[],_=>[]
 |x::xs,k=>f x k::mkL f n xs (k+(n x:Int))
def cnL{α:Type}(n:α->Nat):List α->Nat
 |[]=>0
 |x::xs=>n x+cnL n xs
def mkI(xs:List Int)(k:Int):List Int:=mkL (λ_ k=>k) (λ_=>1) xs k
theorem Zbmz(x:Int)(xs:List Int)(k:Int):mkI (x::xs) k=k::mkI xs (k+1):=rfl
theorem Zb5z(e:Nat)(fr:List Fr):∀(xs d:List Int) (k:Int),0<=k->k+(xs.length:Int)<=4611686018427387904->d.length+xs.length<=4294967296->EvL C fr [0,1,5] Zoq ⟨[(0,.own 0),(1,I k),(5,I d.length)],[[(0,.own 0)]],[.xarr e 1 ((d++xs).map ic)]⟩ =
  EvX C fr (.x 0) ⟨[(0,.own 0),(1,I (k+xs.length)),(5,I (d.length+xs.length)),(9,Bo false)],[[(0,.own 0)]],[.xarr e 1 ((d++mkI xs k).map ic)]⟩:=by
 intro xs
 induction xs with
 |nil =>
  intro d k h1 h2 h3;rw[Zd Zoq.eq_1]
  simp[mkI,mkL]
 |cons x xs ih =>
  intro d k h1 h2 h3;simp only[Yr]at h2 h3;have ih':=ih (d++[k]) (k+1) (by omega) (by omega) (by simp;omega);rw[Zd Zoq.eq_1];have g1:IntKind.wrap .i64 ((d.length:Int)+1)=(d.length:Int)+1:=Zo (by omega) (by omega);have g2:IntKind.wrap .i64 (k+1)=k+1:=Zo (by omega) (by omega);have g3:(d.length:Int)<(d.length:Int)+((xs.length:Int)+1):=by omega
  have g4:k+1+(xs.length:Int)=k+((xs.length:Int)+1):=by omega
  have g5:(d.length:Int)+1+(xs.length:Int)=(d.length:Int)+((xs.length:Int)+1):=by omega
  simp[g4,g5]at ih';simp[g1,g2,g3,ih',Zbmz]
theorem Zbm0(e:Nat)(xs:List Int)(k:Int)(h1:0<=k)(h2:k+(xs.length:Int)<=4611686018427387904)(h3:SmA xs):C Zpr [.own 0,I k] [.xarr e 1 (xs.map ic)]=some (I (k+xs.length),[.xarr e 1 ((mkI xs k).map ic)]):=by
 refine runM Z56 rfl ?_;have h4:=λfr=>Zb5z e fr xs [] k h1 h2 (by have:xs.length<=4294967296:=h3;simp;omega)
 simp at h4;simp[Zw8,h4]
theorem Zb50(n:Nat)(k:Int):C Zpr [.t (.lst n []),I k] []=some (I k,[]):=by
 refine run Z56 rfl ?_;simp[Zw8,Zd Zoq.eq_1]
theorem Zb51(k:Int):C Zpr [.t .nil,I k] []=some (I k,[]):=by
 refine run Z56 rfl ?_;simp[Zw8,Zd Zoq.eq_1]
theorem Zb52(fr:List Fr):∀(xs d:List Int) (k:Int),0<=k->k+(xs.length:Int)<=4611686018427387904->d.length+xs.length<=4294967296->EvL C fr [0,1,5] Zsg ⟨[(0,L 1 ((d++mkI xs k).map ic)),(1,I k),(5,I d.length)],[[]],[]⟩ =
  EvX C fr (.x 0) ⟨[(0,L 1 ((d++mkI xs k).map ic)),(1,I (k+xs.length)),(5,I (d.length+xs.length)),(9,Bo false)],[[]],[]⟩:=by
 intro xs
 induction xs with
 |nil =>
  intro d k h1 h2 h3;rw[Zd Zsg.eq_1]
  simp[mkI,mkL]
 |cons x xs ih =>
  intro d k h1 h2 h3;simp only[Yr]at h2 h3;have ih':=ih (d++[k]) (k+1) (by omega) (by omega) (by simp;omega);rw[Zd Zsg.eq_1];have g1:IntKind.wrap .i64 ((d.length:Int)+1)=(d.length:Int)+1:=Zo (by omega) (by omega);have g2:IntKind.wrap .i64 (k+1)=k+1:=Zo (by omega) (by omega);have g3:(d.length:Int)<(d.length:Int)+(((mkI xs (k+1)).length:Int)+1):=by omega
  have g4:k+1+(xs.length:Int)=k+((xs.length:Int)+1):=by omega
  have g5:(d.length:Int)+1+(xs.length:Int)=(d.length:Int)+((xs.length:Int)+1):=by omega
  simp[g4,g5]at ih';simp[g1,g2,g3,ih',Zbmz]
theorem strB_one(x:Int):(strB [x]).size=1:=by simp[strB];rfl
theorem Zb53(fr:List Fr):∀(n:Nat) (k:Int) (out:ByteArray),k.toNat<=n->(out.size:Int)+k<=4611686018427387904->0<=k->∃s,s.size<=out.size+n/\EvL C fr [0,3] Zsn ⟨[(0,I k),(3,.t (.str out))],[[]],[]⟩=EvX C fr (.x 0) ⟨[(0,I 0),(3,.t (.str s)),(7,Bo false)],[[]],[]⟩:=by
 intro n
 induction n with
 |zero =>
  intro k out h1 h2 h3;have:k=0:=by omega
  subst this;rw[Zd Zsn.eq_1]
  exact⟨out,by simp⟩
 |succ n ih =>
  intro k out h1 h2 h3;by_cases h0:k=0
  .subst h0;rw[Zd Zsn.eq_1];exact⟨out,by simp⟩
  have hk:0<k:=by omega
  have e:k.tdiv 10=k / 10:=Int.tdiv_eq_ediv_of_nonneg h3;have e2:IntKind.wrap .i64 (k / 10)=k / 10:=Zo (by omega) (by omega);generalize hx:IntKind.wrap .u8 (IntKind.wrap .i64 (48+k.tmod 10))=x;have s1:=strB_one x;have c:1+out.size<=9223372036854775807:=by omega
  obtain⟨s,hs,hr⟩:=ih (k / 10) (strB [x]++out) (by omega) (by rw[ByteArray.size_append,s1];omega) (by omega);rw[ByteArray.size_append,s1]at hs;refine⟨s,by omega,?_⟩;rw[Zd Zsn.eq_1];simp[hk,hx,s1,c,e,e2,hr]
theorem Zb54(k:Int)(h1:0<=k)(h2:k<=4000000000000000000):∃s,C Zy6 [I k] []=some (.t (.str s),[]):=by
 by_cases h0:k=0
 .subst h0;refine⟨⟨#[109,48]⟩,run Zbml rfl ?_⟩;simp[Z6j]
 .have h3:¬k<=0:=by omega
  obtain⟨s,hs,hr⟩:=Zb53 [.blk 0,.seq (.seq (.reg [⟨some 18,none,.mov (.s 3)⟩,⟨some 19,none,.bin .add (.c (.t (.str ⟨#[109]⟩))) (.s 18)⟩,⟨some 2,none,.mov (.s 19)⟩] [2]) .ret),.fin 0 [.tmp 2]] k.toNat k ⟨#[]⟩ (Yc _) (by simp[ByteArray.size];omega) h1;have c:(⟨#[109]⟩:ByteArray).size+s.size<=9223372036854775807:=by
   have:(⟨#[]⟩:ByteArray).size=0:=rfl;have:(⟨#[109]⟩:ByteArray).size=1:=rfl;omega
  refine⟨⟨#[109]⟩++s,run Zbml rfl ?_⟩;simp at hr;simp[Z6j,h3,hr,c]
noncomputable def mtext(k:Int):ByteArray:=match C Zy6 [I k] []with
 |some (.t (.str s),[])=>s
 |_=>⟨#[]⟩
theorem Zbm1(k:Int)(h1:0<=k)(h2:k<=4000000000000000000):C Zy6 [I k] []=some (.t (.str (mtext k)),[]):=by
 obtain⟨s,h⟩:=Zb54 k h1 h2;have:mtext k=s:=by unfold mtext;rw[h]
 rw[this,h]
end Go.Proofs.YtgnfoghkbpkgjaaGreat
