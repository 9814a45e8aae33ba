/-
  Parts of the proofs for this seat: K FA MP MQ MR MS SP LD.
-/
import Derived.Test.YtgnfoghkbpkgjaaGreatP6
import Derived.Test.YtgnfoghkbpkgjaaGreatP7
import Derived.Test.YtgnfoghkbpkgjaaGreatP16
set_option linter.unusedSimpArgs false
set_option linter.unusedVariables false
set_option maxRecDepth 100000
set_option maxHeartbeats 4000000
namespace Go.Proofs.YtgnfoghkbpkgjaaGreat
open Go.AM
noncomputable section
def Zk0:MFun:=⟨6,214,[.tmp 12],.r [.bx 6 0,.bx 7 1,.bx 8 2,.bx 9 3,.bx 10 4,.o 12 (.mov (.q false))] [5,6,7,8,9,10] (.r [.mk' 13 1048576] [5,6,7,8,9,10,13] (.r [.ln 31 30 6,.m 32 13,.cl 33 11 [31,32],.m 13 33] [5,6,7,8,9,10,13] (.wc [.m 34 13,.bk 35 .lss 34 0] [5,6,7,8,9,10,13,35] 35 (.r [.o 12 (.mov (.q true))] [12] .ret) (.r [.ln 36 1 7,.m 37 13,.cl 38 28 [36,37],.m 13 38] [5,6,7,8,9,10,13] (.wc [.m 39 13,.bk 40 .lss 39 0] [5,6,7,8,9,10,13,40] 40 (.r [.o 12 (.mov (.q true))] [12] .ret) (.r [.ln 41 2 8,.m 42 13,.cl 43 12 [41,42],.m 13 43] [5,6,7,8,9,10,13] (.wc [.m 44 13,.bk 45 .lss 44 0] [5,6,7,8,9,10,13,45] 45 (.r [.o 12 (.mov (.q true))] [12] .ret) (.r [.ln 46 1 9,.m 47 13,.cl 48 55 [46,47],.m 13 48] [5,6,7,8,9,10,13] (.wc [.m 49 13,.bk 50 .lss 49 0] [5,6,7,8,9,10,13,50] 50 (.r [.o 12 (.mov (.q true))] [12] .ret) (.r [.ln 51 2 10,.m 52 13,.cl 53 62 [51,52],.m 13 53] [5,6,7,8,9,10,13] (.wc [.m 54 13,.bk 55 .lss 54 0] [5,6,7,8,9,10,55] 55 (.r [.o 12 (.mov (.q true))] [12] .ret) (.seq (.drw [.ln 57 30 6,.xl 58 15 [57],.ln 59 1 7,.xl 60 30 [59],.ln 61 2 8,.xl 62 16 [61],.ln 63 1 9,.xl 64 57 [63],.ln 65 2 10,.xl 66 64 [65],.m 67 5,.cl 68 63 [58,60,62,64,66,67],.m 56 68,.o 69 (.ext (.s 56) 0),.o 70 (.ext (.s 56) 1),.o 71 (.ext (.s 56) 2),.o 14 (.alloc [.t .nil,.t .nil]),.st 2 14 69,.m 15 70,.m 16 71] [[],[0],[],[2,1],[],[4,3],[],[6,5],[],[8,7],[],[1,3,5,7,9,10,9],[11],[12],[12],[12],[],[16,13,11,0,1,2,3,4,5,6,7,8,9,10,11,12,13,16],[14,17,0,1,2,3,4,5,6,7,8,9,10,11,12,13,14,16,17],[15,18,0,1,2,3,4,5,6,7,8,9,10,11,12,13,14,15,16,17,18]] [5,6,7,8,9,10,14,15,16]) (.r [.ln 72 30 6,.xl 73 15 [72],.o 17 (.alloc [.t .z,.t .z,.t .z,.t .z,.t .z,.t .nil,.t .z,.t .z,.t .z,.t .z,.t .z,.t .nil,.t .z,.t .z,.t .z,.t .z,.t .z,.t .nil,.t .z,.t .z,.t .z,.t .z,.t .z,.t .nil,.t .z,.t .z,.t .z,.t .z,.t .z,.t .nil]),.st 30 17 73] [5,6,7,8,9,10,14,15,16,17] (.r [.ln 74 1 7,.xl 75 30 [74],.o 18 (.alloc [.t .nil]),.st 1 18 75] [5,6,7,8,9,10,14,15,16,17,18] (.r [.ln 76 2 8,.xl 77 16 [76],.o 19 (.alloc [.t .z,.t .nil]),.st 2 19 77] [5,6,7,8,9,10,14,15,16,17,18,19] (.r [.ln 78 1 9,.xl 79 57 [78],.o 20 (.alloc [.t .nil]),.st 1 20 79] [5,6,7,8,9,10,14,15,16,17,18,19,20] (.r [.ln 80 2 10,.xl 81 64 [80],.o 21 (.alloc [.t .nil,.t .nil]),.st 2 21 81] [5,6,7,8,9,10,14,15,16,17,18,19,20,21] (.r [.ln 83 30 17,.ln 84 1 18,.ln 85 2 19,.ln 86 1 20,.ln 87 2 21,.m 88 5,.xl 89 65 [83,84,85,86,87,88],.m 82 89,.o 90 (.ext (.s 82) 0),.o 91 (.ext (.s 82) 1),.o 92 (.ext (.s 82) 2),.o 22 (.alloc [.t .nil,.t .nil]),.st 2 22 90,.m 23 91,.m 24 92] [5,6,7,8,9,10,14,15,16,17,18,19,20,21,22,23,24] (.wc [.ln 93 2 22,.ln 94 2 14,.cl 95 66 [93,94],.o 96 (.un .not (.s 95)),.m 97 96,.h 98 97 (.mov (.s 23)),.h 99 97 (.mov (.s 15)),.h 100 97 (.b .neq 98 99),.o 101 (.pick (.s 97) (.q true) (.s 100)),.m 102 101,.h 103 102 (.mov (.s 24)),.h 104 102 (.mov (.s 16)),.h 105 102 (.beq true (.s 103) (.s 104)),.o 106 (.pick (.s 102) (.q true) (.s 105))] [5,6,7,8,9,10,14,15,16,17,18,19,20,21,22,23,24,106] 106 (.r [.o 12 (.mov (.q false))] [12] .ret) (.seq (.seq (.drw [.ln 107 30 17,.ln 108 30 6,.xl 109 15 [108],.cl 110 20 [107,109],.o 111 (.un .not (.s 110))] [[],[],[1],[0,2,2],[3]] [5,6,7,8,9,10,14,15,16,17,18,19,20,21,22,23,24,111]) (.cond (.s 111) (.r [.o 12 (.mov (.q false))] [12] .ret) .skip)) (.seq (.seq (.drw [.ln 112 1 18,.ln 113 1 7,.xl 114 30 [113],.cl 115 32 [112,114],.o 116 (.un .not (.s 115))] [[],[],[1],[0,2,2],[3]] [5,6,7,8,9,10,14,15,16,17,18,19,20,21,22,23,24,116]) (.cond (.s 116) (.r [.o 12 (.mov (.q false))] [12] .ret) .skip)) (.seq (.seq (.drw [.ln 117 2 19,.ln 118 2 8,.xl 119 16 [118],.cl 120 21 [117,119],.o 121 (.un .not (.s 120))] [[],[],[1],[0,2,2],[3]] [5,6,7,8,9,10,14,15,16,17,18,19,20,21,22,23,24,121]) (.cond (.s 121) (.r [.o 12 (.mov (.q false))] [12] .ret) .skip)) (.seq (.seq (.drw [.ln 122 1 20,.ln 123 1 9,.xl 124 57 [123],.cl 125 35 [122,124],.o 126 (.un .not (.s 125))] [[],[],[1],[0,2,2],[3]] [5,6,7,8,9,10,14,15,16,17,18,19,20,21,22,23,24,126]) (.cond (.s 126) (.r [.o 12 (.mov (.q false))] [12] .ret) .skip)) (.seq (.seq (.drw [.ln 127 2 21,.ln 128 2 10,.xl 129 64 [128],.cl 130 66 [127,129],.o 131 (.un .not (.s 130))] [[],[],[1],[0,2,2],[3]] [5,6,7,8,9,10,14,15,16,17,18,19,20,21,22,23,24,131]) (.cond (.s 131) (.r [.o 12 (.mov (.q false))] [12] .ret) .skip)) (.r [.mk' 25 1] [5,6,7,8,9,10,14,15,16,17,18,19,20,21,22,23,24,25] (.r [.ln 132 30 17,.m 133 25,.o 134 (.icall 23 [.s 132,.s 133]),.m 25 134] [5,6,7,8,9,10,14,15,16,18,19,20,21,22,23,24,25] (.r [.ln 135 1 18,.m 136 25,.o 137 (.icall 36 [.s 135,.s 136]),.m 25 137] [5,6,7,8,9,10,14,15,16,19,20,21,22,23,24,25] (.r [.ln 138 2 19,.m 139 25,.o 140 (.icall 24 [.s 138,.s 139]),.m 25 140] [5,6,7,8,9,10,14,15,16,20,21,22,23,24,25] (.r [.ln 141 1 20,.m 142 25,.o 143 (.icall 37 [.s 141,.s 142]),.m 25 143] [5,6,7,8,9,10,14,15,16,21,22,23,24,25] (.r [.ln 144 2 21,.m 145 25,.o 146 (.icall 67 [.s 144,.s 145]),.m 25 146] [5,6,7,8,9,10,14,15,16,22,23,24,25] (.wc [.m 147 25,.bk 148 .lss 147 0,.m 149 148,.h 150 149 (.ln 2 22),.h 151 149 (.ln 2 14),.h 152 149 (.cl 66 [150,151]),.h 153 149 (.un .not (.s 152)),.o 154 (.pick (.s 149) (.q true) (.s 153)),.m 155 154,.h 156 155 (.mov (.s 23)),.h 157 155 (.mov (.s 15)),.h 158 155 (.b .neq 156 157),.o 159 (.pick (.s 155) (.q true) (.s 158)),.m 160 159,.h 161 160 (.mov (.s 24)),.h 162 160 (.mov (.s 16)),.h 163 160 (.beq true (.s 161) (.s 162)),.o 164 (.pick (.s 160) (.q true) (.s 163))] [5,6,7,8,9,10,14,15,16,22,164] 164 (.r [.o 12 (.mov (.q false))] [12] .ret) (.r [.mk' 26 1] [5,6,7,8,9,10,14,15,16,22,26] (.r [.ln 165 2 22,.m 166 26,.o 167 (.icall 67 [.s 165,.s 166]),.m 26 167] [5,6,7,8,9,10,14,15,16,22,26] (.r [.mk' 27 1] [5,6,7,8,9,10,14,15,16,22,26,27] (.r [.ln 168 2 22,.m 169 27,.cl 170 68 [168,169],.m 27 170] [5,6,7,8,9,10,14,15,16,22,26,27] (.wc [.m 171 27,.bk 172 .lss 171 0] [5,6,7,8,9,10,14,15,16,22,26,27,172] 172 (.r [.o 12 (.mov (.q false))] [12] .ret) (.wc [.m 173 27,.m 174 26,.b 175 .neq 173 174] [5,6,7,8,9,10,14,15,16,22,26,175] 175 (.r [.o 12 (.mov (.q false))] [12] .ret) (.seq (.drw [.ln 177 30 6,.xl 178 15 [177],.ln 179 1 7,.xl 180 30 [179],.ln 181 2 8,.xl 182 16 [181],.ln 183 1 9,.xl 184 57 [183],.ln 185 2 10,.xl 186 64 [185],.m 187 5,.xl 188 65 [178,180,182,184,186,187],.m 176 188,.o 189 (.ext (.s 176) 0),.o 190 (.ext (.s 176) 1),.o 191 (.ext (.s 176) 2),.o 28 (.alloc [.t .nil,.t .nil]),.st 2 28 189,.m 29 190,.m 30 191] [[],[0],[],[2,1],[],[4,3],[],[6,5],[],[8,7],[],[1,3,5,7,9,10,9],[11],[12],[12],[12],[],[16,13,11,0,1,2,3,4,5,6,7,8,9,10,11,12,13,16],[14,17,0,1,2,3,4,5,6,7,8,9,10,11,12,13,14,16,17],[15,18,0,1,2,3,4,5,6,7,8,9,10,11,12,13,14,15,16,17,18]] [14,15,16,22,26,28,29,30]) (.wc [.ln 192 2 28,.ln 193 2 14,.cl 194 66 [192,193],.o 195 (.un .not (.s 194)),.m 196 195,.h 197 196 (.mov (.s 29)),.h 198 196 (.mov (.s 15)),.h 199 196 (.b .neq 197 198),.o 200 (.pick (.s 196) (.q true) (.s 199)),.m 201 200,.h 202 201 (.mov (.s 30)),.h 203 201 (.mov (.s 16)),.h 204 201 (.beq true (.s 202) (.s 203)),.o 205 (.pick (.s 201) (.q true) (.s 204))] [22,26,205] 205 (.r [.o 12 (.mov (.q false))] [12] .ret) (.r [.mk' 27 1] [22,26,27] (.r [.ln 206 2 22,.m 207 27,.cl 208 68 [206,207],.m 27 208] [26,27] (.wc [.m 209 27,.bk 210 .lss 209 0] [26,27,210] 210 (.r [.o 12 (.mov (.q false))] [12] .ret) (.wc [.m 211 27,.m 212 26,.b 213 .neq 211 212] [213] 213 (.r [.o 12 (.mov (.q false))] [12] .ret) (.r [.o 12 (.mov (.q true))] [12] .ret))))))))))))))))))))))))))))))))))))))))))))⟩
theorem Zb08:tbl 9=some Zk0:=Zc Tryz.func9 (by kernel_rfl) (by kernel_rfl)
def Zbjk:MFun:=⟨2,36,[.tmp 4],.r [.bx 2 0,.mk' 4 0] [1,2] (.r [.fa 5 0 2,.ln 6 6 5,.m 7 1,.cl 8 74 [6,7],.m 1 8] [1,2] (.wc [.m 9 1,.bk 10 .lss 9 0] [1,2,10] 10 (.r [.mk' 4 (-1)] [4] .ret) (.r [.fa 11 6 2,.ln 12 6 11,.m 13 1,.cl 14 74 [12,13],.m 1 14] [1,2] (.wc [.m 15 1,.bk 16 .lss 15 0] [1,2,16] 16 (.r [.mk' 4 (-1)] [4] .ret) (.r [.fa 17 12 2,.ln 18 6 17,.m 19 1,.cl 20 74 [18,19],.m 1 20] [1,2] (.wc [.m 21 1,.bk 22 .lss 21 0] [1,2,22] 22 (.r [.mk' 4 (-1)] [4] .ret) (.r [.fa 23 18 2,.ln 24 6 23,.m 25 1,.cl 26 74 [24,25],.m 1 26] [1,2] (.wc [.m 27 1,.bk 28 .lss 27 0] [1,2,28] 28 (.r [.mk' 4 (-1)] [4] .ret) (.r [.fa 29 24 2,.ln 30 6 29,.m 31 1,.cl 32 74 [30,31],.m 1 32] [1] (.wc [.m 33 1,.bk 34 .lss 33 0] [1,34] 34 (.r [.mk' 4 (-1)] [4] .ret) (.r [.m 35 1,.m 4 35] [4] .ret)))))))))))⟩
theorem Zb09:tbl 11=some Zbjk:=Zc Tryz.func11 (by kernel_rfl) (by kernel_rfl)
def Zbjl:MFun:=⟨2,12,[.tmp 4],.r [.bx 2 0,.mk' 4 0] [1,2] (.r [.fa 5 1 2,.l 6 5,.m 7 1,.cl 8 75 [6,7],.m 1 8] [1] (.wc [.m 9 1,.bk 10 .lss 9 0] [1,10] 10 (.r [.mk' 4 (-1)] [4] .ret) (.r [.m 11 1,.m 4 11] [4] .ret)))⟩
theorem Zb1a:tbl 12=some Zbjl:=Zc Tryz.func12 (by kernel_rfl) (by kernel_rfl)
def Zbjm:MFun:=⟨1,25,[.cell 2 (some 30)],.r [.bx 1 0,.o 2 (.alloc [.t .z,.t .z,.t .z,.t .z,.t .z,.t .nil,.t .z,.t .z,.t .z,.t .z,.t .z,.t .nil,.t .z,.t .z,.t .z,.t .z,.t .z,.t .nil,.t .z,.t .z,.t .z,.t .z,.t .z,.t .nil,.t .z,.t .z,.t .z,.t .z,.t .z,.t .nil])] [1,2] (.r [.o 3 (.alloc [.t .z,.t .z,.t .z,.t .z,.t .z,.t .nil,.t .z,.t .z,.t .z,.t .z,.t .z,.t .nil,.t .z,.t .z,.t .z,.t .z,.t .z,.t .nil,.t .z,.t .z,.t .z,.t .z,.t .z,.t .nil,.t .z,.t .z,.t .z,.t .z,.t .z,.t .nil])] [1,2,3] (.r [.fa 4 0 1,.ln 5 6 4,.cl 6 89 [5],.fa 7 0 3,.st 6 7 6] [1,2,3] (.r [.fa 8 6 1,.ln 9 6 8,.cl 10 89 [9],.fa 11 6 3,.st 6 11 10] [1,2,3] (.r [.fa 12 12 1,.ln 13 6 12,.cl 14 89 [13],.fa 15 12 3,.st 6 15 14] [1,2,3] (.r [.fa 16 18 1,.ln 17 6 16,.cl 18 89 [17],.fa 19 18 3,.st 6 19 18] [1,2,3] (.r [.fa 20 24 1,.ln 21 6 20,.cl 22 89 [21],.fa 23 24 3,.st 6 23 22] [2,3] (.r [.ln 24 30 3,.st 30 2 24] [2] .ret)))))))⟩
theorem Zb1b:tbl 15=some Zbjm:=Zc Tryz.func15 (by kernel_rfl) (by kernel_rfl)
def Zbjn:MFun:=⟨1,12,[.cell 2 (some 2)],.r [.bx 1 0,.o 2 (.alloc [.t .z,.t .nil])] [1,2] (.r [.o 3 (.alloc [.t .z,.t .nil])] [1,2,3] (.r [.fa 4 0 1,.l 5 4,.fa 6 0 3,.st 1 6 5] [1,2,3] (.r [.fa 7 1 1,.l 8 7,.cl 9 90 [8],.fa 10 1 3,.st 1 10 9] [2,3] (.r [.ln 11 2 3,.st 2 2 11] [2] .ret))))⟩
theorem Zb1c:tbl 16=some Zbjn:=Zc Tryz.func16 (by kernel_rfl) (by kernel_rfl)
def Zwk:MCode :=.we [.m 11 5,.m 12 0,.ll 13 12,.b 14 .lss 11 13] [0,1,5,14] 14 0 (.seq (.block 1 (.seq (.drw [.m 17 0,.m 18 5,.ia 19 1 17 18,.l 20 19,.m 21 1,.m 22 5,.ia 23 1 21 22,.l 24 23,.b 25 .neq 20 24] [[],[],[0,1],[2],[],[],[4,5],[6],[3,7]] [0,1,5,25]) (.cond (.s 25) (.r [.o 4 (.mov (.q false))] [4] .ret) .skip))) (.reg [.m 15 5,.bk 16 .add 15 1,.m 5 16] [0,1,5]))
def Z42:MFun:=⟨2,26,[.tmp 4],.r [.o 4 (.mov (.q false))] [0,1] (.wc [.m 6 0,.ll 7 6,.m 8 1,.ll 9 8,.b 10 .neq 7 9] [0,1,10] 10 (.r [.o 4 (.mov (.q false))] [4] .ret) (.seq (.r [.mk' 5 0] [0,1,5] (.block 0 (.loop [0,1,5] Zwk))) (.r [.o 4 (.mov (.q true))] [4] .ret)))⟩
theorem Zb1d:tbl 19=some Z42:=Zc Tryz.func19 (by kernel_rfl) (by kernel_rfl)
def Zbjo:MFun:=⟨2,35,[.tmp 4],.r [.bx 2 0,.bx 3 1,.o 4 (.mov (.q false))] [2,3] (.wc [.fa 5 0 2,.ln 6 6 5,.fa 7 0 3,.ln 8 6 7,.cl 9 99 [6,8],.o 10 (.un .not (.s 9))] [2,3,10] 10 (.r [.o 4 (.mov (.q false))] [4] .ret) (.wc [.fa 11 6 2,.ln 12 6 11,.fa 13 6 3,.ln 14 6 13,.cl 15 99 [12,14],.o 16 (.un .not (.s 15))] [2,3,16] 16 (.r [.o 4 (.mov (.q false))] [4] .ret) (.wc [.fa 17 12 2,.ln 18 6 17,.fa 19 12 3,.ln 20 6 19,.cl 21 99 [18,20],.o 22 (.un .not (.s 21))] [2,3,22] 22 (.r [.o 4 (.mov (.q false))] [4] .ret) (.wc [.fa 23 18 2,.ln 24 6 23,.fa 25 18 3,.ln 26 6 25,.cl 27 99 [24,26],.o 28 (.un .not (.s 27))] [2,3,28] 28 (.r [.o 4 (.mov (.q false))] [4] .ret) (.wc [.fa 29 24 2,.ln 30 6 29,.fa 31 24 3,.ln 32 6 31,.cl 33 99 [30,32],.o 34 (.un .not (.s 33))] [34] 34 (.r [.o 4 (.mov (.q false))] [4] .ret) (.r [.o 4 (.mov (.q true))] [4] .ret))))))⟩
theorem Zb1e:tbl 20=some Zbjo:=Zc Tryz.func20 (by kernel_rfl) (by kernel_rfl)
def Zbjp:MFun:=⟨2,16,[.tmp 4],.r [.bx 2 0,.bx 3 1,.o 4 (.mov (.q false))] [2,3] (.wc [.fa 5 0 2,.l 6 5,.fa 7 0 3,.l 8 7,.b 9 .neq 6 8] [2,3,9] 9 (.r [.o 4 (.mov (.q false))] [4] .ret) (.wc [.fa 10 1 2,.l 11 10,.fa 12 1 3,.l 13 12,.cl 14 100 [11,13],.o 15 (.un .not (.s 14))] [15] 15 (.r [.o 4 (.mov (.q false))] [4] .ret) (.r [.o 4 (.mov (.q true))] [4] .ret)))⟩
theorem Zb1f:tbl 21=some Zbjp:=Zc Tryz.func21 (by kernel_rfl) (by kernel_rfl)
def Zbjq:MFun:=⟨2,26,[.tmp 4],.r [.bx 2 0,.mk' 4 0] [1,2] (.r [.fa 5 0 2,.ln 6 6 5,.m 7 1,.o 8 (.icall 103 [.s 6,.s 7]),.m 1 8] [1,2] (.r [.fa 9 6 2,.ln 10 6 9,.m 11 1,.o 12 (.icall 103 [.s 10,.s 11]),.m 1 12] [1,2] (.r [.fa 13 12 2,.ln 14 6 13,.m 15 1,.o 16 (.icall 103 [.s 14,.s 15]),.m 1 16] [1,2] (.r [.fa 17 18 2,.ln 18 6 17,.m 19 1,.o 20 (.icall 103 [.s 18,.s 19]),.m 1 20] [1,2] (.r [.fa 21 24 2,.ln 22 6 21,.m 23 1,.o 24 (.icall 103 [.s 22,.s 23]),.m 1 24] [1] (.r [.m 25 1,.m 4 25] [4] .ret))))))⟩
theorem Zb1g:tbl 23=some Zbjq:=Zc Tryz.func23 (by kernel_rfl) (by kernel_rfl)
def Zbjr:MFun:=⟨2,10,[.tmp 4],.r [.bx 2 0,.mk' 4 0] [1,2] (.r [.fa 5 1 2,.o 6 (.loadU false (.s 5)),.m 7 1,.o 8 (.scall 104 [.s 6,.s 7] (.s 5)),.m 1 8] [1] (.r [.m 9 1,.m 4 9] [4] .ret))⟩
theorem Zb1h:tbl 24=some Zbjr:=Zc Tryz.func24 (by kernel_rfl) (by kernel_rfl)
def Zr0:MCode :=.we [.m 6 5,.m 7 0,.ll 8 7,.b 9 .lss 6 8] [0,1,5,9] 9 0 (.seq (.block 1 (.r [.m 12 0,.m 13 5,.m 14 1,.ia 15 1 12 13,.st 1 15 14] [0,1,5] (.reg [.m 16 1,.bk 17 .add 16 1,.m 1 17] [0,1,5]))) (.reg [.m 10 5,.bk 11 .add 10 1,.m 5 11] [0,1,5]))
def Z43:MFun:=⟨2,19,[.tmp 4],.r [.mk' 4 0] [0,1] (.seq (.r [.mk' 5 0] [0,1,5] (.block 0 (.loop [0,1,5] Zr0))) (.r [.m 18 1,.m 4 18] [4] .ret))⟩
theorem Zbjs:tbl 26=some Z43:=Zc Tryz.func26 (by kernel_rfl) (by kernel_rfl)
def Zwl:MCode :=.we [.m 6 5,.m 7 0,.ll 8 7,.b 9 .lss 6 8] [0,1,5,9] 9 0 (.seq (.block 1 (.wc [.m 12 0,.m 13 5,.ia 14 1 12 13,.l 15 14,.m 16 1,.b 17 .neq 15 16] [0,1,5,17] 17 (.r [.mk' 4 (-1)] [4] .ret) (.reg [.m 18 1,.bk 19 .add 18 1,.m 1 19] [0,1,5]))) (.reg [.m 10 5,.bk 11 .add 10 1,.m 5 11] [0,1,5]))
def Zbjt:MFun:=⟨2,21,[.tmp 4],.r [.mk' 4 0] [0,1] (.seq (.r [.mk' 5 0] [0,1,5] (.block 0 (.loop [0,1,5] Zwl))) (.r [.m 20 1,.m 4 20] [4] .ret))⟩
theorem Zb1i:tbl 27=some Zbjt:=Zc Tryz.func27 (by kernel_rfl) (by kernel_rfl)
def Zbju:MFun:=⟨2,12,[.tmp 4],.r [.bx 2 0,.mk' 4 0] [1,2] (.r [.fa 5 0 2,.l 6 5,.m 7 1,.cl 8 107 [6,7],.m 1 8] [1] (.wc [.m 9 1,.bk 10 .lss 9 0] [1,10] 10 (.r [.mk' 4 (-1)] [4] .ret) (.r [.m 11 1,.m 4 11] [4] .ret)))⟩
theorem Zb1j:tbl 28=some Zbju:=Zc Tryz.func28 (by kernel_rfl) (by kernel_rfl)
def Zbjv:MFun:=⟨1,9,[.cell 2 (some 1)],.r [.bx 1 0,.o 2 (.alloc [.t .nil])] [1,2] (.r [.o 3 (.alloc [.t .nil])] [1,2,3] (.r [.fa 4 0 1,.l 5 4,.cl 6 111 [5],.fa 7 0 3,.st 1 7 6] [2,3] (.r [.ln 8 1 3,.st 1 2 8] [2] .ret)))⟩
theorem Zb1k:tbl 30=some Zbjv:=Zc Tryz.func30 (by kernel_rfl) (by kernel_rfl)
def Zbjw:MFun:=⟨2,11,[.tmp 4],.r [.bx 2 0,.bx 3 1,.o 4 (.mov (.q false))] [2,3] (.wc [.fa 5 0 2,.l 6 5,.fa 7 0 3,.l 8 7,.cl 9 114 [6,8],.o 10 (.un .not (.s 9))] [10] 10 (.r [.o 4 (.mov (.q false))] [4] .ret) (.r [.o 4 (.mov (.q true))] [4] .ret))⟩
theorem Zb1l:tbl 32=some Zbjw:=Zc Tryz.func32 (by kernel_rfl) (by kernel_rfl)
def Zbjx:MFun:=⟨2,11,[.tmp 4],.r [.bx 2 0,.bx 3 1,.o 4 (.mov (.q false))] [2,3] (.wc [.fa 5 0 2,.l 6 5,.fa 7 0 3,.l 8 7,.cl 9 118 [6,8],.o 10 (.un .not (.s 9))] [10] 10 (.r [.o 4 (.mov (.q false))] [4] .ret) (.r [.o 4 (.mov (.q true))] [4] .ret))⟩
theorem Zb1m:tbl 35=some Zbjx:=Zc Tryz.func35 (by kernel_rfl) (by kernel_rfl)
def Zbjy:MFun:=⟨2,10,[.tmp 4],.r [.bx 2 0,.mk' 4 0] [1,2] (.r [.fa 5 0 2,.o 6 (.loadU false (.s 5)),.m 7 1,.o 8 (.scall 119 [.s 6,.s 7] (.s 5)),.m 1 8] [1] (.r [.m 9 1,.m 4 9] [4] .ret))⟩
theorem Zb1n:tbl 36=some Zbjy:=Zc Tryz.func36 (by kernel_rfl) (by kernel_rfl)
def Zbjz:MFun:=⟨2,10,[.tmp 4],.r [.bx 2 0,.mk' 4 0] [1,2] (.r [.fa 5 0 2,.o 6 (.loadU false (.s 5)),.m 7 1,.o 8 (.scall 120 [.s 6,.s 7] (.s 5)),.m 1 8] [1] (.r [.m 9 1,.m 4 9] [4] .ret))⟩
theorem Zb1o:tbl 37=some Zbjz:=Zc Tryz.func37 (by kernel_rfl) (by kernel_rfl)
def Zbj0:MFun:=⟨2,12,[.tmp 4],.r [.bx 2 0,.mk' 4 0] [1,2] (.r [.fa 5 0 2,.l 6 5,.m 7 1,.cl 8 168 [6,7],.m 1 8] [1] (.wc [.m 9 1,.bk 10 .lss 9 0] [1,10] 10 (.r [.mk' 4 (-1)] [4] .ret) (.r [.m 11 1,.m 4 11] [4] .ret)))⟩
theorem Zb1p:tbl 55=some Zbj0:=Zc Tryz.func55 (by kernel_rfl) (by kernel_rfl)
def Zbj1:MFun:=⟨1,9,[.cell 2 (some 1)],.r [.bx 1 0,.o 2 (.alloc [.t .nil])] [1,2] (.r [.o 3 (.alloc [.t .nil])] [1,2,3] (.r [.fa 4 0 1,.l 5 4,.cl 6 170 [5],.fa 7 0 3,.st 1 7 6] [2,3] (.r [.ln 8 1 3,.st 1 2 8] [2] .ret)))⟩
theorem Zb1q:tbl 57=some Zbj1:=Zc Tryz.func57 (by kernel_rfl) (by kernel_rfl)
def Zbj2:MFun:=⟨2,18,[.tmp 4],.r [.bx 2 0,.mk' 4 0] [1,2] (.r [.fa 5 0 2,.l 6 5,.m 7 1,.cl 8 76 [6,7],.m 1 8] [1,2] (.wc [.m 9 1,.bk 10 .lss 9 0] [1,2,10] 10 (.r [.mk' 4 (-1)] [4] .ret) (.r [.fa 11 1 2,.l 12 11,.m 13 1,.cl 14 76 [12,13],.m 1 14] [1] (.wc [.m 15 1,.bk 16 .lss 15 0] [1,16] 16 (.r [.mk' 4 (-1)] [4] .ret) (.r [.m 17 1,.m 4 17] [4] .ret)))))⟩
theorem Zb1r:tbl 62=some Zbj2:=Zc Tryz.func62 (by kernel_rfl) (by kernel_rfl)
def Zbj3:MFun:=⟨1,13,[.cell 2 (some 2)],.r [.bx 1 0,.o 2 (.alloc [.t .nil,.t .nil])] [1,2] (.r [.o 3 (.alloc [.t .nil,.t .nil])] [1,2,3] (.r [.fa 4 0 1,.l 5 4,.cl 6 91 [5],.fa 7 0 3,.st 1 7 6] [1,2,3] (.r [.fa 8 1 1,.l 9 8,.cl 10 91 [9],.fa 11 1 3,.st 1 11 10] [2,3] (.r [.ln 12 2 3,.st 2 2 12] [2] .ret))))⟩
theorem Zb1s:tbl 64=some Zbj3:=Zc Tryz.func64 (by kernel_rfl) (by kernel_rfl)
def Zbj4:MFun:=⟨2,17,[.tmp 4],.r [.bx 2 0,.bx 3 1,.o 4 (.mov (.q false))] [2,3] (.wc [.fa 5 0 2,.l 6 5,.fa 7 0 3,.l 8 7,.cl 9 19 [6,8],.o 10 (.un .not (.s 9))] [2,3,10] 10 (.r [.o 4 (.mov (.q false))] [4] .ret) (.wc [.fa 11 1 2,.l 12 11,.fa 13 1 3,.l 14 13,.cl 15 19 [12,14],.o 16 (.un .not (.s 15))] [16] 16 (.r [.o 4 (.mov (.q false))] [4] .ret) (.r [.o 4 (.mov (.q true))] [4] .ret)))⟩
theorem Zb1t:tbl 66=some Zbj4:=Zc Tryz.func66 (by kernel_rfl) (by kernel_rfl)
def Zbj5:MFun:=⟨2,14,[.tmp 4],.r [.bx 2 0,.mk' 4 0] [1,2] (.r [.fa 5 0 2,.o 6 (.loadU false (.s 5)),.m 7 1,.o 8 (.scall 26 [.s 6,.s 7] (.s 5)),.m 1 8] [1,2] (.r [.fa 9 1 2,.o 10 (.loadU false (.s 9)),.m 11 1,.o 12 (.scall 26 [.s 10,.s 11] (.s 9)),.m 1 12] [1] (.r [.m 13 1,.m 4 13] [4] .ret)))⟩
theorem Zb1u:tbl 67=some Zbj5:=Zc Tryz.func67 (by kernel_rfl) (by kernel_rfl)
def Zbj6:MFun:=⟨2,18,[.tmp 4],.r [.bx 2 0,.mk' 4 0] [1,2] (.r [.fa 5 0 2,.l 6 5,.m 7 1,.cl 8 27 [6,7],.m 1 8] [1,2] (.wc [.m 9 1,.bk 10 .lss 9 0] [1,2,10] 10 (.r [.mk' 4 (-1)] [4] .ret) (.r [.fa 11 1 2,.l 12 11,.m 13 1,.cl 14 27 [12,13],.m 1 14] [1] (.wc [.m 15 1,.bk 16 .lss 15 0] [1,16] 16 (.r [.mk' 4 (-1)] [4] .ret) (.r [.m 17 1,.m 4 17] [4] .ret)))))⟩
theorem Zb1v:tbl 68=some Zbj6:=Zc Tryz.func68 (by kernel_rfl) (by kernel_rfl)
def Zbj7:MFun:=⟨2,12,[.tmp 4],.r [.mk' 4 0] [0,1] (.r [.m 5 1,.m 6 0,.ll 7 6,.b 8 .sub 5 7,.m 1 8] [1] (.wc [.m 9 1,.bk 10 .lss 9 0] [1,10] 10 (.r [.mk' 4 (-1)] [4] .ret) (.r [.m 11 1,.m 4 11] [4] .ret)))⟩
theorem Zb1w:tbl 69=some Zbj7:=Zc Tryz.func69 (by kernel_rfl) (by kernel_rfl)
def Zbj8:MFun:=⟨2,12,[.tmp 4],.r [.bx 2 0,.mk' 4 0] [1,2] (.r [.fa 5 5 2,.l 6 5,.m 7 1,.cl 8 192 [6,7],.m 1 8] [1] (.wc [.m 9 1,.bk 10 .lss 9 0] [1,10] 10 (.r [.mk' 4 (-1)] [4] .ret) (.r [.m 11 1,.m 4 11] [4] .ret)))⟩
theorem Zb1x:tbl 74=some Zbj8:=Zc Tryz.func74 (by kernel_rfl) (by kernel_rfl)
def Zk1:MCode :=.we [.m 12 5,.m 13 0,.ll 14 13,.b 15 .lss 12 14] [0,1,5,15] 15 0 (.seq (.block 1 (.r [.m 18 0,.m 19 5,.ia 20 2 18 19,.ln 21 2 20,.m 22 1,.cl 23 193 [21,22],.m 1 23] [0,1,5] (.r [.m 24 1,.bk 25 .lss 24 0] [0,1,5,25] (.cond (.s 25) (.r [.mk' 4 (-1)] [4] .ret) .skip)))) (.reg [.m 16 5,.bk 17 .add 16 1,.m 5 17] [0,1,5]))
def Zbj9:MFun:=⟨2,27,[.tmp 4],.r [.mk' 4 0] [0,1] (.r [.m 6 1,.m 7 0,.ll 8 7,.b 9 .sub 6 8,.m 1 9] [0,1] (.wc [.m 10 1,.bk 11 .lss 10 0] [0,1,11] 11 (.r [.mk' 4 (-1)] [4] .ret) (.seq (.r [.mk' 5 0] [0,1,5] (.block 0 (.loop [0,1,5] Zk1))) (.r [.m 26 1,.m 4 26] [4] .ret))))⟩
theorem Zb1y:tbl 75=some Zbj9:=Zc Tryz.func75 (by kernel_rfl) (by kernel_rfl)
def Zbka:MFun:=⟨2,12,[.tmp 4],.r [.mk' 4 0] [0,1] (.r [.m 5 1,.m 6 0,.ll 7 6,.b 8 .sub 5 7,.m 1 8] [1] (.wc [.m 9 1,.bk 10 .lss 9 0] [1,10] 10 (.r [.mk' 4 (-1)] [4] .ret) (.r [.m 11 1,.m 4 11] [4] .ret)))⟩
theorem Zb1z:tbl 76=some Zbka:=Zc Tryz.func76 (by kernel_rfl) (by kernel_rfl)
def Zk2:MCode :=.we [.m 12 5,.m 13 0,.ll 14 13,.b 15 .lss 12 14] [0,1,5,15] 15 0 (.seq (.block 1 (.r [.m 18 0,.m 19 5,.ia 20 1 18 19,.l 21 20,.m 22 1,.cl 23 76 [21,22],.m 1 23] [0,1,5] (.r [.m 24 1,.bk 25 .lss 24 0] [0,1,5,25] (.cond (.s 25) (.r [.mk' 4 (-1)] [4] .ret) .skip)))) (.reg [.m 16 5,.bk 17 .add 16 1,.m 5 17] [0,1,5]))
def Zbkb:MFun:=⟨2,27,[.tmp 4],.r [.mk' 4 0] [0,1] (.r [.m 6 1,.m 7 0,.ll 8 7,.b 9 .sub 6 8,.m 1 9] [0,1] (.wc [.m 10 1,.bk 11 .lss 10 0] [0,1,11] 11 (.r [.mk' 4 (-1)] [4] .ret) (.seq (.r [.mk' 5 0] [0,1,5] (.block 0 (.loop [0,1,5] Zk2))) (.r [.m 26 1,.m 4 26] [4] .ret))))⟩
theorem Zb10:tbl 78=some Zbkb:=Zc Tryz.func78 (by kernel_rfl) (by kernel_rfl)
def Zbkc:MFun:=⟨1,24,[.cell 2 (some 6)],.r [.bx 1 0,.o 2 (.alloc [.t .z,.t .z,.t .z,.t .z,.t .z,.t .nil])] [1,2] (.r [.o 3 (.alloc [.t .z,.t .z,.t .z,.t .z,.t .z,.t .nil])] [1,2,3] (.r [.fa 4 0 1,.l 5 4,.fa 6 0 3,.st 1 6 5] [1,2,3] (.r [.fa 7 1 1,.l 8 7,.fa 9 1 3,.st 1 9 8] [1,2,3] (.r [.fa 10 2 1,.l 11 10,.fa 12 2 3,.st 1 12 11] [1,2,3] (.r [.fa 13 3 1,.l 14 13,.fa 15 3 3,.st 1 15 14] [1,2,3] (.r [.fa 16 4 1,.l 17 16,.fa 18 4 3,.st 1 18 17] [1,2,3] (.r [.fa 19 5 1,.l 20 19,.cl 21 209 [20],.fa 22 5 3,.st 1 22 21] [2,3] (.r [.ln 23 6 3,.st 6 2 23] [2] .ret))))))))⟩
theorem Zb11:tbl 89=some Zbkc:=Zc Tryz.func89 (by kernel_rfl) (by kernel_rfl)
def Zwm:MCode :=.we [.m 8 4,.m 9 0,.ll 10 9,.b 11 .lss 8 10] [0,3,4,11] 11 0 (.seq (.block 1 (.reg [.m 14 3,.m 15 4,.m 16 0,.m 17 4,.ia 18 2 16 17,.ln 19 2 18,.cl 20 210 [19],.ia 21 2 14 15,.st 2 21 20] [0,3,4])) (.reg [.m 12 4,.bk 13 .add 12 1,.m 4 13] [0,3,4]))
def Zbkd:MFun:=⟨1,23,[.tmp 2],.r [.o 2 (.mov (.c (.t .nil)))] [0] (.r [.m 5 0,.ll 6 5,.o 7 (.mkslice 264 2 40 [.str ⟨#[]⟩,.lst 1 []] (.s 6) (.s 6)),.m 3 7] [0,3] (.seq (.r [.mk' 4 0] [0,3,4] (.block 0 (.loop [0,3,4] Zwm))) (.r [.m 22 3,.m 2 22] [2] .ret)))⟩
theorem Zb12:tbl 90=some Zbkd:=Zc Tryz.func90 (by kernel_rfl) (by kernel_rfl)
def Zwn:MCode :=.we [.m 8 4,.m 9 0,.ll 10 9,.b 11 .lss 8 10] [0,3,4,11] 11 0 (.seq (.block 1 (.reg [.m 14 3,.m 15 4,.m 16 0,.m 17 4,.ia 18 1 16 17,.l 19 18,.ia 20 1 14 15,.st 1 20 19] [0,3,4])) (.reg [.m 12 4,.bk 13 .add 12 1,.m 4 13] [0,3,4]))
def Zbke:MFun:=⟨1,22,[.tmp 2],.r [.o 2 (.mov (.c (.t .nil)))] [0] (.r [.m 5 0,.ll 6 5,.o 7 (.mkslice 3 1 8 [.z] (.s 6) (.s 6)),.m 3 7] [0,3] (.seq (.r [.mk' 4 0] [0,3,4] (.block 0 (.loop [0,3,4] Zwn))) (.r [.m 21 3,.m 2 21] [2] .ret)))⟩
theorem Zb13:tbl 91=some Zbke:=Zc Tryz.func91 (by kernel_rfl) (by kernel_rfl)
def Zwo:MCode :=.we [.m 8 4,.m 9 0,.ll 10 9,.b 11 .lss 8 10] [0,3,4,11] 11 0 (.seq (.block 1 (.reg [.m 14 3,.m 15 4,.m 16 0,.m 17 4,.ia 18 1 16 17,.l 19 18,.cl 20 91 [19],.ia 21 1 14 15,.st 1 21 20] [0,3,4])) (.reg [.m 12 4,.bk 13 .add 12 1,.m 4 13] [0,3,4]))
def Zbkf:MFun:=⟨1,23,[.tmp 2],.r [.o 2 (.mov (.c (.t .nil)))] [0] (.r [.m 5 0,.ll 6 5,.o 7 (.mkslice 30 1 24 [.lst 1 []] (.s 6) (.s 6)),.m 3 7] [0,3] (.seq (.r [.mk' 4 0] [0,3,4] (.block 0 (.loop [0,3,4] Zwo))) (.r [.m 22 3,.m 2 22] [2] .ret)))⟩
theorem Zb14:tbl 93=some Zbkf:=Zc Tryz.func93 (by kernel_rfl) (by kernel_rfl)
def Zbkg:MFun:=⟨2,36,[.tmp 4],.r [.bx 2 0,.bx 3 1,.o 4 (.mov (.q false))] [2,3] (.wc [.fa 5 0 2,.l 6 5,.fa 7 0 3,.l 8 7,.b 9 .neq 6 8] [2,3,9] 9 (.r [.o 4 (.mov (.q false))] [4] .ret) (.wc [.fa 10 1 2,.l 11 10,.fa 12 1 3,.l 13 12,.b 14 .neq 11 13] [2,3,14] 14 (.r [.o 4 (.mov (.q false))] [4] .ret) (.wc [.fa 15 2 2,.l 16 15,.fa 17 2 3,.l 18 17,.b 19 .neq 16 18] [2,3,19] 19 (.r [.o 4 (.mov (.q false))] [4] .ret) (.wc [.fa 20 3 2,.l 21 20,.fa 22 3 3,.l 23 22,.b 24 .neq 21 23] [2,3,24] 24 (.r [.o 4 (.mov (.q false))] [4] .ret) (.wc [.fa 25 4 2,.l 26 25,.fa 27 4 3,.l 28 27,.b 29 .neq 26 28] [2,3,29] 29 (.r [.o 4 (.mov (.q false))] [4] .ret) (.wc [.fa 30 5 2,.l 31 30,.fa 32 5 3,.l 33 32,.cl 34 219 [31,33],.o 35 (.un .not (.s 34))] [35] 35 (.r [.o 4 (.mov (.q false))] [4] .ret) (.r [.o 4 (.mov (.q true))] [4] .ret)))))))⟩
theorem Zb15:tbl 99=some Zbkg:=Zc Tryz.func99 (by kernel_rfl) (by kernel_rfl)
def Zwp:MCode :=.we [.m 11 5,.m 12 0,.ll 13 12,.b 14 .lss 11 13] [0,1,5,14] 14 0 (.seq (.block 1 (.seq (.drw [.m 17 0,.m 18 5,.ia 19 2 17 18,.ln 20 2 19,.m 21 1,.m 22 5,.ia 23 2 21 22,.ln 24 2 23,.cl 25 220 [20,24],.o 26 (.un .not (.s 25))] [[],[],[0,1],[2],[],[],[4,5],[6],[3,7],[8]] [0,1,5,26]) (.cond (.s 26) (.r [.o 4 (.mov (.q false))] [4] .ret) .skip))) (.reg [.m 15 5,.bk 16 .add 15 1,.m 5 16] [0,1,5]))
def Z44:MFun:=⟨2,27,[.tmp 4],.r [.o 4 (.mov (.q false))] [0,1] (.wc [.m 6 0,.ll 7 6,.m 8 1,.ll 9 8,.b 10 .neq 7 9] [0,1,10] 10 (.r [.o 4 (.mov (.q false))] [4] .ret) (.seq (.r [.mk' 5 0] [0,1,5] (.block 0 (.loop [0,1,5] Zwp))) (.r [.o 4 (.mov (.q true))] [4] .ret)))⟩
theorem Zb16:tbl 100=some Z44:=Zc Tryz.func100 (by kernel_rfl) (by kernel_rfl)
def Zwq:MCode :=.we [.m 11 5,.m 12 0,.ll 13 12,.b 14 .lss 11 13] [0,1,5,14] 14 0 (.seq (.block 1 (.seq (.drw [.m 17 0,.m 18 5,.ia 19 1 17 18,.l 20 19,.m 21 1,.m 22 5,.ia 23 1 21 22,.l 24 23,.cl 25 19 [20,24],.o 26 (.un .not (.s 25))] [[],[],[0,1],[2],[],[],[4,5],[6],[3,7],[8]] [0,1,5,26]) (.cond (.s 26) (.r [.o 4 (.mov (.q false))] [4] .ret) .skip))) (.reg [.m 15 5,.bk 16 .add 15 1,.m 5 16] [0,1,5]))
def Z45:MFun:=⟨2,27,[.tmp 4],.r [.o 4 (.mov (.q false))] [0,1] (.wc [.m 6 0,.ll 7 6,.m 8 1,.ll 9 8,.b 10 .neq 7 9] [0,1,10] 10 (.r [.o 4 (.mov (.q false))] [4] .ret) (.seq (.r [.mk' 5 0] [0,1,5] (.block 0 (.loop [0,1,5] Zwq))) (.r [.o 4 (.mov (.q true))] [4] .ret)))⟩
theorem Zb17:tbl 102=some Z45:=Zc Tryz.func102 (by kernel_rfl) (by kernel_rfl)
def Zbkh:MFun:=⟨2,10,[.tmp 4],.r [.bx 2 0,.mk' 4 0] [1,2] (.r [.fa 5 5 2,.o 6 (.loadU false (.s 5)),.m 7 1,.o 8 (.scall 221 [.s 6,.s 7] (.s 5)),.m 1 8] [1] (.r [.m 9 1,.m 4 9] [4] .ret))⟩
theorem Zb18:tbl 103=some Zbkh:=Zc Tryz.func103 (by kernel_rfl) (by kernel_rfl)
def Zwr:MCode :=.we [.m 6 5,.m 7 0,.ll 8 7,.b 9 .lss 6 8] [0,1,5,9] 9 0 (.seq (.block 1 (.r [.m 12 0,.m 13 5,.m 14 1,.cl 15 222 [14],.ia 16 2 12 13,.fa 17 0 16,.st 1 17 15] [0,1,5] (.r [.m 18 1,.bk 19 .add 18 1,.m 1 19] [0,1,5] (.reg [.m 20 0,.m 21 5,.ia 22 2 20 21,.fa 23 1 22,.o 24 (.loadU false (.s 23)),.m 25 1,.o 26 (.scall 26 [.s 24,.s 25] (.s 23)),.m 1 26] [0,1,5])))) (.reg [.m 10 5,.bk 11 .add 10 1,.m 5 11] [0,1,5]))
def Zbki:MFun:=⟨2,28,[.tmp 4],.r [.mk' 4 0] [0,1] (.seq (.r [.mk' 5 0] [0,1,5] (.block 0 (.loop [0,1,5] Zwr))) (.r [.m 27 1,.m 4 27] [4] .ret))⟩
theorem Zb19:tbl 104=some Zbki:=Zc Tryz.func104 (by kernel_rfl) (by kernel_rfl)
def Zr1:MCode :=.we [.m 6 5,.m 7 0,.ll 8 7,.b 9 .lss 6 8] [0,1,5,9] 9 0 (.seq (.block 1 (.reg [.m 12 0,.m 13 5,.ia 14 1 12 13,.o 15 (.loadU false (.s 14)),.m 16 1,.o 17 (.scall 26 [.s 15,.s 16] (.s 14)),.m 1 17] [0,1,5])) (.reg [.m 10 5,.bk 11 .add 10 1,.m 5 11] [0,1,5]))
def Z46:MFun:=⟨2,19,[.tmp 4],.r [.mk' 4 0] [0,1] (.seq (.r [.mk' 5 0] [0,1,5] (.block 0 (.loop [0,1,5] Zr1))) (.r [.m 18 1,.m 4 18] [4] .ret))⟩
theorem Zbkj:tbl 106=some Z46:=Zc Tryz.func106 (by kernel_rfl) (by kernel_rfl)
def Zk3:MCode :=.we [.m 12 5,.m 13 0,.ll 14 13,.b 15 .lss 12 14] [0,1,5,15] 15 0 (.seq (.block 1 (.r [.m 18 0,.m 19 5,.ia 20 3 18 19,.ln 21 3 20,.m 22 1,.cl 23 223 [21,22],.m 1 23] [0,1,5] (.r [.m 24 1,.bk 25 .lss 24 0] [0,1,5,25] (.cond (.s 25) (.r [.mk' 4 (-1)] [4] .ret) .skip)))) (.reg [.m 16 5,.bk 17 .add 16 1,.m 5 17] [0,1,5]))
def Zbkk:MFun:=⟨2,27,[.tmp 4],.r [.mk' 4 0] [0,1] (.r [.m 6 1,.m 7 0,.ll 8 7,.b 9 .sub 6 8,.m 1 9] [0,1] (.wc [.m 10 1,.bk 11 .lss 10 0] [0,1,11] 11 (.r [.mk' 4 (-1)] [4] .ret) (.seq (.r [.mk' 5 0] [0,1,5] (.block 0 (.loop [0,1,5] Zk3))) (.r [.m 26 1,.m 4 26] [4] .ret))))⟩
theorem Zb2a:tbl 107=some Zbkk:=Zc Tryz.func107 (by kernel_rfl) (by kernel_rfl)
def Zws:MCode :=.we [.m 8 4,.m 9 0,.ll 10 9,.b 11 .lss 8 10] [0,3,4,11] 11 0 (.seq (.block 1 (.reg [.m 14 3,.m 15 4,.m 16 0,.m 17 4,.ia 18 3 16 17,.ln 19 3 18,.cl 20 228 [19],.ia 21 3 14 15,.st 3 21 20] [0,3,4])) (.reg [.m 12 4,.bk 13 .add 12 1,.m 4 13] [0,3,4]))
def Zbkl:MFun:=⟨1,23,[.tmp 2],.r [.o 2 (.mov (.c (.t .nil)))] [0] (.r [.m 5 0,.ll 6 5,.o 7 (.mkslice 277 3 48 [.str ⟨#[]⟩,.z,.lst 1 []] (.s 6) (.s 6)),.m 3 7] [0,3] (.seq (.r [.mk' 4 0] [0,3,4] (.block 0 (.loop [0,3,4] Zws))) (.r [.m 22 3,.m 2 22] [2] .ret)))⟩
theorem Zb2b:tbl 111=some Zbkl:=Zc Tryz.func111 (by kernel_rfl) (by kernel_rfl)
def Zwt:MCode :=.we [.m 11 5,.m 12 0,.ll 13 12,.b 14 .lss 11 13] [0,1,5,14] 14 0 (.seq (.block 1 (.seq (.drw [.m 17 0,.m 18 5,.ia 19 3 17 18,.ln 20 3 19,.m 21 1,.m 22 5,.ia 23 3 21 22,.ln 24 3 23,.cl 25 233 [20,24],.o 26 (.un .not (.s 25))] [[],[],[0,1],[2],[],[],[4,5],[6],[3,7],[8]] [0,1,5,26]) (.cond (.s 26) (.r [.o 4 (.mov (.q false))] [4] .ret) .skip))) (.reg [.m 15 5,.bk 16 .add 15 1,.m 5 16] [0,1,5]))
def Z47:MFun:=⟨2,27,[.tmp 4],.r [.o 4 (.mov (.q false))] [0,1] (.wc [.m 6 0,.ll 7 6,.m 8 1,.ll 9 8,.b 10 .neq 7 9] [0,1,10] 10 (.r [.o 4 (.mov (.q false))] [4] .ret) (.seq (.r [.mk' 5 0] [0,1,5] (.block 0 (.loop [0,1,5] Zwt))) (.r [.o 4 (.mov (.q true))] [4] .ret)))⟩
theorem Zb2c:tbl 114=some Z47:=Zc Tryz.func114 (by kernel_rfl) (by kernel_rfl)
def Zwu:MCode :=.we [.m 11 5,.m 12 0,.ll 13 12,.b 14 .lss 11 13] [0,1,5,14] 14 0 (.seq (.block 1 (.seq (.drw [.m 17 0,.m 18 5,.ia 19 3 17 18,.ln 20 3 19,.m 21 1,.m 22 5,.ia 23 3 21 22,.ln 24 3 23,.cl 25 238 [20,24],.o 26 (.un .not (.s 25))] [[],[],[0,1],[2],[],[],[4,5],[6],[3,7],[8]] [0,1,5,26]) (.cond (.s 26) (.r [.o 4 (.mov (.q false))] [4] .ret) .skip))) (.reg [.m 15 5,.bk 16 .add 15 1,.m 5 16] [0,1,5]))
def Z48:MFun:=⟨2,27,[.tmp 4],.r [.o 4 (.mov (.q false))] [0,1] (.wc [.m 6 0,.ll 7 6,.m 8 1,.ll 9 8,.b 10 .neq 7 9] [0,1,10] 10 (.r [.o 4 (.mov (.q false))] [4] .ret) (.seq (.r [.mk' 5 0] [0,1,5] (.block 0 (.loop [0,1,5] Zwu))) (.r [.o 4 (.mov (.q true))] [4] .ret)))⟩
theorem Zb2d:tbl 118=some Z48:=Zc Tryz.func118 (by kernel_rfl) (by kernel_rfl)
def Zwv:MCode :=.we [.m 6 5,.m 7 0,.ll 8 7,.b 9 .lss 6 8] [0,1,5,9] 9 0 (.seq (.block 1 (.r [.m 12 0,.m 13 5,.m 14 1,.cl 15 222 [14],.ia 16 3 12 13,.fa 17 0 16,.st 1 17 15] [0,1,5] (.r [.m 18 1,.bk 19 .add 18 1,.m 1 19] [0,1,5] (.r [.m 20 0,.m 21 5,.m 22 1,.ia 23 3 20 21,.fa 24 1 23,.st 1 24 22] [0,1,5] (.r [.m 25 1,.bk 26 .add 25 1,.m 1 26] [0,1,5] (.reg [.m 27 0,.m 28 5,.ia 29 3 27 28,.fa 30 2 29,.o 31 (.loadU false (.s 30)),.m 32 1,.o 33 (.scall 106 [.s 31,.s 32] (.s 30)),.m 1 33] [0,1,5])))))) (.reg [.m 10 5,.bk 11 .add 10 1,.m 5 11] [0,1,5]))
def Zbkm:MFun:=⟨2,35,[.tmp 4],.r [.mk' 4 0] [0,1] (.seq (.r [.mk' 5 0] [0,1,5] (.block 0 (.loop [0,1,5] Zwv))) (.r [.m 34 1,.m 4 34] [4] .ret))⟩
theorem Zb2e:tbl 119=some Zbkm:=Zc Tryz.func119 (by kernel_rfl) (by kernel_rfl)
def Zww:MCode :=.we [.m 6 5,.m 7 0,.ll 8 7,.b 9 .lss 6 8] [0,1,5,9] 9 0 (.seq (.block 1 (.r [.m 12 0,.m 13 5,.m 14 1,.ia 15 3 12 13,.fa 16 0 15,.st 1 16 14] [0,1,5] (.r [.m 17 1,.bk 18 .add 17 1,.m 1 18] [0,1,5] (.r [.m 19 0,.m 20 5,.m 21 1,.ia 22 3 19 20,.fa 23 1 22,.st 1 23 21] [0,1,5] (.r [.m 24 1,.bk 25 .add 24 1,.m 1 25] [0,1,5] (.r [.m 26 0,.m 27 5,.m 28 1,.ia 29 3 26 27,.fa 30 2 29,.st 1 30 28] [0,1,5] (.reg [.m 31 1,.bk 32 .add 31 1,.m 1 32] [0,1,5]))))))) (.reg [.m 10 5,.bk 11 .add 10 1,.m 5 11] [0,1,5]))
def Zbkn:MFun:=⟨2,34,[.tmp 4],.r [.mk' 4 0] [0,1] (.seq (.r [.mk' 5 0] [0,1,5] (.block 0 (.loop [0,1,5] Zww))) (.r [.m 33 1,.m 4 33] [4] .ret))⟩
theorem Zb2f:tbl 120=some Zbkn:=Zc Tryz.func120 (by kernel_rfl) (by kernel_rfl)
def Zbko:MFun:=⟨2,12,[.tmp 4],.r [.mk' 4 0] [0,1] (.r [.m 5 1,.m 6 0,.ll 7 6,.b 8 .sub 5 7,.m 1 8] [1] (.wc [.m 9 1,.bk 10 .lss 9 0] [1,10] 10 (.r [.mk' 4 (-1)] [4] .ret) (.r [.m 11 1,.m 4 11] [4] .ret)))⟩
theorem Zb2g:tbl 168=some Zbko:=Zc Tryz.func168 (by kernel_rfl) (by kernel_rfl)
def Zwx:MCode :=.we [.m 8 4,.m 9 0,.ll 10 9,.b 11 .lss 8 10] [0,3,4,11] 11 0 (.seq (.block 1 (.reg [.m 14 3,.m 15 4,.m 16 0,.m 17 4,.ia 18 3 16 17,.ln 19 3 18,.cl 20 279 [19],.ia 21 3 14 15,.st 3 21 20] [0,3,4])) (.reg [.m 12 4,.bk 13 .add 12 1,.m 4 13] [0,3,4]))
def Zbkp:MFun:=⟨1,23,[.tmp 2],.r [.o 2 (.mov (.c (.t .nil)))] [0] (.r [.m 5 0,.ll 6 5,.o 7 (.mkslice 194 3 24 [.z,.z,.z] (.s 6) (.s 6)),.m 3 7] [0,3] (.seq (.r [.mk' 4 0] [0,3,4] (.block 0 (.loop [0,3,4] Zwx))) (.r [.m 22 3,.m 2 22] [2] .ret)))⟩
theorem Zb2h:tbl 170=some Zbkp:=Zc Tryz.func170 (by kernel_rfl) (by kernel_rfl)
def Zbkq:MFun:=⟨2,12,[.tmp 4],.r [.mk' 4 0] [0,1] (.r [.m 5 1,.m 6 0,.ll 7 6,.b 8 .sub 5 7,.m 1 8] [1] (.wc [.m 9 1,.bk 10 .lss 9 0] [1,10] 10 (.r [.mk' 4 (-1)] [4] .ret) (.r [.m 11 1,.m 4 11] [4] .ret)))⟩
theorem Zb2i:tbl 192=some Zbkq:=Zc Tryz.func192 (by kernel_rfl) (by kernel_rfl)
def Zbkr:MFun:=⟨2,19,[.tmp 4],.r [.bx 2 0,.mk' 4 0] [1,2] (.r [.m 5 1,.fa 6 0 2,.l 7 6,.o 8 (.len true (.s 7)),.b 9 .sub 5 8,.m 1 9] [1,2] (.wc [.m 10 1,.bk 11 .lss 10 0] [1,2,11] 11 (.r [.mk' 4 (-1)] [4] .ret) (.r [.fa 12 1 2,.l 13 12,.m 14 1,.cl 15 76 [13,14],.m 1 15] [1] (.wc [.m 16 1,.bk 17 .lss 16 0] [1,17] 17 (.r [.mk' 4 (-1)] [4] .ret) (.r [.m 18 1,.m 4 18] [4] .ret)))))⟩
theorem Zb2j:tbl 193=some Zbkr:=Zc Tryz.func193 (by kernel_rfl) (by kernel_rfl)
def Zwy:MCode :=.we [.m 8 4,.m 9 0,.ll 10 9,.b 11 .lss 8 10] [0,3,4,11] 11 0 (.seq (.block 1 (.reg [.m 14 3,.m 15 4,.m 16 0,.m 17 4,.ia 18 2 16 17,.ln 19 2 18,.cl 20 294 [19],.ia 21 2 14 15,.st 2 21 20] [0,3,4])) (.reg [.m 12 4,.bk 13 .add 12 1,.m 4 13] [0,3,4]))
def Zbks:MFun:=⟨1,23,[.tmp 2],.r [.o 2 (.mov (.c (.t .nil)))] [0] (.r [.m 5 0,.ll 6 5,.o 7 (.mkslice 307 2 16 [.z,.z] (.s 6) (.s 6)),.m 3 7] [0,3] (.seq (.r [.mk' 4 0] [0,3,4] (.block 0 (.loop [0,3,4] Zwy))) (.r [.m 22 3,.m 2 22] [2] .ret)))⟩
theorem Zb2k:tbl 209=some Zbks:=Zc Tryz.func209 (by kernel_rfl) (by kernel_rfl)
def Zbkt:MFun:=⟨1,12,[.cell 2 (some 2)],.r [.bx 1 0,.o 2 (.alloc [.t (.str ⟨#[]⟩),.t .nil])] [1,2] (.r [.o 3 (.alloc [.t (.str ⟨#[]⟩),.t .nil])] [1,2,3] (.r [.fa 4 0 1,.l 5 4,.fa 6 0 3,.st 1 6 5] [1,2,3] (.r [.fa 7 1 1,.l 8 7,.cl 9 91 [8],.fa 10 1 3,.st 1 10 9] [2,3] (.r [.ln 11 2 3,.st 2 2 11] [2] .ret))))⟩
theorem Zb2l:tbl 210=some Zbkt:=Zc Tryz.func210 (by kernel_rfl) (by kernel_rfl)
def Zwz:MCode :=.we [.m 11 5,.m 12 0,.ll 13 12,.b 14 .lss 11 13] [0,1,5,14] 14 0 (.seq (.block 1 (.seq (.drw [.m 17 0,.m 18 5,.ia 19 2 17 18,.ln 20 2 19,.m 21 1,.m 22 5,.ia 23 2 21 22,.ln 24 2 23,.cl 25 299 [20,24],.o 26 (.un .not (.s 25))] [[],[],[0,1],[2],[],[],[4,5],[6],[3,7],[8]] [0,1,5,26]) (.cond (.s 26) (.r [.o 4 (.mov (.q false))] [4] .ret) .skip))) (.reg [.m 15 5,.bk 16 .add 15 1,.m 5 16] [0,1,5]))
def Z49:MFun:=⟨2,27,[.tmp 4],.r [.o 4 (.mov (.q false))] [0,1] (.wc [.m 6 0,.ll 7 6,.m 8 1,.ll 9 8,.b 10 .neq 7 9] [0,1,10] 10 (.r [.o 4 (.mov (.q false))] [4] .ret) (.seq (.r [.mk' 5 0] [0,1,5] (.block 0 (.loop [0,1,5] Zwz))) (.r [.o 4 (.mov (.q true))] [4] .ret)))⟩
theorem Zb2m:tbl 219=some Z49:=Zc Tryz.func219 (by kernel_rfl) (by kernel_rfl)
def Zbku:MFun:=⟨2,16,[.tmp 4],.r [.bx 2 0,.bx 3 1,.o 4 (.mov (.q false))] [2,3] (.wc [.fa 5 0 2,.l 6 5,.fa 7 0 3,.l 8 7,.b 9 .neq 6 8] [2,3,9] 9 (.r [.o 4 (.mov (.q false))] [4] .ret) (.wc [.fa 10 1 2,.l 11 10,.fa 12 1 3,.l 13 12,.cl 14 19 [11,13],.o 15 (.un .not (.s 14))] [15] 15 (.r [.o 4 (.mov (.q false))] [4] .ret) (.r [.o 4 (.mov (.q true))] [4] .ret)))⟩
theorem Zb2n:tbl 220=some Zbku:=Zc Tryz.func220 (by kernel_rfl) (by kernel_rfl)
def Zw0:MCode :=.we [.m 6 5,.m 7 0,.ll 8 7,.b 9 .lss 6 8] [0,1,5,9] 9 0 (.seq (.block 1 (.r [.m 12 0,.m 13 5,.m 14 1,.ia 15 2 12 13,.fa 16 0 15,.st 1 16 14] [0,1,5] (.r [.m 17 1,.bk 18 .add 17 1,.m 1 18] [0,1,5] (.r [.m 19 0,.m 20 5,.m 21 1,.ia 22 2 19 20,.fa 23 1 22,.st 1 23 21] [0,1,5] (.reg [.m 24 1,.bk 25 .add 24 1,.m 1 25] [0,1,5]))))) (.reg [.m 10 5,.bk 11 .add 10 1,.m 5 11] [0,1,5]))
def Zbkv:MFun:=⟨2,27,[.tmp 4],.r [.mk' 4 0] [0,1] (.seq (.r [.mk' 5 0] [0,1,5] (.block 0 (.loop [0,1,5] Zw0))) (.r [.m 26 1,.m 4 26] [4] .ret))⟩
theorem Zb2o:tbl 221=some Zbkv:=Zc Tryz.func221 (by kernel_rfl) (by kernel_rfl)
def Zr2:MCode :=.we [.m 6 0,.bk 7 .gtr 6 0] [0,3,7] 7 0 (.block 1 (.r [.m 8 0,.bk 9 .rem 8 10,.o 10 (.bin .add (.k 48) (.s 9)),.o 11 (.conv .u8 (.s 10)),.o 12 (.bslice 5 1 1 [.int .u8 0] [(0,.s 11)]),.o 13 (.tostr (.s 12)),.m 14 3,.b 15 .add 13 14,.m 3 15] [0,3] (.reg [.m 16 0,.bk 17 .quo 16 10,.m 0 17] [0,3])))
def Z5a:MFun:=⟨1,20,[.tmp 2],.r [.o 2 (.mov (.c (.t (.str ⟨#[]⟩))))] [0] (.wc [.m 4 0,.bk 5 .leq 4 0] [0,5] 5 (.r [.o 2 (.mov (.c (.t (.str ⟨#[109,48]⟩))))] [2] .ret) (.r [.o 3 (.mov (.c (.t (.str ⟨#[]⟩))))] [0,3] (.seq (.block 0 (.loop [0,3] Zr2)) (.r [.m 18 3,.o 19 (.bin .add (.c (.t (.str ⟨#[109]⟩))) (.s 18)),.m 2 19] [2] .ret))))⟩
theorem Zbkw:tbl 222=some Z5a:=Zc Tryz.func222 (by kernel_rfl) (by kernel_rfl)
def Zbkx:MFun:=⟨2,19,[.tmp 4],.r [.bx 2 0,.mk' 4 0] [1,2] (.r [.m 5 1,.fa 6 0 2,.l 7 6,.o 8 (.len true (.s 7)),.b 9 .sub 5 8,.m 1 9] [1,2] (.wc [.m 10 1,.bk 11 .lss 10 0] [1,2,11] 11 (.r [.mk' 4 (-1)] [4] .ret) (.r [.fa 12 2 2,.l 13 12,.m 14 1,.cl 15 78 [13,14],.m 1 15] [1] (.wc [.m 16 1,.bk 17 .lss 16 0] [1,17] 17 (.r [.mk' 4 (-1)] [4] .ret) (.r [.m 18 1,.m 4 18] [4] .ret)))))⟩
theorem Zb2p:tbl 223=some Zbkx:=Zc Tryz.func223 (by kernel_rfl) (by kernel_rfl)
def Zbky:MFun:=⟨1,15,[.cell 2 (some 3)],.r [.bx 1 0,.o 2 (.alloc [.t (.str ⟨#[]⟩),.t .z,.t .nil])] [1,2] (.r [.o 3 (.alloc [.t (.str ⟨#[]⟩),.t .z,.t .nil])] [1,2,3] (.r [.fa 4 0 1,.l 5 4,.fa 6 0 3,.st 1 6 5] [1,2,3] (.r [.fa 7 1 1,.l 8 7,.fa 9 1 3,.st 1 9 8] [1,2,3] (.r [.fa 10 2 1,.l 11 10,.cl 12 93 [11],.fa 13 2 3,.st 1 13 12] [2,3] (.r [.ln 14 3 3,.st 3 2 14] [2] .ret)))))⟩
theorem Zb2q:tbl 228=some Zbky:=Zc Tryz.func228 (by kernel_rfl) (by kernel_rfl)
def Zbkz:MFun:=⟨2,21,[.tmp 4],.r [.bx 2 0,.bx 3 1,.o 4 (.mov (.q false))] [2,3] (.wc [.fa 5 0 2,.l 6 5,.fa 7 0 3,.l 8 7,.b 9 .neq 6 8] [2,3,9] 9 (.r [.o 4 (.mov (.q false))] [4] .ret) (.wc [.fa 10 1 2,.l 11 10,.fa 12 1 3,.l 13 12,.b 14 .neq 11 13] [2,3,14] 14 (.r [.o 4 (.mov (.q false))] [4] .ret) (.wc [.fa 15 2 2,.l 16 15,.fa 17 2 3,.l 18 17,.cl 19 102 [16,18],.o 20 (.un .not (.s 19))] [20] 20 (.r [.o 4 (.mov (.q false))] [4] .ret) (.r [.o 4 (.mov (.q true))] [4] .ret))))⟩
theorem Zb2r:tbl 233=some Zbkz:=Zc Tryz.func233 (by kernel_rfl) (by kernel_rfl)
def Zbk0:MFun:=⟨2,20,[.tmp 4],.r [.bx 2 0,.bx 3 1,.o 4 (.mov (.q false))] [2,3] (.wc [.fa 5 0 2,.l 6 5,.fa 7 0 3,.l 8 7,.b 9 .neq 6 8] [2,3,9] 9 (.r [.o 4 (.mov (.q false))] [4] .ret) (.wc [.fa 10 1 2,.l 11 10,.fa 12 1 3,.l 13 12,.b 14 .neq 11 13] [2,3,14] 14 (.r [.o 4 (.mov (.q false))] [4] .ret) (.wc [.fa 15 2 2,.l 16 15,.fa 17 2 3,.l 18 17,.b 19 .neq 16 18] [19] 19 (.r [.o 4 (.mov (.q false))] [4] .ret) (.r [.o 4 (.mov (.q true))] [4] .ret))))⟩
theorem Zb2s:tbl 238=some Zbk0:=Zc Tryz.func238 (by kernel_rfl) (by kernel_rfl)
def Zbk1:MFun:=⟨1,14,[.cell 2 (some 3)],.r [.bx 1 0,.o 2 (.alloc [.t .z,.t .z,.t .z])] [1,2] (.r [.o 3 (.alloc [.t .z,.t .z,.t .z])] [1,2,3] (.r [.fa 4 0 1,.l 5 4,.fa 6 0 3,.st 1 6 5] [1,2,3] (.r [.fa 7 1 1,.l 8 7,.fa 9 1 3,.st 1 9 8] [1,2,3] (.r [.fa 10 2 1,.l 11 10,.fa 12 2 3,.st 1 12 11] [2,3] (.r [.ln 13 3 3,.st 3 2 13] [2] .ret)))))⟩
theorem Zb2t:tbl 279=some Zbk1:=Zc Tryz.func279 (by kernel_rfl) (by kernel_rfl)
def Zbk2:MFun:=⟨1,11,[.cell 2 (some 2)],.r [.bx 1 0,.o 2 (.alloc [.t .z,.t .z])] [1,2] (.r [.o 3 (.alloc [.t .z,.t .z])] [1,2,3] (.r [.fa 4 0 1,.l 5 4,.fa 6 0 3,.st 1 6 5] [1,2,3] (.r [.fa 7 1 1,.l 8 7,.fa 9 1 3,.st 1 9 8] [2,3] (.r [.ln 10 2 3,.st 2 2 10] [2] .ret))))⟩
theorem Zb2u:tbl 294=some Zbk2:=Zc Tryz.func294 (by kernel_rfl) (by kernel_rfl)
def Zbk3:MFun:=⟨2,15,[.tmp 4],.r [.bx 2 0,.bx 3 1,.o 4 (.mov (.q false))] [2,3] (.wc [.fa 5 0 2,.l 6 5,.fa 7 0 3,.l 8 7,.b 9 .neq 6 8] [2,3,9] 9 (.r [.o 4 (.mov (.q false))] [4] .ret) (.wc [.fa 10 1 2,.l 11 10,.fa 12 1 3,.l 13 12,.b 14 .neq 11 13] [14] 14 (.r [.o 4 (.mov (.q false))] [4] .ret) (.r [.o 4 (.mov (.q true))] [4] .ret)))⟩
theorem Zb2v:tbl 299=some Zbk3:=Zc Tryz.func299 (by kernel_rfl) (by kernel_rfl)
theorem l_toIntS(xs:List Int)(h:SmA xs)(fr:List Fr):∀i,i≤xs.length→EvL C fr [0,3,4] Zwn ⟨[(0,L 1 (xs.map ic)),(3,.own 0),(4,I i)],[[]],[.arr Zb4 1 true (fill ic [.int .i64 0] xs i)]⟩ =
  EvX C fr (.x 0) ⟨[(0,L 1 (xs.map ic)),(3,.own 0),(4,I xs.length),(11,Bo false)],[[]],[.arr Zb4 1 true (xs.map ic)]⟩:=by
 have hl:xs.length≤4294967296:=h;refine down xs.length ?_ ?_
 ·rw[Zf Zwn.eq_1];simp[Zll]
 ·intro i hi ih;rw[Zf Zwn.eq_1,←ih];have h1:=Zln (f:=ic) (z:=[.int .i64 0]) hi;have h3:=Zlm (f:=ic) (z:=[.int .i64 0]) (Yc9 hi);have h4:IntKind.wrap .i64 ((i:Int)+1)=(i:Int)+1:=Zq (by omega) (by omega);simp at h1;simp[hi,h3,h4,h1]
theorem Zw1(xs:List Int)(h:SmA xs):C Zboh [L 1 (xs.map ic)] []=some (.own 0,[.arr Zb4 1 true (xs.map ic)]):=by
 refine run Zb13 rfl ?_;have hl:xs.length≤4294967296:=h;have h1:∀b,b≤4096→xs.length*b≤room:=fun b hb=>Ys (Yb5 hl hb) (by decide)
 have h2:(xs.length:Int)≤140737488355328:=by omega
 have h3:=fun fr=>l_toIntS xs h fr 0 (Ya _)
 simp[Zlk]at h3;simp[Zbke,h1,h2,h3]
theorem l_eqIntS(xs ys:List Int)(h:SmA xs)(hl:ys.length=xs.length)(fr:List Fr):∀i,i≤xs.length→EvL C fr [0,1,5] Zwk ⟨[(0,L 1 (xs.map ic)),(1,L 1 (ys.map ic)),(5,I i)],[[]],[]⟩ =
  if xs.drop i=ys.drop i then EvX C fr (.x 0) ⟨[(0,L 1 (xs.map ic)),(1,L 1 (ys.map ic)),(5,I xs.length),(14,Bo false)],[[]],[]⟩else EvX C fr .r ⟨[(4,Bo false)],[[]],[]⟩:=by
 have hm:xs.length≤4294967296:=h;refine down xs.length ?_ ?_
 ·rw[Zf Zwk.eq_1];simp[hl,Ycj]
 ·intro i hi ih;have hi2:i<ys.length:=by omega
  have h4:IntKind.wrap .i64 ((i:Int)+1)=(i:Int)+1:=Zq (by omega) (by omega);rw[Zf Zwk.eq_1];simp +decide[hi,hi2,h4];simp at ih;simp only[Zlo hi hi2,ih];split<;>first|(simp_all;done)|grind
theorem Zw2(xs ys:List Int)(h:SmA xs):C Zbnr [L 1 (xs.map ic),L 1 (ys.map ic)] []=some (Bo (decide (xs=ys)),[]):=by
 refine run Zb1d rfl ?_;by_cases hl:ys.length=xs.length
 ·have h3:=fun fr=>l_eqIntS xs ys h hl fr 0 (Ya _)
  simp at h3;simp[Z42,h3,hl];split<;>simp_all
 ·have h1:xs≠ys:=fun h=>hl (by rw[h])
  have h2:¬((xs.length:Int)=ys.length):=by omega
  simp[Z42,h1,h2]
@[simp] theorem Z5b(es:List (List T))(left:Int):C Zbod [L 1 es,I left] []=some (I (sz1 es.length left),[]):=by
 refine run Zb1z rfl ?_;simp[Zbka,sz1];split<;>simp_all
theorem Zb2w(xs:List (List Int))(h:SmL SmA xs)(fr:List Fr):∀i,i≤xs.length→EvL C fr [0,3,4] Zwo ⟨[(0,L 1 (xs.map isc)),(3,.own 0),(4,I i)],[[]],[.arr Zls 1 true (fill isc [.lst 1 []] xs i)]⟩ =
  EvX C fr (.x 0) ⟨[(0,L 1 (xs.map isc)),(3,.own 0),(4,I xs.length),(11,Bo false)],[[]],[.arr Zls 1 true (xs.map isc)]⟩:=by
 have hl:xs.length≤4294967296:=h.1;refine down xs.length ?_ ?_
 ·rw[Zf Zwo.eq_1];simp[Zll]
 ·intro i hi ih;rw[Zf Zwo.eq_1,←ih];have h1:=Zln (f:=isc) (z:=[.lst 1 []]) hi;have h3:=Zlm (f:=isc) (z:=[.lst 1 []]) (Yc9 hi);have h4:IntKind.wrap .i64 ((i:Int)+1)=(i:Int)+1:=Zq (by omega) (by omega);simp at h1;simp[hi,Zw1 _ (h.2 _ (Yd hi)),h3,h4,h1]
theorem Zb2x(xs:List (List Int))(h:SmL SmA xs):C Zboi [L 1 (xs.map isc)] []=some (.own 0,[.arr Zls 1 true (xs.map isc)]):=by
 refine run Zb14 rfl ?_;have hl:xs.length≤4294967296:=h.1;have h1:∀b,b≤4096→xs.length*b≤room:=fun b hb=>Ys (Yb5 hl hb) (by decide)
 have h2:(xs.length:Int)≤140737488355328:=by omega
 have h3:=fun fr=>Zb2w xs h fr 0 (Ya _)
 simp[Zlk]at h3;simp[Zbkf,h1,h2,h3]
theorem Zb2y(xs ys:List (List Int))(h:SmL SmA xs)(hl:ys.length=xs.length)(fr:List Fr):∀i,i≤xs.length→EvL C fr [0,1,5] Zwq ⟨[(0,L 1 (xs.map isc)),(1,L 1 (ys.map isc)),(5,I i)],[[]],[]⟩ =
  if xs.drop i=ys.drop i then EvX C fr (.x 0) ⟨[(0,L 1 (xs.map isc)),(1,L 1 (ys.map isc)),(5,I xs.length),(14,Bo false)],[[]],[]⟩else EvX C fr .r ⟨[(4,Bo false)],[[]],[]⟩:=by
 have hm:xs.length≤4294967296:=h.1;refine down xs.length ?_ ?_
 ·rw[Zf Zwq.eq_1];simp[hl,Ycj]
 ·intro i hi ih;have hi2:i<ys.length:=by omega
  have h4:IntKind.wrap .i64 ((i:Int)+1)=(i:Int)+1:=Zq (by omega) (by omega);rw[Zf Zwq.eq_1];simp +decide[hi,hi2,Zw2 _ _ (h.2 _ (Yd hi)),h4];simp at ih;simp only[Zlo hi hi2,ih];split<;>first|(simp_all;done)|grind
theorem Zb2z(xs ys:List (List Int))(h:SmL SmA xs):C Zbol [L 1 (xs.map isc),L 1 (ys.map isc)] []=some (Bo (decide (xs=ys)),[]):=by
 refine run Zb17 rfl ?_;by_cases hl:ys.length=xs.length
 ·have h3:=fun fr=>Zb2y xs ys h hl fr 0 (Ya _)
  simp at h3;simp[Z45,h3,hl];split<;>simp_all
 ·have h1:xs≠ys:=fun h=>hl (by rw[h])
  have h2:¬((xs.length:Int)=ys.length):=by omega
  simp[Z45,h1,h2]
theorem Zb20(xs:List (List Int))(h:OkL (OkL OkI) xs)(fr:List Fr):∀i,i≤xs.length→∀left:Int,
  (EvL C fr [0,1,5] Zk2 ⟨[(0,L 1 (xs.map isc)),(1,I left),(5,I i)],[[]],[]⟩=EvX C fr .r ⟨[(4,I (-1))],[[]],[]⟩∧Zb7 szI (xs.drop i) left=-1) ∨
  EvL C fr [0,1,5] Zk2 ⟨[(0,L 1 (xs.map isc)),(1,I left),(5,I i)],[[]],[]⟩=EvX C fr (.x 0) ⟨[(0,L 1 (xs.map isc)),(1,I (Zb7 szI (xs.drop i) left)),(5,I xs.length),(15,Bo false)],[[]],[]⟩:=by
 have hm:maxLen≤9223372036854775807:=by decide
 have hl:=h.1;refine down xs.length ?_ ?_
 ·intro left;right;rw[Zf Zk2.eq_1];simp[Ycj,Zb7]
 ·intro i hi ih left;have h4:IntKind.wrap .i64 ((i:Int)+1)=(i:Int)+1:=Zq (by omega) (by omega);have e:EvL C fr [0,1,5] Zk2 ⟨[(0,L 1 (xs.map isc)),(1,I left),(5,I i)],[[]],[]⟩=if szI xs[i] left<0 then EvX C fr .r ⟨[(4,I (-1))],[[]],[]⟩else EvL C fr [0,1,5] Zk2 ⟨[(0,L 1 (xs.map isc)),(1,I (szI xs[i] left)),(5,I ((i+1:Nat):Int))],[[]],[]⟩:=by
   rw[Zf Zk2.eq_1];simp[hi,Z5b,h4]
  rw[e,Yg hi,Zb7];split
  ·exact .inl ⟨rfl,rfl⟩
  ·exact ih _
theorem Zb21(xs:List (List Int))(left:Int)(h:OkL (OkL OkI) xs):C Zboe [L 1 (xs.map isc),I left] []=some (I (szL szI xs left),[]):=by
 refine run Zb10 rfl ?_;have h3:=fun fr l=>Zb20 xs h fr 0 (Ya _) l
 simp at h3;simp[Zbkb,szL,Zw,sz1];split
 ·simp_all
 ·rcases h3 [.blk 0,.seq _,.fin _ _] (IntKind.wrap .i64 (left-xs.length))with⟨h5,h6⟩|h5
  ·rw[h5];simp[h6]
  ·rw[h5];simp
theorem Zb22(x0:ByteArray)(x1:Int)(x2:List (List Int))(h2:SmL SmA x2):C Zbo4 [.agg [.t (.str x0),I x1,.t (tII x2)]] []=some (.agg [.t (.str x0),I x1,.own 0],[.arr Zls 1 true (x2.map isc)]):=by
 refine run Zb2q rfl ?_;simp[Zbky,Zb2x _ h2]
theorem Zb23(x0:ByteArray)(x1:Int)(x2:List (List Int))(y0:ByteArray)(y1:Int)(y2:List (List Int))(h2:SmL SmA x2):C Zbo5 [.agg [.t (.str x0),I x1,.t (tII x2)],.agg [.t (.str y0),I y1,.t (tII y2)]] []=some (Bo (decide (x0=y0∧x1=y1∧x2=y2)),[]):=by
 refine run Zb2r rfl ?_;simp[Zbkz,Zb2z _ _ h2]
 repeat' split
 all_goals first|(simp_all;done)|grind
theorem Zb24(x0:ByteArray)(x1:Int)(x2:List (List Int))(left:Int)(h2:OkL (OkL OkI) x2):C Zbo3 [.agg [.t (.str x0),I x1,.t (tII x2)],I left] []=some (I (Zj.sz ⟨x0,x1,x2⟩ left),[]):=by
 refine run Zb2p rfl ?_;simp[Zbkx,Zb21 _ _ h2,Zj.sz,Zw,sz1]
 repeat' split
 all_goals first|(simp_all;done)|grind
theorem Zb25(xs:List Zj)(h:SmL Zj.small xs)(fr:List Fr):∀i,i≤xs.length→EvL C fr [0,3,4] Zws ⟨[(0,L 3 (xs.map Zj.c)),(3,.own 0),(4,I i)],[[]],[.arr Ztf 3 true (fill Zj.c [.str ⟨#[]⟩,.int .i64 0,.lst 1 []] xs i)]⟩ =
  EvX C fr (.x 0) ⟨[(0,L 3 (xs.map Zj.c)),(3,.own 0),(4,I xs.length),(11,Bo false)],[[]],[.arr Ztf 3 true (xs.map Zj.c)]⟩:=by
 have hl:xs.length≤4294967296:=h.1;refine down xs.length ?_ ?_
 ·rw[Zf Zws.eq_1];simp[Zll]
 ·intro i hi ih;rw[Zf Zws.eq_1,←ih];have h1:=Zln (f:=Zj.c) (z:=[.str ⟨#[]⟩,.int .i64 0,.lst 1 []]) hi;have h3:=Zlm (f:=Zj.c) (z:=[.str ⟨#[]⟩,.int .i64 0,.lst 1 []]) (Yc9 hi);have h4:IntKind.wrap .i64 ((i:Int)+1)=(i:Int)+1:=Zq (by omega) (by omega);simp at h1;simp[hi,Zb22 _ _ _ (h.2 _ (Yd hi)).2,h3,h4,h1]
theorem Zb26(xs:List Zj)(h:SmL Zj.small xs):C Zbop [L 3 (xs.map Zj.c)] []=some (.own 0,[.arr Ztf 3 true (xs.map Zj.c)]):=by
 refine run Zb2b rfl ?_;have hl:xs.length≤4294967296:=h.1;have h1:∀b,b≤4096→xs.length*b≤room:=fun b hb=>Ys (Yb5 hl hb) (by decide)
 have h2:(xs.length:Int)≤140737488355328:=by omega
 have h3:=fun fr=>Zb25 xs h fr 0 (Ya _)
 simp[Zlk]at h3;simp[Zbkl,h1,h2,h3]
theorem Zb27(xs ys:List Zj)(h:SmL Zj.small xs)(hl:ys.length=xs.length)(fr:List Fr):∀i,i≤xs.length→EvL C fr [0,1,5] Zwt ⟨[(0,L 3 (xs.map Zj.c)),(1,L 3 (ys.map Zj.c)),(5,I i)],[[]],[]⟩ =
  if xs.drop i=ys.drop i then EvX C fr (.x 0) ⟨[(0,L 3 (xs.map Zj.c)),(1,L 3 (ys.map Zj.c)),(5,I xs.length),(14,Bo false)],[[]],[]⟩else EvX C fr .r ⟨[(4,Bo false)],[[]],[]⟩:=by
 have hm:xs.length≤4294967296:=h.1;refine down xs.length ?_ ?_
 ·rw[Zf Zwt.eq_1];simp[hl,Ycj]
 ·intro i hi ih;have hi2:i<ys.length:=by omega
  have h4:IntKind.wrap .i64 ((i:Int)+1)=(i:Int)+1:=Zq (by omega) (by omega);rw[Zf Zwt.eq_1];simp +decide[hi,hi2,Zb23 _ _ _ _ _ _ (h.2 _ (Yd hi)).2,h4];simp at ih;simp only[Zlo hi hi2,ih,Zj.ext_iff];split<;>first|(simp_all;done)|grind
theorem Zb28(xs ys:List Zj)(h:SmL Zj.small xs):C Zboq [L 3 (xs.map Zj.c),L 3 (ys.map Zj.c)] []=some (Bo (decide (xs=ys)),[]):=by
 refine run Zb2c rfl ?_;by_cases hl:ys.length=xs.length
 ·have h3:=fun fr=>Zb27 xs ys h hl fr 0 (Ya _)
  simp at h3;simp[Z47,h3,hl];split<;>simp_all
 ·have h1:xs≠ys:=fun h=>hl (by rw[h])
  have h2:¬((xs.length:Int)=ys.length):=by omega
  simp[Z47,h1,h2]
theorem Zb29(xs:List Zj)(h:OkL Zj.okay xs)(fr:List Fr):∀i,i≤xs.length→∀left:Int,
  (EvL C fr [0,1,5] Zk3 ⟨[(0,L 3 (xs.map Zj.c)),(1,I left),(5,I i)],[[]],[]⟩=EvX C fr .r ⟨[(4,I (-1))],[[]],[]⟩∧Zb7 Zj.sz (xs.drop i) left=-1) ∨
  EvL C fr [0,1,5] Zk3 ⟨[(0,L 3 (xs.map Zj.c)),(1,I left),(5,I i)],[[]],[]⟩=EvX C fr (.x 0) ⟨[(0,L 3 (xs.map Zj.c)),(1,I (Zb7 Zj.sz (xs.drop i) left)),(5,I xs.length),(15,Bo false)],[[]],[]⟩:=by
 have hm:maxLen≤9223372036854775807:=by decide
 have hl:=h.1;refine down xs.length ?_ ?_
 ·intro left;right;rw[Zf Zk3.eq_1];simp[Ycj,Zb7]
 ·intro i hi ih left;have h4:IntKind.wrap .i64 ((i:Int)+1)=(i:Int)+1:=Zq (by omega) (by omega);have e:EvL C fr [0,1,5] Zk3 ⟨[(0,L 3 (xs.map Zj.c)),(1,I left),(5,I i)],[[]],[]⟩=if Zj.sz xs[i] left<0 then EvX C fr .r ⟨[(4,I (-1))],[[]],[]⟩else EvL C fr [0,1,5] Zk3 ⟨[(0,L 3 (xs.map Zj.c)),(1,I (Zj.sz xs[i] left)),(5,I ((i+1:Nat):Int))],[[]],[]⟩:=by
   rw[Zf Zk3.eq_1];simp[hi,Zb24 _ _ _ _ (h.2 _ (Yd hi)).2.2,h4]
  rw[e,Yg hi,Zb7];split
  ·exact .inl ⟨rfl,rfl⟩
  ·exact ih _
theorem Zb3a(xs:List Zj)(left:Int)(h:OkL Zj.okay xs):C Zboo [L 3 (xs.map Zj.c),I left] []=some (I (szL Zj.sz xs left),[]):=by
 refine run Zb2a rfl ?_;have h3:=fun fr l=>Zb29 xs h fr 0 (Ya _) l
 simp at h3;simp[Zbkk,szL,Zw,sz1];split
 ·simp_all
 ·rcases h3 [.blk 0,.seq _,.fin _ _] (IntKind.wrap .i64 (left-xs.length))with⟨h5,h6⟩|h5
  ·rw[h5];simp[h6]
  ·rw[h5];simp
theorem Zb3b(x0:List Zj)(h0:SmL Zj.small x0):C Zbny [.agg [.t (.lst 3 (x0.map Zj.c))]] []=some (.agg [.own 0],[.arr Ztf 3 true (x0.map Zj.c)]):=by
 refine run Zb1k rfl ?_;simp[Zbjv,Zb26 _ h0]
theorem Zb3c(x0 y0:List Zj)(h0:SmL Zj.small x0):C Zbnz [.agg [.t (.lst 3 (x0.map Zj.c))],.agg [.t (.lst 3 (y0.map Zj.c))]] []=some (Bo (decide (x0=y0)),[]):=by
 refine run Zb1l rfl ?_;simp[Zbjw,Zb28 _ _ h0]
 repeat' split
 all_goals first|(simp_all;done)|grind
theorem Zb3d(x0:List Zj)(left:Int)(h0:OkL Zj.okay x0):C Zbnx [.agg [.t (.lst 3 (x0.map Zj.c))],I left] []=some (I (Zl.sz ⟨x0⟩ left),[]):=by
 refine run Zb1j rfl ?_;simp[Zbju,Zb3a _ _ h0,Zl.sz,Zw,sz1]
 repeat' split
 all_goals first|(simp_all;done)|grind
theorem c_toAtom(x0:ByteArray)(x1:List Int)(h1:SmA x1):C Zboz [.agg [.t (.str x0),.t (tI x1)]] []=some (.agg [.t (.str x0),.own 0],[.arr Zb4 1 true (x1.map ic)]):=by
 refine run Zb2l rfl ?_;simp[Zbkt,Zw1 _ h1]
theorem c_eqAtom(x0:ByteArray)(x1:List Int)(y0:ByteArray)(y1:List Int)(h1:SmA x1):C Zbo1 [.agg [.t (.str x0),.t (tI x1)],.agg [.t (.str y0),.t (tI y1)]] []=some (Bo (decide (x0=y0∧x1=y1)),[]):=by
 refine run Zb2n rfl ?_;simp[Zbku,Zw2 _ _ h1]
 repeat' split
 all_goals first|(simp_all;done)|grind
theorem c_szAtom(x0:ByteArray)(x1:List Int)(left:Int) :C Zbox [.agg [.t (.str x0),.t (tI x1)],I left] []=some (I (Atom.sz ⟨x0,x1⟩ left),[]):=by
 refine run Zb2j rfl ?_;simp[Zbkr,Z5b,Atom.sz,Zw,sz1]
 repeat' split
 all_goals first|(simp_all;done)|grind
theorem Zb3e(xs:List Atom)(h:SmL Atom.small xs)(fr:List Fr):∀i,i≤xs.length→EvL C fr [0,3,4] Zwm ⟨[(0,L 2 (xs.map Atom.c)),(3,.own 0),(4,I i)],[[]],[.arr Zte 2 true (fill Atom.c [.str ⟨#[]⟩,.lst 1 []] xs i)]⟩ =
  EvX C fr (.x 0) ⟨[(0,L 2 (xs.map Atom.c)),(3,.own 0),(4,I xs.length),(11,Bo false)],[[]],[.arr Zte 2 true (xs.map Atom.c)]⟩:=by
 have hl:xs.length≤4294967296:=h.1;refine down xs.length ?_ ?_
 ·rw[Zf Zwm.eq_1];simp[Zll]
 ·intro i hi ih;rw[Zf Zwm.eq_1,←ih];have h1:=Zln (f:=Atom.c) (z:=[.str ⟨#[]⟩,.lst 1 []]) hi;have h3:=Zlm (f:=Atom.c) (z:=[.str ⟨#[]⟩,.lst 1 []]) (Yc9 hi);have h4:IntKind.wrap .i64 ((i:Int)+1)=(i:Int)+1:=Zq (by omega) (by omega);simp at h1;simp[hi,c_toAtom _ _ (h.2 _ (Yd hi)).2,h3,h4,h1]
theorem Zb3f(xs:List Atom)(h:SmL Atom.small xs):C Zbog [L 2 (xs.map Atom.c)] []=some (.own 0,[.arr Zte 2 true (xs.map Atom.c)]):=by
 refine run Zb12 rfl ?_;have hl:xs.length≤4294967296:=h.1;have h1:∀b,b≤4096→xs.length*b≤room:=fun b hb=>Ys (Yb5 hl hb) (by decide)
 have h2:(xs.length:Int)≤140737488355328:=by omega
 have h3:=fun fr=>Zb3e xs h fr 0 (Ya _)
 simp[Zlk]at h3;simp[Zbkd,h1,h2,h3]
theorem Zb3g(xs ys:List Atom)(h:SmL Atom.small xs)(hl:ys.length=xs.length)(fr:List Fr):∀i,i≤xs.length→EvL C fr [0,1,5] Zwp ⟨[(0,L 2 (xs.map Atom.c)),(1,L 2 (ys.map Atom.c)),(5,I i)],[[]],[]⟩ =
  if xs.drop i=ys.drop i then EvX C fr (.x 0) ⟨[(0,L 2 (xs.map Atom.c)),(1,L 2 (ys.map Atom.c)),(5,I xs.length),(14,Bo false)],[[]],[]⟩else EvX C fr .r ⟨[(4,Bo false)],[[]],[]⟩:=by
 have hm:xs.length≤4294967296:=h.1;refine down xs.length ?_ ?_
 ·rw[Zf Zwp.eq_1];simp[hl,Ycj]
 ·intro i hi ih;have hi2:i<ys.length:=by omega
  have h4:IntKind.wrap .i64 ((i:Int)+1)=(i:Int)+1:=Zq (by omega) (by omega);rw[Zf Zwp.eq_1];simp +decide[hi,hi2,c_eqAtom _ _ _ _ (h.2 _ (Yd hi)).2,h4];simp at ih;simp only[Zlo hi hi2,ih,Atom.ext_iff];split<;>first|(simp_all;done)|grind
theorem Zb3h(xs ys:List Atom)(h:SmL Atom.small xs):C Zbok [L 2 (xs.map Atom.c),L 2 (ys.map Atom.c)] []=some (Bo (decide (xs=ys)),[]):=by
 refine run Zb16 rfl ?_;by_cases hl:ys.length=xs.length
 ·have h3:=fun fr=>Zb3g xs ys h hl fr 0 (Ya _)
  simp at h3;simp[Z44,h3,hl];split<;>simp_all
 ·have h1:xs≠ys:=fun h=>hl (by rw[h])
  have h2:¬((xs.length:Int)=ys.length):=by omega
  simp[Z44,h1,h2]
theorem Zb3i(xs:List Atom)(h:OkL Atom.okay xs)(fr:List Fr):∀i,i≤xs.length→∀left:Int,
  (EvL C fr [0,1,5] Zk1 ⟨[(0,L 2 (xs.map Atom.c)),(1,I left),(5,I i)],[[]],[]⟩=EvX C fr .r ⟨[(4,I (-1))],[[]],[]⟩∧Zb7 Atom.sz (xs.drop i) left=-1) ∨
  EvL C fr [0,1,5] Zk1 ⟨[(0,L 2 (xs.map Atom.c)),(1,I left),(5,I i)],[[]],[]⟩=EvX C fr (.x 0) ⟨[(0,L 2 (xs.map Atom.c)),(1,I (Zb7 Atom.sz (xs.drop i) left)),(5,I xs.length),(15,Bo false)],[[]],[]⟩:=by
 have hm:maxLen≤9223372036854775807:=by decide
 have hl:=h.1;refine down xs.length ?_ ?_
 ·intro left;right;rw[Zf Zk1.eq_1];simp[Ycj,Zb7]
 ·intro i hi ih left;have h4:IntKind.wrap .i64 ((i:Int)+1)=(i:Int)+1:=Zq (by omega) (by omega);have e:EvL C fr [0,1,5] Zk1 ⟨[(0,L 2 (xs.map Atom.c)),(1,I left),(5,I i)],[[]],[]⟩=if Atom.sz xs[i] left<0 then EvX C fr .r ⟨[(4,I (-1))],[[]],[]⟩else EvL C fr [0,1,5] Zk1 ⟨[(0,L 2 (xs.map Atom.c)),(1,I (Atom.sz xs[i] left)),(5,I ((i+1:Nat):Int))],[[]],[]⟩:=by
   rw[Zf Zk1.eq_1];simp[hi,c_szAtom,h4]
  rw[e,Yg hi,Zb7];split
  ·exact .inl ⟨rfl,rfl⟩
  ·exact ih _
theorem Zb3j(xs:List Atom)(left:Int)(h:OkL Atom.okay xs):C Zboc [L 2 (xs.map Atom.c),I left] []=some (I (szL Atom.sz xs left),[]):=by
 refine run Zb1y rfl ?_;have h3:=fun fr l=>Zb3i xs h fr 0 (Ya _) l
 simp at h3;simp[Zbj9,szL,Zw,sz1];split
 ·simp_all
 ·rcases h3 [.blk 0,.seq _,.fin _ _] (IntKind.wrap .i64 (left-xs.length))with⟨h5,h6⟩|h5
  ·rw[h5];simp[h6]
  ·rw[h5];simp
theorem Zb3k(x0:Int)(x1:List Atom)(h1:SmL Atom.small x1):C Zbnq [.agg [I x0,.t (.lst 2 (x1.map Atom.c))]] []=some (.agg [I x0,.own 0],[.arr Zte 2 true (x1.map Atom.c)]):=by
 refine run Zb1c rfl ?_;simp[Zbjn,Zb3f _ h1]
theorem Zb3l(x0:Int)(x1:List Atom)(y0:Int)(y1:List Atom)(h1:SmL Atom.small x1):C Zbnt [.agg [I x0,.t (.lst 2 (x1.map Atom.c))],.agg [I y0,.t (.lst 2 (y1.map Atom.c))]] []=some (Bo (decide (x0=y0∧x1=y1)),[]):=by
 refine run Zb1f rfl ?_;simp[Zbjp,Zb3h _ _ h1]
 repeat' split
 all_goals first|(simp_all;done)|grind
theorem Zb3m(x0:Int)(x1:List Atom)(left:Int)(h1:OkL Atom.okay x1):C Zbno [.agg [I x0,.t (.lst 2 (x1.map Atom.c))],I left] []=some (I (Zd.sz ⟨x0,x1⟩ left),[]):=by
 refine run Zb1a rfl ?_;simp[Zbjl,Zb3j _ _ h1,Zd.sz,Zw,sz1]
 repeat' split
 all_goals first|(simp_all;done)|grind
theorem c_toBox(x0 x1:List Int)(h0:SmA x0)(h1:SmA x1):C Zbn6 [.agg [.t (tI x0),.t (tI x1)]] []=some (.agg [.own 0,.own 1],[.arr Zb4 1 true (x0.map ic),.arr Zb4 1 true (x1.map ic)]):=by
 refine run Zb1s rfl ?_;simp[Zbj3,Zw1 _ h0,Zw1 _ h1]
theorem Zbk4(x0 x1 y0 y1:List Int)(h0:SmA x0)(h1:SmA x1):C Zbn7 [.agg [.t (tI x0),.t (tI x1)],.agg [.t (tI y0),.t (tI y1)]] []=some (Bo (decide (x0=y0∧x1=y1)),[]):=by
 refine run Zb1t rfl ?_;simp[Zbj4,Zw2 _ _ h0,Zw2 _ _ h1]
 repeat' split
 all_goals first|(simp_all;done)|grind
theorem c_szBox(x0 x1:List Int)(left:Int) :C Zbn5 [.agg [.t (tI x0),.t (tI x1)],I left] []=some (I (Box.sz ⟨x0,x1⟩ left),[]):=by
 refine run Zb1r rfl ?_;simp[Zbj2,Z5b,Box.sz,Zw,sz1]
 repeat' split
 all_goals first|(simp_all;done)|grind
theorem Zb3n(x0 x1:Int) :C Zbo8 [.agg [I x0,I x1]] []=some (.agg [I x0,I x1],[]):=by
 refine run Zb2u rfl ?_;simp[Zbk2]
theorem Zb3o(x0 x1 y0 y1:Int) :C Zbo9 [.agg [I x0,I x1],.agg [I y0,I y1]] []=some (Bo (decide (x0=y0∧x1=y1)),[]):=by
 refine run Zb2v rfl ?_;simp[Zbk3]
 repeat' split
 all_goals first|(simp_all;done)|grind
theorem Zb3p(xs:List Zh)(h:SmA xs)(fr:List Fr):∀i,i≤xs.length→EvL C fr [0,3,4] Zwy ⟨[(0,L 2 (xs.map Zh.c)),(3,.own 0),(4,I i)],[[]],[.arr Zgr 2 true (fill Zh.c [.int .i64 0,.int .i64 0] xs i)]⟩ =
  EvX C fr (.x 0) ⟨[(0,L 2 (xs.map Zh.c)),(3,.own 0),(4,I xs.length),(11,Bo false)],[[]],[.arr Zgr 2 true (xs.map Zh.c)]⟩:=by
 have hl:xs.length≤4294967296:=h;refine down xs.length ?_ ?_
 ·rw[Zf Zwy.eq_1];simp[Zll]
 ·intro i hi ih;rw[Zf Zwy.eq_1,←ih];have h1:=Zln (f:=Zh.c) (z:=[.int .i64 0,.int .i64 0]) hi;have h3:=Zlm (f:=Zh.c) (z:=[.int .i64 0,.int .i64 0]) (Yc9 hi);have h4:IntKind.wrap .i64 ((i:Int)+1)=(i:Int)+1:=Zq (by omega) (by omega);simp at h1;simp[hi,Zb3n,h3,h4,h1]
theorem Zb3q(xs:List Zh)(h:SmA xs):C Zboy [L 2 (xs.map Zh.c)] []=some (.own 0,[.arr Zgr 2 true (xs.map Zh.c)]):=by
 refine run Zb2k rfl ?_;have hl:xs.length≤4294967296:=h;have h1:∀b,b≤4096→xs.length*b≤room:=fun b hb=>Ys (Yb5 hl hb) (by decide)
 have h2:(xs.length:Int)≤140737488355328:=by omega
 have h3:=fun fr=>Zb3p xs h fr 0 (Ya _)
 simp[Zlk]at h3;simp[Zbks,h1,h2,h3]
theorem Zb3r(xs ys:List Zh)(h:SmA xs)(hl:ys.length=xs.length)(fr:List Fr):∀i,i≤xs.length→EvL C fr [0,1,5] Zwz ⟨[(0,L 2 (xs.map Zh.c)),(1,L 2 (ys.map Zh.c)),(5,I i)],[[]],[]⟩ =
  if xs.drop i=ys.drop i then EvX C fr (.x 0) ⟨[(0,L 2 (xs.map Zh.c)),(1,L 2 (ys.map Zh.c)),(5,I xs.length),(14,Bo false)],[[]],[]⟩else EvX C fr .r ⟨[(4,Bo false)],[[]],[]⟩:=by
 have hm:xs.length≤4294967296:=h;refine down xs.length ?_ ?_
 ·rw[Zf Zwz.eq_1];simp[hl,Ycj]
 ·intro i hi ih;have hi2:i<ys.length:=by omega
  have h4:IntKind.wrap .i64 ((i:Int)+1)=(i:Int)+1:=Zq (by omega) (by omega);rw[Zf Zwz.eq_1];simp +decide[hi,hi2,Zb3o _ _ _ _ ,h4];simp at ih;simp only[Zlo hi hi2,ih,Zh.ext_iff];split<;>first|(simp_all;done)|grind
theorem Zb3s(xs ys:List Zh)(h:SmA xs):C Zbo0 [L 2 (xs.map Zh.c),L 2 (ys.map Zh.c)] []=some (Bo (decide (xs=ys)),[]):=by
 refine run Zb2m rfl ?_;by_cases hl:ys.length=xs.length
 ·have h3:=fun fr=>Zb3r xs ys h hl fr 0 (Ya _)
  simp at h3;simp[Z49,h3,hl];split<;>simp_all
 ·have h1:xs≠ys:=fun h=>hl (by rw[h])
  have h2:¬((xs.length:Int)=ys.length):=by omega
  simp[Z49,h1,h2]
@[simp] theorem Zb3t(es:List (List T))(left:Int):C Zbow [L 2 es,I left] []=some (I (sz1 es.length left),[]):=by
 refine run Zb2i rfl ?_;simp[Zbkq,sz1];split<;>simp_all
theorem Zr3(x0 x1 x2 x3 x4:Int)(x5:List Zh)(h5:SmA x5):C Zbof [.agg [I x0,I x1,I x2,I x3,I x4,.t (.lst 2 (x5.map Zh.c))]] []=some (.agg [I x0,I x1,I x2,I x3,I x4,.own 0],[.arr Zgr 2 true (x5.map Zh.c)]):=by
 refine run Zb11 rfl ?_;simp[Zbkc,Zb3q _ h5]
theorem Zr4(x0 x1 x2 x3 x4:Int)(x5:List Zh)(y0 y1 y2 y3 y4:Int)(y5:List Zh)(h5:SmA x5):C Zboj [.agg [I x0,I x1,I x2,I x3,I x4,.t (.lst 2 (x5.map Zh.c))],.agg [I y0,I y1,I y2,I y3,I y4,.t (.lst 2 (y5.map Zh.c))]] []=some (Bo (decide (x0=y0∧x1=y1∧x2=y2∧x3=y3∧x4=y4∧x5=y5)),[]):=by
 refine run Zb15 rfl ?_;simp[Zbkg,Zb3s _ _ h5]
 repeat' split
 all_goals first|(simp_all;done)|grind
theorem Zb3u(x0 x1 x2 x3 x4:Int)(x5:List Zh)(left:Int) :C Zbob [.agg [I x0,I x1,I x2,I x3,I x4,.t (.lst 2 (x5.map Zh.c))],I left] []=some (I (Zm.sz ⟨x0,x1,x2,x3,x4,x5⟩ left),[]):=by
 refine run Zb1x rfl ?_;simp[Zbj8,Zb3t,Zm.sz,Zw,sz1]
 repeat' split
 all_goals first|(simp_all;done)|grind
theorem Zb3v(x0 x1 x2 x3 x4:Int)(x5:List Zh)(x6 x7 x8 x9 x10:Int)(x11:List Zh)(x12 x13 x14 x15 x16:Int)(x17:List Zh)(x18 x19 x20 x21 x22:Int)(x23:List Zh)(x24 x25 x26 x27 x28:Int)(x29:List Zh)(h5:SmA x5)(h11:SmA x11)(h17:SmA x17)(h23:SmA x23)(h29:SmA x29):C Zbnp [.agg [I x0,I x1,I x2,I x3,I x4,.t (.lst 2 (x5.map Zh.c)),I x6,I x7,I x8,I x9,I x10,.t (.lst 2 (x11.map Zh.c)),I x12,I x13,I x14,I x15,I x16,.t (.lst 2 (x17.map Zh.c)),I x18,I x19,I x20,I x21,I x22,.t (.lst 2 (x23.map Zh.c)),I x24,I x25,I x26,I x27,I x28,.t (.lst 2 (x29.map Zh.c))]] []=some (.agg [I x0,I x1,I x2,I x3,I x4,.own 0,I x6,I x7,I x8,I x9,I x10,.own 1,I x12,I x13,I x14,I x15,I x16,.own 2,I x18,I x19,I x20,I x21,I x22,.own 3,I x24,I x25,I x26,I x27,I x28,.own 4],[.arr Zgr 2 true (x5.map Zh.c),.arr Zgr 2 true (x11.map Zh.c),.arr Zgr 2 true (x17.map Zh.c),.arr Zgr 2 true (x23.map Zh.c),.arr Zgr 2 true (x29.map Zh.c)]):=by
 refine run Zb1b rfl ?_;simp[Zbjm,Zr3 _ _ _ _ _ _ h5,Zr3 _ _ _ _ _ _ h11,Zr3 _ _ _ _ _ _ h17,Zr3 _ _ _ _ _ _ h23,Zr3 _ _ _ _ _ _ h29]
theorem Zb3w(x0 x1 x2 x3 x4:Int)(x5:List Zh)(x6 x7 x8 x9 x10:Int)(x11:List Zh)(x12 x13 x14 x15 x16:Int)(x17:List Zh)(x18 x19 x20 x21 x22:Int)(x23:List Zh)(x24 x25 x26 x27 x28:Int)(x29:List Zh)(y0 y1 y2 y3 y4:Int)(y5:List Zh)(y6 y7 y8 y9 y10:Int)(y11:List Zh)(y12 y13 y14 y15 y16:Int)(y17:List Zh)(y18 y19 y20 y21 y22:Int)(y23:List Zh)(y24 y25 y26 y27 y28:Int)(y29:List Zh)(h5:SmA x5)(h11:SmA x11)(h17:SmA x17)(h23:SmA x23)(h29:SmA x29):C Zbns [.agg [I x0,I x1,I x2,I x3,I x4,.t (.lst 2 (x5.map Zh.c)),I x6,I x7,I x8,I x9,I x10,.t (.lst 2 (x11.map Zh.c)),I x12,I x13,I x14,I x15,I x16,.t (.lst 2 (x17.map Zh.c)),I x18,I x19,I x20,I x21,I x22,.t (.lst 2 (x23.map Zh.c)),I x24,I x25,I x26,I x27,I x28,.t (.lst 2 (x29.map Zh.c))],.agg [I y0,I y1,I y2,I y3,I y4,.t (.lst 2 (y5.map Zh.c)),I y6,I y7,I y8,I y9,I y10,.t (.lst 2 (y11.map Zh.c)),I y12,I y13,I y14,I y15,I y16,.t (.lst 2 (y17.map Zh.c)),I y18,I y19,I y20,I y21,I y22,.t (.lst 2 (y23.map Zh.c)),I y24,I y25,I y26,I y27,I y28,.t (.lst 2 (y29.map Zh.c))]] []=some (Bo (decide (x0=y0∧x1=y1∧x2=y2∧x3=y3∧x4=y4∧x5=y5∧x6=y6∧x7=y7∧x8=y8∧x9=y9∧x10=y10∧x11=y11∧x12=y12∧x13=y13∧x14=y14∧x15=y15∧x16=y16∧x17=y17∧x18=y18∧x19=y19∧x20=y20∧x21=y21∧x22=y22∧x23=y23∧x24=y24∧x25=y25∧x26=y26∧x27=y27∧x28=y28∧x29=y29)),[]):=by
 refine run Zb1e rfl ?_;simp[Zbjo,Zr4 _ _ _ _ _ _ _ _ _ _ _ _ h5,Zr4 _ _ _ _ _ _ _ _ _ _ _ _ h11,Zr4 _ _ _ _ _ _ _ _ _ _ _ _ h17,Zr4 _ _ _ _ _ _ _ _ _ _ _ _ h23,Zr4 _ _ _ _ _ _ _ _ _ _ _ _ h29]
 repeat' split
 all_goals first|(simp_all;done)|grind
theorem Zb3x(x0 x1 x2 x3 x4:Int)(x5:List Zh)(x6 x7 x8 x9 x10:Int)(x11:List Zh)(x12 x13 x14 x15 x16:Int)(x17:List Zh)(x18 x19 x20 x21 x22:Int)(x23:List Zh)(x24 x25 x26 x27 x28:Int)(x29:List Zh)(left:Int) :C Zbnn [.agg [I x0,I x1,I x2,I x3,I x4,.t (.lst 2 (x5.map Zh.c)),I x6,I x7,I x8,I x9,I x10,.t (.lst 2 (x11.map Zh.c)),I x12,I x13,I x14,I x15,I x16,.t (.lst 2 (x17.map Zh.c)),I x18,I x19,I x20,I x21,I x22,.t (.lst 2 (x23.map Zh.c)),I x24,I x25,I x26,I x27,I x28,.t (.lst 2 (x29.map Zh.c))],I left] []=some (I (Zk.sz ⟨⟨x0,x1,x2,x3,x4,x5⟩,⟨x6,x7,x8,x9,x10,x11⟩,⟨x12,x13,x14,x15,x16,x17⟩,⟨x18,x19,x20,x21,x22,x23⟩,⟨x24,x25,x26,x27,x28,x29⟩⟩ left),[]):=by
 refine run Zb09 rfl ?_;simp[Zbjk,Zb3u,Zk.sz,Zw,sz1]
 repeat' split
 all_goals first|(simp_all;done)|grind
theorem Zb3y(x0 x1 x2:Int) :C Zbo7 [.agg [I x0,I x1,I x2]] []=some (.agg [I x0,I x1,I x2],[]):=by
 refine run Zb2t rfl ?_;simp[Zbk1]
theorem Zb3z(x0 x1 x2 y0 y1 y2:Int) :C Zbo6 [.agg [I x0,I x1,I x2],.agg [I y0,I y1,I y2]] []=some (Bo (decide (x0=y0∧x1=y1∧x2=y2)),[]):=by
 refine run Zb2s rfl ?_;simp[Zbk0]
 repeat' split
 all_goals first|(simp_all;done)|grind
theorem Zb30(xs:List Ze)(h:SmA xs)(fr:List Fr):∀i,i≤xs.length→EvL C fr [0,3,4] Zwx ⟨[(0,L 3 (xs.map Ze.c)),(3,.own 0),(4,I i)],[[]],[.arr Ztd 3 true (fill Ze.c [.int .i64 0,.int .i64 0,.int .i64 0] xs i)]⟩ =
  EvX C fr (.x 0) ⟨[(0,L 3 (xs.map Ze.c)),(3,.own 0),(4,I xs.length),(11,Bo false)],[[]],[.arr Ztd 3 true (xs.map Ze.c)]⟩:=by
 have hl:xs.length≤4294967296:=h;refine down xs.length ?_ ?_
 ·rw[Zf Zwx.eq_1];simp[Zll]
 ·intro i hi ih;rw[Zf Zwx.eq_1,←ih];have h1:=Zln (f:=Ze.c) (z:=[.int .i64 0,.int .i64 0,.int .i64 0]) hi;have h3:=Zlm (f:=Ze.c) (z:=[.int .i64 0,.int .i64 0,.int .i64 0]) (Yc9 hi);have h4:IntKind.wrap .i64 ((i:Int)+1)=(i:Int)+1:=Zq (by omega) (by omega);simp at h1;simp[hi,Zb3y,h3,h4,h1]
theorem Zb31(xs:List Ze)(h:SmA xs):C Zbov [L 3 (xs.map Ze.c)] []=some (.own 0,[.arr Ztd 3 true (xs.map Ze.c)]):=by
 refine run Zb2h rfl ?_;have hl:xs.length≤4294967296:=h;have h1:∀b,b≤4096→xs.length*b≤room:=fun b hb=>Ys (Yb5 hl hb) (by decide)
 have h2:(xs.length:Int)≤140737488355328:=by omega
 have h3:=fun fr=>Zb30 xs h fr 0 (Ya _)
 simp[Zlk]at h3;simp[Zbkp,h1,h2,h3]
theorem Zb32(xs ys:List Ze)(h:SmA xs)(hl:ys.length=xs.length)(fr:List Fr):∀i,i≤xs.length→EvL C fr [0,1,5] Zwu ⟨[(0,L 3 (xs.map Ze.c)),(1,L 3 (ys.map Ze.c)),(5,I i)],[[]],[]⟩ =
  if xs.drop i=ys.drop i then EvX C fr (.x 0) ⟨[(0,L 3 (xs.map Ze.c)),(1,L 3 (ys.map Ze.c)),(5,I xs.length),(14,Bo false)],[[]],[]⟩else EvX C fr .r ⟨[(4,Bo false)],[[]],[]⟩:=by
 have hm:xs.length≤4294967296:=h;refine down xs.length ?_ ?_
 ·rw[Zf Zwu.eq_1];simp[hl,Ycj]
 ·intro i hi ih;have hi2:i<ys.length:=by omega
  have h4:IntKind.wrap .i64 ((i:Int)+1)=(i:Int)+1:=Zq (by omega) (by omega);rw[Zf Zwu.eq_1];simp +decide[hi,hi2,Zb3z _ _ _ _ _ _ ,h4];simp at ih;simp only[Zlo hi hi2,ih,Ze.ext_iff];split<;>first|(simp_all;done)|grind
theorem Zb33(xs ys:List Ze)(h:SmA xs):C Zbor [L 3 (xs.map Ze.c),L 3 (ys.map Ze.c)] []=some (Bo (decide (xs=ys)),[]):=by
 refine run Zb2d rfl ?_;by_cases hl:ys.length=xs.length
 ·have h3:=fun fr=>Zb32 xs ys h hl fr 0 (Ya _)
  simp at h3;simp[Z48,h3,hl];split<;>simp_all
 ·have h1:xs≠ys:=fun h=>hl (by rw[h])
  have h2:¬((xs.length:Int)=ys.length):=by omega
  simp[Z48,h1,h2]
@[simp] theorem Zb34(es:List (List T))(left:Int):C Zbou [L 3 es,I left] []=some (I (sz1 es.length left),[]):=by
 refine run Zb2g rfl ?_;simp[Zbko,sz1];split<;>simp_all
theorem c_toPlan(x0:List Ze)(h0:SmA x0):C Zbn4 [.agg [.t (.lst 3 (x0.map Ze.c))]] []=some (.agg [.own 0],[.arr Ztd 3 true (x0.map Ze.c)]):=by
 refine run Zb1q rfl ?_;simp[Zbj1,Zb31 _ h0]
theorem c_eqPlan(x0 y0:List Ze)(h0:SmA x0):C Zbn0 [.agg [.t (.lst 3 (x0.map Ze.c))],.agg [.t (.lst 3 (y0.map Ze.c))]] []=some (Bo (decide (x0=y0)),[]):=by
 refine run Zb1m rfl ?_;simp[Zbjx,Zb33 _ _ h0]
 repeat' split
 all_goals first|(simp_all;done)|grind
theorem c_szPlan(x0:List Ze)(left:Int) :C Zbn3 [.agg [.t (.lst 3 (x0.map Ze.c))],I left] []=some (I (Plan.sz ⟨x0⟩ left),[]):=by
 refine run Zb1p rfl ?_;simp[Zbj0,Zb34,Plan.sz,Zw,sz1]
 repeat' split
 all_goals first|(simp_all;done)|grind
@[simp] theorem c_szKeptS(es:List (List T))(left:Int):C Zboa [L 2 es,I left] []=some (I (sz1 es.length left),[]):=by
 refine run Zb1w rfl ?_;simp[Zbj7,sz1];split<;>simp_all
def mkL{α:Type}(f:α→Int→α)(n:α→Nat):List α→Int→List α
 |[],_=>[]
 |x::xs,k=>f x k::mkL f n xs (k+(n x:Int))
def cnL{α:Type}(n:α→Nat):List α→Nat
 |[]=>0
 |x::xs=>n x+cnL n xs
def mkI(xs:List Int)(k:Int):List Int:=mkL (fun _ k=>k) (fun _=>1) xs k
theorem Zbk5(x:Int)(xs:List Int)(k:Int):mkI (x::xs) k=k::mkI xs (k+1):=rfl
theorem Zb35(e:Nat)(fr:List Fr):∀(xs d:List Int) (k:Int),0≤k→k+(xs.length:Int)≤4611686018427387904→d.length+xs.length≤4294967296→EvL C fr [0,1,5] Zr0 ⟨[(0,.own 0),(1,I k),(5,I d.length)],[[(0,.own 0)]],[.xarr e 1 ((d++xs).map ic)]⟩ =
  EvX C fr (.x 0) ⟨[(0,.own 0),(1,I (k+xs.length)),(5,I (d.length+xs.length)),(9,Bo false)],[[(0,.own 0)]],[.xarr e 1 ((d++mkI xs k).map ic)]⟩:=by
 intro xs
 induction xs with
 |nil =>
  intro d k h1 h2 h3;rw[Zf Zr0.eq_1]
  simp[mkI,mkL]
 |cons x xs ih =>
  intro d k h1 h2 h3;simp only[Yx]at h2 h3;have ih':=ih (d++[k]) (k+1) (by omega) (by omega) (by simp;omega);rw[Zf Zr0.eq_1];have g1:IntKind.wrap .i64 ((d.length:Int)+1)=(d.length:Int)+1:=Zq (by omega) (by omega);have g2:IntKind.wrap .i64 (k+1)=k+1:=Zq (by omega) (by omega);have g3:(d.length:Int)<(d.length:Int)+((xs.length:Int)+1):=by omega
  have g4:k+1+(xs.length:Int)=k+((xs.length:Int)+1):=by omega
  have g5:(d.length:Int)+1+(xs.length:Int)=(d.length:Int)+((xs.length:Int)+1):=by omega
  simp[g4,g5]at ih';simp[g1,g2,g3,ih',Zbk5]
theorem Z5c(e:Nat)(xs:List Int)(k:Int)(h1:0≤k)(h2:k+(xs.length:Int)≤4611686018427387904)(h3:SmA xs):C Ztb [.own 0,I k] [.xarr e 1 (xs.map ic)]=some (I (k+xs.length),[.xarr e 1 ((mkI xs k).map ic)]):=by
 refine runM Zbjs rfl ?_;have h4:=fun fr=>Zb35 e fr xs [] k h1 h2 (by have:xs.length≤4294967296:=h3;simp;omega)
 simp at h4;simp[Z43,h4]
theorem Zb36(n:Nat)(k:Int):C Ztb [.t (.lst n []),I k] []=some (I k,[]):=by
 refine run Zbjs rfl ?_;simp[Z43,Zf Zr0.eq_1]
theorem Zb37(fr:List Fr):∀(xs d:List Int) (k:Int),0≤k→k+(xs.length:Int)≤4611686018427387904→d.length+xs.length≤4294967296→EvL C fr [0,1,5] Zwl ⟨[(0,L 1 ((d++mkI xs k).map ic)),(1,I k),(5,I d.length)],[[]],[]⟩ =
  EvX C fr (.x 0) ⟨[(0,L 1 ((d++mkI xs k).map ic)),(1,I (k+xs.length)),(5,I (d.length+xs.length)),(9,Bo false)],[[]],[]⟩:=by
 intro xs
 induction xs with
 |nil =>
  intro d k h1 h2 h3;rw[Zf Zwl.eq_1]
  simp[mkI,mkL]
 |cons x xs ih =>
  intro d k h1 h2 h3;simp only[Yx]at h2 h3;have ih':=ih (d++[k]) (k+1) (by omega) (by omega) (by simp;omega);rw[Zf Zwl.eq_1];have g1:IntKind.wrap .i64 ((d.length:Int)+1)=(d.length:Int)+1:=Zq (by omega) (by omega);have g2:IntKind.wrap .i64 (k+1)=k+1:=Zq (by omega) (by omega);have g3:(d.length:Int)<(d.length:Int)+(((mkI xs (k+1)).length:Int)+1):=by omega
  have g4:k+1+(xs.length:Int)=k+((xs.length:Int)+1):=by omega
  have g5:(d.length:Int)+1+(xs.length:Int)=(d.length:Int)+((xs.length:Int)+1):=by omega
  simp[g4,g5]at ih';simp[g1,g2,g3,ih',Zbk5]
theorem strB_one(x:Int):(strB [x]).size=1:=by simp[strB];rfl
theorem Zb38(fr:List Fr):∀(n:Nat) (k:Int) (out:ByteArray),k.toNat≤n→(out.size:Int)+k≤4611686018427387904→0≤k→∃s,s.size≤out.size+n∧EvL C fr [0,3] Zr2 ⟨[(0,I k),(3,.t (.str out))],[[]],[]⟩=EvX C fr (.x 0) ⟨[(0,I 0),(3,.t (.str s)),(7,Bo false)],[[]],[]⟩:=by
 intro n
 induction n with
 |zero =>
  intro k out h1 h2 h3;have:k=0:=by omega
  subst this;rw[Zf Zr2.eq_1]
  exact⟨out,by simp⟩
 |succ n ih =>
  intro k out h1 h2 h3;by_cases h0:k=0
  ·subst h0;rw[Zf Zr2.eq_1];exact⟨out,by simp⟩
  have hk:0<k:=by omega
  have e:k.tdiv 10=k / 10:=Int.tdiv_eq_ediv_of_nonneg h3;have e2:IntKind.wrap .i64 (k / 10)=k / 10:=Zq (by omega) (by omega);generalize hx:IntKind.wrap .u8 (IntKind.wrap .i64 (48+k.tmod 10))=x;have s1:=strB_one x;have c:1+out.size≤9223372036854775807:=by omega
  obtain⟨s,hs,hr⟩:=ih (k / 10) (strB [x]++out) (by omega) (by rw[ByteArray.size_append,s1];omega) (by omega);rw[ByteArray.size_append,s1]at hs;refine⟨s,by omega,?_⟩;rw[Zf Zr2.eq_1];simp[hk,hx,s1,c,e,e2,hr]
theorem Zb39(k:Int)(h1:0≤k)(h2:k≤4000000000000000000):∃s,C Zyf [I k] []=some (.t (.str s),[]):=by
 by_cases h0:k=0
 ·subst h0;refine⟨⟨#[109,48]⟩,run Zbkw rfl ?_⟩;simp[Z5a]
 ·have h3:¬k≤0:=by omega
  obtain⟨s,hs,hr⟩:=Zb38 [.blk 0,.seq (.seq (.reg [⟨some 18,none,.mov (.s 3)⟩,⟨some 19,none,.bin .add (.c (.t (.str ⟨#[109]⟩))) (.s 18)⟩,⟨some 2,none,.mov (.s 19)⟩] [2]) .ret),.fin 0 [.tmp 2]] k.toNat k ⟨#[]⟩ (Yc _) (by simp[ByteArray.size];omega) h1;have c:(⟨#[109]⟩:ByteArray).size+s.size≤9223372036854775807:=by
   have:(⟨#[]⟩:ByteArray).size=0:=rfl;have:(⟨#[109]⟩:ByteArray).size=1:=rfl;omega
  refine⟨⟨#[109]⟩++s,run Zbkw rfl ?_⟩;simp at hr;simp[Z5a,h3,hr,c]
def mtext(k:Int):ByteArray:=match C Zyf [I k] []with
 |some (.t (.str s),[])=>s
 |_=>⟨#[]⟩
theorem Zbk6(k:Int)(h1:0≤k)(h2:k≤4000000000000000000):C Zyf [I k] []=some (.t (.str (mtext k)),[]):=by
 obtain⟨s,h⟩:=Zb39 k h1 h2;have:mtext k=s:=by unfold mtext;rw[h]
 rw[this,h]
theorem Zbk7(xs:List Int)(k:Int)(h1:0≤k)(h2:k+(xs.length:Int)≤4000000000000000000)(h3:SmA xs):C Zbnw [L 1 ((mkI xs k).map ic),I k] []=some (I (k+xs.length),[]):=by
 refine run Zb1i rfl ?_;have h4:=fun fr=>Zb37 fr xs [] k h1 (by omega) (by have:xs.length≤4294967296:=h3;simp;omega)
 simp at h4;simp[Zbjt,h4]
theorem Zbk8(xs:List Int)(k:Int)(h1:0≤k)(h2:k+(xs.length:Int)≤4000000000000000000)(h3:SmA xs):(xs.map ic=[]∧(mkI xs (k)).map ic=[]∧C Ztb [.t (.lst 1 []),I k] []=some (I (k+(xs.length:Int)),[]))∨∃y ys,xs.map ic=y::ys∧True∧C Ztb [.own 0,I k] [.xarr unk 1 (y::ys)]=some (I (k+(xs.length:Int)),[.xarr unk 1 ((mkI xs (k)).map ic)]):=by
 have c:=Z5c unk xs k h1 (by omega) h3
 cases xs with
 |nil=>exact .inl ⟨rfl,rfl,by have:=Zb36 1 k;simpa[mkI,mkL]using this⟩
 |cons y ys=>exact .inr ⟨_,_,rfl,trivial,c⟩
def Zr5(a:List Int)(k:Int):List Int:=mkI a k
def Zd8(a:List Int):Nat:=a.length
def Zhc(xs:List (List Int))(k:Int):List (List Int):=mkL Zr5 Zd8 xs k
def Zbv(xs:List (List Int)):Nat:=cnL Zd8 xs
theorem Zb4a(x:List Int)(xs:List (List Int))(k:Int):Zhc (x::xs) k=Zr5 x k::Zhc xs (k+(Zd8 x:Int)):=rfl
theorem Zb4b(e:Nat)(fr:List Fr):∀(xs d:List (List Int)) (k:Int),0≤k→k+(Zbv xs:Int)≤4000000000000000000→d.length+xs.length≤4294967296→(∀x∈xs,SmA x)→EvL C fr [0,1,5] Zr1 ⟨[(0,.own 0),(1,I k),(5,I d.length)],[[(0,.own 0)]],[.xarr e 1 ((d++xs).map isc)]⟩ =
  EvX C fr (.x 0) ⟨[(0,.own 0),(1,I (k+Zbv xs)),(5,I (d.length+xs.length)),(9,Bo false)],[[(0,.own 0)]],[.xarr e 1 ((d++Zhc xs k).map isc)]⟩:=by
 intro xs
 induction xs with
 |nil =>
  intro d k h1 h2 h3 h4;rw[Zf Zr1.eq_1]
  simp[Zhc,Zbv,cnL,mkL]
 |cons x xs ih =>
  intro d k h1 h2 h3 h4;have hx:=h4 x (by simp);have e0:Zbv (x::xs)=Zd8 x+Zbv xs:=rfl;rw[e0]at h2;simp only[Yx]at h3;have e1:Zd8 x=x.length:=rfl;have eK:k+(Zd8 x:Int)=k+(x.length:Int):=by omega
  have eL:k+(Zbv (x::xs):Int)=k+(x.length:Int)+(Zbv xs:Int):=by omega
  have ih':=ih (d++[Zr5 x k]) (k+(x.length:Int)) (by omega) (by omega) (by simp;omega) (fun y hy=>h4 y (by simp[hy]));rw[Zf Zr1.eq_1,eL,Zb4a,eK];have g1:IntKind.wrap .i64 ((d.length:Int)+1)=(d.length:Int)+1:=Zq (by omega) (by omega);have g3:(d.length:Int)<(d.length:Int)+((xs.length:Int)+1):=by omega
  have g5:(d.length:Int)+1+(xs.length:Int)=(d.length:Int)+((xs.length:Int)+1):=by omega
  have m0:=Zbk8 x (k) (by omega) (by omega) hx;rcases m0 with⟨r0,s0,m0⟩|⟨y0,ys0,r0,s0,m0⟩
  all_goals (simp[g5,Zr5,tI,r0,s0]at ih';simp[g1,g3,m0,r0,s0,ih',Zr5,tI])
theorem Zb4c(e:Nat)(xs:List (List Int))(k:Int)(h1:0≤k)(h2:k+(Zbv xs:Int)≤4000000000000000000)(h3:SmL SmA xs):C Ztc [.own 0,I k] [.xarr e 1 (xs.map isc)]=some (I (k+Zbv xs),[.xarr e 1 ((Zhc xs k).map isc)]):=by
 refine runM Zbkj rfl ?_;have h4:=fun fr=>Zb4b e fr xs [] k h1 h2 (by have:xs.length≤4294967296:=h3.1;simp;omega) h3.2
 simp at h4;simp[Z46,h4]
theorem Zb4d(n:Nat)(k:Int):C Ztc [.t (.lst n []),I k] []=some (I k,[]):=by
 refine run Zbkj rfl ?_;simp[Z46,Zf Zr1.eq_1]
theorem Zb4e(xs:List (List Int))(k:Int)(h1:0≤k)(h2:k+(Zbv xs:Int)≤4000000000000000000)(h3:SmL SmA xs):(xs.map isc=[]∧(Zhc xs (k)).map isc=[]∧C Ztc [.t (.lst 1 []),I k] []=some (I (k+(Zbv xs:Int)),[]))∨∃y ys,xs.map isc=y::ys∧True∧C Ztc [.own 0,I k] [.xarr unk 1 (y::ys)]=some (I (k+(Zbv xs:Int)),[.xarr unk 1 ((Zhc xs (k)).map isc)]):=by
 have c:=Zb4c unk xs k h1 h2 h3
 cases xs with
 |nil=>exact .inl ⟨rfl,rfl,by have:=Zb4d 1 k;simpa[Zhc,Zbv,cnL,mkL]using this⟩
 |cons y ys=>exact .inr ⟨_,_,rfl,trivial,c⟩
def Zr6(a:Atom)(k:Int):Atom:=⟨mtext (k),mkI a.Vars (k+1)⟩
def Zgj(a:Atom):Nat:=1+a.Vars.length
def Zod(xs:List Atom)(k:Int):List Atom:=mkL Zr6 Zgj xs k
def Zc7(xs:List Atom):Nat:=cnL Zgj xs
theorem Zb4f(x:Atom)(xs:List Atom)(k:Int):Zod (x::xs) k=Zr6 x k::Zod xs (k+(Zgj x:Int)):=rfl
theorem Zb4g(e:Nat)(fr:List Fr):∀(xs d:List Atom) (k:Int),0≤k→k+(Zc7 xs:Int)≤4000000000000000000→d.length+xs.length≤4294967296→(∀x∈xs,x.small)→EvL C fr [0,1,5] Zwr ⟨[(0,.own 0),(1,I k),(5,I d.length)],[[(0,.own 0)]],[.xarr e 2 ((d++xs).map Atom.c)]⟩ =
  EvX C fr (.x 0) ⟨[(0,.own 0),(1,I (k+Zc7 xs)),(5,I (d.length+xs.length)),(9,Bo false)],[[(0,.own 0)]],[.xarr e 2 ((d++Zod xs k).map Atom.c)]⟩:=by
 intro xs
 induction xs with
 |nil =>
  intro d k h1 h2 h3 h4;rw[Zf Zwr.eq_1]
  simp[Zod,Zc7,cnL,mkL]
 |cons x xs ih =>
  intro d k h1 h2 h3 h4;have hx:=h4 x (by simp);have e0:Zc7 (x::xs)=Zgj x+Zc7 xs:=rfl;rw[e0]at h2;simp only[Yx]at h3;rcases x with⟨x0,x1⟩;have e1:Zgj ⟨x0,x1⟩=1+x1.length:=rfl;have eK:k+(Zgj ⟨x0,x1⟩:Int)=k+1+(x1.length:Int):=by omega
  have eL:k+(Zc7 (⟨x0,x1⟩::xs):Int)=k+1+(x1.length:Int)+(Zc7 xs:Int):=by omega
  have ih':=ih (d++[Zr6 ⟨x0,x1⟩ k]) (k+1+(x1.length:Int)) (by omega) (by omega) (by simp;omega) (fun y hy=>h4 y (by simp[hy]));rw[Zf Zwr.eq_1,eL,Zb4f,eK];have g1:IntKind.wrap .i64 ((d.length:Int)+1)=(d.length:Int)+1:=Zq (by omega) (by omega);have g3:(d.length:Int)<(d.length:Int)+((xs.length:Int)+1):=by omega
  have g5:(d.length:Int)+1+(xs.length:Int)=(d.length:Int)+((xs.length:Int)+1):=by omega
  have w0:IntKind.wrap .i64 (k+1)=k+1:=Zq (by omega) (by omega);have t0:=Zbk6 (k) (by omega) (by omega);have m0:=Zbk8 x1 (k+1) (by omega) (by omega) (by first|exact hx|exact hx.1|exact hx.2|exact hx.2.1|exact hx.2.2|exact hx.2.2.1|exact hx.2.2.2|exact hx.2.2.2.1|exact hx.2.2.2.2|exact hx.2.2.2.2.1|exact hx.2.2.2.2.2);rcases m0 with⟨r0,s0,m0⟩|⟨y0,ys0,r0,s0,m0⟩
  all_goals (simp[g5,Zr6,tI,r0,s0]at ih';simp[g1,g3,w0,t0,m0,r0,s0,ih',Zr6,tI])
theorem Zb4h(e:Nat)(xs:List Atom)(k:Int)(h1:0≤k)(h2:k+(Zc7 xs:Int)≤4000000000000000000)(h3:SmL Atom.small xs):C Zbon [.own 0,I k] [.xarr e 2 (xs.map Atom.c)]=some (I (k+Zc7 xs),[.xarr e 2 ((Zod xs k).map Atom.c)]):=by
 refine runM Zb19 rfl ?_;have h4:=fun fr=>Zb4g e fr xs [] k h1 h2 (by have:xs.length≤4294967296:=h3.1;simp;omega) h3.2
 simp at h4;simp[Zbki,h4]
def Zr7(a:Zh)(k:Int):Zh:=⟨k,k+1⟩
def Zoe(a:Zh):Nat:=1+1
def Zfr(xs:List Zh)(k:Int):List Zh:=mkL Zr7 Zoe xs k
def Zr(xs:List Zh):Nat:=cnL Zoe xs
theorem Zb4i(x:Zh)(xs:List Zh)(k:Int):Zfr (x::xs) k=Zr7 x k::Zfr xs (k+(Zoe x:Int)):=rfl
theorem Zb4j(e:Nat)(fr:List Fr):∀(xs d:List Zh) (k:Int),0≤k→k+(Zr xs:Int)≤4000000000000000000→d.length+xs.length≤4294967296→(∀x∈xs,x.small)→EvL C fr [0,1,5] Zw0 ⟨[(0,.own 0),(1,I k),(5,I d.length)],[[(0,.own 0)]],[.xarr e 2 ((d++xs).map Zh.c)]⟩ =
  EvX C fr (.x 0) ⟨[(0,.own 0),(1,I (k+Zr xs)),(5,I (d.length+xs.length)),(9,Bo false)],[[(0,.own 0)]],[.xarr e 2 ((d++Zfr xs k).map Zh.c)]⟩:=by
 intro xs
 induction xs with
 |nil =>
  intro d k h1 h2 h3 h4;rw[Zf Zw0.eq_1]
  simp[Zfr,Zr,cnL,mkL]
 |cons x xs ih =>
  intro d k h1 h2 h3 h4;have hx:=h4 x (by simp);have e0:Zr (x::xs)=Zoe x+Zr xs:=rfl;rw[e0]at h2;simp only[Yx]at h3;rcases x with⟨x0,x1⟩;have e1:Zoe ⟨x0,x1⟩=1+1:=rfl;have eK:k+(Zoe ⟨x0,x1⟩:Int)=k+1+1:=by omega
  have eL:k+(Zr (⟨x0,x1⟩::xs):Int)=k+1+1+(Zr xs:Int):=by omega
  have ih':=ih (d++[Zr7 ⟨x0,x1⟩ k]) (k+1+1) (by omega) (by omega) (by simp;omega) (fun y hy=>h4 y (by simp[hy]));rw[Zf Zw0.eq_1,eL,Zb4i,eK];have g1:IntKind.wrap .i64 ((d.length:Int)+1)=(d.length:Int)+1:=Zq (by omega) (by omega);have g3:(d.length:Int)<(d.length:Int)+((xs.length:Int)+1):=by omega
  have g5:(d.length:Int)+1+(xs.length:Int)=(d.length:Int)+((xs.length:Int)+1):=by omega
  have w0:IntKind.wrap .i64 (k+1)=k+1:=Zq (by omega) (by omega);have w1:IntKind.wrap .i64 (k+1+1)=k+1+1:=Zq (by omega) (by omega)
  (simp[g5,Zr7,tI]at ih';simp[g1,g3,w0,w1,ih',Zr7,tI])
theorem Zb4k(e:Nat)(xs:List Zh)(k:Int)(h1:0≤k)(h2:k+(Zr xs:Int)≤4000000000000000000)(h3:SmA xs):C Zbo2 [.own 0,I k] [.xarr e 2 (xs.map Zh.c)]=some (I (k+Zr xs),[.xarr e 2 ((Zfr xs k).map Zh.c)]):=by
 refine runM Zb2o rfl ?_;have h4:=fun fr=>Zb4j e fr xs [] k h1 h2 (by have:xs.length≤4294967296:=h3;simp;omega) (fun _ _=>trivial)
 simp at h4;simp[Zbkv,h4]
def Zb4l(a:Zg):Nat:=1+1+1
def Zbk9(xs:List Zg):Nat:=cnL Zb4l xs
def Zr8(a:Ze)(k:Int):Ze:=⟨k,k+1,k+1+1⟩
def Zof(a:Ze):Nat:=1+1+1
def Zog(xs:List Ze)(k:Int):List Ze:=mkL Zr8 Zof xs k
def Zdk(xs:List Ze):Nat:=cnL Zof xs
theorem Zb4m(x:Ze)(xs:List Ze)(k:Int):Zog (x::xs) k=Zr8 x k::Zog xs (k+(Zof x:Int)):=rfl
theorem Zb4n(e:Nat)(fr:List Fr):∀(xs d:List Ze) (k:Int),0≤k→k+(Zdk xs:Int)≤4000000000000000000→d.length+xs.length≤4294967296→(∀x∈xs,x.small)→EvL C fr [0,1,5] Zww ⟨[(0,.own 0),(1,I k),(5,I d.length)],[[(0,.own 0)]],[.xarr e 3 ((d++xs).map Ze.c)]⟩ =
  EvX C fr (.x 0) ⟨[(0,.own 0),(1,I (k+Zdk xs)),(5,I (d.length+xs.length)),(9,Bo false)],[[(0,.own 0)]],[.xarr e 3 ((d++Zog xs k).map Ze.c)]⟩:=by
 intro xs
 induction xs with
 |nil =>
  intro d k h1 h2 h3 h4;rw[Zf Zww.eq_1]
  simp[Zog,Zdk,cnL,mkL]
 |cons x xs ih =>
  intro d k h1 h2 h3 h4;have hx:=h4 x (by simp);have e0:Zdk (x::xs)=Zof x+Zdk xs:=rfl;rw[e0]at h2;simp only[Yx]at h3;rcases x with⟨x0,x1,x2⟩;have e1:Zof ⟨x0,x1,x2⟩=1+1+1:=rfl;have eK:k+(Zof ⟨x0,x1,x2⟩:Int)=k+1+1+1:=by omega
  have eL:k+(Zdk (⟨x0,x1,x2⟩::xs):Int)=k+1+1+1+(Zdk xs:Int):=by omega
  have ih':=ih (d++[Zr8 ⟨x0,x1,x2⟩ k]) (k+1+1+1) (by omega) (by omega) (by simp;omega) (fun y hy=>h4 y (by simp[hy]));rw[Zf Zww.eq_1,eL,Zb4m,eK];have g1:IntKind.wrap .i64 ((d.length:Int)+1)=(d.length:Int)+1:=Zq (by omega) (by omega);have g3:(d.length:Int)<(d.length:Int)+((xs.length:Int)+1):=by omega
  have g5:(d.length:Int)+1+(xs.length:Int)=(d.length:Int)+((xs.length:Int)+1):=by omega
  have w0:IntKind.wrap .i64 (k+1)=k+1:=Zq (by omega) (by omega);have w1:IntKind.wrap .i64 (k+1+1)=k+1+1:=Zq (by omega) (by omega);have w2:IntKind.wrap .i64 (k+1+1+1)=k+1+1+1:=Zq (by omega) (by omega)
  (simp[g5,Zr8,tI]at ih';simp[g1,g3,w0,w1,w2,ih',Zr8,tI])
theorem Zb4o(e:Nat)(xs:List Ze)(k:Int)(h1:0≤k)(h2:k+(Zdk xs:Int)≤4000000000000000000)(h3:SmA xs):C Zbot [.own 0,I k] [.xarr e 3 (xs.map Ze.c)]=some (I (k+Zdk xs),[.xarr e 3 ((Zog xs k).map Ze.c)]):=by
 refine runM Zb2f rfl ?_;have h4:=fun fr=>Zb4n e fr xs [] k h1 h2 (by have:xs.length≤4294967296:=h3;simp;omega) (fun _ _=>trivial)
 simp at h4;simp[Zbkn,h4]
def Zr9(a:Zj)(k:Int):Zj:=⟨mtext (k),k+1,Zhc a.Rows (k+1+1)⟩
def Zgk(a:Zj):Nat:=1+1+Zbv a.Rows
def Zoh(xs:List Zj)(k:Int):List Zj:=mkL Zr9 Zgk xs k
def Zcy(xs:List Zj):Nat:=cnL Zgk xs
theorem Zb4p(x:Zj)(xs:List Zj)(k:Int):Zoh (x::xs) k=Zr9 x k::Zoh xs (k+(Zgk x:Int)):=rfl
theorem Zb4q(e:Nat)(fr:List Fr):∀(xs d:List Zj) (k:Int),0≤k→k+(Zcy xs:Int)≤4000000000000000000→d.length+xs.length≤4294967296→(∀x∈xs,x.small)→EvL C fr [0,1,5] Zwv ⟨[(0,.own 0),(1,I k),(5,I d.length)],[[(0,.own 0)]],[.xarr e 3 ((d++xs).map Zj.c)]⟩ =
  EvX C fr (.x 0) ⟨[(0,.own 0),(1,I (k+Zcy xs)),(5,I (d.length+xs.length)),(9,Bo false)],[[(0,.own 0)]],[.xarr e 3 ((d++Zoh xs k).map Zj.c)]⟩:=by
 intro xs
 induction xs with
 |nil =>
  intro d k h1 h2 h3 h4;rw[Zf Zwv.eq_1]
  simp[Zoh,Zcy,cnL,mkL]
 |cons x xs ih =>
  intro d k h1 h2 h3 h4;have hx:=h4 x (by simp);have e0:Zcy (x::xs)=Zgk x+Zcy xs:=rfl;rw[e0]at h2;simp only[Yx]at h3;rcases x with⟨x0,x1,x2⟩;have e1:Zgk ⟨x0,x1,x2⟩=1+1+Zbv x2:=rfl;have eK:k+(Zgk ⟨x0,x1,x2⟩:Int)=k+1+1+(Zbv x2:Int):=by omega
  have eL:k+(Zcy (⟨x0,x1,x2⟩::xs):Int)=k+1+1+(Zbv x2:Int)+(Zcy xs:Int):=by omega
  have ih':=ih (d++[Zr9 ⟨x0,x1,x2⟩ k]) (k+1+1+(Zbv x2:Int)) (by omega) (by omega) (by simp;omega) (fun y hy=>h4 y (by simp[hy]));rw[Zf Zwv.eq_1,eL,Zb4p,eK];have g1:IntKind.wrap .i64 ((d.length:Int)+1)=(d.length:Int)+1:=Zq (by omega) (by omega);have g3:(d.length:Int)<(d.length:Int)+((xs.length:Int)+1):=by omega
  have g5:(d.length:Int)+1+(xs.length:Int)=(d.length:Int)+((xs.length:Int)+1):=by omega
  have w0:IntKind.wrap .i64 (k+1)=k+1:=Zq (by omega) (by omega);have w1:IntKind.wrap .i64 (k+1+1)=k+1+1:=Zq (by omega) (by omega);have t0:=Zbk6 (k) (by omega) (by omega);have m0:=Zb4e x2 (k+1+1) (by omega) (by omega) (by first|exact hx|exact hx.1|exact hx.2|exact hx.2.1|exact hx.2.2|exact hx.2.2.1|exact hx.2.2.2|exact hx.2.2.2.1|exact hx.2.2.2.2|exact hx.2.2.2.2.1|exact hx.2.2.2.2.2);rcases m0 with⟨r0,s0,m0⟩|⟨y0,ys0,r0,s0,m0⟩
  all_goals (simp[g5,Zr9,tI,tII,r0,s0]at ih';simp[g1,g3,w0,w1,t0,m0,r0,s0,ih',Zr9,tI,tII])
theorem Zb4r(e:Nat)(xs:List Zj)(k:Int)(h1:0≤k)(h2:k+(Zcy xs:Int)≤4000000000000000000)(h3:SmL Zj.small xs):C Zbos [.own 0,I k] [.xarr e 3 (xs.map Zj.c)]=some (I (k+Zcy xs),[.xarr e 3 ((Zoh xs k).map Zj.c)]):=by
 refine runM Zb2e rfl ?_;have h4:=fun fr=>Zb4q e fr xs [] k h1 h2 (by have:xs.length≤4294967296:=h3.1;simp;omega) h3.2
 simp at h4;simp[Zbkm,h4]
theorem Zbla(e0 e1:Nat)(x0 x1:List Int)(k:Int)(h1:0≤k)(h2:k+(x0.length:Int)+(x1.length:Int)≤4000000000000000000)(sx0:SmA x0)(sx1:SmA x1):C Zbn8 [.agg [.own 0,.own 1],I k] [.xarr e0 1 (x0.map ic),.xarr e1 1 (x1.map ic)]=some (I (k+(x0.length:Int)+(x1.length:Int)),[.xarr e0 1 ((mkI x0 (k)).map ic),.xarr e1 1 ((mkI x1 (k+(x0.length:Int))).map ic)]):=by
 refine runM Zb1u rfl ?_;have m0:=Z5c e0 x0 (k) (by omega) (by omega) sx0;have m1:=Z5c e1 x1 (k+(x0.length:Int)) (by omega) (by omega) sx1;simp[Zbj5,m0,m1]
theorem Zb4s(x0 x1:List Int)(k:Int)(h1:0≤k)(h2:k+(x0.length:Int)+(x1.length:Int)≤4000000000000000000)(sx0:SmA x0)(sx1:SmA x1):C Zbn9 [.agg [.t (tI (mkI x0 (k))),.t (tI (mkI x1 (k+(x0.length:Int))))],I k] []=some (I (k+(x0.length:Int)+(x1.length:Int)),[]):=by
 refine run Zb1v rfl ?_;have m0:=Zbk7 x0 (k) (by omega) (by omega) sx0;have z0:¬(k+(x0.length:Int)<0):=by omega
 have m1:=Zbk7 x1 (k+(x0.length:Int)) (by omega) (by omega) sx1;have z1:¬(k+(x0.length:Int)+(x1.length:Int)<0):=by omega
 simp[Zbj6,tI,m0,z0,m1,z1]
theorem Zb4t(e0:Nat)(x0:List Zj)(k:Int)(h1:0≤k)(h2:k+(Zcy x0:Int)≤4000000000000000000)(sx0:SmL Zj.small x0):C Zbn1 [.agg [.own 0],I k] [.xarr e0 3 (x0.map Zj.c)]=some (I (k+(Zcy x0:Int)),[.xarr e0 3 ((Zoh x0 (k)).map Zj.c)]):=by
 refine runM Zb1n rfl ?_;have m0:=Zb4r e0 x0 (k) (by omega) (by omega) sx0;simp[Zbjy,m0]
theorem Zsa(e0:Nat)(x0 x1 x2 x3 x4:Int)(x5:List Zh)(k:Int)(h1:0≤k)(h2:k+(Zr x5:Int)≤4000000000000000000)(sx5:SmA x5):C Zbom [.agg [I x0,I x1,I x2,I x3,I x4,.own 0],I k] [.xarr e0 2 (x5.map Zh.c)]=some (I (k+(Zr x5:Int)),[.xarr e0 2 ((Zfr x5 (k)).map Zh.c)]):=by
 refine runM Zb18 rfl ?_;have m0:=Zb4k e0 x5 (k) (by omega) (by omega) sx5;simp[Zbkh,m0]
theorem Zb4u(e0 e1 e2 e3 e4:Nat)(x0 x1 x2 x3 x4:Int)(x5:List Zh)(x6 x7 x8 x9 x10:Int)(x11:List Zh)(x12 x13 x14 x15 x16:Int)(x17:List Zh)(x18 x19 x20 x21 x22:Int)(x23:List Zh)(x24 x25 x26 x27 x28:Int)(x29:List Zh)(k:Int)(h1:0≤k)(h2:k+(Zr x5:Int)+(Zr x11:Int)+(Zr x17:Int)+(Zr x23:Int)+(Zr x29:Int)≤4000000000000000000)(sx5:SmA x5)(sx11:SmA x11)(sx17:SmA x17)(sx23:SmA x23)(sx29:SmA x29):C Zbnu [.agg [I x0,I x1,I x2,I x3,I x4,.own 0,I x6,I x7,I x8,I x9,I x10,.own 1,I x12,I x13,I x14,I x15,I x16,.own 2,I x18,I x19,I x20,I x21,I x22,.own 3,I x24,I x25,I x26,I x27,I x28,.own 4],I k] [.xarr e0 2 (x5.map Zh.c),.xarr e1 2 (x11.map Zh.c),.xarr e2 2 (x17.map Zh.c),.xarr e3 2 (x23.map Zh.c),.xarr e4 2 (x29.map Zh.c)]=some (I (k+(Zr x5:Int)+(Zr x11:Int)+(Zr x17:Int)+(Zr x23:Int)+(Zr x29:Int)),[.xarr e0 2 ((Zfr x5 (k)).map Zh.c),.xarr e1 2 ((Zfr x11 (k+(Zr x5:Int))).map Zh.c),.xarr e2 2 ((Zfr x17 (k+(Zr x5:Int)+(Zr x11:Int))).map Zh.c),.xarr e3 2 ((Zfr x23 (k+(Zr x5:Int)+(Zr x11:Int)+(Zr x17:Int))).map Zh.c),.xarr e4 2 ((Zfr x29 (k+(Zr x5:Int)+(Zr x11:Int)+(Zr x17:Int)+(Zr x23:Int))).map Zh.c)]):=by
 refine runM Zb1g rfl ?_;have m0:=Zsa e0 x0 x1 x2 x3 x4 x5 (k) (by omega) (by omega) sx5;have m1:=Zsa e1 x6 x7 x8 x9 x10 x11 (k+(Zr x5:Int)) (by omega) (by omega) sx11;have m2:=Zsa e2 x12 x13 x14 x15 x16 x17 (k+(Zr x5:Int)+(Zr x11:Int)) (by omega) (by omega) sx17;have m3:=Zsa e3 x18 x19 x20 x21 x22 x23 (k+(Zr x5:Int)+(Zr x11:Int)+(Zr x17:Int)) (by omega) (by omega) sx23;have m4:=Zsa e4 x24 x25 x26 x27 x28 x29 (k+(Zr x5:Int)+(Zr x11:Int)+(Zr x17:Int)+(Zr x23:Int)) (by omega) (by omega) sx29;simp[Zbjq,m0,m1,m2,m3,m4]
theorem Zb4v(e0:Nat)(x0:List Ze)(k:Int)(h1:0≤k)(h2:k+(Zdk x0:Int)≤4000000000000000000)(sx0:SmA x0):C Zbn2 [.agg [.own 0],I k] [.xarr e0 3 (x0.map Ze.c)]=some (I (k+(Zdk x0:Int)),[.xarr e0 3 ((Zog x0 (k)).map Ze.c)]):=by
 refine runM Zb1o rfl ?_;have m0:=Zb4o e0 x0 (k) (by omega) (by omega) sx0;simp[Zbjz,m0]
theorem Zb4w(e0:Nat)(x0:Int)(x1:List Atom)(k:Int)(h1:0≤k)(h2:k+(Zc7 x1:Int)≤4000000000000000000)(sx1:SmL Atom.small x1):C Zbnv [.agg [I x0,.own 0],I k] [.xarr e0 2 (x1.map Atom.c)]=some (I (k+(Zc7 x1:Int)),[.xarr e0 2 ((Zod x1 (k)).map Atom.c)]):=by
 refine runM Zb1h rfl ?_;have m0:=Zb4h e0 x1 (k) (by omega) (by omega) sx1;simp[Zbjr,m0]
theorem Zfs{n:Nat}{left:Int}(hn:n≤maxLen)(h0:0≤left)(h1:left≤1048576)(h:0≤sz1 n left):sz1 n left≤left∧(n:Int)≤left-sz1 n left:=by
 unfold maxLen at hn;have hw:IntKind.wrap .i64 (left-n)=left-n:=Zq (by omega) (by omega);unfold sz1 at h⊢;rw[hw]at h⊢;split at h
 ·omega
 ·rename_i hx;rw[if_neg hx];omega
theorem Zblb{α:Type}{f:α→Int→Int}{n:α→Nat}{M:Int}:∀(xs:List α) (left:Int),(∀x∈xs,∀l,0≤l→l≤M→0≤f x l→f x l≤l∧(n x:Int)≤16+16*(l-f x l))→0≤left→left≤M→0≤Zb7 f xs left→Zb7 f xs left≤left∧(cnL n xs:Int)≤16*(xs.length:Int)+16*(left-Zb7 f xs left)
 |[],left,_,_,_,h=>by simp[Zb7,cnL]
 |x::xs,left,hf,h0,h1,h=>by
  unfold Zb7 at h⊢;split at h
  ·omega
  ·rename_i hx;rw[if_neg hx];obtain⟨h2,h3⟩:=hf x (by simp) left h0 h1 (by omega);obtain⟨h4,h5⟩:=Zblb xs (f x left) (fun y hy=>hf y (by simp[hy])) (by omega) (by omega) h;have e:cnL n (x::xs)=n x+cnL n xs:=rfl;rw[e,Yx];omega
theorem Zw3{α:Type}{f:α→Int→Int}{n:α→Nat}{xs:List α}{left:Int}(hn:xs.length≤maxLen)(hf:∀x∈xs,∀l,0≤l→l≤1048576→0≤f x l→f x l≤l∧(n x:Int)≤16+16*(l-f x l))(h0:0≤left)(h1:left≤1048576)(h:0≤szL f xs left) :
  szL f xs left≤left∧(cnL n xs:Int)≤16*(left-szL f xs left):=by
 unfold szL Zw at h⊢;split at h
 ·omega
 ·rename_i hx;rw[if_neg hx];have a:=Zfs hn h0 h1 (by omega);have b:=Zblb xs _ hf (by omega) (by omega) h;omega
theorem Zw4{α:Type}{n:α→Nat}{c:Nat}(h:∀x,n x=c):∀xs:List α,cnL n xs=c*xs.length
 |[]=>rfl
 |x::xs=>by
  have e:cnL n (x::xs)=n x+cnL n xs:=rfl;rw[e,h,Zw4 h xs,Yx,Yc8,Nat.add_comm]
theorem Zblc(x:List Int)(l:Int)(hx:x.length≤maxLen)(h0:0≤l)(h1:l≤1048576)(h:0≤szI x l):szI x l≤l∧(Zd8 x:Int)≤16+16*(l-szI x l):=by
 have a:=Zfs hx h0 h1 h;unfold Zd8;have e:szI x l=sz1 x.length l:=rfl;rw[e];omega
def Z5d(x:Zj):Nat:=Zbv x.Rows
theorem Zj.ct(x:Zj)(l:Int)(hx:x.okay)(h0:0≤l)(h1:l≤1048576)(h:0≤x.sz l):x.sz l≤l∧(Z5d x:Int)≤16*(l-x.sz l):=by
 unfold Zj.sz at h⊢;simp only[Zw]at h⊢;split at h
 ·omega
 rename_i q0;rw[if_neg q0];have s0:=Zfs hx.1 h0 h1 (Yl.1 q0);split at h
 ·omega
 rename_i q1;rw[if_neg q1];have s1:=Zw3 (f:=szI) (n:=Zd8) hx.2.2.1 (fun y hy l a b c=>Zblc y l (hx.2.2.2 y hy).1 a b c) (by omega) (by omega) (Yl.1 q1);refine⟨by omega,?_⟩;unfold Z5d;have v0:Zbv x.Rows=cnL Zd8 x.Rows:=rfl;omega
theorem Zb4x(x:Zj)(l:Int)(hx:x.okay)(h0:0≤l)(h1:l≤1048576)(h:0≤x.sz l):x.sz l≤l∧(Zgk x:Int)≤16+16*(l-x.sz l):=by
 have a:=Zj.ct x l hx h0 h1 h;unfold Z5d at a;unfold Zgk;omega
def Z5e(x:Zl):Nat:=Zcy x.Tables
theorem Zl.ct(x:Zl)(l:Int)(hx:x.okay)(h0:0≤l)(h1:l≤1048576)(h:0≤x.sz l):x.sz l≤l∧(Z5e x:Int)≤16*(l-x.sz l):=by
 unfold Zl.sz at h⊢;simp only[Zw]at h⊢;split at h
 ·omega
 rename_i q0;rw[if_neg q0];have s0:=Zw3 (n:=Zgk) hx.1 (fun y hy l a b c=>Zb4x y l (hx.2 y hy) a b c) h0 h1 (Yl.1 q0);refine⟨by omega,?_⟩;unfold Z5e;have v0:Zcy x.Tables=cnL Zgk x.Tables:=rfl;omega
def Z5f(x:Atom):Nat:=x.Vars.length
theorem Atom.ct(x:Atom)(l:Int)(hx:x.okay)(h0:0≤l)(h1:l≤1048576)(h:0≤x.sz l):x.sz l≤l∧(Z5f x:Int)≤16*(l-x.sz l):=by
 unfold Atom.sz at h⊢;simp only[Zw]at h⊢;split at h
 ·omega
 rename_i q0;rw[if_neg q0];have s0:=Zfs hx.1 h0 h1 (Yl.1 q0);split at h
 ·omega
 rename_i q1;rw[if_neg q1];have s1:=Zfs hx.2.1 (by omega) (by omega) (Yl.1 q1);refine⟨by omega,?_⟩;unfold Z5f;omega
theorem Zb4y(x:Atom)(l:Int)(hx:x.okay)(h0:0≤l)(h1:l≤1048576)(h:0≤x.sz l):x.sz l≤l∧(Zgj x:Int)≤16+16*(l-x.sz l):=by
 have a:=Atom.ct x l hx h0 h1 h;unfold Z5f at a;unfold Zgj;omega
def Z5g(x:Zd):Nat:=Zc7 x.Atoms
theorem Zd.ct(x:Zd)(l:Int)(hx:x.okay)(h0:0≤l)(h1:l≤1048576)(h:0≤x.sz l):x.sz l≤l∧(Z5g x:Int)≤16*(l-x.sz l):=by
 unfold Zd.sz at h⊢;simp only[Zw]at h⊢;split at h
 ·omega
 rename_i q0;rw[if_neg q0];have s0:=Zw3 (n:=Zgj) hx.2.1 (fun y hy l a b c=>Zb4y y l (hx.2.2 y hy) a b c) h0 h1 (Yl.1 q0);refine⟨by omega,?_⟩;unfold Z5g;have v0:Zc7 x.Atoms=cnL Zgj x.Atoms:=rfl;omega
def Z5h(x:Z7):Nat:=x.Vars.length+Zbv x.Rows
theorem Z7.ct(x:Z7)(l:Int)(hx:x.okay)(h0:0≤l)(h1:l≤1048576)(h:0≤x.sz l):x.sz l≤l∧(Z5h x:Int)≤16*(l-x.sz l):=by
 unfold Z7.sz at h⊢;simp only[Zw]at h⊢;split at h
 ·omega
 rename_i q0;rw[if_neg q0];have s0:=Zfs hx.1.1 h0 h1 (Yl.1 q0);split at h
 ·omega
 rename_i q1;rw[if_neg q1];have s1:=Zw3 (f:=szI) (n:=Zd8) hx.2.1 (fun y hy l a b c=>Zblc y l (hx.2.2 y hy).1 a b c) (by omega) (by omega) (Yl.1 q1);refine⟨by omega,?_⟩;unfold Z5h;have v0:Zbv x.Rows=cnL Zd8 x.Rows:=rfl;omega
def nt_Box(x:Box):Nat:=x.Low.length+x.High.length
theorem Box.ct(x:Box)(l:Int)(hx:x.okay)(h0:0≤l)(h1:l≤1048576)(h:0≤x.sz l):x.sz l≤l∧(nt_Box x:Int)≤16*(l-x.sz l):=by
 unfold Box.sz at h⊢;simp only[Zw]at h⊢;split at h
 ·omega
 rename_i q0;rw[if_neg q0];have s0:=Zfs hx.1.1 h0 h1 (Yl.1 q0);split at h
 ·omega
 rename_i q1;rw[if_neg q1];have s1:=Zfs hx.2.1 (by omega) (by omega) (Yl.1 q1);refine⟨by omega,?_⟩;unfold nt_Box;omega
theorem Zoi(xs:List Zh):Zr xs=2*xs.length:=Zw4 (fun _=>rfl) xs
def Zk4(x:Zm):Nat:=Zr x.Steps
theorem Zm.ct(x:Zm)(l:Int)(hx:x.okay)(h0:0≤l)(h1:l≤1048576)(h:0≤x.sz l):x.sz l≤l∧(Zk4 x:Int)≤16*(l-x.sz l):=by
 unfold Zm.sz at h⊢;simp only[Zw]at h⊢;split at h
 ·omega
 rename_i q0;rw[if_neg q0];have s0:=Zfs hx.2.2.2.2.2.1 h0 h1 (Yl.1 q0);refine⟨by omega,?_⟩;unfold Zk4;have v0:=Zoi x.Steps;omega
def Z5i(x:Zk):Nat:=Zr x.Scan.Steps+Zr x.Sort_.Steps+Zr x.Hash.Steps+Zr x.Merge.Steps+Zr x.Nested.Steps
theorem Zk.ct(x:Zk)(l:Int)(hx:x.okay)(h0:0≤l)(h1:l≤1048576)(h:0≤x.sz l):x.sz l≤l∧(Z5i x:Int)≤16*(l-x.sz l):=by
 unfold Zk.sz at h⊢;simp only[Zw]at h⊢;split at h
 ·omega
 rename_i q0;rw[if_neg q0];have s0:=Zm.ct x.Scan _ ⟨hx.1,hx.2.1,hx.2.2.1,hx.2.2.2.1,hx.2.2.2.2.1,hx.2.2.2.2.2.1⟩ h0 h1 (Yl.1 q0);split at h
 ·omega
 rename_i q1;rw[if_neg q1];have s1:=Zm.ct x.Sort_ _ ⟨hx.2.2.2.2.2.2.1,hx.2.2.2.2.2.2.2.1,hx.2.2.2.2.2.2.2.2.1,hx.2.2.2.2.2.2.2.2.2.1,hx.2.2.2.2.2.2.2.2.2.2.1,hx.2.2.2.2.2.2.2.2.2.2.2.1⟩ (by omega) (by omega) (Yl.1 q1);split at h
 ·omega
 rename_i q2;rw[if_neg q2];have s2:=Zm.ct x.Hash _ ⟨hx.2.2.2.2.2.2.2.2.2.2.2.2.1,hx.2.2.2.2.2.2.2.2.2.2.2.2.2.1,hx.2.2.2.2.2.2.2.2.2.2.2.2.2.2.1,hx.2.2.2.2.2.2.2.2.2.2.2.2.2.2.2.1,hx.2.2.2.2.2.2.2.2.2.2.2.2.2.2.2.2.1,hx.2.2.2.2.2.2.2.2.2.2.2.2.2.2.2.2.2.1⟩ (by omega) (by omega) (Yl.1 q2);split at h
 ·omega
 rename_i q3;rw[if_neg q3];have s3:=Zm.ct x.Merge _ ⟨hx.2.2.2.2.2.2.2.2.2.2.2.2.2.2.2.2.2.2.1,hx.2.2.2.2.2.2.2.2.2.2.2.2.2.2.2.2.2.2.2.1,hx.2.2.2.2.2.2.2.2.2.2.2.2.2.2.2.2.2.2.2.2.1,hx.2.2.2.2.2.2.2.2.2.2.2.2.2.2.2.2.2.2.2.2.2.1,hx.2.2.2.2.2.2.2.2.2.2.2.2.2.2.2.2.2.2.2.2.2.2.1,hx.2.2.2.2.2.2.2.2.2.2.2.2.2.2.2.2.2.2.2.2.2.2.2.1⟩ (by omega) (by omega) (Yl.1 q3);split at h
 ·omega
 rename_i q4;rw[if_neg q4];have s4:=Zm.ct x.Nested _ ⟨hx.2.2.2.2.2.2.2.2.2.2.2.2.2.2.2.2.2.2.2.2.2.2.2.2.1,hx.2.2.2.2.2.2.2.2.2.2.2.2.2.2.2.2.2.2.2.2.2.2.2.2.2.1,hx.2.2.2.2.2.2.2.2.2.2.2.2.2.2.2.2.2.2.2.2.2.2.2.2.2.2.1,hx.2.2.2.2.2.2.2.2.2.2.2.2.2.2.2.2.2.2.2.2.2.2.2.2.2.2.2.1,hx.2.2.2.2.2.2.2.2.2.2.2.2.2.2.2.2.2.2.2.2.2.2.2.2.2.2.2.2.1,hx.2.2.2.2.2.2.2.2.2.2.2.2.2.2.2.2.2.2.2.2.2.2.2.2.2.2.2.2.2⟩ (by omega) (by omega) (Yl.1 q4);refine⟨by omega,?_⟩;unfold Z5i;have v0:Zk4 x.Scan=Zr x.Scan.Steps:=rfl;have v1:Zk4 x.Sort_=Zr x.Sort_.Steps:=rfl;have v2:Zk4 x.Hash=Zr x.Hash.Steps:=rfl;have v3:Zk4 x.Merge=Zr x.Merge.Steps:=rfl;have v4:Zk4 x.Nested=Zr x.Nested.Steps:=rfl;have v5:=Zoi x.Scan.Steps;have v6:=Zoi x.Sort_.Steps;have v7:=Zoi x.Hash.Steps;have v8:=Zoi x.Merge.Steps;have v9:=Zoi x.Nested.Steps;omega
theorem Zb4z(xs:List Ze):Zdk xs=3*xs.length:=Zw4 (fun _=>rfl) xs
def Z5j(x:Plan):Nat:=Zdk x.Steps
theorem Plan.ct(x:Plan)(l:Int)(hx:x.okay)(h0:0≤l)(h1:l≤1048576)(h:0≤x.sz l):x.sz l≤l∧(Z5j x:Int)≤16*(l-x.sz l):=by
 unfold Plan.sz at h⊢;simp only[Zw]at h⊢;split at h
 ·omega
 rename_i q0;rw[if_neg q0];have s0:=Zfs hx.1 h0 h1 (Yl.1 q0);refine⟨by omega,?_⟩;unfold Z5j;have v0:=Zb4z x.Steps;omega
theorem Zb40(xs:List Zg):Zbk9 xs=3*xs.length:=Zw4 (fun _=>rfl) xs
def nt_Run(x:Run):Nat:=Zbk9 x.Seen+x.Z7.Vars.length+Zbv x.Z7.Rows
theorem Run.ct(x:Run)(l:Int)(hx:x.okay)(h0:0≤l)(h1:l≤1048576)(h:0≤x.sz l):x.sz l≤l∧(nt_Run x:Int)≤16*(l-x.sz l):=by
 unfold Run.sz at h⊢;simp only[Zw]at h⊢;split at h
 ·omega
 rename_i q0;rw[if_neg q0];have s0:=Zfs hx.2.2.1.1 h0 h1 (Yl.1 q0);split at h
 ·omega
 rename_i q1;rw[if_neg q1];have s1:=Z7.ct x.Z7 _ ⟨hx.2.2.2.1,hx.2.2.2.2⟩ (by omega) (by omega) (Yl.1 q1);refine⟨by omega,?_⟩;unfold nt_Run;have v0:Z5h x.Z7=x.Z7.Vars.length+Zbv x.Z7.Rows:=rfl;have v1:=Zb40 x.Seen;have v2:Zbv x.Z7.Rows=cnL Zd8 x.Z7.Rows:=rfl;omega
theorem Zbld(m:Zk)(l:List Za)(bud:Int):∀(xs:List Ze) (ys:List Zb) (i:Nat) (c st:Int) (seen:List Zg),(runF m l bud xs ys i c st seen).2.2.2.length≤seen.length+xs.length
 |[],_,_,_,_,_=>by unfold runF;exact Yc _
 |x::xs,[],_,_,_,_=>by unfold runF;exact Ydm _ _
 |x::xs,y::ys,i,c,st,seen=>by
  unfold runF;split
  ·dsimp only;split<;>simp<;>omega
  ·have:=Zbld m l bud xs ys (i+1) (w (c+stC m l x y i)) (w (st+1)) (if 3≤x.Kind then seen++[obs2 l y i]else seen);have h:(if 3≤x.Kind then seen++[obs2 l y i]else seen).length≤seen.length+1:=by split<;>simp
   simp only[Yx];omega
theorem rwbF_bd{m:Zk}{d:Zl}{q:Zd}{p:Plan}{bud:Int}{s:Za}{r:Bool×Int×Int×List Zg}(h:rwbF m d q p bud=some (s,r)):VS s∧r.2.2.2.length≤14:=by
 unfold rwbF at h
 cases e:Z8 q.Zi q.Atoms p.Steps with
 |none=>rw[e]at h;cases h
 |some info =>
  rw[e]at h;dsimp only at h;split at h
  ·rename_i hq;cases h;have P:PI q p info:=⟨e⟩;have hg:=Z4u hq.1 P;have R:RunI q p info (strm d q p.Steps info):=⟨P,hg.1,hg.2⟩;have hv:=P.val;refine⟨R.last.2,?_⟩;have:=Zbld m (strm d q p.Steps info) bud p.Steps info 0 0 0 [];simp only[Yc2]at this;omega
  ·cases h
theorem spF_bd{m:Zk}{d:Zl}{q:Zd}{p:Plan}{mask bud:Int}{s:Za}{r:Bool×Int×Int×List Zg}(h:spF m d q p mask bud=some (s,r)):VS s∧r.2.2.2.length≤14:=by
 unfold spF at h;split at h
 ·exact rwbF_bd h
 ·cases h
def lbF(m:Zk)(d:Zl)(q:Zd)(p:Plan)(bud:Int):Nat→List Int→List Int→Int→List Int×List Int×Int
 |0,lo,hi,t=>(lo,hi,t)
 |k+1,lo,hi,t =>
  if Zck q.Zi q.Atoms p.Steps lo hi=0 then(lo,hi,t)
  else if(dcs (spF m d q p (Zck q.Zi q.Atoms p.Steps lo hi) bud)).1=true then
   lbF m d q p bud k (laF (dcs (spF m d q p (Zck q.Zi q.Atoms p.Steps lo hi) bud)).2.2 lo hi 0).1 (laF (dcs (spF m d q p (Zck q.Zi q.Atoms p.Steps lo hi) bud)).2.2 lo hi 0).2.1 (w (t+(dcs (spF m d q p (Zck q.Zi q.Atoms p.Steps lo hi) bud)).2.1))
  else((laF (dcs (spF m d q p (Zck q.Zi q.Atoms p.Steps lo hi) bud)).2.2 lo hi 0).1,(laF (dcs (spF m d q p (Zck q.Zi q.Atoms p.Steps lo hi) bud)).2.2 lo hi 0).2.1,w (t+(dcs (spF m d q p (Zck q.Zi q.Atoms p.Steps lo hi) bud)).2.1))
def lbR(ok:Bool)(r:List Int×List Int×Int):AV×List Blk:=(.tup [.agg [.own 0,.own 1],I r.2.2,Bo ok],bxR r.1 r.2.1)
theorem Zble(m:Zk)(d:Zl)(q:Zd)(p:Plan)(mask bud:Int):(dcs (spF m d q p mask bud)).2.2.length≤1000:=by
 cases e:spF m d q p mask bud with
 |none=>simp[dcs]
 |some v =>
  obtain⟨s,f,c,st,o⟩:=v;have:=(spF_bd e).2;simp only[dcs]at *;omega
theorem LeZ.la{lo hi:List Int}(h:LeZ ⟨lo,hi⟩)(l:List Zg)(n:Int):LeZ ⟨(laF l lo hi n).1,(laF l lo hi n).2.1⟩:=by
 have:=Zwj l lo hi n;exact⟨by have:=h.1;simp only at *;omega,by have:=h.2;simp only at *;omega⟩
section
variable{m:Zk}(hm:LeM m){d:Zl}(hd:LeD d){q:Zd}(hq:LeQ q)(p:Plan)(bud:Int)
include hm hd hq
theorem Zblf:∀k:Nat,k≤4→∀(lo hi:List Int) (t:Int),LeZ ⟨lo,hi⟩→Zg9 m d q p lo hi bud t (4-(k:Int))=some (lbR true (lbF m d q p bud k lo hi t))
 |0,_,lo,hi,t,h=>by
  refine Zbgd ?_
  rw[if_neg (by omega)];rfl
 |k+1,hk,lo,hi,t,h=>by
  refine Zbgd ?_;rw[if_pos (by omega),show w (4-((k+1:Nat):Int)+1)=4-(k:Int) by rw[show 4-((k+1:Nat):Int)+1=4-(k:Int) by omega];exact Zq (by omega) (by omega)];refine⟨_,Zb0x q hq p ⟨lo,hi⟩ h,?_⟩;rw[lbF];generalize Zck q.Zi q.Atoms p.Steps lo hi=z;by_cases c:z=0
  ·rw[if_pos c,if_pos c];rfl
  rw[if_neg c,if_neg c];have hR:=Zb0u hm hd hq p z bud;have hl:=Zble m d q p z bud;have A1:=Zb04 ⟨lo,hi⟩ h (dcs (spF m d q p z bud)).2.2 hl;have A0:=Zb06 ⟨lo,hi⟩ h;have hZ:=h.la (dcs (spF m d q p z bud)).2.2 0;have ih:=Zblf k (by omega) _ _ (w (t+(dcs (spF m d q p z bud)).2.1)) hZ;have fin:if(dcs (spF m d q p z bud)).1=true then Zg9 m d q p (laF (dcs (spF m d q p z bud)).2.2 lo hi 0).1 (laF (dcs (spF m d q p z bud)).2.2 lo hi 0).2.1 bud (w (t+(dcs (spF m d q p z bud)).2.1)) (4-(k:Int))=some (lbR true (if(dcs (spF m d q p z bud)).1=true then lbF m d q p bud k (laF (dcs (spF m d q p z bud)).2.2 lo hi 0).1 (laF (dcs (spF m d q p z bud)).2.2 lo hi 0).2.1 (w (t+(dcs (spF m d q p z bud)).2.1))else((laF (dcs (spF m d q p z bud)).2.2 lo hi 0).1,(laF (dcs (spF m d q p z bud)).2.2 lo hi 0).2.1,w (t+(dcs (spF m d q p z bud)).2.1))))
    else some (.tup [.agg [.own 0,.own 1],I (w (t+(dcs (spF m d q p z bud)).2.1)),Bo true],bxR (laF (dcs (spF m d q p z bud)).2.2 lo hi 0).1 (laF (dcs (spF m d q p z bud)).2.2 lo hi 0).2.1)=some (lbR true (if(dcs (spF m d q p z bud)).1=true then lbF m d q p bud k (laF (dcs (spF m d q p z bud)).2.2 lo hi 0).1 (laF (dcs (spF m d q p z bud)).2.2 lo hi 0).2.1 (w (t+(dcs (spF m d q p z bud)).2.1))else((laF (dcs (spF m d q p z bud)).2.2 lo hi 0).1,(laF (dcs (spF m d q p z bud)).2.2 lo hi 0).2.1,w (t+(dcs (spF m d q p z bud)).2.1)))):=by
   refine Zoc (fun e=>?_) (fun e=>?_)
   ·rw[if_pos e];exact ih
   ·rw[if_neg e];rfl
  generalize spF m d q p z bud=x at *
  rcases rw_impl x with⟨st,g,e,eo⟩|⟨st,e⟩|⟨st,v,r,e,eo⟩|⟨st,v,r,e⟩
  ·rw[e]at hR;rw[eo]at fin⊢;exact .inl ⟨_,_,_,_,hR,_,_,_,A0,fin⟩
  ·rw[e]at hR;exact .inr (.inl ⟨_,_,_,_,hR,_,_,_,A1,fin⟩)
  ·rw[e]at hR;rw[eo]at fin⊢;exact .inr (.inr (.inl ⟨_,_,_,_,_,hR,_,_,_,A0,fin⟩))
  ·rw[e]at hR;exact .inr (.inr (.inr ⟨_,_,_,_,_,_,hR,_,_,_,A1,fin⟩))
theorem Zblg:∀k:Nat,k≤4→∀(lo hi:List Int) (t:Int),LeZ ⟨lo,hi⟩→Zfm m d q p lo hi bud t (4-(k:Int))=some (lbR true (lbF m d q p bud k lo hi t))
 |0,_,lo,hi,t,h=>by
  refine Zbgj ?_
  rw[if_neg (by omega)];rfl
 |k+1,hk,lo,hi,t,h=>by
  refine Zbgj ?_;rw[if_pos (by omega),show w (4-((k+1:Nat):Int)+1)=4-(k:Int) by rw[show 4-((k+1:Nat):Int)+1=4-(k:Int) by omega];exact Zq (by omega) (by omega)];refine⟨_,Zb0z q hq p ⟨lo,hi⟩ h,?_⟩;rw[lbF];generalize Zck q.Zi q.Atoms p.Steps lo hi=z;by_cases c:z=0
  ·rw[if_pos c,if_pos c];rfl
  rw[if_neg c,if_neg c];have hR:=Zb0v hm hd hq p z bud;have hl:=Zble m d q p z bud;have A1:=Zb05 ⟨lo,hi⟩ h (dcs (spF m d q p z bud)).2.2 hl;have A0:=Zb07 ⟨lo,hi⟩ h;have hZ:=h.la (dcs (spF m d q p z bud)).2.2 0;have ih:=Zblg k (by omega) _ _ (w (t+(dcs (spF m d q p z bud)).2.1)) hZ;have fin:if(dcs (spF m d q p z bud)).1=true then Zfm m d q p (laF (dcs (spF m d q p z bud)).2.2 lo hi 0).1 (laF (dcs (spF m d q p z bud)).2.2 lo hi 0).2.1 bud (w (t+(dcs (spF m d q p z bud)).2.1)) (4-(k:Int))=some (lbR true (if(dcs (spF m d q p z bud)).1=true then lbF m d q p bud k (laF (dcs (spF m d q p z bud)).2.2 lo hi 0).1 (laF (dcs (spF m d q p z bud)).2.2 lo hi 0).2.1 (w (t+(dcs (spF m d q p z bud)).2.1))else((laF (dcs (spF m d q p z bud)).2.2 lo hi 0).1,(laF (dcs (spF m d q p z bud)).2.2 lo hi 0).2.1,w (t+(dcs (spF m d q p z bud)).2.1))))
    else some (.tup [.agg [.own 0,.own 1],I (w (t+(dcs (spF m d q p z bud)).2.1)),Bo true],bxR (laF (dcs (spF m d q p z bud)).2.2 lo hi 0).1 (laF (dcs (spF m d q p z bud)).2.2 lo hi 0).2.1)=some (lbR true (if(dcs (spF m d q p z bud)).1=true then lbF m d q p bud k (laF (dcs (spF m d q p z bud)).2.2 lo hi 0).1 (laF (dcs (spF m d q p z bud)).2.2 lo hi 0).2.1 (w (t+(dcs (spF m d q p z bud)).2.1))else((laF (dcs (spF m d q p z bud)).2.2 lo hi 0).1,(laF (dcs (spF m d q p z bud)).2.2 lo hi 0).2.1,w (t+(dcs (spF m d q p z bud)).2.1)))):=by
   refine Zoc (fun e=>?_) (fun e=>?_)
   ·rw[if_pos e];exact ih
   ·rw[if_neg e];rfl
  generalize spF m d q p z bud=x at *
  rcases rw_spec x with⟨st,g,e,eo⟩|⟨st,e⟩|⟨st,v,e,eo⟩|⟨st,v,r,e,eo⟩|⟨st,v,e⟩|⟨st,v,r,e⟩
  ·rw[e]at hR;rw[eo]at fin⊢;exact .inl ⟨_,_,_,_,hR,_,_,_,A0,fin⟩
  ·rw[e]at hR;exact .inr (.inl ⟨_,_,_,_,hR,_,_,_,A1,fin⟩)
  ·rw[e]at hR;rw[eo]at fin⊢;exact .inr (.inr (.inl ⟨_,_,_,_,hR,_,_,_,A0,fin⟩))
  ·rw[e]at hR;rw[eo]at fin⊢;exact .inr (.inr (.inr (.inl ⟨_,_,_,_,_,hR,_,_,_,A0,fin⟩)))
  ·rw[e]at hR;exact .inr (.inr (.inr (.inr (.inl ⟨_,_,_,_,_,hR,_,_,_,A1,fin⟩))))
  ·rw[e]at hR;exact .inr (.inr (.inr (.inr (.inr ⟨_,_,_,_,_,_,hR,_,_,_,A1,fin⟩))))
end
theorem Zb41(q:Zd)(hq:LeQ q)(p:Plan):Zq7 q p=some (Bo (Z8 q.Zi q.Atoms p.Steps).isSome,[]):=by
 have q1:=Znx q p hq;refine Zbwx ?_
 cases he:Z8 q.Zi q.Atoms p.Steps with
 |none=>rw[he]at q1;exact .inl ⟨q1,rfl⟩
 |some info=>rw[he]at q1;exact .inr ⟨_,q1,rfl⟩
theorem Zb42(q:Zd)(hq:LeQ q)(p:Plan):Zrg q p=some (Bo (Z8 q.Zi q.Atoms p.Steps).isSome,[]):=by
 have q1:=Znw q p hq;refine Zbw9 ?_
 cases he:Z8 q.Zi q.Atoms p.Steps with
 |none=>rw[he]at q1;exact⟨[],false,q1,rfl⟩
 |some info=>rw[he]at q1;exact⟨_,true,q1,rfl⟩
open Classical in
def lbsF(m:Zk)(d:Zl)(q:Zd)(p:Plan)(b:Box)(bud:Int):Bool×(List Int×List Int×Int) :=
 if Zdi m∧qFor d q=true∧(Z8 q.Zi q.Atoms p.Steps).isSome=true∧Zcs q.Zi q.Atoms b.Low b.High=true∧inR bud 0 1000000000000=true then(true,lbF m d q p bud 4 b.Low b.High 0)else(false,b.Low,b.High,0)
theorem Zb43{m:Zk}(hm:LeM m){d:Zl}(hd:LeD d){q:Zd}(hq:LeQ q)(p:Plan)(b:Box)(hb:LeZ b)(bud:Int):Zu8 m d q p b bud=some (lbR (lbsF m d q p b bud).1 (lbsF m d q p b bud).2):=by
 refine Zbw8 ⟨_,_,Zwh b hb,_,Zbgr m hm,?_⟩;unfold lbsF;by_cases a:Zdi m
 ·rw[if_pos (by simpa using a)];refine⟨_,Zvr d hd q hq,?_⟩;rcases tf (qFor d q)with f|f
  ·rw[f,if_neg (by decide),if_neg (by simp)];rfl
  rw[f,if_pos rfl];refine⟨_,Zb41 q hq p,?_⟩;rcases tf (Z8 q.Zi q.Atoms p.Steps).isSome with g|g
  ·rw[g,if_neg (by decide),if_neg (by simp)];rfl
  rw[g,if_pos rfl];refine⟨_,Zbji q hq b hb,?_⟩;rcases tf (Zcs q.Zi q.Atoms b.Low b.High)with h|h
  ·rw[h,if_neg (by decide),if_neg (by simp)];rfl
  rw[h,if_pos rfl];refine⟨_,Zcv _ _ _,?_⟩;rcases tf (inR bud 0 1000000000000)with k|k
  ·rw[k,if_neg (by decide),if_neg (by simp)];rfl
  rw[k,if_pos rfl,if_pos ⟨a,rfl,rfl,rfl,rfl⟩];exact Zblf hm hd hq p bud 4 (by omega) b.Low b.High 0 hb
 ·rw[if_neg (by simpa using a),if_neg (fun h=>a h.1)];rfl
theorem Zb44{m:Zk}(hm:LeM m){d:Zl}(hd:LeD d){q:Zd}(hq:LeQ q)(p:Plan)(b:Box)(hb:LeZ b)(bud:Int):Zvd m d q p b bud=some (lbR (lbsF m d q p b bud).1 (lbsF m d q p b bud).2):=by
 have hf:=full16 q.Zi q.Atoms;have hC:=Zwi b hb;refine Zbxk ⟨_,Z34 m hm,?_⟩;unfold lbsF;by_cases a:Zdi m
 ·rw[if_pos (by simpa using a)];refine⟨_,Zvs d hd q hq,?_⟩;rcases tf (qFor d q)with f|f
  ·rw[f,if_neg (by decide),if_neg (by simp)];exact⟨_,_,hC,rfl⟩
  rw[f,if_pos rfl];refine⟨_,Zb42 q hq p,?_⟩;rcases tf (Z8 q.Zi q.Atoms p.Steps).isSome with g|g
  ·rw[g,if_neg (by decide),if_neg (by simp)];exact⟨_,_,hC,rfl⟩
  rw[g,if_pos rfl];refine⟨_,Zrr b hb.x,?_⟩;rcases tf (Zcr b.Low b.High)with h|h
  ·rw[h,if_neg (by decide),if_neg (by simp[Zcs,h])];exact⟨_,_,hC,rfl⟩
  rw[h,if_pos rfl];refine⟨_,Zbgk q hq,?_⟩;rw[wA (by omega) (by omega)];by_cases c:(b.Low.length:Int)=Zfa q.Zi q.Atoms+1
  ·have e2:Zcs q.Zi q.Atoms b.Low b.High=true:=by simp[Zcs,h,c]
   rw[if_pos c];refine⟨_,Zc4 _ _ _,?_⟩;rcases tf (inR bud 0 1000000000000)with k|k
   ·rw[k,if_neg (by decide),if_neg (by simp)];exact⟨_,_,hC,rfl⟩
   rw[k,if_pos rfl,if_pos ⟨a,rfl,rfl,e2,rfl⟩];exact⟨_,_,hC,Zblg hm hd hq p bud 4 (by omega) b.Low b.High 0 hb⟩
  ·rw[if_neg c,if_neg (by simp[Zcs,h,c])];exact⟨_,_,hC,rfl⟩
 ·rw[if_neg (by simpa using a),if_neg (fun h=>a h.1)];exact⟨_,_,hC,rfl⟩
end
end Go.Proofs.YtgnfoghkbpkgjaaGreat
