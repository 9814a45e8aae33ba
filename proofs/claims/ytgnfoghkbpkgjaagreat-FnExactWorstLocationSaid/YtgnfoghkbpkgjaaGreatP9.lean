/-
  Parts of the proofs for this seat: D2 T1 T2 T3 G1 G2.
-/
import Derived.Test.YtgnfoghkbpkgjaaGreatP8
set_option linter.unusedSimpArgs false
set_option linter.unusedVariables false
set_option maxRecDepth 100000
set_option maxHeartbeats 4000000
namespace Go.Proofs.YtgnfoghkbpkgjaaGreat
open Go.AM
def Z1c:MCode:=.r [.ln 212 4 14,.st 4 8 212,.mk' 9 2] [8,9] .ret
def Zpi:MCode:=.wc [.fa 186 0 5,.l 187 186,.bk 188 .eql 187 4] [5,8,11,12,13,14,188] 188 (.wc [.m 189 13,.fa 190 2 5,.l 191 190,.cl 192 348 [189,191],.o 193 (.un .not (.s 192)),.m 194 193,.h 195 194 (.fa 1 11),.h 196 194 (.l 195),.h 197 194 (.fa 2 5),.h 198 194 (.l 197),.h 199 194 (.b .neq 196 198),.o 200 (.pick (.s 194) (.q true) (.s 199)),.m 201 200,.h 202 201 (.fa 1 12),.h 203 201 (.l 202),.h 204 201 (.fa 2 5),.h 205 201 (.l 204),.h 206 201 (.b .neq 203 205),.o 207 (.pick (.s 201) (.q true) (.s 206))] [5,8,14,207] 207 (.r [.o 208 (.build [.t .z,.t .z,.t .z,.t .z] []),.st 4 8 208,.mk' 9 (-1)] [8,9] .ret) (.reg [.fa 209 2 5,.l 210 209,.fa 211 1 14,.st 1 211 210] [8,14])) Z1c
def Zpj:MCode:=.cond (.s 106) (.wc [.fa 110 1 5,.l 111 110,.bk 112 .neq 111 0,.m 113 112,.h 114 113 (.mov (.s 10)),.h 115 113 (.bk .lss 114 2),.o 116 (.pick (.s 113) (.q true) (.s 115))] [2,3,4,5,8,10,116] 116 (.r [.o 117 (.build [.t .z,.t .z,.t .z,.t .z] []),.st 4 8 117,.mk' 9 (-1)] [8,9] .ret) (.r [.m 118 2,.m 119 3,.m 120 10,.bk 121 .sub 120 2,.ia 122 1 119 121,.l 123 122,.ia 124 4 118 123,.ln 125 4 124,.o 11 (.alloc [.t .z,.t .z,.t .z,.t .z]),.st 4 11 125] [2,3,4,5,8,10,11] (.r [.m 126 2,.m 127 3,.m 128 10,.bk 129 .sub 128 1,.ia 130 1 127 129,.l 131 130,.ia 132 4 126 131,.ln 133 4 132,.o 12 (.alloc [.t .z,.t .z,.t .z,.t .z]),.st 4 12 133] [3,4,5,8,10,11,12] (.seq (.drw [.ln 134 2 4,.fa 135 0 11,.l 136 135,.cl 137 349 [134,136],.ln 138 2 4,.fa 139 0 12,.l 140 139,.cl 141 349 [138,140],.b 142 .and 137 141,.m 13 142] [[],[],[1],[0,2],[],[],[5],[4,6,3],[3,7],[8,7,0,1,2,3,4,5,6,7,8]] [3,5,8,10,11,12,13]) (.wc [.fa 143 0 11,.l 144 143,.fa 145 0 12,.l 146 145,.b 147 .and 144 146,.bk 148 .neq 147 0,.m 149 148,.h 150 149 (.mov (.s 13)),.h 151 149 (.bk .eql 150 0),.o 152 (.pick (.s 149) (.q true) (.s 151)),.m 153 152,.h 154 153 (.fa 0 5),.h 155 153 (.l 154),.h 156 153 (.bk .neq 155 4),.h 157 153 (.mov (.s 156)),.g 158 157 (.fa 2 5),.g 159 157 (.l 158),.g 160 157 (.bk .neq 159 0),.h 161 153 (.pick (.s 157) (.s 160) (.q false)),.o 162 (.pick (.s 153) (.q true) (.s 161))] [3,5,8,10,11,12,13,162] 162 (.r [.o 163 (.build [.t .z,.t .z,.t .z,.t .z] []),.st 4 8 163,.mk' 9 (-1)] [8,9] .ret) (.seq (.drw [.fa 164 0 11,.l 165 164,.fa 166 0 12,.l 167 166,.b 168 .or 165 167,.m 169 3,.m 170 10,.bk 171 .sub 170 2,.ia 172 1 169 171,.l 173 172,.m 174 3,.m 175 10,.bk 176 .sub 175 1,.ia 177 1 174 176,.l 178 177,.o 179 (.build [.t .z,.t .z,.t .z,.t .z] [(0,1,.s 168),(1,1,.c (.t (.int .i64 (-1)))),(2,1,.s 173),(3,1,.s 178)]),.o 14 (.alloc [.t .z,.t .z,.t .z,.t .z]),.st 4 14 179] [[],[0],[],[2],[1,3],[],[],[6],[5,7],[8],[],[],[11],[10,12],[13],[4,9,14],[],[16,15,0,1,2,3,4,5,6,7,8,9,10,11,12,13,14,15,16]] [5,8,11,12,13,14]) (.wc [.fa 180 0 5,.l 181 180,.bk 182 .eql 181 5] [5,8,11,12,13,14,182] 182 (.reg [.fa 183 1 11,.l 184 183,.fa 185 1 14,.st 1 185 184] [5,8,11,12,13,14]) Zpi))))))) .skip
def Z1d:MFun:=⟨4,214,[.cell 8 (some 4),.tmp 9],.r [.bx 4 0,.bx 5 1,.o 8 (.alloc [.t .z,.t .z,.t .z,.t .z]),.mk' 9 0] [2,3,4,5,8] (.r [.m 15 3,.ll 16 15,.m 10 16] [2,3,4,5,8,10] (.seq (.r [.fa 17 0 5,.l 18 17] [2,3,4,5,8,10,18] (.block 0 (.r [.bk 20 .eql 18 1,.m 19 20] [2,3,4,5,8,10,18,19] (.cond (.s 19) (.wc [.fa 21 1 5,.l 22 21,.fa 23 1 4,.l 24 23,.ll 25 24,.bk 26 .sub 25 1,.o 27 (.call 122 [.s 22,.c (.t .z),.s 26]),.o 28 (.un .not (.s 27)),.m 29 28,.h 30 29 (.fa 2 5),.h 31 29 (.l 30),.h 32 29 (.bk .neq 31 0),.o 33 (.pick (.s 29) (.q true) (.s 32))] [4,5,8,33] 33 (.r [.o 34 (.build [.t .z,.t .z,.t .z,.t .z] []),.st 4 8 34,.mk' 9 (-1)] [8,9] .ret) (.seq (.drw [.fa 35 1 5,.l 36 35,.o 37 (.bin .shl (.k 1) (.s 36)),.fa 38 1 4,.l 39 38,.fa 40 1 5,.l 41 40,.ia 42 2 39 41,.fa 43 1 42,.l 44 43,.o 45 (.iaddr 1 (.s 44) (.k 0)),.l 46 45,.o 47 (.build [.t .z,.t .z,.t .z,.t .z] [(0,1,.s 37),(1,1,.s 46),(2,1,.c (.t (.int .i64 (-1)))),(3,1,.c (.t (.int .i64 (-1))))]),.st 4 8 47,.mk' 9 0] [[],[0],[1],[],[3],[],[5],[4,6],[7],[8],[9],[10],[2,11],[12,0,1,2,3,4,5,6,7,8,9,10,11,12],[13,0,1,2,3,4,5,6,7,8,9,10,11,12,13]] [8,9]) .ret)) (.r [.bk 49 .eql 18 2,.m 48 49] [2,3,4,5,8,10,18,48] (.cond (.s 48) (.seq (.seq (.drw [.fa 50 1 5,.l 51 50,.bk 52 .neq 51 0,.m 53 52,.h 54 53 (.mov (.s 10)),.h 55 53 (.bk .lss 54 1),.o 56 (.pick (.s 53) (.q true) (.s 55)),.m 57 56,.h 58 57 (.mov (.s 2)),.h 59 57 (.mov (.s 3)),.h 60 57 (.mov (.s 10)),.h 61 57 (.bk .sub 60 1),.h 62 57 (.ia 1 59 61),.h 63 57 (.l 62),.h 64 57 (.ia 4 58 63),.h 65 57 (.fa 1 64),.h 66 57 (.l 65),.h 67 57 (.fa 2 5),.h 68 57 (.l 67),.h 69 57 (.b .eql 66 68),.o 70 (.pick (.s 57) (.q true) (.s 69)),.m 71 70,.h 72 71 (.ln 2 4),.h 73 71 (.mov (.s 2)),.h 74 71 (.mov (.s 3)),.h 75 71 (.mov (.s 10)),.h 76 71 (.bk .sub 75 1),.h 77 71 (.ia 1 74 76),.h 78 71 (.l 77),.h 79 71 (.ia 4 73 78),.h 80 71 (.fa 0 79),.h 81 71 (.l 80),.h 82 71 (.cl 349 [72,81]),.h 83 71 (.fa 2 5),.h 84 71 (.l 83),.h 85 71 (.cl 348 [82,84]),.h 86 71 (.un .not (.s 85)),.o 87 (.pick (.s 71) (.q true) (.s 86))] [[],[0],[1],[2],[3],[4,3],[3,5],[6,3],[7],[7],[7],[10,7],[9,11,7],[12,7],[8,13,7],[14,7],[15,7],[7],[17,7],[16,18,7],[7,19],[20,7],[21],[21],[21],[21],[25,21],[24,26,21],[27,21],[23,28,21],[29,21],[30,21],[22,31,21,21],[21],[33,21],[32,34,32,21],[35,21],[21,36]] [2,3,5,8,10,87]) (.cond (.s 87) (.r [.o 88 (.build [.t .z,.t .z,.t .z,.t .z] []),.st 4 8 88,.mk' 9 (-1)] [8,9] .ret) .skip)) (.seq (.drw [.m 89 2,.m 90 3,.m 91 10,.bk 92 .sub 91 1,.ia 93 1 90 92,.l 94 93,.ia 95 4 89 94,.fa 96 0 95,.l 97 96,.fa 98 2 5,.l 99 98,.m 100 3,.m 101 10,.bk 102 .sub 101 1,.ia 103 1 100 102,.l 104 103,.o 105 (.build [.t .z,.t .z,.t .z,.t .z] [(0,1,.s 97),(1,1,.s 99),(2,1,.s 104),(3,1,.c (.t (.int .i64 (-1))))]),.st 4 8 105,.mk' 9 1] [[],[],[],[2],[1,3],[4],[0,5],[6],[7],[],[9],[],[],[12],[11,13],[14],[8,10,15],[16,0,1,2,3,4,5,6,7,8,9,10,11,12,13,14,15,16],[17,0,1,2,3,4,5,6,7,8,9,10,11,12,13,14,15,16,17]] [8,9]) .ret)) (.seq (.r [.bk 107 .eql 18 3,.m 106 107] [2,3,4,5,8,10,18,106] (.cond (.s 106) .skip (.r [.bk 108 .eql 18 4,.m 106 108] [2,3,4,5,8,10,18,106] (.cond (.s 106) .skip (.reg [.bk 109 .eql 18 5,.m 106 109] [2,3,4,5,8,10,106]))))) Zpj))))))) (.r [.o 213 (.build [.t .z,.t .z,.t .z,.t .z] []),.st 4 8 213,.mk' 9 (-1)] [8,9] .ret)))⟩
noncomputable def Zho (a:Zc) (a1:Zb) (a2:List Zg) (a3:List Int):Rs:=C 273 [.agg (a.c.map .t),.agg (a1.c.map .t),L 4 (a2.map Zg.c),L 1 (a3.map ic)] []
noncomputable def Zhp (q:Zc) (x:Zb) (x1:Zg) (info:List Zg) (stack:List Int) (n:Int) (x2:Int) (x3:Bool):Rs:=Ev C [.blk 0,.seq (.seq (.reg [.o 213 (.build [.t (.int .i64 0),.t (.int .i64 0),.t (.int .i64 0),.t (.int .i64 0)] []),.n (.store 4 (.s 8) (.s 213)),.o 9 (.mov (.k (-1)))] [8,9]) (.ret)),.fin 0 [.cell 8 (some 4),.tmp 9]] Zpj ⟨[(2,L 4 (info.map Zg.c)),(3,L 1 (stack.map ic)),(4,.ptr 0 0),(5,.ptr 1 0),(8,.ptr 2 0),(10,I n),(18,I x2),(106,Bo x3)],[[]],[.box (q.c.map .t),.box (x.c.map .t),.box (x1.c.map .t)]⟩
noncomputable def Zjm (x:Zc) (x1:Zb) (x2:Zg) (a:Zg) (b:Zg) (y:Zg) (v:Int):Rs:=Ev C [.blk 0,.seq (.seq (.reg [.o 213 (.build [.t (.int .i64 0),.t (.int .i64 0),.t (.int .i64 0),.t (.int .i64 0)] []),.n (.store 4 (.s 8) (.s 213)),.o 9 (.mov (.k (-1)))] [8,9]) (.ret)),.fin 0 [.cell 8 (some 4),.tmp 9]] Zpi ⟨[(5,.ptr 1 0),(8,.ptr 2 0),(11,.ptr 3 0),(12,.ptr 4 0),(13,I v),(14,.ptr 5 0)],[[]],[.box (x.c.map .t),.box (x1.c.map .t),.box (x2.c.map .t),.box (a.c.map .t),.box (b.c.map .t),.box (y.c.map .t)]⟩
noncomputable def Zf8 (x:Zc) (x1:Zb) (x2:Zg) (a:Zg) (b:Zg) (y:Zg) (v:Int) (x3:Bool):Rs:=Ev C [.blk 0,.seq (.seq (.reg [.o 213 (.build [.t (.int .i64 0),.t (.int .i64 0),.t (.int .i64 0),.t (.int .i64 0)] []),.n (.store 4 (.s 8) (.s 213)),.o 9 (.mov (.k (-1)))] [8,9]) (.ret)),.fin 0 [.cell 8 (some 4),.tmp 9]] Zpi ⟨[(5,.ptr 1 0),(8,.ptr 2 0),(11,.ptr 3 0),(12,.ptr 4 0),(13,I v),(14,.ptr 5 0),(182,Bo x3)],[[]],[.box (x.c.map .t),.box (x1.c.map .t),.box (x2.c.map .t),.box (a.c.map .t),.box (b.c.map .t),.box (y.c.map .t)]⟩
def Zul:MCode:=.we [.m 24 8,.fa 25 0 3,.l 26 25,.ll 27 26,.b 28 .lss 24 27] [2,3,6,7,8,28] 28 0 (.seq (.block 1 (.seq (.drw [.ln 32 2 2,.fa 33 0 3,.l 34 33,.m 35 8,.ia 36 3 34 35,.ln 37 3 36,.m 38 6,.m 39 7,.cl 40 273 [32,37,38,39],.m 31 40,.o 41 (.ext (.s 31) 0),.o 42 (.ext (.s 31) 1),.o 9 (.alloc [.t .z,.t .z,.t .z,.t .z]),.st 4 9 41,.m 10 42] [[],[],[1],[],[2,3],[4],[],[],[0,5,6,7],[8],[9],[9],[],[12,10,8,0,1,2,3,4,5,6,7,8,9,10,12],[11,13,0,1,2,3,4,5,6,7,8,9,10,11,12,13]] [2,3,6,7,8,9,10]) (.wc [.m 43 10,.bk 44 .lss 43 0] [2,3,6,7,8,9,10,44] 44 (.r [.o 45 (.bslice 209 4 0 [.z,.z,.z,.z] []),.m 4 45,.o 5 (.mov (.q false))] [4,5] .ret) (.r [.m 46 6,.ln 47 4 9,.o 48 (.bslice 209 4 1 [.z,.z,.z,.z] [(0,.s 47)]),.o 49 (.append 209 4 32 true (.s 46) (.s 48)),.m 6 49] [2,3,6,7,8,10] (.reg [.o 50 (.bslice 3 1 0 [.z] []),.m 51 7,.m 52 7,.ll 53 52,.m 54 10,.b 55 .sub 53 54,.o 56 (.slice (some 1) (.s 51) none (some (.s 55))),.o 57 (.append 3 1 8 false (.s 50) (.s 56)),.m 58 8,.o 59 (.bslice 3 1 1 [.z] [(0,.s 58)]),.o 60 (.append 3 1 8 true (.s 57) (.s 59)),.m 7 60] [2,3,6,7,8]))))) (.reg [.m 29 8,.bk 30 .add 29 1,.m 8 30] [2,3,6,7,8]))
def Zum:MCode:=.wc [.m 61 7,.ll 62 61,.bk 63 .neq 62 1] [6,63] 63 (.r [.o 64 (.bslice 209 4 0 [.z,.z,.z,.z] []),.m 4 64,.o 5 (.mov (.q false))] [4,5] .ret) (.r [.m 65 6,.m 4 65,.o 5 (.mov (.q true))] [4,5] .ret)
def Z1e:MFun:=⟨2,66,[.tmp 4,.tmp 5],.r [.bx 2 0,.bx 3 1,.o 4 (.mov (.c (.t .nil))),.o 5 (.mov (.q false))] [2,3] (.r [.o 11 (.bslice 209 4 0 [.z,.z,.z,.z] []),.m 6 11] [2,3,6] (.r [.o 12 (.bslice 3 1 0 [.z] []),.m 7 12] [2,3,6,7] (.wc [.ln 13 2 2,.cl 14 200 [13],.o 15 (.un .not (.s 14)),.m 16 15,.h 17 16 (.fa 0 3),.h 18 16 (.l 17),.h 19 16 (.ll 18),.h 20 16 (.call 122 [.s 19,.c (.t (.int .i64 1)),.c (.t (.int .i64 14))]),.h 21 16 (.un .not (.s 20)),.o 22 (.pick (.s 16) (.q true) (.s 21))] [2,3,6,7,22] 22 (.r [.m 23 6,.m 4 23,.o 5 (.mov (.q false))] [4,5] .ret) (.seq (.r [.mk' 8 0] [2,3,6,7,8] (.block 0 (.loop [2,3,6,7,8] Zul))) Zum))))⟩
noncomputable def Zjn (a:Zc) (a1:Plan):Rs:=C 161 [.agg (a.c.map .t),.agg (a1.c.map .t)] []
noncomputable def Zl5 (q:Zc) (p:Plan) (info:List Zg) (stack:List Int) (i:Int):Rs:=EvL C [.blk 0,.seq Zum,.fin 0 [.tmp 4,.tmp 5]] [2,3,6,7,8] Zul ⟨[(2,.ptr 0 0),(3,.ptr 1 0),(6,.own 2),(7,.own 3),(8,I i)],[[]],[.box (q.c.map .t),.box (p.c.map .t),.arr 209 4 true (info.map Zg.c),.arr 3 1 true (stack.map ic)]⟩
def Z1f:MFun:=⟨2,22,[.tmp 4],.r [.bx 2 0,.bx 3 1,.mk' 4 0] [2,3] (.r [.ln 8 2 2,.ln 9 1 3,.cl 10 161 [8,9],.m 7 10,.o 11 (.ext (.s 7) 0),.o 12 (.ext (.s 7) 1),.m 5 11,.m 6 12] [5,6] (.wc [.m 13 6,.o 14 (.un .not (.s 13))] [5,14] 14 (.r [.mk' 4 0] [4] .ret) (.r [.m 15 5,.m 16 5,.ll 17 16,.bk 18 .sub 17 1,.ia 19 4 15 18,.fa 20 0 19,.l 21 20,.m 4 21] [4] .ret)))⟩
noncomputable def Zl6 (a:Zc) (a1:Plan):Rs:=C 288 [.agg (a.c.map .t),.agg (a1.c.map .t)] []
def Zun:MCode:=.we [.m 54 5,.fa 55 6 3,.l 56 55,.ll 57 56,.b 58 .lss 54 57] [2,3,5,58] 58 0 (.seq (.block 1 (.seq (.drw [.ln 61 2 2,.fa 62 6 3,.l 63 62,.m 64 5,.ia 65 1 63 64,.ln 66 1 65,.cl 67 288 [61,66],.ln 68 2 2,.cl 69 81 [68],.b 70 .neq 67 69,.m 71 70,.h 72 71 (.ln 2 2),.h 73 71 (.cl 81 [72]),.h 74 71 (.bk .eql 73 0),.o 75 (.pick (.s 71) (.q true) (.s 74))] [[],[],[1],[],[2,3],[4],[0,5],[],[7,6],[6,8],[9,8],[10],[11,10,10],[12,10],[10,13]] [2,3,5,75]) (.cond (.s 75) (.r [.o 4 (.mov (.q false))] [4] .ret) .skip))) (.reg [.m 59 5,.bk 60 .add 59 1,.m 5 60] [2,3,5]))
def Zuo:MCode:=.we [.m 120 7,.fa 121 7 3,.l 122 121,.m 123 6,.ia 124 1 122 123,.l 125 124,.ll 126 125,.b 127 .lss 120 126] [3,6,7,127] 127 4 (.seq (.block 5 (.seq (.drw [.fa 130 7 3,.l 131 130,.m 132 6,.ia 133 1 131 132,.l 134 133,.m 135 7,.ia 136 1 134 135,.l 137 136,.fa 138 6 3,.l 139 138,.ll 140 139,.bk 141 .sub 140 1,.o 142 (.call 122 [.s 137,.c (.t .z),.s 141]),.o 143 (.un .not (.s 142)),.m 144 143,.h 145 144 (.fa 7 3),.h 146 144 (.l 145),.h 147 144 (.mov (.s 6)),.h 148 144 (.ia 1 146 147),.h 149 144 (.l 148),.h 150 144 (.mov (.s 7)),.h 151 144 (.slice (some 1) (.s 149) none (some (.s 150))),.h 152 144 (.fa 7 3),.h 153 144 (.l 152),.h 154 144 (.mov (.s 6)),.h 155 144 (.ia 1 153 154),.h 156 144 (.l 155),.h 157 144 (.mov (.s 7)),.h 158 144 (.ia 1 156 157),.h 159 144 (.l 158),.h 160 144 (.cl 148 [151,159]),.o 161 (.pick (.s 144) (.q true) (.s 160))] [[],[0],[],[1,2],[3],[],[4,5],[6],[],[8],[9],[10],[7,11],[12],[13,12],[14],[15,14],[14],[16,17,14],[18,14],[14],[19,20,14],[14],[22,14],[14],[23,24,14],[25,14],[14],[26,27,14],[28,14],[21,29,14,14],[14,30]] [3,6,7,161]) (.cond (.s 161) (.r [.o 4 (.mov (.q false))] [4] .ret) .skip))) (.reg [.m 128 7,.bk 129 .add 128 1,.m 7 129] [3,6,7]))
def Zup:MCode:=.reg [.m 81 6,.bk 82 .add 81 1,.m 6 82] [3,6]
def Zpk:MCode:=.we [.m 76 6,.fa 77 5 3,.l 78 77,.ll 79 78,.b 80 .lss 76 79] [3,6,80] 80 2 (.seq (.block 3 (.seq (.seq (.drw [.fa 83 5 3,.l 84 83,.m 85 6,.ia 86 1 84 85,.l 87 86,.o 88 (.call 122 [.s 87,.c (.t (.int .i64 1)),.c (.t (.int .i64 500000000000))]),.o 89 (.un .not (.s 88)),.m 90 89,.h 91 90 (.mov (.s 6)),.h 92 90 (.bk .gtr 91 0),.h 93 90 (.mov (.s 92)),.g 94 93 (.fa 5 3),.g 95 93 (.l 94),.g 96 93 (.mov (.s 6)),.g 97 93 (.ia 1 95 96),.g 98 93 (.l 97),.g 99 93 (.fa 5 3),.g 100 93 (.l 99),.g 101 93 (.mov (.s 6)),.g 102 93 (.bk .sub 101 1),.g 103 93 (.ia 1 100 102),.g 104 93 (.l 103),.g 105 93 (.fa 1 3),.g 106 93 (.l 105),.g 107 93 (.b .mul 104 106),.g 108 93 (.b .neq 98 107),.h 109 90 (.pick (.s 93) (.s 108) (.q false)),.o 110 (.pick (.s 90) (.q true) (.s 109)),.m 111 110,.h 112 111 (.fa 7 3),.h 113 111 (.l 112),.h 114 111 (.mov (.s 6)),.h 115 111 (.ia 1 113 114),.h 116 111 (.l 115),.h 117 111 (.ll 116),.h 118 111 (.bk .eql 117 0),.o 119 (.pick (.s 111) (.q true) (.s 118))] [[],[0],[],[1,2],[3],[4],[5],[6,5],[7],[8,7],[9,7,7],[10],[11,10],[10],[12,13,10],[14,10],[10],[16,10],[10],[18,10],[17,19,10],[20,10],[10],[22,10],[21,23,10],[15,24,10],[10,25,7],[7,26],[27,10],[28],[29,28],[28],[30,31,28],[32,28],[33,28],[34,28],[28,35]] [3,6,119]) (.cond (.s 119) (.r [.o 4 (.mov (.q false))] [4] .ret) .skip)) (.r [.mk' 7 0] [3,6,7] (.block 4 (.loop [3,6,7] Zuo))))) Zup)
def Zpl:MCode:=.r [.o 4 (.mov (.q true))] [4] .ret
def Zuq:MCode:=.seq (.r [.mk' 6 0] [3,6] (.block 2 (.loop [3,6] Zpk))) Zpl
def Z1g:MFun:=⟨2,162,[.tmp 4],.r [.bx 2 0,.bx 3 1,.o 4 (.mov (.q false))] [2,3] (.seq (.seq (.drw [.fa 8 0 3,.l 9 8,.o 10 (.call 122 [.s 9,.c (.t (.int .i64 1)),.c (.t (.int .i64 999))]),.o 11 (.un .not (.s 10)),.m 12 11,.h 13 12 (.fa 1 3),.h 14 12 (.l 13),.h 15 12 (.call 122 [.s 14,.c (.t (.int .i64 2)),.c (.t (.int .i64 8))]),.h 16 12 (.un .not (.s 15)),.o 17 (.pick (.s 12) (.q true) (.s 16)),.m 18 17,.h 19 18 (.fa 2 3),.h 20 18 (.l 19),.h 21 18 (.call 122 [.s 20,.c (.t .z),.c (.t (.int .i64 100))]),.h 22 18 (.un .not (.s 21)),.o 23 (.pick (.s 18) (.q true) (.s 22)),.m 24 23,.h 25 24 (.fa 3 3),.h 26 24 (.fa 0 25),.h 27 24 (.l 26),.h 28 24 (.ll 27),.h 29 24 (.ln 2 2),.h 30 24 (.cl 81 [29]),.h 31 24 (.bk .add 30 1),.h 32 24 (.b .neq 28 31),.o 33 (.pick (.s 24) (.q true) (.s 32)),.m 34 33,.h 35 34 (.fa 3 3),.h 36 34 (.ln 2 35),.h 37 34 (.cl 82 [36]),.h 38 34 (.call 122 [.s 37,.c (.t (.int .i64 1)),.c (.t (.int .i64 400))]),.h 39 34 (.un .not (.s 38)),.o 40 (.pick (.s 34) (.q true) (.s 39))] [[],[0],[1],[2],[3,2],[4],[5,4],[6,4,4],[7,4],[4,8],[9,7],[10],[11,10],[12,10,10],[13,10],[10,14],[15,13],[16],[17,16],[18,16],[19,16],[16],[21,16,16],[22,16],[20,23,16],[16,24],[25,22],[26],[27,26],[28,26,26],[29,29,26],[30,26],[26,31]] [2,3,40]) (.cond (.s 40) (.r [.o 4 (.mov (.q false))] [4] .ret) .skip)) (.wc [.fa 41 5 3,.l 42 41,.ll 43 42,.bk 44 .eql 43 0,.m 45 44,.h 46 45 (.fa 5 3),.h 47 45 (.l 46),.h 48 45 (.ll 47),.h 49 45 (.fa 7 3),.h 50 45 (.l 49),.h 51 45 (.ll 50),.h 52 45 (.b .neq 48 51),.o 53 (.pick (.s 45) (.q true) (.s 52))] [2,3,53] 53 (.r [.o 4 (.mov (.q false))] [4] .ret) (.seq (.r [.mk' 5 0] [2,3,5] (.block 0 (.loop [2,3,5] Zun))) Zuq)))⟩
noncomputable def Zl7 (a:Zc) (a1:Zh):Rs:=C 194 [.agg (a.c.map .t),.agg (a1.c.map .t)] []
noncomputable def Zjo (q:Zc) (b:Zh) (i:Int):Rs:=EvL C [.blk 0,.seq Zuq,.fin 0 [.tmp 4]] [2,3,5] Zun ⟨[(2,.ptr 0 0),(3,.ptr 1 0),(5,I i)],[[]],[.box (q.c.map .t),.box (b.c.map .t)]⟩
noncomputable def Zhq (b:Zh) (k:Int):Rs:=EvL C [.blk 2,.seq Zpl,.fin 0 [.tmp 4]] [3,6] Zpk ⟨[(3,.ptr 0 0),(6,I k)],[[]],[.box (b.c.map .t)]⟩
noncomputable def Zhr (b:Zh) (k:Int) (i:Int):Rs:=EvL C [.blk 4,.blk 3,.seq Zup,.loop [3,6] Zpk,.blk 2,.seq Zpl,.fin 0 [.tmp 4]] [3,6,7] Zuo ⟨[(3,.ptr 0 0),(6,I k),(7,I i)],[[]],[.box (b.c.map .t)]⟩
def Z1h:MFun:=⟨2,16,[.tmp 4],.r [.bx 2 0,.o 4 (.mov (.q false))] [1,2] (.r [.ln 5 2 2,.cl 6 200 [5],.m 7 6,.g 8 7 (.mov (.s 1)),.g 9 7 (.fa 1 2),.g 10 7 (.l 9),.g 11 7 (.ll 10),.g 12 7 (.bin .shl (.k 1) (.s 11)),.g 13 7 (.bk .sub 12 1),.g 14 7 (.call 122 [.s 8,.c (.t .z),.s 13]),.o 15 (.pick (.s 7) (.s 14) (.q false)),.m 4 15] [4] .ret)⟩
noncomputable def Zhs (a:Zc) (a1:Int):Rs:=C 225 [.agg (a.c.map .t),I a1] []
def Z1i:MCode:=.reg [.m 16 7,.bk 17 .add 16 1,.m 7 17] [1,2,5,6,7]
def Zur:MCode:=.we [.m 11 7,.fa 12 1 2,.l 13 12,.ll 14 13,.b 15 .lss 11 14] [1,2,5,6,7,15] 15 0 (.seq (.block 1 (.seq (.drw [.m 18 1,.m 19 7,.b 20 .shr 18 19,.bk 21 .and 20 1,.bk 22 .eql 21 0,.m 23 22,.g 24 23 (.ln 2 2),.g 25 23 (.mov (.s 7)),.g 26 23 (.bin .shl (.k 1) (.s 25)),.g 27 23 (.cl 349 [24,26]),.g 28 23 (.mov (.s 6)),.g 29 23 (.b .and 27 28),.g 30 23 (.bk .neq 29 0),.o 31 (.pick (.s 23) (.s 30) (.q false))] [[],[],[0,1],[2],[3],[4],[5],[5],[7,5],[6,8,5,5],[5],[9,10,5],[11,5],[5,12]] [1,2,5,6,7,31]) (.cond (.s 31) (.reg [.m 32 5,.m 33 7,.o 34 (.bin .shl (.k 1) (.s 33)),.b 35 .or 32 34,.m 5 35] [1,2,5,6,7]) .skip))) Z1i)
def Zus:MCode:=.r [.m 36 5,.m 4 36] [4] .ret
def Z1j:MFun:=⟨2,37,[.tmp 4],.r [.bx 2 0,.mk' 4 0] [1,2] (.r [.mk' 5 0] [1,2,5] (.r [.ln 8 2 2,.m 9 1,.cl 10 349 [8,9],.m 6 10] [1,2,5,6] (.seq (.r [.mk' 7 0] [1,2,5,6,7] (.block 0 (.loop [1,2,5,6,7] Zur))) Zus)))⟩
noncomputable def Zpm (a:Zc) (a1:Int):Rs:=C 300 [.agg (a.c.map .t),I a1] []
noncomputable def Zht (q:Zc) (mask:Int) (out:Int) (bits:Int) (i:Int):Rs:=EvL C [.blk 0,.seq Zus,.fin 0 [.tmp 4]] [1,2,5,6,7] Zur ⟨[(1,I mask),(2,.ptr 0 0),(5,I out),(6,I bits),(7,I i)],[[]],[.box (q.c.map .t)]⟩
def Zut:MCode:=.we [.m 11 6,.fa 12 1 2,.l 13 12,.ll 14 13,.b 15 .lss 11 14] [1,2,5,6,15] 15 0 (.seq (.block 1 (.reg [.m 18 5,.ln 19 2 2,.m 20 5,.cl 21 300 [19,20],.m 22 1,.b 23 .and 21 22,.b 24 .or 18 23,.m 5 24] [1,2,5,6])) (.reg [.m 16 6,.bk 17 .add 16 1,.m 6 17] [1,2,5,6]))
def Zuu:MCode:=.r [.m 25 5,.m 26 1,.b 27 .eql 25 26,.m 4 27] [4] .ret
def Z1k:MFun:=⟨2,28,[.tmp 4],.r [.bx 2 0,.o 4 (.mov (.q false))] [1,2] (.r [.m 7 1,.m 8 1,.o 9 (.un .neg (.s 8)),.b 10 .and 7 9,.m 5 10] [1,2,5] (.seq (.r [.mk' 6 0] [1,2,5,6] (.block 0 (.loop [1,2,5,6] Zut))) Zuu))⟩
noncomputable def Zhu (a:Zc) (a1:Int):Rs:=C 226 [.agg (a.c.map .t),I a1] []
noncomputable def Zl8 (q:Zc) (mask:Int) (x:Int) (n:Int):Rs:=EvL C [.blk 0,.seq Zuu,.fin 0 [.tmp 4]] [1,2,5,6] Zut ⟨[(1,I mask),(2,.ptr 0 0),(5,I x),(6,I n)],[[]],[.box (q.c.map .t)]⟩
def Z1l:MFun:=⟨2,17,[.tmp 4],.r [.bx 2 0,.o 4 (.mov (.q false))] [1,2] (.r [.ln 5 2 2,.m 6 1,.cl 7 225 [5,6],.m 8 7,.g 9 8 (.mov (.s 1)),.g 10 8 (.bk .gtr 9 0),.o 11 (.pick (.s 8) (.s 10) (.q false)),.m 12 11,.g 13 12 (.ln 2 2),.g 14 12 (.mov (.s 1)),.g 15 12 (.cl 226 [13,14]),.o 16 (.pick (.s 12) (.s 15) (.q false)),.m 4 16] [4] .ret)⟩
noncomputable def Zhv (a:Zc) (a1:Int):Rs:=C 109 [.agg (a.c.map .t),I a1] []
def Zuv:MCode:=.we [.m 6 4,.m 7 0,.ll 8 7,.b 9 .lss 6 8,.m 10 9,.g 11 10 (.mov (.s 0)),.g 12 10 (.cl 207 [11]),.o 13 (.pick (.s 10) (.s 12) (.q false))] [0,3,4,13] 13 0 (.seq (.block 1 (.reg [.m 16 3,.m 17 0,.m 18 4,.ia 19 1 17 18,.l 20 19,.cl 21 208 [20],.o 22 (.bslice 3 1 1 [.z] [(0,.s 21)]),.o 23 (.append 3 1 8 true (.s 16) (.s 22)),.m 3 23] [0,3,4])) (.reg [.m 14 4,.bk 15 .add 14 1,.m 4 15] [0,3,4]))
def Zuw:MCode:=.r [.m 24 3,.m 2 24] [2] .ret
def Z1m:MFun:=⟨1,25,[.tmp 2],.r [.o 2 (.mov (.c (.t .nil)))] [0] (.r [.o 5 (.bslice 3 1 0 [.z] []),.m 3 5] [0,3] (.seq (.r [.mk' 4 0] [0,3,4] (.block 0 (.loop [0,3,4] Zuv))) Zuw))⟩
noncomputable def Zeq (a:List Int):Rs:=C 87 [L 1 (a.map ic)] []
noncomputable def Zl9 (out:List Int) (l:List Int) (i:Int):Rs:=EvL C [.blk 0,.seq Zuw,.fin 0 [.tmp 2]] [0,3,4] Zuv ⟨[(0,L 1 (l.map ic)),(3,.own 0),(4,I i)],[[]],[.arr 3 1 true (out.map ic)]⟩
def Zux:MCode:=.we [.m 17 5,.m 18 1,.ll 19 18,.b 20 .lss 17 19] [1,5,20] 20 0 (.seq (.block 1 (.r [.m 23 1,.m 24 5,.ia 25 1 23 24,.l 26 25,.o 27 (.call 122 [.s 26,.c (.t .z),.c (.t (.int .i64 4096))]),.o 28 (.un .not (.s 27))] [1,5,28] (.cond (.s 28) (.r [.o 4 (.mov (.q false))] [4] .ret) .skip))) (.reg [.m 21 5,.bk 22 .add 21 1,.m 5 22] [1,5]))
def Zuy:MCode:=.r [.o 4 (.mov (.q true))] [4] .ret
def Z1n:MFun:=⟨2,29,[.tmp 4],.r [.bx 2 0,.o 4 (.mov (.q false))] [1,2] (.wc [.ln 6 2 2,.cl 7 200 [6],.o 8 (.un .not (.s 7)),.m 9 8,.h 10 9 (.mov (.s 1)),.h 11 9 (.ll 10),.h 12 9 (.ln 2 2),.h 13 9 (.cl 81 [12]),.h 14 9 (.bk .add 13 1),.h 15 9 (.b .neq 11 14),.o 16 (.pick (.s 9) (.q true) (.s 15))] [1,16] 16 (.r [.o 4 (.mov (.q false))] [4] .ret) (.seq (.r [.mk' 5 0] [1,5] (.block 0 (.loop [1,5] Zux))) Zuy))⟩
noncomputable def Zhw (a:Zc) (a1:List Int):Rs:=C 371 [.agg (a.c.map .t),L 1 (a1.map ic)] []
noncomputable def Zma (sizes:List Int) (i:Int):Rs:=EvL C [.blk 0,.seq Zuy,.fin 0 [.tmp 4]] [1,5] Zux ⟨[(1,L 1 (sizes.map ic)),(5,I i)],[[]],[]⟩
def Z1o:MCode:=.reg [.m 12 5,.bk 13 .add 12 1,.m 5 13] [1,3,4,5]
def Zuz:MCode:=.we [.m 9 5,.m 10 4,.b 11 .leq 9 10] [1,3,4,5,11] 11 0 (.seq (.block 1 (.r [.ln 14 2 1,.m 15 5,.cl 16 226 [14,15]] [1,3,4,5,16] (.cond (.s 16) (.reg [.m 17 3,.m 18 5,.o 19 (.bslice 3 1 1 [.z] [(0,.s 18)]),.o 20 (.append 3 1 8 true (.s 17) (.s 19)),.m 3 20] [1,3,4,5]) .skip))) Z1o)
def Zu0:MCode:=.r [.m 21 3,.m 2 21] [2] .ret
def Z1p:MFun:=⟨1,22,[.tmp 2],.r [.bx 1 0,.o 2 (.mov (.c (.t .nil)))] [1] (.r [.o 6 (.bslice 3 1 0 [.z] []),.m 3 6] [1,3] (.r [.ln 7 2 1,.cl 8 81 [7],.m 4 8] [1,3,4] (.seq (.r [.mk' 5 1] [1,3,4,5] (.block 0 (.loop [1,3,4,5] Zuz))) Zu0)))⟩
noncomputable def Zmb (a:Zc):Rs:=C 197 [.agg (a.c.map .t)] []
noncomputable def Zjp (q:Zc) (out:List Int) (full:Int) (m:Int):Rs:=EvL C [.blk 0,.seq Zu0,.fin 0 [.tmp 2]] [1,3,4,5] Zuz ⟨[(1,.ptr 0 0),(3,.own 1),(4,I full),(5,I m)],[[]],[.box (q.c.map .t),.arr 3 1 true (out.map ic)]⟩
def Z1q:MCode:=.reg [.m 16 6,.bk 17 .add 16 1,.m 6 17] [1,2,5,6]
def Zu1:MCode:=.we [.m 13 6,.m 14 1,.b 15 .lss 13 14] [1,2,5,6,15] 15 0 (.seq (.block 1 (.r [.m 18 6,.m 19 1,.b 20 .and 18 19,.m 21 6,.b 22 .eql 20 21,.m 23 22,.g 24 23 (.ln 2 2),.g 25 23 (.mov (.s 6)),.g 26 23 (.cl 226 [24,25]),.o 27 (.pick (.s 23) (.s 26) (.q false)),.m 28 27,.g 29 28 (.ln 2 2),.g 30 28 (.mov (.s 1)),.g 31 28 (.mov (.s 6)),.g 32 28 (.b .sub 30 31),.g 33 28 (.cl 226 [29,32]),.o 34 (.pick (.s 28) (.s 33) (.q false))] [1,2,5,6,34] (.cond (.s 34) (.reg [.m 35 5,.m 36 6,.o 37 (.bslice 3 1 1 [.z] [(0,.s 36)]),.o 38 (.append 3 1 8 true (.s 35) (.s 37)),.m 5 38] [1,2,5,6]) .skip))) Z1q)
def Zu2:MCode:=.r [.m 39 5,.m 4 39] [4] .ret
def Z1r:MFun:=⟨2,40,[.tmp 4],.r [.bx 2 0,.o 4 (.mov (.c (.t .nil)))] [1,2] (.r [.o 7 (.bslice 3 1 0 [.z] []),.m 5 7] [1,2,5] (.wc [.ln 8 2 2,.m 9 1,.cl 10 109 [8,9],.o 11 (.un .not (.s 10))] [1,2,5,11] 11 (.r [.m 12 5,.m 4 12] [4] .ret) (.seq (.r [.mk' 6 1] [1,2,5,6] (.block 0 (.loop [1,2,5,6] Zu1))) Zu2)))⟩
noncomputable def Zpn (a:Zc) (a1:Int):Rs:=C 198 [.agg (a.c.map .t),I a1] []
noncomputable def Zer (q:Zc) (out:List Int) (mask:Int) (m:Int):Rs:=EvL C [.blk 0,.seq Zu2,.fin 0 [.tmp 4]] [1,2,5,6] Zu1 ⟨[(1,I mask),(2,.ptr 0 0),(5,.own 1),(6,I m)],[[]],[.box (q.c.map .t),.arr 3 1 true (out.map ic)]⟩
def Z1s:MCode:=.reg [.m 8 4,.bk 9 .add 8 1,.m 4 9] [0,3,4]
def Zu3:MCode:=.we [.m 6 4,.bk 7 .lss 6 4] [0,3,4,7] 7 0 (.seq (.block 1 (.r [.m 10 0,.m 11 4,.b 12 .shr 10 11,.bk 13 .and 12 1,.bk 14 .eql 13 1] [0,3,4,14] (.cond (.s 14) (.reg [.m 15 3,.m 16 4,.o 17 (.bslice 3 1 1 [.z] [(0,.s 16)]),.o 18 (.append 3 1 8 true (.s 15) (.s 17)),.m 3 18] [0,3,4]) .skip))) Z1s)
def Zu4:MCode:=.r [.m 19 3,.m 2 19] [2] .ret
def Z1t:MFun:=⟨1,20,[.tmp 2],.r [.o 2 (.mov (.c (.t .nil)))] [0] (.r [.o 5 (.bslice 3 1 0 [.z] []),.m 3 5] [0,3] (.seq (.r [.mk' 4 0] [0,3,4] (.block 0 (.loop [0,3,4] Zu3))) Zu4))⟩
noncomputable def Zu5 (a:Int):Rs:=C 353 [I a] []
noncomputable def Zjq (out:List Int) (bits:Int) (v:Int):Rs:=EvL C [.blk 0,.seq Zu4,.fin 0 [.tmp 2]] [0,3,4] Zu3 ⟨[(0,I bits),(3,.own 0),(4,I v)],[[]],[.arr 3 1 true (out.map ic)]⟩
def Z1u:MFun:=⟨2,14,[.tmp 4],.r [.bx 2 0,.o 4 (.mov (.c (.t .nil)))] [1,2] (.wc [.ln 5 2 2,.m 6 1,.cl 7 225 [5,6],.o 8 (.un .not (.s 7))] [1,2,8] 8 (.r [.o 9 (.bslice 3 1 0 [.z] []),.m 4 9] [4] .ret) (.r [.ln 10 2 2,.m 11 1,.cl 12 349 [10,11],.cl 13 353 [12],.m 4 13] [4] .ret))⟩
noncomputable def Zmc (a:Zc) (a1:Int):Rs:=C 276 [.agg (a.c.map .t),I a1] []
def Z1v:MCode:=.reg [.m 22 10,.bk 23 .add 22 1,.m 10 23] [7,8,9,10]
def Zu6:MCode:=.we [.m 18 10,.m 19 8,.ll 20 19,.b 21 .lss 18 20] [7,8,9,10,21] 21 0 (.seq (.block 1 (.r [.m 24 9,.m 25 8,.m 26 10,.ia 27 1 25 26,.l 28 27,.cl 29 148 [24,28]] [7,8,9,10,29] (.cond (.s 29) (.reg [.m 30 7,.m 31 8,.m 32 10,.ia 33 1 31 32,.l 34 33,.o 35 (.bslice 3 1 1 [.z] [(0,.s 34)]),.o 36 (.append 3 1 8 true (.s 30) (.s 35)),.m 7 36] [7,8,9,10]) .skip))) Z1v)
def Zu7:MCode:=.r [.m 37 7,.m 6 37] [6] .ret
def Z1w:MFun:=⟨3,38,[.tmp 6],.r [.bx 3 0,.o 6 (.mov (.c (.t .nil)))] [1,2,3] (.r [.o 11 (.bslice 3 1 0 [.z] []),.m 7 11] [1,2,3,7] (.r [.ln 12 2 3,.m 13 1,.cl 14 276 [12,13],.m 8 14] [2,3,7,8] (.r [.ln 15 2 3,.m 16 2,.cl 17 276 [15,16],.m 9 17] [7,8,9] (.seq (.r [.mk' 10 0] [7,8,9,10] (.block 0 (.loop [7,8,9,10] Zu6))) Zu7))))⟩
noncomputable def Zjr (a:Zc) (a1:Int) (a2:Int):Rs:=C 199 [.agg (a.c.map .t),I a1,I a2] []
noncomputable def Zjs (out:List Int) (x:List Int) (y:List Int) (i:Int):Rs:=EvL C [.blk 0,.seq Zu7,.fin 0 [.tmp 6]] [7,8,9,10] Zu6 ⟨[(7,.own 0),(8,.own 1),(9,.own 2),(10,I i)],[[]],[.arr 3 1 true (out.map ic),.arr 3 1 true (x.map ic),.arr 3 1 true (y.map ic)]⟩
def Zpo:MCode:=.we [.m 28 7,.fa 29 1 6,.l 30 29,.ll 31 30,.b 32 .lss 28 31] [1,3,4,5,6,7,32] 32 2 (.seq (.block 3 (.drw [.fa 35 2 6,.l 36 35,.ln 37 2 1,.fa 38 1 6,.l 39 38,.m 40 7,.ia 41 1 39 40,.l 42 41,.m 43 4,.m 44 5,.ia 45 1 43 44,.l 46 45,.fa 47 1 6,.l 48 47,.m 49 7,.ia 50 1 48 49,.l 51 50,.b 52 .sub 46 51,.cl 53 199 [37,42,52],.o 54 (.bslice 30 1 1 [.lst 1 []] [(0,.s 53)]),.o 55 (.append 30 1 24 true (.s 36) (.s 54)),.fa 56 2 6,.st 1 56 55] [[],[0],[],[],[3],[],[4,5],[6],[],[],[8,9],[10],[],[12],[],[13,14],[15],[11,16],[2,7,17],[18],[1,19,18],[0,1,2,3,4,5,6,7,8,9,10,11,12,13,14,15,16,17,18,19,20],[21,20,20,0,1,2,3,4,5,6,7,8,9,10,11,12,13,14,15,16,17,18,19,20]] [1,3,4,5,6,7])) (.reg [.m 33 7,.bk 34 .add 33 1,.m 7 34] [1,3,4,5,6,7]))
def Zpp:MCode:=.reg [.m 57 3,.ln 58 3 6,.o 59 (.bslice 257 3 1 [.z,.lst 1 [],.lst 1 []] [(0,.s 58)]),.o 60 (.append 257 3 56 true (.s 57) (.s 59)),.m 3 60] [1,3,4,5]
def Zpq:MCode:=.reg [.m 15 5,.bk 16 .add 15 1,.m 5 16] [1,3,4,5]
def Zmd:MCode:=.we [.m 11 5,.m 12 4,.ll 13 12,.b 14 .lss 11 13] [1,3,4,5,14] 14 0 (.seq (.block 1 (.seq (.drw [.m 17 4,.m 18 5,.ia 19 1 17 18,.l 20 19,.ln 21 2 1,.m 22 4,.m 23 5,.ia 24 1 22 23,.l 25 24,.cl 26 198 [21,25],.o 27 (.build [.t .z,.t .nil,.t .nil] [(0,1,.s 20),(1,1,.s 26)]),.o 6 (.alloc [.t .z,.t .nil,.t .nil]),.st 3 6 27] [[],[],[0,1],[2],[],[],[],[5,6],[7],[4,8],[3,9],[],[11,10,9,0,1,2,3,4,5,6,7,8,9,10,11]] [1,3,4,5,6]) (.seq (.r [.mk' 7 0] [1,3,4,5,6,7] (.block 2 (.loop [1,3,4,5,6,7] Zpo))) Zpp))) Zpq)
def Zme:MCode:=.r [.m 61 3,.m 2 61] [2] .ret
def Z1x:MFun:=⟨1,62,[.tmp 2],.r [.bx 1 0,.o 2 (.mov (.c (.t .nil)))] [1] (.r [.o 8 (.bslice 257 3 0 [.z,.lst 1 [],.lst 1 []] []),.m 3 8] [1,3] (.r [.ln 9 2 1,.cl 10 197 [9],.m 4 10] [1,3,4] (.seq (.r [.mk' 5 0] [1,3,4,5] (.block 0 (.loop [1,3,4,5] Zmd))) Zme)))⟩
noncomputable def Zfi (a:Zc):Rs:=C 80 [.agg (a.c.map .t)] []
noncomputable def Zf9 (q:Zc) (out:List Zu) (masks:List Int) (i:Int):Rs:=EvL C [.blk 0,.seq Zme,.fin 0 [.tmp 2]] [1,3,4,5] Zmd ⟨[(1,.ptr 0 0),(3,.own 1),(4,.own 2),(5,I i)],[[]],[.box (q.c.map .t),.arr 257 3 true (out.map Zu.c),.arr 3 1 true (masks.map ic)]⟩
noncomputable def Zpr (q:Zc) (out:List Zu) (masks:List Int) (mask:Int) (x:List Int) (i:Int) (k:Int):Rs:=EvL C [.blk 2,.seq Zpp,.blk 1,.seq Zpq,.loop [1,3,4,5] Zmd,.blk 0,.seq Zme,.fin 0 [.tmp 2]] [1,3,4,5,6,7] Zpo ⟨[(1,.ptr 0 0),(3,.own 1),(4,.own 2),(5,I i),(6,.ptr 3 0),(7,I k)],[[]],[.box (q.c.map .t),.arr 257 3 true (out.map Zu.c),.arr 3 1 true (masks.map ic),.box [I mask,.own 4,.t .nil],.arr 3 1 true (x.map ic)]⟩
noncomputable def Zmf (q:Zc) (out:List Zu) (masks:List Int) (mask:Int) (x:List Int) (x1:List (List Int)) (i:Int) (k:Int):Rs:=EvL C [.blk 2,.seq Zpp,.blk 1,.seq Zpq,.loop [1,3,4,5] Zmd,.blk 0,.seq Zme,.fin 0 [.tmp 2]] [1,3,4,5,6,7] Zpo ⟨[(1,.ptr 0 0),(3,.own 1),(4,.own 2),(5,I i),(6,.ptr 3 0),(7,I k)],[[]],[.box (q.c.map .t),.arr 257 3 true (out.map Zu.c),.arr 3 1 true (masks.map ic),.box [I mask,.own 4,.own 5],.arr 3 1 true (x.map ic),.arr 30 1 true (x1.map isc)]⟩
def Z1y:MCode:=.reg [.m 12 4,.bk 13 .add 12 1,.m 4 13] [0,3,4]
def Zu8:MCode:=.we [.m 6 4,.bk 7 .lss 6 4,.m 8 7,.g 9 8 (.mov (.s 0)),.g 10 8 (.call 122 [.s 9,.c (.t .z),.c (.t (.int .i64 15))]),.o 11 (.pick (.s 8) (.s 10) (.q false))] [0,3,4,11] 11 0 (.seq (.block 1 (.r [.m 14 0,.m 15 4,.b 16 .shr 14 15,.bk 17 .and 16 1,.bk 18 .eql 17 1] [0,3,4,18] (.cond (.s 18) (.reg [.m 19 3,.m 20 4,.o 21 (.bslice 3 1 1 [.z] [(0,.s 20)]),.o 22 (.append 3 1 8 true (.s 19) (.s 21)),.m 3 22] [0,3,4]) .skip))) Z1y)
def Zu9:MCode:=.r [.m 23 3,.m 2 23] [2] .ret
def Z1z:MFun:=⟨1,24,[.tmp 2],.r [.o 2 (.mov (.c (.t .nil)))] [0] (.r [.o 5 (.bslice 3 1 0 [.z] []),.m 3 5] [0,3] (.seq (.r [.mk' 4 0] [0,3,4] (.block 0 (.loop [0,3,4] Zu8))) Zu9))⟩
noncomputable def Zmg (a:Int):Rs:=C 204 [I a] []
noncomputable def Zjt (out:List Int) (mask:Int) (i:Int):Rs:=EvL C [.blk 0,.seq Zu9,.fin 0 [.tmp 2]] [0,3,4] Zu8 ⟨[(0,I mask),(3,.own 0),(4,I i)],[[]],[.arr 3 1 true (out.map ic)]⟩
def Z10:MFun:=⟨1,7,[.cell 2 (some 1)],.r [.o 2 (.alloc [.t .nil])] [0,2] (.r [.m 3 0,.o 4 (.build [.t .z,.t .z,.t .z] [(0,1,.c (.t (.int .i64 1))),(1,1,.s 3)]),.o 5 (.bslice 194 3 1 [.z,.z,.z] [(0,.s 4)]),.o 6 (.build [.t .nil] [(0,1,.s 5)]),.st 1 2 6] [2] .ret)⟩
noncomputable def Zmh (a:Int):Rs:=C 205 [I a] []
def Z11:MCode:=.reg [.m 11 6,.bk 12 .add 11 1,.m 6 12] [0,1,5,6]
def Zva:MCode:=.we [.m 7 6,.m 8 0,.ll 9 8,.b 10 .lss 7 9] [0,1,5,6,10] 10 0 (.seq (.block 1 (.seq (.drw [.m 13 0,.m 14 6,.ia 15 4 13 14,.fa 16 0 15,.l 17 16,.m 18 1,.b 19 .eql 17 18,.m 20 19,.g 21 20 (.mov (.s 5)),.g 22 20 (.bk .lss 21 0),.g 23 20 (.mov (.s 22)),.h 24 23 (.mov (.s 0)),.h 25 23 (.mov (.s 6)),.h 26 23 (.ia 4 24 25),.h 27 23 (.fa 2 26),.h 28 23 (.l 27),.h 29 23 (.mov (.s 0)),.h 30 23 (.mov (.s 5)),.h 31 23 (.ia 4 29 30),.h 32 23 (.fa 2 31),.h 33 23 (.l 32),.h 34 23 (.b .lss 28 33),.g 35 20 (.pick (.s 23) (.q true) (.s 34)),.o 36 (.pick (.s 20) (.s 35) (.q false))] [[],[],[0,1],[2],[3],[],[4,5],[6],[7],[8,7],[9,7,7],[10],[10],[11,12,10],[13,10],[14,10],[10],[10],[16,17,10],[18,10],[19,10],[15,20,10],[10,21,7],[7,22]] [0,1,5,6,36]) (.cond (.s 36) (.reg [.m 37 6,.m 5 37] [0,1,5,6]) .skip))) Z11)
def Zvb:MCode:=.r [.m 38 5,.m 4 38] [4] .ret
def Z12:MFun:=⟨2,39,[.tmp 4],.r [.mk' 4 0] [0,1] (.r [.mk' 5 (-1)] [0,1,5] (.seq (.r [.mk' 6 0] [0,1,5,6] (.block 0 (.loop [0,1,5,6] Zva))) Zvb))⟩
noncomputable def Zfj (a:List Za) (a1:Int):Rs:=C 203 [L 4 (a.map Za.c),I a1] []
noncomputable def Zga (l:List Za) (mask:Int) (best:Int) (i:Int):Rs:=EvL C [.blk 0,.seq Zvb,.fin 0 [.tmp 4]] [0,1,5,6] Zva ⟨[(0,L 4 (l.map Za.c)),(1,I mask),(5,I best),(6,I i)],[[]],[]⟩
def Z13:MFun:=⟨4,30,[.cell 8 (some 1)],.r [.bx 4 0,.bx 5 1,.o 8 (.alloc [.t .nil])] [2,3,4,5,8] (.r [.o 10 (.bslice 194 3 0 [.z,.z,.z] []),.fa 11 0 4,.l 12 11,.o 13 (.append 194 3 24 false (.s 10) (.s 12)),.o 14 (.build [.t .nil] [(0,1,.s 13)]),.o 9 (.alloc [.t .nil]),.st 1 9 14] [2,3,5,8,9] (.r [.fa 15 0 9,.l 16 15,.fa 17 0 5,.l 18 17,.o 19 (.append 194 3 24 false (.s 16) (.s 18)),.fa 20 0 9,.st 1 20 19] [2,3,8,9] (.r [.fa 21 0 9,.l 22 21,.m 23 2,.m 24 3,.o 25 (.build [.t .z,.t .z,.t .z] [(0,1,.s 23),(2,1,.s 24)]),.o 26 (.bslice 194 3 1 [.z,.z,.z] [(0,.s 25)]),.o 27 (.append 194 3 24 true (.s 22) (.s 26)),.fa 28 0 9,.st 1 28 27] [8,9] (.r [.ln 29 1 9,.st 1 8 29] [8] .ret))))⟩
noncomputable def Zdh (a:Plan) (a1:Plan) (a2:Int) (a3:Int):Rs:=C 362 [.agg (a.c.map .t),.agg (a1.c.map .t),I a2,I a3] []
def Zvc:MFun:=⟨8,81,[],.r [.bx 8 0,.bx 11 3,.bx 12 4] [1,2,5,6,7,8,11,12] (.seq (.drw [.fa 17 2 11,.l 18 17,.fa 19 2 12,.l 20 19,.b 21 .add 18 20,.ln 22 30 8,.m 23 5,.cl 24 164 [22,23],.m 25 1,.fa 26 0 11,.l 27 26,.ia 28 1 25 27,.l 29 28,.m 30 1,.fa 31 0 12,.l 32 31,.ia 33 1 30 32,.l 34 33,.m 35 1,.fa 36 0 11,.l 37 36,.fa 38 0 12,.l 39 38,.b 40 .or 37 39,.ia 41 1 35 40,.l 42 41,.cl 43 163 [24,29,34,42],.b 44 .add 21 43,.m 16 44] [[],[0],[],[2],[1,3],[],[],[5,6],[],[],[9],[8,10],[11],[],[],[14],[13,15],[16],[],[],[19],[],[21],[20,22],[18,23],[24],[7,12,17,25,7],[4,26],[27,26,0,1,2,3,4,5,6,7,8,9,10,11,12,13,14,15,16,17,18,19,20,21,22,23,24,25,26,27]] [2,5,6,7,11,12,16]) (.r [.m 45 2,.m 46 7,.bk 47 .add 46 1,.ia 48 4 45 47,.fa 49 0 48,.l 50 49,.bk 51 .eql 50 0,.m 52 51,.h 53 52 (.mov (.s 16)),.h 54 52 (.mov (.s 2)),.h 55 52 (.mov (.s 7)),.h 56 52 (.bk .add 55 1),.h 57 52 (.ia 4 54 56),.h 58 52 (.fa 2 57),.h 59 52 (.l 58),.h 60 52 (.b .lss 53 59),.o 61 (.pick (.s 52) (.q true) (.s 60))] [2,5,6,7,11,12,16,61] (.cond (.s 61) (.drw [.m 62 2,.m 63 7,.bk 64 .add 63 1,.fa 65 0 11,.l 66 65,.fa 67 0 12,.l 68 67,.b 69 .or 66 68,.m 70 7,.m 71 16,.fa 72 3 11,.ln 73 1 72,.fa 74 3 12,.ln 75 1 74,.m 76 5,.m 77 6,.cl 78 362 [73,75,76,77],.o 79 (.build [.t .z,.t .z,.t .z,.t .nil] [(0,1,.s 69),(1,1,.s 70),(2,1,.s 71),(3,1,.s 78)]),.ia 80 4 62 64,.st 4 80 79] [[],[],[1],[],[3],[],[5],[4,6],[],[],[],[10],[],[12],[],[],[11,13,14,15],[7,8,9,16],[0,2,0,1,2,3,4,5,6,7,8,9,10,11,12,13,14,15,16,17],[18,17,16,0,1,2,3,4,5,6,7,8,9,10,11,12,13,14,15,16,17]] []) .skip)))⟩
noncomputable def Zhx (x:List Int) (x1:List Za) (a:Zd) (a1:Za) (a2:Za) (a3:Int) (a4:Int) (a5:Int):Rs:=C 291 [.agg (a.c.map .t),.own 0,.own 1,.agg (a1.c.map .t),.agg (a2.c.map .t),I a3,I a4,I a5] [.arr 3 1 true (x.map ic),.arr 145 4 true (x1.map Za.c)]
def Zvd:MCode:=.we [.m 8 7,.m 9 0,.ll 10 9,.b 11 .lss 8 10] [0,1,2,7,11] 11 0 (.seq (.block 1 (.r [.m 14 0,.m 15 7,.ia 16 4 14 15,.fa 17 0 16,.l 18 17,.m 19 1,.b 20 .eql 18 19,.m 21 20,.g 22 21 (.mov (.s 0)),.g 23 21 (.mov (.s 7)),.g 24 21 (.ia 4 22 23),.g 25 21 (.fa 1 24),.g 26 21 (.l 25),.g 27 21 (.mov (.s 2)),.g 28 21 (.b .eql 26 27),.o 29 (.pick (.s 21) (.s 28) (.q false))] [0,1,2,7,29] (.cond (.s 29) (.r [.m 30 7,.m 6 30] [6] .ret) .skip))) (.reg [.m 12 7,.bk 13 .add 12 1,.m 7 13] [0,1,2,7]))
def Zve:MCode:=.r [.mk' 6 (-1)] [6] .ret
def Z14:MFun:=⟨3,31,[.tmp 6],.r [.mk' 6 0] [0,1,2] (.seq (.r [.mk' 7 0] [0,1,2,7] (.block 0 (.loop [0,1,2,7] Zvd))) Zve)⟩
noncomputable def Zju (a:List Za) (a1:Int) (a2:Int):Rs:=C 292 [L 4 (a.map Za.c),I a1,I a2] []
noncomputable def Zjv (l:List Za) (mask:Int) (order:Int) (i:Int):Rs:=EvL C [.blk 0,.seq Zve,.fin 0 [.tmp 6]] [0,1,2,7] Zvd ⟨[(0,L 4 (l.map Za.c)),(1,I mask),(2,I order),(7,I i)],[[]],[]⟩
def Z15:MFun:=⟨2,19,[.cell 4 (some 1)],.r [.bx 2 0,.o 4 (.alloc [.t .nil])] [1,2,4] (.r [.o 6 (.bslice 194 3 0 [.z,.z,.z] []),.fa 7 0 2,.l 8 7,.o 9 (.append 194 3 24 false (.s 6) (.s 8)),.o 10 (.build [.t .nil] [(0,1,.s 9)]),.o 5 (.alloc [.t .nil]),.st 1 5 10] [1,4,5] (.r [.fa 11 0 5,.l 12 11,.m 13 1,.o 14 (.build [.t .z,.t .z,.t .z] [(0,1,.c (.t (.int .i64 2))),(2,1,.s 13)]),.o 15 (.bslice 194 3 1 [.z,.z,.z] [(0,.s 14)]),.o 16 (.append 194 3 24 true (.s 12) (.s 15)),.fa 17 0 5,.st 1 17 16] [4,5] (.r [.ln 18 1 5,.st 1 4 18] [4] .ret)))⟩
noncomputable def Zjw (a:Plan) (a1:Int):Rs:=C 363 [.agg (a.c.map .t),I a1] []
noncomputable def Zps (x:List Int) (x1:List Za) (x2:List Zb) (a:Zd) (a1:Za) (Mask:Int) (Order:Int) (Cost:Int) (a2:Int) (a3:Int) (a4:Int):Rs:=C 291 [.agg (a.c.map .t),.own 0,.own 1,.agg (a1.c.map .t),.agg [I Mask,I Order,I Cost,.own 2],I a2,I a3,I a4] [.arr 3 1 true (x.map ic),.arr 145 4 true (x1.map Za.c),.arr 194 3 true (x2.map Zb.c)]
noncomputable def Zpt (x:List Int) (x1:List Za) (x2:List Zb) (a:Zd) (Mask:Int) (Order:Int) (Cost:Int) (a1:Za) (a2:Int) (a3:Int) (a4:Int):Rs:=C 291 [.agg (a.c.map .t),.own 0,.own 1,.agg [I Mask,I Order,I Cost,.own 2],.agg (a1.c.map .t),I a2,I a3,I a4] [.arr 3 1 true (x.map ic),.arr 145 4 true (x1.map Za.c),.arr 194 3 true (x2.map Zb.c)]
noncomputable def Zpu (x:List Int) (x1:List Za) (x2:List Zb) (x3:List Zb) (a:Zd) (Mask:Int) (Order:Int) (Cost:Int) (Mask1:Int) (Order1:Int) (Cost1:Int) (a1:Int) (a2:Int) (a3:Int):Rs:=C 291 [.agg (a.c.map .t),.own 0,.own 1,.agg [I Mask,I Order,I Cost,.own 2],.agg [I Mask1,I Order1,I Cost1,.own 3],I a1,I a2,I a3] [.arr 3 1 true (x.map ic),.arr 145 4 true (x1.map Za.c),.arr 194 3 true (x2.map Zb.c),.arr 194 3 true (x3.map Zb.c)]
def Z16:MFun:=⟨5,61,[.cell 10 (some 4)],.r [.bx 5 0,.o 10 (.alloc [.t .z,.t .z,.t .z,.t .nil])] [1,2,3,4,5,10] (.r [.m 14 2,.m 15 2,.m 16 3,.cl 17 203 [15,16],.ia 18 4 14 17,.ln 19 4 18,.o 11 (.alloc [.t .z,.t .z,.t .z,.t .nil]),.st 4 11 19] [1,2,3,4,5,10,11] (.seq (.drw [.fa 20 2 11,.l 21 20,.fa 22 6 5,.ln 23 6 22,.m 24 1,.m 25 3,.ia 26 1 24 25,.l 27 26,.m 28 1,.m 29 3,.ia 30 1 28 29,.l 31 30,.o 32 (.call 163 [.s 23,.s 27,.c (.t .z),.s 31]),.b 33 .add 21 32,.m 12 33] [[],[0],[],[2],[],[],[4,5],[6],[],[],[8,9],[10],[3,7,11],[1,12],[13,12,0,1,2,3,4,5,6,7,8,9,10,11,12,13]] [2,3,4,10,11,12]) (.r [.m 34 2,.m 35 3,.m 36 4,.cl 37 292 [34,35,36],.m 13 37] [2,3,4,10,11,12,13] (.wc [.m 38 13,.bk 39 .geq 38 0,.m 40 39,.g 41 40 (.mov (.s 2)),.g 42 40 (.mov (.s 13)),.g 43 40 (.ia 4 41 42),.g 44 40 (.fa 2 43),.g 45 40 (.l 44),.g 46 40 (.mov (.s 12)),.g 47 40 (.b .leq 45 46),.o 48 (.pick (.s 40) (.s 47) (.q false))] [2,3,4,10,11,12,13,48] 48 (.r [.m 49 2,.m 50 13,.ia 51 4 49 50,.ln 52 4 51,.st 4 10 52] [10] .ret) (.r [.m 53 3,.m 54 4,.m 55 12,.fa 56 3 11,.ln 57 1 56,.m 58 4,.cl 59 363 [57,58],.o 60 (.build [.t .z,.t .z,.t .z,.t .nil] [(0,1,.s 53),(1,1,.s 54),(2,1,.s 55),(3,1,.s 59)]),.st 4 10 60] [10] .ret)))))⟩
noncomputable def Zes (x:List Int) (fr:Bool) (x1:List Za) (a:Zd) (a1:Int) (a2:Int):Rs:=C 293 [.agg (a.c.map .t),.own 0,.own 1,I a1,I a2] [.arr 3 1 true (x.map ic),.arr 145 4 fr (x1.map Za.c)]
def Z17:MCode:=.reg [.m 58 15,.bk 59 .add 58 1,.m 15 59] [1,2,4,7,9,10,11,12,14,15]
def Zvf:MCode:=.we [.m 56 15,.bk 57 .lss 56 4] [1,2,4,7,9,10,11,12,14,15,57] 57 2 (.seq (.block 3 (.r [.m 60 2,.m 61 11,.m 62 15,.cl 63 292 [60,61,62],.m 16 63] [1,2,4,7,9,10,11,12,14,15,16] (.r [.m 64 16,.bk 65 .geq 64 0] [1,2,4,7,9,10,11,12,14,15,16,65] (.cond (.s 65) (.drw [.ln 66 30 4,.m 67 1,.m 68 9,.m 69 2,.m 70 16,.ia 71 4 69 70,.ln 72 4 71,.ln 73 4 14,.m 74 15,.o 75 (.icall 291 [.s 66,.s 67,.s 68,.s 72,.s 73,.c (.t (.int .i64 5)),.c (.t .z),.s 74])] [[],[],[],[],[],[3,4],[5],[],[],[0,1,2,6,7,8]] [1,2,4,7,9,10,11,12,14,15]) .skip)))) Z17)
def Zvg:MCode:=.we [.m 76 17,.fa 77 2 7,.l 78 77,.m 79 10,.ia 80 1 78 79,.l 81 80,.ll 82 81,.b 83 .lss 76 82] [1,2,4,7,9,10,11,12,17,83] 83 4 (.seq (.block 5 (.r [.fa 86 2 7,.l 87 86,.m 88 10,.ia 89 1 87 88,.l 90 89,.m 91 17,.ia 92 1 90 91,.l 93 92,.m 18 93] [1,2,4,7,9,10,11,12,17,18] (.drw [.ln 94 30 4,.m 95 1,.m 96 9,.ln 97 30 4,.m 98 1,.m 99 2,.m 100 11,.m 101 18,.o 102 (.pcall 293 [.s 97,.s 98,.s 99,.s 100,.s 101]),.ln 103 30 4,.m 104 1,.m 105 2,.m 106 12,.m 107 18,.o 108 (.pcall 293 [.s 103,.s 104,.s 105,.s 106,.s 107]),.m 109 18,.m 110 18,.o 111 (.icall 291 [.s 94,.s 95,.s 96,.s 102,.s 108,.c (.t (.int .i64 4)),.s 109,.s 110])] [[],[],[],[],[],[],[],[],[3,4,5,6,7],[],[],[],[],[],[9,10,11,12,13,8],[],[],[0,1,2,8,14,15,16,14]] [1,2,4,7,9,10,11,12,17]))) (.reg [.m 84 17,.bk 85 .add 84 1,.m 17 85] [1,2,4,7,9,10,11,12,17]))
def Zvh:MCode:=.r [.mk' 17 0] [1,2,4,7,9,10,11,12,17] (.block 4 (.loop [1,2,4,7,9,10,11,12,17] Zvg))
def Zpv:MCode:=.reg [.m 27 10,.bk 28 .add 27 1,.m 10 28] [1,2,4,7,9,10]
def Zmi:MCode:=.we [.m 22 10,.fa 23 1 7,.l 24 23,.ll 25 24,.b 26 .lss 22 25] [1,2,4,7,9,10,26] 26 0 (.seq (.block 1 (.r [.fa 29 1 7,.l 30 29,.m 31 10,.ia 32 1 30 31,.l 33 32,.m 11 33] [1,2,4,7,9,10,11] (.r [.fa 34 0 7,.l 35 34,.m 36 11,.b 37 .sub 35 36,.m 12 37] [1,2,4,7,9,10,11,12] (.r [.m 38 2,.m 39 2,.m 40 11,.cl 41 203 [39,40],.ia 42 4 38 41,.ln 43 4 42,.o 13 (.alloc [.t .z,.t .z,.t .z,.t .nil]),.st 4 13 43] [1,2,4,7,9,10,11,12,13] (.r [.m 44 2,.m 45 2,.m 46 12,.cl 47 203 [45,46],.ia 48 4 44 47,.ln 49 4 48,.o 14 (.alloc [.t .z,.t .z,.t .z,.t .nil]),.st 4 14 49] [1,2,4,7,9,10,11,12,13,14] (.r [.ln 50 30 4,.m 51 1,.m 52 9,.ln 53 4 13,.ln 54 4 14,.o 55 (.icall 291 [.s 50,.s 51,.s 52,.s 53,.s 54,.c (.t (.int .i64 3)),.c (.t .z),.c (.t (.int .i64 (-1)))])] [1,2,4,7,9,10,11,12,14] (.seq (.r [.mk' 15 (-1)] [1,2,4,7,9,10,11,12,14,15] (.block 2 (.loop [1,2,4,7,9,10,11,12,14,15] Zvf))) Zvh))))))) Zpv)
def Z18:MCode:=.reg [.m 115 20,.bk 116 .add 115 1,.m 20 116] [9,19,20]
def Zvi:MCode:=.we [.m 113 20,.bk 114 .leq 113 4] [9,19,20,114] 114 6 (.seq (.block 7 (.r [.m 117 9,.m 118 20,.ia 119 4 117 118,.fa 120 0 119,.l 121 120,.bk 122 .gtr 121 0] [9,19,20,122] (.cond (.s 122) (.reg [.m 123 19,.m 124 9,.m 125 20,.ia 126 4 124 125,.ln 127 4 126,.o 128 (.bslice 145 4 1 [.z,.z,.z,.lst 3 []] [(0,.s 127)]),.o 129 (.append 145 4 48 true (.s 123) (.s 128)),.m 19 129] [9,19,20]) .skip))) Z18)
def Zvj:MCode:=.r [.m 130 19,.m 8 130] [8] .ret
def Zmj:MCode:=.r [.o 112 (.bslice 145 4 0 [.z,.z,.z,.lst 3 []] []),.m 19 112] [9,19] (.seq (.r [.mk' 20 0] [9,19,20] (.block 6 (.loop [9,19,20] Zvi))) Zvj)
def Z19:MFun:=⟨4,131,[.tmp 8],.r [.bx 4 0,.bx 7 3,.o 8 (.mov (.c (.t .nil)))] [1,2,4,7] (.r [.o 21 (.mkslice 145 4 48 [.z,.z,.z,.lst 3 []] (.k 5) (.k 5)),.m 9 21] [1,2,4,7,9] (.seq (.r [.mk' 10 0] [1,2,4,7,9,10] (.block 0 (.loop [1,2,4,7,9,10] Zmi))) Zmj))⟩
noncomputable def Zpw (x:List Int) (fr:Bool) (x1:List Za) (a:Zd) (a1:Zu):Rs:=C 206 [.agg (a.c.map .t),.own 0,.own 1,.agg (a1.c.map .t)] [.arr 3 1 true (x.map ic),.arr 145 4 fr (x1.map Za.c)]
noncomputable def Zjx (sizes:List Int) (fr:Bool) (l:List Za) (m:Zd) (x:Zu) (mine:List Za) (k:Int):Rs:=EvL C [.blk 0,.seq Zmj,.fin 2 [.tmp 8]] [1,2,4,7,9,10] Zmi ⟨[(1,.own 0),(2,.own 1),(4,.ptr 2 0),(7,.ptr 3 0),(9,.own 4),(10,I k)],[[(0,.own 0),(1,.own 1)]],[.arr 3 1 true (sizes.map ic),.arr 145 4 fr (l.map Za.c),.box (m.c.map .t),.box (x.c.map .t),.arr 145 4 true (mine.map Za.c)]⟩
noncomputable def Zjy (sizes:List Int) (fr:Bool) (l:List Za) (m:Zd) (x:Zu) (mine:List Za) (b:Za) (k:Int) (left:Int) (right:Int) (o:Int):Rs:=EvL C [.blk 2,.seq Zvh,.blk 1,.seq Zpv,.loop [1,2,4,7,9,10] Zmi,.blk 0,.seq Zmj,.fin 2 [.tmp 8]] [1,2,4,7,9,10,11,12,14,15] Zvf ⟨[(1,.own 0),(2,.own 1),(4,.ptr 2 0),(7,.ptr 3 0),(9,.own 4),(10,I k),(11,I left),(12,I right),(14,.ptr 5 0),(15,I o)],[[(0,.own 0),(1,.own 1)]],[.arr 3 1 true (sizes.map ic),.arr 145 4 fr (l.map Za.c),.box (m.c.map .t),.box (x.c.map .t),.arr 145 4 true (mine.map Za.c),.box (b.c.map .t)]⟩
noncomputable def Zhy (mine:List Za) (fr:Bool) (out:List Za) (x:List Int) (fr1:Bool) (x1:List Za) (o:Int):Rs:=EvL C [.blk 6,.seq Zvj,.fin 2 [.tmp 8]] [9,19,20] Zvi ⟨[(9,.own 0),(19,.own 1),(20,I o)],[[(0,.own 2),(1,.own 3)]],[.arr 145 4 true (mine.map Za.c),.arr 145 4 fr (out.map Za.c),.arr 3 1 true (x.map ic),.arr 145 4 fr1 (x1.map Za.c)]⟩
noncomputable def Zfk (sizes:List Int) (fr:Bool) (l:List Za) (m:Zd) (x:Zu) (mine:List Za) (k:Int) (left:Int) (right:Int) (e:Int):Rs:=EvL C [.blk 4,.blk 1,.seq Zpv,.loop [1,2,4,7,9,10] Zmi,.blk 0,.seq Zmj,.fin 2 [.tmp 8]] [1,2,4,7,9,10,11,12,17] Zvg ⟨[(1,.own 0),(2,.own 1),(4,.ptr 2 0),(7,.ptr 3 0),(9,.own 4),(10,I k),(11,I left),(12,I right),(17,I e)],[[(0,.own 0),(1,.own 1)]],[.arr 3 1 true (sizes.map ic),.arr 145 4 fr (l.map Za.c),.box (m.c.map .t),.box (x.c.map .t),.arr 145 4 true (mine.map Za.c)]⟩
def Z2a:MCode:=.reg [.m 18 10,.bk 19 .add 18 1,.m 10 19] [2,3,4,5,9,10]
def Zvk:MCode:=.we [.m 14 10,.m 15 2,.ll 16 15,.b 17 .lss 14 16] [2,3,4,5,9,10,17] 17 0 (.seq (.block 1 (.r [.m 20 2,.m 21 10,.ia 22 3 20 21,.fa 23 0 22,.l 24 23,.m 11 24] [2,3,4,5,9,10,11] (.wc [.m 25 11,.m 26 11,.bk 27 .sub 26 1,.b 28 .and 25 27,.bk 29 .eql 28 0] [2,3,4,5,9,10,11,29] 29 (.r [.m 30 11,.cl 31 204 [30],.o 32 (.iaddr 1 (.s 31) (.k 0)),.l 33 32,.m 12 33] [2,3,4,5,9,10,11,12] (.seq (.drw [.m 34 9,.m 35 11,.fa 36 1 5,.l 37 36,.m 38 12,.ia 39 2 37 38,.fa 40 1 39,.l 41 40,.o 42 (.iaddr 1 (.s 41) (.k 0)),.l 43 42,.fa 44 0 4,.ln 45 6 44,.m 46 3,.m 47 11,.ia 48 1 46 47,.l 49 48,.m 50 3,.m 51 11,.ia 52 1 50 51,.l 53 52,.o 54 (.call 163 [.s 45,.s 49,.c (.t .z),.s 53]),.m 55 12,.cl 56 205 [55],.o 57 (.build [.t .z,.t .z,.t .z,.t .nil] [(0,1,.s 35),(1,1,.s 43),(2,1,.s 54),(3,1,.s 56)]),.o 58 (.bslice 145 4 1 [.z,.z,.z,.lst 3 []] [(0,.s 57)]),.o 59 (.append 145 4 48 true (.s 34) (.s 58)),.m 9 59] [[],[],[],[2],[],[3,4],[5],[6],[7],[8],[],[10],[],[],[12,13],[14],[],[],[16,17],[18],[11,15,19],[],[21,20],[1,9,20,22],[23],[0,24,22],[25,25,0,1,2,3,4,5,6,7,8,9,10,11,12,13,14,15,16,17,18,19,20,21,22,23,24,25]] [2,3,4,5,9,10]) (.exit 1))) (.drw [.m 60 9,.ln 61 30 4,.m 62 3,.m 63 9,.m 64 2,.m 65 10,.ia 66 3 64 65,.ln 67 3 66,.o 68 (.pcall 206 [.s 61,.s 62,.s 63,.s 67]),.o 69 (.append 145 4 48 false (.s 60) (.s 68)),.m 9 69] [[],[],[],[],[],[],[4,5],[6],[1,2,3,7],[0,8,8],[9,9,0,1,2,3,4,5,6,7,8,9]] [2,3,4,5,9,10])))) Z2a)
def Zvl:MCode:=.r [.m 70 9,.m 8 70] [8] .ret
def Z2b:MFun:=⟨4,71,[.tmp 8],.r [.bx 4 0,.bx 5 1,.o 8 (.mov (.c (.t .nil)))] [2,3,4,5] (.r [.o 13 (.bslice 145 4 0 [.z,.z,.z,.lst 3 []] []),.m 9 13] [2,3,4,5,9] (.seq (.r [.mk' 10 0] [2,3,4,5,9,10] (.block 0 (.loop [2,3,4,5,9,10] Zvk))) Zvl))⟩
noncomputable def Zgb (x:List Zu) (x1:List Int) (a:Zd) (a1:Zc):Rs:=C 86 [.agg (a.c.map .t),.agg (a1.c.map .t),.own 0,.own 1] [.arr 257 3 true (x.map Zu.c),.arr 3 1 true (x1.map ic)]
noncomputable def Zjz (shapes:List Zu) (sizes:List Int) (m:Zd) (q:Zc) (fr:Bool) (out:List Za) (i:Int):Rs:=EvL C [.blk 0,.seq Zvl,.fin 2 [.tmp 8]] [2,3,4,5,9,10] Zvk ⟨[(2,.own 0),(3,.own 1),(4,.ptr 2 0),(5,.ptr 3 0),(9,.own 4),(10,I i)],[[(0,.own 0),(1,.own 1)]],[.arr 257 3 true (shapes.map Zu.c),.arr 3 1 true (sizes.map ic),.box (m.c.map .t),.box (q.c.map .t),.arr 145 4 fr (out.map Za.c)]⟩
def Z2c:MFun:=⟨3,23,[.tmp 6],.r [.bx 3 0,.bx 4 1,.o 6 (.mov (.c (.t .nil)))] [2,3,4] (.wc [.ln 7 30 3,.cl 8 145 [7],.o 9 (.un .not (.s 8)),.m 10 9,.h 11 10 (.ln 2 4),.h 12 10 (.mov (.s 2)),.h 13 10 (.cl 371 [11,12]),.h 14 10 (.un .not (.s 13)),.o 15 (.pick (.s 10) (.q true) (.s 14))] [2,3,4,15] 15 (.r [.o 16 (.bslice 145 4 0 [.z,.z,.z,.lst 3 []] []),.m 6 16] [6] .ret) (.seq (.drw [.ln 17 30 3,.ln 18 2 4,.ln 19 2 4,.cl 20 80 [19],.m 21 2,.o 22 (.pcall 86 [.s 17,.s 18,.s 20,.s 21]),.m 6 22] [[],[],[],[2],[],[0,1,3,4,3],[5,5,0,1,2,3,4,5]] [6]) .ret))⟩
noncomputable def Zmk (x:List Int) (a:Zd) (a1:Zc):Rs:=C 305 [.agg (a.c.map .t),.agg (a1.c.map .t),.own 0] [.arr 3 1 true (x.map ic)]
def Z2d:MFun:=⟨2,38,[.cell 4 (some 4),.tmp 5],.r [.o 4 (.alloc [.t .z,.t .z,.t .z,.t .nil]),.o 5 (.mov (.q false))] [0,1,4] (.r [.m 7 0,.m 8 1,.cl 9 203 [7,8],.m 6 9] [0,4,6] (.wc [.m 10 6,.bk 11 .lss 10 0] [0,4,6,11] 11 (.r [.o 12 (.build [.t .z,.t .z,.t .z,.t .nil] []),.st 4 4 12,.o 5 (.mov (.q false))] [4,5] .ret) (.seq (.drw [.m 13 0,.m 14 6,.ia 15 4 13 14,.fa 16 0 15,.l 17 16,.m 18 0,.m 19 6,.ia 20 4 18 19,.fa 21 1 20,.l 22 21,.m 23 0,.m 24 6,.ia 25 4 23 24,.fa 26 2 25,.l 27 26,.o 28 (.bslice 194 3 0 [.z,.z,.z] []),.m 29 0,.m 30 6,.ia 31 4 29 30,.fa 32 3 31,.fa 33 0 32,.l 34 33,.o 35 (.append 194 3 24 false (.s 28) (.s 34)),.o 36 (.build [.t .nil] [(0,1,.s 35)]),.o 37 (.build [.t .z,.t .z,.t .z,.t .nil] [(0,1,.s 17),(1,1,.s 22),(2,1,.s 27),(3,1,.s 36)]),.st 4 4 37,.o 5 (.mov (.q true))] [[],[],[0,1],[2],[3],[],[],[5,6],[7],[8],[],[],[10,11],[12],[13],[],[],[],[16,17],[18],[19],[20],[15,21],[22],[4,9,14,23],[24,22,0,1,2,3,4,5,6,7,8,9,10,11,12,13,14,15,16,17,18,19,20,21,22,23,24],[25,0,1,2,3,4,5,6,7,8,9,10,11,12,13,14,15,16,17,18,19,20,21,22,23,24,25]] [4,5]) .ret)))⟩
noncomputable def Zc4 (a:List Za) (a1:Int):Rs:=C 85 [L 4 (a.map Za.c),I a1] []
def Z2e:MFun:=⟨3,22,[.cell 6 (some 4),.tmp 7],.r [.bx 3 0,.bx 4 1,.o 6 (.alloc [.t .z,.t .z,.t .z,.t .nil]),.o 7 (.mov (.q false))] [2,3,4,6] (.seq (.drw [.ln 11 30 3,.ln 12 2 4,.m 13 2,.o 14 (.icall 305 [.s 11,.s 12,.s 13]),.ln 15 2 4,.cl 16 81 [15],.cl 17 85 [14,16],.m 10 17,.o 18 (.ext (.s 10) 0),.o 19 (.ext (.s 10) 1),.o 8 (.alloc [.t .z,.t .z,.t .z,.t .nil]),.st 4 8 18,.m 9 19] [[],[],[],[0,1,2],[],[4,3],[3,5,5],[6],[7],[7],[],[10,8,6,0,1,2,3,4,5,6,7,8,10],[9,11,0,1,2,3,4,5,6,7,8,9,10,11]] [6,8,9]) (.r [.ln 20 4 8,.m 21 9,.st 4 6 20,.m 7 21] [6,7] .ret))⟩
noncomputable def Zml (x:List Int) (a:Zd) (a1:Zc):Rs:=C 234 [.agg (a.c.map .t),.agg (a1.c.map .t),.own 0] [.arr 3 1 true (x.map ic)]
def Z2f:MFun:=⟨3,20,[.tmp 6],.r [.bx 3 0,.bx 4 1,.mk' 6 0] [2,3,4] (.r [.ln 10 30 3,.ln 11 2 4,.m 12 2,.o 13 (.icall 234 [.s 10,.s 11,.s 12]),.m 9 13,.o 14 (.ext (.s 9) 0),.o 15 (.ext (.s 9) 1),.o 7 (.alloc [.t .z,.t .z,.t .z,.t .nil]),.st 4 7 14,.m 8 15] [7,8] (.wc [.m 16 8,.o 17 (.un .not (.s 16))] [7,17] 17 (.r [.mk' 6 (-1)] [6] .ret) (.r [.fa 18 2 7,.l 19 18,.m 6 19] [6] .ret)))⟩
noncomputable def Zvm (x:List Int) (a:Zd) (a1:Zc):Rs:=C 227 [.agg (a.c.map .t),.agg (a1.c.map .t),.own 0] [.arr 3 1 true (x.map ic)]
def Z2g:MFun:=⟨3,12,[.tmp 6],.r [.bx 3 0,.bx 4 1,.mk' 6 0] [2,3,4] (.seq (.drw [.ln 7 30 3,.ln 8 2 4,.m 9 2,.cl 10 87 [9],.o 11 (.icall 227 [.s 7,.s 8,.s 10]),.m 6 11] [[],[],[],[2],[0,1,3,3],[4,4,0,1,2,3,4]] [6]) .ret)⟩
noncomputable def Zmm (a:Zd) (a1:Zc) (a2:List Int):Rs:=C 110 [.agg (a.c.map .t),.agg (a1.c.map .t),L 1 (a2.map ic)] []
def Zvn:MCode:=.we [.m 25 7,.bk 26 .geq 25 0] [1,2,6,7,26] 26 0 (.seq (.block 1 (.seq (.drw [.fa 29 1 2,.l 30 29,.m 31 7,.ia 32 1 30 31,.l 33 32,.fa 34 0 2,.l 35 34,.m 36 7,.ia 37 1 35 36,.l 38 37,.b 39 .sub 33 38,.bk 40 .add 39 1,.m 8 40] [[],[0],[],[1,2],[3],[],[5],[],[6,7],[8],[4,9],[10],[11,0,1,2,3,4,5,6,7,8,9,10,11]] [1,2,6,7,8]) (.seq (.drw [.m 41 6,.m 42 7,.fa 43 0 2,.l 44 43,.m 45 7,.ia 46 1 44 45,.l 47 46,.m 48 1,.m 49 8,.b 50 .rem 48 49,.b 51 .add 47 50,.ia 52 1 41 42,.st 1 52 51] [[],[],[],[2],[],[3,4],[5],[],[],[7,8],[6,9],[0,1,0,1,2,3,4,5,6,7,8,9,10],[11,10,0,1,2,3,4,5,6,7,8,9,10]] [1,2,6,7,8]) (.reg [.m 53 1,.m 54 8,.b 55 .quo 53 54,.m 1 55] [1,2,6,7])))) (.reg [.m 27 7,.bk 28 .sub 27 1,.m 7 28] [1,2,6,7]))
def Zvo:MCode:=.wc [.m 56 1,.bk 57 .gtr 56 0] [6,57] 57 (.r [.o 58 (.bslice 3 1 0 [.z] []),.m 4 58,.o 5 (.mov (.q false))] [4,5] .ret) (.r [.m 59 6,.m 4 59,.o 5 (.mov (.q true))] [4,5] .ret)
def Z2h:MFun:=⟨2,60,[.tmp 4,.tmp 5],.r [.bx 2 0,.o 4 (.mov (.c (.t .nil))),.o 5 (.mov (.q false))] [1,2] (.wc [.ln 9 2 2,.cl 10 180 [9],.o 11 (.un .not (.s 10)),.m 12 11,.h 13 12 (.mov (.s 1)),.h 14 12 (.bk .lss 13 0),.o 15 (.pick (.s 12) (.q true) (.s 14))] [1,2,15] 15 (.r [.o 16 (.bslice 3 1 0 [.z] []),.m 4 16,.o 5 (.mov (.q false))] [4,5] .ret) (.r [.o 17 (.bslice 3 1 0 [.z] []),.fa 18 0 2,.l 19 18,.o 20 (.append 3 1 8 false (.s 17) (.s 19)),.m 6 20] [1,2,6] (.seq (.r [.fa 21 0 2,.l 22 21,.ll 23 22,.bk 24 .sub 23 1,.m 7 24] [1,2,6,7] (.block 0 (.loop [1,2,6,7] Zvn))) Zvo)))⟩
noncomputable def Zhz (a:Box) (a1:Int):Rs:=C 83 [.agg (a.c.map .t),I a1] []
noncomputable def Zmn (b:Box) (out:List Int) (index:Int) (i:Int):Rs:=EvL C [.blk 0,.seq Zvo,.fin 0 [.tmp 4,.tmp 5]] [1,2,6,7] Zvn ⟨[(1,I index),(2,.ptr 0 0),(6,.own 1),(7,I i)],[[]],[.box (b.c.map .t),.arr 3 1 true (out.map ic)]⟩
def Zvp:MCode:=.we [.m 6 5,.m 7 0,.ll 8 7,.b 9 .lss 6 8] [0,1,5,9] 9 0 (.seq (.block 1 (.r [.m 12 0,.m 13 5,.ia 14 1 12 13,.l 15 14,.m 16 1,.b 17 .geq 15 16] [0,1,5,17] (.cond (.s 17) (.r [.m 18 5,.m 4 18] [4] .ret) .skip))) (.reg [.m 10 5,.bk 11 .add 10 1,.m 5 11] [0,1,5]))
def Zvq:MCode:=.r [.mk' 4 (-1)] [4] .ret
def Z2i:MFun:=⟨2,19,[.tmp 4],.r [.mk' 4 0] [0,1] (.seq (.r [.mk' 5 0] [0,1,5] (.block 0 (.loop [0,1,5] Zvp))) Zvq)⟩
noncomputable def Zj0 (a:List Int) (a1:Int):Rs:=C 195 [L 1 (a.map ic),I a1] []
noncomputable def Zmo (l:List Int) (cost:Int) (i:Int):Rs:=EvL C [.blk 0,.seq Zvq,.fin 0 [.tmp 4]] [0,1,5] Zvp ⟨[(0,L 1 (l.map ic)),(1,I cost),(5,I i)],[[]],[]⟩
def Z2j:MFun:=⟨5,79,[.tmp 10],.r [.bx 5 0,.mk' 10 0] [1,2,3,4,5] (.r [.m 13 2,.m 14 3,.ia 15 4 13 14,.ln 16 4 15,.o 11 (.alloc [.t .z,.t .z,.t .z,.t .z]),.st 4 11 16] [1,2,4,5,11] (.r [.ln 17 30 5,.m 18 1,.cl 19 164 [17,18],.o 12 (.alloc [.t .z,.t .z,.t .z,.t .z,.t .z,.t .nil]),.st 6 12 19] [2,4,11,12] (.wc [.fa 20 2 11,.l 21 20,.bk 22 .lss 21 0] [2,4,11,12,22] 22 (.seq (.drw [.ln 23 6 12,.m 24 4,.fa 25 0 11,.l 26 25,.ia 27 1 24 26,.l 28 27,.m 29 4,.fa 30 0 11,.l 31 30,.ia 32 1 29 31,.l 33 32,.o 34 (.call 163 [.s 23,.s 28,.c (.t .z),.s 33]),.m 10 34] [[],[],[],[2],[1,3],[4],[],[],[7],[6,8],[9],[0,5,10],[11,11,0,1,2,3,4,5,6,7,8,9,10,11]] [10]) .ret) (.wc [.fa 35 3 11,.l 36 35,.bk 37 .lss 36 0] [2,4,11,12,37] 37 (.seq (.drw [.ln 38 6 12,.m 39 4,.m 40 2,.fa 41 2 11,.l 42 41,.ia 43 4 40 42,.fa 44 0 43,.l 45 44,.ia 46 1 39 45,.l 47 46,.m 48 4,.fa 49 0 11,.l 50 49,.ia 51 1 48 50,.l 52 51,.o 53 (.call 163 [.s 38,.s 47,.c (.t .z),.s 52]),.m 10 53] [[],[],[],[],[3],[2,4],[5],[6],[1,7],[8],[],[],[11],[10,12],[13],[0,9,14],[15,15,0,1,2,3,4,5,6,7,8,9,10,11,12,13,14,15]] [10]) .ret) (.seq (.drw [.ln 54 6 12,.m 55 4,.m 56 2,.fa 57 2 11,.l 58 57,.ia 59 4 56 58,.fa 60 0 59,.l 61 60,.ia 62 1 55 61,.l 63 62,.m 64 4,.m 65 2,.fa 66 3 11,.l 67 66,.ia 68 4 65 67,.fa 69 0 68,.l 70 69,.ia 71 1 64 70,.l 72 71,.m 73 4,.fa 74 0 11,.l 75 74,.ia 76 1 73 75,.l 77 76,.cl 78 163 [54,63,72,77],.m 10 78] [[],[],[],[],[3],[2,4],[5],[6],[1,7],[8],[],[],[],[12],[11,13],[14],[15],[10,16],[17],[],[],[20],[19,21],[22],[0,9,18,23],[24,24,0,1,2,3,4,5,6,7,8,9,10,11,12,13,14,15,16,17,18,19,20,21,22,23,24]] [10]) .ret)))))⟩
noncomputable def Zpx (a:Zd) (a1:Int) (a2:List Zg) (a3:Int) (a4:List Int):Rs:=C 401 [.agg (a.c.map .t),I a1,L 4 (a2.map Zg.c),I a3,L 1 (a4.map ic)] []
def Zvr:MCode:=.we [.m 29 12,.m 30 10,.ll 31 30,.b 32 .lss 29 31] [3,4,6,9,10,12,32] 32 0 (.seq (.block 1 (.drw [.m 35 9,.ln 36 30 4,.fa 37 0 6,.l 38 37,.m 39 12,.ia 40 3 38 39,.fa 41 0 40,.l 42 41,.m 43 10,.m 44 12,.m 45 3,.cl 46 401 [36,42,43,44,45],.o 47 (.bslice 3 1 1 [.z] [(0,.s 46)]),.o 48 (.append 3 1 8 true (.s 35) (.s 47)),.m 9 48] [[],[],[],[2],[],[3,4],[5],[6],[],[],[],[1,7,8,9,10],[11],[0,12,11],[13,13,0,1,2,3,4,5,6,7,8,9,10,11,12,13]] [3,4,6,9,10,12])) (.reg [.m 33 12,.bk 34 .add 33 1,.m 12 34] [3,4,6,9,10,12]))
def Zvs:MCode:=.r [.m 49 9,.m 8 49] [8] .ret
def Z2k:MFun:=⟨4,50,[.tmp 8],.r [.bx 4 0,.bx 5 1,.bx 6 2,.o 8 (.mov (.c (.t .nil)))] [3,4,5,6] (.r [.o 13 (.bslice 3 1 0 [.z] []),.m 9 13] [3,4,5,6,9] (.r [.ln 15 2 5,.ln 16 1 6,.cl 17 161 [15,16],.m 14 17,.o 18 (.ext (.s 14) 0),.o 19 (.ext (.s 14) 1),.m 10 18,.m 11 19] [3,4,5,6,9,10,11] (.wc [.m 20 11,.o 21 (.un .not (.s 20)),.m 22 21,.h 23 22 (.ln 2 5),.h 24 22 (.mov (.s 3)),.h 25 22 (.cl 371 [23,24]),.h 26 22 (.un .not (.s 25)),.o 27 (.pick (.s 22) (.q true) (.s 26))] [3,4,6,9,10,27] 27 (.r [.m 28 9,.m 8 28] [8] .ret) (.seq (.r [.mk' 12 0] [3,4,6,9,10,12] (.block 0 (.loop [3,4,6,9,10,12] Zvr))) Zvs))))⟩
noncomputable def Zpy (a:Zd) (a1:Zc) (a2:Plan) (a3:List Int):Rs:=C 361 [.agg (a.c.map .t),.agg (a1.c.map .t),.agg (a2.c.map .t),L 1 (a3.map ic)] []
noncomputable def Zmp (m:Zd) (p:Plan) (out:List Int) (info:List Zg) (sizes:List Int) (i:Int):Rs:=EvL C [.blk 0,.seq Zvs,.fin 0 [.tmp 8]] [3,4,6,9,10,12] Zvr ⟨[(3,L 1 (sizes.map ic)),(4,.ptr 0 0),(6,.ptr 1 0),(9,.own 2),(10,.own 3),(12,I i)],[[]],[.box (m.c.map .t),.box (p.c.map .t),.arr 3 1 true (out.map ic),.arr 209 4 true (info.map Zg.c)]⟩
def Zvt:MCode:=.we [.m 20 11,.m 21 9,.ll 22 21,.b 23 .lss 20 22] [9,10,11,23] 23 0 (.seq (.block 1 (.reg [.m 26 10,.m 27 9,.m 28 11,.ia 29 1 27 28,.l 30 29,.b 31 .add 26 30,.m 10 31] [9,10,11])) (.reg [.m 24 11,.bk 25 .add 24 1,.m 11 25] [9,10,11]))
def Zvu:MCode:=.r [.m 32 10,.m 8 32] [8] .ret
def Z2l:MFun:=⟨4,33,[.tmp 8],.r [.bx 4 0,.bx 5 1,.bx 6 2,.mk' 8 0] [3,4,5,6] (.r [.ln 12 30 4,.ln 13 2 5,.ln 14 1 6,.m 15 3,.cl 16 361 [12,13,14,15],.m 9 16] [9] (.wc [.m 17 9,.ll 18 17,.bk 19 .eql 18 0] [9,19] 19 (.r [.mk' 8 (-1)] [8] .ret) (.r [.mk' 10 0] [9,10] (.seq (.r [.mk' 11 0] [9,10,11] (.block 0 (.loop [9,10,11] Zvt))) Zvu))))⟩
noncomputable def Zpz (a:Zd) (a1:Zc) (a2:Plan) (a3:List Int):Rs:=C 290 [.agg (a.c.map .t),.agg (a1.c.map .t),.agg (a2.c.map .t),L 1 (a3.map ic)] []
noncomputable def Zmq (l:List Int) (n:Int) (i:Int):Rs:=EvL C [.blk 0,.seq Zvu,.fin 0 [.tmp 8]] [9,10,11] Zvt ⟨[(9,.own 0),(10,I n),(11,I i)],[[]],[.arr 3 1 true (l.map ic)]⟩
def Z2m:MFun:=⟨4,15,[.tmp 8],.r [.bx 4 0,.bx 5 1,.bx 6 2,.mk' 8 0] [3,4,5,6] (.seq (.drw [.ln 9 30 4,.ln 10 2 5,.ln 11 1 6,.m 12 3,.cl 13 87 [12],.cl 14 290 [9,10,11,13],.m 8 14] [[],[],[],[],[3],[0,1,2,4,4],[5,5,0,1,2,3,4,5]] [8]) .ret)⟩
noncomputable def Zj1 (a:Zd) (a1:Zc) (a2:Plan) (a3:List Int):Rs:=C 202 [.agg (a.c.map .t),.agg (a1.c.map .t),.agg (a2.c.map .t),L 1 (a3.map ic)] []
def Z2n:MFun:=⟨2,18,[.tmp 4],.r [.mk' 4 0] [0,1] (.wc [.m 5 0,.o 6 (.call 122 [.s 5,.c (.t .z),.c (.t (.int .i64 1000000000000))]),.o 7 (.un .not (.s 6)),.m 8 7,.h 9 8 (.mov (.s 1)),.h 10 8 (.call 122 [.s 9,.c (.t .z),.c (.t (.int .i64 100))]),.h 11 8 (.un .not (.s 10)),.o 12 (.pick (.s 8) (.q true) (.s 11))] [0,1,12] 12 (.r [.mk' 4 (-1)] [4] .ret) (.r [.m 13 0,.m 14 1,.o 15 (.bin .add (.k 100) (.s 14)),.b 16 .mul 13 15,.bk 17 .quo 16 100,.m 4 17] [4] .ret))⟩
noncomputable def Zmr (a:Int) (a1:Int):Rs:=C 201 [I a,I a1] []
def Zvv:MCode:=.we [.m 12 11,.fa 13 7 7,.l 14 13,.m 15 3,.ia 16 1 14 15,.l 17 16,.ll 18 17,.b 19 .lss 12 18] [3,4,5,6,7,11,19] 19 0 (.seq (.block 1 (.seq (.drw [.ln 22 30 5,.ln 23 2 6,.fa 24 6 7,.l 25 24,.fa 26 7 7,.l 27 26,.m 28 3,.ia 29 1 27 28,.l 30 29,.m 31 11,.ia 32 1 30 31,.l 33 32,.ia 34 1 25 33,.ln 35 1 34,.m 36 4,.cl 37 202 [22,23,35,36],.fa 38 5 7,.l 39 38,.m 40 3,.ia 41 1 39 40,.l 42 41,.fa 43 2 7,.l 44 43,.cl 45 201 [42,44],.b 46 .leq 37 45] [[],[],[],[2],[],[4],[],[5,6],[7],[],[8,9],[10],[3,11],[12],[],[0,1,13,14],[],[16],[],[17,18],[19],[],[21],[20,22,15],[15,23]] [3,4,5,6,7,11,46]) (.cond (.s 46) (.r [.o 10 (.mov (.q true))] [10] .ret) .skip))) (.reg [.m 20 11,.bk 21 .add 20 1,.m 11 21] [3,4,5,6,7,11]))
def Zvw:MCode:=.r [.o 10 (.mov (.q false))] [10] .ret
def Z2o:MFun:=⟨5,47,[.tmp 10],.r [.bx 5 0,.bx 6 1,.bx 7 2,.o 10 (.mov (.q false))] [3,4,5,6,7] (.seq (.r [.mk' 11 0] [3,4,5,6,7,11] (.block 0 (.loop [3,4,5,6,7,11] Zvv))) Zvw)⟩
noncomputable def Zms (a:Zd) (a1:Zc) (a2:Zh) (a3:Int) (a4:List Int):Rs:=C 196 [.agg (a.c.map .t),.agg (a1.c.map .t),.agg (a2.c.map .t),I a3,L 1 (a4.map ic)] []
noncomputable def Zmt (m:Zd) (q:Zc) (b:Zh) (k:Int) (l:List Int) (i:Int):Rs:=EvL C [.blk 0,.seq Zvw,.fin 0 [.tmp 10]] [3,4,5,6,7,11] Zvv ⟨[(3,I k),(4,L 1 (l.map ic)),(5,.ptr 0 0),(6,.ptr 1 0),(7,.ptr 2 0),(11,I i)],[[]],[.box (m.c.map .t),.box (q.c.map .t),.box (b.c.map .t)]⟩
def Zvx:MCode:=.we [.m 48 9,.fa 49 3 5,.ln 50 2 49,.cl 51 82 [50],.b 52 .lss 48 51] [3,4,5,7,8,9,52] 52 0 (.seq (.block 1 (.r [.fa 56 3 5,.ln 57 2 56,.m 58 9,.cl 59 83 [57,58],.m 55 59,.o 60 (.ext (.s 55) 0),.o 61 (.ext (.s 55) 1),.m 10 60,.m 11 61] [3,4,5,7,8,9,10] (.seq (.drw [.ln 63 30 3,.ln 64 2 4,.m 65 7,.m 66 10,.cl 67 87 [66],.o 68 (.pcall 86 [.s 63,.s 64,.s 65,.s 67]),.m 69 8,.cl 70 85 [68,69],.m 62 70,.o 71 (.ext (.s 62) 0),.o 72 (.ext (.s 62) 1),.o 12 (.alloc [.t .z,.t .z,.t .z,.t .nil]),.st 4 12 71,.m 13 72] [[],[],[],[],[3],[0,1,2,4,4],[],[5,6,5],[7],[8],[8],[],[11,9,7,0,1,2,3,4,5,6,7,8,9,11],[10,12,0,1,2,3,4,5,6,7,8,9,10,11,12]] [3,4,5,7,8,9,10,12]) (.r [.fa 73 5 5,.l 74 73,.fa 75 2 12,.l 76 75,.cl 77 195 [74,76],.m 14 77] [3,4,5,7,8,9,10,14] (.r [.m 78 14,.bk 79 .lss 78 0,.m 80 79,.h 81 80 (.ln 30 3),.h 82 80 (.ln 2 4),.h 83 80 (.ln 8 5),.h 84 80 (.mov (.s 14)),.h 85 80 (.mov (.s 10)),.h 86 80 (.cl 196 [81,82,83,84,85]),.h 87 80 (.un .not (.s 86)),.o 88 (.pick (.s 80) (.q true) (.s 87))] [3,4,5,7,8,9,88] (.cond (.s 88) (.r [.o 6 (.mov (.q false))] [6] .ret) .skip)))))) (.reg [.m 53 9,.bk 54 .add 53 1,.m 9 54] [3,4,5,7,8,9]))
def Zvy:MCode:=.r [.o 6 (.mov (.q true))] [6] .ret
def Z2p:MFun:=⟨3,89,[.tmp 6],.r [.bx 3 0,.bx 4 1,.bx 5 2,.o 6 (.mov (.q false))] [3,4,5] (.seq (.seq (.drw [.ln 15 30 3,.cl 16 145 [15],.o 17 (.un .not (.s 16)),.m 18 17,.h 19 18 (.ln 2 4),.h 20 18 (.ln 8 5),.h 21 18 (.cl 194 [19,20]),.h 22 18 (.un .not (.s 21)),.o 23 (.pick (.s 18) (.q true) (.s 22)),.m 24 23,.h 25 24 (.ln 2 4),.h 26 24 (.ln 2 4),.h 27 24 (.cl 81 [26]),.h 28 24 (.cl 109 [25,27]),.h 29 24 (.un .not (.s 28)),.o 30 (.pick (.s 24) (.q true) (.s 29)),.m 31 30,.h 32 31 (.ln 30 3),.h 33 31 (.ln 2 4),.h 34 31 (.fa 3 5),.h 35 31 (.fa 0 34),.h 36 31 (.l 35),.h 37 31 (.cl 110 [32,33,36]),.h 38 31 (.fa 5 5),.h 39 31 (.l 38),.h 40 31 (.iaddr 1 (.s 39) (.k 0)),.h 41 31 (.l 40),.h 42 31 (.b .lss 37 41),.o 43 (.pick (.s 31) (.q true) (.s 42))] [[],[0],[1],[2,1],[3],[3],[4,5,3,3],[6,3],[3,7],[8,6],[9],[9],[11,9,9],[10,12,12,9],[13,9],[9,14],[15,13],[16],[16],[16],[19,16],[20,16],[17,18,21,16,16],[16],[23,16],[24,16],[25,16],[22,26,16],[16,27]] [3,4,5,43]) (.cond (.s 43) (.r [.o 6 (.mov (.q false))] [6] .ret) .skip)) (.r [.ln 44 2 4,.cl 45 80 [44],.m 7 45] [3,4,5,7] (.r [.ln 46 2 4,.cl 47 81 [46],.m 8 47] [3,4,5,7,8] (.seq (.r [.mk' 9 0] [3,4,5,7,8,9] (.block 0 (.loop [3,4,5,7,8,9] Zvx))) Zvy))))⟩
noncomputable def Zmu (a:Zd) (a1:Zc) (a2:Zh):Rs:=C 79 [.agg (a.c.map .t),.agg (a1.c.map .t),.agg (a2.c.map .t)] []
noncomputable def Zj2 (m:Zd) (q:Zc) (b:Zh) (shapes:List Zu) (full:Int) (i:Int):Rs:=EvL C [.blk 0,.seq Zvy,.fin 0 [.tmp 6]] [3,4,5,7,8,9] Zvx ⟨[(3,.ptr 0 0),(4,.ptr 1 0),(5,.ptr 2 0),(7,.own 3),(8,I full),(9,I i)],[[]],[.box (m.c.map .t),.box (q.c.map .t),.box (b.c.map .t),.arr 257 3 true (shapes.map Zu.c)]⟩
def Zvz:MCode:=.r [.b 36 .lss 35 34] [3,4,5,6,10,13,18,19,20,33,34,35,36] (.seq (.cond (.s 36) .skip (.exit 2)) (.seq (.block 3 (.r [.ia 37 1 33 35,.l 38 37,.m 15 38] [3,4,5,6,10,13,15,18,19,20,33,34,35] (.seq (.seq (.drw [.ln 39 30 4,.ln 40 2 5,.fa 41 6 6,.l 42 41,.m 43 15,.ia 44 1 42 43,.ln 45 1 44,.m 46 3,.cl 47 215 [39,40,45,46],.m 16 47] [[],[],[],[2],[],[3,4],[5],[],[0,1,6,7],[8,8,0,1,2,3,4,5,6,7,8]] [3,4,5,6,10,13,16,18,19,20,33,34,35]) (.r [.m 48 16,.m 49 13,.b 50 .leq 48 49] [3,4,5,6,10,13,16,18,19,20,33,34,35,50] (.cond (.s 50) (.r [.m 51 10,.m 52 16,.b 53 .add 51 52,.m 8 53,.o 9 (.mov (.q true))] [8,9] .ret) .skip))) (.reg [.m 54 10,.m 55 13,.b 56 .add 54 55,.m 10 56] [3,4,5,6,10,13,18,19,20,33,34,35])))) (.reg [.bk 57 .add 35 1,.m 35 57] [3,4,5,6,10,13,18,19,20,33,34,35])))
def Zv0:MCode:=.reg [.bk 58 .add 20 1,.m 20 58] [3,4,5,6,10,18,19,20]
def Zp0:MCode:=.r [.b 21 .lss 20 19] [3,4,5,6,10,18,19,20,21] (.seq (.cond (.s 21) .skip (.exit 0)) (.seq (.block 1 (.r [.m 22 20,.ia 23 1 18 20,.l 24 23,.m 11 22,.m 12 24] [3,4,5,6,10,11,12,18,19,20] (.seq (.drw [.fa 25 5 6,.l 26 25,.m 27 11,.ia 28 1 26 27,.l 29 28,.fa 30 2 6,.l 31 30,.cl 32 213 [29,31],.m 13 32] [[],[0],[],[1,2],[3],[],[5],[4,6],[7,7,0,1,2,3,4,5,6,7]] [3,4,5,6,10,12,13,18,19,20]) (.r [.m 33 12,.ll 34 33,.mk' 35 0] [3,4,5,6,10,13,18,19,20,33,34,35] (.block 2 (.loop [3,4,5,6,10,13,18,19,20,33,34,35] Zvz)))))) Zv0))
def Zp1:MCode:=.r [.mk' 8 0,.o 9 (.mov (.q false))] [8,9] .ret
def Z2q:MFun:=⟨4,59,[.tmp 8,.tmp 9],.r [.bx 4 0,.bx 5 1,.bx 6 2,.mk' 8 0,.o 9 (.mov (.q false))] [3,4,5,6] (.r [.mk' 10 0] [3,4,5,6,10] (.seq (.r [.fa 17 7 6,.l 18 17,.ll 19 18,.mk' 20 0] [3,4,5,6,10,18,19,20] (.block 0 (.loop [3,4,5,6,10,18,19,20] Zp0))) Zp1))⟩
noncomputable def Zmv (a:Zd) (a1:Zc) (a2:Zh) (a3:List Int):Rs:=C 96 [.agg (a.c.map .t),.agg (a1.c.map .t),.agg (a2.c.map .t),L 1 (a3.map ic)] []
noncomputable def Zj3 (m:Zd) (q:Zc) (b:Zh) (location:List Int) (total:Int) (x:List (List Int)) (x1:Int) (x2:Int):Rs:=EvL C [.blk 0,.seq Zp1,.fin 0 [.tmp 8,.tmp 9]] [3,4,5,6,10,18,19,20] Zp0 ⟨[(3,L 1 (location.map ic)),(4,.ptr 0 0),(5,.ptr 1 0),(6,.ptr 2 0),(10,I total),(18,L 1 (x.map isc)),(19,I x1),(20,I x2)],[[]],[.box (m.c.map .t),.box (q.c.map .t),.box (b.c.map .t)]⟩
noncomputable def Zmw (m:Zd) (q:Zc) (b:Zh) (location:List Int) (total:Int) (slack:Int) (x:List (List Int)) (x1:Int) (x2:Int) (x3:List Int) (x4:Int) (x5:Int):Rs:=EvL C [.blk 2,.blk 1,.seq Zv0,.loop [3,4,5,6,10,18,19,20] Zp0,.blk 0,.seq Zp1,.fin 0 [.tmp 8,.tmp 9]] [3,4,5,6,10,13,18,19,20,33,34,35] Zvz ⟨[(3,L 1 (location.map ic)),(4,.ptr 0 0),(5,.ptr 1 0),(6,.ptr 2 0),(10,I total),(13,I slack),(18,L 1 (x.map isc)),(19,I x1),(20,I x2),(33,L 1 (x3.map ic)),(34,I x4),(35,I x5)],[[]],[.box (m.c.map .t),.box (q.c.map .t),.box (b.c.map .t)]⟩
def Zv1:MCode:=.block 1 (.seq (.drw [.m 11 0,.m 12 1,.b 13 .quo 11 12,.m 14 2,.m 15 3,.b 16 .quo 14 15,.m 9 13,.m 10 16] [[],[],[0,1],[],[],[3,4],[2,0,1,2],[5,6,0,1,2,3,4,5,6]] [0,1,2,3,9,10]) (.wc [.m 17 9,.m 18 10,.b 19 .neq 17 18] [0,1,2,3,9,10,19] 19 (.r [.m 20 9,.m 21 10,.b 22 .gtr 20 21,.m 8 22] [8] .ret) (.seq (.drw [.m 23 0,.m 24 1,.b 25 .rem 23 24,.m 26 2,.m 27 3,.b 28 .rem 26 27,.m 0 25,.m 2 28] [[],[],[0,1],[],[],[3,4],[2,0,1,2],[5,6,0,1,2,3,4,5,6]] [0,1,2,3]) (.wc [.m 29 2,.bk 30 .eql 29 0,.m 31 30,.h 32 31 (.mov (.s 0)),.h 33 31 (.bk .eql 32 0),.o 34 (.pick (.s 31) (.q true) (.s 33))] [0,1,2,3,34] 34 (.r [.m 35 0,.bk 36 .gtr 35 0,.m 37 36,.g 38 37 (.mov (.s 2)),.g 39 37 (.bk .eql 38 0),.o 40 (.pick (.s 37) (.s 39) (.q false)),.m 8 40] [8] .ret) (.reg [.m 41 3,.m 42 2,.m 43 1,.m 44 0,.m 0 41,.m 1 42,.m 2 43,.m 3 44] [0,1,2,3])))))
def Z2r:MFun:=⟨4,45,[.tmp 8],.r [.o 8 (.mov (.q false))] [0,1,2,3] (.block 0 (.loop [0,1,2,3] Zv1))⟩
noncomputable def Zp2 (a:Int) (a1:Int) (a2:Int) (a3:Int):Rs:=C 98 [I a,I a1,I a2,I a3] []
noncomputable def Zmx (a:Int) (b:Int) (c:Int) (d:Int):Rs:=EvL C [.blk 0,.fin 0 [.tmp 8]] [0,1,2,3] Zv1 ⟨[(0,I a),(1,I b),(2,I c),(3,I d)],[[]],[]⟩
def Zv2:MCode:=.we [.m 29 12,.fa 30 7 6,.l 31 30,.m 32 10,.ia 33 1 31 32,.l 34 33,.ll 35 34,.b 36 .lss 29 35] [3,4,5,6,9,10,11,12,36] 36 2 (.seq (.block 3 (.seq (.drw [.ln 39 30 4,.ln 40 2 5,.fa 41 6 6,.l 42 41,.fa 43 7 6,.l 44 43,.m 45 10,.ia 46 1 44 45,.l 47 46,.m 48 12,.ia 49 1 47 48,.l 50 49,.ia 51 1 42 50,.ln 52 1 51,.m 53 3,.cl 54 202 [39,40,52,53],.m 13 54] [[],[],[],[2],[],[4],[],[5,6],[7],[],[8,9],[10],[3,11],[12],[],[0,1,13,14],[15,15,0,1,2,3,4,5,6,7,8,9,10,11,12,13,14,15]] [3,4,5,6,9,10,11,12,13]) (.wc [.m 55 13,.m 56 11,.b 57 .leq 55 56] [3,4,5,6,9,10,11,12,13,57] 57 (.r [.m 58 9,.m 59 13,.b 60 .add 58 59,.m 8 60] [8] .ret) (.reg [.m 61 9,.m 62 11,.b 63 .add 61 62,.m 9 63] [3,4,5,6,9,10,11,12])))) (.reg [.m 37 12,.bk 38 .add 37 1,.m 12 38] [3,4,5,6,9,10,11,12]))
def Zv3:MCode:=.reg [.m 19 10,.bk 20 .add 19 1,.m 10 20] [3,4,5,6,9,10]
def Zp3:MCode:=.we [.m 14 10,.fa 15 5 6,.l 16 15,.ll 17 16,.b 18 .lss 14 17] [3,4,5,6,9,10,18] 18 0 (.seq (.block 1 (.seq (.drw [.fa 21 5 6,.l 22 21,.m 23 10,.ia 24 1 22 23,.l 25 24,.fa 26 2 6,.l 27 26,.cl 28 201 [25,27],.m 11 28] [[],[0],[],[1,2],[3],[],[5],[4,6],[7,7,0,1,2,3,4,5,6,7]] [3,4,5,6,9,10,11]) (.r [.mk' 12 0] [3,4,5,6,9,10,11,12] (.block 2 (.loop [3,4,5,6,9,10,11,12] Zv2))))) Zv3)
def Zp4:MCode:=.r [.mk' 8 (-1)] [8] .ret
def Z2s:MFun:=⟨4,64,[.tmp 8],.r [.bx 4 0,.bx 5 1,.bx 6 2,.mk' 8 0] [3,4,5,6] (.r [.mk' 9 0] [3,4,5,6,9] (.seq (.r [.mk' 10 0] [3,4,5,6,9,10] (.block 0 (.loop [3,4,5,6,9,10] Zp3))) Zp4))⟩
noncomputable def Zmy (a:Zd) (a1:Zc) (a2:Zh) (a3:List Int):Rs:=C 84 [.agg (a.c.map .t),.agg (a1.c.map .t),.agg (a2.c.map .t),L 1 (a3.map ic)] []
noncomputable def Zh0 (m:Zd) (q:Zc) (b:Zh) (l:List Int) (n:Int) (k:Int):Rs:=EvL C [.blk 0,.seq Zp4,.fin 0 [.tmp 8]] [3,4,5,6,9,10] Zp3 ⟨[(3,L 1 (l.map ic)),(4,.ptr 0 0),(5,.ptr 1 0),(6,.ptr 2 0),(9,I n),(10,I k)],[[]],[.box (m.c.map .t),.box (q.c.map .t),.box (b.c.map .t)]⟩
noncomputable def Zmz (m:Zd) (q:Zc) (b:Zh) (l:List Int) (n:Int) (k:Int) (budget:Int) (i:Int):Rs:=EvL C [.blk 2,.blk 1,.seq Zv3,.loop [3,4,5,6,9,10] Zp3,.blk 0,.seq Zp4,.fin 0 [.tmp 8]] [3,4,5,6,9,10,11,12] Zv2 ⟨[(3,L 1 (l.map ic)),(4,.ptr 0 0),(5,.ptr 1 0),(6,.ptr 2 0),(9,I n),(10,I k),(11,I budget),(12,I i)],[[]],[.box (m.c.map .t),.box (q.c.map .t),.box (b.c.map .t)]⟩
def Zv4:MCode:=.we [.m 12 9,.bk 13 .lss 12 30] [0,1,2,3,9,13] 13 0 (.seq (.block 1 (.r [.m 16 0,.m 17 1,.b 18 .quo 16 17,.m 10 18] [0,1,2,3,9,10] (.r [.m 19 2,.m 20 3,.b 21 .quo 19 20,.m 11 21] [0,1,2,3,9,10,11] (.wc [.m 22 10,.m 23 11,.b 24 .neq 22 23] [0,1,2,3,9,10,11,24] 24 (.r [.m 25 10,.m 26 11,.b 27 .gtr 25 26,.m 8 27] [8] .ret) (.r [.m 28 0,.m 29 10,.m 30 1,.b 31 .mul 29 30,.b 32 .sub 28 31,.bk 33 .mul 32 10,.m 0 33] [0,1,2,3,9,11] (.reg [.m 34 2,.m 35 11,.m 36 3,.b 37 .mul 35 36,.b 38 .sub 34 37,.bk 39 .mul 38 10,.m 2 39] [0,1,2,3,9])))))) (.reg [.m 14 9,.bk 15 .add 14 1,.m 9 15] [0,1,2,3,9]))
def Zv5:MCode:=.r [.o 8 (.mov (.q false))] [8] .ret
def Z2t:MFun:=⟨4,40,[.tmp 8],.r [.o 8 (.mov (.q false))] [0,1,2,3] (.seq (.r [.mk' 9 0] [0,1,2,3,9] (.block 0 (.loop [0,1,2,3,9] Zv4))) Zv5)⟩
noncomputable def Zj4 (a:Int) (a1:Int) (a2:Int) (a3:Int):Rs:=C 88 [I a,I a1,I a2,I a3] []
noncomputable def Zm0 (a:Int) (b:Int) (c:Int) (d:Int) (k:Int):Rs:=EvL C [.blk 0,.seq Zv5,.fin 0 [.tmp 8]] [0,1,2,3,9] Zv4 ⟨[(0,I a),(1,I b),(2,I c),(3,I d),(9,I k)],[[]],[]⟩
def Z2u:MCode:=.reg [.m 35 13,.bk 36 .add 35 1,.m 13 36] [3,4,5,8,9,10,11,12,13]
def Zv6:MCode:=.we [.m 30 13,.fa 31 3 5,.ln 32 2 31,.cl 33 82 [32],.b 34 .lss 30 33] [3,4,5,8,9,10,11,12,13,34] 34 0 (.seq (.block 1 (.r [.fa 38 3 5,.ln 39 2 38,.m 40 13,.cl 41 83 [39,40],.m 37 41,.o 42 (.ext (.s 37) 0),.o 43 (.ext (.s 37) 1),.m 14 42,.m 15 43] [3,4,5,8,9,10,11,12,13,14] (.r [.ln 44 30 3,.ln 45 2 4,.ln 46 8 5,.m 47 14,.cl 48 84 [44,45,46,47],.m 16 48] [3,4,5,8,9,10,11,12,13,14,16] (.seq (.drw [.ln 50 30 3,.ln 51 2 4,.m 52 11,.m 53 14,.cl 54 87 [53],.o 55 (.pcall 86 [.s 50,.s 51,.s 52,.s 54]),.m 56 12,.cl 57 85 [55,56],.m 49 57,.o 58 (.ext (.s 49) 0),.o 59 (.ext (.s 49) 1),.o 17 (.alloc [.t .z,.t .z,.t .z,.t .nil]),.st 4 17 58,.m 18 59] [[],[],[],[],[3],[0,1,2,4,4],[],[5,6,5],[7],[8],[8],[],[11,9,7,0,1,2,3,4,5,6,7,8,9,11],[10,12,0,1,2,3,4,5,6,7,8,9,10,11,12]] [3,4,5,8,9,10,11,12,13,14,16,17]) (.r [.m 60 16,.fa 61 2 17,.l 62 61,.m 63 9,.m 64 10,.cl 65 88 [60,62,63,64]] [3,4,5,8,9,10,11,12,13,14,16,17,65] (.cond (.s 65) (.r [.m 66 14,.m 8 66] [3,4,5,8,11,12,13,16,17] (.r [.m 67 16,.m 9 67] [3,4,5,8,9,11,12,13,17] (.reg [.fa 68 2 17,.l 69 68,.m 10 69] [3,4,5,8,9,10,11,12,13]))) .skip)))))) Z2u)
def Zv7:MCode:=.r [.m 70 8,.m 6 70,.o 7 (.mov (.q true))] [6,7] .ret
def Z2v:MFun:=⟨3,71,[.tmp 6,.tmp 7],.r [.bx 3 0,.bx 4 1,.bx 5 2,.o 6 (.mov (.c (.t .nil))),.o 7 (.mov (.q false))] [3,4,5] (.wc [.ln 19 30 3,.ln 20 2 4,.ln 21 8 5,.cl 22 79 [19,20,21],.o 23 (.un .not (.s 22))] [3,4,5,23] 23 (.r [.o 24 (.bslice 3 1 0 [.z] []),.m 6 24,.o 7 (.mov (.q false))] [6,7] .ret) (.r [.o 25 (.bslice 3 1 0 [.z] []),.m 8 25] [3,4,5,8] (.r [.mk' 9 0] [3,4,5,8,9] (.r [.mk' 10 1] [3,4,5,8,9,10] (.r [.ln 26 2 4,.cl 27 80 [26],.m 11 27] [3,4,5,8,9,10,11] (.r [.ln 28 2 4,.cl 29 81 [28],.m 12 29] [3,4,5,8,9,10,11,12] (.seq (.r [.mk' 13 0] [3,4,5,8,9,10,11,12,13] (.block 0 (.loop [3,4,5,8,9,10,11,12,13] Zv6))) Zv7)))))))⟩
noncomputable def Zp5 (a:Zd) (a1:Zc) (a2:Zh):Rs:=C 14 [.agg (a.c.map .t),.agg (a1.c.map .t),.agg (a2.c.map .t)] []
noncomputable def Zgc (m:Zd) (q:Zc) (b:Zh) (best:List Int) (shapes:List Zu) (top:Int) (least:Int) (full:Int) (i:Int):Rs:=EvL C [.blk 0,.seq Zv7,.fin 0 [.tmp 6,.tmp 7]] [3,4,5,8,9,10,11,12,13] Zv6 ⟨[(3,.ptr 0 0),(4,.ptr 1 0),(5,.ptr 2 0),(8,.own 3),(9,I top),(10,I least),(11,.own 4),(12,I full),(13,I i)],[[]],[.box (m.c.map .t),.box (q.c.map .t),.box (b.c.map .t),.arr 3 1 true (best.map ic),.arr 257 3 true (shapes.map Zu.c)]⟩
theorem Zbbs:tbl 124=some Zyg:=tblOf_eq Tryz.func124 (by kernel_rfl) (by kernel_rfl)
theorem Zbbt:tbl 344=some Zyh:=tblOf_eq Tryz.func344 (by kernel_rfl) (by kernel_rfl)
theorem Zbbu:tbl 256=some Zyi:=tblOf_eq Tryz.func256 (by kernel_rfl) (by kernel_rfl)
theorem Zbbv:tbl 135=some Zyj:=tblOf_eq Tryz.func135 (by kernel_rfl) (by kernel_rfl)
theorem Zbbw:tbl 398=some Zyk:=tblOf_eq Tryz.func398 (by kernel_rfl) (by kernel_rfl)
theorem Zbbx:tbl 345=some Zyl:=tblOf_eq Tryz.func345 (by kernel_rfl) (by kernel_rfl)
theorem Zbby:tbl 271=some Zoh:=tblOf_eq Tryz.func271 (by kernel_rfl) (by kernel_rfl)
theorem Zbbz:tbl 237=some Zym:=tblOf_eq Tryz.func237 (by kernel_rfl) (by kernel_rfl)
theorem Zbb0:tbl 360=some Zyn:=tblOf_eq Tryz.func360 (by kernel_rfl) (by kernel_rfl)
theorem Zbb1:tbl 286=some Zyo:=tblOf_eq Tryz.func286 (by kernel_rfl) (by kernel_rfl)
theorem Zbb2:tbl 298=some Zyp:=tblOf_eq Tryz.func298 (by kernel_rfl) (by kernel_rfl)
theorem Zbb3:tbl 216=some Zyq:=tblOf_eq Tryz.func216 (by kernel_rfl) (by kernel_rfl)
theorem Zbb4:tbl 230=some Zyr:=tblOf_eq Tryz.func230 (by kernel_rfl) (by kernel_rfl)
theorem Zbb5:tbl 346=some Zys:=tblOf_eq Tryz.func346 (by kernel_rfl) (by kernel_rfl)
theorem Zbb6:tbl 347=some Zyu:=tblOf_eq Tryz.func347 (by kernel_rfl) (by kernel_rfl)
theorem Zbb7:tbl 272=some Zyv:=tblOf_eq Tryz.func272 (by kernel_rfl) (by kernel_rfl)
theorem Zbb8:tbl 155=some Zyx:=tblOf_eq Tryz.func155 (by kernel_rfl) (by kernel_rfl)
theorem Zbb9:tbl 364=some Zyy:=tblOf_eq Tryz.func364 (by kernel_rfl) (by kernel_rfl)
theorem Zbca:tbl 365=some Zyz:=tblOf_eq Tryz.func365 (by kernel_rfl) (by kernel_rfl)
theorem Zbcb:tbl 295=some Zy0:=tblOf_eq Tryz.func295 (by kernel_rfl) (by kernel_rfl)
theorem Zbcc:tbl 301=some Zy1:=tblOf_eq Tryz.func301 (by kernel_rfl) (by kernel_rfl)
theorem Zbcd:tbl 368=some Zy3:=tblOf_eq Tryz.func368 (by kernel_rfl) (by kernel_rfl)
theorem Zbce:tbl 302=some Zy4:=tblOf_eq Tryz.func302 (by kernel_rfl) (by kernel_rfl)
theorem Zbcf:tbl 229=some Zy5:=tblOf_eq Tryz.func229 (by kernel_rfl) (by kernel_rfl)
theorem Zbcg:tbl 140=some Zy6:=tblOf_eq Tryz.func140 (by kernel_rfl) (by kernel_rfl)
theorem Zbch:tbl 391=some Zy7:=tblOf_eq Tryz.func391 (by kernel_rfl) (by kernel_rfl)
theorem Zbci:tbl 324=some Zy8:=tblOf_eq Tryz.func324 (by kernel_rfl) (by kernel_rfl)
theorem Zbcj:tbl 326=some Zy9:=tblOf_eq Tryz.func326 (by kernel_rfl) (by kernel_rfl)
theorem Zbck:tbl 261=some Zza:=tblOf_eq Tryz.func261 (by kernel_rfl) (by kernel_rfl)
theorem Zbcl:tbl 236=some Zzb:=tblOf_eq Tryz.func236 (by kernel_rfl) (by kernel_rfl)
theorem Zbcm:tbl 259=some Zzd:=tblOf_eq Tryz.func259 (by kernel_rfl) (by kernel_rfl)
theorem Zbcn:tbl 327=some Zze:=tblOf_eq Tryz.func327 (by kernel_rfl) (by kernel_rfl)
theorem Zbco:tbl 325=some Zzg:=tblOf_eq Tryz.func325 (by kernel_rfl) (by kernel_rfl)
theorem Zbcp:tbl 253=some Zzh:=tblOf_eq Tryz.func253 (by kernel_rfl) (by kernel_rfl)
theorem Zbcq:tbl 131=some Zzi:=tblOf_eq Tryz.func131 (by kernel_rfl) (by kernel_rfl)
theorem Zbcr:tbl 211=some Zzj:=tblOf_eq Tryz.func211 (by kernel_rfl) (by kernel_rfl)
theorem Zbcs:tbl 117=some Zzk:=tblOf_eq Tryz.func117 (by kernel_rfl) (by kernel_rfl)
theorem Zbct:tbl 373=some Zzl:=tblOf_eq Tryz.func373 (by kernel_rfl) (by kernel_rfl)
theorem Zbcu:tbl 303=some Zzn:=tblOf_eq Tryz.func303 (by kernel_rfl) (by kernel_rfl)
theorem Zbcv:tbl 374=some Zzp:=tblOf_eq Tryz.func374 (by kernel_rfl) (by kernel_rfl)
theorem Zbcw:tbl 376=some Zzq:=tblOf_eq Tryz.func376 (by kernel_rfl) (by kernel_rfl)
theorem Zbcx:tbl 258=some Zzr:=tblOf_eq Tryz.func258 (by kernel_rfl) (by kernel_rfl)
theorem Zbcy:tbl 366=some Zzt:=tblOf_eq Tryz.func366 (by kernel_rfl) (by kernel_rfl)
theorem Zbcz:tbl 367=some Zzu:=tblOf_eq Tryz.func367 (by kernel_rfl) (by kernel_rfl)
theorem Zbc0:tbl 297=some Zs9:=tblOf_eq Tryz.func297 (by kernel_rfl) (by kernel_rfl)
theorem Zbc1:tbl 375=some Zce:=tblOf_eq Tryz.func375 (by kernel_rfl) (by kernel_rfl)
theorem Zbc2:tbl 377=some Zzw:=tblOf_eq Tryz.func377 (by kernel_rfl) (by kernel_rfl)
theorem Z2w:tbl 372=some Ztd:=tblOf_eq Tryz.func372 (by kernel_rfl) (by kernel_rfl)
theorem Zbc3:tbl 355=some Zzx:=tblOf_eq Tryz.func355 (by kernel_rfl) (by kernel_rfl)
theorem Zbc4:tbl 378=some Zzy:=tblOf_eq Tryz.func378 (by kernel_rfl) (by kernel_rfl)
theorem Zbc5:tbl 381=some Zzz:=tblOf_eq Tryz.func381 (by kernel_rfl) (by kernel_rfl)
theorem Zbc6:tbl 403=some Zz0:=tblOf_eq Tryz.func403 (by kernel_rfl) (by kernel_rfl)
theorem Zbc7:tbl 379=some Zz4:=tblOf_eq Tryz.func379 (by kernel_rfl) (by kernel_rfl)
theorem Zbc8:tbl 404=some Zz5:=tblOf_eq Tryz.func404 (by kernel_rfl) (by kernel_rfl)
theorem Zbc9:tbl 380=some Zz6:=tblOf_eq Tryz.func380 (by kernel_rfl) (by kernel_rfl)
theorem Zbda:tbl 307=some Zov:=tblOf_eq Tryz.func307 (by kernel_rfl) (by kernel_rfl)
theorem Zbdb:tbl 306=some Zz9:=tblOf_eq Tryz.func306 (by kernel_rfl) (by kernel_rfl)
theorem Zbdc:tbl 235=some Z0a:=tblOf_eq Tryz.func235 (by kernel_rfl) (by kernel_rfl)
theorem Zbdd:tbl 218=some Z0b:=tblOf_eq Tryz.func218 (by kernel_rfl) (by kernel_rfl)
theorem Zbde:tbl 97=some Z0e:=tblOf_eq Tryz.func97 (by kernel_rfl) (by kernel_rfl)
theorem Zbdf:tbl 217=some Z0f:=tblOf_eq Tryz.func217 (by kernel_rfl) (by kernel_rfl)
theorem Zbdg:tbl 95=some Z0g:=tblOf_eq Tryz.func95 (by kernel_rfl) (by kernel_rfl)
theorem Zbdh:tbl 296=some Z0h:=tblOf_eq Tryz.func296 (by kernel_rfl) (by kernel_rfl)
theorem Zbdi:tbl 254=some Z0i:=tblOf_eq Tryz.func254 (by kernel_rfl) (by kernel_rfl)
theorem Zbdj:tbl 212=some Z0j:=tblOf_eq Tryz.func212 (by kernel_rfl) (by kernel_rfl)
theorem Zbdk:tbl 213=some Z0k:=tblOf_eq Tryz.func213 (by kernel_rfl) (by kernel_rfl)
theorem Zbdl:tbl 215=some Z0l:=tblOf_eq Tryz.func215 (by kernel_rfl) (by kernel_rfl)
theorem Zbdm:tbl 214=some Z0m:=tblOf_eq Tryz.func214 (by kernel_rfl) (by kernel_rfl)
theorem Zbdn:tbl 132=some Z0n:=tblOf_eq Tryz.func132 (by kernel_rfl) (by kernel_rfl)
theorem Zbdo:tbl 94=some Z0o:=tblOf_eq Tryz.func94 (by kernel_rfl) (by kernel_rfl)
theorem Zbdp:tbl 164=some Z0q:=tblOf_eq Tryz.func164 (by kernel_rfl) (by kernel_rfl)
theorem Zbdq:tbl 122=some Z0r:=tblOf_eq Tryz.func122 (by kernel_rfl) (by kernel_rfl)
theorem Zbdr:tbl 350=some Z0s:=tblOf_eq Tryz.func350 (by kernel_rfl) (by kernel_rfl)
theorem Zbds:tbl 274=some Z0t:=tblOf_eq Tryz.func274 (by kernel_rfl) (by kernel_rfl)
theorem Zbdt:tbl 208=some Z0u:=tblOf_eq Tryz.func208 (by kernel_rfl) (by kernel_rfl)
theorem Zbdu:tbl 163=some Z0w:=tblOf_eq Tryz.func163 (by kernel_rfl) (by kernel_rfl)
theorem Zbdv:tbl 397=some Z0x:=tblOf_eq Tryz.func397 (by kernel_rfl) (by kernel_rfl)
theorem Zbdw:tbl 341=some Z0y:=tblOf_eq Tryz.func341 (by kernel_rfl) (by kernel_rfl)
theorem Zbdx:tbl 342=some Z0z:=tblOf_eq Tryz.func342 (by kernel_rfl) (by kernel_rfl)
theorem Zbdy:tbl 268=some Z00:=tblOf_eq Tryz.func268 (by kernel_rfl) (by kernel_rfl)
theorem Zbdz:tbl 145=some Z01:=tblOf_eq Tryz.func145 (by kernel_rfl) (by kernel_rfl)
theorem Zbd0:tbl 289=some Z02:=tblOf_eq Tryz.func289 (by kernel_rfl) (by kernel_rfl)
theorem Zbd1:tbl 148=some Z03:=tblOf_eq Tryz.func148 (by kernel_rfl) (by kernel_rfl)
theorem Zbd2:tbl 200=some Z04:=tblOf_eq Tryz.func200 (by kernel_rfl) (by kernel_rfl)
theorem Zbd3:tbl 81=some Z05:=tblOf_eq Tryz.func81 (by kernel_rfl) (by kernel_rfl)
theorem Zbd4:tbl 207=some Z06:=tblOf_eq Tryz.func207 (by kernel_rfl) (by kernel_rfl)
theorem Zbd5:tbl 283=some Z07:=tblOf_eq Tryz.func283 (by kernel_rfl) (by kernel_rfl)
theorem Zbd6:tbl 180=some Z08:=tblOf_eq Tryz.func180 (by kernel_rfl) (by kernel_rfl)
theorem Zbd7:tbl 82=some Z09:=tblOf_eq Tryz.func82 (by kernel_rfl) (by kernel_rfl)
theorem Zbd8:tbl 349=some Z1a:=tblOf_eq Tryz.func349 (by kernel_rfl) (by kernel_rfl)
theorem Zbd9:tbl 348=some Z1b:=tblOf_eq Tryz.func348 (by kernel_rfl) (by kernel_rfl)
theorem Zbea:tbl 273=some Z1d:=tblOf_eq Tryz.func273 (by kernel_rfl) (by kernel_rfl)
theorem Zbeb:tbl 161=some Z1e:=tblOf_eq Tryz.func161 (by kernel_rfl) (by kernel_rfl)
theorem Zbec:tbl 288=some Z1f:=tblOf_eq Tryz.func288 (by kernel_rfl) (by kernel_rfl)
theorem Zbed:tbl 194=some Z1g:=tblOf_eq Tryz.func194 (by kernel_rfl) (by kernel_rfl)
theorem Zbee:tbl 225=some Z1h:=tblOf_eq Tryz.func225 (by kernel_rfl) (by kernel_rfl)
theorem Zbef:tbl 300=some Z1j:=tblOf_eq Tryz.func300 (by kernel_rfl) (by kernel_rfl)
theorem Zbeg:tbl 226=some Z1k:=tblOf_eq Tryz.func226 (by kernel_rfl) (by kernel_rfl)
theorem Zbeh:tbl 109=some Z1l:=tblOf_eq Tryz.func109 (by kernel_rfl) (by kernel_rfl)
theorem Zbei:tbl 87=some Z1m:=tblOf_eq Tryz.func87 (by kernel_rfl) (by kernel_rfl)
theorem Zbej:tbl 371=some Z1n:=tblOf_eq Tryz.func371 (by kernel_rfl) (by kernel_rfl)
theorem Zbek:tbl 197=some Z1p:=tblOf_eq Tryz.func197 (by kernel_rfl) (by kernel_rfl)
theorem Zbel:tbl 198=some Z1r:=tblOf_eq Tryz.func198 (by kernel_rfl) (by kernel_rfl)
theorem Zbem:tbl 353=some Z1t:=tblOf_eq Tryz.func353 (by kernel_rfl) (by kernel_rfl)
theorem Zben:tbl 276=some Z1u:=tblOf_eq Tryz.func276 (by kernel_rfl) (by kernel_rfl)
theorem Zbeo:tbl 199=some Z1w:=tblOf_eq Tryz.func199 (by kernel_rfl) (by kernel_rfl)
theorem Zbep:tbl 80=some Z1x:=tblOf_eq Tryz.func80 (by kernel_rfl) (by kernel_rfl)
theorem Zbeq:tbl 204=some Z1z:=tblOf_eq Tryz.func204 (by kernel_rfl) (by kernel_rfl)
theorem Zber:tbl 205=some Z10:=tblOf_eq Tryz.func205 (by kernel_rfl) (by kernel_rfl)
theorem Zbes:tbl 203=some Z12:=tblOf_eq Tryz.func203 (by kernel_rfl) (by kernel_rfl)
theorem Zbet:tbl 362=some Z13:=tblOf_eq Tryz.func362 (by kernel_rfl) (by kernel_rfl)
theorem Z2x:tbl 291=some Zvc:=tblOf_eq Tryz.func291 (by kernel_rfl) (by kernel_rfl)
theorem Zbeu:tbl 292=some Z14:=tblOf_eq Tryz.func292 (by kernel_rfl) (by kernel_rfl)
theorem Zbev:tbl 363=some Z15:=tblOf_eq Tryz.func363 (by kernel_rfl) (by kernel_rfl)
theorem Zbew:tbl 293=some Z16:=tblOf_eq Tryz.func293 (by kernel_rfl) (by kernel_rfl)
theorem Zbex:tbl 206=some Z19:=tblOf_eq Tryz.func206 (by kernel_rfl) (by kernel_rfl)
theorem Zbey:tbl 86=some Z2b:=tblOf_eq Tryz.func86 (by kernel_rfl) (by kernel_rfl)
theorem Zbez:tbl 305=some Z2c:=tblOf_eq Tryz.func305 (by kernel_rfl) (by kernel_rfl)
theorem Zbe0:tbl 85=some Z2d:=tblOf_eq Tryz.func85 (by kernel_rfl) (by kernel_rfl)
theorem Zbe1:tbl 234=some Z2e:=tblOf_eq Tryz.func234 (by kernel_rfl) (by kernel_rfl)
theorem Zbe2:tbl 227=some Z2f:=tblOf_eq Tryz.func227 (by kernel_rfl) (by kernel_rfl)
theorem Zbe3:tbl 110=some Z2g:=tblOf_eq Tryz.func110 (by kernel_rfl) (by kernel_rfl)
theorem Zbe4:tbl 83=some Z2h:=tblOf_eq Tryz.func83 (by kernel_rfl) (by kernel_rfl)
theorem Zbe5:tbl 195=some Z2i:=tblOf_eq Tryz.func195 (by kernel_rfl) (by kernel_rfl)
theorem Zbe6:tbl 401=some Z2j:=tblOf_eq Tryz.func401 (by kernel_rfl) (by kernel_rfl)
theorem Zbe7:tbl 361=some Z2k:=tblOf_eq Tryz.func361 (by kernel_rfl) (by kernel_rfl)
theorem Zbe8:tbl 290=some Z2l:=tblOf_eq Tryz.func290 (by kernel_rfl) (by kernel_rfl)
theorem Zbe9:tbl 202=some Z2m:=tblOf_eq Tryz.func202 (by kernel_rfl) (by kernel_rfl)
theorem Zbfa:tbl 201=some Z2n:=tblOf_eq Tryz.func201 (by kernel_rfl) (by kernel_rfl)
theorem Zbfb:tbl 196=some Z2o:=tblOf_eq Tryz.func196 (by kernel_rfl) (by kernel_rfl)
theorem Zbfc:tbl 79=some Z2p:=tblOf_eq Tryz.func79 (by kernel_rfl) (by kernel_rfl)
theorem Zbfd:tbl 96=some Z2q:=tblOf_eq Tryz.func96 (by kernel_rfl) (by kernel_rfl)
theorem Zbfe:tbl 98=some Z2r:=tblOf_eq Tryz.func98 (by kernel_rfl) (by kernel_rfl)
theorem Zbff:tbl 84=some Z2s:=tblOf_eq Tryz.func84 (by kernel_rfl) (by kernel_rfl)
theorem Zbfg:tbl 88=some Z2t:=tblOf_eq Tryz.func88 (by kernel_rfl) (by kernel_rfl)
theorem Zbfh:tbl 14=some Z2v:=tblOf_eq Tryz.func14 (by kernel_rfl) (by kernel_rfl)
theorem Zdi:(∀ a a1 a2 r,Im (Zw a a1 a2=some r) (if a1≤a then (some (Bo (decide (a≤a2)),[])=some r) else (some (Bo false,[])=some r))) ∧
 (∀ a r,Im (Zob a=some r) (if (a.size:Int)=1 then (∃ b1,a[0]?=some b1∧(if 97≤(b1.toNat:Int) then (some (Bo (decide ((b1.toNat:Int)≤122)),[])=some r) else (some (Bo false,[])=some r))) else (some (Bo false,[])=some r))) ∧
 (∀ s v x x1 r,Im (Zky s v x x1=some r) (if x1<x then (0≤x1∧(∃ e1,s[x1.toNat]?=some e1∧(if v=e1 then (some (I x1,[])=some r) else (Zky s v x (w (x1+1))=some r)))) else (some (I (-1),[])=some r))) ∧
 (∀ a a1 r,Im (Zoc a a1=some r) (Zky a a1 (a.length:Int) 0=some r)) ∧
 (∀ a a1 r,Im (Zdc a a1=some r) (∃ v1_0,Zoc a a1=some (I v1_0,[])∧(some (Bo (decide (0≤v1_0)),[])=some r))) ∧
 (∀ s v x x1 r,Im (Zkz s v x x1=some r) (if x1<x then (0≤x1∧(∃ e1,s[x1.toNat]?=some e1∧(if v=e1 then (some (I x1,[])=some r) else (Zkz s v x (w (x1+1))=some r)))) else (some (I (-1),[])=some r))) ∧
 (∀ a a1 r,Im (Zod a a1=some r) (Zkz a a1 (a.length:Int) 0=some r)) ∧
 (∀ a a1 r,Im (Zoe a a1=some r) (∃ v1_0,Zod a a1=some (I v1_0,[])∧(some (Bo (decide (0≤v1_0)),[])=some r))) ∧
 (∀ q seen x x1 x2 r,Im (Zgv q seen x x1 x2=some r) (if x2<x1 then (0≤x2∧(∃ e1,x[x2.toNat]?=some e1∧(∃ v2_0,Zob e1.Name=some (Bo v2_0,[])∧(if v2_0=true then (∃ v3_0,Zw (e1.Vars.length:Int) 1 3=some (Bo v3_0,[])∧(if v3_0=true then (Zk0 q seen e1 x x1 x2 e1.Vars (e1.Vars.length:Int) 0=some r) else (some (Bo false,[])=some r))) else (some (Bo false,[])=some r))))) else (∃ v4_0,Zoe seen false=some (Bo v4_0,[])∧(some (Bo (!v4_0),[])=some r)))) ∧
 (∀ q seen a x x1 x2 x3 x4 x5 r,Im (Zk0 q seen a x x1 x2 x3 x4 x5=some r) (if x5<x4 then (0≤x5∧(∃ e1,x3[x5.toNat]?=some e1∧(∃ v2_0,Zw e1 0 (w (q.Ze - 1))=some (Bo v2_0,[])∧(if v2_0=true then (x5.toNat≤a.Vars.length∧(∃ v3_0,Zdc (a.Vars.take x5.toNat) e1=some (Bo v3_0,[])∧(if v3_0=true then (some (Bo false,[])=some r) else (0≤e1∧(∃ e4,seen[e1.toNat]?=some e4∧(Zk0 q (seen.set e1.toNat true) a x x1 x2 x3 x4 (w (x5+1))=some r)))))) else (some (Bo false,[])=some r))))) else (Zgv q seen x x1 (w (x2+1))=some r))) ∧
 (∀ location x x1 x2 r,Im (Zk1 location x x1 x2=some r) (if x2<x1 then (0≤x2∧(∃ e1,x[x2.toNat]?=some e1∧(∃ v2_0,Zw e1 0 7=some (Bo v2_0,[])∧(if v2_0=true then (Zk1 location x x1 (w (x2+1))=some r) else (some (Bo false,[])=some r))))) else (some (Bo (decide ((location.length:Int)≤16)),[])=some r))) ∧
 (∀ a r,Im (Zfr a=some r) (Zk1 a a (a.length:Int) 0=some r)):=by
 and_intros
 all_goals intros
 all_goals unfold Im
 all_goals try simp only [Zw,Zob,Zky,Zoc,Zdc,Zkz,Zod,Zoe,Zgv,Zk0,Zk1,Zfr,mpl,dfs]
 all_goals try simp only [itb]
 all_goals try simp only [itf,gS,kk]
 all_goals repeat' first | refine exI fun _=>?_ | refine anJ fun _ _=>?_ | refine anI fun _=>?_ | refine orE2 ?_ ?_ | exact False.elim
 all_goals (intro h;first | refine run Zbbs rfl ?_ | refine run Zbbt rfl ?_ | rw [EvL_eq Zrw.eq_1] | refine run Zbbu rfl ?_ | refine run Zbbv rfl ?_ | rw [EvL_eq Zry.eq_1] | refine run Zbbw rfl ?_ | refine run Zbbx rfl ?_ | rw [EvL_eq Zof.eq_1] | rw [EvL_eq Zr0.eq_1] | rw [EvL_eq Zr2.eq_1] | refine run Zbbz rfl ?_)
 all_goals (refine Eq.trans ?_ h;clear h;simp +decide [*,kk,Zyg,Zyh,Zrx,Zyi,Zyj,Zrz,Zyk,Zyl,Zog,Zr1,Zr3,Zym])
abbrev Zbfi:=Zdi.1
abbrev Zbfj:=Zdi.2.1
abbrev Z2y:=Zdi.2.2.1
abbrev Zbfk:=Zdi.2.2.2.1
abbrev Zbfl:=Zdi.2.2.2.2.1
abbrev Z2z:=Zdi.2.2.2.2.2.1
abbrev Zbfm:=Zdi.2.2.2.2.2.2.1
abbrev Zbfn:=Zdi.2.2.2.2.2.2.2.1
abbrev Z20:=Zdi.2.2.2.2.2.2.2.2.1
abbrev Z21:=Zdi.2.2.2.2.2.2.2.2.2.1
abbrev Z22:=Zdi.2.2.2.2.2.2.2.2.2.2.1
abbrev Zbfo:=Zdi.2.2.2.2.2.2.2.2.2.2.2
theorem Zdj:(∀ a b x x1 r,Im (Zk2 a b x x1=some r) (if x1<x then (0≤x1∧(∃ e1,a[x1.toNat]?=some e1∧(∃ e2,b[x1.toNat]?=some e2∧(if e1<e2 then (some (Bo false,[])=some r) else (Zk2 a b x (w (x1+1))=some r))))) else (some (Bo true,[])=some r))) ∧
 (∀ a a1 r,Im (Zoi a a1=some r) (if (a.length:Int)=(a1.length:Int) then (Zk2 a a1 (a.length:Int) 0=some r) else (some (Bo false,[])=some r))) ∧
 (∀ a r,Im (Zik a=some r) (∃ v1_0,Zfr a.Low=some (Bo v1_0,[])∧(if v1_0=true then (∃ v2_0,Zfr a.High=some (Bo v2_0,[])∧(if v2_0=true then (if 0<(a.Low.length:Int) then (∃ v3_0,Zoi a.High a.Low=some (Bo v3_0,[])∧(some (Bo v3_0,[])=some r)) else (some (Bo false,[])=some r)) else (some (Bo false,[])=some r))) else (some (Bo false,[])=some r)))) ∧
 (∀ b n x x1 r,Im (Zk3 b n x x1=some r) (if x1<x then (0≤x1∧(∃ e1,b.High[x1.toNat]?=some e1∧(∃ e2,b.Low[x1.toNat]?=some e2∧(Zk3 b (w (n*(w ((w (e1 - e2))+1)))) x (w (x1+1))=some r)))) else (some (I n,[])=some r))) ∧
 (∀ a r,Im (Zgw a=some r) (Zk3 a 1 (a.Low.length:Int) 0=some r)) ∧
 (∀ a r,Im (Zgx a=some r) (∃ v1_0,Zik a=some (Bo v1_0,[])∧(if v1_0=true then (∃ v2_0,Zgw a=some (I v2_0,[])∧(some (I (if 401<v2_0 then 401 else v2_0),[])=some r)) else (some (I 0,[])=some r)))) ∧
 (∀ a r,Im (Zcd a=some r) (∃ v1_0,Zdd a=some (Bo v1_0,[])∧(if v1_0=true then (¬ (a.Atoms.length:Int)<0∧(some (I (w ((shlI 1 (a.Atoms.length:Int)) - 1)),[])=some r)) else (some (I 0,[])=some r)))) ∧
 (∀ q out mask v r,Im (Zgy q out mask v=some r) (if v<q.Ze then (Zil q out mask v q.Atoms (q.Atoms.length:Int) 0=some r) else (some (.own 0,[.arr 3 1 true (out.map ic)])=some r))) ∧
 (∀ q out mask v x x1 x2 r,Im (Zil q out mask v x x1 x2=some r) (if x2<x1 then (0≤x2∧(∃ e1,x[x2.toNat]?=some e1∧(¬ x2<0∧(if (andI (shrI mask x2) 1)=1 then (∃ v2_0,Zdc e1.Vars v=some (Bo v2_0,[])∧(if v2_0=true then (out.length+1≤68719476736∧(Zgy q (out++[v]) mask (w (v+1))=some r)) else (Zil q out mask v x x1 (w (x2+1))=some r))) else (Zil q out mask v x x1 (w (x2+1))=some r))))) else (Zgy q out mask (w (v+1))=some r))) ∧
 (∀ a a1 r,Im (Zd5 a a1=some r) (Zgy a ([]:List Int) a1 0=some r)) ∧
 (∀ out b x x1 x2 r,Im (Zim out b x x1 x2=some r) (if x2<x1 then (0≤x2∧(∃ e1,x[x2.toNat]?=some e1∧(∃ v2_0,Zdc b e1=some (Bo v2_0,[])∧(if v2_0=true then (out.length+1≤68719476736∧(Zim (out++[e1]) b x x1 (w (x2+1))=some r)) else (Zim out b x x1 (w (x2+1))=some r))))) else (some (.own 0,[.arr 3 1 true (out.map ic)])=some r))) ∧
 (∀ a a1 r,Im (Ze8 a a1=some r) (Zim ([]:List Int) a1 a (a.length:Int) 0=some r)):=by
 and_intros
 all_goals intros
 all_goals unfold Im
 all_goals try simp only [Zk2,Zoi,Zik,Zk3,Zgw,Zgx,Zcd,Zgy,Zil,Zd5,Zim,Ze8,Zfr,Box.c_def,Zdd,Zc.c_def,Zdc,mpl,dfs]
 all_goals try simp only [itb]
 all_goals try simp only [itf,gS,kk]
 all_goals repeat' first | refine exI fun _=>?_ | refine anJ fun _ _=>?_ | refine anI fun _=>?_ | refine orE2 ?_ ?_ | exact False.elim
 all_goals (intro h;first | rw [EvL_eq Zr4.eq_1] | refine run Zbb0 rfl ?_ | refine run Zbb1 rfl ?_ | rw [EvL_eq Zr6.eq_1] | refine run Zbb2 rfl ?_ | refine run Zbb3 rfl ?_ | refine run Zbb4 rfl ?_ | rw [EvL_eq Zoj.eq_1] | rw [EvL_eq Zr8.eq_1] | refine run Zbb5 rfl ?_ | rw [EvL_eq Zsa.eq_1] | refine run Zbb6 rfl ?_)
 all_goals (refine Eq.trans ?_ h;clear h;simp +decide [*,kk,Zr5,Zyn,Zyo,Zr7,Zyp,Zyq,Zyr,Zok,Zr9,Zys,Zyt,Zsb,Zyu])
abbrev Z23:=Zdj.1
abbrev Zbfp:=Zdj.2.1
abbrev Zbfq:=Zdj.2.2.1
abbrev Z24:=Zdj.2.2.2.1
abbrev Z25:=Zdj.2.2.2.2.1
abbrev Zbfr:=Zdj.2.2.2.2.2.1
abbrev Zbfs:=Zdj.2.2.2.2.2.2.1
abbrev Z26:=Zdj.2.2.2.2.2.2.2.1
abbrev Z27:=Zdj.2.2.2.2.2.2.2.2.1
abbrev Zbft:=Zdj.2.2.2.2.2.2.2.2.2.1
abbrev Z28:=Zdj.2.2.2.2.2.2.2.2.2.2.1
abbrev Zbfu:=Zdj.2.2.2.2.2.2.2.2.2.2.2
theorem Zv8:(∀ a a1 a2 a3 r,Im (Zin a a1 a2 a3=some r) (if a1.Kind=1 then (∃ v1_0,Zw a1.Atom 0 (w ((a.Atoms.length:Int) - 1))=some (Bo v1_0,[])∧(if v1_0=true then (if a1.Order=0 then (¬ a1.Atom<0∧(0≤a1.Atom∧(∃ e2,a.Atoms[a1.Atom.toNat]?=some e2∧(∃ e3,e2.Vars[0]?=some e3∧(some (.tup [.agg [I (shlI 1 a1.Atom),I e3,I (-1),I (-1)],Bo true],[])=some r))))) else (some (.tup [.agg [I 0,I (-1),I (-1),I (-1)],Bo false],[])=some r)) else (some (.tup [.agg [I 0,I (-1),I (-1),I (-1)],Bo false],[])=some r))) else (if a1.Atom=0 then (if a1.Kind=2 then (if (a3.length:Int)<1 then (some (.tup [.agg [I 0,I (-1),I (-1),I (-1)],Bo false],[])=some r) else (0≤(w ((a3.length:Int) - 1))∧(∃ e4,a3[(w ((a3.length:Int) - 1)).toNat]?=some e4∧(0≤e4∧(∃ e5,a2[e4.toNat]?=some e5∧(∃ (v6_0:List Int),Zd5 a e5.Mask=some (.own 0,[.arr 3 1 true (v6_0.map ic)])∧(∃ v7_0,Zdc v6_0 a1.Order=some (Bo v7_0,[])∧(if v7_0=true then (if e5.Order=a1.Order then (some (.tup [.agg [I 0,I (-1),I (-1),I (-1)],Bo false],[])=some r) else (some (.tup [.agg [I e5.Mask,I a1.Order,I e4,I (-1)],Bo true],[])=some r)) else (some (.tup [.agg [I 0,I (-1),I (-1),I (-1)],Bo false],[])=some r))))))))) else (if (a3.length:Int)<2 then (some (.tup [.agg [I 0,I (-1),I (-1),I (-1)],Bo false],[])=some r) else (0≤(w ((a3.length:Int) - 2))∧(∃ e8,a3[(w ((a3.length:Int) - 2)).toNat]?=some e8∧(0≤(w ((a3.length:Int) - 1))∧(∃ e9,a3[(w ((a3.length:Int) - 1)).toNat]?=some e9∧(0≤e8∧(∃ e10,a2[e8.toNat]?=some e10∧(0≤e9∧(∃ e11,a2[e9.toNat]?=some e11∧(∃ (v12_0:List Int),Zd5 a e10.Mask=some (.own 0,[.arr 3 1 true (v12_0.map ic)])∧(∃ (v13_0:List Int),Zd5 a e11.Mask=some (.own 0,[.arr 3 1 true (v13_0.map ic)])∧(∃ (v14_0:List Int),Ze8 v12_0 v13_0=some (.own 0,[.arr 3 1 true (v14_0.map ic)])∧(if (andI e10.Mask e11.Mask)=0 then (if (v14_0.length:Int)=0 then (some (.tup [.agg [I (orI e10.Mask e11.Mask),I (-1),I e8,I e9],Bo false],[])=some r) else (if a1.Kind=3 then (some (.tup [.agg [I (orI e10.Mask e11.Mask),I (-1),I e8,I e9],Bo (decide (a1.Order=0))],[])=some r) else (if a1.Kind=5 then (some (.tup [.agg [I (orI e10.Mask e11.Mask),I e10.Order,I e8,I e9],Bo (decide (a1.Order=0))],[])=some r) else (if a1.Kind=4 then (∃ v15_0,Zdc v14_0 a1.Order=some (Bo v15_0,[])∧(if v15_0=true then (if e10.Order=a1.Order then (some (.tup [.agg [I (orI e10.Mask e11.Mask),I a1.Order,I e8,I e9],Bo (decide (e11.Order=a1.Order))],[])=some r) else (some (.tup [.agg [I (orI e10.Mask e11.Mask),I a1.Order,I e8,I e9],Bo false],[])=some r)) else (some (.tup [.agg [I (orI e10.Mask e11.Mask),I a1.Order,I e8,I e9],Bo false],[])=some r))) else (some (.tup [.agg [I (orI e10.Mask e11.Mask),I (-1),I e8,I e9],Bo false],[])=some r))))) else (some (.tup [.agg [I (orI e10.Mask e11.Mask),I (-1),I e8,I e9],Bo false],[])=some r))))))))))))))) else (some (.tup [.agg [I 0,I (-1),I (-1),I (-1)],Bo false],[])=some r)))) ∧
 (∀ q info stack x x1 x2 r,Im (Zgz q info stack x x1 x2=some r) (if x2<x1 then (0≤x2∧(∃ e1,x[x2.toNat]?=some e1∧(∃ (v2_0:Zg),∃ v2_1,Zin q e1 info stack=some (.tup [.agg (v2_0.c.map .t),Bo v2_1],[])∧(if v2_1=true then (info.length+1≤68719476736∧(if 0≤v2_0.Right then (0≤(w ((stack.length:Int) - 2))∧((w ((stack.length:Int) - 2)).toNat≤stack.length∧((w ((stack.length:Int) - 2)).toNat+1≤68719476736∧(Zgz q (info++[v2_0]) ((stack.take ((w ((stack.length:Int) - 2)).toNat))++[x2]) x x1 (w (x2+1))=some r)))) else (if 0≤v2_0.Left then (0≤(w ((stack.length:Int) - 1))∧((w ((stack.length:Int) - 1)).toNat≤stack.length∧((w ((stack.length:Int) - 1)).toNat+1≤68719476736∧(Zgz q (info++[v2_0]) ((stack.take ((w ((stack.length:Int) - 1)).toNat))++[x2]) x x1 (w (x2+1))=some r)))) else (stack.length+1≤68719476736∧(Zgz q (info++[v2_0]) (stack++[x2]) x x1 (w (x2+1))=some r))))) else (some (.tup [.t .nil,Bo false],[])=some r))))) else (if (stack.length:Int)=1 then (some (.tup [.own 0,Bo true],[.arr 209 4 true (info.map Zg.c)])=some r) else (some (.tup [.t .nil,Bo false],[])=some r)))) ∧
 (∀ a a1 r,Im (Ze9 a a1=some r) (∃ v1_0,Zdd a=some (Bo v1_0,[])∧(if v1_0=true then (∃ v2_0,Zw (a1.Steps.length:Int) 1 14=some (Bo v2_0,[])∧(if v2_0=true then (Zgz a ([]:List Zg) ([]:List Int) a1.Steps (a1.Steps.length:Int) 0=some r) else (some (.tup [.t .nil,Bo false],[])=some r))) else (some (.tup [.t .nil,Bo false],[])=some r)))):=by
 and_intros
 all_goals intros
 all_goals unfold Im
 all_goals try simp only [Zin,Zgz,Ze9,Zw,Zd5,Zdc,Ze8,Zc.c_def,Zb.c_def,Zg.c_def,Zdd,mpl,dfs]
 all_goals try simp only [itb]
 all_goals try simp only [itf,gS,kk]
 all_goals repeat' first | refine exI fun _=>?_ | refine anJ fun _ _=>?_ | refine anI fun _=>?_ | refine orE2 ?_ ?_ | exact False.elim
 all_goals (intro h;first | refine run Zbb7 rfl ?_ | rw [EvL_eq Zsc.eq_1] | refine run Zbb8 rfl ?_)
 all_goals (refine Eq.trans ?_ h;clear h;simp +decide [*,kk,Zyv,Zyw,Zsd,Zyx])
abbrev Zgd:=Zv8.1
abbrev Z29:=Zv8.2.1
abbrev Zbfv:=Zv8.2.2
theorem Zbfw (a:Zc) (r:AV×List Blk) (h:(∃ (v1_0:Bool),Zw a.Ze 1 4=some (Bo v1_0,[])∧(if v1_0=true then (∃ (v2_0:Bool),Zw (a.Atoms.length:Int) 1 4=some (Bo v2_0,[])∧(if v2_0=true then (0≤a.Ze∧(a.Ze.toNat*1≤room∧(a.Ze≤140737488355328∧(Zgv a (List.replicate (a.Ze).toNat false) a.Atoms (a.Atoms.length:Int) 0=some r)))) else (some (Bo false,[])=some r))) else (some (Bo false,[])=some r)))):Zdd a=some r:=by
 unfold Zdd
 refine run Zbby rfl ?_
 obtain ⟨v1_0,q1,h⟩:=h
 unfold Zw at q1
 try simp at q1
 by_cases q2:v1_0=true
 ·rw [if_pos q2] at h
  obtain ⟨v2_0,q3,h⟩:=h
  unfold Zw at q3
  try simp at q3
  by_cases q4:v2_0=true
  ·rw [if_pos q4] at h
   obtain ⟨q5,h⟩:=h
   obtain ⟨q6,h⟩:=h
   have zq6:=q6;try simp at zq6
   obtain ⟨q7,h⟩:=h
   refine Eq.trans ?_ h
   clear h
   simp +decide [*,Zoh,Zgv]
  ·rw [if_neg q4] at h
   refine Eq.trans ?_ h
   clear h
   simp +decide [*,Zoh]
 ·rw [if_neg q2] at h
  refine Eq.trans ?_ h
  clear h
  simp +decide [*,Zoh]
theorem Zdk:(∀ a a1 r,Im (Zol a a1=some r) ((Ze9 a a1=some (.tup [.t .nil,Bo false],[])∧(some (I 0,[])=some r))∨(∃ (v2_0:List Zg),Ze9 a a1=some (.tup [.own 0,Bo true],[.arr 209 4 true (v2_0.map Zg.c)])∧(0≤(w ((v2_0.length:Int) - 1))∧(∃ e3,v2_0[(w ((v2_0.length:Int) - 1)).toNat]?=some e3∧(some (I e3.Mask,[])=some r)))))) ∧
 (∀ l n x x1 x2 r,Im (Zk4 l n x x1 x2=some r) (if x2<x1 then (0≤x2∧(∃ e1,x[x2.toNat]?=some e1∧(∃ v2_0,Zw e1 0 (w (n - 1))=some (Bo v2_0,[])∧(if v2_0=true then (x2.toNat≤l.length∧(∃ v3_0,Zdc (l.take x2.toNat) e1=some (Bo v3_0,[])∧(if v3_0=true then (some (Bo false,[])=some r) else (Zk4 l n x x1 (w (x2+1))=some r)))) else (some (Bo false,[])=some r))))) else (some (Bo (decide (0<(l.length:Int))),[])=some r))) ∧
 (∀ a a1 r,Im (Zom a a1=some r) (Zk4 a a1 a (a.length:Int) 0=some r)) ∧
 (∀ q b x x1 x2 r,Im (Zio q b x x1 x2=some r) (if x2<x1 then (0≤x2∧(∃ e1,x[x2.toNat]?=some e1∧(∃ v2_0,Zol q e1=some (I v2_0,[])∧(∃ v3_0,Zcd q=some (I v3_0,[])∧(if v2_0=v3_0 then (Zio q b x x1 (w (x2+1))=some r) else (some (Bo false,[])=some r)))))) else (Zg0 b b.Budgets (b.Budgets.length:Int) 0=some r))) ∧
 (∀ b x x1 x2 r,Im (Zg0 b x x1 x2=some r) (if x2<x1 then (0≤x2∧(∃ e1,x[x2.toNat]?=some e1∧(∃ v2_0,Zw e1 1 500000000000=some (Bo v2_0,[])∧(if v2_0=true then (if 0<x2 then (0≤(w (x2 - 1))∧(∃ e3,b.Budgets[(w (x2 - 1)).toNat]?=some e3∧(if e1=(w (b.Ratio*e3)) then (Zg0 b x x1 (w (x2+1))=some r) else (some (Bo false,[])=some r)))) else (Zg0 b x x1 (w (x2+1))=some r)) else (some (Bo false,[])=some r))))) else (Zip b b.Contours (b.Contours.length:Int) 0=some r))) ∧
 (∀ b x x1 x2 r,Im (Zip b x x1 x2=some r) (if x2<x1 then (0≤x2∧(∃ e1,x[x2.toNat]?=some e1∧(∃ v2_0,Zom e1 (b.Plans.length:Int)=some (Bo v2_0,[])∧(if v2_0=true then (Zip b x x1 (w (x2+1))=some r) else (some (Bo false,[])=some r))))) else (if 0<(b.Budgets.length:Int) then (some (Bo (decide ((b.Contours.length:Int)=(b.Budgets.length:Int))),[])=some r) else (some (Bo false,[])=some r)))) ∧
 (∀ a a1 r,Im (Zk5 a a1=some r) (∃ v1_0,Zdd a=some (Bo v1_0,[])∧(if v1_0=true then (∃ v2_0,Zw a1.Version 1 999=some (Bo v2_0,[])∧(if v2_0=true then (∃ v3_0,Zw a1.Ratio 2 8=some (Bo v3_0,[])∧(if v3_0=true then (∃ v4_0,Zw a1.Slack 0 100=some (Bo v4_0,[])∧(if v4_0=true then (∃ v5_0,Zgx a1.Box=some (I v5_0,[])∧(∃ v6_0,Zw v5_0 1 400=some (Bo v6_0,[])∧(if v6_0=true then (∃ v7_0,Zcd a=some (I v7_0,[])∧(if (a1.Box.Low.length:Int)=(w (v7_0+1)) then (Zio a a1 a1.Plans (a1.Plans.length:Int) 0=some r) else (some (Bo false,[])=some r))) else (some (Bo false,[])=some r)))) else (some (Bo false,[])=some r))) else (some (Bo false,[])=some r))) else (some (Bo false,[])=some r))) else (some (Bo false,[])=some r)))) ∧
 (∀ a a1 r,Im (Zg1 a a1=some r) (∃ v1_0,Zdd a=some (Bo v1_0,[])∧(if v1_0=true then (¬ (a.Atoms.length:Int)<0∧(∃ v2_0,Zw a1 0 (w ((shlI 1 (a.Atoms.length:Int)) - 1))=some (Bo v2_0,[])∧(some (Bo v2_0,[])=some r))) else (some (Bo false,[])=some r)))) ∧
 (∀ vars mask out x x1 x2 r,Im (Zg2 vars mask out x x1 x2=some r) (if x2<x1 then (0≤x2∧(∃ e1,x[x2.toNat]?=some e1∧(¬ x2<0∧(if (andI (shrI mask x2) 1)=0 then (∃ (v2_0:List Int),Ze8 e1.Vars vars=some (.own 0,[.arr 3 1 true (v2_0.map ic)])∧(if 0<(v2_0.length:Int) then (Zg2 vars mask (orI out (shlI 1 x2)) x x1 (w (x2+1))=some r) else (Zg2 vars mask out x x1 (w (x2+1))=some r))) else (Zg2 vars mask out x x1 (w (x2+1))=some r))))) else (some (I out,[])=some r))) ∧
 (∀ a a1 r,Im (Zon a a1=some r) (∃ (v1_0:List Int),Zd5 a a1=some (.own 0,[.arr 3 1 true (v1_0.map ic)])∧(Zg2 v1_0 a1 0 a.Atoms (a.Atoms.length:Int) 0=some r))) ∧
 (∀ q mask got r,Im (Zk6 q mask got=some r) (∃ v1_0,Zon q got=some (I v1_0,[])∧(if (orI got (andI v1_0 mask))=got then (some (Bo (decide (got=mask)),[])=some r) else (Zk6 q mask (orI got (andI v1_0 mask))=some r)))) ∧
 (∀ a a1 r,Im (Zek a a1=some r) (if a1=0 then (some (Bo false,[])=some r) else (Zk6 a a1 (andI a1 (w (0 - a1)))=some r))):=by
 and_intros
 all_goals intros
 all_goals unfold Im
 all_goals try simp only [Zol,Zk4,Zom,Zio,Zg0,Zip,Zk5,Zg1,Zg2,Zon,Zk6,Zek,Ze9,Plan.c_def,Zc.c_def,Zw,Zdc,Zcd,Zdd,Zgx,Box.c_def,Ze8,Zd5,mpl,dfs]
 all_goals try simp only [itb]
 all_goals try simp only [itf,gS,kk]
 all_goals repeat' first | refine exI fun _=>?_ | refine anJ fun _ _=>?_ | refine anI fun _=>?_ | refine orE2 ?_ ?_ | exact False.elim
 all_goals (intro h;first | refine run Zbb9 rfl ?_ | rw [EvL_eq Zse.eq_1] | refine run Zbca rfl ?_ | rw [EvL_eq Zsg.eq_1] | rw [EvL_eq Zsh.eq_1] | rw [EvL_eq Zsi.eq_1] | refine run Zbcb rfl ?_ | refine run Zbcc rfl ?_ | rw [EvL_eq Zsm.eq_1] | refine run Zbcd rfl ?_ | rw [EvL_eq Zso.eq_1] | refine run Zbce rfl ?_)
 all_goals (refine Eq.trans ?_ h;clear h;simp +decide [*,kk,Zyy,Zsf,Zyz,Zsl,Zsk,Zsj,Zy0,Zy1,Zy2,Zsn,Zy3,Zy4])
abbrev Zbfx:=Zdk.1
abbrev Z3a:=Zdk.2.1
abbrev Zbfy:=Zdk.2.2.1
abbrev Z3b:=Zdk.2.2.2.1
abbrev Z3c:=Zdk.2.2.2.2.1
abbrev Z3d:=Zdk.2.2.2.2.2.1
abbrev Zbfz:=Zdk.2.2.2.2.2.2.1
abbrev Zbf0:=Zdk.2.2.2.2.2.2.2.1
abbrev Z3e:=Zdk.2.2.2.2.2.2.2.2.1
abbrev Zbf1:=Zdk.2.2.2.2.2.2.2.2.2.1
abbrev Z3f:=Zdk.2.2.2.2.2.2.2.2.2.2.1
abbrev Z3g:=Zdk.2.2.2.2.2.2.2.2.2.2.2
theorem Zdl:(∀ a a1 r,Im (Zg3 a a1=some r) (∃ v1_0,Zg1 a a1=some (Bo v1_0,[])∧(if v1_0=true then (∃ v2_0,Zek a a1=some (Bo v2_0,[])∧(some (Bo v2_0,[])=some r)) else (some (Bo false,[])=some r)))) ∧
 (∀ x r,Im (Zel x=some r) (some (.bsl 1 5,[.box (x.c.map .t),.box [.ptr 0 0,.ptr 0 6,.ptr 0 12,.ptr 0 18,.ptr 0 24]])=some r)) ∧
 (∀ x r,Im (Zoo x=some r) (some (.bsl 1 5,[.box (x.c.map .t),.box [.ptr 0 0,.ptr 0 1,.ptr 0 2,.ptr 0 3,.ptr 0 4]])=some r)) ∧
 (∀ o x x1 x2 r,Im (Zfs o x x1 x2=some r) (if x2<x1 then (0≤x2∧(∃ e1,x[x2.toNat]?=some e1∧(∃ v2_0,Zw e1.Add (-99) 99=some (Bo v2_0,[])∧(if v2_0=true then (∃ v3_0,Zw e1.From 1 8192=some (Bo v3_0,[])∧(if v3_0=true then (if 0<x2 then (0≤(w (x2 - 1))∧(∃ e4,o.Steps[(w (x2 - 1)).toNat]?=some e4∧(if e1.From≤e4.From then (some (Bo false,[])=some r) else (Zfs o x x1 (w (x2+1))=some r)))) else (Zfs o x x1 (w (x2+1))=some r)) else (some (Bo false,[])=some r))) else (some (Bo false,[])=some r))))) else (some (Bo (decide ((o.Steps.length:Int)≤4)),[])=some r))) ∧
 (∀ a r,Im (Zbp a=some r) (Zoo a=some (.bsl 1 5,[.box (a.c.map .t),.box [.ptr 0 0,.ptr 0 1,.ptr 0 2,.ptr 0 3,.ptr 0 4]])∧(Zcv a 5 0=some r))) ∧
 (∀ out a r,Im (Ziq out a=some r) (if a≤7 then (Zg4 out a 0=some r) else (some (.own 0,[.arr 30 1 true (out.map isc)])=some r))) ∧
 (∀ out a b r,Im (Zg4 out a b=some r) (if b≤7 then (Zir out a b 0=some r) else (Ziq out (w (a+1))=some r))) ∧
 (∀ out a b c r,Im (Zir out a b c=some r) (if c≤7 then (out.length+1≤68719476736∧(Zir (out++[[a,b,c]]) a b (w (c+1))=some r)) else (Zg4 out a (w (b+1))=some r))) ∧
 (∀ r,Im (Zcp=some r) (Ziq ([]:List (List Int)) 0=some r)) ∧
 (∀ a r,Im (Zg5 a=some r) (a.length≤68719476736∧(some (.own 0,[.arr 3 1 true (a.map ic)])=some r))) ∧
 (∀ a r,Im (Zfa a=some r) (∃ v1_0,Zw a 0 7=some (Bo v1_0,[])∧(if v1_0=true then (if a=0 then (some (I 0,[])=some r) else (¬ (w (2*(w (a - 1))))<0∧(some (I (shlI 1 (w (2*(w (a - 1))))),[])=some r))) else (some (I (-1),[])=some r)))) ∧
 (∀ left right n x x1 x2 r,Im (Zg6 left right n x x1 x2=some r) (if x2<x1 then (0≤x2∧(∃ e1,x[x2.toNat]?=some e1∧(if e1.From≤(w (left+right)) then (Zg6 left right (w (n+e1.Add)) x x1 (w (x2+1))=some r) else (Zg6 left right n x x1 (w (x2+1))=some r)))) else (some (I n,[])=some r))):=by
 and_intros
 all_goals intros
 all_goals unfold Im
 all_goals try simp only [Zg3,Zel,Zoo,Zfs,Zbp,Ziq,Zg4,Zir,Zcp,Zg5,Zfa,Zg6,Zg1,Zek,Zc.c_def,Zw,Zi.c_def,Zcv,mpl,dfs]
 all_goals try simp only [itb]
 all_goals try simp only [itf,gS,kk]
 all_goals repeat' first | refine exI fun _=>?_ | refine anJ fun _ _=>?_ | refine anI fun _=>?_ | refine orE2 ?_ ?_ | exact False.elim
 all_goals (intro h;first | refine run Zbcf rfl ?_ | refine runM Zbcg rfl ?_ | refine runM Zbch rfl ?_ | rw [EvL_eq Zsq.eq_1] | refine run Zbci rfl ?_ | rw [EvL_eq Zk7.eq_1] | rw [EvL_eq Zop.eq_1] | rw [EvL_eq Zst.eq_1] | refine run Zbcj rfl ?_ | refine run Zbck rfl ?_ | refine run Zbcl rfl ?_ | rw [EvL_eq Zsv.eq_1])
 all_goals (refine Eq.trans ?_ h;clear h;simp +decide [*,kk,Zy5,Zy6,Zy7,Zsr,Zy8,Zk8,Zoq,Zsu,Zy9,Zza,Zzb,Zzc,Zsw])
abbrev Zbf2:=Zdl.1
abbrev Z3h:=Zdl.2.1
abbrev Zbf3:=Zdl.2.2.1
abbrev Z3i:=Zdl.2.2.2.1
abbrev Zbf4:=Zdl.2.2.2.2.1
abbrev Z3j:=Zdl.2.2.2.2.2.1
abbrev Z3k:=Zdl.2.2.2.2.2.2.1
abbrev Z3l:=Zdl.2.2.2.2.2.2.2.1
abbrev Zbf5:=Zdl.2.2.2.2.2.2.2.2.1
abbrev Z3m:=Zdl.2.2.2.2.2.2.2.2.2.1
abbrev Zbf6:=Zdl.2.2.2.2.2.2.2.2.2.2.1
abbrev Z3n:=Zdl.2.2.2.2.2.2.2.2.2.2.2
theorem Z3o:(∀ a a1 a2 a3 r,Im (Zis a a1 a2 a3=some r) (Zg6 a1 a2 (w ((w ((w ((w (a.Fixed+(w (a.Zj*a1))))+(w (a.Zk*a2))))+(w (a.Zm*a3))))+(w ((w (a.Zl*a1))*a2)))) a.Steps (a.Steps.length:Int) 0=some r)) ∧
 (∀ a a1 r,Im (Zd6 a a1=some r) (∃ e1,a1[0]?=some e1∧(∃ v2_0,Zfa e1=some (I v2_0,[])∧(∃ e3,a1[1]?=some e3∧(∃ v4_0,Zfa e3=some (I v4_0,[])∧(∃ e5,a1[2]?=some e5∧(∃ v6_0,Zfa e5=some (I v6_0,[])∧(∃ v7_0,Zis a v2_0 v4_0 v6_0=some (I v7_0,[])∧(some (I v7_0,[])=some r))))))))):=by
 and_intros
 all_goals intros
 all_goals unfold Im
 all_goals try simp only [Zis,Zd6,Zfa,Zi.c_def,Zg6,mpl,dfs]
 all_goals try simp only [itb]
 all_goals try simp only [itf,gS,kk]
 all_goals repeat' first | refine exI fun _=>?_ | refine anJ fun _ _=>?_ | refine anI fun _=>?_ | refine orE2 ?_ ?_ | exact False.elim
 all_goals (intro h;first | refine run Zbcm rfl ?_ | refine run Zbcn rfl ?_)
 all_goals (refine Eq.trans ?_ h;clear h;simp +decide [*,kk,Zzd,Zze])
abbrev Zbf7:=Z3o.1
abbrev Zbf8:=Z3o.2
theorem Zj5 (o:Zi) (x:Int) (x1:Int) (r:AV×List Blk) (h:(if x1<x then (if x1=0 then (∃ (v1_0:Bool),Zw o.Fixed (-99) 99=some (Bo v1_0,[])∧(if v1_0=true then (Zcv o x (w (x1+1))=some r) else (some (Bo false,[])=some r))) else (if x1=1 then (∃ (v2_0:Bool),Zw o.Zj (-99) 99=some (Bo v2_0,[])∧(if v2_0=true then (Zcv o x (w (x1+1))=some r) else (some (Bo false,[])=some r))) else (if x1=2 then (∃ (v3_0:Bool),Zw o.Zk (-99) 99=some (Bo v3_0,[])∧(if v3_0=true then (Zcv o x (w (x1+1))=some r) else (some (Bo false,[])=some r))) else (if x1=3 then (∃ (v4_0:Bool),Zw o.Zm (-99) 99=some (Bo v4_0,[])∧(if v4_0=true then (Zcv o x (w (x1+1))=some r) else (some (Bo false,[])=some r))) else (if x1=4 then (∃ (v5_0:Bool),Zw o.Zl (-99) 99=some (Bo v5_0,[])∧(if v5_0=true then (Zcv o x (w (x1+1))=some r) else (some (Bo false,[])=some r))) else False))))) else (Zfs o o.Steps (o.Steps.length:Int) 0=some r))):Zcv o x x1=some r:=by
 unfold Zcv
 rw [EvL_eq Zsp.eq_1]
 by_cases q1:x1<x
 ·rw [if_pos q1] at h
  by_cases q2:x1=0
  ·rw [if_pos q2] at h
   subst q2
   obtain ⟨v1_0,q3,h⟩:=h
   unfold Zw at q3
   try simp at q3
   by_cases q4:v1_0=true
   ·rw [if_pos q4] at h
    refine Eq.trans ?_ h
    clear h
    simp +decide [*,Zcv]
   ·rw [if_neg q4] at h
    refine Eq.trans ?_ h
    clear h
    simp +decide [*]
  ·rw [if_neg q2] at h
   replace q2:=eq_false q2
   by_cases q5:x1=1
   ·rw [if_pos q5] at h
    subst q5
    obtain ⟨v2_0,q6,h⟩:=h
    unfold Zw at q6
    try simp at q6
    by_cases q7:v2_0=true
    ·rw [if_pos q7] at h
     refine Eq.trans ?_ h
     clear h
     simp +decide [*,Zcv]
    ·rw [if_neg q7] at h
     refine Eq.trans ?_ h
     clear h
     simp +decide [*]
   ·rw [if_neg q5] at h
    replace q5:=eq_false q5
    by_cases q8:x1=2
    ·rw [if_pos q8] at h
     subst q8
     obtain ⟨v3_0,q9,h⟩:=h
     unfold Zw at q9
     try simp at q9
     by_cases q10:v3_0=true
     ·rw [if_pos q10] at h
      refine Eq.trans ?_ h
      clear h
      simp +decide [*,Zcv]
     ·rw [if_neg q10] at h
      refine Eq.trans ?_ h
      clear h
      simp +decide [*]
    ·rw [if_neg q8] at h
     replace q8:=eq_false q8
     by_cases q11:x1=3
     ·rw [if_pos q11] at h
      subst q11
      obtain ⟨v4_0,q12,h⟩:=h
      unfold Zw at q12
      try simp at q12
      by_cases q13:v4_0=true
      ·rw [if_pos q13] at h
       refine Eq.trans ?_ h
       clear h
       simp +decide [*,Zcv]
      ·rw [if_neg q13] at h
       refine Eq.trans ?_ h
       clear h
       simp +decide [*]
     ·rw [if_neg q11] at h
      replace q11:=eq_false q11
      by_cases q14:x1=4
      ·rw [if_pos q14] at h
       subst q14
       obtain ⟨v5_0,q15,h⟩:=h
       unfold Zw at q15
       try simp at q15
       by_cases q16:v5_0=true
       ·rw [if_pos q16] at h
        refine Eq.trans ?_ h
        clear h
        simp +decide [*,Zcv]
       ·rw [if_neg q16] at h
        refine Eq.trans ?_ h
        clear h
        simp +decide [*]
      ·rw [if_neg q14] at h
       replace q14:=eq_false q14
       cases h
 ·rw [if_neg q1] at h
  refine Eq.trans ?_ h
  clear h
  simp +decide [*,Zfs,Zss]
end Go.Proofs.YtgnfoghkbpkgjaaGreat
