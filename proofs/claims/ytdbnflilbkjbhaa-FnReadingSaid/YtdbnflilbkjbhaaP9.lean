/-
  Parts of the proofs for this seat: D2 T1 T2.
-/
import Derived.Test.YtdbnflilbkjbhaaP8
set_option linter.unusedSectionVars false
set_option linter.unusedSimpArgs false
set_option linter.unusedVariables false
set_option maxRecDepth 100000
set_option maxHeartbeats 4000000
namespace Go.Proofs.Ytdbnflilbkjbhaa
open Go.AM
noncomputable section
def Zzj:MCode:=.ic 33 10 34 [2,3,4,6,8,9,10]
def Zsc:MCode:=.we [.m 28 10,.fa 29 1 4,.l 30 29,.ll 31 30,.b 32 .lss 28 31] [2,3,4,6,8,9,10,32] 32 0 (.seq (.block 1 (.r [.m 35 2,.m 36 10,.b 37 .shr 35 36,.bk 38 .and 37 1,.bk 39 .eql 38 1] [2,3,4,6,8,9,10,39] (.cond (.s 39) (.seq (.drw [.ln 41 1 3,.fa 42 1 4,.l 43 42,.m 44 10,.ia 45 2 43 44,.fa 46 0 45,.l 47 46,.cl 48 78 [41,47],.m 40 48,.o 49 (.ext (.s 40) 0),.o 50 (.ext (.s 40) 1),.o 11 (.al [.str ⟨#[]⟩,.z,.nil]),.st 3 11 49,.m 12 50] [[],[],[1],[],[2,3],[4],[5],[0,6],[7],[8],[8],[],[11,9,7,0,1,2,3,4,5,6,7,8,9,11],[10,12,0,1,2,3,4,5,6,7,8,9,10,11,12]] [2,3,4,6,8,9,10,11]) (.r [.m 51 8,.ln 52 3 11,.o 53 (.bslice 99 3 1 [.str ⟨#[]⟩,.z,.lst 1 []] [(0,.s 52)]),.o 54 (.ap 99 3 48 51 53),.m 8 54] [2,3,4,6,8,9,10] (.reg [.m 55 9,.fa 56 1 4,.l 57 56,.m 58 10,.ia 59 2 57 58,.ln 60 2 59,.o 61 (.bslice 116 2 1 [.str ⟨#[]⟩,.lst 1 []] [(0,.s 60)]),.o 62 (.ap 116 2 40 55 61),.m 9 62] [2,3,4,6,8,9,10]))) .skip))) Zzj)
def Zsd:MCode:=.r [.ln 63 2 4,.m 64 2,.cl 65 79 [63,64],.m 13 65] [6,8,9,13] (.r [.m 66 13,.m 67 8,.m 68 9,.m 69 13,.o 70 (.bslice 3 1 0 [.z] []),.o 71 (.icall 80 [.s 67,.s 68,.s 69,.s 70]),.o 72 (.build [.t .nil,.t .nil] [(0,1,.s 66),(1,1,.s 71)]),.st 2 6 72,.mq 7 true] [6,7] .ret)
def Zzk:MFun:=⟨3,73,[.cell 6 (some 2),.tmp 7],.r [.bx 3 0,.bx 4 1,.o 6 (.al [.nil,.nil]),.mq 7 false] [2,3,4,6] (.wc [.ln 14 1 3,.ln 15 2 4,.cl 16 77 [14,15],.nt 17 16,.m 18 17,.h 19 18 (.m 2),.h 20 18 (.ln 2 4),.h 21 18 (.cl 61 [20]),.h 22 18 (.call 26 [.s 19,.k 1,.s 21]),.h 23 18 (.nt 22),.or 24 18 23] [2,3,4,6,24] 24 (.r [.o 25 (.build [.t .nil,.t .nil] []),.st 2 6 25,.mq 7 false] [6,7] .ret) (.r [.o 26 (.bslice 99 3 0 [.str ⟨#[]⟩,.z,.lst 1 []] []),.m 8 26] [2,3,4,6,8] (.r [.o 27 (.bslice 116 2 0 [.str ⟨#[]⟩,.lst 1 []] []),.m 9 27] [2,3,4,6,8,9] (.seq (.r [.mk' 10 0] [2,3,4,6,8,9,10] (.block 0 (.loop [2,3,4,6,8,9,10] Zsc))) Zsd))))⟩
def Zg7(a:Zn)(a1:Zb)(a2:Int):Rs:=C 63 [.agg (a.c.map .t),.agg (a1.c.map .t),I a2] []
def Zfu(d:Zn)(q:Zb)(l:List Ze)(fr:Bool)(cc:List Atom)(cd i:Int):Rs:=EvL C [.blk 0,.seq Zsd,.fin 0 [.cell 6 (some 2),.tmp 7]] [2,3,4,6,8,9,10] Zsc ⟨[(2,I cd),(3,.ptr 0 0),(4,.ptr 1 0),(6,.ptr 2 0),(8,.own 3),(9,.own 4),(10,I i)],[[]],[.box (d.c.map .t),.box (q.c.map .t),.box [.t .nil,.t .nil],.arr 99 3 true (l.map Ze.c),.arr 116 2 fr (cc.map Atom.c)]⟩
def Zzl:MFun:=⟨3,21,[.tmp 6],.r [.bx 3 0,.bx 4 1,.mk' 6 0] [2,3,4] (.r [.ln 10 1 3,.ln 11 2 4,.m 12 2,.cl 13 63 [10,11,12],.m 9 13,.o 14 (.ext (.s 9) 0),.o 15 (.ext (.s 9) 1),.o 7 (.al [.nil,.nil]),.st 2 7 14,.m 8 15] [7,8] (.wc [.m 16 8,.nt 17 16] [7,17] 17 (.r [.mk' 6 (-1)] [6] .ret) (.r [.fa 18 1 7,.l 19 18,.ll 20 19,.m 6 20] [6] .ret)))⟩
def Ziw(a:Zn)(a1:Zb)(a2:Int):Rs:=C 48 [.agg (a.c.map .t),.agg (a1.c.map .t),I a2] []
def Zmg(x:Za)(a:List Int):Rs:=C 19 [.ptr 0 0,L 1 (a.map ic)] [.box (x.c.map .t)]
def Zzm:MCode:=.seq (.drw [.m 31 0,.m 32 7,.ia 33 2 31 32,.fa 34 0 33,.l 35 34,.fa 36 0 3,.l 37 36,.b 38 .neq 35 37] [[],[],[0,1],[2],[3],[],[5],[4,6]] [0,3,5,6,7,38]) (.cond (.s 38) (.reg [.m 39 5,.m 40 0,.m 41 7,.ia 42 2 40 41,.ln 43 2 42,.o 44 (.bslice 40 2 1 [.z,.z] [(0,.s 43)]),.o 45 (.ap 40 2 16 39 44),.m 5 45] [0,3,5,6,7]) .skip)
def Zse:MCode:=.we [.m 9 7,.m 10 0,.ll 11 10,.b 12 .lss 9 11] [0,3,5,6,7,12] 12 0 (.seq (.block 1 (.seq (.seq (.drw [.m 15 6,.nt 16 15,.m 17 16,.g 18 17 (.m 0),.g 19 17 (.m 7),.g 20 17 (.ia 2 18 19),.g 21 17 (.fa 0 20),.g 22 17 (.l 21),.g 23 17 (.fa 0 3),.g 24 17 (.l 23),.g 25 17 (.b .geq 22 24),.an 26 17 25] [[],[0],[1],[2],[2],[3,4,2],[5,2],[6,2],[2],[8,2],[7,9,2],[2,10]] [0,3,5,6,7,26]) (.cond (.s 26) (.r [.m 27 5,.ln 28 2 3,.o 29 (.bslice 40 2 1 [.z,.z] [(0,.s 28)]),.o 30 (.ap 40 2 16 27 29),.m 5 30] [0,3,5,7] (.reg [.mq 6 true] [0,3,5,6,7])) .skip)) Zzm)) (.ic 13 7 14 [0,3,5,6,7]))
def Zzn:MCode:=.r [.m 52 5,.m 4 52] [4] .ret
def Zsf:MCode:=.wc [.m 46 6,.nt 47 46] [3,5,47] 47 (.reg [.m 48 5,.ln 49 2 3,.o 50 (.bslice 40 2 1 [.z,.z] [(0,.s 49)]),.o 51 (.ap 40 2 16 48 50),.m 5 51] [5]) Zzn
def Zzo:MFun:=⟨2,53,[.tmp 4],.r [.bx 3 1,.mn 4] [0,3] (.r [.o 8 (.bslice 40 2 0 [.z,.z] []),.m 5 8] [0,3,5] (.r [.mq 6 false] [0,3,5,6] (.seq (.r [.mk' 7 0] [0,3,5,6,7] (.block 0 (.loop [0,3,5,6,7] Zse))) Zsf)))⟩
def Zjp(a:List Kept)(a1:Kept):Rs:=C 49 [L 2 (a.map Kept.c),.agg (a1.c.map .t)] []
def Zdw(x:Kept)(cc l:List Kept)(cd:Bool)(i:Int):Rs:=EvL C [.blk 0,.seq Zsf,.fin 0 [.tmp 4]] [0,3,5,6,7] Zse ⟨[(0,L 2 (l.map Kept.c)),(3,.ptr 0 0),(5,.own 1),(6,Bo cd),(7,I i)],[[]],[.box (x.c.map .t),.arr 40 2 true (cc.map Kept.c)]⟩
def Zzp:MCode:=.regF [.m 30 7,.m 31 9,.m 32 10,.o 33 (.build [.t .z,.t .z] [(0,1,.s 31),(1,1,.s 32)]),.cl 34 49 [30,33],.m 7 34] [0,4,5,7,8]
def Zsg:MCode:=.seq (.seq (.regF [.m 14 8,.bk 15 .gtr 14 0] [0,4,5,7,8,15]) (.cond (.s 15) .skip (.exit 0))) (.seq (.block 1 (.seq (.regF [.m 18 0,.ln 19 2 5,.o 20 (.icall 47 [.s 18,.s 19]),.m 9 20] [0,4,5,7,8,9]) (.seq (.regF [.ln 21 1 4,.ln 22 2 5,.m 23 9,.cl 24 48 [21,22,23],.m 10 24] [0,4,5,7,8,9,10]) (.seq (.seq (.regF [.m 25 0,.o 26 (.icall 35 [.s 25,.k 8])] [0,4,5,7,8,9,10,26]) (.cond (.s 26) (.regF [.m 27 0,.o 28 (.bslice 3 1 4 [.z] [(0,.k (-1)),(1,.k 0),(2,.k 3),(3,.k 4097)]),.o 29 (.icall 19 [.s 27,.s 28]),.m 10 29] [0,4,5,7,8,9,10]) .skip)) Zzp)))) (.regF [.m 16 8,.bk 17 .sub 16 1,.m 8 17] [0,4,5,7,8]))
def Zsh:MCode:=.seq (.regF [.m 35 7,.m 6 35] [6]) .ret
def Zzq:MFun:=⟨3,36,[.tmpO 6 [some (2,0)]],.seq (.regF [.bx 4 1,.bx 5 2,.mn 6] [0,4,5]) (.seq (.regF [.o 11 (.bslice 40 2 0 [.z,.z] []),.m 7 11] [0,4,5,7]) (.seq (.seq (.regF [.m 12 0,.o 13 (.icall 18 [.s 12,.k 4]),.m 8 13] [0,4,5,7,8]) (.block 0 (.loop [0,4,5,7,8] Zsg))) Zsh))⟩
def Zmh(x:Za)(a:Zn)(a1:Zb):Rs:=C 33 [.ptr 0 0,.agg (a.c.map .t),.agg (a1.c.map .t)] [.box (x.c.map .t)]
def Zg8(c:Za)(d:Zn)(q:Zb)(l:List Kept)(k:Int):Rs:=EvL C [.blk 0,.seq Zsh,.fin 1 [.tmpO 6 [some (2,0)]]] [0,4,5,7,8] Zsg ⟨[(0,.ptr 0 0),(4,.ptr 1 0),(5,.ptr 2 0),(7,.own 3),(8,I k)],[[(0,.ptr 0 0)]],[.box (c.c.map .t),.box (d.c.map .t),.box (q.c.map .t),.arr 40 2 true (l.map Kept.c)]⟩
def Zzr:MFun:=⟨1,28,[.tmpO 2 [some (2,0)],.cellO 3 (some 2) [none,none]],.seq (.regF [.mn 2,.o 3 (.al [.z,.z])] [0,3]) (.seq (.regF [.m 11 0,.cl 12 32 [11],.m 10 12,.o 13 (.ext (.s 10) 0),.o 14 (.ext (.s 10) 1),.o 15 (.ext (.s 10) 2),.o 16 (.ext (.s 10) 3),.o 17 (.ext (.s 10) 4),.o 5 (.al [.z,.z,.z,.z,.z,.nil,.z,.z,.z,.z,.z,.nil,.z,.z,.z,.z,.z,.nil,.z,.z,.z,.z,.z,.nil,.z,.z,.z,.z,.z,.nil]),.o 6 (.al [.nil]),.o 7 (.al [.z,.nil]),.o 8 (.al [.nil]),.m 4 13,.st 30 5 14,.st 1 6 15,.st 2 7 16,.st 1 8 17] [3,4,6,7]) (.seq (.regF [.m 18 4,.ln 19 1 6,.ln 20 2 7,.o 21 (.icall 33 [.s 18,.s 19,.s 20]),.m 9 21] [3,4,9]) (.seq (.regF [.m 22 9,.m 23 4,.o 24 (.icall 18 [.s 23,.k 9]),.m 25 4,.o 26 (.icall 18 [.s 25,.k 20]),.o 27 (.build [.t .z,.t .z] [(0,1,.s 24),(1,1,.s 26)]),.m 2 22,.st 2 3 27] [2,3]) .ret)))⟩
def Zjq(a:List Int):Rs:=C 14 [L 1 (a.map (kc .u8))] []
def Zzs:MCode:=.r [.fa 29 0 8,.l 30 29,.fa 31 0 3,.l 32 31,.b 33 .neq 30 32] [3,5,6,8,10,11,12,33] (.cond (.s 33) (.reg [.m 34 5,.ln 35 2 8,.o 36 (.bslice 40 2 1 [.z,.z] [(0,.s 35)]),.o 37 (.ap 40 2 16 34 36),.m 5 37] [3,5,6,10,11,12]) .skip)
def Zsi:MCode:=.r [.b 13 .lss 12 11] [3,5,6,10,11,12,13] (.seq (.cond (.s 13) .skip (.exit 0)) (.seq (.block 1 (.r [.ia 14 2 10 12,.ln 15 2 14,.o 8 (.al [.z,.z]),.st 2 8 15] [3,5,6,8,10,11,12] (.wc [.m 16 6,.nt 17 16,.m 18 17,.g 19 18 (.fa 0 8),.g 20 18 (.l 19),.g 21 18 (.fa 0 3),.g 22 18 (.l 21),.g 23 18 (.b .geq 20 22),.an 24 18 23] [3,5,6,8,10,11,12,24] 24 (.r [.m 25 5,.ln 26 2 3,.o 27 (.bslice 40 2 1 [.z,.z] [(0,.s 26)]),.o 28 (.ap 40 2 16 25 27),.m 5 28] [3,5,8,10,11,12] (.reg [.mq 6 true] [3,5,6,8,10,11,12])) Zzs))) (.id 38 12 [3,5,6,10,11,12])))
def Zzt:MCode:=.r [.m 45 5,.m 4 45] [4] .ret
def Zsj:MCode:=.wc [.m 39 6,.nt 40 39] [3,5,40] 40 (.reg [.m 41 5,.ln 42 2 3,.o 43 (.bslice 40 2 1 [.z,.z] [(0,.s 42)]),.o 44 (.ap 40 2 16 41 43),.m 5 44] [5]) Zzt
def Zzu:MFun:=⟨2,46,[.tmp 4],.r [.bx 3 1,.mn 4] [0,3] (.r [.o 9 (.bslice 40 2 0 [.z,.z] []),.m 5 9] [0,3,5] (.r [.mq 6 false] [0,3,5,6] (.seq (.r [.m 10 0,.ll 11 10,.mk' 12 0] [3,5,6,10,11,12] (.block 0 (.loop [3,5,6,10,11,12] Zsi))) Zsj)))⟩
def Zjr(a:List Kept)(a1:Kept):Rs:=C 15 [L 2 (a.map Kept.c),.agg (a1.c.map .t)] []
def Zdx(x:Kept)(cc:List Kept)(done:Bool)(x1:List Kept)(x2 x3:Int):Rs:=EvL C [.blk 0,.seq Zsj,.fin 0 [.tmp 4]] [3,5,6,10,11,12] Zsi ⟨[(3,.ptr 0 0),(5,.own 1),(6,Bo done),(10,L 2 (x1.map Kept.c)),(11,I x2),(12,I x3)],[[]],[.box (x.c.map .t),.arr 40 2 true (cc.map Kept.c)]⟩
def Zsk:MCode:=.seq (.seq (.regF [.m 72 13,.m 73 11,.ll 74 73,.b 75 .lss 72 74] [10,11,12,13,75]) (.cond (.s 75) .skip (.exit 0))) (.seq (.block 1 (.seq (.seq (.drwF [.m 78 13,.bk 79 .gtr 78 0,.m 80 79,.g 81 80 (.m 11),.g 82 80 (.m 13),.g 83 80 (.bk .sub 82 1),.g 84 80 (.ia 2 81 83),.g 85 80 (.fa 0 84),.g 86 80 (.l 85),.g 87 80 (.m 11),.g 88 80 (.m 13),.g 89 80 (.ia 2 87 88),.g 90 80 (.fa 0 89),.g 91 80 (.l 90),.g 92 80 (.b .geq 86 91),.an 93 80 92] [[],[0],[1],[2],[2],[4,2],[3,5,2],[6,2],[7,2],[2],[2],[9,10,2],[11,2],[12,2],[8,13,2],[2,14]] [10,11,12,13,93]) (.cond (.s 93) (.seq (.regF [.mq 2 false] [2]) .ret) .skip)) (.drwF [.m 94 12,.m 95 94,.h 96 95 (.m 11),.h 97 95 (.m 13),.h 98 95 (.ia 2 96 97),.h 99 95 (.ln 2 98),.h 100 95 (.ln 2 10),.h 101 95 (.aeq false [1,1] (.s 99) (.s 100)),.or 102 95 101,.m 12 102] [[],[0],[1],[1],[2,3,1],[4,1],[1],[5,6,1],[1,7],[8,1,0,1,2,3,4,5,6,7,8]] [10,11,12,13]))) (.regF [.m 76 13,.bk 77 .add 76 1,.m 13 77] [10,11,12,13]))
def Zsl:MCode:=.seq (.regF [.m 103 12,.m 2 103] [2]) .ret
def Zzv:MCode:=.seq (.regF [.m 65 0,.cl 66 14 [65],.m 64 66,.o 67 (.ext (.s 64) 0),.o 68 (.ext (.s 64) 1),.o 10 (.al [.z,.z]),.m 9 67,.st 2 10 68] [9,10]) (.seq (.regF [.m 69 9,.ln 70 2 10,.cl 71 15 [69,70],.m 11 71] [10,11]) (.seq (.regF [.mq 12 false] [10,11,12]) (.seq (.seq (.regF [.mk' 13 0] [10,11,12,13]) (.block 0 (.loop [10,11,12,13] Zsk))) Zsl)))
def Zzw:MFun:=⟨1,104,[.tmp 2],.seq (.regF [.mq 2 false] [0]) (.seq (.seq (.regF [.m 14 0,.cl 15 4 [14]] [0,15]) (.cond (.s 15) (.seq (.regF [.mq 2 true] [2]) .ret) .skip)) (.seq (.regF [.m 17 0,.cl 18 5 [17],.m 16 18,.o 19 (.ext (.s 16) 0),.o 20 (.ext (.s 16) 1),.o 21 (.ext (.s 16) 2),.o 3 (.al [.z,.z,.z,.z,.z,.nil,.z,.z,.z,.z,.z,.nil,.z,.z,.z,.z,.z,.nil,.z,.z,.z,.z,.z,.nil,.z,.z,.z,.z,.z,.nil]),.st 30 3 19,.m 4 20,.m 5 21] [0,3,4,5]) (.seq (.regF [.ln 22 30 3,.m 23 4,.m 24 5,.cl 25 6 [22,23,24],.m 6 25] [0,3,4,5,6]) (.seq (.seq (.drwF [.m 26 6,.ln 27 30 3,.m 28 4,.m 29 5,.cl 30 7 [27,28,29],.o 31 (.beq true (.s 26) (.s 30)),.m 32 31,.h 33 32 (.ln 30 3),.h 34 32 (.m 5),.h 35 32 (.cl 8 [33,34]),.h 36 32 (.ln 30 3),.h 37 32 (.m 5),.h 38 32 (.cl 9 [36,37]),.h 39 32 (.b .neq 35 38),.or 40 32 39] [[],[],[],[],[1,2,3],[0,4],[5,4],[6],[6],[7,8,6,6],[6],[6],[10,11,9,6],[9,12,6],[6,13]] [0,3,4,5,6,40]) (.cond (.s 40) (.seq (.regF [.mq 2 false] [2]) .ret) .skip)) (.seq (.seq (.regF [.m 41 6] [0,3,4,5,41]) (.cond (.s 41) (.seq (.regF [.ln 43 30 3,.m 44 4,.cl 45 10 [43,44],.m 42 45,.o 46 (.ext (.s 42) 0),.o 47 (.ext (.s 42) 1),.o 7 (.al [.z,.z,.z,.z,.z,.nil]),.st 6 7 46,.m 8 47] [0,3,5,7]) (.seq (.drwF [.ln 48 30 3,.m 49 5,.cl 50 8 [48,49],.ln 51 6 7,.m 52 0,.o 53 (.call 13 [.s 52,.k 0]),.bk 54 .rem 53 9,.cl 55 12 [54],.m 56 0,.o 57 (.call 13 [.s 56,.k 1]),.bk 58 .rem 57 9,.cl 59 12 [58],.m 60 5,.cl 61 12 [60],.cl 62 11 [51,55,59,61],.b 63 .gtr 50 62] [[],[],[0,1],[],[],[4,2],[5],[6,5],[],[8,7],[9],[10,9],[],[12,11],[3,7,11,13,13],[2,14]] [0,63]) (.cond (.s 63) (.seq (.regF [.mq 2 false] [2]) .ret) .skip))) .skip)) Zzv)))))⟩
def Zzx(a:List Int):Rs:=C 3 [L 1 (a.map (kc .u8))] []
def Zei(x:Kept)(y:List Kept)(cc:Bool)(i:Int):Rs:=EvL C [.blk 0,.seq Zsl,.fin 0 [.tmp 2]] [10,11,12,13] Zsk ⟨[(10,.ptr 0 0),(11,.own 1),(12,Bo cc),(13,I i)],[[]],[.box (x.c.map .t),.arr 40 2 true (y.map Kept.c)]⟩
theorem Z52:tbl 4=some Zwk:=Zi Try.func4 (by kernel_rfl) (by kernel_rfl)
theorem Z53:tbl 16=some Zwl:=Zi Try.func16 (by kernel_rfl) (by kernel_rfl)
theorem Z54:tbl 37=some Zwn:=Zi Try.func37 (by kernel_rfl) (by kernel_rfl)
theorem Z55:tbl 18=some Zwo:=Zi Try.func18 (by kernel_rfl) (by kernel_rfl)
theorem Z56:tbl 35=some Zwp:=Zi Try.func35 (by kernel_rfl) (by kernel_rfl)
theorem Z57:tbl 50=some Zwq:=Zi Try.func50 (by kernel_rfl) (by kernel_rfl)
theorem Zzy:tbl 19=some Zqb:=Zi Try.func19 (by kernel_rfl) (by kernel_rfl)
theorem Z58:tbl 51=some Zwt:=Zi Try.func51 (by kernel_rfl) (by kernel_rfl)
theorem Z59:tbl 34=some Zwu:=Zi Try.func34 (by kernel_rfl) (by kernel_rfl)
theorem Z6a:tbl 36=some Zww:=Zi Try.func36 (by kernel_rfl) (by kernel_rfl)
theorem Z6b:tbl 17=some Zwz:=Zi Try.func17 (by kernel_rfl) (by kernel_rfl)
theorem Z6c:tbl 5=some Zw0:=Zi Try.func5 (by kernel_rfl) (by kernel_rfl)
theorem Z6d:tbl 20=some Zw1:=Zi Try.func20 (by kernel_rfl) (by kernel_rfl)
theorem Z6e:tbl 23=some Zw2:=Zi Try.func23 (by kernel_rfl) (by kernel_rfl)
theorem Z6f:tbl 55=some Zw3:=Zi Try.func55 (by kernel_rfl) (by kernel_rfl)
theorem Z6g:tbl 39=some Zw4:=Zi Try.func39 (by kernel_rfl) (by kernel_rfl)
theorem Z6h:tbl 53=some Zw5:=Zi Try.func53 (by kernel_rfl) (by kernel_rfl)
theorem Z6i:tbl 64=some Zw6:=Zi Try.func64 (by kernel_rfl) (by kernel_rfl)
theorem Z6j:tbl 41=some Zw7:=Zi Try.func41 (by kernel_rfl) (by kernel_rfl)
theorem Z6k:tbl 40=some Zw9:=Zi Try.func40 (by kernel_rfl) (by kernel_rfl)
theorem Z6l:tbl 54=some Zxa:=Zi Try.func54 (by kernel_rfl) (by kernel_rfl)
theorem Z6m:tbl 52=some Zxc:=Zi Try.func52 (by kernel_rfl) (by kernel_rfl)
theorem Z6n:tbl 38=some Zxd:=Zi Try.func38 (by kernel_rfl) (by kernel_rfl)
theorem Z6o:tbl 21=some Zxe:=Zi Try.func21 (by kernel_rfl) (by kernel_rfl)
theorem Z6p:tbl 42=some Zxf:=Zi Try.func42 (by kernel_rfl) (by kernel_rfl)
theorem Z6q:tbl 24=some Zxg:=Zi Try.func24 (by kernel_rfl) (by kernel_rfl)
theorem Z6r:tbl 22=some Zxh:=Zi Try.func22 (by kernel_rfl) (by kernel_rfl)
theorem Z6s:tbl 8=some Zxi:=Zi Try.func8 (by kernel_rfl) (by kernel_rfl)
theorem Z6t:tbl 6=some Zff:=Zi Try.func6 (by kernel_rfl) (by kernel_rfl)
theorem Z6u:tbl 27=some Zxj:=Zi Try.func27 (by kernel_rfl) (by kernel_rfl)
theorem Zzz:tbl 26=some Zqn:=Zi Try.func26 (by kernel_rfl) (by kernel_rfl)
theorem Z6v:tbl 44=some Zxk:=Zi Try.func44 (by kernel_rfl) (by kernel_rfl)
theorem Z6w:tbl 29=some Zxl:=Zi Try.func29 (by kernel_rfl) (by kernel_rfl)
theorem Z6x:tbl 30=some Zxm:=Zi Try.func30 (by kernel_rfl) (by kernel_rfl)
theorem Z6y:tbl 11=some Zxo:=Zi Try.func11 (by kernel_rfl) (by kernel_rfl)
theorem Z6z:tbl 65=some Zxp:=Zi Try.func65 (by kernel_rfl) (by kernel_rfl)
theorem Z60:tbl 56=some Zxq:=Zi Try.func56 (by kernel_rfl) (by kernel_rfl)
theorem Z61:tbl 57=some Zxr:=Zi Try.func57 (by kernel_rfl) (by kernel_rfl)
theorem Z62:tbl 43=some Zxs:=Zi Try.func43 (by kernel_rfl) (by kernel_rfl)
theorem Z63:tbl 25=some Zxt:=Zi Try.func25 (by kernel_rfl) (by kernel_rfl)
theorem Z64:tbl 31=some Zxu:=Zi Try.func31 (by kernel_rfl) (by kernel_rfl)
theorem Z65:tbl 12=some Zxv:=Zi Try.func12 (by kernel_rfl) (by kernel_rfl)
theorem Z66:tbl 9=some Zxw:=Zi Try.func9 (by kernel_rfl) (by kernel_rfl)
theorem Z67:tbl 7=some Zxx:=Zi Try.func7 (by kernel_rfl) (by kernel_rfl)
theorem Z68:tbl 28=some Zxy:=Zi Try.func28 (by kernel_rfl) (by kernel_rfl)
theorem Z69:tbl 10=some Zxz:=Zi Try.func10 (by kernel_rfl) (by kernel_rfl)
theorem Z7a:tbl 13=some Zx0:=Zi Try.func13 (by kernel_rfl) (by kernel_rfl)
theorem Zz0:tbl 66=some Zq3:=Zi Try.func66 (by kernel_rfl) (by kernel_rfl)
theorem Z7b:tbl 81=some Zx3:=Zi Try.func81 (by kernel_rfl) (by kernel_rfl)
theorem Z7c:tbl 58=some Zx4:=Zi Try.func58 (by kernel_rfl) (by kernel_rfl)
theorem Z7d:tbl 45=some Zx5:=Zi Try.func45 (by kernel_rfl) (by kernel_rfl)
theorem Z7e:tbl 68=some Zx6:=Zi Try.func68 (by kernel_rfl) (by kernel_rfl)
theorem Z7f:tbl 82=some Zx7:=Zi Try.func82 (by kernel_rfl) (by kernel_rfl)
theorem Zsm:tbl 69=some Zog:=Zi Try.func69 (by kernel_rfl) (by kernel_rfl)
theorem Z7g:tbl 84=some Zx9:=Zi Try.func84 (by kernel_rfl) (by kernel_rfl)
theorem Z7h:tbl 83=some Zya:=Zi Try.func83 (by kernel_rfl) (by kernel_rfl)
theorem Zz1:tbl 85=some Zra:=Zi Try.func85 (by kernel_rfl) (by kernel_rfl)
theorem Zz2:tbl 86=some Zrd:=Zi Try.func86 (by kernel_rfl) (by kernel_rfl)
theorem Z7i:tbl 96=some Zyb:=Zi Try.func96 (by kernel_rfl) (by kernel_rfl)
theorem Z7j:tbl 67=some Zyc:=Zi Try.func67 (by kernel_rfl) (by kernel_rfl)
theorem Z7k:tbl 59=some Zyd:=Zi Try.func59 (by kernel_rfl) (by kernel_rfl)
theorem Z7l:tbl 61=some Zye:=Zi Try.func61 (by kernel_rfl) (by kernel_rfl)
theorem Z7m:tbl 92=some Zyf:=Zi Try.func92 (by kernel_rfl) (by kernel_rfl)
theorem Z7n:tbl 94=some Zyg:=Zi Try.func94 (by kernel_rfl) (by kernel_rfl)
theorem Z7o:tbl 97=some Zyi:=Zi Try.func97 (by kernel_rfl) (by kernel_rfl)
theorem Z7p:tbl 88=some Zyj:=Zi Try.func88 (by kernel_rfl) (by kernel_rfl)
theorem Z7q:tbl 87=some Zyk:=Zi Try.func87 (by kernel_rfl) (by kernel_rfl)
theorem Z7r:tbl 70=some Zym:=Zi Try.func70 (by kernel_rfl) (by kernel_rfl)
theorem Z7s:tbl 71=some Zyo:=Zi Try.func71 (by kernel_rfl) (by kernel_rfl)
theorem Z7t:tbl 72=some Zyp:=Zi Try.func72 (by kernel_rfl) (by kernel_rfl)
theorem Z7u:tbl 73=some Zyq:=Zi Try.func73 (by kernel_rfl) (by kernel_rfl)
theorem Z7v:tbl 93=some Zys:=Zi Try.func93 (by kernel_rfl) (by kernel_rfl)
theorem Z7w:tbl 79=some Zyt:=Zi Try.func79 (by kernel_rfl) (by kernel_rfl)
theorem Z7x:tbl 74=some Zyv:=Zi Try.func74 (by kernel_rfl) (by kernel_rfl)
theorem Z7y:tbl 100=some Zyw:=Zi Try.func100 (by kernel_rfl) (by kernel_rfl)
theorem Z7z:tbl 98=some Zyx:=Zi Try.func98 (by kernel_rfl) (by kernel_rfl)
theorem Z70:tbl 89=some Zyy:=Zi Try.func89 (by kernel_rfl) (by kernel_rfl)
theorem Z71:tbl 75=some Zyz:=Zi Try.func75 (by kernel_rfl) (by kernel_rfl)
theorem Z72:tbl 76=some Zy0:=Zi Try.func76 (by kernel_rfl) (by kernel_rfl)
theorem Z73:tbl 60=some Zy3:=Zi Try.func60 (by kernel_rfl) (by kernel_rfl)
theorem Z74:tbl 62=some Zy5:=Zi Try.func62 (by kernel_rfl) (by kernel_rfl)
theorem Z75:tbl 46=some Zy7:=Zi Try.func46 (by kernel_rfl) (by kernel_rfl)
theorem Z76:tbl 32=some Zy9:=Zi Try.func32 (by kernel_rfl) (by kernel_rfl)
theorem Z77:tbl 47=some Zza:=Zi Try.func47 (by kernel_rfl) (by kernel_rfl)
theorem Z78:tbl 101=some Zzb:=Zi Try.func101 (by kernel_rfl) (by kernel_rfl)
theorem Z79:tbl 99=some Zzc:=Zi Try.func99 (by kernel_rfl) (by kernel_rfl)
theorem Z8a:tbl 90=some Zzd:=Zi Try.func90 (by kernel_rfl) (by kernel_rfl)
theorem Z8b:tbl 91=some Zze:=Zi Try.func91 (by kernel_rfl) (by kernel_rfl)
theorem Z8c:tbl 78=some Zzf:=Zi Try.func78 (by kernel_rfl) (by kernel_rfl)
theorem Z8d:tbl 77=some Zzg:=Zi Try.func77 (by kernel_rfl) (by kernel_rfl)
theorem Z8e:tbl 95=some Zzh:=Zi Try.func95 (by kernel_rfl) (by kernel_rfl)
theorem Z8f:tbl 80=some Zzi:=Zi Try.func80 (by kernel_rfl) (by kernel_rfl)
theorem Z8g:tbl 63=some Zzk:=Zi Try.func63 (by kernel_rfl) (by kernel_rfl)
theorem Z8h:tbl 48=some Zzl:=Zi Try.func48 (by kernel_rfl) (by kernel_rfl)
theorem Z8i:tbl 49=some Zzo:=Zi Try.func49 (by kernel_rfl) (by kernel_rfl)
theorem Z8j:tbl 33=some Zzq:=Zi Try.func33 (by kernel_rfl) (by kernel_rfl)
theorem Z8k:tbl 14=some Zzr:=Zi Try.func14 (by kernel_rfl) (by kernel_rfl)
theorem Z8l:tbl 15=some Zzu:=Zi Try.func15 (by kernel_rfl) (by kernel_rfl)
theorem Z8m:tbl 3=some Zzw:=Zi Try.func3 (by kernel_rfl) (by kernel_rfl)
end
end Go.Proofs.Ytdbnflilbkjbhaa
