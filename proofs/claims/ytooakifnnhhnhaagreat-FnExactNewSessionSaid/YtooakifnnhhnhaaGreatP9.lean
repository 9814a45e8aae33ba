/-
  Parts of the proofs for this seat: D2 T1 T2 T3 G1 G2 G3 G4 G5 G6 G7 G8.
-/
import Derived.Test.YtooakifnnhhnhaaGreatP8
set_option linter.unusedSimpArgs false
set_option linter.unusedVariables false
set_option maxRecDepth 100000
set_option maxHeartbeats 4000000
namespace Go.Proofs.YtooakifnnhhnhaaGreat
open Go.AM
noncomputable section
def Zkh:MCode:=.we [.m 39 13,.fa 40 2 6,.l 41 40,.ll 42 41,.b 43 .lss 39 42] [3,5,6,8,10,11,12,13,43] 43 2 (.seq (.block 3 (.drw [.m 46 11,.m 47 46,.h 48 47 (.fa 2 6),.h 49 47 (.l 48),.h 50 47 (.m 13),.h 51 47 (.ia 1 49 50),.h 52 47 (.l 51),.h 53 47 (.fa 1 3),.h 54 47 (.l 53),.h 55 47 (.ia 1 52 54),.h 56 47 (.l 55),.h 57 47 (.m 10),.h 58 47 (.b .eql 56 57),.or 59 47 58,.m 11 59] [[],[0],[1],[2,1],[1],[3,4,1],[5,1],[1],[7,1],[6,8,1],[9,1],[1],[10,11,1],[1,12],[13,1,0,1,2,3,4,5,6,7,8,9,10,11,12,13]] [3,5,6,8,10,11,12,13])) (.ic 44 13 45 [3,5,6,8,10,11,12,13]))
def Zki:MCode:=.we [.m 60 14,.fa 61 2 8,.l 62 61,.ll 63 62,.b 64 .lss 60 63] [3,5,6,8,10,11,12,14,64] 64 4 (.seq (.block 5 (.drw [.m 67 12,.m 68 67,.h 69 68 (.fa 2 8),.h 70 68 (.l 69),.h 71 68 (.m 14),.h 72 68 (.ia 1 70 71),.h 73 68 (.l 72),.h 74 68 (.fa 3 3),.h 75 68 (.l 74),.h 76 68 (.ia 1 73 75),.h 77 68 (.l 76),.h 78 68 (.m 10),.h 79 68 (.b .eql 77 78),.or 80 68 79,.m 12 80] [[],[0],[1],[2,1],[1],[3,4,1],[5,1],[1],[7,1],[6,8,1],[9,1],[1],[10,11,1],[1,12],[13,1,0,1,2,3,4,5,6,7,8,9,10,11,12,13]] [3,5,6,8,10,11,12,14])) (.ic 65 14 66 [3,5,6,8,10,11,12,14]))
def Zkj:MCode:=.r [.m 81 11,.m 82 81,.g 83 82 (.m 12),.g 84 82 (.nt 83),.an 85 82 84] [3,5,6,8,10,85] (.cond (.s 85) (.reg [.m 86 5,.m 87 10,.o 88 (.b1 3 87),.o 89 (.ap 3 1 8 86 88),.m 5 89] [3,5,6,8,10]) .skip)
def Zkk:MCode:=.seq (.r [.mk' 14 0] [3,5,6,8,10,11,12,14] (.block 4 (.loop [3,5,6,8,10,11,12,14] Zki))) Zkj
def Zff:MCode:=.ic 37 10 38 [3,5,6,8,10]
def Zda:MCode:=.we [.m 35 10,.bk 36 .leq 35 9] [3,5,6,8,10,36] 36 0 (.seq (.block 1 (.r [.mq 11 false] [3,5,6,8,10,11] (.r [.mq 12 false] [3,5,6,8,10,11,12] (.seq (.r [.mk' 13 0] [3,5,6,8,10,11,12,13] (.block 2 (.loop [3,5,6,8,10,11,12,13] Zkh))) Zkk)))) Zff)
def Zdb:MCode:=.r [.m 90 5,.m 4 90] [4] .ret
def Z6s:MFun:=⟨2,91,[.tmp 4],.r [.bx 2 0,.bx 3 1,.mn 4] [2,3] (.r [.o 15 (.bslice 3 1 0 [.z] []),.m 5 15] [2,3,5] (.wc [.ln 16 1 2,.ln 17 4 3,.cl 18 181 [16,17],.nt 19 18] [2,3,5,19] 19 (.r [.m 20 5,.m 4 20] [4] .ret) (.r [.ln 22 1 2,.fa 23 0 3,.l 24 23,.cl 25 224 [22,24],.m 21 25,.o 26 (.ext (.s 21) 0),.o 27 (.ext (.s 21) 1),.o 6 (.al [.str ⟨#[]⟩,.z,.nil]),.st 3 6 26,.m 7 27] [2,3,5,6] (.r [.ln 29 1 2,.fa 30 2 3,.l 31 30,.cl 32 224 [29,31],.m 28 32,.o 33 (.ext (.s 28) 0),.o 34 (.ext (.s 28) 1),.o 8 (.al [.str ⟨#[]⟩,.z,.nil]),.st 3 8 33,.m 9 34] [3,5,6,8] (.seq (.r [.mk' 10 0] [3,5,6,8,10] (.block 0 (.loop [3,5,6,8,10] Zda))) Zdb)))))⟩
def Zx0(a:Zh)(a1:Zf):Rs:=C 182 [.agg (a.c.map .t),.agg (a1.c.map .t)] []
def Zdp(x:Zf)(co:List Int)(cn:ByteArray)(cd:Int)(cl:ByteArray)(cc v:Int):Rs:=EvL C [.blk 0,.seq Zdb,.fin 0 [.tmp 4]] [3,5,6,8,10] Zda ⟨[(3,.ptr 0 0),(5,.own 1),(6,.ptr 2 0),(8,.ptr 3 0),(10,I v)],[[]],[.box (x.c.map .t),.arr 3 1 true (co.map ic),.box [.t (.str cn),I cd,.t .nil],.box [.t (.str cl),I cc,.t .nil]]⟩
def Zdq(x:Zf)(co:List Int)(cn:ByteArray)(cd:Int)(cl:ByteArray)(cc:Int)(x1:List (List Int))(v:Int):Rs:=EvL C [.blk 0,.seq Zdb,.fin 0 [.tmp 4]] [3,5,6,8,10] Zda ⟨[(3,.ptr 0 0),(5,.own 1),(6,.ptr 2 0),(8,.ptr 3 0),(10,I v)],[[]],[.box (x.c.map .t),.arr 3 1 true (co.map ic),.box [.t (.str cn),I cd,.t .nil],.box [.t (.str cl),I cc,.own 4],.arr 99 1 true (x1.map isc)]⟩
def Zdr(x:Zf)(co:List Int)(cn:ByteArray)(cd:Int)(x1:List (List Int))(cl:ByteArray)(cc v:Int):Rs:=EvL C [.blk 0,.seq Zdb,.fin 0 [.tmp 4]] [3,5,6,8,10] Zda ⟨[(3,.ptr 0 0),(5,.own 1),(6,.ptr 2 0),(8,.ptr 4 0),(10,I v)],[[]],[.box (x.c.map .t),.arr 3 1 true (co.map ic),.box [.t (.str cn),I cd,.own 3],.arr 99 1 true (x1.map isc),.box [.t (.str cl),I cc,.t .nil]]⟩
def Zds(x:Zf)(co:List Int)(cn:ByteArray)(cd:Int)(x1:List (List Int))(cl:ByteArray)(cc:Int)(x2:List (List Int))(v:Int):Rs:=EvL C [.blk 0,.seq Zdb,.fin 0 [.tmp 4]] [3,5,6,8,10] Zda ⟨[(3,.ptr 0 0),(5,.own 1),(6,.ptr 2 0),(8,.ptr 4 0),(10,I v)],[[]],[.box (x.c.map .t),.arr 3 1 true (co.map ic),.box [.t (.str cn),I cd,.own 3],.arr 99 1 true (x1.map isc),.box [.t (.str cl),I cc,.own 5],.arr 99 1 true (x2.map isc)]⟩
def Zn0(x:Zf)(cp:List Int)(cn:ByteArray)(cd:Int)(cl:ByteArray)(cc v:Int)(co cu:Bool)(i:Int):Rs:=EvL C [.blk 2,.seq Zkk,.blk 1,.seq Zff,.loop [3,5,6,8,10] Zda,.blk 0,.seq Zdb,.fin 0 [.tmp 4]] [3,5,6,8,10,11,12,13] Zkh ⟨[(3,.ptr 0 0),(5,.own 1),(6,.ptr 2 0),(8,.ptr 3 0),(10,I v),(11,Bo co),(12,Bo cu),(13,I i)],[[]],[.box (x.c.map .t),.arr 3 1 true (cp.map ic),.box [.t (.str cn),I cd,.t .nil],.box [.t (.str cl),I cc,.t .nil]]⟩
def Zn1(x:Zf)(cp:List Int)(cn:ByteArray)(cd:Int)(cl:ByteArray)(cc:Int)(x1:List (List Int))(v:Int)(co cu:Bool)(i:Int):Rs:=EvL C [.blk 2,.seq Zkk,.blk 1,.seq Zff,.loop [3,5,6,8,10] Zda,.blk 0,.seq Zdb,.fin 0 [.tmp 4]] [3,5,6,8,10,11,12,13] Zkh ⟨[(3,.ptr 0 0),(5,.own 1),(6,.ptr 2 0),(8,.ptr 3 0),(10,I v),(11,Bo co),(12,Bo cu),(13,I i)],[[]],[.box (x.c.map .t),.arr 3 1 true (cp.map ic),.box [.t (.str cn),I cd,.t .nil],.box [.t (.str cl),I cc,.own 4],.arr 99 1 true (x1.map isc)]⟩
def Zkl(x:Zf)(cp:List Int)(cn:ByteArray)(cd:Int)(x1:List (List Int))(cl:ByteArray)(cc v:Int)(co cu:Bool)(i:Int):Rs:=EvL C [.blk 2,.seq Zkk,.blk 1,.seq Zff,.loop [3,5,6,8,10] Zda,.blk 0,.seq Zdb,.fin 0 [.tmp 4]] [3,5,6,8,10,11,12,13] Zkh ⟨[(3,.ptr 0 0),(5,.own 1),(6,.ptr 2 0),(8,.ptr 4 0),(10,I v),(11,Bo co),(12,Bo cu),(13,I i)],[[]],[.box (x.c.map .t),.arr 3 1 true (cp.map ic),.box [.t (.str cn),I cd,.own 3],.arr 99 1 true (x1.map isc),.box [.t (.str cl),I cc,.t .nil]]⟩
def Zkm(x:Zf)(cp:List Int)(cn:ByteArray)(cd:Int)(x1:List (List Int))(cl:ByteArray)(cc:Int)(x2:List (List Int))(v:Int)(co cu:Bool)(i:Int):Rs:=EvL C [.blk 2,.seq Zkk,.blk 1,.seq Zff,.loop [3,5,6,8,10] Zda,.blk 0,.seq Zdb,.fin 0 [.tmp 4]] [3,5,6,8,10,11,12,13] Zkh ⟨[(3,.ptr 0 0),(5,.own 1),(6,.ptr 2 0),(8,.ptr 4 0),(10,I v),(11,Bo co),(12,Bo cu),(13,I i)],[[]],[.box (x.c.map .t),.arr 3 1 true (cp.map ic),.box [.t (.str cn),I cd,.own 3],.arr 99 1 true (x1.map isc),.box [.t (.str cl),I cc,.own 5],.arr 99 1 true (x2.map isc)]⟩
def Zkn(x:Zf)(cp:List Int)(cn:ByteArray)(cd:Int)(cl:ByteArray)(cc v:Int)(co cu:Bool)(i:Int):Rs:=EvL C [.blk 4,.seq Zkj,.blk 1,.seq Zff,.loop [3,5,6,8,10] Zda,.blk 0,.seq Zdb,.fin 0 [.tmp 4]] [3,5,6,8,10,11,12,14] Zki ⟨[(3,.ptr 0 0),(5,.own 1),(6,.ptr 2 0),(8,.ptr 3 0),(10,I v),(11,Bo co),(12,Bo cu),(14,I i)],[[]],[.box (x.c.map .t),.arr 3 1 true (cp.map ic),.box [.t (.str cn),I cd,.t .nil],.box [.t (.str cl),I cc,.t .nil]]⟩
def Zie(x:Zf)(cp:List Int)(cn:ByteArray)(cd:Int)(cl:ByteArray)(cc:Int)(x1:List (List Int))(v:Int)(co cu:Bool)(i:Int):Rs:=EvL C [.blk 4,.seq Zkj,.blk 1,.seq Zff,.loop [3,5,6,8,10] Zda,.blk 0,.seq Zdb,.fin 0 [.tmp 4]] [3,5,6,8,10,11,12,14] Zki ⟨[(3,.ptr 0 0),(5,.own 1),(6,.ptr 2 0),(8,.ptr 3 0),(10,I v),(11,Bo co),(12,Bo cu),(14,I i)],[[]],[.box (x.c.map .t),.arr 3 1 true (cp.map ic),.box [.t (.str cn),I cd,.t .nil],.box [.t (.str cl),I cc,.own 4],.arr 99 1 true (x1.map isc)]⟩
def Zko(x:Zf)(cp:List Int)(cn:ByteArray)(cd:Int)(x1:List (List Int))(cl:ByteArray)(cc v:Int)(co cu:Bool)(i:Int):Rs:=EvL C [.blk 4,.seq Zkj,.blk 1,.seq Zff,.loop [3,5,6,8,10] Zda,.blk 0,.seq Zdb,.fin 0 [.tmp 4]] [3,5,6,8,10,11,12,14] Zki ⟨[(3,.ptr 0 0),(5,.own 1),(6,.ptr 2 0),(8,.ptr 4 0),(10,I v),(11,Bo co),(12,Bo cu),(14,I i)],[[]],[.box (x.c.map .t),.arr 3 1 true (cp.map ic),.box [.t (.str cn),I cd,.own 3],.arr 99 1 true (x1.map isc),.box [.t (.str cl),I cc,.t .nil]]⟩
def Zif(x:Zf)(cp:List Int)(cn:ByteArray)(cd:Int)(x1:List (List Int))(cl:ByteArray)(cc:Int)(x2:List (List Int))(v:Int)(co cu:Bool)(i:Int):Rs:=EvL C [.blk 4,.seq Zkj,.blk 1,.seq Zff,.loop [3,5,6,8,10] Zda,.blk 0,.seq Zdb,.fin 0 [.tmp 4]] [3,5,6,8,10,11,12,14] Zki ⟨[(3,.ptr 0 0),(5,.own 1),(6,.ptr 2 0),(8,.ptr 4 0),(10,I v),(11,Bo co),(12,Bo cu),(14,I i)],[[]],[.box (x.c.map .t),.arr 3 1 true (cp.map ic),.box [.t (.str cn),I cd,.own 3],.arr 99 1 true (x1.map isc),.box [.t (.str cl),I cc,.own 5],.arr 99 1 true (x2.map isc)]⟩
def Z6t:MFun:=⟨2,15,[.tmp 4],.r [.bx 2 0,.bx 3 1,.mq 4 false] [2,3] (.r [.ln 5 1 2,.ln 6 4 3,.cl 7 181 [5,6],.m 8 7,.g 9 8 (.ln 1 2),.g 10 8 (.ln 4 3),.g 11 8 (.cl 182 [9,10]),.g 12 8 (.ll 11),.g 13 8 (.bk .eql 12 0),.an 14 8 13,.m 4 14] [4] .ret)⟩
def Zrz(a:Zh)(a1:Zf):Rs:=C 139 [.agg (a.c.map .t),.agg (a1.c.map .t)] []
def Zx1:MCode:=.we [.m 17 7,.m 18 1,.ll 19 18,.b 20 .lss 17 19] [1,2,3,7,20] 20 0 (.seq (.block 1 (.seq (.drw [.ln 23 1 3,.m 24 1,.m 25 7,.ia 26 3 24 25,.ln 27 3 26,.cl 28 138 [23,27],.nt 29 28] [[],[],[],[1,2],[3],[0,4],[5]] [1,2,3,7,29]) (.cond (.s 29) (.r [.mq 6 false] [6] .ret) .skip))) (.ic 21 7 22 [1,2,3,7]))
def Zx2:MCode:=.we [.m 30 8,.m 31 2,.ll 32 31,.b 33 .lss 30 32] [2,3,8,33] 33 2 (.seq (.block 3 (.seq (.drw [.ln 36 1 3,.m 37 2,.m 38 8,.ia 39 4 37 38,.ln 40 4 39,.cl 41 139 [36,40],.nt 42 41] [[],[],[],[1,2],[3],[0,4],[5]] [2,3,8,42]) (.cond (.s 42) (.r [.mq 6 false] [6] .ret) .skip))) (.ic 34 8 35 [2,3,8]))
def Zx3:MCode:=.r [.mq 6 true] [6] .ret
def Zx4:MCode:=.seq (.r [.mk' 8 0] [2,3,8] (.block 2 (.loop [2,3,8] Zx2))) Zx3
def Z6u:MFun:=⟨3,43,[.tmp 6],.r [.bx 3 0,.mq 6 false] [1,2,3] (.wc [.m 9 1,.ll 10 9,.bk 11 .gtr 10 8,.m 12 11,.h 13 12 (.m 2),.h 14 12 (.ll 13),.h 15 12 (.bk .gtr 14 8),.or 16 12 15] [1,2,3,16] 16 (.r [.mq 6 false] [6] .ret) (.seq (.r [.mk' 7 0] [1,2,3,7] (.block 0 (.loop [1,2,3,7] Zx1))) Zx4))⟩
def Zn2(a:Zh)(a1:List Ze)(a2:List Zf):Rs:=C 97 [.agg (a.c.map .t),L 3 (a1.map Ze.c),L 4 (a2.map Zf.c)] []
def Zn3(d:Zh)(cc:List Ze)(cd:List Zf)(i:Int):Rs:=EvL C [.blk 0,.seq Zx4,.fin 0 [.tmp 6]] [1,2,3,7] Zx1 ⟨[(1,L 3 (cc.map Ze.c)),(2,L 4 (cd.map Zf.c)),(3,.ptr 0 0),(7,I i)],[[]],[.box (d.c.map .t)]⟩
def Zn4(d:Zh)(cc:List Zf)(i:Int):Rs:=EvL C [.blk 2,.seq Zx3,.fin 0 [.tmp 6]] [2,3,8] Zx2 ⟨[(2,L 4 (cc.map Zf.c)),(3,.ptr 0 0),(8,I i)],[[]],[.box (d.c.map .t)]⟩
def Zx5:MCode:=.we [.m 77 8,.fa 78 1 6,.l 79 78,.ll 80 79,.b 81 .lss 77 80] [2,3,5,6,7,8,81] 81 2 (.seq (.block 3 (.seq (.drw [.fa 84 1 6,.l 85 84,.m 86 8,.ia 87 1 85 86,.l 88 87,.fa 89 1 7,.l 90 89,.m 91 8,.ia 92 1 90 91,.l 93 92,.cl 94 178 [88,93],.bk 95 .neq 94 0] [[],[0],[],[1,2],[3],[],[5],[],[6,7],[8],[4,9],[10]] [2,3,5,6,7,8,95]) (.cond (.s 95) (.r [.mq 4 false] [4] .ret) .skip))) (.ic 82 8 83 [2,3,5,6,7,8]))
def Zx6:MCode:=.ic 42 5 43 [2,3,5]
def Zr0:MCode:=.we [.m 37 5,.fa 38 3 2,.l 39 38,.ll 40 39,.b 41 .lss 37 40] [2,3,5,41] 41 0 (.seq (.block 1 (.r [.fa 44 3 2,.l 45 44,.m 46 5,.ia 47 3 45 46,.ln 48 3 47,.o 6 (.al [.nil,.nil,.nil]),.st 3 6 48] [2,3,5,6] (.r [.fa 49 3 3,.l 50 49,.m 51 5,.ia 52 3 50 51,.ln 53 3 52,.o 7 (.al [.nil,.nil,.nil]),.st 3 7 53] [2,3,5,6,7] (.wc [.fa 54 0 6,.l 55 54,.fa 56 0 7,.l 57 56,.cl 58 178 [55,57],.bk 59 .neq 58 0,.m 60 59,.h 61 60 (.fa 2 6),.h 62 60 (.l 61),.h 63 60 (.fa 2 7),.h 64 60 (.l 63),.h 65 60 (.cl 178 [62,64]),.h 66 60 (.bk .neq 65 0),.or 67 60 66,.m 68 67,.h 69 68 (.fa 1 6),.h 70 68 (.l 69),.h 71 68 (.ll 70),.h 72 68 (.fa 1 7),.h 73 68 (.l 72),.h 74 68 (.ll 73),.h 75 68 (.b .neq 71 74),.or 76 68 75] [2,3,5,6,7,76] 76 (.r [.mq 4 false] [4] .ret) (.r [.mk' 8 0] [2,3,5,6,7,8] (.block 2 (.loop [2,3,5,6,7,8] Zx5))))))) Zx6)
def Zr1:MCode:=.r [.mq 4 true] [4] .ret
def Z6v:MFun:=⟨2,96,[.tmp 4],.r [.bx 2 0,.bx 3 1,.mq 4 false] [2,3] (.wc [.fa 9 0 2,.l 10 9,.fa 11 0 3,.l 12 11,.b 13 .neq 10 12,.m 14 13,.h 15 14 (.fa 1 2),.h 16 14 (.l 15),.h 17 14 (.fa 1 3),.h 18 14 (.l 17),.h 19 14 (.b .neq 16 18),.or 20 14 19,.m 21 20,.h 22 21 (.fa 2 2),.h 23 21 (.l 22),.h 24 21 (.fa 2 3),.h 25 21 (.l 24),.h 26 21 (.b .neq 23 25),.or 27 21 26,.m 28 27,.h 29 28 (.fa 3 2),.h 30 28 (.l 29),.h 31 28 (.ll 30),.h 32 28 (.fa 3 3),.h 33 28 (.l 32),.h 34 28 (.ll 33),.h 35 28 (.b .neq 31 34),.or 36 28 35] [2,3,36] 36 (.r [.mq 4 false] [4] .ret) (.seq (.r [.mk' 5 0] [2,3,5] (.block 0 (.loop [2,3,5] Zr0))) Zr1))⟩
def Zr2(a a1:Zd):Rs:=C 137 [.agg (a.c.map .t),.agg (a1.c.map .t)] []
def Zkp(a b:Zd)(i:Int):Rs:=EvL C [.blk 0,.seq Zr1,.fin 0 [.tmp 4]] [2,3,5] Zr0 ⟨[(2,.ptr 0 0),(3,.ptr 1 0),(5,I i)],[[]],[.box (a.c.map .t),.box (b.c.map .t)]⟩
def Zn5(a b:Zd)(x y:Zj)(i k:Int):Rs:=EvL C [.blk 2,.blk 1,.seq Zx6,.loop [2,3,5] Zr0,.blk 0,.seq Zr1,.fin 0 [.tmp 4]] [2,3,5,6,7,8] Zx5 ⟨[(2,.ptr 0 0),(3,.ptr 1 0),(5,I i),(6,.ptr 2 0),(7,.ptr 3 0),(8,I k)],[[]],[.box (a.c.map .t),.box (b.c.map .t),.box (x.c.map .t),.box (y.c.map .t)]⟩
def Zr3(a a1:Zk):Rs:=C 96 [.agg (a.c.map .t),.agg (a1.c.map .t)] []
def Zn6(a b:Zk)(i:Int):Rs:=EvL C [.blk 0,.seq Znr,.fin 0 [.tmp 4]] [2,3,5] Znq ⟨[(2,.ptr 0 0),(3,.ptr 1 0),(5,I i)],[[]],[.box (a.c.map .t),.box (b.c.map .t)]⟩
def Z6w:MFun:=⟨1,30,[.tmp 2],.r [.bx 1 0,.mq 2 false] [1] (.r [.fa 6 0 1,.ln 7 1 6,.fa 8 1 1,.fa 9 0 8,.l 10 9,.cl 11 95 [7,10],.m 5 11,.o 12 (.ext (.s 5) 0),.o 13 (.ext (.s 5) 1),.o 3 (.al [.z,.nil]),.st 2 3 12,.m 4 13] [1,3,4] (.r [.m 14 4,.m 15 14,.g 16 15 (.ln 2 3),.g 17 15 (.fa 1 1),.g 18 15 (.ln 2 17),.g 19 15 (.cl 96 [16,18]),.an 20 15 19,.m 21 20,.g 22 21 (.fa 0 1),.g 23 21 (.ln 1 22),.g 24 21 (.fa 3 1),.g 25 21 (.l 24),.g 26 21 (.fa 4 1),.g 27 21 (.l 26),.g 28 21 (.cl 97 [23,25,27]),.an 29 21 28,.m 2 29] [2] .ret))⟩
def Zn7(a:Zl):Rs:=C 56 [.agg (a.c.map .t)] []
def Z6x:MFun:=⟨2,24,[.cell 4 (some 6)],.r [.bx 2 0,.o 4 (.al [.z,.z,.z,.z,.z,.nil])] [1,2,4] (.seq (.r [.m 5 1] [2,4,5] (.block 0 (.r [.bk 7 .eql 5 1,.m 6 7] [2,4,5,6] (.cond (.s 6) (.r [.fa 8 0 2,.ln 9 6 8,.st 6 4 9] [4] .ret) (.r [.bk 11 .eql 5 2,.m 10 11] [2,4,5,10] (.cond (.s 10) (.r [.fa 12 6 2,.ln 13 6 12,.st 6 4 13] [4] .ret) (.r [.bk 15 .eql 5 3,.m 14 15] [2,4,5,14] (.cond (.s 14) (.r [.fa 16 12 2,.ln 17 6 16,.st 6 4 17] [4] .ret) (.r [.bk 19 .eql 5 4,.m 18 19] [2,4,18] (.cond (.s 18) (.r [.fa 20 18 2,.ln 21 6 20,.st 6 4 21] [4] .ret) .skip)))))))))) (.r [.fa 22 24 2,.ln 23 6 22,.st 6 4 23] [4] .ret))⟩
def Zn8(a:Za)(a1:Int):Rs:=C 140 [.agg (a.c.map .t),I a1] []
def Z6y:MFun:=⟨1,5,[.tmp 2],.r [.mq 2 false] [0] (.r [.m 3 0,.o 4 (.call 59 [.s 3,.k (-99),.k 99]),.m 2 4] [2] .ret)⟩
def Zfx(a:Int):Rs:=C 183 [I a] []
def Zx7:MCode:=.we [.m 38 3,.fa 39 5 1,.l 40 39,.ll 41 40,.b 42 .lss 38 41] [1,3,42] 42 0 (.seq (.block 1 (.seq (.drw [.fa 45 5 1,.l 46 45,.m 47 3,.ia 48 2 46 47,.fa 49 0 48,.l 50 49,.o 51 (.call 59 [.s 50,.k 1,.k 8192]),.nt 52 51,.m 53 52,.h 54 53 (.fa 5 1),.h 55 53 (.l 54),.h 56 53 (.m 3),.h 57 53 (.ia 2 55 56),.h 58 53 (.fa 1 57),.h 59 53 (.l 58),.h 60 53 (.cl 183 [59]),.h 61 53 (.nt 60),.or 62 53 61,.m 63 62,.h 64 63 (.m 3),.h 65 63 (.bk .gtr 64 0),.h 66 63 (.m 65),.g 67 66 (.fa 5 1),.g 68 66 (.l 67),.g 69 66 (.m 3),.g 70 66 (.bk .sub 69 1),.g 71 66 (.ia 2 68 70),.g 72 66 (.fa 0 71),.g 73 66 (.l 72),.g 74 66 (.fa 5 1),.g 75 66 (.l 74),.g 76 66 (.m 3),.g 77 66 (.ia 2 75 76),.g 78 66 (.fa 0 77),.g 79 66 (.l 78),.g 80 66 (.b .geq 73 79),.h 81 63 (.an 66 80),.or 82 63 81] [[],[0],[],[1,2],[3],[4],[5],[6],[7,6],[8],[9,8],[8],[10,11,8],[12,8],[13,8],[14,8,8],[15,8],[8,16],[17,15],[18],[19,18],[20,18,18],[21],[22,21],[21],[24,21],[23,25,21],[26,21],[27,21],[21],[29,21],[21],[30,31,21],[32,21],[33,21],[28,34,21],[21,35,18],[18,36]] [1,3,82]) (.cond (.s 82) (.r [.mq 2 false] [2] .ret) .skip))) (.ic 43 3 44 [1,3]))
def Zx8:MCode:=.r [.mq 2 true] [2] .ret
def Z6z:MFun:=⟨1,83,[.tmp 2],.r [.bx 1 0,.mq 2 false] [1] (.wc [.fa 4 0 1,.l 5 4,.cl 6 183 [5],.nt 7 6,.m 8 7,.h 9 8 (.fa 1 1),.h 10 8 (.l 9),.h 11 8 (.cl 183 [10]),.h 12 8 (.nt 11),.or 13 8 12,.m 14 13,.h 15 14 (.fa 2 1),.h 16 14 (.l 15),.h 17 14 (.cl 183 [16]),.h 18 14 (.nt 17),.or 19 14 18,.m 20 19,.h 21 20 (.fa 3 1),.h 22 20 (.l 21),.h 23 20 (.cl 183 [22]),.h 24 20 (.nt 23),.or 25 20 24,.m 26 25,.h 27 26 (.fa 4 1),.h 28 26 (.l 27),.h 29 26 (.cl 183 [28]),.h 30 26 (.nt 29),.or 31 26 30,.m 32 31,.h 33 32 (.fa 5 1),.h 34 32 (.l 33),.h 35 32 (.ll 34),.h 36 32 (.bk .gtr 35 4),.or 37 32 36] [1,37] 37 (.r [.mq 2 false] [2] .ret) (.seq (.r [.mk' 3 0] [1,3] (.block 0 (.loop [1,3] Zx7))) Zx8))⟩
def Zg1(a:Zm):Rs:=C 141 [.agg (a.c.map .t)] []
def Zig(o:Zm)(i:Int):Rs:=EvL C [.blk 0,.seq Zx8,.fin 0 [.tmp 2]] [1,3] Zx7 ⟨[(1,.ptr 0 0),(3,I i)],[[]],[.box (o.c.map .t)]⟩
def Zx9:MCode:=.we [.m 8 4,.m 9 0,.b 10 .lss 8 9] [0,3,4,10] 10 0 (.seq (.block 1 (.reg [.m 13 3,.bk 14 .mul 13 4,.o 15 (.mm true (.k 1) (.s 14)),.m 3 15] [0,3,4])) (.ic 11 4 12 [0,3,4]))
def Zya:MCode:=.r [.m 16 3,.m 2 16] [2] .ret
def Z60:MFun:=⟨1,17,[.tmp 2],.r [.mk' 2 0] [0] (.wc [.m 5 0,.o 6 (.call 59 [.s 5,.k 0,.k 7]),.nt 7 6] [0,7] 7 (.r [.mk' 2 (-1)] [2] .ret) (.r [.mk' 3 0] [0,3] (.seq (.r [.mk' 4 0] [0,3,4] (.block 0 (.loop [0,3,4] Zx9))) Zya)))⟩
def Zkq(a:Int):Rs:=C 227 [I a] []
def Zkr(k n i:Int):Rs:=EvL C [.blk 0,.seq Zya,.fin 0 [.tmp 2]] [0,3,4] Zx9 ⟨[(0,I k),(3,I n),(4,I i)],[[]],[]⟩
def Z61:MCode:=.ic 58 10 59 [1,2,4,9,10]
def Zyb:MCode:=.we [.m 53 10,.fa 54 5 4,.l 55 54,.ll 56 55,.b 57 .lss 53 56] [1,2,4,9,10,57] 57 0 (.seq (.block 1 (.r [.m 60 1,.m 61 2,.b 62 .add 60 61,.fa 63 5 4,.l 64 63,.m 65 10,.ia 66 2 64 65,.fa 67 0 66,.l 68 67,.b 69 .geq 62 68] [1,2,4,9,10,69] (.cond (.s 69) (.reg [.m 70 9,.fa 71 5 4,.l 72 71,.m 73 10,.ia 74 2 72 73,.fa 75 1 74,.l 76 75,.b 77 .add 70 76,.m 9 77] [1,2,4,9,10]) .skip))) Z61)
def Zyc:MCode:=.r [.m 78 9,.m 8 78] [8] .ret
def Z62:MFun:=⟨4,79,[.tmp 8],.r [.bx 4 0,.mk' 8 0] [1,2,3,4] (.wc [.ln 11 6 4,.cl 12 141 [11],.nt 13 12,.m 14 13,.h 15 14 (.m 1),.h 16 14 (.call 59 [.s 15,.k 0,.k 4096]),.h 17 14 (.nt 16),.or 18 14 17,.m 19 18,.h 20 19 (.m 2),.h 21 19 (.call 59 [.s 20,.k 0,.k 4096]),.h 22 19 (.nt 21),.or 23 19 22,.m 24 23,.h 25 24 (.m 3),.h 26 24 (.call 59 [.s 25,.k 0,.k 4096]),.h 27 24 (.nt 26),.or 28 24 27] [1,2,3,4,28] 28 (.r [.mk' 8 0] [8] .ret) (.r [.fa 29 0 4,.l 30 29,.fa 31 1 4,.l 32 31,.m 33 1,.b 34 .mul 32 33,.b 35 .add 30 34,.fa 36 2 4,.l 37 36,.m 38 2,.b 39 .mul 37 38,.b 40 .add 35 39,.fa 41 3 4,.l 42 41,.m 43 3,.b 44 .mul 42 43,.b 45 .add 40 44,.fa 46 4 4,.l 47 46,.m 48 1,.b 49 .mul 47 48,.m 50 2,.b 51 .mul 49 50,.b 52 .add 45 51,.m 9 52] [1,2,4,9] (.seq (.r [.mk' 10 0] [1,2,4,9,10] (.block 0 (.loop [1,2,4,9,10] Zyb))) Zyc)))⟩
def Zr4(a:Zm)(a1 a2 a3:Int):Rs:=C 226 [.agg (a.c.map .t),I a1,I a2,I a3] []
def Zih(o:Zm)(l cc n i:Int):Rs:=EvL C [.blk 0,.seq Zyc,.fin 0 [.tmp 8]] [1,2,4,9,10] Zyb ⟨[(1,I l),(2,I cc),(4,.ptr 0 0),(9,I n),(10,I i)],[[]],[.box (o.c.map .t)]⟩
def Z63:MFun:=⟨2,19,[.tmp 4],.r [.bx 2 0,.mk' 4 0] [1,2] (.seq (.drw [.ln 5 6 2,.m 6 1,.o 7 (.iaddr 1 (.s 6) (.k 0)),.l 8 7,.cl 9 227 [8],.m 10 1,.o 11 (.iaddr 1 (.s 10) (.k 1)),.l 12 11,.cl 13 227 [12],.m 14 1,.o 15 (.iaddr 1 (.s 14) (.k 2)),.l 16 15,.cl 17 227 [16],.cl 18 226 [5,9,13,17],.m 4 18] [[],[],[1],[2],[3],[],[5],[6],[7,4],[],[9],[10],[11,8],[0,4,8,12,12],[13,13,0,1,2,3,4,5,6,7,8,9,10,11,12,13]] [4]) .ret)⟩
def Zii(a:Zm)(a1:List Int):Rs:=C 184 [.agg (a.c.map .t),L 1 (a1.map ic)] []
def Zyd:MCode:=.we [.m 32 9,.bk 33 .lss 32 3] [1,5,6,7,8,9,33] 33 6 (.seq (.block 7 (.r [.o 36 (.bslice 3 1 0 [.z] []),.m 37 8,.o 38 (.append 3 1 8 false (.s 36) (.s 37)),.m 10 38] [1,5,6,7,8,9,10] (.r [.m 39 10,.m 40 9,.m 41 10,.m 42 9,.ia 43 1 41 42,.l 44 43,.bk 45 .add 44 1,.ia 46 1 39 40,.st 1 46 45] [1,5,6,7,8,9,10] (.seq (.drw [.m 47 10,.m 48 9,.ia 49 1 47 48,.l 50 49,.bk 51 .leq 50 7,.m 52 51,.g 53 52 (.ln 6 1),.g 54 52 (.m 10),.g 55 52 (.cl 184 [53,54]),.g 56 52 (.ln 6 1),.g 57 52 (.m 8),.g 58 52 (.cl 184 [56,57]),.g 59 52 (.b .lss 55 58),.an 60 52 59] [[],[],[0,1],[2],[3],[4],[5],[5],[6,7,5,5],[5],[5],[9,10,8,5],[8,11,5],[5,12]] [1,5,6,7,8,9,10,60]) (.cond (.s 60) (.r [.m 61 8,.m 62 10,.m 2 61,.m 3 62,.mq 4 true] [2,3,4] .ret) .skip))))) (.ic 34 9 35 [1,5,6,7,8,9]))
def Zye:MCode:=.ic 26 7 27 [1,5,6,7]
def Zr5:MCode:=.we [.m 24 7,.bk 25 .leq 24 7] [1,5,6,7,25] 25 4 (.seq (.block 5 (.r [.m 28 5,.m 29 6,.m 30 7,.o 31 (.bslice 3 1 3 [.z] [(0,.s 28),(1,.s 29),(2,.s 30)]),.m 8 31] [1,5,6,7,8] (.r [.mk' 9 0] [1,5,6,7,8,9] (.block 6 (.loop [1,5,6,7,8,9] Zyd))))) Zye)
def Zr6:MCode:=.ic 22 6 23 [1,5,6]
def Zn9:MCode:=.we [.m 20 6,.bk 21 .leq 20 7] [1,5,6,21] 21 2 (.seq (.block 3 (.r [.mk' 7 0] [1,5,6,7] (.block 4 (.loop [1,5,6,7] Zr5)))) Zr6)
def Zoa:MCode:=.ic 18 5 19 [1,5]
def Zks:MCode:=.we [.m 16 5,.bk 17 .leq 16 7] [1,5,17] 17 0 (.seq (.block 1 (.r [.mk' 6 0] [1,5,6] (.block 2 (.loop [1,5,6] Zn9)))) Zoa)
def Zkt:MCode:=.r [.o 63 (.bslice 3 1 0 [.z] []),.o 64 (.bslice 3 1 0 [.z] []),.m 2 63,.m 3 64,.mq 4 false] [2,3,4] .ret
def Z64:MFun:=⟨1,65,[.tmp 2,.tmp 3,.tmp 4],.r [.bx 1 0,.mn 2,.mn 3,.mq 4 false] [1] (.wc [.ln 11 6 1,.cl 12 141 [11],.nt 13 12] [1,13] 13 (.r [.o 14 (.bslice 3 1 0 [.z] []),.o 15 (.bslice 3 1 0 [.z] []),.m 2 14,.m 3 15,.mq 4 false] [2,3,4] .ret) (.seq (.r [.mk' 5 0] [1,5] (.block 0 (.loop [1,5] Zks))) Zkt))⟩
def Zr7(a:Zm):Rs:=C 142 [.agg (a.c.map .t)] []
def Zij(o:Zm)(a:Int):Rs:=EvL C [.blk 0,.seq Zkt,.fin 0 [.tmp 2,.tmp 3,.tmp 4]] [1,5] Zks ⟨[(1,.ptr 0 0),(5,I a)],[[]],[.box (o.c.map .t)]⟩
def Zku(o:Zm)(a b:Int):Rs:=EvL C [.blk 2,.blk 1,.seq Zoa,.loop [1,5] Zks,.blk 0,.seq Zkt,.fin 0 [.tmp 2,.tmp 3,.tmp 4]] [1,5,6] Zn9 ⟨[(1,.ptr 0 0),(5,I a),(6,I b)],[[]],[.box (o.c.map .t)]⟩
def Zik(o:Zm)(a b e:Int):Rs:=EvL C [.blk 4,.blk 3,.seq Zr6,.loop [1,5,6] Zn9,.blk 2,.blk 1,.seq Zoa,.loop [1,5] Zks,.blk 0,.seq Zkt,.fin 0 [.tmp 2,.tmp 3,.tmp 4]] [1,5,6,7] Zr5 ⟨[(1,.ptr 0 0),(5,I a),(6,I b),(7,I e)],[[]],[.box (o.c.map .t)]⟩
def Zfg(o:Zm)(x:List Int)(a b e k:Int):Rs:=EvL C [.blk 6,.blk 5,.seq Zye,.loop [1,5,6,7] Zr5,.blk 4,.blk 3,.seq Zr6,.loop [1,5,6] Zn9,.blk 2,.blk 1,.seq Zoa,.loop [1,5] Zks,.blk 0,.seq Zkt,.fin 0 [.tmp 2,.tmp 3,.tmp 4]] [1,5,6,7,8,9] Zyd ⟨[(1,.ptr 0 0),(5,I a),(6,I b),(7,I e),(8,.own 1),(9,I k)],[[]],[.box (o.c.map .t),.arr 3 1 true (x.map ic)]⟩
def Zyf:MCode:=.we [.m 14 5,.bk 15 .leq 14 7] [1,3,4,5,15] 15 4 (.seq (.block 5 (.r [.ln 18 6 1,.m 19 3,.m 20 4,.m 21 5,.o 22 (.bslice 3 1 3 [.z] [(0,.s 19),(1,.s 20),(2,.s 21)]),.cl 23 184 [18,22],.bk 24 .lss 23 1] [1,3,4,5,24] (.cond (.s 24) (.r [.m 25 3,.m 26 4,.m 27 5,.o 28 (.bslice 3 1 3 [.z] [(0,.s 25),(1,.s 26),(2,.s 27)]),.m 2 28] [2] .ret) .skip))) (.ic 16 5 17 [1,3,4,5]))
def Zyg:MCode:=.ic 12 4 13 [1,3,4]
def Zr8:MCode:=.we [.m 10 4,.bk 11 .leq 10 7] [1,3,4,11] 11 2 (.seq (.block 3 (.r [.mk' 5 0] [1,3,4,5] (.block 4 (.loop [1,3,4,5] Zyf)))) Zyg)
def Zr9:MCode:=.ic 8 3 9 [1,3]
def Zob:MCode:=.we [.m 6 3,.bk 7 .leq 6 7] [1,3,7] 7 0 (.seq (.block 1 (.r [.mk' 4 0] [1,3,4] (.block 2 (.loop [1,3,4] Zr8)))) Zr9)
def Zoc:MCode:=.r [.o 29 (.bslice 3 1 0 [.z] []),.m 2 29] [2] .ret
def Z65:MFun:=⟨1,30,[.tmp 2],.r [.bx 1 0,.mn 2] [1] (.seq (.r [.mk' 3 0] [1,3] (.block 0 (.loop [1,3] Zob))) Zoc)⟩
def Zsa(a:Zm):Rs:=C 143 [.agg (a.c.map .t)] []
def Zkv(o:Zm)(a:Int):Rs:=EvL C [.blk 0,.seq Zoc,.fin 0 [.tmp 2]] [1,3] Zob ⟨[(1,.ptr 0 0),(3,I a)],[[]],[.box (o.c.map .t)]⟩
def Zkw(o:Zm)(a b:Int):Rs:=EvL C [.blk 2,.blk 1,.seq Zr9,.loop [1,3] Zob,.blk 0,.seq Zoc,.fin 0 [.tmp 2]] [1,3,4] Zr8 ⟨[(1,.ptr 0 0),(3,I a),(4,I b)],[[]],[.box (o.c.map .t)]⟩
def Zod(o:Zm)(a b e:Int):Rs:=EvL C [.blk 4,.blk 3,.seq Zyg,.loop [1,3,4] Zr8,.blk 2,.blk 1,.seq Zr9,.loop [1,3] Zob,.blk 0,.seq Zoc,.fin 0 [.tmp 2]] [1,3,4,5] Zyf ⟨[(1,.ptr 0 0),(3,I a),(4,I b),(5,I e)],[[]],[.box (o.c.map .t)]⟩
def Zyh:MCode:=.we [.m 11 5,.bk 12 .leq 11 5] [1,5,12] 12 0 (.seq (.block 1 (.r [.ln 15 30 1,.m 16 5,.cl 17 140 [15,16],.o 6 (.al [.z,.z,.z,.z,.z,.nil]),.st 6 6 17] [1,5,6] (.wc [.ln 18 6 6,.cl 19 141 [18],.nt 20 19] [1,5,6,20] 20 (.r [.m 21 5,.o 22 (.bslice 3 1 0 [.z] []),.o 23 (.bslice 3 1 0 [.z] []),.m 2 21,.m 3 22,.m 4 23] [2,3,4] .ret) (.r [.ln 25 6 6,.cl 26 142 [25],.m 24 26,.o 27 (.ext (.s 24) 0),.o 28 (.ext (.s 24) 1),.o 29 (.ext (.s 24) 2),.m 7 27,.m 8 28,.m 9 29] [1,5,6,7,8,9] (.wc [.m 30 9] [1,5,6,7,8,30] 30 (.r [.m 31 5,.m 32 7,.m 33 8,.m 2 31,.m 3 32,.m 4 33] [2,3,4] .ret) (.r [.ln 34 6 6,.cl 35 143 [34],.m 10 35] [1,5,10] (.r [.m 36 10,.ll 37 36,.bk 38 .gtr 37 0] [1,5,10,38] (.cond (.s 38) (.r [.m 39 5,.m 40 10,.o 41 (.bslice 3 1 0 [.z] []),.m 2 39,.m 3 40,.m 4 41] [2,3,4] .ret) .skip)))))))) (.ic 13 5 14 [1,5]))
def Zyi:MCode:=.r [.o 42 (.bslice 3 1 0 [.z] []),.o 43 (.bslice 3 1 0 [.z] []),.mk' 2 0,.m 3 42,.m 4 43] [2,3,4] .ret
def Z66:MFun:=⟨1,44,[.tmp 2,.tmp 3,.tmp 4],.r [.bx 1 0,.mk' 2 0,.mn 3,.mn 4] [1] (.seq (.r [.mk' 5 1] [1,5] (.block 0 (.loop [1,5] Zyh))) Zyi)⟩
def Zyj(a:Za):Rs:=C 98 [.agg (a.c.map .t)] []
def Zkx(m:Za)(k:Int):Rs:=EvL C [.blk 0,.seq Zyi,.fin 0 [.tmp 2,.tmp 3,.tmp 4]] [1,5] Zyh ⟨[(1,.ptr 0 0),(5,I k)],[[]],[.box (m.c.map .t)]⟩
def Z67:MFun:=⟨1,14,[.tmp 2],.r [.bx 1 0,.mq 2 false] [1] (.r [.ln 7 30 1,.cl 8 98 [7],.m 6 8,.o 9 (.ext (.s 6) 0),.o 10 (.ext (.s 6) 1),.o 11 (.ext (.s 6) 2),.m 3 9,.m 4 10,.m 5 11] [3] (.r [.m 12 3,.bk 13 .eql 12 0,.m 2 13] [2] .ret))⟩
def Zsb(a:Za):Rs:=C 57 [.agg (a.c.map .t)] []
def Zbix:MCode:=.we [.m 41 7,.m 42 5,.b 43 .lss 41 42] [2,3,5,6,7,43] 43 2 (.seq (.block 3 (.seq (.drw [.fa 46 1 3,.l 47 46,.m 48 7,.ia 49 8 47 48,.fa 50 7 49,.l 51 50,.fa 52 7 6,.l 53 52,.b 54 .eql 51 53] [[],[0],[],[1,2],[3],[4],[],[6],[5,7]] [2,3,5,6,7,54]) (.cond (.s 54) (.r [.mq 4 false] [4] .ret) .skip))) (.ic 44 7 45 [2,3,5,6,7]))
def Zbiy:MCode:=.ic 13 5 14 [2,3,5]
def Zyk:MCode:=.we [.m 8 5,.fa 9 1 3,.l 10 9,.ll 11 10,.b 12 .lss 8 11] [2,3,5,12] 12 0 (.seq (.block 1 (.r [.fa 15 1 3,.l 16 15,.m 17 5,.ia 18 8 16 17,.ln 19 8 18,.o 6 (.al [.z,.nil,.nil,.nil,.nil,.z,.z,.z]),.st 8 6 19] [2,3,5,6] (.wc [.fa 20 6 6,.l 21 20,.o 22 (.call 59 [.s 21,.k 1,.k 999]),.nt 23 22,.m 24 23,.h 25 24 (.fa 7 6),.h 26 24 (.l 25),.h 27 24 (.fa 0 3),.h 28 24 (.l 27),.h 29 24 (.call 59 [.s 26,.k 1,.s 28]),.h 30 24 (.nt 29),.or 31 24 30,.m 32 31,.h 33 32 (.ln 30 2),.h 34 32 (.fa 0 6),.h 35 32 (.ln 2 34),.h 36 32 (.fa 2 6),.h 37 32 (.ln 4 36),.h 38 32 (.cl 99 [33,35,37]),.h 39 32 (.nt 38),.or 40 32 39] [2,3,5,6,40] 40 (.r [.mq 4 false] [4] .ret) (.r [.mk' 7 0] [2,3,5,6,7] (.block 2 (.loop [2,3,5,6,7] Zbix)))))) Zbiy)
def Zyl:MCode:=.r [.fa 55 0 3,.l 56 55,.o 57 (.call 59 [.s 56,.k 0,.k 1000000]),.m 58 57,.g 59 58 (.fa 1 3),.g 60 58 (.l 59),.g 61 58 (.ll 60),.g 62 58 (.bk .leq 61 4),.an 63 58 62,.m 4 63] [4] .ret
def Z68:MFun:=⟨2,64,[.tmp 4],.r [.bx 2 0,.bx 3 1,.mq 4 false] [2,3] (.seq (.r [.mk' 5 0] [2,3,5] (.block 0 (.loop [2,3,5] Zyk))) Zyl)⟩
def Zsc(a:Za)(cc:Int):Rs:=C 58 [.agg (a.c.map .t),.agg [I cc,.t .nil]] []
def Zym(m:Za)(cc i:Int):Rs:=EvL C [.blk 0,.seq Zyl,.fin 0 [.tmp 4]] [2,3,5] Zyk ⟨[(2,.ptr 0 0),(3,.ptr 1 0),(5,I i)],[[]],[.box (m.c.map .t),.box [I cc,.t .nil]]⟩
def Z69:MFun:=⟨1,38,[.tmp 2],.r [.bx 1 0,.mq 2 false] [1] (.r [.fa 3 0 1,.ln 4 5 3,.cl 5 56 [4],.m 6 5,.g 7 6 (.fa 5 1),.g 8 6 (.ln 30 7),.g 9 6 (.cl 57 [8]),.an 10 6 9,.m 11 10,.g 12 11 (.fa 5 1),.g 13 11 (.ln 30 12),.g 14 11 (.fa 35 1),.g 15 11 (.ln 2 14),.g 16 11 (.cl 58 [13,15]),.an 17 11 16,.m 18 17,.g 19 18 (.fa 37 1),.g 20 18 (.l 19),.g 21 18 (.call 59 [.s 20,.k 2,.k 8]),.an 22 18 21,.m 23 22,.g 24 23 (.fa 38 1),.g 25 23 (.l 24),.g 26 23 (.call 59 [.s 25,.k 0,.k 100]),.an 27 23 26,.m 28 27,.g 29 28 (.fa 39 1),.g 30 28 (.l 29),.g 31 28 (.call 59 [.s 30,.k 0,.k 1000000]),.an 32 28 31,.m 33 32,.g 34 33 (.fa 40 1),.g 35 33 (.l 34),.g 36 33 (.call 59 [.s 35,.k 0,.k 1000000000000]),.an 37 33 36,.m 2 37] [2] .ret)⟩
def Zoe(Zl:Zl)(Za:Za)(cd cl cn cc co:Int):Rs:=C 24 [.agg [L 3 (Zl.Zh.Tables.map Zc.c),I Zl.Zk.Version,L 4 (Zl.Zk.Tables.map Zd.c),L 3 (Zl.Dependencies.map Ze.c),L 4 (Zl.Inclusions.map Zf.c),I Za.Scan.Fixed,I Za.Scan.Zn,I Za.Scan.Zo,I Za.Scan.Zp,I Za.Scan.Zq,L 2 (Za.Scan.Steps.map Zb.c),I Za.Sort_.Fixed,I Za.Sort_.Zn,I Za.Sort_.Zo,I Za.Sort_.Zp,I Za.Sort_.Zq,L 2 (Za.Sort_.Steps.map Zb.c),I Za.Hash.Fixed,I Za.Hash.Zn,I Za.Hash.Zo,I Za.Hash.Zp,I Za.Hash.Zq,L 2 (Za.Hash.Steps.map Zb.c),I Za.Merge.Fixed,I Za.Merge.Zn,I Za.Merge.Zo,I Za.Merge.Zp,I Za.Merge.Zq,L 2 (Za.Merge.Steps.map Zb.c),I Za.Nested.Fixed,I Za.Nested.Zn,I Za.Nested.Zo,I Za.Nested.Zp,I Za.Nested.Zq,L 2 (Za.Nested.Steps.map Zb.c),I cd,.t .nil,I cl,I cn,I cc,I co]] []
def Z7a:MFun:=⟨4,23,[.cell 8 (some 41),.tmp 9],.r [.bx 4 0,.bx 5 1,.o 8 (.al [.nil,.z,.nil,.nil,.nil,.z,.z,.z,.z,.z,.nil,.z,.z,.z,.z,.z,.nil,.z,.z,.z,.z,.z,.nil,.z,.z,.z,.z,.z,.nil,.z,.z,.z,.z,.z,.nil,.z,.nil,.z,.z,.z,.z]),.mq 9 false] [2,3,4,5,8] (.seq (.drw [.ln 11 5 4,.cl 12 22 [11],.ln 13 30 5,.cl 14 23 [13],.m 15 2,.m 16 3,.o 17 (.build [.t .nil,.t .z,.t .nil,.t .nil,.t .nil,.t .z,.t .z,.t .z,.t .z,.t .z,.t .nil,.t .z,.t .z,.t .z,.t .z,.t .z,.t .nil,.t .z,.t .z,.t .z,.t .z,.t .z,.t .nil,.t .z,.t .z,.t .z,.t .z,.t .z,.t .nil,.t .z,.t .z,.t .z,.t .z,.t .z,.t .nil,.t .z,.t .nil,.t .z,.t .z,.t .z,.t .z] [(0,5,.s 12),(5,30,.s 14),(37,1,.s 15),(38,1,.s 16)]),.o 10 (.al [.nil,.z,.nil,.nil,.nil,.z,.z,.z,.z,.z,.nil,.z,.z,.z,.z,.z,.nil,.z,.z,.z,.z,.z,.nil,.z,.z,.z,.z,.z,.nil,.z,.z,.z,.z,.z,.nil,.z,.nil,.z,.z,.z,.z]),.st 41 10 17] [[],[0],[],[2,1],[],[],[1,3,4,5],[],[7,6,3,0,1,2,3,4,5,6,7]] [8,10]) (.wc [.ln 18 41 10,.cl 19 24 [18],.nt 20 19] [8,10,20] 20 (.r [.o 21 (.build [.t .nil,.t .z,.t .nil,.t .nil,.t .nil,.t .z,.t .z,.t .z,.t .z,.t .z,.t .nil,.t .z,.t .z,.t .z,.t .z,.t .z,.t .nil,.t .z,.t .z,.t .z,.t .z,.t .z,.t .nil,.t .z,.t .z,.t .z,.t .z,.t .z,.t .nil,.t .z,.t .z,.t .z,.t .z,.t .z,.t .nil,.t .z,.t .nil,.t .z,.t .z,.t .z,.t .z] []),.st 41 8 21,.mq 9 false] [8,9] .ret) (.r [.ln 22 41 10,.st 41 8 22,.mq 9 true] [8,9] .ret)))⟩
def Zsd(a:Zl)(a1:Za)(a2 a3:Int):Rs:=C 6 [.agg (a.c.map .t),.agg (a1.c.map .t),I a2,I a3] []
def Z7b:MFun:=⟨1,9,[.cell 2 (some 6)],.r [.bx 1 0,.o 2 (.al [.z,.z,.z,.z,.z,.nil])] [1,2] (.r [.o 3 (.bslice 170 2 0 [.z,.z] []),.fa 4 5 1,.l 5 4,.o 6 (.append 170 2 16 false (.s 3) (.s 5)),.fa 7 5 1,.st 1 7 6] [1,2] (.r [.ln 8 6 1,.st 6 2 8] [2] .ret))⟩
def Zyn(a:Zm):Rs:=C 108 [.agg (a.c.map .t)] []
theorem Zbiz:tbl 152=some Z3s:=Zg Tryz.func152
theorem Zbi0:tbl 196=some Z3t:=Zg Tryz.func196
theorem Zbi1:tbl 150=some Z3u:=Zg Tryz.func150
theorem Zbi2:tbl 104=some Z3v:=Zg Tryz.func104
theorem Zbi3:tbl 151=some Z3w:=Zg Tryz.func151
theorem Zbi4:tbl 105=some Z3x:=Zg Tryz.func105
theorem Zbi5:tbl 106=some Z3y:=Zg Tryz.func106
theorem Zbi6:tbl 65=some Z3z:=Zg Tryz.func65
theorem Zbi7:tbl 66=some Z32:=Zg Tryz.func66
theorem Zbi8:tbl 67=some Z33:=Zg Tryz.func67
theorem Zbi9:tbl 30=some Z34:=Zg Tryz.func30
theorem Zbja:tbl 68=some Z35:=Zg Tryz.func68
theorem Zbjb:tbl 240=some Z36:=Zg Tryz.func240
theorem Zbjc:tbl 241=some Z37:=Zg Tryz.func241
theorem Zbjd:tbl 332=some Z38:=Zg Tryz.func332
theorem Zbje:tbl 318=some Z39:=Zg Tryz.func318
theorem Zbjf:tbl 296=some Z4a:=Zg Tryz.func296
theorem Zbjg:tbl 270=some Z4b:=Zg Tryz.func270
theorem Zbjh:tbl 242=some Z4c:=Zg Tryz.func242
theorem Zbji:tbl 197=some Z4d:=Zg Tryz.func197
theorem Zbjj:tbl 155=some Z4e:=Zg Tryz.func155
theorem Zbjk:tbl 243=some Z4g:=Zg Tryz.func243
theorem Zbjl:tbl 198=some Z4h:=Zg Tryz.func198
theorem Zbjm:tbl 244=some Z4i:=Zg Tryz.func244
theorem Zbjn:tbl 245=some Z4j:=Zg Tryz.func245
theorem Zbjo:tbl 246=some Z4k:=Zg Tryz.func246
theorem Zbjp:tbl 247=some Z4l:=Zg Tryz.func247
theorem Zbjq:tbl 199=some Z4n:=Zg Tryz.func199
theorem Zbjr:tbl 156=some Z4o:=Zg Tryz.func156
theorem Zbjs:tbl 111=some Z4q:=Zg Tryz.func111
theorem Z7c:tbl 157=some Zvu:=Zg Tryz.func157
theorem Z7d:tbl 112=some Zvx:=Zg Tryz.func112
theorem Zbjt:tbl 277=some Z4r:=Zg Tryz.func277
theorem Zbju:tbl 276=some Z4s:=Zg Tryz.func276
theorem Zbjv:tbl 249=some Z4t:=Zg Tryz.func249
theorem Zbjw:tbl 278=some Z4u:=Zg Tryz.func278
theorem Zbjx:tbl 250=some Z4v:=Zg Tryz.func250
theorem Zbjy:tbl 202=some Z4w:=Zg Tryz.func202
theorem Zbjz:tbl 203=some Z40:=Zg Tryz.func203
theorem Zbj0:tbl 159=some Z42:=Zg Tryz.func159
theorem Zbj1:tbl 204=some Z43:=Zg Tryz.func204
theorem Zbj2:tbl 205=some Z45:=Zg Tryz.func205
theorem Zbj3:tbl 160=some Z49:=Zg Tryz.func160
theorem Zbj4:tbl 113=some Z5a:=Zg Tryz.func113
theorem Zbj5:tbl 275=some Z5b:=Zg Tryz.func275
theorem Zbj6:tbl 274=some Z5c:=Zg Tryz.func274
theorem Zbj7:tbl 248=some Z5d:=Zg Tryz.func248
theorem Zbj8:tbl 201=some Z5e:=Zg Tryz.func201
theorem Zbj9:tbl 200=some Z5f:=Zg Tryz.func200
theorem Zbka:tbl 158=some Z5g:=Zg Tryz.func158
theorem Zbkb:tbl 69=some Z5h:=Zg Tryz.func69
theorem Zbkc:tbl 107=some Z5i:=Zg Tryz.func107
theorem Zbkd:tbl 206=some Z5j:=Zg Tryz.func206
theorem Zbke:tbl 161=some Z5k:=Zg Tryz.func161
theorem Zbkf:tbl 163=some Z5l:=Zg Tryz.func163
theorem Zbkg:tbl 208=some Z5m:=Zg Tryz.func208
theorem Zbkh:tbl 207=some Z5o:=Zg Tryz.func207
theorem Zbki:tbl 164=some Z5p:=Zg Tryz.func164
theorem Zbkj:tbl 162=some Z5r:=Zg Tryz.func162
theorem Zbkk:tbl 114=some Z5s:=Zg Tryz.func114
theorem Zbkl:tbl 70=some Z5t:=Zg Tryz.func70
theorem Zbkm:tbl 71=some Z5u:=Zg Tryz.func71
theorem Zbkn:tbl 31=some Z5v:=Zg Tryz.func31
theorem Zbko:tbl 9=some Z5w:=Zg Tryz.func9
theorem Zbkp:tbl 93=some Z5x:=Zg Tryz.func93
theorem Zbkq:tbl 52=some Z5y:=Zg Tryz.func52
theorem Zbkr:tbl 94=some Z5z:=Zg Tryz.func94
theorem Zbks:tbl 53=some Z50:=Zg Tryz.func53
theorem Zbkt:tbl 54=some Z51:=Zg Tryz.func54
theorem Zbku:tbl 22=some Z52:=Zg Tryz.func22
theorem Zbkv:tbl 55=some Z53:=Zg Tryz.func55
theorem Zbkw:tbl 23=some Z54:=Zg Tryz.func23
theorem Zbkx:tbl 218=some Z55:=Zg Tryz.func218
theorem Zbky:tbl 59=some Z56:=Zg Tryz.func59
theorem Zbkz:tbl 219=some Z57:=Zg Tryz.func219
theorem Zbk0:tbl 178=some Z58:=Zg Tryz.func178
theorem Z7e:tbl 175=some Zw7:=Zg Tryz.func175
theorem Zbk1:tbl 135=some Z59:=Zg Tryz.func135
theorem Zbk2:tbl 220=some Z6b:=Zg Tryz.func220
theorem Zbk3:tbl 176=some Z6c:=Zg Tryz.func176
theorem Z7f:tbl 221=some Zxe:=Zg Tryz.func221
theorem Zbk4:tbl 222=some Z6d:=Zg Tryz.func222
theorem Zbk5:tbl 223=some Z6h:=Zg Tryz.func223
theorem Zbk6:tbl 177=some Z6j:=Zg Tryz.func177
theorem Zbk7:tbl 136=some Z6k:=Zg Tryz.func136
theorem Zbk8:tbl 95=some Z6l:=Zg Tryz.func95
theorem Z7g:tbl 96=some Zxq:=Zg Tryz.func96
theorem Zbk9:tbl 224=some Z6m:=Zg Tryz.func224
theorem Zbla:tbl 225=some Z6n:=Zg Tryz.func225
theorem Zblb:tbl 179=some Z6o:=Zg Tryz.func179
theorem Zblc:tbl 180=some Z6p:=Zg Tryz.func180
theorem Zbld:tbl 138=some Z6q:=Zg Tryz.func138
theorem Zble:tbl 181=some Z6r:=Zg Tryz.func181
theorem Zblf:tbl 182=some Z6s:=Zg Tryz.func182
theorem Zblg:tbl 139=some Z6t:=Zg Tryz.func139
theorem Zblh:tbl 97=some Z6u:=Zg Tryz.func97
theorem Zbli:tbl 137=some Z6v:=Zg Tryz.func137
theorem Zblj:tbl 56=some Z6w:=Zg Tryz.func56
theorem Zblk:tbl 140=some Z6x:=Zg Tryz.func140
theorem Zbll:tbl 183=some Z6y:=Zg Tryz.func183
theorem Zblm:tbl 141=some Z6z:=Zg Tryz.func141
theorem Zbln:tbl 227=some Z60:=Zg Tryz.func227
theorem Zblo:tbl 226=some Z62:=Zg Tryz.func226
theorem Zblp:tbl 184=some Z63:=Zg Tryz.func184
theorem Zblq:tbl 142=some Z64:=Zg Tryz.func142
theorem Zblr:tbl 143=some Z65:=Zg Tryz.func143
theorem Zbls:tbl 98=some Z66:=Zg Tryz.func98
theorem Zblt:tbl 57=some Z67:=Zg Tryz.func57
theorem Zblu:tbl 58=some Z68:=Zg Tryz.func58
theorem Zblv:tbl 24=some Z69:=Zg Tryz.func24
theorem Zblw:tbl 6=some Z7a:=Zg Tryz.func6
theorem Zblx:tbl 108=some Z7b:=Zg Tryz.func108
theorem Zd6:(((∀⦃a r⦄,Im (Zfd a=some r) (a.length<=68719476736/\(some (.own 0,[.arr 3 1 true (a.map ic)])=some r)))/\
 ((∀⦃cp x x1 x2 r⦄,Im (Zjj cp x x1 x2=some r) (if x2<x1 then(0<=x2/\(∃e1,x[x2.toNat]?=some e1/\(∃(v1:List Int),Zfd e1=some (.own 0,[.arr 3 1 true (v1.map ic)])/\(cp.length+1<=68719476736/\(Zjj (cp++[v1]) x x1 (w (x2+1))=some r)))))else(some (.own 0,[.arr 99 1 true (cp.map isc)])=some r)))/\
 (∀⦃a r⦄,Im (Zgo a=some r) (Zjj ([]:List (List Int)) a (a.length:Int) 0=some r))))/\
 ((∀⦃a r⦄,Im (Zhq a=some r) (∃(v:List (List Int)),Zgo a.Rows=some (.own 0,[.arr 99 1 true (v.map isc)])/\(some (.agg [.t (.str a.Name),I a.Arity,.own 0],[.arr 99 1 true (v.map isc)])=some r)))/\
 ((∀⦃x x1 x2 r⦄,Im (Zur x x1 x2=some r) (if x2<x1 then(0<=x2/\(∃e1,x[x2.toNat]?=some e1/\(∃(v1:List (List Int)),∃v2,∃v3,Zhq e1=some (.agg [.t (.str v2),I v3,.own 0],[.arr 99 1 true (v1.map isc)])/\(Zl1 ([(⟨v2,v3,v1⟩:Zc)]) x x1 (w (x2+1))=some r))))else(some (.agg [.own 0],[.arr 142 3 true (([]:List Zc).map Zc.c)])=some r)))/\
 (∀⦃x x1 x2 x3 r⦄,Im (Zl1 x x1 x2 x3=some r) (if x3<x2 then(0<=x3/\(∃e1,x1[x3.toNat]?=some e1/\(∃(v1:List (List Int)),∃v2,∃v3,Zhq e1=some (.agg [.t (.str v2),I v3,.own 0],[.arr 99 1 true (v1.map isc)])/\(x.length+1<=68719476736/\(Zl1 (x++[(⟨v2,v3,v1⟩:Zc)]) x1 x2 (w (x3+1))=some r)))))else(some (.agg [.own 0],[.arr 142 3 true (x.map Zc.c)])=some r))))))/\
 (((∀⦃a r⦄,Im (Zl0 a=some r) (Zur a.Tables (a.Tables.length:Int) 0=some r))/\
 ((∀⦃s cu co cn cl x x1 x2 r⦄,Im (Zl3 s cu co cn cl x x1 x2=some r) (if x2<x1 then(0<=x2/\(∃e1,x[x2.toNat]?=some e1/\(∃(v1:List Int),Zfd e1.Columns=some (.own 0,[.arr 3 1 true (v1.map ic)])/\(∃(v5:List (List Int)),Zgo e1.Values=some (.own 0,[.arr 99 1 true (v5.map isc)])/\(∃(v6:List Int),Zfd e1.Counts=some (.own 0,[.arr 3 1 true (v6.map ic)])/\(cl.length+1<=68719476736/\(Zl3 s cu co cn (cl++[(⟨v1,v5,v6⟩:Zj)]) x x1 (w (x2+1))=some r)))))))else(some (.agg [.t (.str s.Name),I s.Arity,I s.RowCount,.own 0],[.arr 193 3 true (cl.map Zj.c)])=some r)))/\
 (∀⦃a r⦄,Im (Zl2 a=some r) (Zl3 a (⟨#[]⟩:ByteArray) 0 0 ([]:List Zj) a.Groups (a.Groups.length:Int) 0=some r))))/\
 ((∀⦃cd cc x x1 x2 r⦄,Im (Zuu cd cc x x1 x2=some r) (if x2<x1 then(0<=x2/\(∃e1,x[x2.toNat]?=some e1/\(∃(v1:List Zj),∃v2,∃v3,∃v4,Zl2 e1=some (.agg [.t (.str v2),I v3,I v4,.own 0],[.arr 193 3 true (v1.map Zj.c)])/\(Zl5 cd cc ([(⟨v2,v3,v4,v1⟩:Zd)]) x x1 (w (x2+1))=some r))))else(some (.agg [I cc,.own 0],[.arr 146 4 true (([]:List Zd).map Zd.c)])=some r)))/\
 ((∀⦃cd cc x x1 x2 x3 r⦄,Im (Zl5 cd cc x x1 x2 x3=some r) (if x3<x2 then(0<=x3/\(∃e1,x1[x3.toNat]?=some e1/\(∃(v1:List Zj),∃v2,∃v3,∃v4,Zl2 e1=some (.agg [.t (.str v2),I v3,I v4,.own 0],[.arr 193 3 true (v1.map Zj.c)])/\(x.length+1<=68719476736/\(Zl5 cd cc (x++[(⟨v2,v3,v4,v1⟩:Zd)]) x1 x2 (w (x3+1))=some r)))))else(some (.agg [I cc,.own 0],[.arr 146 4 true (x.map Zd.c)])=some r)))/\
 (∀⦃a r⦄,Im (Zl4 a=some r) (Zuu 0 a.Version a.Tables (a.Tables.length:Int) 0=some r))))):=by
 and_intros
 all_goals intros
 all_goals unfold Im
 all_goals try simp only[Zfd,Zjj,Zgo,Zhq,Zur,Zl1,Zl0,Zl3,Zl2,Zuu,Zl5,Zl4,Zc.c_def,Zd.c_def,mpl,dfs]
 all_goals try simp only[itb]
 all_goals try simp only[itf,gS,kk]
 all_goals repeat' first|refine exI λ_=>?_|refine anJ λ_ _=>?_|refine anI λ_=>?_|refine orE2 ?_ ?_|exact False.elim
 all_goals (intro h;first|refine run Zbiz rfl ?_|rw[Zi Zup.eq_1]|refine run Zbi0 rfl ?_|refine run Zbi1 rfl ?_|rw[Zi Zqo.eq_1]|refine run Zbi2 rfl ?_|rw[Zi Zus.eq_1]|refine run Zbi3 rfl ?_|rw[Zi Zqq.eq_1]|refine run Zbi4 rfl ?_)
 all_goals (refine Yd ?_ h;clear h;simp +decide[*,kk,tI,tII,Z3s,Zuq,Z3t,Z3u,Zqp,Z3v,Zut,Z3w,Zqr,Z3x])
abbrev Zbly:=Zd6.1.1.1
abbrev Zse:=Zd6.1.1.2.1
abbrev Z7h:=Zd6.1.1.2.2
abbrev Z7i:=Zd6.1.2.1
abbrev Zblz:=Zd6.1.2.2.1
abbrev Z7j:=Zd6.1.2.2.2
abbrev Zbl0:=Zd6.2.1.1
abbrev Z7k:=Zd6.2.1.2.1
abbrev Zbl1:=Zd6.2.1.2.2
abbrev Zbl2:=Zd6.2.2.1
abbrev Z7l:=Zd6.2.2.2.1
abbrev Zbl3:=Zd6.2.2.2.2
theorem Zd7:(((∀⦃cz x x1 x2 r⦄,Im (Zl6 cz x x1 x2=some r) (if x2<x1 then(0<=x2/\(∃e1,x[x2.toNat]?=some e1/\(∃(v5:List Int),Zfd e1.From=some (.own 0,[.arr 3 1 true (v5.map ic)])/\(cz.length+1<=68719476736/\(Zl6 (cz++[(⟨e1.Name,v5,e1.To⟩:Ze)]) x x1 (w (x2+1))=some r)))))else(some (.own 0,[.arr 116 3 true (cz.map Ze.c)])=some r)))/\
 ((∀⦃a r⦄,Im (Zux a=some r) (Zl6 ([]:List Ze) a (a.length:Int) 0=some r))/\
 (∀⦃a r⦄,Im (Zqs a=some r) (∃(v:List Zc),Zl0 a.Zh=some (.agg [.own 0],[.arr 142 3 true (v.map Zc.c)])/\(∃(v5:List Zd),∃v6,Zl4 a.Zk=some (.agg [I v6,.own 0],[.arr 146 4 true (v5.map Zd.c)])/\(∃(v35:List Ze),Zux a.Dependencies=some (.own 0,[.arr 116 3 true (v35.map Ze.c)])/\(a.Inclusions.length<=68719476736/\(some (.agg [.own 0,I v6,.own 1,.own 2,.own 3],[.arr 142 3 true (v.map Zc.c),.arr 146 4 true (v5.map Zd.c),.arr 116 3 true (v35.map Ze.c),.arr 118 4 true (a.Inclusions.map Zf.c)])=some r))))))))/\
 ((∀⦃cc cp x x1 r⦄,Im (Zu0 cc cp x x1=some r) (if x1<x then False else(some (.agg [I cp,.t .nil],[])=some r)))/\
 ((∀⦃cc r⦄,Im (Zqu cc=some r) (Zu0 0 cc 0 0=some r))/\
 (∀⦃cn cl cc cu cv cd cy r⦄,Im (Zl7 cn cl cc cu cv cd cy=some r) (∃(v:List Zc),∃(v1:List Zd),∃(v2:List Ze),∃(v3:List Zf),∃v4,Zqs cn=some (.agg [.own 0,I v4,.own 1,.own 2,.own 3],[.arr 142 3 true (v.map Zc.c),.arr 146 4 true (v1.map Zd.c),.arr 116 3 true (v2.map Ze.c),.arr 118 4 true (v3.map Zf.c)])/\(∃(v5:List Zb),∃(v6:List Zb),∃(v7:List Zb),∃(v8:List Zb),∃(v9:List Zb),∃v10,∃v11,∃v12,∃v13,∃v14,∃v15,∃v16,∃v17,∃v18,∃v19,∃v20,∃v21,∃v22,∃v23,∃v24,∃v25,∃v26,∃v27,∃v28,∃v29,∃v30,∃v31,∃v32,∃v33,∃v34,Zqt cl=some (.agg [I v10,I v11,I v12,I v13,I v14,.own 0,I v15,I v16,I v17,I v18,I v19,.own 1,I v20,I v21,I v22,I v23,I v24,.own 2,I v25,I v26,I v27,I v28,I v29,.own 3,I v30,I v31,I v32,I v33,I v34,.own 4],[.arr 170 2 true (v5.map Zb.c),.arr 170 2 true (v6.map Zb.c),.arr 170 2 true (v7.map Zb.c),.arr 170 2 true (v8.map Zb.c),.arr 170 2 true (v9.map Zb.c)])/\(∃v35,Zqu cc=some (.agg [I v35,.t .nil],[])/\(some (.agg [.own 0,I v4,.own 1,.own 2,.own 3,I v10,I v11,I v12,I v13,I v14,.own 4,I v15,I v16,I v17,I v18,I v19,.own 5,I v20,I v21,I v22,I v23,I v24,.own 6,I v25,I v26,I v27,I v28,I v29,.own 7,I v30,I v31,I v32,I v33,I v34,.own 8,I v35,.t .nil,I cu,I cv,I cd,I cy],[.arr 142 3 true (v.map Zc.c),.arr 146 4 true (v1.map Zd.c),.arr 116 3 true (v2.map Ze.c),.arr 118 4 true (v3.map Zf.c),.arr 170 2 true (v5.map Zb.c),.arr 170 2 true (v6.map Zb.c),.arr 170 2 true (v7.map Zb.c),.arr 170 2 true (v8.map Zb.c),.arr 170 2 true (v9.map Zb.c)])=some r))))))))/\
 (((∀⦃a a1 a2 r⦄,Im (Z8 a a1 a2=some r) (if a1<=a then(some (Bo (decide (a<=a2)),[])=some r)else(some (Bo false,[])=some r)))/\
 ((∀⦃d co x x1 x2 r⦄,Im (Zl9 d co x x1 x2=some r) (if x2<x1 then(0<=x2/\(∃e1,x[x2.toNat]?=some e1/\(∃v5,Z8 e1 0 9=some (Bo v5,[])/\(if v5=true then(Zl9 d co x x1 (w (x2+1))=some r)else(some (Bo false,[])=some r)))))else(some (Bo (decide ((d.length:Int)=co)),[])=some r)))/\
 (∀⦃a a1 r⦄,Im (Zl8 a a1=some r) (Zl9 a a1 a (a.length:Int) 0=some r))))/\
 ((∀⦃a r⦄,Im (Zma a=some r) (if(a.size:Int)=1 then(∃b1,a[0]?=some b1/\(if 97<=(b1.toNat:Int)then(some (Bo (decide ((b1.toNat:Int)<=122)),[])=some r)else(some (Bo false,[])=some r)))else(some (Bo false,[])=some r)))/\
 ((∀⦃a r⦄,Im (Zqv a=some r) (some (Bo (!(decide (a=a))),[])=some r))/\
 (∀⦃a a1 r⦄,Im (Zmb a a1=some r) (∃v,Zqv a=some (Bo v,[])/\(∃v5,Zqv a1=some (Bo v5,[])/\(if v=true then(if v5=true then(some (I 0,[])=some r)else(some (I (-1),[])=some r))else(if v5=true then(some (I 1,[])=some r)else(if a<a1 then(some (I (-1),[])=some r)else(if a1<a then(some (I 1,[])=some r)else(some (I 0,[])=some r))))))))))):=by
 and_intros
 all_goals intros
 all_goals unfold Im
 all_goals try simp only[Zl6,Zux,Zqs,Zu0,Zqu,Zl7,Z8,Zl9,Zl8,Zma,Zqv,Zmb,Zfd,Zl0,Zl4,Zk.c_def,Zh.c_def,Ze.c_def,Zqt,cl.c_def,Zm.c_def,cn.c_def,mpl,dfs]
 all_goals try simp only[itb]
 all_goals try simp only[itf,gS,kk]
 all_goals repeat' first|refine exI λ_=>?_|refine anJ λ_ _=>?_|refine anI λ_=>?_|refine orE2 ?_ ?_|exact False.elim
 all_goals (intro h;first|rw[Zi Zuv.eq_1]|refine run Zbi5 rfl ?_|refine run Zbi6 rfl ?_|rw[Zi Zuy.eq_1]|refine run Zbi8 rfl ?_|refine run Zbi9 rfl ?_|refine run Zbja rfl ?_|rw[Zi Zu1.eq_1]|refine run Zbjb rfl ?_|refine run Zbjc rfl ?_|refine run Zbjd rfl ?_|refine run Zbje rfl ?_)
 all_goals (refine Yd ?_ h;clear h;simp +decide[*,kk,tI,tII,Zuw,Z3y,Z3z,Zuz,Z33,Z34,Z35,Zu2,Z36,Z37,Z38,Z39])
abbrev Z7m:=Zd7.1.1.1
abbrev Zbl4:=Zd7.1.1.2.1
abbrev Zbl5:=Zd7.1.1.2.2
abbrev Zbl6:=Zd7.1.2.1
abbrev Zbl7:=Zd7.1.2.2.1
abbrev Zbl8:=Zd7.1.2.2.2
abbrev Zbl9:=Zd7.2.1.1
abbrev Z7n:=Zd7.2.1.2.1
abbrev Zbma:=Zd7.2.1.2.2
abbrev Zbmb:=Zd7.2.2.1
abbrev Z7o:=Zd7.2.2.2.1
abbrev Zbmc:=Zd7.2.2.2.2
theorem Zil:((∀⦃s1 s2 x x1 x2 r⦄,Im (Zmc s1 s2 x x1 x2=some r) (if x2<x1 then(0<=x2/\(∃e1,x[x2.toNat]?=some e1/\(if(s2.length:Int)<=x2 then(some (I 1,[])=some r)else(∃e2,s2[x2.toNat]?=some e2/\(∃v2,Zmb e1 e2=some (I v2,[])/\(if v2=0 then(Zmc s1 s2 x x1 (w (x2+1))=some r)else(some (I v2,[])=some r)))))))else(if(s1.length:Int)<(s2.length:Int)then(some (I (-1),[])=some r)else(some (I 0,[])=some r))))/\
 ((∀⦃a a1 r⦄,Im (Zu5 a a1=some r) (Zmc a a1 a (a.length:Int) 0=some r))/\
 (∀⦃a a1 r⦄,Im (Zqw a a1=some r) (∃v,Zu5 a a1=some (I v,[])/\(some (I v,[])=some r)))))/\
 (((∀⦃c i r⦄,Im (Zmd c i=some r) (if i<(c.length:Int)then(0<=(w (i-1))/\(∃e1,c[(w (i-1)).toNat]?=some e1/\(0<=i/\(∃e2,c[i.toNat]?=some e2/\(∃v2,Zqw e1 e2=some (I v2,[])/\(if 0<=v2 then(some (Bo false,[])=some r)else(Zmd c (w (i+1))=some r)))))))else(some (Bo true,[])=some r)))/\
 (∀⦃a r⦄,Im (Zqx a=some r) (Zmd a 1=some r)))/\
 ((∀⦃t x x1 x2 r⦄,Im (Zme t x x1 x2=some r) (if x2<x1 then(0<=x2/\(∃e1,x[x2.toNat]?=some e1/\(∃v1,Zl8 e1 t.Arity=some (Bo v1,[])/\(if v1=true then(Zme t x x1 (w (x2+1))=some r)else(some (Bo false,[])=some r)))))else(∃v2,Zma t.Name=some (Bo v2,[])/\(if v2=true then(∃v3,Z8 t.Arity 1 3=some (Bo v3,[])/\(if v3=true then(if(t.Rows.length:Int)<=8 then(∃v4,Zqx t.Rows=some (Bo v4,[])/\(some (Bo v4,[])=some r))else(some (Bo false,[])=some r))else(some (Bo false,[])=some r)))else(some (Bo false,[])=some r)))))/\
 (∀⦃a r⦄,Im (Zgp a=some r) (Zme a a.Rows (a.Rows.length:Int) 0=some r)))):=by
 and_intros
 all_goals intros
 all_goals unfold Im
 all_goals try simp only[Zmc,Zu5,Zqw,Zmd,Zqx,Zme,Zgp,Zmb,Zl8,Zma,Z8,mpl,dfs]
 all_goals try simp only[itb]
 all_goals try simp only[itf,gS,kk]
 all_goals repeat' first|refine exI λ_=>?_|refine anJ λ_ _=>?_|refine anI λ_=>?_|refine orE2 ?_ ?_|exact False.elim
 all_goals (intro h;first|rw[Zi Zu3.eq_1]|refine run Zbjf rfl ?_|refine run Zbjg rfl ?_|rw[Zi Zu6.eq_1]|refine run Zbjh rfl ?_|rw[Zi Zu8.eq_1]|refine run Zbji rfl ?_)
 all_goals (refine Yd ?_ h;clear h;simp +decide[*,kk,tI,tII,Zu4,Z4a,Z4b,Zu7,Z4c,Zu9,Z4d])
abbrev Z7p:=Zil.1.1
abbrev Zbmd:=Zil.1.2.1
abbrev Zbme:=Zil.1.2.2
abbrev Zyo:=Zil.2.1.1
abbrev Zbmf:=Zil.2.1.2
abbrev Z7q:=Zil.2.2.1
abbrev Zbmg:=Zil.2.2.2
theorem Zd8:(((∀⦃db x x1 x2 r⦄,Im (Zjk db x x1 x2=some r) (if x2<x1 then(0<=x2/\(∃e1,x[x2.toNat]?=some e1/\(∃v1,Zgp e1=some (Bo v1,[])/\(if v1=true then(if 0<x2 then(0<=(w (x2-1))/\(∃e3,db.Tables[(w (x2-1)).toNat]?=some e3/\(if(Op.bytesLess e3.Name.toList e1.Name.toList)=true then(Zjk db x x1 (w (x2+1))=some r)else(some (Bo false,[])=some r))))else(Zjk db x x1 (w (x2+1))=some r))else(some (Bo false,[])=some r)))))else(some (Bo (decide ((db.Tables.length:Int)<=6)),[])=some r)))/\
 ((∀⦃a r⦄,Im (Zhr a=some r) (Zjk a a.Tables (a.Tables.length:Int) 0=some r))/\
 (∀⦃cc cl i r⦄,Im (Zmf cc cl i=some r) (¬i<0/\(if(shrI cl i)=0 then(some (.own 0,[.arr 3 1 true (cc.map ic)])=some r)else(if(andI (shrI cl i) 1)=1 then(cc.length+1<=68719476736/\(Zmf (cc++[i]) cl (w (i+1))=some r))else(Zmf cc cl (w (i+1))=some r)))))))/\
 ((∀⦃a r⦄,Im (Zev a=some r) (Zmf ([]:List Int) a 0=some r))/\
 ((∀⦃cc c cl r⦄,Im (Zhs cc c cl=some r) (¬c<0/\(if cl<(shlI 1 c)then(∃(v:List Int),Zev cl=some (.own 0,[.arr 3 1 true (v.map ic)])/\(cc.length+1<=68719476736/\(Zhs (cc++[v]) c (w (cl+1))=some r)))else(some (.own 0,[.arr 99 1 true (cc.map isc)])=some r))))/\
 (∀⦃a r⦄,Im (Zjl a=some r) (∃v,Z8 a 1 3=some (Bo v,[])/\(if v=true then(Zhs ([]:List (List Int)) a 1=some r)else(some (.t .nil,[])=some r)))))))/\
 (((∀⦃cd c x x1 x2 r⦄,Im (Zjm cd c x x1 x2=some r) (if x2<x1 then(0<=x2/\(∃e1,x[x2.toNat]?=some e1/\(∃v1,Z8 e1 0 (w (c-1))=some (Bo v1,[])/\(if v1=true then(if 0<x2 then(0<=(w (x2-1))/\(∃e3,cd[(w (x2-1)).toNat]?=some e3/\(if e1<=e3 then(some (Bo false,[])=some r)else(Zjm cd c x x1 (w (x2+1))=some r))))else(Zjm cd c x x1 (w (x2+1))=some r))else(some (Bo false,[])=some r)))))else(some (Bo true,[])=some r)))/\
 ((∀⦃a a1 r⦄,Im (Zht a a1=some r) (Zjm a a1 a (a.length:Int) 0=some r))/\
 (∀⦃cc cn x x1 x2 r⦄,Im (Zmg cc cn x x1 x2=some r) (if x2<x1 then(0<=x2/\(∃e1,x[x2.toNat]?=some e1/\(∃v1,Z8 e1 0 (w ((cn.length:Int)-1))=some (Bo v1,[])/\(if v1=true then(0<=e1/\(∃e3,cn[e1.toNat]?=some e3/\(cc.length+1<=68719476736/\(Zmg (cc++[e3]) cn x x1 (w (x2+1))=some r))))else(some (.tup [.t .nil,Bo false],[])=some r)))))else(some (.tup [.own 0,Bo true],[.arr 3 1 true (cc.map ic)])=some r)))))/\
 ((∀⦃a a1 r⦄,Im (Zcz a a1=some r) (Zmg ([]:List Int) a a1 (a1.length:Int) 0=some r))/\
 ((∀⦃a r⦄,Im (Zmh a=some r) (∃(v:List (List Int)),Zgo a=some (.own 0,[.arr 99 1 true (v.map isc)])/\(∃(v1:List (List Int)),Zvk v=some (.tup [],[.arr 99 1 true (v1.map isc)])/\(∃(v2:List (List Int)),Zvl v1=some (.own 1,[.dead,.arr 99 1 true (v2.map isc)])/\(some (.own 0,[.arr 99 1 true (v2.map isc)])=some r)))))/\
 (∀⦃s1 s2 x x1 r⦄,Im (Zjn s1 s2 x x1=some r) (if x1<x then(0<=x1/\(∃e1,s1[x1.toNat]?=some e1/\(∃e2,s2[x1.toNat]?=some e2/\(if e1=e2 then(Zjn s1 s2 x (w (x1+1))=some r)else(some (Bo false,[])=some r)))))else(some (Bo true,[])=some r)))))):=by
 and_intros
 all_goals intros
 all_goals unfold Im
 all_goals try simp only[Zjk,Zhr,Zmf,Zev,Zhs,Zjl,Zjm,Zht,Zmg,Zcz,Zmh,Zjn,Zgp,Zc.c_def,Z8,Zgo,Zvk,Zvl,mpl,dfs]
 all_goals try simp only[itb]
 all_goals try simp only[itf,gS,kk]
 all_goals repeat' first|refine exI λ_=>?_|refine anJ λ_ _=>?_|refine anI λ_=>?_|refine orE2 ?_ ?_|exact False.elim
 all_goals (intro h;first|rw[Zi Zva.eq_1]|refine run Zbjj rfl ?_|rw[Zi Zvc.eq_1]|refine run Zbjk rfl ?_|rw[Zi Zve.eq_1]|refine run Zbjl rfl ?_|rw[Zi Zvg.eq_1]|refine run Zbjm rfl ?_|rw[Zi Zvi.eq_1]|refine run Zbjn rfl ?_|refine run Zbjo rfl ?_|rw[Zi Zvm.eq_1])
 all_goals (refine Yd ?_ h;clear h;simp +decide[*,kk,tI,tII,Zvb,Z4e,Zvd,Z4f,Z4g,Zvf,Z4h,Zvh,Z4i,Zvj,Z4j,Z4k,Zvn])
abbrev Z7r:=Zd8.1.1.1
abbrev Zbmh:=Zd8.1.1.2.1
abbrev Zim:=Zd8.1.1.2.2
abbrev Zin:=Zd8.1.2.1
abbrev Z7s:=Zd8.1.2.2.1
abbrev Zbmi:=Zd8.1.2.2.2
abbrev Z7t:=Zd8.2.1.1
abbrev Zbmj:=Zd8.2.1.2.1
abbrev Z7u:=Zd8.2.1.2.2
abbrev Zbmk:=Zd8.2.2.1
abbrev Zbml:=Zd8.2.2.2.1
abbrev Z7v:=Zd8.2.2.2.2
theorem Zfh:(((∀⦃a a1 r⦄,Im (Zfe a a1=some r) (if(a.length:Int)=(a1.length:Int)then(Zjn a a1 (a.length:Int) 0=some r)else(some (Bo false,[])=some r)))/\
 (∀⦃all cp co x x1 r⦄,Im (Zhv all cp co x x1=some r) (if x1<x then(0<=x1/\(∃e1,cp[x1.toNat]?=some e1/\(Zjo all cp co x1 e1 x x1 (all.length:Int) 0=some r)))else(some (.tup [.own 0,.own 1],[.arr 99 1 true (cp.map isc),.arr 3 1 true (co.map ic)])=some r))))/\
 ((∀⦃all cp co i g x x1 x2 x3 r⦄,Im (Zjo all cp co i g x x1 x2 x3=some r) (if x3<x2 then(0<=x3/\(∃e1,all[x3.toNat]?=some e1/\(∃v1,Zfe g e1=some (Bo v1,[])/\(if v1=true then(0<=i/\(∃e3,co[i.toNat]?=some e3/\(Zjo all cp (co.set i.toNat (w (e3+1))) i g x x1 x2 (w (x3+1))=some r)))else(Zjo all cp co i g x x1 x2 (w (x3+1))=some r)))))else(Zhv all cp co x (w (x1+1))=some r)))/\
 ((∀⦃a a1 r⦄,Im (Zhu a a1=some r) (∃v,Zgp a=some (Bo v,[])/\(if v=true then(∃v1,Zht a1 a.Arity=some (Bo v1,[])/\(if v1=true then(Zfr ([]:List (List Int)) a1 a.Rows (a.Rows.length:Int) 0=some r)else(some (.tup [.t .nil,.t .nil],[])=some r)))else(some (.tup [.t .nil,.t .nil],[])=some r))))/\
 (∀⦃t cz cy cl cv cn cc x x1 x2 r⦄,Im (Zvs t cz cy cl cv cn cc x x1 x2=some r) (if x2<x1 then(0<=x2/\(∃e1,x[x2.toNat]?=some e1/\((Zhu t e1=some (.tup [.t .nil,.t .nil],[])/\(Zhx t cz cy cl cv cn cc false ([(⟨e1,[],[]⟩:Zj)]) x x1 (w (x2+1))=some r))\/(∃(v4:List (List Int)) (v5:List Int),Zhu t e1=some (.tup [.own 0,.own 1],[.arr 99 1 true (v4.map isc),.arr 3 1 true (v5.map ic)])/\(Zhx t cz cy cl cv cn cc false ([(⟨e1,v4,v5⟩:Zj)]) x x1 (w (x2+1))=some r)))))else(some (.agg [.t (.str cv),I cn,I cc,.t .nil],[])=some r))))))/\
 (((∀⦃t cz cy cl cv cn cc fr x x1 x2 x3 r⦄,Im (Zhx t cz cy cl cv cn cc fr x x1 x2 x3=some r) (if x3<x2 then(0<=x3/\(∃e1,x1[x3.toNat]?=some e1/\((Zhu t e1=some (.tup [.t .nil,.t .nil],[])/\(x.length+1<=68719476736/\(Zhx t cz cy cl cv cn cc false (x++[(⟨e1,[],[]⟩:Zj)]) x1 x2 (w (x3+1))=some r)))\/(∃(v4:List (List Int)) (v5:List Int),Zhu t e1=some (.tup [.own 0,.own 1],[.arr 99 1 true (v4.map isc),.arr 3 1 true (v5.map ic)])/\(x.length+1<=68719476736/\(Zhx t cz cy cl cv cn cc false (x++[(⟨e1,v4,v5⟩:Zj)]) x1 x2 (w (x3+1))=some r))))))else(some (.agg [.t (.str cv),I cn,I cc,.own 0],[.arr 193 3 fr (x.map Zj.c)])=some r)))/\
 (∀⦃a r⦄,Im (Zhw a=some r) (∃v,Zgp a=some (Bo v,[])/\(if v=true then((Zjl a.Arity=some (.t .nil,[])/\(Z4p a (⟨#[]⟩:ByteArray) 0 0 a.Name a.Arity (a.Rows.length:Int) 0 0=some r))\/(∃(v4:List (List Int)),Zjl a.Arity=some (.own 0,[.arr 99 1 true (v4.map isc)])/\(Zvs a (⟨#[]⟩:ByteArray) 0 0 a.Name a.Arity (a.Rows.length:Int) v4 (v4.length:Int) 0=some r)))else(some (.agg [.t (.str (⟨#[]⟩:ByteArray)),I 0,I 0,.t .nil],[])=some r)))))/\
 ((∀⦃cu cd x x1 x2 r⦄,Im (Zvt cu cd x x1 x2=some r) (if x2<x1 then(0<=x2/\(∃e1,x[x2.toNat]?=some e1/\((∃v1 v2 v3,Zhw e1=some (.agg [.t (.str v1),I v2,I v3,.t .nil],[])/\(Zhy cu cd true ([(⟨v1,v2,v3,[]⟩:Zd)]) x x1 (w (x2+1))=some r))\/(∃v4,∃(v5:List Zj),∃v6,∃v7,∃v8,Zhw e1=some (.agg [.t (.str v6),I v7,I v8,.own 0],[.arr 193 3 v4 (v5.map Zj.c)])/\(Zhy cu cd v4 ([(⟨v6,v7,v8,v5⟩:Zd)]) x x1 (w (x2+1))=some r)))))else(some (.tup [.agg [I cd,.t .nil],Bo true],[])=some r)))/\
 ((∀⦃cu cd fr x x1 x2 x3 r⦄,Im (Zhy cu cd fr x x1 x2 x3=some r) (if x3<x2 then(0<=x3/\(∃e1,x1[x3.toNat]?=some e1/\((∃v1 v2 v3,Zhw e1=some (.agg [.t (.str v1),I v2,I v3,.t .nil],[])/\(x.length+1<=68719476736/\(Zhy cu cd fr (x++[(⟨v1,v2,v3,[]⟩:Zd)]) x1 x2 (w (x3+1))=some r)))\/(∃v4,∃(v5:List Zj),∃v6,∃v7,∃v8,Zhw e1=some (.agg [.t (.str v6),I v7,I v8,.own 0],[.arr 193 3 v4 (v5.map Zj.c)])/\(x.length+1<=68719476736/\(Zhy cu cd (fr && v4) (x++[(⟨v6,v7,v8,v5⟩:Zd)]) x1 x2 (w (x3+1))=some r))))))else(some (.tup [.agg [I cd,.own 0],Bo true],[.arr 146 4 fr (x.map Zd.c)])=some r)))/\
 (∀⦃a a1 r⦄,Im (Zjp a a1=some r) (∃v,Zhr a=some (Bo v,[])/\(if v=true then(∃v1,Z8 a1 1 999=some (Bo v1,[])/\(if v1=true then(Zvt 0 a1 a.Tables (a.Tables.length:Int) 0=some r)else(some (.tup [.agg [I 0,.t .nil],Bo false],[])=some r)))else(some (.tup [.agg [I 0,.t .nil],Bo false],[])=some r))))))):=by
 and_intros
 all_goals intros
 all_goals unfold Im
 all_goals try simp only[Zfe,Zhv,Zjo,Zhu,Zvs,Zhx,Zhw,Zvt,Zhy,Zjp,Zgp,Zht,Zc.c_def,Zjl,Zhr,Z8,Zh.c_def,Zjn,Zfr,Z4p,mpl,dfs]
 all_goals try simp only[itb]
 all_goals try simp only[itf,gS,kk]
 all_goals repeat' first|refine exI λ_=>?_|refine anJ λ_ _=>?_|refine anI λ_=>?_|refine orE2 ?_ ?_|exact False.elim
 all_goals (intro h;first|refine run Zbjp rfl ?_|rw[Zi Zqy.eq_1]|rw[Zi Zvp.eq_1]|refine run Zbjq rfl ?_|rw[Zi Zmi.eq_1]|refine run Zbjr rfl ?_|rw[Zi Zq0.eq_1]|refine run Zbjs rfl ?_)
 all_goals (refine Yd ?_ h;clear h;simp +decide[*,kk,tI,tII,Z4l,Zqz,Z4m,Zvq,Z4n,Zmj,Z4o,Zq1,Z4q])
abbrev Zbmm:=Zfh.1.1.1
abbrev Z7w:=Zfh.1.1.2
abbrev Z7x:=Zfh.1.2.1
abbrev Zbmn:=Zfh.1.2.2.1
abbrev Zbmo:=Zfh.1.2.2.2
abbrev Z7y:=Zfh.2.1.1
abbrev Zbmp:=Zfh.2.1.2
abbrev Zbmq:=Zfh.2.2.1
abbrev Z7z:=Zfh.2.2.2.1
abbrev Zbmr:=Zfh.2.2.2.2
theorem Z70{all:List (List Int)}{c:List Int}{x:List (List Int)}{x1 x2:Int}{r:AV×List Blk}(h:(if x2<x1 then(0<=x2/\(∃(e1:List Int),x[x2.toNat]?=some e1/\((Zcz e1 c=some (.tup [.t .nil,Bo false],[])/\(all.length+1<=68719476736/\(Zfr (all++[[]]) c x x1 (w (x2+1))=some r)))\/(∃(v:List Int),Zcz e1 c=some (.tup [.own 0,Bo true],[.arr 3 1 true (v.map ic)])/\(all.length+1<=68719476736/\(Zfr (all++[v]) c x x1 (w (x2+1))=some r))))))else(∃(v1:List (List Int)),Zmh all=some (.own 0,[.arr 99 1 true (v1.map isc)])/\(0<=(v1.length:Int)/\((v1.length:Int)<=(v1.length:Int)/\((v1.length:Int).toNat*8<=room/\((v1.length:Int)<=140737488355328/\(Zhv all v1 (List.replicate ((v1.length:Int)).toNat 0) (v1.length:Int) 0=some r)))))))):Zfr all c x x1 x2=some r:=by
 unfold Zfr;rw[Zi Zvo.eq_1];by_cases q1:x2<x1
 .rw[if_pos q1]at h;obtain⟨q2,h⟩:=h;obtain⟨e1,q3,h⟩:=h;have gq3:=Z2q q3;have kq3:=getOf q3;rcases h with h|h
  .obtain⟨q4,h⟩:=h;unfold Zcz at q4
   try simp at q4
   obtain⟨q5,h⟩:=h;have rq5:=roomA (b:=24) q5 (by omega);have sq5:=roomB q5
   try simp[*]at rq5
   try simp[*]at sq5
   refine Yd ?_ h;clear h;simp +decide[*,tI,tII,Zfr]
  .obtain⟨v,q6,h⟩:=h;unfold Zcz at q6
   try simp at q6
   obtain⟨q7,h⟩:=h;have rq7:=roomA (b:=24) q7 (by omega);have sq7:=roomB q7
   try simp[*]at rq7
   try simp[*]at sq7
   refine Yd ?_ h;clear h;simp +decide[*,tI,tII,Zfr]
 .rw[if_neg q1]at h;obtain⟨v1,q8,h⟩:=h;unfold Zmh at q8
  try simp at q8
  obtain⟨q9,h⟩:=h;have zq9:=q9;try simp at zq9
  obtain⟨q10,h⟩:=h;have zq10:=q10;try simp at zq10
  obtain⟨q11,h⟩:=h;have zq11:=q11;try simp at zq11
  obtain⟨q12,h⟩:=h;have zq12:=q12;try simp at zq12
  refine Yd ?_ h;clear h;simp +decide[*,tI,tII,Zhv,Zvr]
theorem Zd9:(((∀⦃s2 x x1 r⦄,Im (Zvw s2 x x1=some r) (if x1<x then False else(some (Bo true,[])=some r)))/\
 ((∀⦃a r⦄,Im (Zvv a=some r) (if 0=(a.length:Int)then(Zvw a 0 0=some r)else(some (Bo false,[])=some r)))/\
 (∀⦃c a r⦄,Im (Zmm c a=some r) (if c=a.Version then(∃v1,Zvv a.Tables=some (Bo v1,[])/\(some (Bo v1,[])=some r))else(some (Bo false,[])=some r)))))/\
 ((∀⦃a a1 r⦄,Im (Zvy a a1=some r) (some (Bo (decide (a.Name=a1)),[])=some r))/\
 ((∀⦃s f x x1 r⦄,Im (Zmn s f x x1=some r) (if x1<x then(0<=x1/\(∃e1,s[x1.toNat]?=some e1/\(∃v3,Zvy e1 f=some (Bo v3,[])/\(if v3=true then(some (I x1,[])=some r)else(Zmn s f x (w (x1+1))=some r)))))else(some (I (-1),[])=some r)))/\
 (∀⦃a a1 r⦄,Im (Zv1 a a1=some r) (Zmn a a1 (a.length:Int) 0=some r)))))/\
 (((∀⦃a a1 r⦄,Im (Zbz a a1=some r) (∃v1,Zv1 a.Tables a1=some (I v1,[])/\(if v1<0 then(some (.tup [.agg [.t (.str (⟨#[]⟩:ByteArray)),I 0,.t .nil],Bo false],[])=some r)else(∃v3,Zhr a=some (Bo v3,[])/\(if v3=true then(0<=v1/\(∃e3,a.Tables[v1.toNat]?=some e3/\(∃(v7:List (List Int)),∃v8,∃v9,Zhq e3=some (.agg [.t (.str v8),I v9,.own 0],[.arr 99 1 true (v7.map isc)])/\(some (.tup [.agg [.t (.str v8),I v9,.own 0],Bo true],[.arr 99 1 true (v7.map isc)])=some r))))else(some (.tup [.agg [.t (.str (⟨#[]⟩:ByteArray)),I 0,.t .nil],Bo false],[])=some r))))))/\
 ((∀⦃s v x x1 r⦄,Im (Zmo s v x x1=some r) (if x1<x then(0<=x1/\(∃e1,s[x1.toNat]?=some e1/\(if v=e1 then(some (I x1,[])=some r)else(Zmo s v x (w (x1+1))=some r))))else(some (I (-1),[])=some r)))/\
 (∀⦃a a1 r⦄,Im (Zq2 a a1=some r) (Zmo a a1 (a.length:Int) 0=some r))))/\
 ((∀⦃a a1 r⦄,Im (Zjq a a1=some r) (∃v1,Zq2 a a1=some (I v1,[])/\(some (Bo (decide (0<=v1)),[])=some r)))/\
 ((∀⦃a a1 r⦄,Im (Zjr a a1=some r) ((∃v1 v2,Zbz a a1.Name=some (.tup [.agg [.t (.str v1),I v2,.t .nil],Bo false],[])/\(some (Bo false,[])=some r))\/(∃(v3:List (List Int)),∃v4,∃v5,Zbz a a1.Name=some (.tup [.agg [.t (.str v4),I v5,.own 0],Bo true],[.arr 99 1 true (v3.map isc)])/\(∃v6,Zht a1.From v5=some (Bo v6,[])/\(if v6=true then(∃v7,Z8 a1.To 0 (w (v5-1))=some (Bo v7,[])/\(if v7=true then(∃v10,Zjq a1.From a1.To=some (Bo v10,[])/\(some (Bo (!v10),[])=some r))else(some (Bo false,[])=some r)))else(some (Bo false,[])=some r))))))/\
 (∀⦃f t x x1 x2 r⦄,Im (Zhz f t x x1 x2=some r) (if x2<x1 then(0<=x2/\(∃e1,x[x2.toNat]?=some e1/\(x2.toNat<=t.Rows.length/\(Zcj f t x2 e1 x x1 x2 (t.Rows.take x2.toNat) ((t.Rows.take x2.toNat).length:Int) 0=some r))))else(some (.t .nil,[])=some r)))))):=by
 and_intros
 all_goals intros
 all_goals unfold Im
 all_goals try simp only[Zvw,Zvv,Zmm,Zvy,Zmn,Zv1,Zbz,Zmo,Zq2,Zjq,Zjr,Zhz,Zd.c_def,Zc.c_def,Zhr,Zhq,Zh.c_def,Zht,Z8,Zcj,mpl,dfs]
 all_goals try simp only[itb]
 all_goals try simp only[itf,gS,kk]
 all_goals repeat' first|refine exI λ_=>?_|refine anJ λ_ _=>?_|refine anI λ_=>?_|refine orE2 ?_ ?_|exact False.elim
 all_goals (intro h;first|rw[Zi Zmk.eq_1]|refine run Z7c rfl ?_|refine run Z7d rfl ?_|refine run Zbjt rfl ?_|rw[Zi Zvz.eq_1]|refine run Zbju rfl ?_|refine run Zbjv rfl ?_|rw[Zi Zv2.eq_1]|refine run Zbjw rfl ?_|refine run Zbjx rfl ?_|refine run Zbjy rfl ?_|rw[Zi Zmp.eq_1])
 all_goals (refine Yd ?_ h;clear h;simp +decide[*,kk,tI,tII,Zml,Zvu,Zvx,Z4r,Zv0,Z4s,Z4t,Zv3,Z4u,Z4v,Z4w,Zmq])
abbrev Zbms:=Zd9.1.1.1
abbrev Zbmt:=Zd9.1.1.2.1
abbrev Zbmu:=Zd9.1.1.2.2
abbrev Zbmv:=Zd9.1.2.1
abbrev Z71:=Zd9.1.2.2.1
abbrev Zbmw:=Zd9.1.2.2.2
abbrev Zbmx:=Zd9.2.1.1
abbrev Z72:=Zd9.2.1.2.1
abbrev Zbmy:=Zd9.2.1.2.2
abbrev Zbmz:=Zd9.2.2.1
abbrev Zbm0:=Zd9.2.2.2.1
abbrev Z73:=Zd9.2.2.2.2
theorem Zsf:((∀⦃f t k y x x1 x2 x3 x4 x5 r⦄,Im (Zcj f t k y x x1 x2 x3 x4 x5=some r) (if x5<x4 then(0<=x5/\(∃e1,x3[x5.toNat]?=some e1/\((Zcz e1 f.From=some (.tup [.t .nil,Bo false],[])/\((Zcz y f.From=some (.tup [.t .nil,Bo false],[])/\(∃v7,Z4x=some (Bo v7,[])/\(if v7=true then(0<=f.To/\(∃e5,e1[f.To.toNat]?=some e5/\(∃e6,y[f.To.toNat]?=some e6/\(if e5=e6 then(Zcj f t k y x x1 x2 x3 x4 (w (x5+1))=some r)else(some (.own 0,[.arr 3 1 true (([x5,k]).map ic)])=some r)))))else(Zcj f t k y x x1 x2 x3 x4 (w (x5+1))=some r))))\/(∃(v15:List Int),Zcz y f.From=some (.tup [.own 0,Bo true],[.arr 3 1 true (v15.map ic)])/\(∃v16,Z4y v15=some (Bo v16,[])/\(if v16=true then(0<=f.To/\(∃e9,e1[f.To.toNat]?=some e9/\(∃e10,y[f.To.toNat]?=some e10/\(if e9=e10 then(Zcj f t k y x x1 x2 x3 x4 (w (x5+1))=some r)else(some (.own 0,[.arr 3 1 true (([x5,k]).map ic)])=some r)))))else(Zcj f t k y x x1 x2 x3 x4 (w (x5+1))=some r))))))\/(∃(v17:List Int),Zcz e1 f.From=some (.tup [.own 0,Bo true],[.arr 3 1 true (v17.map ic)])/\((Zcz y f.From=some (.tup [.t .nil,Bo false],[])/\(∃v18,Z4z v17=some (Bo v18,[])/\(if v18=true then(0<=f.To/\(∃e14,e1[f.To.toNat]?=some e14/\(∃e15,y[f.To.toNat]?=some e15/\(if e14=e15 then(Zcj f t k y x x1 x2 x3 x4 (w (x5+1))=some r)else(some (.own 0,[.arr 3 1 true (([x5,k]).map ic)])=some r)))))else(Zcj f t k y x x1 x2 x3 x4 (w (x5+1))=some r))))\/(∃(v19:List Int),Zcz y f.From=some (.tup [.own 0,Bo true],[.arr 3 1 true (v19.map ic)])/\(∃v20,Zfe v17 v19=some (Bo v20,[])/\(if v20=true then(0<=f.To/\(∃e18,e1[f.To.toNat]?=some e18/\(∃e19,y[f.To.toNat]?=some e19/\(if e18=e19 then(Zcj f t k y x x1 x2 x3 x4 (w (x5+1))=some r)else(some (.own 0,[.arr 3 1 true (([x5,k]).map ic)])=some r)))))else(Zcj f t k y x x1 x2 x3 x4 (w (x5+1))=some r)))))))))else(Zhz f t x x1 (w (x2+1))=some r)))/\
 (∀⦃a a1 r⦄,Im (Zmr a a1=some r) (∃v,Zjr a a1=some (Bo v,[])/\(if v=true then((∃v2 v3,Zbz a a1.Name=some (.tup [.agg [.t (.str v2),I v3,.t .nil],Bo false],[])/\(Z41 a1 v2 v3 0 0=some r))\/(∃(v4:List (List Int)),∃v5,∃v6,Zbz a a1.Name=some (.tup [.agg [.t (.str v5),I v6,.own 0],Bo true],[.arr 99 1 true (v4.map isc)])/\(Zhz a1 (⟨v5,v6,v4⟩:Zc) v4 (v4.length:Int) 0=some r)))else(some (.t .nil,[])=some r)))))/\
 ((∀⦃a a1 r⦄,Im (Zms a a1=some r) (∃v,Zjr a a1=some (Bo v,[])/\(if v=true then((Zmr a a1=some (.t .nil,[])/\(some (Bo true,[])=some r))\/(∃(v4:List Int),Zmr a a1=some (.own 0,[.arr 3 1 true (v4.map ic)])/\(some (Bo (decide ((v4.length:Int)=0)),[])=some r)))else(some (Bo false,[])=some r))))/\
 (∀⦃a a1 r⦄,Im (Zjs a a1=some r) ((∃v v1,Zbz a a1.Name=some (.tup [.agg [.t (.str v),I v1,.t .nil],Bo false],[])/\((∃v2 v3,Zbz a a1.Into=some (.tup [.agg [.t (.str v2),I v3,.t .nil],Bo false],[])/\(some (Bo false,[])=some r))\/(∃(v4:List (List Int)),∃v5,∃v6,Zbz a a1.Into=some (.tup [.agg [.t (.str v5),I v6,.own 0],Bo true],[.arr 99 1 true (v4.map isc)])/\(some (Bo false,[])=some r))))\/(∃(v7:List (List Int)),∃v8,∃v9,Zbz a a1.Name=some (.tup [.agg [.t (.str v8),I v9,.own 0],Bo true],[.arr 99 1 true (v7.map isc)])/\((∃v10 v11,Zbz a a1.Into=some (.tup [.agg [.t (.str v10),I v11,.t .nil],Bo false],[])/\(some (Bo false,[])=some r))\/(∃(v12:List (List Int)),∃v13,∃v14,Zbz a a1.Into=some (.tup [.agg [.t (.str v13),I v14,.own 0],Bo true],[.arr 99 1 true (v12.map isc)])/\(∃v15,Z8 a1.Column 0 (w (v9-1))=some (Bo v15,[])/\(if v15=true then(∃v16,Z8 a1.IntoColumn 0 (w (v14-1))=some (Bo v16,[])/\(some (Bo v16,[])=some r))else(some (Bo false,[])=some r))))))))):=by
 and_intros
 all_goals intros
 all_goals unfold Im
 all_goals try simp only[Zcj,Zmr,Zms,Zjs,Zcz,Z4x,Z4y,Z4z,Zfe,Zjr,Zbz,Zh.c_def,Ze.c_def,Z8,Zhz,Z41,mpl,dfs]
 all_goals try simp only[itb]
 all_goals try simp only[itf,gS,kk]
 all_goals repeat' first|refine exI λ_=>?_|refine anJ λ_ _=>?_|refine anI λ_=>?_|refine orE2 ?_ ?_|exact False.elim
 all_goals (intro h;first|rw[Zi Zv4.eq_1]|refine run Zbjz rfl ?_|refine run Zbj0 rfl ?_|refine run Zbj1 rfl ?_)
 all_goals (refine Yd ?_ h;clear h;simp +decide[*,kk,tI,tII,Zv5,Z40,Z42,Z43])
abbrev Z74:=Zsf.1.1
abbrev Zbm1:=Zsf.1.2
abbrev Zbm2:=Zsf.2.1
abbrev Zbm3:=Zsf.2.2
theorem Zea:(((∀⦃x co cn x1 cd x2 x3 x4 r⦄,Im (Zmu x co cn x1 cd x2 x3 x4=some r) (if x4<x3 then(0<=x4/\(∃e1,x2[x4.toNat]?=some e1/\(0<=x.IntoColumn/\(∃e2,e1[x.IntoColumn.toNat]?=some e2/\(cd.length+1<=68719476736/\(Zmu x co cn x1 (cd++[e2]) x2 x3 (w (x4+1))=some r))))))else(Zjv x cd ([]:List Int) x1 (x1.length:Int) 0=some r)))/\
 ((∀⦃x cd cl x1 x2 x3 r⦄,Im (Zjv x cd cl x1 x2 x3=some r) (if x3<x2 then(0<=x3/\(∃e1,x1[x3.toNat]?=some e1/\(0<=x.Column/\(∃e2,e1[x.Column.toNat]?=some e2/\(∃v3,Zjq cd e2=some (Bo v3,[])/\(if v3=true then(Zjv x cd cl x1 x2 (w (x3+1))=some r)else(cl.length+1<=68719476736/\(Zjv x cd (cl++[e2]) x1 x2 (w (x3+1))=some r))))))))else(∃(v5:List Int),Zq3 cl=some (.tup [],[.arr 3 1 true (v5.map ic)])/\(∃(v8:List Int),Zq4 v5=some (.own 1,[.dead,.arr 3 1 true (v8.map ic)])/\(some (.own 0,[.arr 3 1 true (v8.map ic)])=some r)))))/\
 (∀⦃a a1 r⦄,Im (Zmt a a1=some r) (∃v,Zjs a a1=some (Bo v,[])/\(if v=true then((∃v1 v2,Zbz a a1.Name=some (.tup [.agg [.t (.str v1),I v2,.t .nil],Bo false],[])/\((∃v3 v4,Zbz a a1.Into=some (.tup [.agg [.t (.str v3),I v4,.t .nil],Bo false],[])/\(Z46 a1 v1 v2 ([]:List Int) 0 0=some r))\/(∃(v5:List (List Int)),∃v6,∃v7,Zbz a a1.Into=some (.tup [.agg [.t (.str v6),I v7,.own 0],Bo true],[.arr 99 1 true (v5.map isc)])/\(Z47 a1 v1 v2 ([]:List Int) v5 (v5.length:Int) 0=some r))))\/(∃(v8:List (List Int)),∃v9,∃v10,Zbz a a1.Name=some (.tup [.agg [.t (.str v9),I v10,.own 0],Bo true],[.arr 99 1 true (v8.map isc)])/\((∃v11 v12,Zbz a a1.Into=some (.tup [.agg [.t (.str v11),I v12,.t .nil],Bo false],[])/\(Z48 a1 v9 v10 v8 ([]:List Int) 0 0=some r))\/(∃(v13:List (List Int)),∃v14,∃v15,Zbz a a1.Into=some (.tup [.agg [.t (.str v14),I v15,.own 0],Bo true],[.arr 99 1 true (v13.map isc)])/\(Zmu a1 v9 v10 v8 ([]:List Int) v13 (v13.length:Int) 0=some r)))))else(some (.t .nil,[])=some r))))))/\
 ((∀⦃a a1 r⦄,Im (Zq5 a a1=some r) (∃v,Zjs a a1=some (Bo v,[])/\(if v=true then((Zmt a a1=some (.t .nil,[])/\(some (Bo true,[])=some r))\/(∃(v3:List Int),Zmt a a1=some (.own 0,[.arr 3 1 true (v3.map ic)])/\(some (Bo (decide ((v3.length:Int)=0)),[])=some r)))else(some (Bo false,[])=some r))))/\
 ((∀⦃db cc c x x1 x2 r⦄,Im (Zmv db cc c x x1 x2=some r) (if x2<x1 then(0<=x2/\(∃e1,x[x2.toNat]?=some e1/\(∃v1,Zms db e1=some (Bo v1,[])/\(if v1=true then(Zmv db cc c x x1 (w (x2+1))=some r)else(some (Bo false,[])=some r)))))else(Zmw db cc c c (c.length:Int) 0=some r)))/\
 (∀⦃db cc c x x1 x2 r⦄,Im (Zmw db cc c x x1 x2=some r) (if x2<x1 then(0<=x2/\(∃e1,x[x2.toNat]?=some e1/\(∃v1,Zq5 db e1=some (Bo v1,[])/\(if v1=true then(Zmw db cc c x x1 (w (x2+1))=some r)else(some (Bo false,[])=some r)))))else(if(cc.length:Int)<=8 then(some (Bo (decide ((c.length:Int)<=8)),[])=some r)else(some (Bo false,[])=some r)))))))/\
 (((∀⦃a a1 a2 r⦄,Im (Zjw a a1 a2=some r) (Zmv a a1 a2 a1 (a1.length:Int) 0=some r))/\
 ((∀⦃a a1 r⦄,Im (Zwc a a1=some r) (∃v,Zfe a a1=some (Bo v,[])/\(some (Bo v,[])=some r)))/\
 (∀⦃s2 x x1 x2 r⦄,Im (Zmx s2 x x1 x2=some r) (if x2<x1 then(0<=x2/\(∃e1,x[x2.toNat]?=some e1/\(∃e2,s2[x2.toNat]?=some e2/\(∃v3,Zwc e1 e2=some (Bo v3,[])/\(if v3=true then(Zmx s2 x x1 (w (x2+1))=some r)else(some (Bo false,[])=some r))))))else(some (Bo true,[])=some r)))))/\
 ((∀⦃a a1 r⦄,Im (Zwf a a1=some r) (if(a.length:Int)=(a1.length:Int)then(Zmx a1 a (a.length:Int) 0=some r)else(some (Bo false,[])=some r)))/\
 ((∀⦃a a1 r⦄,Im (Zq6 a a1=some r) (∃v,Zwf a a1=some (Bo v,[])/\(some (Bo v,[])=some r)))/\
 (∀⦃a a1 r⦄,Im (Zmy a a1=some r) (∃v,Zfe a.Columns a1.Columns=some (Bo v,[])/\(if v=true then(∃v1,Zq6 a.Values a1.Values=some (Bo v1,[])/\(if v1=true then(∃v3,Zfe a.Counts a1.Counts=some (Bo v3,[])/\(some (Bo v3,[])=some r))else(some (Bo false,[])=some r)))else(some (Bo false,[])=some r))))))):=by
 and_intros
 all_goals intros
 all_goals unfold Im
 all_goals try simp only[Zmu,Zjv,Zmt,Zq5,Zmv,Zmw,Zjw,Zwc,Zmx,Zwf,Zq6,Zmy,Zjq,Zq3,Zq4,Zjs,Zbz,Zh.c_def,Zf.c_def,Zms,Ze.c_def,Zfe,Z46,Z47,Z48,mpl,dfs]
 all_goals try simp only[itb]
 all_goals try simp only[itf,gS,kk]
 all_goals repeat' first|refine exI λ_=>?_|refine anJ λ_ _=>?_|refine anI λ_=>?_|refine orE2 ?_ ?_|exact False.elim
 all_goals (intro h;first|rw[Zi Zjt.eq_1]|rw[Zi Zv6.eq_1]|refine run Zbj2 rfl ?_|refine run Zbj3 rfl ?_|rw[Zi Zv8.eq_1]|rw[Zi Zv9.eq_1]|refine run Zbj4 rfl ?_|refine run Zbj5 rfl ?_|rw[Zi Zwd.eq_1]|refine run Zbj6 rfl ?_|refine run Zbj7 rfl ?_|refine run Zbj8 rfl ?_)
 all_goals (refine Yd ?_ h;clear h;simp +decide[*,kk,tI,tII,Zju,Z44,Zv7,Z45,Z49,Zwb,Zwa,Z5a,Z5b,Zwe,Z5c,Z5d,Z5e])
abbrev Z75:=Zea.1.1.1
abbrev Z76:=Zea.1.1.2.1
abbrev Zbm4:=Zea.1.1.2.2
abbrev Zbm5:=Zea.1.2.1
abbrev Z77:=Zea.1.2.2.1
abbrev Z78:=Zea.1.2.2.2
abbrev Zbm6:=Zea.2.1.1
abbrev Zbm7:=Zea.2.1.2.1
abbrev Z79:=Zea.2.1.2.2
abbrev Zbm8:=Zea.2.2.1
abbrev Zbm9:=Zea.2.2.2.1
abbrev Zbna:=Zea.2.2.2.2
theorem Zfy:(((∀⦃s2 x x1 x2 r⦄,Im (Zmz s2 x x1 x2=some r) (if x2<x1 then(0<=x2/\(∃e1,x[x2.toNat]?=some e1/\(∃e2,s2[x2.toNat]?=some e2/\(∃v3,Zmy e1 e2=some (Bo v3,[])/\(if v3=true then(Zmz s2 x x1 (w (x2+1))=some r)else(some (Bo false,[])=some r))))))else(some (Bo true,[])=some r)))/\
 (∀⦃a a1 r⦄,Im (Zwi a a1=some r) (if(a.length:Int)=(a1.length:Int)then(Zmz a1 a (a.length:Int) 0=some r)else(some (Bo false,[])=some r))))/\
 ((∀⦃a a1 r⦄,Im (Zq7 a a1=some r) (if a.Name=a1.Name then(if a.Arity=a1.Arity then(if a.RowCount=a1.RowCount then(∃v,Zwi a.Groups a1.Groups=some (Bo v,[])/\(some (Bo v,[])=some r))else(some (Bo false,[])=some r))else(some (Bo false,[])=some r))else(some (Bo false,[])=some r)))/\
 (∀⦃s2 x x1 x2 r⦄,Im (Zm0 s2 x x1 x2=some r) (if x2<x1 then(0<=x2/\(∃e1,x[x2.toNat]?=some e1/\(∃e2,s2[x2.toNat]?=some e2/\(∃v3,Zq7 e1 e2=some (Bo v3,[])/\(if v3=true then(Zm0 s2 x x1 (w (x2+1))=some r)else(some (Bo false,[])=some r))))))else(some (Bo true,[])=some r)))))/\
 (((∀⦃a a1 r⦄,Im (Zwj a a1=some r) (if(a.length:Int)=(a1.length:Int)then(Zm0 a1 a (a.length:Int) 0=some r)else(some (Bo false,[])=some r)))/\
 (∀⦃a a1 r⦄,Im (Zq8 a a1=some r) (if a.Version=a1.Version then(∃v,Zwj a.Tables a1.Tables=some (Bo v,[])/\(some (Bo v,[])=some r))else(some (Bo false,[])=some r))))/\
 ((∀⦃a r⦄,Im (Zm1 a=some r) ((∃v v1,Zjp a.Zh a.Zk.Version=some (.tup [.agg [I v,.t .nil],Bo v1],[])/\(if v1=true then(∃v2,Zmm v a.Zk=some (Bo v2,[])/\(if v2=true then(∃v3,Zjw a.Zh a.Dependencies a.Inclusions=some (Bo v3,[])/\(some (Bo v3,[])=some r))else(some (Bo false,[])=some r)))else(some (Bo false,[])=some r)))\/(∃v4,∃(v5:List Zd),∃v6,Zjp a.Zh a.Zk.Version=some (.tup [.agg [I v6,.own 0],Bo true],[.arr 146 4 v4 (v5.map Zd.c)])/\(∃v7,Zq8 (⟨v6,v5⟩:Zk) a.Zk=some (Bo v7,[])/\(if v7=true then(∃v8,Zjw a.Zh a.Dependencies a.Inclusions=some (Bo v8,[])/\(some (Bo v8,[])=some r))else(some (Bo false,[])=some r))))))/\
 ((∀⦃x r⦄,Im (Zh0 x=some r) (some (.bsl 1 5,[.box (x.c.map .t),.box [.ptr 0 0,.ptr 0 6,.ptr 0 12,.ptr 0 18,.ptr 0 24]])=some r))/\
 (∀⦃x r⦄,Im (Zm2 x=some r) (some (.bsl 1 5,[.box (x.c.map .t),.box [.ptr 0 0,.ptr 0 1,.ptr 0 2,.ptr 0 3,.ptr 0 4]])=some r))))):=by
 and_intros
 all_goals intros
 all_goals unfold Im
 all_goals try simp only[Zmz,Zwi,Zq7,Zm0,Zwj,Zq8,Zm1,Zh0,Zm2,Zmy,Zj.c_def,Zd.c_def,Zjp,Zmm,Zjw,Zk.c_def,Zh.c_def,Ze.c_def,Zf.c_def,mpl,dfs]
 all_goals try simp only[itb]
 all_goals try simp only[itf,gS,kk]
 all_goals repeat' first|refine exI λ_=>?_|refine anJ λ_ _=>?_|refine anI λ_=>?_|refine orE2 ?_ ?_|exact False.elim
 all_goals (intro h;first|rw[Zi Zwg.eq_1]|refine run Zbj9 rfl ?_|refine run Zbka rfl ?_|rw[Zi Zmk.eq_1]|refine run Z7c rfl ?_|refine run Z7d rfl ?_|refine run Zbkb rfl ?_|refine runM Zbkc rfl ?_|refine runM Zbkd rfl ?_)
 all_goals (refine Yd ?_ h;clear h;simp +decide[*,kk,tI,tII,Zwh,Z5f,Z5g,Zml,Zvu,Zvx,Z5h,Z5i,Z5j])
abbrev Z8a:=Zfy.1.1.1
abbrev Zbnb:=Zfy.1.1.2
abbrev Zbnc:=Zfy.1.2.1
abbrev Z8b:=Zfy.1.2.2
abbrev Zbnd:=Zfy.2.1.1
abbrev Zbne:=Zfy.2.1.2
abbrev Zbnf:=Zfy.2.2.1
abbrev Z8c:=Zfy.2.2.2.1
abbrev Zbng:=Zfy.2.2.2.2
theorem Zky{o:Zm}{x x1:Int}{r:AV×List Blk}(h:(if x1<x then(if x1=0 then(∃(v:Bool),Z8 o.Fixed (-99) 99=some (Bo v,[])/\(if v=true then(Zc8 o x (w (x1+1))=some r)else(some (Bo false,[])=some r)))else(if x1=1 then(∃(v1:Bool),Z8 o.Zn (-99) 99=some (Bo v1,[])/\(if v1=true then(Zc8 o x (w (x1+1))=some r)else(some (Bo false,[])=some r)))else(if x1=2 then(∃(v2:Bool),Z8 o.Zo (-99) 99=some (Bo v2,[])/\(if v2=true then(Zc8 o x (w (x1+1))=some r)else(some (Bo false,[])=some r)))else(if x1=3 then(∃(v3:Bool),Z8 o.Zp (-99) 99=some (Bo v3,[])/\(if v3=true then(Zc8 o x (w (x1+1))=some r)else(some (Bo false,[])=some r)))else(if x1=4 then(∃(v4:Bool),Z8 o.Zq (-99) 99=some (Bo v4,[])/\(if v4=true then(Zc8 o x (w (x1+1))=some r)else(some (Bo false,[])=some r)))else False)))))else(Zgq o o.Steps (o.Steps.length:Int) 0=some r))):Zc8 o x x1=some r:=by
 unfold Zc8;rw[Zi Zwk.eq_1];by_cases q1:x1<x
 .rw[if_pos q1]at h;by_cases q2:x1=0
  .rw[if_pos q2]at h;subst q2;obtain⟨v,q3,h⟩:=h;unfold Z8 at q3
   try simp at q3
   by_cases q4:v=true
   .rw[if_pos q4]at h;refine Yd ?_ h;clear h;simp +decide[*,tI,tII,Zc8]
   .rw[if_neg q4]at h;refine Yd ?_ h;clear h;simp +decide[*,tI,tII]
  .rw[if_neg q2]at h;replace q2:=eq_false q2;by_cases q5:x1=1
   .rw[if_pos q5]at h;subst q5;obtain⟨v1,q6,h⟩:=h;unfold Z8 at q6
    try simp at q6
    by_cases q7:v1=true
    .rw[if_pos q7]at h;refine Yd ?_ h;clear h;simp +decide[*,tI,tII,Zc8]
    .rw[if_neg q7]at h;refine Yd ?_ h;clear h;simp +decide[*,tI,tII]
   .rw[if_neg q5]at h;replace q5:=eq_false q5;by_cases q8:x1=2
    .rw[if_pos q8]at h;subst q8;obtain⟨v2,q9,h⟩:=h;unfold Z8 at q9
     try simp at q9
     by_cases q10:v2=true
     .rw[if_pos q10]at h;refine Yd ?_ h;clear h;simp +decide[*,tI,tII,Zc8]
     .rw[if_neg q10]at h;refine Yd ?_ h;clear h;simp +decide[*,tI,tII]
    .rw[if_neg q8]at h;replace q8:=eq_false q8;by_cases q11:x1=3
     .rw[if_pos q11]at h;subst q11;obtain⟨v3,q12,h⟩:=h;unfold Z8 at q12
      try simp at q12
      by_cases q13:v3=true
      .rw[if_pos q13]at h;refine Yd ?_ h;clear h;simp +decide[*,tI,tII,Zc8]
      .rw[if_neg q13]at h;refine Yd ?_ h;clear h;simp +decide[*,tI,tII]
     .rw[if_neg q11]at h;replace q11:=eq_false q11;by_cases q14:x1=4
      .rw[if_pos q14]at h;subst q14;obtain⟨v4,q15,h⟩:=h;unfold Z8 at q15
       try simp at q15
       by_cases q16:v4=true
       .rw[if_pos q16]at h;refine Yd ?_ h;clear h;simp +decide[*,tI,tII,Zc8]
       .rw[if_neg q16]at h;refine Yd ?_ h;clear h;simp +decide[*,tI,tII]
      .rw[if_neg q14]at h;replace q14:=eq_false q14;cases h
 .rw[if_neg q1]at h;refine Yd ?_ h;clear h;simp +decide[*,tI,tII,Zgq,Zwn]
theorem Zeb:(((∀⦃o x x1 x2 r⦄,Im (Zgq o x x1 x2=some r) (if x2<x1 then(0<=x2/\(∃e1,x[x2.toNat]?=some e1/\(∃v1,Z8 e1.Add (-99) 99=some (Bo v1,[])/\(if v1=true then(∃v2,Z8 e1.From 1 8192=some (Bo v2,[])/\(if v2=true then(if 0<x2 then(0<=(w (x2-1))/\(∃e4,o.Steps[(w (x2-1)).toNat]?=some e4/\(if e1.From<=e4.From then(some (Bo false,[])=some r)else(Zgq o x x1 (w (x2+1))=some r))))else(Zgq o x x1 (w (x2+1))=some r))else(some (Bo false,[])=some r)))else(some (Bo false,[])=some r)))))else(some (Bo (decide ((o.Steps.length:Int)<=4)),[])=some r)))/\
 ((∀⦃a r⦄,Im (Zb4 a=some r) (Zm2 a=some (.bsl 1 5,[.box (a.c.map .t),.box [.ptr 0 0,.ptr 0 1,.ptr 0 2,.ptr 0 3,.ptr 0 4]])/\(Zc8 a 5 0=some r)))/\
 (∀⦃cc a r⦄,Im (Zjx cc a=some r) (if a<=7 then(Zh1 cc a 0=some r)else(some (.own 0,[.arr 99 1 true (cc.map isc)])=some r)))))/\
 ((∀⦃cc a b r⦄,Im (Zh1 cc a b=some r) (if b<=7 then(Zjy cc a b 0=some r)else(Zjx cc (w (a+1))=some r)))/\
 ((∀⦃cc a b c r⦄,Im (Zjy cc a b c=some r) (if c<=7 then(cc.length+1<=68719476736/\(Zjy (cc++[[a,b,c]]) a b (w (c+1))=some r))else(Zh1 cc a (w (b+1))=some r)))/\
 (∀⦃r⦄,Im (Zc0=some r) (Zjx ([]:List (List Int)) 0=some r)))))/\
 (((∀⦃a r⦄,Im (Zjz a=some r) (∃v,Z8 a 0 7=some (Bo v,[])/\(if v=true then(if a=0 then(some (I 0,[])=some r)else(¬(w (2*(w (a-1))))<0/\(some (I (shlI 1 (w (2*(w (a-1))))),[])=some r)))else(some (I (-1),[])=some r))))/\
 ((∀⦃cl cd n x x1 x2 r⦄,Im (Zj0 cl cd n x x1 x2=some r) (if x2<x1 then(0<=x2/\(∃e1,x[x2.toNat]?=some e1/\(if e1.From<=(w (cl+cd))then(Zj0 cl cd (w (n+e1.Add)) x x1 (w (x2+1))=some r)else(Zj0 cl cd n x x1 (w (x2+1))=some r))))else(some (I n,[])=some r)))/\
 (∀⦃a a1 a2 a3 r⦄,Im (Zrb a a1 a2 a3=some r) (Zj0 a1 a2 (w ((w ((w ((w (a.Fixed+(w (a.Zn*a1))))+(w (a.Zo*a2))))+(w (a.Zp*a3))))+(w ((w (a.Zq*a1))*a2)))) a.Steps (a.Steps.length:Int) 0=some r))))/\
 ((∀⦃a a1 r⦄,Im (Zew a a1=some r) (∃e1,a1[0]?=some e1/\(∃v1,Zjz e1=some (I v1,[])/\(∃e3,a1[1]?=some e3/\(∃v3,Zjz e3=some (I v3,[])/\(∃e5,a1[2]?=some e5/\(∃v5,Zjz e5=some (I v5,[])/\(∃v6,Zrb a v1 v3 v5=some (I v6,[])/\(some (I v6,[])=some r)))))))))/\
 ((∀⦃o x x1 x2 r⦄,Im (Zfs o x x1 x2=some r) (if x2<x1 then(0<=x2/\(∃e1,x[x2.toNat]?=some e1/\(Zd3 o x e1 x1 x2 (e1.length:Int) 0=some r)))else(some (.tup [.t .nil,.t .nil,Bo false],[])=some r)))/\
 (∀⦃o x t x1 x2 x3 x4 r⦄,Im (Zd3 o x t x1 x2 x3 x4=some r) (if x4<x3 then(0<=x4/\(∃e1,t[x4.toNat]?=some e1/\(if e1=7 then(Zd3 o x t x1 x2 x3 (w (x4+1))=some r)else(∃(v1:List Int),Zfd t=some (.own 0,[.arr 3 1 true (v1.map ic)])/\(∃e3,v1[x4.toNat]?=some e3/\(∃v3,Zew o (v1.set x4.toNat (w (e3+1)))=some (I v3,[])/\(∃v4,Zew o t=some (I v4,[])/\(if v3<v4 then(some (.tup [L 1 (t.map ic),.own 0,Bo true],[.arr 3 1 true ((v1.set x4.toNat (w (e3+1))).map ic)])=some r)else(Zd3 o x t x1 x2 x3 (w (x4+1))=some r)))))))))else(Zfs o x x1 (w (x2+1))=some r)))))):=by
 and_intros
 all_goals intros
 all_goals unfold Im
 all_goals try simp only[Zgq,Zb4,Zjx,Zh1,Zjy,Zc0,Zjz,Zj0,Zrb,Zew,Zfs,Zd3,Z8,Zm2,Zm.c_def,Zfd,Zc8,mpl,dfs]
 all_goals try simp only[itb]
 all_goals try simp only[itf,gS,kk]
 all_goals repeat' first|refine exI λ_=>?_|refine anJ λ_ _=>?_|refine anI λ_=>?_|refine orE2 ?_ ?_|exact False.elim
 all_goals (intro h;first|rw[Zi Zwl.eq_1]|refine run Zbke rfl ?_|rw[Zi Zm3.eq_1]|rw[Zi Zq9.eq_1]|rw[Zi Zwo.eq_1]|refine run Zbkf rfl ?_|refine run Zbkg rfl ?_|rw[Zi Zwq.eq_1]|refine run Zbkh rfl ?_|refine run Zbki rfl ?_|rw[Zi Zrc.eq_1]|rw[Zi Zws.eq_1])
 all_goals (refine Yd ?_ h;clear h;simp +decide[*,kk,tI,tII,Zwm,Z5k,Zm4,Zra,Zwp,Z5l,Z5m,Z5n,Zwr,Z5o,Z5p,Zrd,Z5q,Zwt])
abbrev Z8d:=Zeb.1.1.1
abbrev Zbnh:=Zeb.1.1.2.1
abbrev Z8e:=Zeb.1.1.2.2
abbrev Z8f:=Zeb.1.2.1
abbrev Z8g:=Zeb.1.2.2.1
abbrev Zbni:=Zeb.1.2.2.2
abbrev Zbnj:=Zeb.2.1.1
abbrev Z8h:=Zeb.2.1.2.1
abbrev Zbnk:=Zeb.2.1.2.2
abbrev Zbnl:=Zeb.2.2.1
abbrev Z8i:=Zeb.2.2.2.1
abbrev Zyp:=Zeb.2.2.2.2
theorem Zbnm:∀⦃a r⦄,Im (Zbt a=some r) (∃v,Zb4 a=some (Bo v,[])/\(if v=true then(∃(v1:List (List Int)),Zc0=some (.own 0,[.arr 99 1 true (v1.map isc)])/\(Zfs a v1 (v1.length:Int) 0=some r))else(some (.tup [.t .nil,.t .nil,Bo false],[])=some r))):=by
 all_goals intros
 all_goals unfold Im
 all_goals try simp only[Zbt,Zb4,Zc0,Zm.c_def,Zfs,mpl,dfs]
 all_goals try simp only[itb]
 all_goals try simp only[itf,gS,kk]
 all_goals repeat' first|refine exI λ_=>?_|refine anJ λ_ _=>?_|refine anI λ_=>?_|refine orE2 ?_ ?_|exact False.elim
 all_goals (intro h;first|refine run Zbkj rfl ?_)
 all_goals (refine Yd ?_ h;clear h;simp +decide[*,kk,tI,tII,Z5r])
abbrev Zbnn:=Zbnm
theorem Zkz{x:Za}{x1 x2:Int}{r:AV×List Blk}(h:(if x2<x1 then(if x2=0 then(∃(v:Bool),Zb4 x.Scan=some (Bo v,[])/\(if v=true then((Zbt x.Scan=some (.tup [.t .nil,.t .nil,Bo false],[])/\(∃(v1:List (List Int)),Zc0=some (.own 0,[.arr 99 1 true (v1.map isc)])/\(Zgt x v1 (w (1+x2)) x1 x2 (v1.length:Int) 0=some r)))\/(∃(v2:List Int) (v3:List Int),Zbt x.Scan=some (.tup [L 1 (v3.map ic),.own 0,Bo true],[.arr 3 1 true (v2.map ic)])/\(some (.tup [I (w (1+x2)),L 1 (v3.map ic),.own 0],[.arr 3 1 true (v2.map ic)])=some r)))else(some (.tup [I (w (1+x2)),.t .nil,.t .nil],[])=some r)))else(if x2=1 then(∃(v4:Bool),Zb4 x.Sort_=some (Bo v4,[])/\(if v4=true then((Zbt x.Sort_=some (.tup [.t .nil,.t .nil,Bo false],[])/\(∃(v5:List (List Int)),Zc0=some (.own 0,[.arr 99 1 true (v5.map isc)])/\(Zgu x v5 (w (1+x2)) x1 x2 (v5.length:Int) 0=some r)))\/(∃(v6:List Int) (v7:List Int),Zbt x.Sort_=some (.tup [L 1 (v7.map ic),.own 0,Bo true],[.arr 3 1 true (v6.map ic)])/\(some (.tup [I (w (1+x2)),L 1 (v7.map ic),.own 0],[.arr 3 1 true (v6.map ic)])=some r)))else(some (.tup [I (w (1+x2)),.t .nil,.t .nil],[])=some r)))else(if x2=2 then(∃(v8:Bool),Zb4 x.Hash=some (Bo v8,[])/\(if v8=true then((Zbt x.Hash=some (.tup [.t .nil,.t .nil,Bo false],[])/\(∃(v9:List (List Int)),Zc0=some (.own 0,[.arr 99 1 true (v9.map isc)])/\(Zgv x v9 (w (1+x2)) x1 x2 (v9.length:Int) 0=some r)))\/(∃(v10:List Int) (v11:List Int),Zbt x.Hash=some (.tup [L 1 (v11.map ic),.own 0,Bo true],[.arr 3 1 true (v10.map ic)])/\(some (.tup [I (w (1+x2)),L 1 (v11.map ic),.own 0],[.arr 3 1 true (v10.map ic)])=some r)))else(some (.tup [I (w (1+x2)),.t .nil,.t .nil],[])=some r)))else(if x2=3 then(∃(v12:Bool),Zb4 x.Merge=some (Bo v12,[])/\(if v12=true then((Zbt x.Merge=some (.tup [.t .nil,.t .nil,Bo false],[])/\(∃(v13:List (List Int)),Zc0=some (.own 0,[.arr 99 1 true (v13.map isc)])/\(Zgw x v13 (w (1+x2)) x1 x2 (v13.length:Int) 0=some r)))\/(∃(v14:List Int) (v15:List Int),Zbt x.Merge=some (.tup [L 1 (v15.map ic),.own 0,Bo true],[.arr 3 1 true (v14.map ic)])/\(some (.tup [I (w (1+x2)),L 1 (v15.map ic),.own 0],[.arr 3 1 true (v14.map ic)])=some r)))else(some (.tup [I (w (1+x2)),.t .nil,.t .nil],[])=some r)))else(if x2=4 then(∃(v16:Bool),Zb4 x.Nested=some (Bo v16,[])/\(if v16=true then((Zbt x.Nested=some (.tup [.t .nil,.t .nil,Bo false],[])/\(∃(v17:List (List Int)),Zc0=some (.own 0,[.arr 99 1 true (v17.map isc)])/\(Zgx x v17 (w (1+x2)) x1 x2 (v17.length:Int) 0=some r)))\/(∃(v18:List Int) (v19:List Int),Zbt x.Nested=some (.tup [L 1 (v19.map ic),.own 0,Bo true],[.arr 3 1 true (v18.map ic)])/\(some (.tup [I (w (1+x2)),L 1 (v19.map ic),.own 0],[.arr 3 1 true (v18.map ic)])=some r)))else(some (.tup [I (w (1+x2)),.t .nil,.t .nil],[])=some r)))else False)))))else(some (.tup [I 0,.t .nil,.t .nil],[])=some r))):Zbi x x1 x2=some r:=by
 unfold Zbi;rw[Zi Zgr.eq_1];by_cases q1:x2<x1
 .rw[if_pos q1]at h;by_cases q2:x2=0
  .rw[if_pos q2]at h;subst q2;obtain⟨v,q3,h⟩:=h;unfold Zb4 at q3
   try simp at q3
   by_cases q4:v=true
   .rw[if_pos q4]at h;rcases h with h|h
    .obtain⟨q5,h⟩:=h;unfold Zbt at q5
     try simp at q5
     obtain⟨v1,q6,h⟩:=h;unfold Zc0 at q6
     try simp at q6
     refine Yd ?_ h;clear h;simp +decide[*,tI,tII,Zgt]
    .obtain⟨v2,v3,q7,h⟩:=h;unfold Zbt at q7
     try simp at q7
     refine Yd ?_ h;clear h;simp +decide[*,tI,tII]
   .rw[if_neg q4]at h;refine Yd ?_ h;clear h;simp +decide[*,tI,tII]
  .rw[if_neg q2]at h;replace q2:=eq_false q2;by_cases q8:x2=1
   .rw[if_pos q8]at h;subst q8;obtain⟨v4,q9,h⟩:=h;unfold Zb4 at q9
    try simp at q9
    by_cases q10:v4=true
    .rw[if_pos q10]at h;rcases h with h|h
     .obtain⟨q11,h⟩:=h;unfold Zbt at q11
      try simp at q11
      obtain⟨v5,q12,h⟩:=h;unfold Zc0 at q12
      try simp at q12
      refine Yd ?_ h;clear h;simp +decide[*,tI,tII,Zgu]
     .obtain⟨v6,v7,q13,h⟩:=h;unfold Zbt at q13
      try simp at q13
      refine Yd ?_ h;clear h;simp +decide[*,tI,tII]
    .rw[if_neg q10]at h;refine Yd ?_ h;clear h;simp +decide[*,tI,tII]
   .rw[if_neg q8]at h;replace q8:=eq_false q8;by_cases q14:x2=2
    .rw[if_pos q14]at h;subst q14;obtain⟨v8,q15,h⟩:=h;unfold Zb4 at q15
     try simp at q15
     by_cases q16:v8=true
     .rw[if_pos q16]at h;rcases h with h|h
      .obtain⟨q17,h⟩:=h;unfold Zbt at q17
       try simp at q17
       obtain⟨v9,q18,h⟩:=h;unfold Zc0 at q18
       try simp at q18
       refine Yd ?_ h;clear h;simp +decide[*,tI,tII,Zgv]
      .obtain⟨v10,v11,q19,h⟩:=h;unfold Zbt at q19
       try simp at q19
       refine Yd ?_ h;clear h;simp +decide[*,tI,tII]
     .rw[if_neg q16]at h;refine Yd ?_ h;clear h;simp +decide[*,tI,tII]
    .rw[if_neg q14]at h;replace q14:=eq_false q14;by_cases q20:x2=3
     .rw[if_pos q20]at h;subst q20;obtain⟨v12,q21,h⟩:=h;unfold Zb4 at q21
      try simp at q21
      by_cases q22:v12=true
      .rw[if_pos q22]at h;rcases h with h|h
       .obtain⟨q23,h⟩:=h;unfold Zbt at q23
        try simp at q23
        obtain⟨v13,q24,h⟩:=h;unfold Zc0 at q24
        try simp at q24
        refine Yd ?_ h;clear h;simp +decide[*,tI,tII,Zgw]
       .obtain⟨v14,v15,q25,h⟩:=h;unfold Zbt at q25
        try simp at q25
        refine Yd ?_ h;clear h;simp +decide[*,tI,tII]
      .rw[if_neg q22]at h;refine Yd ?_ h;clear h;simp +decide[*,tI,tII]
     .rw[if_neg q20]at h;replace q20:=eq_false q20;by_cases q26:x2=4
      .rw[if_pos q26]at h;subst q26;obtain⟨v16,q27,h⟩:=h;unfold Zb4 at q27
       try simp at q27
       by_cases q28:v16=true
       .rw[if_pos q28]at h;rcases h with h|h
        .obtain⟨q29,h⟩:=h;unfold Zbt at q29
         try simp at q29
         obtain⟨v17,q30,h⟩:=h;unfold Zc0 at q30
         try simp at q30
         refine Yd ?_ h;clear h;simp +decide[*,tI,tII,Zgx]
        .obtain⟨v18,v19,q31,h⟩:=h;unfold Zbt at q31
         try simp at q31
         refine Yd ?_ h;clear h;simp +decide[*,tI,tII]
       .rw[if_neg q28]at h;refine Yd ?_ h;clear h;simp +decide[*,tI,tII]
      .rw[if_neg q26]at h;replace q26:=eq_false q26;cases h
 .rw[if_neg q1]at h;refine Yd ?_ h;clear h;simp +decide[*,tI,tII,Zgs]
theorem Zec:(((∀⦃o x cc x1 x2 x3 x4 r⦄,Im (Zgt o x cc x1 x2 x3 x4=some r) (if x4<x3 then(0<=x4/\(∃e1,x[x4.toNat]?=some e1/\(∃v40,Zew o.Scan e1=some (I v40,[])/\(if v40<1 then(some (.tup [I cc,L 1 (e1.map ic),.t .nil],[])=some r)else(Zgt o x cc x1 x2 x3 (w (x4+1))=some r)))))else(Zbi o x1 (w (x2+1))=some r)))/\
 ((∀⦃o x cc x1 x2 x3 x4 r⦄,Im (Zgu o x cc x1 x2 x3 x4=some r) (if x4<x3 then(0<=x4/\(∃e1,x[x4.toNat]?=some e1/\(∃v40,Zew o.Sort_ e1=some (I v40,[])/\(if v40<1 then(some (.tup [I cc,L 1 (e1.map ic),.t .nil],[])=some r)else(Zgu o x cc x1 x2 x3 (w (x4+1))=some r)))))else(Zbi o x1 (w (x2+1))=some r)))/\
 (∀⦃o x cc x1 x2 x3 x4 r⦄,Im (Zgv o x cc x1 x2 x3 x4=some r) (if x4<x3 then(0<=x4/\(∃e1,x[x4.toNat]?=some e1/\(∃v40,Zew o.Hash e1=some (I v40,[])/\(if v40<1 then(some (.tup [I cc,L 1 (e1.map ic),.t .nil],[])=some r)else(Zgv o x cc x1 x2 x3 (w (x4+1))=some r)))))else(Zbi o x1 (w (x2+1))=some r)))))/\
 ((∀⦃o x cc x1 x2 x3 x4 r⦄,Im (Zgw o x cc x1 x2 x3 x4=some r) (if x4<x3 then(0<=x4/\(∃e1,x[x4.toNat]?=some e1/\(∃v40,Zew o.Merge e1=some (I v40,[])/\(if v40<1 then(some (.tup [I cc,L 1 (e1.map ic),.t .nil],[])=some r)else(Zgw o x cc x1 x2 x3 (w (x4+1))=some r)))))else(Zbi o x1 (w (x2+1))=some r)))/\
 ((∀⦃o x cc x1 x2 x3 x4 r⦄,Im (Zgx o x cc x1 x2 x3 x4=some r) (if x4<x3 then(0<=x4/\(∃e1,x[x4.toNat]?=some e1/\(∃v40,Zew o.Nested e1=some (I v40,[])/\(if v40<1 then(some (.tup [I cc,L 1 (e1.map ic),.t .nil],[])=some r)else(Zgx o x cc x1 x2 x3 (w (x4+1))=some r)))))else(Zbi o x1 (w (x2+1))=some r)))/\
 (∀⦃a r⦄,Im (Zj1 a=some r) (Zh0 a=some (.bsl 1 5,[.box (a.c.map .t),.box [.ptr 0 0,.ptr 0 6,.ptr 0 12,.ptr 0 18,.ptr 0 24]])/\(Zbi a 5 0=some r))))))/\
 (((∀⦃a r⦄,Im (Zre a=some r) ((∃(v:List Int),∃v1,∃(v2:List Int),Zj1 a=some (.tup [I v1,L 1 (v2.map ic),.own 0],[.arr 3 1 true (v.map ic)])/\(some (Bo (decide (v1=0)),[])=some r))\/(∃v40,Zj1 a=some (.tup [I v40,.t .nil,.t .nil],[])/\(some (Bo (decide (v40=0)),[])=some r))\/(∃v41,∃(v42:List Int),Zj1 a=some (.tup [I v41,L 1 (v42.map ic),.t .nil],[])/\(some (Bo (decide (v41=0)),[])=some r))))/\
 ((∀⦃m cd x x1 r⦄,Im (Zww m cd x x1=some r) (if x1<x then False else(some (Bo true,[])=some r)))/\
 (∀⦃a cd r⦄,Im (Zrf a cd=some r) (∃v,Z8 cd 0 1000000=some (Bo v,[])/\(if v=true then(Zww a cd 0 0=some r)else(some (Bo false,[])=some r))))))/\
 ((∀⦃Zl Za cd cu cv cn cy r⦄,Im (Zrg Zl Za cd cu cv cn cy=some r) (∃v,Z8 cu 2 8=some (Bo v,[])/\(if v=true then(∃v40,Z8 cv 0 100=some (Bo v40,[])/\(if v40=true then(∃v41,Z8 cn 0 1000000=some (Bo v41,[])/\(if v41=true then(∃v43,Z8 cy 0 1000000000000=some (Bo v43,[])/\(if v43=true then(∃v44,Zm1 Zl=some (Bo v44,[])/\(if v44=true then(∃v45,Zre Za=some (Bo v45,[])/\(if v45=true then(∃v46,Zrf Za cd=some (Bo v46,[])/\(some (Bo v46,[])=some r))else(some (Bo false,[])=some r)))else(some (Bo false,[])=some r)))else(some (Bo false,[])=some r)))else(some (Bo false,[])=some r)))else(some (Bo false,[])=some r)))else(some (Bo false,[])=some r))))/\
 ((∀⦃a a1 a2 a3 r⦄,Im (Zrh a a1 a2 a3=some r) (∃(v:List Zc),∃(v1:List Zd),∃(v2:List Ze),∃(v3:List Zf),∃(v4:List Zb),∃(v5:List Zb),∃(v6:List Zb),∃(v7:List Zb),∃(v8:List Zb),∃v9,∃v10,∃v11,∃v12,∃v13,∃v14,∃v15,∃v16,∃v17,∃v18,∃v19,∃v20,∃v21,∃v22,∃v23,∃v24,∃v25,∃v26,∃v27,∃v28,∃v29,∃v30,∃v31,∃v32,∃v33,∃v34,∃v35,∃v36,∃v37,∃v38,∃v39,Zl7 a a1 0 a2 a3 0 0=some (.agg [.own 0,I v9,.own 1,.own 2,.own 3,I v10,I v11,I v12,I v13,I v14,.own 4,I v15,I v16,I v17,I v18,I v19,.own 5,I v20,I v21,I v22,I v23,I v24,.own 6,I v25,I v26,I v27,I v28,I v29,.own 7,I v30,I v31,I v32,I v33,I v34,.own 8,I v35,.t .nil,I v36,I v37,I v38,I v39],[.arr 142 3 true (v.map Zc.c),.arr 146 4 true (v1.map Zd.c),.arr 116 3 true (v2.map Ze.c),.arr 118 4 true (v3.map Zf.c),.arr 170 2 true (v4.map Zb.c),.arr 170 2 true (v5.map Zb.c),.arr 170 2 true (v6.map Zb.c),.arr 170 2 true (v7.map Zb.c),.arr 170 2 true (v8.map Zb.c)])/\(∃v40,Zrg (⟨(⟨v⟩:Zh),(⟨v9,v1⟩:Zk),v2,v3⟩:Zl) (⟨(⟨v10,v11,v12,v13,v14,v4⟩:Zm),(⟨v15,v16,v17,v18,v19,v5⟩:Zm),(⟨v20,v21,v22,v23,v24,v6⟩:Zm),(⟨v25,v26,v27,v28,v29,v7⟩:Zm),(⟨v30,v31,v32,v33,v34,v8⟩:Zm)⟩:Za) v35 v36 v37 v38 v39=some (Bo v40,[])/\(if v40=true then(some (.tup [.agg [.own 0,I v9,.own 1,.own 2,.own 3,I v10,I v11,I v12,I v13,I v14,.own 4,I v15,I v16,I v17,I v18,I v19,.own 5,I v20,I v21,I v22,I v23,I v24,.own 6,I v25,I v26,I v27,I v28,I v29,.own 7,I v30,I v31,I v32,I v33,I v34,.own 8,I v35,.t .nil,I v36,I v37,I v38,I v39],Bo true],[.arr 142 3 true (v.map Zc.c),.arr 146 4 true (v1.map Zd.c),.arr 116 3 true (v2.map Ze.c),.arr 118 4 true (v3.map Zf.c),.arr 170 2 true (v4.map Zb.c),.arr 170 2 true (v5.map Zb.c),.arr 170 2 true (v6.map Zb.c),.arr 170 2 true (v7.map Zb.c),.arr 170 2 true (v8.map Zb.c)])=some r)else(some (.tup [.agg [.t .nil,I 0,.t .nil,.t .nil,.t .nil,I 0,I 0,I 0,I 0,I 0,.t .nil,I 0,I 0,I 0,I 0,I 0,.t .nil,I 0,I 0,I 0,I 0,I 0,.t .nil,I 0,I 0,I 0,I 0,I 0,.t .nil,I 0,I 0,I 0,I 0,I 0,.t .nil,I 0,.t .nil,I 0,I 0,I 0,I 0],Bo false],[])=some r)))))/\
 (∀⦃t cz cp co cl i r⦄,Im (Zri t cz cp co cl i=some r) (if i<(t.Rows.length:Int)then(0<=i/\(∃e1,t.Rows[i.toNat]?=some e1/\(e1.length<=68719476736/\(Zh4 t cz cp co cl ([e1]) (w (i+1))=some r))))else(some (.agg [.t (.str co),I cl,.t .nil],[])=some r)))))):=by
 and_intros
 all_goals intros
 all_goals unfold Im
 all_goals try simp only[Zgt,Zgu,Zgv,Zgw,Zgx,Zj1,Zre,Zww,Zrf,Zrg,Zrh,Zri,Zew,Zm.c_def,Zh0,Za.c_def,Z8,Zm1,Zk.c_def,Zh.c_def,Zl.c_def,Zl7,Zbi,Zh4,mpl,dfs]
 all_goals try simp only[itb]
 all_goals try simp only[itf,gS,kk]
 all_goals repeat' first|refine exI λ_=>?_|refine anJ λ_ _=>?_|refine anI λ_=>?_|refine orE2 ?_ ?_|exact False.elim
 all_goals (intro h;first|rw[Zi Zh2.eq_1]|refine run Zbkk rfl ?_|refine run Zbkl rfl ?_|rw[Zi Zwu.eq_1]|refine run Zbkm rfl ?_|refine run Zbkn rfl ?_|refine run Zbko rfl ?_|rw[Zi Zm5.eq_1])
 all_goals (refine Yd ?_ h;clear h;simp +decide[*,kk,tI,tII,Zh3,Z5s,Z5t,Zwv,Z5u,Z5v,Z5w,Zm6])
abbrev Z8j:=Zec.1.1.1
abbrev Z8k:=Zec.1.1.2.1
abbrev Z8l:=Zec.1.1.2.2
abbrev Z8m:=Zec.1.2.1
abbrev Z8n:=Zec.1.2.2.1
abbrev Zbno:=Zec.1.2.2.2
abbrev Zbnp:=Zec.2.1.1
abbrev Zbnq:=Zec.2.1.2.1
abbrev Zbnr:=Zec.2.1.2.2
abbrev Zbns:=Zec.2.2.1
abbrev Zbnt:=Zec.2.2.2.1
abbrev Z8o:=Zec.2.2.2.2
theorem Z8p:(∀⦃t cl cd cc c x i r⦄,Im (Zh4 t cl cd cc c x i=some r) (if i<(t.Rows.length:Int)then(0<=i/\(∃e1,t.Rows[i.toNat]?=some e1/\(e1.length<=68719476736/\(x.length+1<=68719476736/\(Zh4 t cl cd cc c (x++[e1]) (w (i+1))=some r)))))else(some (.agg [.t (.str cc),I c,.own 0],[.arr 99 1 true (x.map isc)])=some r)))/\
 (∀⦃a r⦄,Im (Zd4 a=some r) (Zri a (⟨#[]⟩:ByteArray) 0 a.Name a.Arity 0=some r)):=by
 and_intros
 all_goals intros
 all_goals unfold Im
 all_goals try simp only[Zh4,Zd4,Zri,mpl,dfs]
 all_goals try simp only[itb]
 all_goals try simp only[itf,gS,kk]
 all_goals repeat' first|refine exI λ_=>?_|refine anJ λ_ _=>?_|refine anI λ_=>?_|refine orE2 ?_ ?_|exact False.elim
 all_goals (intro h;first|rw[Zi Zm5.eq_1]|refine run Zbkp rfl ?_)
 all_goals (refine Yd ?_ h;clear h;simp +decide[*,kk,tI,tII,Zm6,Z5x])
abbrev Zsg:=Z8p.1
abbrev Z8q:=Z8p.2
theorem Zed:(((∀⦃d i r⦄,Im (Zwx d i=some r) (if i<(d.Tables.length:Int)then(0<=i/\(∃e1,d.Tables[i.toNat]?=some e1/\((∃v v1,Zd4 e1=some (.agg [.t (.str v),I v1,.t .nil],[])/\(Zh5 d ([(⟨v,v1,[]⟩:Zc)]) (w (i+1))=some r))\/(∃(v4:List (List Int)),∃v5,∃v6,Zd4 e1=some (.agg [.t (.str v5),I v6,.own 0],[.arr 99 1 true (v4.map isc)])/\(Zh5 d ([(⟨v5,v6,v4⟩:Zc)]) (w (i+1))=some r)))))else(some (.agg [.own 0],[.arr 142 3 true (([]:List Zc).map Zc.c)])=some r)))/\
 ((∀⦃d x i r⦄,Im (Zh5 d x i=some r) (if i<(d.Tables.length:Int)then(0<=i/\(∃e1,d.Tables[i.toNat]?=some e1/\((∃v v1,Zd4 e1=some (.agg [.t (.str v),I v1,.t .nil],[])/\(x.length+1<=68719476736/\(Zh5 d (x++[(⟨v,v1,[]⟩:Zc)]) (w (i+1))=some r)))\/(∃(v4:List (List Int)),∃v5,∃v6,Zd4 e1=some (.agg [.t (.str v5),I v6,.own 0],[.arr 99 1 true (v4.map isc)])/\(x.length+1<=68719476736/\(Zh5 d (x++[(⟨v5,v6,v4⟩:Zc)]) (w (i+1))=some r))))))else(some (.agg [.own 0],[.arr 142 3 true (x.map Zc.c)])=some r)))/\
 (∀⦃a r⦄,Im (Zm7 a=some r) (Zwx a 0=some r))))/\
 ((∀⦃s cp co cd cn cl cc i r⦄,Im (Zwy s cp co cd cn cl cc i=some r) (if i<(s.Groups.length:Int)then(0<=i/\(∃e1,s.Groups[i.toNat]?=some e1/\(e1.Columns.length<=68719476736/\(e1.Counts.length<=68719476736/\(Zwz s cp co cd cn cl cc e1.Columns e1.Counts i 0=some r)))))else(some (.agg [.t (.str cn),I cl,I cc,.own 0],[.arr 193 3 true (([]:List Zj).map Zj.c)])=some r)))/\
 ((∀⦃s cp co cd cn cl cc x x1 i k r⦄,Im (Zwz s cp co cd cn cl cc x x1 i k=some r) (0<=i/\(∃e1,s.Groups[i.toNat]?=some e1/\(if k<(e1.Values.length:Int)then(0<=k/\(∃e2,e1.Values[k.toNat]?=some e2/\(e2.length<=68719476736/\(Zm9 s cp co cd cn cl cc x ([e2]) x1 i (w (k+1))=some r))))else(Zft s cp co cd cn cl cc ([(⟨x,[],x1⟩:Zj)]) (w (i+1))=some r)))))/\
 (∀⦃s cp co cd cn cl cc x x1 x2 i k r⦄,Im (Zm9 s cp co cd cn cl cc x x1 x2 i k=some r) (0<=i/\(∃e1,s.Groups[i.toNat]?=some e1/\(if k<(e1.Values.length:Int)then(0<=k/\(∃e2,e1.Values[k.toNat]?=some e2/\(e2.length<=68719476736/\(x1.length+1<=68719476736/\(Zm9 s cp co cd cn cl cc x (x1++[e2]) x2 i (w (k+1))=some r)))))else(Zft s cp co cd cn cl cc ([(⟨x,x1,x2⟩:Zj)]) (w (i+1))=some r))))))))/\
 (((∀⦃s cp co cd cn cl cc x i r⦄,Im (Zft s cp co cd cn cl cc x i=some r) (if i<(s.Groups.length:Int)then(0<=i/\(∃e1,s.Groups[i.toNat]?=some e1/\(e1.Columns.length<=68719476736/\(e1.Counts.length<=68719476736/\(Zw0 s cp co cd cn cl cc x e1.Columns e1.Counts i 0=some r)))))else(some (.agg [.t (.str cn),I cl,I cc,.own 0],[.arr 193 3 true (x.map Zj.c)])=some r)))/\
 ((∀⦃s cp co cd cn cl cc x x1 x2 i k r⦄,Im (Zw0 s cp co cd cn cl cc x x1 x2 i k=some r) (0<=i/\(∃e1,s.Groups[i.toNat]?=some e1/\(if k<(e1.Values.length:Int)then(0<=k/\(∃e2,e1.Values[k.toNat]?=some e2/\(e2.length<=68719476736/\(Zna s cp co cd cn cl cc x x1 ([e2]) x2 i (w (k+1))=some r))))else(x.length+1<=68719476736/\(Zft s cp co cd cn cl cc (x++[(⟨x1,[],x2⟩:Zj)]) (w (i+1))=some r))))))/\
 (∀⦃s cp co cd cn cl cc x x1 x2 x3 i k r⦄,Im (Zna s cp co cd cn cl cc x x1 x2 x3 i k=some r) (0<=i/\(∃e1,s.Groups[i.toNat]?=some e1/\(if k<(e1.Values.length:Int)then(0<=k/\(∃e2,e1.Values[k.toNat]?=some e2/\(e2.length<=68719476736/\(x2.length+1<=68719476736/\(Zna s cp co cd cn cl cc x x1 (x2++[e2]) x3 i (w (k+1))=some r)))))else(x.length+1<=68719476736/\(Zft s cp co cd cn cl cc (x++[(⟨x1,x2,x3⟩:Zj)]) (w (i+1))=some r))))))))/\
 ((∀⦃a r⦄,Im (Zm8 a=some r) (Zwy a (⟨#[]⟩:ByteArray) 0 0 a.Name a.Arity a.RowCount 0=some r))/\
 ((∀⦃c cv cu i r⦄,Im (Zro c cv cu i=some r) (if i<(c.Tables.length:Int)then(0<=i/\(∃e1,c.Tables[i.toNat]?=some e1/\(∃(v:List Zj),∃v1,∃v2,∃v3,Zm8 e1=some (.agg [.t (.str v1),I v2,I v3,.own 0],[.arr 193 3 true (v.map Zj.c)])/\(Znb c cv cu ([(⟨v1,v2,v3,v⟩:Zd)]) (w (i+1))=some r))))else(some (.agg [I cu,.own 0],[.arr 146 4 true (([]:List Zd).map Zd.c)])=some r)))/\
 (∀⦃c cv cu x i r⦄,Im (Znb c cv cu x i=some r) (if i<(c.Tables.length:Int)then(0<=i/\(∃e1,c.Tables[i.toNat]?=some e1/\(∃(v:List Zj),∃v1,∃v2,∃v3,Zm8 e1=some (.agg [.t (.str v1),I v2,I v3,.own 0],[.arr 193 3 true (v.map Zj.c)])/\(x.length+1<=68719476736/\(Znb c cv cu (x++[(⟨v1,v2,v3,v⟩:Zd)]) (w (i+1))=some r)))))else(some (.agg [I cu,.own 0],[.arr 146 4 true (x.map Zd.c)])=some r)))))):=by
 and_intros
 all_goals intros
 all_goals unfold Im
 all_goals try simp only[Zwx,Zh5,Zm7,Zwy,Zwz,Zm9,Zft,Zw0,Zna,Zm8,Zro,Znb,Zd4,Zc.c_def,Zd.c_def,mpl,dfs]
 all_goals try simp only[itb]
 all_goals try simp only[itf,gS,kk]
 all_goals repeat' first|refine exI λ_=>?_|refine anJ λ_ _=>?_|refine anI λ_=>?_|refine orE2 ?_ ?_|exact False.elim
 all_goals (intro h;first|rw[Zi Zrj.eq_1]|refine run Zbkq rfl ?_|rw[Zi Zgy.eq_1]|rw[Zi Zj2.eq_1]|refine run Zbkr rfl ?_|rw[Zi Zrl.eq_1])
 all_goals (refine Yd ?_ h;clear h;simp +decide[*,kk,tI,tII,Zrk,Z5y,Zgz,Zj4,Zj3,Z5z,Zrm])
abbrev Zbnu:=Zed.1.1.1
abbrev Z8r:=Zed.1.1.2.1
abbrev Zbnv:=Zed.1.1.2.2
abbrev Zbnw:=Zed.1.2.1
abbrev Zbnx:=Zed.1.2.2.1
abbrev Z8s:=Zed.1.2.2.2
abbrev Z8t:=Zed.2.1.1
abbrev Zbny:=Zed.2.1.2.1
abbrev Z8u:=Zed.2.1.2.2
abbrev Zbnz:=Zed.2.2.1
abbrev Zbn0:=Zed.2.2.2.1
abbrev Z8v:=Zed.2.2.2.2
theorem Zee:(((∀⦃a r⦄,Im (Zrn a=some r) (Zro a 0 a.Version 0=some r))/\
 ((∀⦃cd l i r⦄,Im (Znc cd l i=some r) (if i<(l.length:Int)then(0<=i/\(∃e1,l[i.toNat]?=some e1/\(e1.From.length<=68719476736/\(cd.length+1<=68719476736/\(Znc (cd++[e1]) l (w (i+1))=some r)))))else(some (.own 0,[.arr 116 3 true (cd.map Ze.c)])=some r)))/\
 (∀⦃a r⦄,Im (Zw3 a=some r) (Znc ([]:List Ze) a 0=some r))))/\
 ((∀⦃a r⦄,Im (Znd a=some r) (∃(v:List Zc),Zm7 a.Zh=some (.agg [.own 0],[.arr 142 3 true (v.map Zc.c)])/\(∃(v6:List Zd),∃v7,Zrn a.Zk=some (.agg [I v7,.own 0],[.arr 146 4 true (v6.map Zd.c)])/\(∃(v12:List Ze),Zw3 a.Dependencies=some (.own 0,[.arr 116 3 true (v12.map Ze.c)])/\(a.Inclusions.length<=68719476736/\(some (.agg [.own 0,I v7,.own 1,.own 2,.own 3],[.arr 142 3 true (v.map Zc.c),.arr 146 4 true (v6.map Zd.c),.arr 116 3 true (v12.map Ze.c),.arr 118 4 true (a.Inclusions.map Zf.c)])=some r))))))/\
 ((∀⦃a r⦄,Im (Zh6 a=some r) (a.Steps.length<=68719476736/\(some (.agg [I a.Fixed,I a.Zn,I a.Zo,I a.Zp,I a.Zq,.own 0],[.arr 170 2 true (a.Steps.map Zb.c)])=some r)))/\
 (∀⦃a r⦄,Im (Zne a=some r) (∃(v:List Zb),∃v1,∃v2,∃v3,∃v4,∃v5,Zh6 a.Scan=some (.agg [I v1,I v2,I v3,I v4,I v5,.own 0],[.arr 170 2 true (v.map Zb.c)])/\(∃(v6:List Zb),∃v7,∃v8,∃v9,∃v10,∃v11,Zh6 a.Sort_=some (.agg [I v7,I v8,I v9,I v10,I v11,.own 0],[.arr 170 2 true (v6.map Zb.c)])/\(∃(v12:List Zb),∃v13,∃v14,∃v15,∃v16,∃v17,Zh6 a.Hash=some (.agg [I v13,I v14,I v15,I v16,I v17,.own 0],[.arr 170 2 true (v12.map Zb.c)])/\(∃(v18:List Zb),∃v19,∃v20,∃v21,∃v22,∃v23,Zh6 a.Merge=some (.agg [I v19,I v20,I v21,I v22,I v23,.own 0],[.arr 170 2 true (v18.map Zb.c)])/\(∃(v24:List Zb),∃v25,∃v26,∃v27,∃v28,∃v29,Zh6 a.Nested=some (.agg [I v25,I v26,I v27,I v28,I v29,.own 0],[.arr 170 2 true (v24.map Zb.c)])/\(some (.agg [I v1,I v2,I v3,I v4,I v5,.own 0,I v7,I v8,I v9,I v10,I v11,.own 1,I v13,I v14,I v15,I v16,I v17,.own 2,I v19,I v20,I v21,I v22,I v23,.own 3,I v25,I v26,I v27,I v28,I v29,.own 4],[.arr 170 2 true (v.map Zb.c),.arr 170 2 true (v6.map Zb.c),.arr 170 2 true (v12.map Zb.c),.arr 170 2 true (v18.map Zb.c),.arr 170 2 true (v24.map Zb.c)])=some r))))))))))/\
 (((∀⦃a r⦄,Im (Zh7 a=some r) (if(a.size:Int)=1 then(∃b1,a[0]?=some b1/\(if 97<=(b1.toNat:Int)then(some (Bo (decide ((b1.toNat:Int)<=122)),[])=some r)else(some (Bo false,[])=some r)))else(some (Bo false,[])=some r)))/\
 ((∀⦃a a1 a2 r⦄,Im (Z3 a a1 a2=some r) (if a1<=a then(some (Bo (decide (a<=a2)),[])=some r)else(some (Bo false,[])=some r)))/\
 (∀⦃cc n i r⦄,Im (Zng cc n i=some r) (if i<(cc.length:Int)then(0<=i/\(∃e1,cc[i.toNat]?=some e1/\(∃v6,Z3 e1 0 9=some (Bo v6,[])/\(if v6=true then(Zng cc n (w (i+1))=some r)else(some (Bo false,[])=some r)))))else(some (Bo (decide ((cc.length:Int)=n)),[])=some r)))))/\
 ((∀⦃a a1 r⦄,Im (Znf a a1=some r) (Zng a a1 0=some r))/\
 ((∀⦃a b i r⦄,Im (Zj5 a b i=some r) (if i<(a.length:Int)then(if i<(b.length:Int)then(0<=i/\(∃e1,a[i.toNat]?=some e1/\(∃e2,b[i.toNat]?=some e2/\(if e1<e2 then(some (I (-1),[])=some r)else(if e2<e1 then(some (I 1,[])=some r)else(Zj5 a b (w (i+1))=some r))))))else(Znh a b i false=some r))else(Znh a b i false=some r)))/\
 (∀⦃a b i x r⦄,Im (Znh a b i x=some r) (if(a.length:Int)<(b.length:Int)then(some (I (-1),[])=some r)else(if(b.length:Int)<(a.length:Int)then(some (I 1,[])=some r)else(some (I 0,[])=some r))))))):=by
 and_intros
 all_goals intros
 all_goals unfold Im
 all_goals try simp only[Zrn,Znc,Zw3,Znd,Zh6,Zne,Zh7,Z3,Zng,Znf,Zj5,Zm7,Zk.c_def,Zh.c_def,Ze.c_def,Zm.c_def,Zro,Znh,mpl,dfs]
 all_goals try simp only[itb]
 all_goals try simp only[itf,gS,kk]
 all_goals repeat' first|refine exI λ_=>?_|refine anJ λ_ _=>?_|refine anI λ_=>?_|refine orE2 ?_ ?_|exact False.elim
 all_goals (intro h;first|refine run Zbks rfl ?_|rw[Zi Zw1.eq_1]|refine run Zbkt rfl ?_|refine run Zbku rfl ?_|refine run Zbkv rfl ?_|refine run Zbkw rfl ?_|refine run Zbkx rfl ?_|refine run Zbky rfl ?_|rw[Zi Zw4.eq_1]|refine run Zbkz rfl ?_|rw[Zi Zw6.eq_1]|rw[Ev_eq Zrp.eq_1])
 all_goals (refine Yd ?_ h;clear h;simp +decide[*,kk,tI,tII,Z50,Zw2,Z51,Z52,Z53,Z54,Z55,Z56,Zw5,Z57])
abbrev Zbn1:=Zee.1.1.1
abbrev Z8w:=Zee.1.1.2.1
abbrev Zbn2:=Zee.1.1.2.2
abbrev Zbn3:=Zee.1.2.1
abbrev Zof:=Zee.1.2.2.1
abbrev Zbn4:=Zee.1.2.2.2
abbrev Zbn5:=Zee.2.1.1
abbrev Zbn6:=Zee.2.1.2.1
abbrev Z8x:=Zee.2.1.2.2
abbrev Zbn7:=Zee.2.2.1
abbrev Z8y:=Zee.2.2.2.1
abbrev Zbn8:=Zee.2.2.2.2
theorem Zog:((∀⦃a a1 r⦄,Im (Zc9 a a1=some r) (Zj5 a a1 0=some r))/\
 (∀⦃t i r⦄,Im (Zj6 t i=some r) (if i<(t.Rows.length:Int)then(0<=i/\(∃e1,t.Rows[i.toNat]?=some e1/\(∃v1,Znf e1 t.Arity=some (Bo v1,[])/\(if v1=true then(if 0<i then(0<=(w (i-1))/\(∃e3,t.Rows[(w (i-1)).toNat]?=some e3/\(∃v2,Zc9 e3 e1=some (I v2,[])/\(if 0<=v2 then(some (Bo false,[])=some r)else(Zj6 t (w (i+1))=some r)))))else(Zj6 t (w (i+1))=some r))else(some (Bo false,[])=some r)))))else(some (Bo true,[])=some r))))/\
 ((∀⦃a r⦄,Im (Zg0 a=some r) (∃v,Zh7 a.Name=some (Bo v,[])/\(if v=true then(∃v1,Z3 a.Arity 1 3=some (Bo v1,[])/\(if v1=true then(if 8<(a.Rows.length:Int)then(some (Bo false,[])=some r)else(Zj6 a 0=some r))else(some (Bo false,[])=some r)))else(some (Bo false,[])=some r))))/\
 ((∀⦃d i r⦄,Im (Zj8 d i=some r) (if i<(d.Tables.length:Int)then(0<=i/\(∃e1,d.Tables[i.toNat]?=some e1/\(∃v1,Zg0 e1=some (Bo v1,[])/\(if v1=true then(if 0<i then(0<=(w (i-1))/\(∃e3,d.Tables[(w (i-1)).toNat]?=some e3/\(if(Op.bytesLess e3.Name.toList e1.Name.toList)=true then(Zj8 d (w (i+1))=some r)else(some (Bo false,[])=some r))))else(Zj8 d (w (i+1))=some r))else(some (Bo false,[])=some r)))))else(some (Bo (decide ((d.Tables.length:Int)<=6)),[])=some r)))/\
 (∀⦃a r⦄,Im (Zj7 a=some r) (Zj8 a 0=some r)))):=by
 and_intros
 all_goals intros
 all_goals unfold Im
 all_goals try simp only[Zc9,Zj6,Zg0,Zj8,Zj7,Znf,Zh7,Z3,Zc.c_def,Zj5,mpl,dfs]
 all_goals try simp only[itb]
 all_goals try simp only[itf,gS,kk]
 all_goals repeat' first|refine exI λ_=>?_|refine anJ λ_ _=>?_|refine anI λ_=>?_|refine orE2 ?_ ?_|exact False.elim
 all_goals (intro h;first|refine run Zbk0 rfl ?_|rw[Zi Zni.eq_1]|refine run Z7e rfl ?_|rw[Zi Zw8.eq_1]|refine run Zbk1 rfl ?_)
 all_goals (refine Yd ?_ h;clear h;simp +decide[*,kk,tI,tII,Z58,Znj,Zw7,Zw9,Z59])
abbrev Zbn9:=Zog.1.1
abbrev Z8z:=Zog.1.2
abbrev Zboa:=Zog.2.1
abbrev Z80:=Zog.2.2.1
abbrev Zbob:=Zog.2.2.2
theorem Zef:(((∀⦃c m v r⦄,Im (Zj9 c m v=some r) (if v<3 then(¬v<0/\(if(andI (shrI m v) 1)=1 then(c.length+1<=68719476736/\(Zj9 (c++[v]) m (w (v+1))=some r))else(Zj9 c m (w (v+1))=some r)))else(some (.own 0,[.arr 3 1 true (c.map ic)])=some r)))/\
 ((∀⦃a r⦄,Im (Zd5 a=some r) (Zj9 ([]:List Int) a 0=some r))/\
 (∀⦃c n m r⦄,Im (Zh8 c n m=some r) (∃v1,Z3 n 1 3=some (Bo v1,[])/\(if v1=true then(¬n<0/\(if m<(shlI 1 n)then(∃(v2:List Int),Zd5 m=some (.own 0,[.arr 3 1 true (v2.map ic)])/\(c.length+1<=68719476736/\(Zh8 (c++[v2]) n (w (m+1))=some r)))else(some (.own 0,[.arr 99 1 true (c.map isc)])=some r)))else(some (.own 0,[.arr 99 1 true (c.map isc)])=some r))))))/\
 ((∀⦃a r⦄,Im (Znk a=some r) (Zh8 ([]:List (List Int)) a 1=some r))/\
 ((∀⦃t cc i r⦄,Im (Zka t cc i=some r) (if i<(cc.length:Int)then(0<=i/\(∃e1,cc[i.toNat]?=some e1/\(∃v2,Z3 e1 0 (w (t.Arity-1))=some (Bo v2,[])/\(if v2=true then(if 0<i then(0<=(w (i-1))/\(∃e3,cc[(w (i-1)).toNat]?=some e3/\(if e1<=e3 then(some (Bo false,[])=some r)else(Zka t cc (w (i+1))=some r))))else(Zka t cc (w (i+1))=some r))else(some (Bo false,[])=some r)))))else(∃v5,Zg0 t=some (Bo v5,[])/\(some (Bo v5,[])=some r))))/\
 (∀⦃a a1 r⦄,Im (Zh9 a a1=some r) (Zka a a1 0=some r)))))/\
 (((∀⦃c cl cc i r⦄,Im (Znn c cl cc i=some r) (if i<(cc.length:Int)then(0<=i/\(∃e1,cc[i.toNat]?=some e1/\(∃v2,Z3 e1 0 (w ((cl.length:Int)-1))=some (Bo v2,[])/\(if v2=true then(0<=e1/\(∃e3,cl[e1.toNat]?=some e3/\(c.length+1<=68719476736/\(Znn (c++[e3]) cl cc (w (i+1))=some r))))else(some (.tup [.own 0,Bo false],[.arr 3 1 true (([]:List Int).map ic)])=some r)))))else(some (.tup [.own 0,Bo true],[.arr 3 1 true (c.map ic)])=some r)))/\
 ((∀⦃a a1 r⦄,Im (Zfu a a1=some r) (Znn ([]:List Int) a a1 0=some r))/\
 (∀⦃c co cl cp i r⦄,Im (Zfv c co cl cp i=some r) (if i<(co.length:Int)then(0<=i/\(∃e1,co[i.toNat]?=some e1/\(∃v2,Zc9 e1 cl=some (I v2,[])/\(if v2=0 then(if 0<v2 then(e1.length<=68719476736/\(c.length+1<=68719476736/\(Zfv (c++[e1]) co cl true (w (i+1))=some r)))else(e1.length<=68719476736/\(c.length+1<=68719476736/\(Zfv (c++[e1]) co cl true (w (i+1))=some r))))else(if 0<v2 then(if cp=true then(e1.length<=68719476736/\(c.length+1<=68719476736/\(Zfv (c++[e1]) co cl true (w (i+1))=some r)))else(cl.length<=68719476736/\(c.length+1<=68719476736/\(e1.length<=68719476736/\(c.length+1+1<=68719476736/\(Zfv ((c++[cl])++[e1]) co cl true (w (i+1))=some r))))))else(e1.length<=68719476736/\(c.length+1<=68719476736/\(Zfv (c++[e1]) co cl cp (w (i+1))=some r))))))))else(if cp=true then(some (.own 0,[.arr 99 1 true (c.map isc)])=some r)else(cl.length<=68719476736/\(c.length+1<=68719476736/\(some (.own 0,[.arr 99 1 true ((c++[cl]).map isc)])=some r))))))))/\
 ((∀⦃a a1 r⦄,Im (Zrq a a1=some r) (Zfv ([]:List (List Int)) a a1 false 0=some r))/\
 ((∀⦃t cd cn cc i r⦄,Im (Zkb t cd cn cc i=some r) (if i<(t.Rows.length:Int)then(0<=i/\(∃e1,t.Rows[i.toNat]?=some e1/\(∃(v2:List Int),∃v3,Zfu e1 cc=some (.tup [.own 0,Bo v3],[.arr 3 1 true (v2.map ic)])/\(∃(v4:List (List Int)),Zrq cd v2=some (.own 0,[.arr 99 1 true (v4.map isc)])/\(Zkb t v4 cn cc (w (i+1))=some r)))))else(Zia t cd cn cc 0=some r)))/\
 (∀⦃t cd cn cc k r⦄,Im (Zia t cd cn cc k=some r) (if k<(cd.length:Int)then(Zib t cd cn cc k 0 0=some r)else(some (.tup [.own 0,.own 1],[.arr 99 1 true (cd.map isc),.arr 3 1 true (cn.map ic)])=some r)))))):=by
 and_intros
 all_goals intros
 all_goals unfold Im
 all_goals try simp only[Zj9,Zd5,Zh8,Znk,Zka,Zh9,Znn,Zfu,Zfv,Zrq,Zkb,Zia,Z3,Zg0,Zc.c_def,Zc9,Zib,mpl,dfs]
 all_goals try simp only[itb]
 all_goals try simp only[itf,gS,kk]
 all_goals repeat' first|refine exI λ_=>?_|refine anJ λ_ _=>?_|refine anI λ_=>?_|refine orE2 ?_ ?_|exact False.elim
 all_goals (intro h;first|rw[Zi Zxa.eq_1]|refine run Zbk2 rfl ?_|rw[Zi Zxc.eq_1]|refine run Zbk3 rfl ?_|rw[Zi Znl.eq_1]|refine run Z7f rfl ?_|rw[Zi Zxf.eq_1]|refine run Zbk4 rfl ?_|rw[Zi Zxh.eq_1]|refine run Zbk5 rfl ?_|rw[Zi Zxj.eq_1]|rw[Zi Zrr.eq_1])
 all_goals (refine Yd ?_ h;clear h;simp +decide[*,kk,tI,tII,Z6a,Zxb,Z6b,Zxd,Z6c,Znm,Zxe,Zxg,Z6d,Z6e,Z6f,Z6g,Zxi,Z6h,Zxn,Zrs])
abbrev Zio:=Zef.1.1.1
abbrev Zboc:=Zef.1.1.2.1
abbrev Z81:=Zef.1.1.2.2
abbrev Zbod:=Zef.1.2.1
abbrev Z82:=Zef.1.2.2.1
abbrev Zboe:=Zef.1.2.2.2
abbrev Z83:=Zef.2.1.1
abbrev Zbof:=Zef.2.1.2.1
abbrev Z84:=Zef.2.1.2.2
abbrev Zbog:=Zef.2.2.1
abbrev Z85:=Zef.2.2.2.1
abbrev Z86:=Zef.2.2.2.2
theorem Zeg:(((∀⦃t cz cy dc k n i r⦄,Im (Zib t cz cy dc k n i=some r) (if i<(t.Rows.length:Int)then(0<=i/\(∃e1,t.Rows[i.toNat]?=some e1/\(∃(v1:List Int),∃v2,Zfu e1 dc=some (.tup [.own 0,Bo v2],[.arr 3 1 true (v1.map ic)])/\(0<=k/\(∃e3,cz[k.toNat]?=some e3/\(∃v9,Zc9 v1 e3=some (I v9,[])/\(if v9=0 then(Zib t cz cy dc k (w (n+1)) (w (i+1))=some r)else(Zib t cz cy dc k n (w (i+1))=some r))))))))else(cy.length+1<=68719476736/\(Zia t cz (cy++[n]) dc (w (k+1))=some r))))/\
 ((∀⦃a a1 r⦄,Im (Zno a a1=some r) (∃v,Zh9 a a1=some (Bo v,[])/\(if v=true then(Zkb a ([]:List (List Int)) ([]:List Int) a1 0=some r)else(some (.tup [.own 0,.own 1],[.arr 99 1 true (([]:List (List Int)).map isc),.arr 3 1 true (([]:List Int).map ic)])=some r))))/\
 (∀⦃t cv cp co cu cn cl l i r⦄,Im (Zxo t cv cp co cu cn cl l i=some r) (if i<(l.length:Int)then(0<=i/\(∃e1,l[i.toNat]?=some e1/\(∃(v1:List (List Int)) (v2:List Int),Zno t e1=some (.tup [.own 0,.own 1],[.arr 99 1 true (v1.map isc),.arr 3 1 true (v2.map ic)])/\(Znp t cv cp co cu cn cl false ([(⟨e1,v1,v2⟩:Zj)]) l (w (i+1))=some r))))else(some (.agg [.t (.str cu),I cn,I cl,.t .nil],[])=some r)))))/\
 ((∀⦃t cv cp co cu cn cl fr x l i r⦄,Im (Znp t cv cp co cu cn cl fr x l i=some r) (if i<(l.length:Int)then(0<=i/\(∃e1,l[i.toNat]?=some e1/\(∃(v1:List (List Int)) (v2:List Int),Zno t e1=some (.tup [.own 0,.own 1],[.arr 99 1 true (v1.map isc),.arr 3 1 true (v2.map ic)])/\(x.length+1<=68719476736/\(Znp t cv cp co cu cn cl false (x++[(⟨e1,v1,v2⟩:Zj)]) l (w (i+1))=some r)))))else(some (.agg [.t (.str cu),I cn,I cl,.own 0],[.arr 193 3 fr (x.map Zj.c)])=some r)))/\
 ((∀⦃a r⦄,Im (Zic a=some r) (∃v,Zg0 a=some (Bo v,[])/\(if v=true then(∃(v1:List (List Int)),Znk a.Arity=some (.own 0,[.arr 99 1 true (v1.map isc)])/\(Zxo a (⟨#[]⟩:ByteArray) 0 0 a.Name a.Arity (a.Rows.length:Int) v1 0=some r))else(some (.agg [.t (.str (⟨#[]⟩:ByteArray)),I 0,I 0,.t .nil],[])=some r))))/\
 (∀⦃d cc cd i r⦄,Im (Zxp d cc cd i=some r) (if i<(d.Tables.length:Int)then(0<=i/\(∃e1,d.Tables[i.toNat]?=some e1/\((∃v1 v2 v3,Zic e1=some (.agg [.t (.str v1),I v2,I v3,.t .nil],[])/\(Zid d cc cd true ([(⟨v1,v2,v3,[]⟩:Zd)]) (w (i+1))=some r))\/(∃v4,∃(v5:List Zj),∃v6,∃v7,∃v8,Zic e1=some (.agg [.t (.str v6),I v7,I v8,.own 0],[.arr 193 3 v4 (v5.map Zj.c)])/\(Zid d cc cd v4 ([(⟨v6,v7,v8,v5⟩:Zd)]) (w (i+1))=some r)))))else(some (.tup [.agg [I cd,.t .nil],Bo true],[])=some r))))))/\
 (((∀⦃d cc cd fr x i r⦄,Im (Zid d cc cd fr x i=some r) (if i<(d.Tables.length:Int)then(0<=i/\(∃e1,d.Tables[i.toNat]?=some e1/\((∃v1 v2 v3,Zic e1=some (.agg [.t (.str v1),I v2,I v3,.t .nil],[])/\(x.length+1<=68719476736/\(Zid d cc cd fr (x++[(⟨v1,v2,v3,[]⟩:Zd)]) (w (i+1))=some r)))\/(∃v4,∃(v5:List Zj),∃v6,∃v7,∃v8,Zic e1=some (.agg [.t (.str v6),I v7,I v8,.own 0],[.arr 193 3 v4 (v5.map Zj.c)])/\(x.length+1<=68719476736/\(Zid d cc cd (fr && v4) (x++[(⟨v6,v7,v8,v5⟩:Zd)]) (w (i+1))=some r))))))else(some (.tup [.agg [I cd,.own 0],Bo true],[.arr 146 4 fr (x.map Zd.c)])=some r)))/\
 ((∀⦃a a1 r⦄,Im (Zkc a a1=some r) (∃v,Zj7 a=some (Bo v,[])/\(if v=true then(∃v1,Z3 a1 1 999=some (Bo v1,[])/\(if v1=true then(Zxp a 0 a1 0=some r)else(some (.tup [.agg [I 0,.t .nil],Bo false],[])=some r)))else(some (.tup [.agg [I 0,.t .nil],Bo false],[])=some r))))/\
 (∀⦃cc b i r⦄,Im (Zxr cc b i=some r) (if i<0 then False else(some (Bo true,[])=some r)))))/\
 ((∀⦃cc a r⦄,Im (Zns cc a=some r) (if cc=a.Version then(if 0=(a.Tables.length:Int)then(Zxr cc a 0=some r)else(some (Bo false,[])=some r))else(some (Bo false,[])=some r)))/\
 ((∀⦃d cv cp dd i r⦄,Im (Znt d cv cp dd i=some r) (if i<(d.Tables.length:Int)then(∃v,Zj7 d=some (Bo v,[])/\(if v=true then(0<=i/\(∃e2,d.Tables[i.toNat]?=some e2/\(if e2.Name=dd then((∃v4 v5,Zd4 e2=some (.agg [.t (.str v4),I v5,.t .nil],[])/\(some (.tup [.agg [.t (.str v4),I v5,.t .nil],Bo true],[])=some r))\/(∃(v9:List (List Int)),∃v10,∃v11,Zd4 e2=some (.agg [.t (.str v10),I v11,.own 0],[.arr 99 1 true (v9.map isc)])/\(some (.tup [.agg [.t (.str v10),I v11,.own 0],Bo true],[.arr 99 1 true (v9.map isc)])=some r)))else(Znt d cv cp dd (w (i+1))=some r))))else(some (.tup [.agg [.t (.str (⟨#[]⟩:ByteArray)),I 0,.t .nil],Bo false],[])=some r)))else(some (.tup [.agg [.t (.str (⟨#[]⟩:ByteArray)),I 0,.t .nil],Bo false],[])=some r)))/\
 (∀⦃a a1 r⦄,Im (Zb0 a a1=some r) (Znt a (⟨#[]⟩:ByteArray) 0 a1 0=some r))))):=by
 and_intros
 all_goals intros
 all_goals unfold Im
 all_goals try simp only[Zib,Zno,Zxo,Znp,Zic,Zxp,Zid,Zkc,Zxr,Zns,Znt,Zb0,Zfu,Zc9,Zh9,Zc.c_def,Zg0,Znk,Zj7,Z3,Zh.c_def,Zd4,Zia,Zkb,mpl,dfs]
 all_goals try simp only[itb]
 all_goals try simp only[itf,gS,kk]
 all_goals repeat' first|refine exI λ_=>?_|refine anJ λ_ _=>?_|refine anI λ_=>?_|refine orE2 ?_ ?_|exact False.elim
 all_goals (intro h;first|rw[Zi Zxk.eq_1]|refine run Zbk6 rfl ?_|rw[Zi Zrt.eq_1]|refine run Zbk7 rfl ?_|rw[Zi Zrv.eq_1]|refine run Zbk8 rfl ?_|rw[Zi Znq.eq_1]|refine run Z7g rfl ?_|rw[Zi Zxs.eq_1]|refine run Zbk9 rfl ?_)
 all_goals (refine Yd ?_ h;clear h;simp +decide[*,kk,tI,tII,Z6i,Zxm,Zxl,Z6j,Zru,Z6k,Zrw,Z6l,Znr,Zxq,Zxt,Z6m])
abbrev Z87:=Zeg.1.1.1
abbrev Zboh:=Zeg.1.1.2.1
abbrev Zboi:=Zeg.1.1.2.2
abbrev Z88:=Zeg.1.2.1
abbrev Zboj:=Zeg.1.2.2.1
abbrev Zbok:=Zeg.1.2.2.2
abbrev Z89:=Zeg.2.1.1
abbrev Zbol:=Zeg.2.1.2.1
abbrev Zbom:=Zeg.2.1.2.2
abbrev Zbon:=Zeg.2.2.1
abbrev Z9a:=Zeg.2.2.2.1
abbrev Zboo:=Zeg.2.2.2.2
theorem Zsh:((∀⦃cc c i r⦄,Im (Zxu cc c i=some r) (if i<0 then False else(some (Bo true,[])=some r)))/\
 (∀⦃cc c r⦄,Im (Zrx cc c=some r) (∃v,Zh7 cc=some (Bo v,[])/\(if v=true then(∃v1,Z3 c 1 3=some (Bo v1,[])/\(if v1=true then(Zxu cc c 0=some r)else(some (Bo false,[])=some r)))else(some (Bo false,[])=some r)))))/\
 ((∀⦃cc c cd i r⦄,Im (Zkd cc c cd i=some r) (if i<(cd.length:Int)then(0<=i/\(∃e1,cd[i.toNat]?=some e1/\(∃v1,Z3 e1 0 (w (c-1))=some (Bo v1,[])/\(if v1=true then(if 0<i then(0<=(w (i-1))/\(∃e3,cd[(w (i-1)).toNat]?=some e3/\(if e1<=e3 then(some (Bo false,[])=some r)else(Zkd cc c cd (w (i+1))=some r))))else(Zkd cc c cd (w (i+1))=some r))else(some (Bo false,[])=some r)))))else(∃v2,Zrx cc c=some (Bo v2,[])/\(some (Bo v2,[])=some r))))/\
 (∀⦃cc c a r⦄,Im (Znu cc c a=some r) (Zkd cc c a 0=some r))):=by
 and_intros
 all_goals intros
 all_goals unfold Im
 all_goals try simp only[Zxu,Zrx,Zkd,Znu,Zh7,Z3,mpl,dfs]
 all_goals try simp only[itb]
 all_goals try simp only[itf,gS,kk]
 all_goals repeat' first|refine exI λ_=>?_|refine anJ λ_ _=>?_|refine anI λ_=>?_|refine orE2 ?_ ?_|exact False.elim
 all_goals (intro h;first|rw[Zi Zni.eq_1]|refine run Z7e rfl ?_|rw[Zi Znl.eq_1]|refine run Z7f rfl ?_)
 all_goals (refine Yd ?_ h;clear h;simp +decide[*,kk,tI,tII,Znj,Zw7,Znm,Zxe])
abbrev Zbop:=Zsh.1.1
abbrev Zboq:=Zsh.1.2
abbrev Z9b:=Zsh.2.1
abbrev Zbor:=Zsh.2.2
end
end Go.Proofs.YtooakifnnhhnhaaGreat
