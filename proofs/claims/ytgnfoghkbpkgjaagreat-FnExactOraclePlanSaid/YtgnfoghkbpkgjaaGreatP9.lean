/-
  Parts of the proofs for this seat: D2 T1 T2 T3 G1 G2 G3 G4.
-/
import Derived.Test.YtgnfoghkbpkgjaaGreatP8
set_option linter.unusedSimpArgs false
set_option linter.unusedVariables false
set_option maxRecDepth 100000
set_option maxHeartbeats 4000000
namespace Go.Proofs.YtgnfoghkbpkgjaaGreat
open Go.AM
def Zup:MCode:=.we [.m 27 12,.m 28 3,.ll 29 28,.b 30 .lss 27 29] [2,3,4,5,9,10,11,12,30] 30 4 (.seq (.block 5 (.drw [.m 33 10,.m 34 33,.g 35 34 (.mov (.s 2)),.g 36 34 (.mov (.s 12)),.g 37 34 (.ia 1 35 36),.g 38 34 (.l 37),.g 39 34 (.fa 1 5),.g 40 34 (.l 39),.g 41 34 (.mov (.s 11)),.g 42 34 (.ia 1 40 41),.g 43 34 (.l 42),.g 44 34 (.b .neq 38 43),.g 45 34 (.mov (.s 44)),.h 46 45 (.mov (.s 3)),.h 47 45 (.mov (.s 12)),.h 48 45 (.ia 1 46 47),.h 49 45 (.l 48),.h 50 45 (.fa 2 4),.h 51 45 (.l 50),.h 52 45 (.mov (.s 9)),.h 53 45 (.ia 1 51 52),.h 54 45 (.l 53),.h 55 45 (.mov (.s 11)),.h 56 45 (.ia 1 54 55),.h 57 45 (.l 56),.h 58 45 (.b .eql 49 57),.g 59 34 (.pick (.s 45) (.q true) (.s 58)),.o 60 (.pick (.s 34) (.s 59) (.q false)),.m 10 60] [[],[0],[1],[1],[2,3,1],[4,1],[1],[6,1],[1],[7,8,1],[9,1],[5,10,1],[11,1,1],[12],[12],[13,14,12],[15,12],[12],[17,12],[12],[18,19,12],[20,12],[12],[21,22,12],[23,12],[16,24,12],[12,25,1],[1,26],[27,12,0,1,2,3,4,5,6,7,8,9,10,11,12,13,14,15,16,17,18,19,20,21,22,23,24,25,26,27]] [2,3,4,5,9,10,11,12])) (.reg [.m 31 12,.bk 32 .add 31 1,.m 12 32] [2,3,4,5,9,10,11,12]))
def Zuq:MCode:=.reg [.m 25 11,.bk 26 .add 25 1,.m 11 26] [2,3,4,5,9,10,11]
def Zpc:MCode:=.we [.m 20 11,.fa 21 1 5,.l 22 21,.ll 23 22,.b 24 .lss 20 23] [2,3,4,5,9,10,11,24] 24 2 (.seq (.block 3 (.r [.mk' 12 0] [2,3,4,5,9,10,11,12] (.block 4 (.loop [2,3,4,5,9,10,11,12] Zup)))) Zuq)
def Zpd:MCode:=.r [.m 61 10] [2,3,4,5,9,61] (.cond (.s 61) (.r [.o 8 (.mov (.q true))] [8] .ret) .skip)
def Zpe:MCode:=.reg [.m 18 9,.bk 19 .add 18 1,.m 9 19] [2,3,4,5,9]
def Zlz:MCode:=.we [.m 13 9,.fa 14 2 4,.l 15 14,.ll 16 15,.b 17 .lss 13 16] [2,3,4,5,9,17] 17 0 (.seq (.block 1 (.r [.o 10 (.mov (.q true))] [2,3,4,5,9,10] (.seq (.r [.mk' 11 0] [2,3,4,5,9,10,11] (.block 2 (.loop [2,3,4,5,9,10,11] Zpc))) Zpd))) Zpe)
def Zl0:MCode:=.r [.o 8 (.mov (.q false))] [8] .ret
def Z1s:MFun:=⟨4,62,[.tmp 8],.r [.bx 4 0,.bx 5 1,.o 8 (.mov (.q false))] [2,3,4,5] (.seq (.r [.mk' 9 0] [2,3,4,5,9] (.block 0 (.loop [2,3,4,5,9] Zlz))) Zl0)⟩
noncomputable def Zpf (a:Zg) (a1:Atom) (a2:List Int) (a3:List Int):Rs:=C 354 [.agg (a.c.map .t),.agg (a1.c.map .t),L 1 (a2.map ic),L 1 (a3.map ic)] []
noncomputable def Zjc (t:Zg) (a:Atom) (vars:List Int) (row:List Int) (i:Int):Rs:=EvL C [.blk 0,.seq Zl0,.fin 0 [.tmp 8]] [2,3,4,5,9] Zlz ⟨[(2,L 1 (vars.map ic)),(3,L 1 (row.map ic)),(4,.ptr 0 0),(5,.ptr 1 0),(9,I i)],[[]],[.box (t.c.map .t),.box (a.c.map .t)]⟩
noncomputable def Zjd (t:Zg) (a:Atom) (vars:List Int) (row:List Int) (i:Int) (is:Bool) (k:Int):Rs:=EvL C [.blk 2,.seq Zpd,.blk 1,.seq Zpe,.loop [2,3,4,5,9] Zlz,.blk 0,.seq Zl0,.fin 0 [.tmp 8]] [2,3,4,5,9,10,11] Zpc ⟨[(2,L 1 (vars.map ic)),(3,L 1 (row.map ic)),(4,.ptr 0 0),(5,.ptr 1 0),(9,I i),(10,Bo is),(11,I k)],[[]],[.box (t.c.map .t),.box (a.c.map .t)]⟩
noncomputable def Zhg (t:Zg) (a:Atom) (vars:List Int) (row:List Int) (i:Int) (is:Bool) (k:Int) (j:Int):Rs:=EvL C [.blk 4,.blk 3,.seq Zuq,.loop [2,3,4,5,9,10,11] Zpc,.blk 2,.seq Zpd,.blk 1,.seq Zpe,.loop [2,3,4,5,9] Zlz,.blk 0,.seq Zl0,.fin 0 [.tmp 8]] [2,3,4,5,9,10,11,12] Zup ⟨[(2,L 1 (vars.map ic)),(3,L 1 (row.map ic)),(4,.ptr 0 0),(5,.ptr 1 0),(9,I i),(10,Bo is),(11,I k),(12,I j)],[[]],[.box (t.c.map .t),.box (a.c.map .t)]⟩
def Zur:MCode:=.we [.m 12 9,.m 13 0,.ll 14 13,.b 15 .lss 12 14] [0,1,2,3,9,15] 15 0 (.seq (.block 1 (.seq (.drw [.m 18 0,.m 19 9,.ia 20 3 18 19,.ln 21 3 20,.m 22 1,.m 23 9,.ia 24 2 22 23,.ln 25 2 24,.m 26 2,.m 27 3,.cl 28 354 [21,25,26,27],.o 29 (.un .not (.s 28))] [[],[],[0,1],[2],[],[],[4,5],[6],[],[],[3,7,8,9],[10]] [0,1,2,3,9,29]) (.cond (.s 29) (.r [.o 30 (.bslice 30 1 0 [.lst 1 []] []),.m 8 30] [8] .ret) .skip))) (.reg [.m 16 9,.bk 17 .add 16 1,.m 9 17] [0,1,2,3,9]))
def Zus:MCode:=.we [.m 41 11,.bk 42 .leq 41 9] [0,1,2,3,10,11,42] 42 2 (.seq (.block 3 (.reg [.m 45 10,.m 46 0,.m 47 1,.m 48 2,.o 49 (.bslice 3 1 0 [.z] []),.m 50 3,.o 51 (.append 3 1 8 false (.s 49) (.s 50)),.m 52 11,.o 53 (.bslice 3 1 1 [.z] [(0,.s 52)]),.o 54 (.append 3 1 8 true (.s 51) (.s 53)),.o 55 (.icall 277 [.s 46,.s 47,.s 48,.s 54]),.o 56 (.append 30 1 24 false (.s 45) (.s 55)),.m 10 56] [0,1,2,3,10,11])) (.reg [.m 43 11,.bk 44 .add 43 1,.m 11 44] [0,1,2,3,10,11]))
def Zut:MCode:=.r [.m 57 10,.m 8 57] [8] .ret
def Zuu:MCode:=.wc [.m 31 3,.ll 32 31,.m 33 2,.ll 34 33,.b 35 .eql 32 34] [0,1,2,3,35] 35 (.r [.o 36 (.bslice 3 1 0 [.z] []),.m 37 3,.o 38 (.append 3 1 8 false (.s 36) (.s 37)),.o 39 (.bslice 30 1 1 [.lst 1 []] [(0,.s 38)]),.m 8 39] [8] .ret) (.r [.o 40 (.bslice 30 1 0 [.lst 1 []] []),.m 10 40] [0,1,2,3,10] (.seq (.r [.mk' 11 0] [0,1,2,3,10,11] (.block 2 (.loop [0,1,2,3,10,11] Zus))) Zut))
def Z1t:MFun:=⟨4,58,[.tmp 8],.r [.o 8 (.mov (.c (.t .nil)))] [0,1,2,3] (.seq (.r [.mk' 9 0] [0,1,2,3,9] (.block 0 (.loop [0,1,2,3,9] Zur))) Zuu)⟩
noncomputable def Zhh (x:List Zg) (fr:Bool) (x1:List Atom) (x2:List Int) (x3:List Int):Rs:=C 277 [.own 0,.own 1,.own 2,.own 3] [.arr 277 3 true (x.map Zg.c),.arr 264 2 fr (x1.map Atom.c),.arr 3 1 true (x2.map ic),.arr 3 1 true (x3.map ic)]
noncomputable def Zje (l:List Zg) (fr:Bool) (atoms:List Atom) (vars:List Int) (row:List Int) (i:Int):Rs:=EvL C [.blk 0,.seq Zuu,.fin 4 [.tmp 8]] [0,1,2,3,9] Zur ⟨[(0,.own 0),(1,.own 1),(2,.own 2),(3,.own 3),(9,I i)],[[(0,.own 0),(1,.own 1),(2,.own 2),(3,.own 3)]],[.arr 277 3 true (l.map Zg.c),.arr 264 2 fr (atoms.map Atom.c),.arr 3 1 true (vars.map ic),.arr 3 1 true (row.map ic)]⟩
noncomputable def Zjf (l:List Zg) (fr:Bool) (atoms:List Atom) (vars:List Int) (row:List Int) (fr1:Bool) (out:List (List Int)) (v:Int):Rs:=EvL C [.blk 2,.seq Zut,.fin 4 [.tmp 8]] [0,1,2,3,10,11] Zus ⟨[(0,.own 0),(1,.own 1),(2,.own 2),(3,.own 3),(10,.own 4),(11,I v)],[[(0,.own 0),(1,.own 1),(2,.own 2),(3,.own 3)]],[.arr 277 3 true (l.map Zg.c),.arr 264 2 fr (atoms.map Atom.c),.arr 3 1 true (vars.map ic),.arr 3 1 true (row.map ic),.arr 30 1 fr1 (out.map isc)]⟩
def Z1u:MCode:=.reg [.m 33 10,.bk 34 .add 33 1,.m 10 34] [2,3,4,6,8,9,10]
def Zuv:MCode:=.we [.m 28 10,.fa 29 1 4,.l 30 29,.ll 31 30,.b 32 .lss 28 31] [2,3,4,6,8,9,10,32] 32 0 (.seq (.block 1 (.r [.m 35 2,.m 36 10,.b 37 .shr 35 36,.bk 38 .and 37 1,.bk 39 .eql 38 1] [2,3,4,6,8,9,10,39] (.cond (.s 39) (.seq (.drw [.ln 41 1 3,.fa 42 1 4,.l 43 42,.m 44 10,.ia 45 2 43 44,.fa 46 0 45,.l 47 46,.cl 48 275 [41,47],.m 40 48,.o 49 (.ext (.s 40) 0),.o 50 (.ext (.s 40) 1),.o 11 (.alloc [.t (.str ⟨#[]⟩),.t .z,.t .nil]),.st 3 11 49,.m 12 50] [[],[],[1],[],[2,3],[4],[5],[0,6],[7],[8],[8],[],[11,9,7,0,1,2,3,4,5,6,7,8,9,11],[10,12,0,1,2,3,4,5,6,7,8,9,10,11,12]] [2,3,4,6,8,9,10,11]) (.r [.m 51 8,.ln 52 3 11,.o 53 (.bslice 277 3 1 [.str ⟨#[]⟩,.z,.lst 1 []] [(0,.s 52)]),.o 54 (.append 277 3 48 true (.s 51) (.s 53)),.m 8 54] [2,3,4,6,8,9,10] (.reg [.m 55 9,.fa 56 1 4,.l 57 56,.m 58 10,.ia 59 2 57 58,.ln 60 2 59,.o 61 (.bslice 264 2 1 [.str ⟨#[]⟩,.lst 1 []] [(0,.s 60)]),.o 62 (.append 264 2 40 true (.s 55) (.s 61)),.m 9 62] [2,3,4,6,8,9,10]))) .skip))) Z1u)
def Zuw:MCode:=.r [.ln 63 2 4,.m 64 2,.cl 65 276 [63,64],.m 13 65] [6,8,9,13] (.r [.m 66 13,.m 67 8,.m 68 9,.m 69 13,.o 70 (.bslice 3 1 0 [.z] []),.o 71 (.icall 277 [.s 67,.s 68,.s 69,.s 70]),.o 72 (.build [.t .nil,.t .nil] [(0,1,.s 66),(1,1,.s 71)]),.st 2 6 72,.o 7 (.mov (.q true))] [6,7] .ret)
def Z1v:MFun:=⟨3,73,[.cell 6 (some 2),.tmp 7],.r [.bx 3 0,.bx 4 1,.o 6 (.alloc [.t .nil,.t .nil]),.o 7 (.mov (.q false))] [2,3,4,6] (.wc [.ln 14 1 3,.ln 15 2 4,.cl 16 178 [14,15],.o 17 (.un .not (.s 16)),.m 18 17,.h 19 18 (.mov (.s 2)),.h 20 18 (.ln 2 4),.h 21 18 (.cl 81 [20]),.h 22 18 (.call 122 [.s 19,.c (.t (.int .i64 1)),.s 21]),.h 23 18 (.un .not (.s 22)),.o 24 (.pick (.s 18) (.q true) (.s 23))] [2,3,4,6,24] 24 (.r [.o 25 (.build [.t .nil,.t .nil] []),.st 2 6 25,.o 7 (.mov (.q false))] [6,7] .ret) (.r [.o 26 (.bslice 277 3 0 [.str ⟨#[]⟩,.z,.lst 1 []] []),.m 8 26] [2,3,4,6,8] (.r [.o 27 (.bslice 264 2 0 [.str ⟨#[]⟩,.lst 1 []] []),.m 9 27] [2,3,4,6,8,9] (.seq (.r [.mk' 10 0] [2,3,4,6,8,9,10] (.block 0 (.loop [2,3,4,6,8,9,10] Zuv))) Zuw))))⟩
noncomputable def Zhi (a:Zi) (a1:Zc) (a2:Int):Rs:=C 166 [.agg (a.c.map .t),.agg (a1.c.map .t),I a2] []
noncomputable def Zhj (d:Zi) (q:Zc) (l:List Zg) (fr:Bool) (atoms:List Atom) (mask:Int) (i:Int):Rs:=EvL C [.blk 0,.seq Zuw,.fin 0 [.cell 6 (some 2),.tmp 7]] [2,3,4,6,8,9,10] Zuv ⟨[(2,I mask),(3,.ptr 0 0),(4,.ptr 1 0),(6,.ptr 2 0),(8,.own 3),(9,.own 4),(10,I i)],[[]],[.box (d.c.map .t),.box (q.c.map .t),.box [.t .nil,.t .nil],.arr 277 3 true (l.map Zg.c),.arr 264 2 fr (atoms.map Atom.c)]⟩
def Z1w:MFun:=⟨3,21,[.tmp 6],.r [.bx 3 0,.bx 4 1,.mk' 6 0] [2,3,4] (.r [.ln 10 1 3,.ln 11 2 4,.m 12 2,.cl 13 166 [10,11,12],.m 9 13,.o 14 (.ext (.s 9) 0),.o 15 (.ext (.s 9) 1),.o 7 (.alloc [.t .nil,.t .nil]),.st 2 7 14,.m 8 15] [7,8] (.wc [.m 16 8,.o 17 (.un .not (.s 16))] [7,17] 17 (.r [.mk' 6 (-1)] [6] .ret) (.r [.fa 18 1 7,.l 19 18,.ll 20 19,.m 6 20] [6] .ret)))⟩
noncomputable def Zpg (a:Zi) (a1:Zc) (a2:Int):Rs:=C 52 [.agg (a.c.map .t),.agg (a1.c.map .t),I a2] []
def Z1x:MCode:=.reg [.m 27 5,.m 28 7,.o 29 (.bslice 3 1 1 [.z] [(0,.s 28)]),.o 30 (.append 3 1 8 true (.s 27) (.s 29)),.m 5 30] [2,3,5,6]
def Zux:MCode:=.we [.m 9 6,.ln 10 2 3,.cl 11 81 [10],.b 12 .leq 9 11,.m 13 12,.g 14 13 (.ln 1 2),.g 15 13 (.ln 2 3),.g 16 13 (.cl 178 [14,15]),.o 17 (.pick (.s 13) (.s 16) (.q false))] [2,3,5,6,17] 17 0 (.seq (.block 1 (.r [.mk' 7 0] [2,3,5,6,7] (.wc [.ln 20 2 3,.m 21 6,.cl 22 109 [20,21]] [2,3,5,6,7,22] 22 (.reg [.ln 23 1 2,.ln 24 2 3,.m 25 6,.cl 26 52 [23,24,25],.m 7 26] [2,3,5,6,7]) Z1x))) (.reg [.m 18 6,.bk 19 .add 18 1,.m 6 19] [2,3,5,6]))
def Zuy:MCode:=.r [.m 31 5,.m 4 31] [4] .ret
def Z1y:MFun:=⟨2,32,[.tmp 4],.r [.bx 2 0,.bx 3 1,.o 4 (.mov (.c (.t .nil)))] [2,3] (.r [.o 8 (.bslice 3 1 0 [.z] []),.m 5 8] [2,3,5] (.seq (.r [.mk' 6 0] [2,3,5,6] (.block 0 (.loop [2,3,5,6] Zux))) Zuy))⟩
noncomputable def Zl1 (a:Zi) (a1:Zc):Rs:=C 224 [.agg (a.c.map .t),.agg (a1.c.map .t)] []
noncomputable def Zjg (d:Zi) (q:Zc) (out:List Int) (m:Int):Rs:=EvL C [.blk 0,.seq Zuy,.fin 0 [.tmp 4]] [2,3,5,6] Zux ⟨[(2,.ptr 0 0),(3,.ptr 1 0),(5,.own 2),(6,I m)],[[]],[.box (d.c.map .t),.box (q.c.map .t),.arr 3 1 true (out.map ic)]⟩
def Zuz:MCode:=.we [.m 8 4,.m 9 0,.b 10 .lss 8 9] [0,3,4,10] 10 0 (.seq (.block 1 (.reg [.m 13 3,.bk 14 .mul 13 4,.o 15 (.mm true (.k 1) (.s 14)),.m 3 15] [0,3,4])) (.reg [.m 11 4,.bk 12 .add 11 1,.m 4 12] [0,3,4]))
def Zu0:MCode:=.r [.m 16 3,.m 2 16] [2] .ret
def Z1z:MFun:=⟨1,17,[.tmp 2],.r [.mk' 2 0] [0] (.wc [.m 5 0,.o 6 (.call 122 [.s 5,.c (.t .z),.c (.t (.int .i64 7))]),.o 7 (.un .not (.s 6))] [0,7] 7 (.r [.mk' 2 (-1)] [2] .ret) (.r [.mk' 3 0] [0,3] (.seq (.r [.mk' 4 0] [0,3,4] (.block 0 (.loop [0,3,4] Zuz))) Zu0)))⟩
noncomputable def Ze1 (a:Int):Rs:=C 208 [I a] []
noncomputable def Zjh (k:Int) (n:Int) (i:Int):Rs:=EvL C [.blk 0,.seq Zu0,.fin 0 [.tmp 2]] [0,3,4] Zuz ⟨[(0,I k),(3,I n),(4,I i)],[[]],[]⟩
def Zu1:MCode:=.we [.m 6 3,.bk 7 .leq 6 7] [0,3,7] 7 0 (.seq (.block 1 (.r [.m 10 3,.cl 11 208 [10],.m 12 0,.b 13 .geq 11 12] [0,3,13] (.cond (.s 13) (.r [.m 14 3,.m 2 14] [2] .ret) .skip))) (.reg [.m 8 3,.bk 9 .add 8 1,.m 3 9] [0,3]))
def Zu2:MCode:=.r [.mk' 2 (-1)] [2] .ret
def Z10:MFun:=⟨1,15,[.tmp 2],.r [.mk' 2 0] [0] (.wc [.m 4 0,.bk 5 .lss 4 0] [0,5] 5 (.r [.mk' 2 (-1)] [2] .ret) (.seq (.r [.mk' 3 0] [0,3] (.block 0 (.loop [0,3] Zu1))) Zu2))⟩
noncomputable def Zph (a:Int):Rs:=C 152 [I a] []
noncomputable def Zpi (n:Int) (k:Int):Rs:=EvL C [.blk 0,.seq Zu2,.fin 0 [.tmp 2]] [0,3] Zu1 ⟨[(0,I n),(3,I k)],[[]],[]⟩
def Zu3:MCode:=.we [.m 12 7,.m 13 6,.ll 14 13,.b 15 .lss 12 14] [5,6,7,15] 15 0 (.seq (.block 1 (.reg [.m 18 5,.m 19 6,.m 20 7,.ia 21 1 19 20,.l 22 21,.cl 23 152 [22],.o 24 (.bslice 3 1 1 [.z] [(0,.s 23)]),.o 25 (.append 3 1 8 true (.s 18) (.s 24)),.m 5 25] [5,6,7])) (.reg [.m 16 7,.bk 17 .add 16 1,.m 7 17] [5,6,7]))
def Zu4:MCode:=.r [.m 26 5,.m 4 26] [4] .ret
def Z11:MFun:=⟨2,27,[.tmp 4],.r [.bx 2 0,.bx 3 1,.o 4 (.mov (.c (.t .nil)))] [2,3] (.r [.o 8 (.bslice 3 1 0 [.z] []),.m 5 8] [2,3,5] (.r [.ln 9 1 2,.ln 10 2 3,.cl 11 224 [9,10],.m 6 11] [5,6] (.seq (.r [.mk' 7 0] [5,6,7] (.block 0 (.loop [5,6,7] Zu3))) Zu4)))⟩
noncomputable def Zl2 (a:Zi) (a1:Zc):Rs:=C 108 [.agg (a.c.map .t),.agg (a1.c.map .t)] []
noncomputable def Zl3 (out:List Int) (l:List Int) (i:Int):Rs:=EvL C [.blk 0,.seq Zu4,.fin 0 [.tmp 4]] [5,6,7] Zu3 ⟨[(5,.own 0),(6,.own 1),(7,I i)],[[]],[.arr 3 1 true (out.map ic),.arr 3 1 true (l.map ic)]⟩
def Zu5:MCode:=.we [.m 4 3,.m 5 0,.ll 6 5,.b 7 .lss 4 6] [0,3,7] 7 0 (.seq (.block 1 (.r [.m 10 0,.m 11 3,.ia 12 1 10 11,.l 13 12,.o 14 (.call 122 [.s 13,.c (.t .z),.c (.t (.int .i64 7))]),.o 15 (.un .not (.s 14))] [0,3,15] (.cond (.s 15) (.r [.o 2 (.mov (.q false))] [2] .ret) .skip))) (.reg [.m 8 3,.bk 9 .add 8 1,.m 3 9] [0,3]))
def Zu6:MCode:=.r [.m 16 0,.ll 17 16,.bk 18 .leq 17 16,.m 2 18] [2] .ret
def Z12:MFun:=⟨1,19,[.tmp 2],.r [.o 2 (.mov (.q false))] [0] (.seq (.r [.mk' 3 0] [0,3] (.block 0 (.loop [0,3] Zu5))) Zu6)⟩
noncomputable def Zpj (a:List Int):Rs:=C 207 [L 1 (a.map ic)] []
noncomputable def Zl4 (l:List Int) (i:Int):Rs:=EvL C [.blk 0,.seq Zu6,.fin 0 [.tmp 2]] [0,3] Zu5 ⟨[(0,L 1 (l.map ic)),(3,I i)],[[]],[]⟩
def Zu7:MCode:=.we [.m 6 4,.m 7 0,.ll 8 7,.b 9 .lss 6 8,.m 10 9,.g 11 10 (.mov (.s 0)),.g 12 10 (.cl 207 [11]),.o 13 (.pick (.s 10) (.s 12) (.q false))] [0,3,4,13] 13 0 (.seq (.block 1 (.reg [.m 16 3,.m 17 0,.m 18 4,.ia 19 1 17 18,.l 20 19,.cl 21 208 [20],.o 22 (.bslice 3 1 1 [.z] [(0,.s 21)]),.o 23 (.append 3 1 8 true (.s 16) (.s 22)),.m 3 23] [0,3,4])) (.reg [.m 14 4,.bk 15 .add 14 1,.m 4 15] [0,3,4]))
def Zu8:MCode:=.r [.m 24 3,.m 2 24] [2] .ret
def Z13:MFun:=⟨1,25,[.tmp 2],.r [.o 2 (.mov (.c (.t .nil)))] [0] (.r [.o 5 (.bslice 3 1 0 [.z] []),.m 3 5] [0,3] (.seq (.r [.mk' 4 0] [0,3,4] (.block 0 (.loop [0,3,4] Zu7))) Zu8))⟩
noncomputable def Zl5 (a:List Int):Rs:=C 87 [L 1 (a.map ic)] []
noncomputable def Zji (out:List Int) (l:List Int) (i:Int):Rs:=EvL C [.blk 0,.seq Zu8,.fin 0 [.tmp 2]] [0,3,4] Zu7 ⟨[(0,L 1 (l.map ic)),(3,.own 0),(4,I i)],[[]],[.arr 3 1 true (out.map ic)]⟩
def Z14:MFun:=⟨2,24,[.cell 4 (some 6)],.r [.bx 2 0,.o 4 (.alloc [.t .z,.t .z,.t .z,.t .z,.t .z,.t .nil])] [1,2,4] (.seq (.r [.m 5 1] [2,4,5] (.block 0 (.r [.bk 7 .eql 5 1,.m 6 7] [2,4,5,6] (.cond (.s 6) (.r [.fa 8 0 2,.ln 9 6 8,.st 6 4 9] [4] .ret) (.r [.bk 11 .eql 5 2,.m 10 11] [2,4,5,10] (.cond (.s 10) (.r [.fa 12 6 2,.ln 13 6 12,.st 6 4 13] [4] .ret) (.r [.bk 15 .eql 5 3,.m 14 15] [2,4,5,14] (.cond (.s 14) (.r [.fa 16 12 2,.ln 17 6 16,.st 6 4 17] [4] .ret) (.r [.bk 19 .eql 5 4,.m 18 19] [2,4,18] (.cond (.s 18) (.r [.fa 20 18 2,.ln 21 6 20,.st 6 4 21] [4] .ret) .skip)))))))))) (.r [.fa 22 24 2,.ln 23 6 22,.st 6 4 23] [4] .ret))⟩
noncomputable def Zdz (a:Zd) (a1:Int):Rs:=C 164 [.agg (a.c.map .t),I a1] []
def Z15:MFun:=⟨1,5,[.tmp 2],.r [.o 2 (.mov (.q false))] [0] (.r [.m 3 0,.o 4 (.call 122 [.s 3,.c (.t (.int .i64 (-99))),.c (.t (.int .i64 99))]),.m 2 4] [2] .ret)⟩
noncomputable def Ze2 (a:Int):Rs:=C 350 [I a] []
def Zu9:MCode:=.we [.m 38 3,.fa 39 5 1,.l 40 39,.ll 41 40,.b 42 .lss 38 41] [1,3,42] 42 0 (.seq (.block 1 (.seq (.drw [.fa 45 5 1,.l 46 45,.m 47 3,.ia 48 2 46 47,.fa 49 0 48,.l 50 49,.o 51 (.call 122 [.s 50,.c (.t (.int .i64 1)),.c (.t (.int .i64 8192))]),.o 52 (.un .not (.s 51)),.m 53 52,.h 54 53 (.fa 5 1),.h 55 53 (.l 54),.h 56 53 (.mov (.s 3)),.h 57 53 (.ia 2 55 56),.h 58 53 (.fa 1 57),.h 59 53 (.l 58),.h 60 53 (.cl 350 [59]),.h 61 53 (.un .not (.s 60)),.o 62 (.pick (.s 53) (.q true) (.s 61)),.m 63 62,.h 64 63 (.mov (.s 3)),.h 65 63 (.bk .gtr 64 0),.h 66 63 (.mov (.s 65)),.g 67 66 (.fa 5 1),.g 68 66 (.l 67),.g 69 66 (.mov (.s 3)),.g 70 66 (.bk .sub 69 1),.g 71 66 (.ia 2 68 70),.g 72 66 (.fa 0 71),.g 73 66 (.l 72),.g 74 66 (.fa 5 1),.g 75 66 (.l 74),.g 76 66 (.mov (.s 3)),.g 77 66 (.ia 2 75 76),.g 78 66 (.fa 0 77),.g 79 66 (.l 78),.g 80 66 (.b .geq 73 79),.h 81 63 (.pick (.s 66) (.s 80) (.q false)),.o 82 (.pick (.s 63) (.q true) (.s 81))] [[],[0],[],[1,2],[3],[4],[5],[6],[7,6],[8],[9,8],[8],[10,11,8],[12,8],[13,8],[14,8,8],[15,8],[8,16],[17,15],[18],[19,18],[20,18,18],[21],[22,21],[21],[24,21],[23,25,21],[26,21],[27,21],[21],[29,21],[21],[30,31,21],[32,21],[33,21],[28,34,21],[21,35,18],[18,36]] [1,3,82]) (.cond (.s 82) (.r [.o 2 (.mov (.q false))] [2] .ret) .skip))) (.reg [.m 43 3,.bk 44 .add 43 1,.m 3 44] [1,3]))
def Zva:MCode:=.r [.o 2 (.mov (.q true))] [2] .ret
def Z16:MFun:=⟨1,83,[.tmp 2],.r [.bx 1 0,.o 2 (.mov (.q false))] [1] (.wc [.fa 4 0 1,.l 5 4,.cl 6 350 [5],.o 7 (.un .not (.s 6)),.m 8 7,.h 9 8 (.fa 1 1),.h 10 8 (.l 9),.h 11 8 (.cl 350 [10]),.h 12 8 (.un .not (.s 11)),.o 13 (.pick (.s 8) (.q true) (.s 12)),.m 14 13,.h 15 14 (.fa 2 1),.h 16 14 (.l 15),.h 17 14 (.cl 350 [16]),.h 18 14 (.un .not (.s 17)),.o 19 (.pick (.s 14) (.q true) (.s 18)),.m 20 19,.h 21 20 (.fa 3 1),.h 22 20 (.l 21),.h 23 20 (.cl 350 [22]),.h 24 20 (.un .not (.s 23)),.o 25 (.pick (.s 20) (.q true) (.s 24)),.m 26 25,.h 27 26 (.fa 4 1),.h 28 26 (.l 27),.h 29 26 (.cl 350 [28]),.h 30 26 (.un .not (.s 29)),.o 31 (.pick (.s 26) (.q true) (.s 30)),.m 32 31,.h 33 32 (.fa 5 1),.h 34 32 (.l 33),.h 35 32 (.ll 34),.h 36 32 (.bk .gtr 35 4),.o 37 (.pick (.s 32) (.q true) (.s 36))] [1,37] 37 (.r [.o 2 (.mov (.q false))] [2] .ret) (.seq (.r [.mk' 3 0] [1,3] (.block 0 (.loop [1,3] Zu9))) Zva))⟩
noncomputable def Zfz (a:Zj):Rs:=C 274 [.agg (a.c.map .t)] []
noncomputable def Zhk (o:Zj) (i:Int):Rs:=EvL C [.blk 0,.seq Zva,.fin 0 [.tmp 2]] [1,3] Zu9 ⟨[(1,.ptr 0 0),(3,I i)],[[]],[.box (o.c.map .t)]⟩
def Z17:MCode:=.reg [.m 58 10,.bk 59 .add 58 1,.m 10 59] [1,2,4,9,10]
def Zvb:MCode:=.we [.m 53 10,.fa 54 5 4,.l 55 54,.ll 56 55,.b 57 .lss 53 56] [1,2,4,9,10,57] 57 0 (.seq (.block 1 (.r [.m 60 1,.m 61 2,.b 62 .add 60 61,.fa 63 5 4,.l 64 63,.m 65 10,.ia 66 2 64 65,.fa 67 0 66,.l 68 67,.b 69 .geq 62 68] [1,2,4,9,10,69] (.cond (.s 69) (.reg [.m 70 9,.fa 71 5 4,.l 72 71,.m 73 10,.ia 74 2 72 73,.fa 75 1 74,.l 76 75,.b 77 .add 70 76,.m 9 77] [1,2,4,9,10]) .skip))) Z17)
def Zvc:MCode:=.r [.m 78 9,.m 8 78] [8] .ret
def Z18:MFun:=⟨4,79,[.tmp 8],.r [.bx 4 0,.mk' 8 0] [1,2,3,4] (.wc [.ln 11 6 4,.cl 12 274 [11],.o 13 (.un .not (.s 12)),.m 14 13,.h 15 14 (.mov (.s 1)),.h 16 14 (.call 122 [.s 15,.c (.t .z),.c (.t (.int .i64 4096))]),.h 17 14 (.un .not (.s 16)),.o 18 (.pick (.s 14) (.q true) (.s 17)),.m 19 18,.h 20 19 (.mov (.s 2)),.h 21 19 (.call 122 [.s 20,.c (.t .z),.c (.t (.int .i64 4096))]),.h 22 19 (.un .not (.s 21)),.o 23 (.pick (.s 19) (.q true) (.s 22)),.m 24 23,.h 25 24 (.mov (.s 3)),.h 26 24 (.call 122 [.s 25,.c (.t .z),.c (.t (.int .i64 4096))]),.h 27 24 (.un .not (.s 26)),.o 28 (.pick (.s 24) (.q true) (.s 27))] [1,2,3,4,28] 28 (.r [.mk' 8 0] [8] .ret) (.r [.fa 29 0 4,.l 30 29,.fa 31 1 4,.l 32 31,.m 33 1,.b 34 .mul 32 33,.b 35 .add 30 34,.fa 36 2 4,.l 37 36,.m 38 2,.b 39 .mul 37 38,.b 40 .add 35 39,.fa 41 3 4,.l 42 41,.m 43 3,.b 44 .mul 42 43,.b 45 .add 40 44,.fa 46 4 4,.l 47 46,.m 48 1,.b 49 .mul 47 48,.m 50 2,.b 51 .mul 49 50,.b 52 .add 45 51,.m 9 52] [1,2,4,9] (.seq (.r [.mk' 10 0] [1,2,4,9,10] (.block 0 (.loop [1,2,4,9,10] Zvb))) Zvc)))⟩
noncomputable def Zcv (a:Zj) (a1:Int) (a2:Int) (a3:Int):Rs:=C 163 [.agg (a.c.map .t),I a1,I a2,I a3] []
noncomputable def Zhl (o:Zj) (l:Int) (r_1:Int) (n:Int) (i:Int):Rs:=EvL C [.blk 0,.seq Zvc,.fin 0 [.tmp 8]] [1,2,4,9,10] Zvb ⟨[(1,I l),(2,I r_1),(4,.ptr 0 0),(9,I n),(10,I i)],[[]],[.box (o.c.map .t)]⟩
def Z19:MFun:=⟨2,19,[.tmp 4],.r [.bx 2 0,.mk' 4 0] [1,2] (.seq (.drw [.ln 5 6 2,.m 6 1,.o 7 (.iaddr 1 (.s 6) (.k 0)),.l 8 7,.cl 9 208 [8],.m 10 1,.o 11 (.iaddr 1 (.s 10) (.k 1)),.l 12 11,.cl 13 208 [12],.m 14 1,.o 15 (.iaddr 1 (.s 14) (.k 2)),.l 16 15,.cl 17 208 [16],.cl 18 163 [5,9,13,17],.m 4 18] [[],[],[1],[2],[3],[],[5],[6],[7,4],[],[9],[10],[11,8],[0,4,8,12,12],[13,13,0,1,2,3,4,5,6,7,8,9,10,11,12,13]] [4]) .ret)⟩
noncomputable def Zhm (a:Zj) (a1:List Int):Rs:=C 397 [.agg (a.c.map .t),L 1 (a1.map ic)] []
def Zvd:MCode:=.we [.m 32 9,.bk 33 .lss 32 3] [1,5,6,7,8,9,33] 33 6 (.seq (.block 7 (.r [.o 36 (.bslice 3 1 0 [.z] []),.m 37 8,.o 38 (.append 3 1 8 false (.s 36) (.s 37)),.m 10 38] [1,5,6,7,8,9,10] (.r [.m 39 10,.m 40 9,.m 41 10,.m 42 9,.ia 43 1 41 42,.l 44 43,.bk 45 .add 44 1,.ia 46 1 39 40,.st 1 46 45] [1,5,6,7,8,9,10] (.seq (.drw [.m 47 10,.m 48 9,.ia 49 1 47 48,.l 50 49,.bk 51 .leq 50 7,.m 52 51,.g 53 52 (.ln 6 1),.g 54 52 (.mov (.s 10)),.g 55 52 (.cl 397 [53,54]),.g 56 52 (.ln 6 1),.g 57 52 (.mov (.s 8)),.g 58 52 (.cl 397 [56,57]),.g 59 52 (.b .lss 55 58),.o 60 (.pick (.s 52) (.s 59) (.q false))] [[],[],[0,1],[2],[3],[4],[5],[5],[6,7,5,5],[5],[5],[9,10,8,5],[8,11,5],[5,12]] [1,5,6,7,8,9,10,60]) (.cond (.s 60) (.r [.m 61 8,.m 62 10,.m 2 61,.m 3 62,.o 4 (.mov (.q true))] [2,3,4] .ret) .skip))))) (.reg [.m 34 9,.bk 35 .add 34 1,.m 9 35] [1,5,6,7,8,9]))
def Zve:MCode:=.reg [.m 26 7,.bk 27 .add 26 1,.m 7 27] [1,5,6,7]
def Zpk:MCode:=.we [.m 24 7,.bk 25 .leq 24 7] [1,5,6,7,25] 25 4 (.seq (.block 5 (.r [.m 28 5,.m 29 6,.m 30 7,.o 31 (.bslice 3 1 3 [.z] [(0,.s 28),(1,.s 29),(2,.s 30)]),.m 8 31] [1,5,6,7,8] (.r [.mk' 9 0] [1,5,6,7,8,9] (.block 6 (.loop [1,5,6,7,8,9] Zvd))))) Zve)
def Zpl:MCode:=.reg [.m 22 6,.bk 23 .add 22 1,.m 6 23] [1,5,6]
def Zl6:MCode:=.we [.m 20 6,.bk 21 .leq 20 7] [1,5,6,21] 21 2 (.seq (.block 3 (.r [.mk' 7 0] [1,5,6,7] (.block 4 (.loop [1,5,6,7] Zpk)))) Zpl)
def Zl7:MCode:=.reg [.m 18 5,.bk 19 .add 18 1,.m 5 19] [1,5]
def Zjj:MCode:=.we [.m 16 5,.bk 17 .leq 16 7] [1,5,17] 17 0 (.seq (.block 1 (.r [.mk' 6 0] [1,5,6] (.block 2 (.loop [1,5,6] Zl6)))) Zl7)
def Zjk:MCode:=.r [.o 63 (.bslice 3 1 0 [.z] []),.o 64 (.bslice 3 1 0 [.z] []),.m 2 63,.m 3 64,.o 4 (.mov (.q false))] [2,3,4] .ret
def Z2a:MFun:=⟨1,65,[.tmp 2,.tmp 3,.tmp 4],.r [.bx 1 0,.o 2 (.mov (.c (.t .nil))),.o 3 (.mov (.c (.t .nil))),.o 4 (.mov (.q false))] [1] (.wc [.ln 11 6 1,.cl 12 274 [11],.o 13 (.un .not (.s 12))] [1,13] 13 (.r [.o 14 (.bslice 3 1 0 [.z] []),.o 15 (.bslice 3 1 0 [.z] []),.m 2 14,.m 3 15,.o 4 (.mov (.q false))] [2,3,4] .ret) (.seq (.r [.mk' 5 0] [1,5] (.block 0 (.loop [1,5] Zjj))) Zjk))⟩
noncomputable def Zpm (a:Zj):Rs:=C 341 [.agg (a.c.map .t)] []
noncomputable def Zhn (o:Zj) (a:Int):Rs:=EvL C [.blk 0,.seq Zjk,.fin 0 [.tmp 2,.tmp 3,.tmp 4]] [1,5] Zjj ⟨[(1,.ptr 0 0),(5,I a)],[[]],[.box (o.c.map .t)]⟩
noncomputable def Zjl (o:Zj) (a:Int) (b:Int):Rs:=EvL C [.blk 2,.blk 1,.seq Zl7,.loop [1,5] Zjj,.blk 0,.seq Zjk,.fin 0 [.tmp 2,.tmp 3,.tmp 4]] [1,5,6] Zl6 ⟨[(1,.ptr 0 0),(5,I a),(6,I b)],[[]],[.box (o.c.map .t)]⟩
noncomputable def Zjm (o:Zj) (a:Int) (b:Int) (e:Int):Rs:=EvL C [.blk 4,.blk 3,.seq Zpl,.loop [1,5,6] Zl6,.blk 2,.blk 1,.seq Zl7,.loop [1,5] Zjj,.blk 0,.seq Zjk,.fin 0 [.tmp 2,.tmp 3,.tmp 4]] [1,5,6,7] Zpk ⟨[(1,.ptr 0 0),(5,I a),(6,I b),(7,I e)],[[]],[.box (o.c.map .t)]⟩
noncomputable def Ze3 (o:Zj) (x:List Int) (a:Int) (b:Int) (e:Int) (k:Int):Rs:=EvL C [.blk 6,.blk 5,.seq Zve,.loop [1,5,6,7] Zpk,.blk 4,.blk 3,.seq Zpl,.loop [1,5,6] Zl6,.blk 2,.blk 1,.seq Zl7,.loop [1,5] Zjj,.blk 0,.seq Zjk,.fin 0 [.tmp 2,.tmp 3,.tmp 4]] [1,5,6,7,8,9] Zvd ⟨[(1,.ptr 0 0),(5,I a),(6,I b),(7,I e),(8,.own 1),(9,I k)],[[]],[.box (o.c.map .t),.arr 3 1 true (x.map ic)]⟩
def Zvf:MCode:=.we [.m 14 5,.bk 15 .leq 14 7] [1,3,4,5,15] 15 4 (.seq (.block 5 (.r [.ln 18 6 1,.m 19 3,.m 20 4,.m 21 5,.o 22 (.bslice 3 1 3 [.z] [(0,.s 19),(1,.s 20),(2,.s 21)]),.cl 23 397 [18,22],.bk 24 .lss 23 1] [1,3,4,5,24] (.cond (.s 24) (.r [.m 25 3,.m 26 4,.m 27 5,.o 28 (.bslice 3 1 3 [.z] [(0,.s 25),(1,.s 26),(2,.s 27)]),.m 2 28] [2] .ret) .skip))) (.reg [.m 16 5,.bk 17 .add 16 1,.m 5 17] [1,3,4,5]))
def Zvg:MCode:=.reg [.m 12 4,.bk 13 .add 12 1,.m 4 13] [1,3,4]
def Zpn:MCode:=.we [.m 10 4,.bk 11 .leq 10 7] [1,3,4,11] 11 2 (.seq (.block 3 (.r [.mk' 5 0] [1,3,4,5] (.block 4 (.loop [1,3,4,5] Zvf)))) Zvg)
def Zpo:MCode:=.reg [.m 8 3,.bk 9 .add 8 1,.m 3 9] [1,3]
def Zl8:MCode:=.we [.m 6 3,.bk 7 .leq 6 7] [1,3,7] 7 0 (.seq (.block 1 (.r [.mk' 4 0] [1,3,4] (.block 2 (.loop [1,3,4] Zpn)))) Zpo)
def Zl9:MCode:=.r [.o 29 (.bslice 3 1 0 [.z] []),.m 2 29] [2] .ret
def Z2b:MFun:=⟨1,30,[.tmp 2],.r [.bx 1 0,.o 2 (.mov (.c (.t .nil)))] [1] (.seq (.r [.mk' 3 0] [1,3] (.block 0 (.loop [1,3] Zl8))) Zl9)⟩
noncomputable def Zpp (a:Zj):Rs:=C 342 [.agg (a.c.map .t)] []
noncomputable def Zjn (o:Zj) (a:Int):Rs:=EvL C [.blk 0,.seq Zl9,.fin 0 [.tmp 2]] [1,3] Zl8 ⟨[(1,.ptr 0 0),(3,I a)],[[]],[.box (o.c.map .t)]⟩
noncomputable def Zjo (o:Zj) (a:Int) (b:Int):Rs:=EvL C [.blk 2,.blk 1,.seq Zpo,.loop [1,3] Zl8,.blk 0,.seq Zl9,.fin 0 [.tmp 2]] [1,3,4] Zpn ⟨[(1,.ptr 0 0),(3,I a),(4,I b)],[[]],[.box (o.c.map .t)]⟩
noncomputable def Zma (o:Zj) (a:Int) (b:Int) (e:Int):Rs:=EvL C [.blk 4,.blk 3,.seq Zvg,.loop [1,3,4] Zpn,.blk 2,.blk 1,.seq Zpo,.loop [1,3] Zl8,.blk 0,.seq Zl9,.fin 0 [.tmp 2]] [1,3,4,5] Zvf ⟨[(1,.ptr 0 0),(3,I a),(4,I b),(5,I e)],[[]],[.box (o.c.map .t)]⟩
def Zvh:MCode:=.we [.m 11 5,.bk 12 .leq 11 5] [1,5,12] 12 0 (.seq (.block 1 (.r [.ln 15 30 1,.m 16 5,.cl 17 164 [15,16],.o 6 (.alloc [.t .z,.t .z,.t .z,.t .z,.t .z,.t .nil]),.st 6 6 17] [1,5,6] (.wc [.ln 18 6 6,.cl 19 274 [18],.o 20 (.un .not (.s 19))] [1,5,6,20] 20 (.r [.m 21 5,.o 22 (.bslice 3 1 0 [.z] []),.o 23 (.bslice 3 1 0 [.z] []),.m 2 21,.m 3 22,.m 4 23] [2,3,4] .ret) (.r [.ln 25 6 6,.cl 26 341 [25],.m 24 26,.o 27 (.ext (.s 24) 0),.o 28 (.ext (.s 24) 1),.o 29 (.ext (.s 24) 2),.m 7 27,.m 8 28,.m 9 29] [1,5,6,7,8,9] (.wc [.m 30 9] [1,5,6,7,8,30] 30 (.r [.m 31 5,.m 32 7,.m 33 8,.m 2 31,.m 3 32,.m 4 33] [2,3,4] .ret) (.r [.ln 34 6 6,.cl 35 342 [34],.m 10 35] [1,5,10] (.r [.m 36 10,.ll 37 36,.bk 38 .gtr 37 0] [1,5,10,38] (.cond (.s 38) (.r [.m 39 5,.m 40 10,.o 41 (.bslice 3 1 0 [.z] []),.m 2 39,.m 3 40,.m 4 41] [2,3,4] .ret) .skip)))))))) (.reg [.m 13 5,.bk 14 .add 13 1,.m 5 14] [1,5]))
def Zvi:MCode:=.r [.o 42 (.bslice 3 1 0 [.z] []),.o 43 (.bslice 3 1 0 [.z] []),.mk' 2 0,.m 3 42,.m 4 43] [2,3,4] .ret
def Z2c:MFun:=⟨1,44,[.tmp 2,.tmp 3,.tmp 4],.r [.bx 1 0,.mk' 2 0,.o 3 (.mov (.c (.t .nil))),.o 4 (.mov (.c (.t .nil)))] [1] (.seq (.r [.mk' 5 1] [1,5] (.block 0 (.loop [1,5] Zvh))) Zvi)⟩
noncomputable def Zvj (a:Zd):Rs:=C 268 [.agg (a.c.map .t)] []
noncomputable def Zjp (m:Zd) (k:Int):Rs:=EvL C [.blk 0,.seq Zvi,.fin 0 [.tmp 2,.tmp 3,.tmp 4]] [1,5] Zvh ⟨[(1,.ptr 0 0),(5,I k)],[[]],[.box (m.c.map .t)]⟩
def Z2d:MFun:=⟨1,14,[.tmp 2],.r [.bx 1 0,.o 2 (.mov (.q false))] [1] (.r [.ln 7 30 1,.cl 8 268 [7],.m 6 8,.o 9 (.ext (.s 6) 0),.o 10 (.ext (.s 6) 1),.o 11 (.ext (.s 6) 2),.m 3 9,.m 4 10,.m 5 11] [3] (.r [.m 12 3,.bk 13 .eql 12 0,.m 2 13] [2] .ret))⟩
noncomputable def Zmb (a:Zd):Rs:=C 145 [.agg (a.c.map .t)] []
def Zvk:MCode:=.we [.m 17 5,.m 18 1,.ll 19 18,.b 20 .lss 17 19] [1,5,20] 20 0 (.seq (.block 1 (.r [.m 23 1,.m 24 5,.ia 25 1 23 24,.l 26 25,.o 27 (.call 122 [.s 26,.c (.t .z),.c (.t (.int .i64 4096))]),.o 28 (.un .not (.s 27))] [1,5,28] (.cond (.s 28) (.r [.o 4 (.mov (.q false))] [4] .ret) .skip))) (.reg [.m 21 5,.bk 22 .add 21 1,.m 5 22] [1,5]))
def Zvl:MCode:=.r [.o 4 (.mov (.q true))] [4] .ret
def Z2e:MFun:=⟨2,29,[.tmp 4],.r [.bx 2 0,.o 4 (.mov (.q false))] [1,2] (.wc [.ln 6 2 2,.cl 7 200 [6],.o 8 (.un .not (.s 7)),.m 9 8,.h 10 9 (.mov (.s 1)),.h 11 9 (.ll 10),.h 12 9 (.ln 2 2),.h 13 9 (.cl 81 [12]),.h 14 9 (.bk .add 13 1),.h 15 9 (.b .neq 11 14),.o 16 (.pick (.s 9) (.q true) (.s 15))] [1,16] 16 (.r [.o 4 (.mov (.q false))] [4] .ret) (.seq (.r [.mk' 5 0] [1,5] (.block 0 (.loop [1,5] Zvk))) Zvl))⟩
noncomputable def Zmc (a:Zc) (a1:List Int):Rs:=C 371 [.agg (a.c.map .t),L 1 (a1.map ic)] []
noncomputable def Zmd (sizes:List Int) (i:Int):Rs:=EvL C [.blk 0,.seq Zvl,.fin 0 [.tmp 4]] [1,5] Zvk ⟨[(1,L 1 (sizes.map ic)),(5,I i)],[[]],[]⟩
def Z2f:MCode:=.reg [.m 12 5,.bk 13 .add 12 1,.m 5 13] [1,3,4,5]
def Zvm:MCode:=.we [.m 9 5,.m 10 4,.b 11 .leq 9 10] [1,3,4,5,11] 11 0 (.seq (.block 1 (.r [.ln 14 2 1,.m 15 5,.cl 16 226 [14,15]] [1,3,4,5,16] (.cond (.s 16) (.reg [.m 17 3,.m 18 5,.o 19 (.bslice 3 1 1 [.z] [(0,.s 18)]),.o 20 (.append 3 1 8 true (.s 17) (.s 19)),.m 3 20] [1,3,4,5]) .skip))) Z2f)
def Zvn:MCode:=.r [.m 21 3,.m 2 21] [2] .ret
def Z2g:MFun:=⟨1,22,[.tmp 2],.r [.bx 1 0,.o 2 (.mov (.c (.t .nil)))] [1] (.r [.o 6 (.bslice 3 1 0 [.z] []),.m 3 6] [1,3] (.r [.ln 7 2 1,.cl 8 81 [7],.m 4 8] [1,3,4] (.seq (.r [.mk' 5 1] [1,3,4,5] (.block 0 (.loop [1,3,4,5] Zvm))) Zvn)))⟩
noncomputable def Zpq (a:Zc):Rs:=C 197 [.agg (a.c.map .t)] []
noncomputable def Zjq (q:Zc) (out:List Int) (full:Int) (m:Int):Rs:=EvL C [.blk 0,.seq Zvn,.fin 0 [.tmp 2]] [1,3,4,5] Zvm ⟨[(1,.ptr 0 0),(3,.own 1),(4,I full),(5,I m)],[[]],[.box (q.c.map .t),.arr 3 1 true (out.map ic)]⟩
def Z2h:MCode:=.reg [.m 16 6,.bk 17 .add 16 1,.m 6 17] [1,2,5,6]
def Zvo:MCode:=.we [.m 13 6,.m 14 1,.b 15 .lss 13 14] [1,2,5,6,15] 15 0 (.seq (.block 1 (.r [.m 18 6,.m 19 1,.b 20 .and 18 19,.m 21 6,.b 22 .eql 20 21,.m 23 22,.g 24 23 (.ln 2 2),.g 25 23 (.mov (.s 6)),.g 26 23 (.cl 226 [24,25]),.o 27 (.pick (.s 23) (.s 26) (.q false)),.m 28 27,.g 29 28 (.ln 2 2),.g 30 28 (.mov (.s 1)),.g 31 28 (.mov (.s 6)),.g 32 28 (.b .sub 30 31),.g 33 28 (.cl 226 [29,32]),.o 34 (.pick (.s 28) (.s 33) (.q false))] [1,2,5,6,34] (.cond (.s 34) (.reg [.m 35 5,.m 36 6,.o 37 (.bslice 3 1 1 [.z] [(0,.s 36)]),.o 38 (.append 3 1 8 true (.s 35) (.s 37)),.m 5 38] [1,2,5,6]) .skip))) Z2h)
def Zvp:MCode:=.r [.m 39 5,.m 4 39] [4] .ret
def Z2i:MFun:=⟨2,40,[.tmp 4],.r [.bx 2 0,.o 4 (.mov (.c (.t .nil)))] [1,2] (.r [.o 7 (.bslice 3 1 0 [.z] []),.m 5 7] [1,2,5] (.wc [.ln 8 2 2,.m 9 1,.cl 10 109 [8,9],.o 11 (.un .not (.s 10))] [1,2,5,11] 11 (.r [.m 12 5,.m 4 12] [4] .ret) (.seq (.r [.mk' 6 1] [1,2,5,6] (.block 0 (.loop [1,2,5,6] Zvo))) Zvp)))⟩
noncomputable def Zpr (a:Zc) (a1:Int):Rs:=C 198 [.agg (a.c.map .t),I a1] []
noncomputable def Ze4 (q:Zc) (out:List Int) (mask:Int) (m:Int):Rs:=EvL C [.blk 0,.seq Zvp,.fin 0 [.tmp 4]] [1,2,5,6] Zvo ⟨[(1,I mask),(2,.ptr 0 0),(5,.own 1),(6,I m)],[[]],[.box (q.c.map .t),.arr 3 1 true (out.map ic)]⟩
def Z2j:MCode:=.reg [.m 22 10,.bk 23 .add 22 1,.m 10 23] [7,8,9,10]
def Zvq:MCode:=.we [.m 18 10,.m 19 8,.ll 20 19,.b 21 .lss 18 20] [7,8,9,10,21] 21 0 (.seq (.block 1 (.r [.m 24 9,.m 25 8,.m 26 10,.ia 27 1 25 26,.l 28 27,.cl 29 148 [24,28]] [7,8,9,10,29] (.cond (.s 29) (.reg [.m 30 7,.m 31 8,.m 32 10,.ia 33 1 31 32,.l 34 33,.o 35 (.bslice 3 1 1 [.z] [(0,.s 34)]),.o 36 (.append 3 1 8 true (.s 30) (.s 35)),.m 7 36] [7,8,9,10]) .skip))) Z2j)
def Zvr:MCode:=.r [.m 37 7,.m 6 37] [6] .ret
def Z2k:MFun:=⟨3,38,[.tmp 6],.r [.bx 3 0,.o 6 (.mov (.c (.t .nil)))] [1,2,3] (.r [.o 11 (.bslice 3 1 0 [.z] []),.m 7 11] [1,2,3,7] (.r [.ln 12 2 3,.m 13 1,.cl 14 276 [12,13],.m 8 14] [2,3,7,8] (.r [.ln 15 2 3,.m 16 2,.cl 17 276 [15,16],.m 9 17] [7,8,9] (.seq (.r [.mk' 10 0] [7,8,9,10] (.block 0 (.loop [7,8,9,10] Zvq))) Zvr))))⟩
noncomputable def Zjr (a:Zc) (a1:Int) (a2:Int):Rs:=C 199 [.agg (a.c.map .t),I a1,I a2] []
noncomputable def Zjs (out:List Int) (x:List Int) (y:List Int) (i:Int):Rs:=EvL C [.blk 0,.seq Zvr,.fin 0 [.tmp 6]] [7,8,9,10] Zvq ⟨[(7,.own 0),(8,.own 1),(9,.own 2),(10,I i)],[[]],[.arr 3 1 true (out.map ic),.arr 3 1 true (x.map ic),.arr 3 1 true (y.map ic)]⟩
def Zps:MCode:=.we [.m 28 7,.fa 29 1 6,.l 30 29,.ll 31 30,.b 32 .lss 28 31] [1,3,4,5,6,7,32] 32 2 (.seq (.block 3 (.drw [.fa 35 2 6,.l 36 35,.ln 37 2 1,.fa 38 1 6,.l 39 38,.m 40 7,.ia 41 1 39 40,.l 42 41,.m 43 4,.m 44 5,.ia 45 1 43 44,.l 46 45,.fa 47 1 6,.l 48 47,.m 49 7,.ia 50 1 48 49,.l 51 50,.b 52 .sub 46 51,.cl 53 199 [37,42,52],.o 54 (.bslice 30 1 1 [.lst 1 []] [(0,.s 53)]),.o 55 (.append 30 1 24 true (.s 36) (.s 54)),.fa 56 2 6,.st 1 56 55] [[],[0],[],[],[3],[],[4,5],[6],[],[],[8,9],[10],[],[12],[],[13,14],[15],[11,16],[2,7,17],[18],[1,19,18],[0,1,2,3,4,5,6,7,8,9,10,11,12,13,14,15,16,17,18,19,20],[21,20,20,0,1,2,3,4,5,6,7,8,9,10,11,12,13,14,15,16,17,18,19,20]] [1,3,4,5,6,7])) (.reg [.m 33 7,.bk 34 .add 33 1,.m 7 34] [1,3,4,5,6,7]))
def Zpt:MCode:=.reg [.m 57 3,.ln 58 3 6,.o 59 (.bslice 257 3 1 [.z,.lst 1 [],.lst 1 []] [(0,.s 58)]),.o 60 (.append 257 3 56 true (.s 57) (.s 59)),.m 3 60] [1,3,4,5]
def Zpu:MCode:=.reg [.m 15 5,.bk 16 .add 15 1,.m 5 16] [1,3,4,5]
def Zme:MCode:=.we [.m 11 5,.m 12 4,.ll 13 12,.b 14 .lss 11 13] [1,3,4,5,14] 14 0 (.seq (.block 1 (.seq (.drw [.m 17 4,.m 18 5,.ia 19 1 17 18,.l 20 19,.ln 21 2 1,.m 22 4,.m 23 5,.ia 24 1 22 23,.l 25 24,.cl 26 198 [21,25],.o 27 (.build [.t .z,.t .nil,.t .nil] [(0,1,.s 20),(1,1,.s 26)]),.o 6 (.alloc [.t .z,.t .nil,.t .nil]),.st 3 6 27] [[],[],[0,1],[2],[],[],[],[5,6],[7],[4,8],[3,9],[],[11,10,9,0,1,2,3,4,5,6,7,8,9,10,11]] [1,3,4,5,6]) (.seq (.r [.mk' 7 0] [1,3,4,5,6,7] (.block 2 (.loop [1,3,4,5,6,7] Zps))) Zpt))) Zpu)
def Zmf:MCode:=.r [.m 61 3,.m 2 61] [2] .ret
def Z2l:MFun:=⟨1,62,[.tmp 2],.r [.bx 1 0,.o 2 (.mov (.c (.t .nil)))] [1] (.r [.o 8 (.bslice 257 3 0 [.z,.lst 1 [],.lst 1 []] []),.m 3 8] [1,3] (.r [.ln 9 2 1,.cl 10 197 [9],.m 4 10] [1,3,4] (.seq (.r [.mk' 5 0] [1,3,4,5] (.block 0 (.loop [1,3,4,5] Zme))) Zmf)))⟩
noncomputable def Zmg (a:Zc):Rs:=C 80 [.agg (a.c.map .t)] []
noncomputable def Zf0 (q:Zc) (out:List Zx) (masks:List Int) (i:Int):Rs:=EvL C [.blk 0,.seq Zmf,.fin 0 [.tmp 2]] [1,3,4,5] Zme ⟨[(1,.ptr 0 0),(3,.own 1),(4,.own 2),(5,I i)],[[]],[.box (q.c.map .t),.arr 257 3 true (out.map Zx.c),.arr 3 1 true (masks.map ic)]⟩
noncomputable def Zpv (q:Zc) (out:List Zx) (masks:List Int) (mask:Int) (x:List Int) (i:Int) (k:Int):Rs:=EvL C [.blk 2,.seq Zpt,.blk 1,.seq Zpu,.loop [1,3,4,5] Zme,.blk 0,.seq Zmf,.fin 0 [.tmp 2]] [1,3,4,5,6,7] Zps ⟨[(1,.ptr 0 0),(3,.own 1),(4,.own 2),(5,I i),(6,.ptr 3 0),(7,I k)],[[]],[.box (q.c.map .t),.arr 257 3 true (out.map Zx.c),.arr 3 1 true (masks.map ic),.box [I mask,.own 4,.t .nil],.arr 3 1 true (x.map ic)]⟩
noncomputable def Zmh (q:Zc) (out:List Zx) (masks:List Int) (mask:Int) (x:List Int) (x1:List (List Int)) (i:Int) (k:Int):Rs:=EvL C [.blk 2,.seq Zpt,.blk 1,.seq Zpu,.loop [1,3,4,5] Zme,.blk 0,.seq Zmf,.fin 0 [.tmp 2]] [1,3,4,5,6,7] Zps ⟨[(1,.ptr 0 0),(3,.own 1),(4,.own 2),(5,I i),(6,.ptr 3 0),(7,I k)],[[]],[.box (q.c.map .t),.arr 257 3 true (out.map Zx.c),.arr 3 1 true (masks.map ic),.box [I mask,.own 4,.own 5],.arr 3 1 true (x.map ic),.arr 30 1 true (x1.map isc)]⟩
def Z2m:MCode:=.reg [.m 12 4,.bk 13 .add 12 1,.m 4 13] [0,3,4]
def Zvs:MCode:=.we [.m 6 4,.bk 7 .lss 6 4,.m 8 7,.g 9 8 (.mov (.s 0)),.g 10 8 (.call 122 [.s 9,.c (.t .z),.c (.t (.int .i64 15))]),.o 11 (.pick (.s 8) (.s 10) (.q false))] [0,3,4,11] 11 0 (.seq (.block 1 (.r [.m 14 0,.m 15 4,.b 16 .shr 14 15,.bk 17 .and 16 1,.bk 18 .eql 17 1] [0,3,4,18] (.cond (.s 18) (.reg [.m 19 3,.m 20 4,.o 21 (.bslice 3 1 1 [.z] [(0,.s 20)]),.o 22 (.append 3 1 8 true (.s 19) (.s 21)),.m 3 22] [0,3,4]) .skip))) Z2m)
def Zvt:MCode:=.r [.m 23 3,.m 2 23] [2] .ret
def Z2n:MFun:=⟨1,24,[.tmp 2],.r [.o 2 (.mov (.c (.t .nil)))] [0] (.r [.o 5 (.bslice 3 1 0 [.z] []),.m 3 5] [0,3] (.seq (.r [.mk' 4 0] [0,3,4] (.block 0 (.loop [0,3,4] Zvs))) Zvt))⟩
noncomputable def Zmi (a:Int):Rs:=C 204 [I a] []
noncomputable def Zjt (out:List Int) (mask:Int) (i:Int):Rs:=EvL C [.blk 0,.seq Zvt,.fin 0 [.tmp 2]] [0,3,4] Zvs ⟨[(0,I mask),(3,.own 0),(4,I i)],[[]],[.arr 3 1 true (out.map ic)]⟩
def Z2o:MFun:=⟨1,7,[.cell 2 (some 1)],.r [.o 2 (.alloc [.t .nil])] [0,2] (.r [.m 3 0,.o 4 (.build [.t .z,.t .z,.t .z] [(0,1,.c (.t (.int .i64 1))),(1,1,.s 3)]),.o 5 (.bslice 194 3 1 [.z,.z,.z] [(0,.s 4)]),.o 6 (.build [.t .nil] [(0,1,.s 5)]),.st 1 2 6] [2] .ret)⟩
noncomputable def Zmj (a:Int):Rs:=C 205 [I a] []
def Z2p:MCode:=.reg [.m 11 6,.bk 12 .add 11 1,.m 6 12] [0,1,5,6]
def Zvu:MCode:=.we [.m 7 6,.m 8 0,.ll 9 8,.b 10 .lss 7 9] [0,1,5,6,10] 10 0 (.seq (.block 1 (.seq (.drw [.m 13 0,.m 14 6,.ia 15 4 13 14,.fa 16 0 15,.l 17 16,.m 18 1,.b 19 .eql 17 18,.m 20 19,.g 21 20 (.mov (.s 5)),.g 22 20 (.bk .lss 21 0),.g 23 20 (.mov (.s 22)),.h 24 23 (.mov (.s 0)),.h 25 23 (.mov (.s 6)),.h 26 23 (.ia 4 24 25),.h 27 23 (.fa 2 26),.h 28 23 (.l 27),.h 29 23 (.mov (.s 0)),.h 30 23 (.mov (.s 5)),.h 31 23 (.ia 4 29 30),.h 32 23 (.fa 2 31),.h 33 23 (.l 32),.h 34 23 (.b .lss 28 33),.g 35 20 (.pick (.s 23) (.q true) (.s 34)),.o 36 (.pick (.s 20) (.s 35) (.q false))] [[],[],[0,1],[2],[3],[],[4,5],[6],[7],[8,7],[9,7,7],[10],[10],[11,12,10],[13,10],[14,10],[10],[10],[16,17,10],[18,10],[19,10],[15,20,10],[10,21,7],[7,22]] [0,1,5,6,36]) (.cond (.s 36) (.reg [.m 37 6,.m 5 37] [0,1,5,6]) .skip))) Z2p)
def Zvv:MCode:=.r [.m 38 5,.m 4 38] [4] .ret
def Z2q:MFun:=⟨2,39,[.tmp 4],.r [.mk' 4 0] [0,1] (.r [.mk' 5 (-1)] [0,1,5] (.seq (.r [.mk' 6 0] [0,1,5,6] (.block 0 (.loop [0,1,5,6] Zvu))) Zvv))⟩
noncomputable def Zf1 (a:List Za) (a1:Int):Rs:=C 203 [L 4 (a.map Za.c),I a1] []
noncomputable def Zf2 (l:List Za) (mask:Int) (best:Int) (i:Int):Rs:=EvL C [.blk 0,.seq Zvv,.fin 0 [.tmp 4]] [0,1,5,6] Zvu ⟨[(0,L 4 (l.map Za.c)),(1,I mask),(5,I best),(6,I i)],[[]],[]⟩
def Z2r:MFun:=⟨4,30,[.cell 8 (some 1)],.r [.bx 4 0,.bx 5 1,.o 8 (.alloc [.t .nil])] [2,3,4,5,8] (.r [.o 10 (.bslice 194 3 0 [.z,.z,.z] []),.fa 11 0 4,.l 12 11,.o 13 (.append 194 3 24 false (.s 10) (.s 12)),.o 14 (.build [.t .nil] [(0,1,.s 13)]),.o 9 (.alloc [.t .nil]),.st 1 9 14] [2,3,5,8,9] (.r [.fa 15 0 9,.l 16 15,.fa 17 0 5,.l 18 17,.o 19 (.append 194 3 24 false (.s 16) (.s 18)),.fa 20 0 9,.st 1 20 19] [2,3,8,9] (.r [.fa 21 0 9,.l 22 21,.m 23 2,.m 24 3,.o 25 (.build [.t .z,.t .z,.t .z] [(0,1,.s 23),(2,1,.s 24)]),.o 26 (.bslice 194 3 1 [.z,.z,.z] [(0,.s 25)]),.o 27 (.append 194 3 24 true (.s 22) (.s 26)),.fa 28 0 9,.st 1 28 27] [8,9] (.r [.ln 29 1 9,.st 1 8 29] [8] .ret))))⟩
noncomputable def Zc6 (a:Plan) (a1:Plan) (a2:Int) (a3:Int):Rs:=C 362 [.agg (a.c.map .t),.agg (a1.c.map .t),I a2,I a3] []
def Zvw:MFun:=⟨8,81,[],.r [.bx 8 0,.bx 11 3,.bx 12 4] [1,2,5,6,7,8,11,12] (.seq (.drw [.fa 17 2 11,.l 18 17,.fa 19 2 12,.l 20 19,.b 21 .add 18 20,.ln 22 30 8,.m 23 5,.cl 24 164 [22,23],.m 25 1,.fa 26 0 11,.l 27 26,.ia 28 1 25 27,.l 29 28,.m 30 1,.fa 31 0 12,.l 32 31,.ia 33 1 30 32,.l 34 33,.m 35 1,.fa 36 0 11,.l 37 36,.fa 38 0 12,.l 39 38,.b 40 .or 37 39,.ia 41 1 35 40,.l 42 41,.cl 43 163 [24,29,34,42],.b 44 .add 21 43,.m 16 44] [[],[0],[],[2],[1,3],[],[],[5,6],[],[],[9],[8,10],[11],[],[],[14],[13,15],[16],[],[],[19],[],[21],[20,22],[18,23],[24],[7,12,17,25,7],[4,26],[27,26,0,1,2,3,4,5,6,7,8,9,10,11,12,13,14,15,16,17,18,19,20,21,22,23,24,25,26,27]] [2,5,6,7,11,12,16]) (.r [.m 45 2,.m 46 7,.bk 47 .add 46 1,.ia 48 4 45 47,.fa 49 0 48,.l 50 49,.bk 51 .eql 50 0,.m 52 51,.h 53 52 (.mov (.s 16)),.h 54 52 (.mov (.s 2)),.h 55 52 (.mov (.s 7)),.h 56 52 (.bk .add 55 1),.h 57 52 (.ia 4 54 56),.h 58 52 (.fa 2 57),.h 59 52 (.l 58),.h 60 52 (.b .lss 53 59),.o 61 (.pick (.s 52) (.q true) (.s 60))] [2,5,6,7,11,12,16,61] (.cond (.s 61) (.drw [.m 62 2,.m 63 7,.bk 64 .add 63 1,.fa 65 0 11,.l 66 65,.fa 67 0 12,.l 68 67,.b 69 .or 66 68,.m 70 7,.m 71 16,.fa 72 3 11,.ln 73 1 72,.fa 74 3 12,.ln 75 1 74,.m 76 5,.m 77 6,.cl 78 362 [73,75,76,77],.o 79 (.build [.t .z,.t .z,.t .z,.t .nil] [(0,1,.s 69),(1,1,.s 70),(2,1,.s 71),(3,1,.s 78)]),.ia 80 4 62 64,.st 4 80 79] [[],[],[1],[],[3],[],[5],[4,6],[],[],[],[10],[],[12],[],[],[11,13,14,15],[7,8,9,16],[0,2,0,1,2,3,4,5,6,7,8,9,10,11,12,13,14,15,16,17],[18,17,16,0,1,2,3,4,5,6,7,8,9,10,11,12,13,14,15,16,17]] []) .skip)))⟩
noncomputable def Zho (x:List Int) (x1:List Za) (a:Zd) (a1:Za) (a2:Za) (a3:Int) (a4:Int) (a5:Int):Rs:=C 291 [.agg (a.c.map .t),.own 0,.own 1,.agg (a1.c.map .t),.agg (a2.c.map .t),I a3,I a4,I a5] [.arr 3 1 true (x.map ic),.arr 145 4 true (x1.map Za.c)]
def Zvx:MCode:=.we [.m 8 7,.m 9 0,.ll 10 9,.b 11 .lss 8 10] [0,1,2,7,11] 11 0 (.seq (.block 1 (.r [.m 14 0,.m 15 7,.ia 16 4 14 15,.fa 17 0 16,.l 18 17,.m 19 1,.b 20 .eql 18 19,.m 21 20,.g 22 21 (.mov (.s 0)),.g 23 21 (.mov (.s 7)),.g 24 21 (.ia 4 22 23),.g 25 21 (.fa 1 24),.g 26 21 (.l 25),.g 27 21 (.mov (.s 2)),.g 28 21 (.b .eql 26 27),.o 29 (.pick (.s 21) (.s 28) (.q false))] [0,1,2,7,29] (.cond (.s 29) (.r [.m 30 7,.m 6 30] [6] .ret) .skip))) (.reg [.m 12 7,.bk 13 .add 12 1,.m 7 13] [0,1,2,7]))
def Zvy:MCode:=.r [.mk' 6 (-1)] [6] .ret
def Z2s:MFun:=⟨3,31,[.tmp 6],.r [.mk' 6 0] [0,1,2] (.seq (.r [.mk' 7 0] [0,1,2,7] (.block 0 (.loop [0,1,2,7] Zvx))) Zvy)⟩
noncomputable def Zju (a:List Za) (a1:Int) (a2:Int):Rs:=C 292 [L 4 (a.map Za.c),I a1,I a2] []
noncomputable def Zjv (l:List Za) (mask:Int) (order:Int) (i:Int):Rs:=EvL C [.blk 0,.seq Zvy,.fin 0 [.tmp 6]] [0,1,2,7] Zvx ⟨[(0,L 4 (l.map Za.c)),(1,I mask),(2,I order),(7,I i)],[[]],[]⟩
def Z2t:MFun:=⟨2,19,[.cell 4 (some 1)],.r [.bx 2 0,.o 4 (.alloc [.t .nil])] [1,2,4] (.r [.o 6 (.bslice 194 3 0 [.z,.z,.z] []),.fa 7 0 2,.l 8 7,.o 9 (.append 194 3 24 false (.s 6) (.s 8)),.o 10 (.build [.t .nil] [(0,1,.s 9)]),.o 5 (.alloc [.t .nil]),.st 1 5 10] [1,4,5] (.r [.fa 11 0 5,.l 12 11,.m 13 1,.o 14 (.build [.t .z,.t .z,.t .z] [(0,1,.c (.t (.int .i64 2))),(2,1,.s 13)]),.o 15 (.bslice 194 3 1 [.z,.z,.z] [(0,.s 14)]),.o 16 (.append 194 3 24 true (.s 12) (.s 15)),.fa 17 0 5,.st 1 17 16] [4,5] (.r [.ln 18 1 5,.st 1 4 18] [4] .ret)))⟩
noncomputable def Zjw (a:Plan) (a1:Int):Rs:=C 363 [.agg (a.c.map .t),I a1] []
noncomputable def Zmk (x:List Int) (x1:List Za) (x2:List Zb) (a:Zd) (a1:Za) (Mask:Int) (Order:Int) (Cost:Int) (a2:Int) (a3:Int) (a4:Int):Rs:=C 291 [.agg (a.c.map .t),.own 0,.own 1,.agg (a1.c.map .t),.agg [I Mask,I Order,I Cost,.own 2],I a2,I a3,I a4] [.arr 3 1 true (x.map ic),.arr 145 4 true (x1.map Za.c),.arr 194 3 true (x2.map Zb.c)]
noncomputable def Zml (x:List Int) (x1:List Za) (x2:List Zb) (a:Zd) (Mask:Int) (Order:Int) (Cost:Int) (a1:Za) (a2:Int) (a3:Int) (a4:Int):Rs:=C 291 [.agg (a.c.map .t),.own 0,.own 1,.agg [I Mask,I Order,I Cost,.own 2],.agg (a1.c.map .t),I a2,I a3,I a4] [.arr 3 1 true (x.map ic),.arr 145 4 true (x1.map Za.c),.arr 194 3 true (x2.map Zb.c)]
noncomputable def Zmm (x:List Int) (x1:List Za) (x2:List Zb) (x3:List Zb) (a:Zd) (Mask:Int) (Order:Int) (Cost:Int) (Mask1:Int) (Order1:Int) (Cost1:Int) (a1:Int) (a2:Int) (a3:Int):Rs:=C 291 [.agg (a.c.map .t),.own 0,.own 1,.agg [I Mask,I Order,I Cost,.own 2],.agg [I Mask1,I Order1,I Cost1,.own 3],I a1,I a2,I a3] [.arr 3 1 true (x.map ic),.arr 145 4 true (x1.map Za.c),.arr 194 3 true (x2.map Zb.c),.arr 194 3 true (x3.map Zb.c)]
def Z2u:MFun:=⟨5,61,[.cell 10 (some 4)],.r [.bx 5 0,.o 10 (.alloc [.t .z,.t .z,.t .z,.t .nil])] [1,2,3,4,5,10] (.r [.m 14 2,.m 15 2,.m 16 3,.cl 17 203 [15,16],.ia 18 4 14 17,.ln 19 4 18,.o 11 (.alloc [.t .z,.t .z,.t .z,.t .nil]),.st 4 11 19] [1,2,3,4,5,10,11] (.seq (.drw [.fa 20 2 11,.l 21 20,.fa 22 6 5,.ln 23 6 22,.m 24 1,.m 25 3,.ia 26 1 24 25,.l 27 26,.m 28 1,.m 29 3,.ia 30 1 28 29,.l 31 30,.o 32 (.call 163 [.s 23,.s 27,.c (.t .z),.s 31]),.b 33 .add 21 32,.m 12 33] [[],[0],[],[2],[],[],[4,5],[6],[],[],[8,9],[10],[3,7,11],[1,12],[13,12,0,1,2,3,4,5,6,7,8,9,10,11,12,13]] [2,3,4,10,11,12]) (.r [.m 34 2,.m 35 3,.m 36 4,.cl 37 292 [34,35,36],.m 13 37] [2,3,4,10,11,12,13] (.wc [.m 38 13,.bk 39 .geq 38 0,.m 40 39,.g 41 40 (.mov (.s 2)),.g 42 40 (.mov (.s 13)),.g 43 40 (.ia 4 41 42),.g 44 40 (.fa 2 43),.g 45 40 (.l 44),.g 46 40 (.mov (.s 12)),.g 47 40 (.b .leq 45 46),.o 48 (.pick (.s 40) (.s 47) (.q false))] [2,3,4,10,11,12,13,48] 48 (.r [.m 49 2,.m 50 13,.ia 51 4 49 50,.ln 52 4 51,.st 4 10 52] [10] .ret) (.r [.m 53 3,.m 54 4,.m 55 12,.fa 56 3 11,.ln 57 1 56,.m 58 4,.cl 59 363 [57,58],.o 60 (.build [.t .z,.t .z,.t .z,.t .nil] [(0,1,.s 53),(1,1,.s 54),(2,1,.s 55),(3,1,.s 59)]),.st 4 10 60] [10] .ret)))))⟩
noncomputable def Zeh (x:List Int) (fr:Bool) (x1:List Za) (a:Zd) (a1:Int) (a2:Int):Rs:=C 293 [.agg (a.c.map .t),.own 0,.own 1,I a1,I a2] [.arr 3 1 true (x.map ic),.arr 145 4 fr (x1.map Za.c)]
def Z2v:MCode:=.reg [.m 58 15,.bk 59 .add 58 1,.m 15 59] [1,2,4,7,9,10,11,12,14,15]
def Zvz:MCode:=.we [.m 56 15,.bk 57 .lss 56 4] [1,2,4,7,9,10,11,12,14,15,57] 57 2 (.seq (.block 3 (.r [.m 60 2,.m 61 11,.m 62 15,.cl 63 292 [60,61,62],.m 16 63] [1,2,4,7,9,10,11,12,14,15,16] (.r [.m 64 16,.bk 65 .geq 64 0] [1,2,4,7,9,10,11,12,14,15,16,65] (.cond (.s 65) (.drw [.ln 66 30 4,.m 67 1,.m 68 9,.m 69 2,.m 70 16,.ia 71 4 69 70,.ln 72 4 71,.ln 73 4 14,.m 74 15,.o 75 (.icall 291 [.s 66,.s 67,.s 68,.s 72,.s 73,.c (.t (.int .i64 5)),.c (.t .z),.s 74])] [[],[],[],[],[],[3,4],[5],[],[],[0,1,2,6,7,8]] [1,2,4,7,9,10,11,12,14,15]) .skip)))) Z2v)
def Zv0:MCode:=.we [.m 76 17,.fa 77 2 7,.l 78 77,.m 79 10,.ia 80 1 78 79,.l 81 80,.ll 82 81,.b 83 .lss 76 82] [1,2,4,7,9,10,11,12,17,83] 83 4 (.seq (.block 5 (.r [.fa 86 2 7,.l 87 86,.m 88 10,.ia 89 1 87 88,.l 90 89,.m 91 17,.ia 92 1 90 91,.l 93 92,.m 18 93] [1,2,4,7,9,10,11,12,17,18] (.drw [.ln 94 30 4,.m 95 1,.m 96 9,.ln 97 30 4,.m 98 1,.m 99 2,.m 100 11,.m 101 18,.o 102 (.pcall 293 [.s 97,.s 98,.s 99,.s 100,.s 101]),.ln 103 30 4,.m 104 1,.m 105 2,.m 106 12,.m 107 18,.o 108 (.pcall 293 [.s 103,.s 104,.s 105,.s 106,.s 107]),.m 109 18,.m 110 18,.o 111 (.icall 291 [.s 94,.s 95,.s 96,.s 102,.s 108,.c (.t (.int .i64 4)),.s 109,.s 110])] [[],[],[],[],[],[],[],[],[3,4,5,6,7],[],[],[],[],[],[9,10,11,12,13,8],[],[],[0,1,2,8,14,15,16,14]] [1,2,4,7,9,10,11,12,17]))) (.reg [.m 84 17,.bk 85 .add 84 1,.m 17 85] [1,2,4,7,9,10,11,12,17]))
def Zv1:MCode:=.r [.mk' 17 0] [1,2,4,7,9,10,11,12,17] (.block 4 (.loop [1,2,4,7,9,10,11,12,17] Zv0))
def Zpw:MCode:=.reg [.m 27 10,.bk 28 .add 27 1,.m 10 28] [1,2,4,7,9,10]
def Zmn:MCode:=.we [.m 22 10,.fa 23 1 7,.l 24 23,.ll 25 24,.b 26 .lss 22 25] [1,2,4,7,9,10,26] 26 0 (.seq (.block 1 (.r [.fa 29 1 7,.l 30 29,.m 31 10,.ia 32 1 30 31,.l 33 32,.m 11 33] [1,2,4,7,9,10,11] (.r [.fa 34 0 7,.l 35 34,.m 36 11,.b 37 .sub 35 36,.m 12 37] [1,2,4,7,9,10,11,12] (.r [.m 38 2,.m 39 2,.m 40 11,.cl 41 203 [39,40],.ia 42 4 38 41,.ln 43 4 42,.o 13 (.alloc [.t .z,.t .z,.t .z,.t .nil]),.st 4 13 43] [1,2,4,7,9,10,11,12,13] (.r [.m 44 2,.m 45 2,.m 46 12,.cl 47 203 [45,46],.ia 48 4 44 47,.ln 49 4 48,.o 14 (.alloc [.t .z,.t .z,.t .z,.t .nil]),.st 4 14 49] [1,2,4,7,9,10,11,12,13,14] (.r [.ln 50 30 4,.m 51 1,.m 52 9,.ln 53 4 13,.ln 54 4 14,.o 55 (.icall 291 [.s 50,.s 51,.s 52,.s 53,.s 54,.c (.t (.int .i64 3)),.c (.t .z),.c (.t (.int .i64 (-1)))])] [1,2,4,7,9,10,11,12,14] (.seq (.r [.mk' 15 (-1)] [1,2,4,7,9,10,11,12,14,15] (.block 2 (.loop [1,2,4,7,9,10,11,12,14,15] Zvz))) Zv1))))))) Zpw)
def Z2w:MCode:=.reg [.m 115 20,.bk 116 .add 115 1,.m 20 116] [9,19,20]
def Zv2:MCode:=.we [.m 113 20,.bk 114 .leq 113 4] [9,19,20,114] 114 6 (.seq (.block 7 (.r [.m 117 9,.m 118 20,.ia 119 4 117 118,.fa 120 0 119,.l 121 120,.bk 122 .gtr 121 0] [9,19,20,122] (.cond (.s 122) (.reg [.m 123 19,.m 124 9,.m 125 20,.ia 126 4 124 125,.ln 127 4 126,.o 128 (.bslice 145 4 1 [.z,.z,.z,.lst 3 []] [(0,.s 127)]),.o 129 (.append 145 4 48 true (.s 123) (.s 128)),.m 19 129] [9,19,20]) .skip))) Z2w)
def Zv3:MCode:=.r [.m 130 19,.m 8 130] [8] .ret
def Zmo:MCode:=.r [.o 112 (.bslice 145 4 0 [.z,.z,.z,.lst 3 []] []),.m 19 112] [9,19] (.seq (.r [.mk' 20 0] [9,19,20] (.block 6 (.loop [9,19,20] Zv2))) Zv3)
def Z2x:MFun:=⟨4,131,[.tmp 8],.r [.bx 4 0,.bx 7 3,.o 8 (.mov (.c (.t .nil)))] [1,2,4,7] (.r [.o 21 (.mkslice 145 4 48 [.z,.z,.z,.lst 3 []] (.k 5) (.k 5)),.m 9 21] [1,2,4,7,9] (.seq (.r [.mk' 10 0] [1,2,4,7,9,10] (.block 0 (.loop [1,2,4,7,9,10] Zmn))) Zmo))⟩
noncomputable def Zpx (x:List Int) (fr:Bool) (x1:List Za) (a:Zd) (a1:Zx):Rs:=C 206 [.agg (a.c.map .t),.own 0,.own 1,.agg (a1.c.map .t)] [.arr 3 1 true (x.map ic),.arr 145 4 fr (x1.map Za.c)]
noncomputable def Zjx (sizes:List Int) (fr:Bool) (l:List Za) (m:Zd) (x:Zx) (mine:List Za) (k:Int):Rs:=EvL C [.blk 0,.seq Zmo,.fin 2 [.tmp 8]] [1,2,4,7,9,10] Zmn ⟨[(1,.own 0),(2,.own 1),(4,.ptr 2 0),(7,.ptr 3 0),(9,.own 4),(10,I k)],[[(0,.own 0),(1,.own 1)]],[.arr 3 1 true (sizes.map ic),.arr 145 4 fr (l.map Za.c),.box (m.c.map .t),.box (x.c.map .t),.arr 145 4 true (mine.map Za.c)]⟩
noncomputable def Zjy (sizes:List Int) (fr:Bool) (l:List Za) (m:Zd) (x:Zx) (mine:List Za) (b:Za) (k:Int) (left:Int) (right:Int) (o:Int):Rs:=EvL C [.blk 2,.seq Zv1,.blk 1,.seq Zpw,.loop [1,2,4,7,9,10] Zmn,.blk 0,.seq Zmo,.fin 2 [.tmp 8]] [1,2,4,7,9,10,11,12,14,15] Zvz ⟨[(1,.own 0),(2,.own 1),(4,.ptr 2 0),(7,.ptr 3 0),(9,.own 4),(10,I k),(11,I left),(12,I right),(14,.ptr 5 0),(15,I o)],[[(0,.own 0),(1,.own 1)]],[.arr 3 1 true (sizes.map ic),.arr 145 4 fr (l.map Za.c),.box (m.c.map .t),.box (x.c.map .t),.arr 145 4 true (mine.map Za.c),.box (b.c.map .t)]⟩
noncomputable def Zhp (mine:List Za) (fr:Bool) (out:List Za) (x:List Int) (fr1:Bool) (x1:List Za) (o:Int):Rs:=EvL C [.blk 6,.seq Zv3,.fin 2 [.tmp 8]] [9,19,20] Zv2 ⟨[(9,.own 0),(19,.own 1),(20,I o)],[[(0,.own 2),(1,.own 3)]],[.arr 145 4 true (mine.map Za.c),.arr 145 4 fr (out.map Za.c),.arr 3 1 true (x.map ic),.arr 145 4 fr1 (x1.map Za.c)]⟩
noncomputable def Ze5 (sizes:List Int) (fr:Bool) (l:List Za) (m:Zd) (x:Zx) (mine:List Za) (k:Int) (left:Int) (right:Int) (e:Int):Rs:=EvL C [.blk 4,.blk 1,.seq Zpw,.loop [1,2,4,7,9,10] Zmn,.blk 0,.seq Zmo,.fin 2 [.tmp 8]] [1,2,4,7,9,10,11,12,17] Zv0 ⟨[(1,.own 0),(2,.own 1),(4,.ptr 2 0),(7,.ptr 3 0),(9,.own 4),(10,I k),(11,I left),(12,I right),(17,I e)],[[(0,.own 0),(1,.own 1)]],[.arr 3 1 true (sizes.map ic),.arr 145 4 fr (l.map Za.c),.box (m.c.map .t),.box (x.c.map .t),.arr 145 4 true (mine.map Za.c)]⟩
def Z2y:MCode:=.reg [.m 18 10,.bk 19 .add 18 1,.m 10 19] [2,3,4,5,9,10]
def Zv4:MCode:=.we [.m 14 10,.m 15 2,.ll 16 15,.b 17 .lss 14 16] [2,3,4,5,9,10,17] 17 0 (.seq (.block 1 (.r [.m 20 2,.m 21 10,.ia 22 3 20 21,.fa 23 0 22,.l 24 23,.m 11 24] [2,3,4,5,9,10,11] (.wc [.m 25 11,.m 26 11,.bk 27 .sub 26 1,.b 28 .and 25 27,.bk 29 .eql 28 0] [2,3,4,5,9,10,11,29] 29 (.r [.m 30 11,.cl 31 204 [30],.o 32 (.iaddr 1 (.s 31) (.k 0)),.l 33 32,.m 12 33] [2,3,4,5,9,10,11,12] (.seq (.drw [.m 34 9,.m 35 11,.fa 36 1 5,.l 37 36,.m 38 12,.ia 39 2 37 38,.fa 40 1 39,.l 41 40,.o 42 (.iaddr 1 (.s 41) (.k 0)),.l 43 42,.fa 44 0 4,.ln 45 6 44,.m 46 3,.m 47 11,.ia 48 1 46 47,.l 49 48,.m 50 3,.m 51 11,.ia 52 1 50 51,.l 53 52,.o 54 (.call 163 [.s 45,.s 49,.c (.t .z),.s 53]),.m 55 12,.cl 56 205 [55],.o 57 (.build [.t .z,.t .z,.t .z,.t .nil] [(0,1,.s 35),(1,1,.s 43),(2,1,.s 54),(3,1,.s 56)]),.o 58 (.bslice 145 4 1 [.z,.z,.z,.lst 3 []] [(0,.s 57)]),.o 59 (.append 145 4 48 true (.s 34) (.s 58)),.m 9 59] [[],[],[],[2],[],[3,4],[5],[6],[7],[8],[],[10],[],[],[12,13],[14],[],[],[16,17],[18],[11,15,19],[],[21,20],[1,9,20,22],[23],[0,24,22],[25,25,0,1,2,3,4,5,6,7,8,9,10,11,12,13,14,15,16,17,18,19,20,21,22,23,24,25]] [2,3,4,5,9,10]) (.exit 1))) (.drw [.m 60 9,.ln 61 30 4,.m 62 3,.m 63 9,.m 64 2,.m 65 10,.ia 66 3 64 65,.ln 67 3 66,.o 68 (.pcall 206 [.s 61,.s 62,.s 63,.s 67]),.o 69 (.append 145 4 48 false (.s 60) (.s 68)),.m 9 69] [[],[],[],[],[],[],[4,5],[6],[1,2,3,7],[0,8,8],[9,9,0,1,2,3,4,5,6,7,8,9]] [2,3,4,5,9,10])))) Z2y)
def Zv5:MCode:=.r [.m 70 9,.m 8 70] [8] .ret
def Z2z:MFun:=⟨4,71,[.tmp 8],.r [.bx 4 0,.bx 5 1,.o 8 (.mov (.c (.t .nil)))] [2,3,4,5] (.r [.o 13 (.bslice 145 4 0 [.z,.z,.z,.lst 3 []] []),.m 9 13] [2,3,4,5,9] (.seq (.r [.mk' 10 0] [2,3,4,5,9,10] (.block 0 (.loop [2,3,4,5,9,10] Zv4))) Zv5))⟩
noncomputable def Zpy (x:List Zx) (x1:List Int) (a:Zd) (a1:Zc):Rs:=C 86 [.agg (a.c.map .t),.agg (a1.c.map .t),.own 0,.own 1] [.arr 257 3 true (x.map Zx.c),.arr 3 1 true (x1.map ic)]
noncomputable def Zjz (shapes:List Zx) (sizes:List Int) (m:Zd) (q:Zc) (fr:Bool) (out:List Za) (i:Int):Rs:=EvL C [.blk 0,.seq Zv5,.fin 2 [.tmp 8]] [2,3,4,5,9,10] Zv4 ⟨[(2,.own 0),(3,.own 1),(4,.ptr 2 0),(5,.ptr 3 0),(9,.own 4),(10,I i)],[[(0,.own 0),(1,.own 1)]],[.arr 257 3 true (shapes.map Zx.c),.arr 3 1 true (sizes.map ic),.box (m.c.map .t),.box (q.c.map .t),.arr 145 4 fr (out.map Za.c)]⟩
def Z20:MFun:=⟨3,23,[.tmp 6],.r [.bx 3 0,.bx 4 1,.o 6 (.mov (.c (.t .nil)))] [2,3,4] (.wc [.ln 7 30 3,.cl 8 145 [7],.o 9 (.un .not (.s 8)),.m 10 9,.h 11 10 (.ln 2 4),.h 12 10 (.mov (.s 2)),.h 13 10 (.cl 371 [11,12]),.h 14 10 (.un .not (.s 13)),.o 15 (.pick (.s 10) (.q true) (.s 14))] [2,3,4,15] 15 (.r [.o 16 (.bslice 145 4 0 [.z,.z,.z,.lst 3 []] []),.m 6 16] [6] .ret) (.seq (.drw [.ln 17 30 3,.ln 18 2 4,.ln 19 2 4,.cl 20 80 [19],.m 21 2,.o 22 (.pcall 86 [.s 17,.s 18,.s 20,.s 21]),.m 6 22] [[],[],[],[2],[],[0,1,3,4,3],[5,5,0,1,2,3,4,5]] [6]) .ret))⟩
noncomputable def Zpz (x:List Int) (a:Zd) (a1:Zc):Rs:=C 305 [.agg (a.c.map .t),.agg (a1.c.map .t),.own 0] [.arr 3 1 true (x.map ic)]
def Z21:MFun:=⟨2,38,[.cell 4 (some 4),.tmp 5],.r [.o 4 (.alloc [.t .z,.t .z,.t .z,.t .nil]),.o 5 (.mov (.q false))] [0,1,4] (.r [.m 7 0,.m 8 1,.cl 9 203 [7,8],.m 6 9] [0,4,6] (.wc [.m 10 6,.bk 11 .lss 10 0] [0,4,6,11] 11 (.r [.o 12 (.build [.t .z,.t .z,.t .z,.t .nil] []),.st 4 4 12,.o 5 (.mov (.q false))] [4,5] .ret) (.seq (.drw [.m 13 0,.m 14 6,.ia 15 4 13 14,.fa 16 0 15,.l 17 16,.m 18 0,.m 19 6,.ia 20 4 18 19,.fa 21 1 20,.l 22 21,.m 23 0,.m 24 6,.ia 25 4 23 24,.fa 26 2 25,.l 27 26,.o 28 (.bslice 194 3 0 [.z,.z,.z] []),.m 29 0,.m 30 6,.ia 31 4 29 30,.fa 32 3 31,.fa 33 0 32,.l 34 33,.o 35 (.append 194 3 24 false (.s 28) (.s 34)),.o 36 (.build [.t .nil] [(0,1,.s 35)]),.o 37 (.build [.t .z,.t .z,.t .z,.t .nil] [(0,1,.s 17),(1,1,.s 22),(2,1,.s 27),(3,1,.s 36)]),.st 4 4 37,.o 5 (.mov (.q true))] [[],[],[0,1],[2],[3],[],[],[5,6],[7],[8],[],[],[10,11],[12],[13],[],[],[],[16,17],[18],[19],[20],[15,21],[22],[4,9,14,23],[24,22,0,1,2,3,4,5,6,7,8,9,10,11,12,13,14,15,16,17,18,19,20,21,22,23,24],[25,0,1,2,3,4,5,6,7,8,9,10,11,12,13,14,15,16,17,18,19,20,21,22,23,24,25]] [4,5]) .ret)))⟩
noncomputable def Zf3 (a:List Za) (a1:Int):Rs:=C 85 [L 4 (a.map Za.c),I a1] []
def Z22:MFun:=⟨3,22,[.cell 6 (some 4),.tmp 7],.r [.bx 3 0,.bx 4 1,.o 6 (.alloc [.t .z,.t .z,.t .z,.t .nil]),.o 7 (.mov (.q false))] [2,3,4,6] (.seq (.drw [.ln 11 30 3,.ln 12 2 4,.m 13 2,.o 14 (.icall 305 [.s 11,.s 12,.s 13]),.ln 15 2 4,.cl 16 81 [15],.cl 17 85 [14,16],.m 10 17,.o 18 (.ext (.s 10) 0),.o 19 (.ext (.s 10) 1),.o 8 (.alloc [.t .z,.t .z,.t .z,.t .nil]),.st 4 8 18,.m 9 19] [[],[],[],[0,1,2],[],[4,3],[3,5,5],[6],[7],[7],[],[10,8,6,0,1,2,3,4,5,6,7,8,10],[9,11,0,1,2,3,4,5,6,7,8,9,10,11]] [6,8,9]) (.r [.ln 20 4 8,.m 21 9,.st 4 6 20,.m 7 21] [6,7] .ret))⟩
noncomputable def Zmp (x:List Int) (a:Zd) (a1:Zc):Rs:=C 234 [.agg (a.c.map .t),.agg (a1.c.map .t),.own 0] [.arr 3 1 true (x.map ic)]
def Z23:MFun:=⟨3,20,[.cell 6 (some 1),.tmp 7],.r [.bx 3 0,.bx 4 1,.o 6 (.alloc [.t .nil]),.o 7 (.mov (.q false))] [2,3,4,6] (.r [.ln 11 30 3,.ln 12 2 4,.m 13 2,.cl 14 235 [11,12,13],.m 10 14,.o 15 (.ext (.s 10) 0),.o 16 (.ext (.s 10) 1),.o 8 (.alloc [.t .z,.t .z,.t .z,.t .nil]),.st 4 8 15,.m 9 16] [6,8,9] (.r [.fa 17 3 8,.ln 18 1 17,.m 19 9,.st 1 6 18,.m 7 19] [6,7] .ret))⟩
noncomputable def Zmq (a:Zd) (a1:Zc) (a2:List Int):Rs:=C 116 [.agg (a.c.map .t),.agg (a1.c.map .t),L 1 (a2.map ic)] []
noncomputable def Zv6 (a:Zd) (a1:Zc):Rs:=C 116 [.agg (a.c.map .t),.agg (a1.c.map .t),.t .nil] []
def Z24:MFun:=⟨3,23,[.cell 6 (some 1),.tmp 7],.r [.bx 3 0,.bx 4 1,.bx 5 2,.o 6 (.alloc [.t .nil]),.o 7 (.mov (.q false))] [3,4,5,6] (.wc [.ln 8 30 3,.ln 9 1 4,.ln 10 2 5,.cl 11 112 [8,9,10],.o 12 (.un .not (.s 11))] [3,4,5,6,12] 12 (.r [.o 13 (.build [.t .nil] []),.st 1 6 13,.o 7 (.mov (.q false))] [6,7] .ret) (.seq (.drw [.ln 14 30 3,.ln 15 2 5,.ln 16 1 4,.ln 17 2 5,.cl 18 113 [16,17],.cl 19 117 [18],.cl 20 116 [14,15,19],.o 21 (.ext (.s 20) 0),.o 22 (.ext (.s 20) 1),.st 1 6 21,.m 7 22] [[],[],[],[],[2,3],[4,4],[0,1,5,5],[6],[6],[7,6,0,1,2,3,4,5,6,7,8],[8,9,0,1,2,3,4,5,6,7,8,9]] [6,7]) .ret))⟩
noncomputable def Zp0 (a:Zd) (a1:Zi) (a2:Zc):Rs:=C 34 [.agg (a.c.map .t),.agg (a1.c.map .t),.agg (a2.c.map .t)] []
def Z25:MFun:=⟨3,20,[.cell 6 (some 1),.tmp 7],.r [.bx 3 0,.bx 4 1,.o 6 (.alloc [.t .nil]),.o 7 (.mov (.q false))] [2,3,4,6] (.r [.ln 11 30 3,.ln 12 2 4,.m 13 2,.o 14 (.icall 234 [.s 11,.s 12,.s 13]),.m 10 14,.o 15 (.ext (.s 10) 0),.o 16 (.ext (.s 10) 1),.o 8 (.alloc [.t .z,.t .z,.t .z,.t .nil]),.st 4 8 15,.m 9 16] [6,8,9] (.r [.fa 17 3 8,.ln 18 1 17,.m 19 9,.st 1 6 18,.m 7 19] [6,7] .ret))⟩
noncomputable def Zhq (x:List Int) (a:Zd) (a1:Zc):Rs:=C 115 [.agg (a.c.map .t),.agg (a1.c.map .t),.own 0] [.arr 3 1 true (x.map ic)]
def Z26:MFun:=⟨3,35,[.cell 6 (some 1),.tmp 7],.r [.bx 3 0,.bx 4 1,.bx 5 2,.o 6 (.alloc [.t .nil]),.o 7 (.mov (.q false))] [3,4,5,6] (.r [.ln 11 1 4,.ln 12 2 5,.cl 13 108 [11,12],.m 8 13] [3,5,6,8] (.seq (.seq (.drw [.m 14 8,.ll 15 14,.bk 16 .eql 15 0,.m 17 16,.h 18 17 (.ln 2 5),.h 19 17 (.ln 2 5),.h 20 17 (.cl 81 [19]),.h 21 17 (.cl 109 [18,20]),.h 22 17 (.un .not (.s 21)),.o 23 (.pick (.s 17) (.q true) (.s 22))] [[],[0],[1],[2],[3],[3],[5,3,3],[4,6,6,3],[7,3],[3,8]] [3,5,6,8,23]) (.cond (.s 23) (.r [.o 24 (.build [.t .nil] []),.st 1 6 24,.o 7 (.mov (.q false))] [6,7] .ret) .skip)) (.seq (.drw [.ln 26 30 3,.ln 27 2 5,.m 28 8,.cl 29 87 [28],.o 30 (.icall 115 [.s 26,.s 27,.s 29]),.m 25 30,.o 31 (.ext (.s 25) 0),.o 32 (.ext (.s 25) 1),.o 9 (.alloc [.t .nil]),.st 1 9 31,.m 10 32] [[],[],[],[2],[0,1,3,3],[4],[5],[5],[],[8,6,4,0,1,2,3,4,5,6,8],[7,9,0,1,2,3,4,5,6,7,8,9]] [6,9,10]) (.r [.ln 33 1 9,.m 34 10,.st 1 6 33,.m 7 34] [6,7] .ret))))⟩
noncomputable def Zp1 (a:Zd) (a1:Zi) (a2:Zc):Rs:=C 33 [.agg (a.c.map .t),.agg (a1.c.map .t),.agg (a2.c.map .t)] []
theorem Zbb2:tbl 124=some Zyy:=Zh Tryz.func124 (by kernel_rfl) (by kernel_rfl)
theorem Zbb3:tbl 344=some Zyz:=Zh Tryz.func344 (by kernel_rfl) (by kernel_rfl)
theorem Zbb4:tbl 256=some Zy0:=Zh Tryz.func256 (by kernel_rfl) (by kernel_rfl)
theorem Zbb5:tbl 135=some Zy1:=Zh Tryz.func135 (by kernel_rfl) (by kernel_rfl)
theorem Zbb6:tbl 398=some Zy2:=Zh Tryz.func398 (by kernel_rfl) (by kernel_rfl)
theorem Zbb7:tbl 345=some Zy3:=Zh Tryz.func345 (by kernel_rfl) (by kernel_rfl)
theorem Zbb8:tbl 271=some Zn7:=Zh Tryz.func271 (by kernel_rfl) (by kernel_rfl)
theorem Zbb9:tbl 357=some Zy4:=Zh Tryz.func357 (by kernel_rfl) (by kernel_rfl)
theorem Zbca:tbl 356=some Zy5:=Zh Tryz.func356 (by kernel_rfl) (by kernel_rfl)
theorem Zbcb:tbl 328=some Zy6:=Zh Tryz.func328 (by kernel_rfl) (by kernel_rfl)
theorem Zbcc:tbl 438=some Zy7:=Zh Tryz.func438 (by kernel_rfl) (by kernel_rfl)
theorem Zbcd:tbl 428=some Zy8:=Zh Tryz.func428 (by kernel_rfl) (by kernel_rfl)
theorem Zbce:tbl 394=some Zy9:=Zh Tryz.func394 (by kernel_rfl) (by kernel_rfl)
theorem Zbcf:tbl 331=some Zza:=Zh Tryz.func331 (by kernel_rfl) (by kernel_rfl)
theorem Zbcg:tbl 429=some Zzb:=Zh Tryz.func429 (by kernel_rfl) (by kernel_rfl)
theorem Zbch:tbl 400=some Zzc:=Zh Tryz.func400 (by kernel_rfl) (by kernel_rfl)
theorem Zbci:tbl 358=some Zzd:=Zh Tryz.func358 (by kernel_rfl) (by kernel_rfl)
theorem Zbcj:tbl 261=some Zze:=Zh Tryz.func261 (by kernel_rfl) (by kernel_rfl)
theorem Z27:tbl 317=some Zr5:=Zh Tryz.func317 (by kernel_rfl) (by kernel_rfl)
theorem Zbck:tbl 359=some Zzf:=Zh Tryz.func359 (by kernel_rfl) (by kernel_rfl)
theorem Zbcl:tbl 285=some Zzg:=Zh Tryz.func285 (by kernel_rfl) (by kernel_rfl)
theorem Zbcm:tbl 185=some Zzh:=Zh Tryz.func185 (by kernel_rfl) (by kernel_rfl)
theorem Zbcn:tbl 230=some Zzi:=Zh Tryz.func230 (by kernel_rfl) (by kernel_rfl)
theorem Zbco:tbl 301=some Zzj:=Zh Tryz.func301 (by kernel_rfl) (by kernel_rfl)
theorem Zbcp:tbl 346=some Zzk:=Zh Tryz.func346 (by kernel_rfl) (by kernel_rfl)
theorem Zbcq:tbl 347=some Zzm:=Zh Tryz.func347 (by kernel_rfl) (by kernel_rfl)
theorem Zbcr:tbl 368=some Zzo:=Zh Tryz.func368 (by kernel_rfl) (by kernel_rfl)
theorem Zbcs:tbl 302=some Zzp:=Zh Tryz.func302 (by kernel_rfl) (by kernel_rfl)
theorem Zbct:tbl 229=some Zzq:=Zh Tryz.func229 (by kernel_rfl) (by kernel_rfl)
theorem Zbcu:tbl 140=some Zzr:=Zh Tryz.func140 (by kernel_rfl) (by kernel_rfl)
theorem Zbcv:tbl 391=some Zzs:=Zh Tryz.func391 (by kernel_rfl) (by kernel_rfl)
theorem Zbcw:tbl 324=some Zzt:=Zh Tryz.func324 (by kernel_rfl) (by kernel_rfl)
theorem Zbcx:tbl 326=some Zzu:=Zh Tryz.func326 (by kernel_rfl) (by kernel_rfl)
theorem Zbcy:tbl 236=some Zzv:=Zh Tryz.func236 (by kernel_rfl) (by kernel_rfl)
theorem Zbcz:tbl 259=some Zzx:=Zh Tryz.func259 (by kernel_rfl) (by kernel_rfl)
theorem Zbc0:tbl 327=some Zzy:=Zh Tryz.func327 (by kernel_rfl) (by kernel_rfl)
theorem Zbc1:tbl 325=some Zz0:=Zh Tryz.func325 (by kernel_rfl) (by kernel_rfl)
theorem Zbc2:tbl 253=some Zz1:=Zh Tryz.func253 (by kernel_rfl) (by kernel_rfl)
theorem Zbc3:tbl 131=some Zz2:=Zh Tryz.func131 (by kernel_rfl) (by kernel_rfl)
theorem Zbc4:tbl 112=some Zz3:=Zh Tryz.func112 (by kernel_rfl) (by kernel_rfl)
theorem Zbc5:tbl 303=some Zz5:=Zh Tryz.func303 (by kernel_rfl) (by kernel_rfl)
theorem Zbc6:tbl 370=some Zz6:=Zh Tryz.func370 (by kernel_rfl) (by kernel_rfl)
theorem Zbc7:tbl 262=some Zz7:=Zh Tryz.func262 (by kernel_rfl) (by kernel_rfl)
theorem Zbc8:tbl 304=some Zz8:=Zh Tryz.func304 (by kernel_rfl) (by kernel_rfl)
theorem Zbc9:tbl 232=some Zs4:=Zh Tryz.func232 (by kernel_rfl) (by kernel_rfl)
theorem Zbda:tbl 231=some Z0a:=Zh Tryz.func231 (by kernel_rfl) (by kernel_rfl)
theorem Zbdb:tbl 141=some Z0c:=Zh Tryz.func141 (by kernel_rfl) (by kernel_rfl)
theorem Zbdc:tbl 113=some Z0d:=Zh Tryz.func113 (by kernel_rfl) (by kernel_rfl)
theorem Zbdd:tbl 237=some Z0e:=Zh Tryz.func237 (by kernel_rfl) (by kernel_rfl)
theorem Zbde:tbl 117=some Z0f:=Zh Tryz.func117 (by kernel_rfl) (by kernel_rfl)
theorem Zbdf:tbl 373=some Z0g:=Zh Tryz.func373 (by kernel_rfl) (by kernel_rfl)
theorem Zbdg:tbl 374=some Z0i:=Zh Tryz.func374 (by kernel_rfl) (by kernel_rfl)
theorem Zbdh:tbl 376=some Z0j:=Zh Tryz.func376 (by kernel_rfl) (by kernel_rfl)
theorem Zbdi:tbl 272=some Z0k:=Zh Tryz.func272 (by kernel_rfl) (by kernel_rfl)
theorem Zbdj:tbl 155=some Z0m:=Zh Tryz.func155 (by kernel_rfl) (by kernel_rfl)
theorem Zbdk:tbl 258=some Z0n:=Zh Tryz.func258 (by kernel_rfl) (by kernel_rfl)
theorem Zbdl:tbl 366=some Z0p:=Zh Tryz.func366 (by kernel_rfl) (by kernel_rfl)
theorem Zbdm:tbl 367=some Z0q:=Zh Tryz.func367 (by kernel_rfl) (by kernel_rfl)
theorem Zbdn:tbl 297=some Ztk:=Zh Tryz.func297 (by kernel_rfl) (by kernel_rfl)
theorem Zbdo:tbl 375=some Zb5:=Zh Tryz.func375 (by kernel_rfl) (by kernel_rfl)
theorem Zbdp:tbl 377=some Z0s:=Zh Tryz.func377 (by kernel_rfl) (by kernel_rfl)
theorem Z28:tbl 372=some Zto:=Zh Tryz.func372 (by kernel_rfl) (by kernel_rfl)
theorem Zbdq:tbl 355=some Z0t:=Zh Tryz.func355 (by kernel_rfl) (by kernel_rfl)
theorem Zbdr:tbl 378=some Z0u:=Zh Tryz.func378 (by kernel_rfl) (by kernel_rfl)
theorem Zbds:tbl 381=some Z0v:=Zh Tryz.func381 (by kernel_rfl) (by kernel_rfl)
theorem Zbdt:tbl 403=some Z0w:=Zh Tryz.func403 (by kernel_rfl) (by kernel_rfl)
theorem Zbdu:tbl 379=some Z00:=Zh Tryz.func379 (by kernel_rfl) (by kernel_rfl)
theorem Zbdv:tbl 404=some Z01:=Zh Tryz.func404 (by kernel_rfl) (by kernel_rfl)
theorem Zbdw:tbl 380=some Z02:=Zh Tryz.func380 (by kernel_rfl) (by kernel_rfl)
theorem Zbdx:tbl 307=some Zoy:=Zh Tryz.func307 (by kernel_rfl) (by kernel_rfl)
theorem Zbdy:tbl 306=some Z05:=Zh Tryz.func306 (by kernel_rfl) (by kernel_rfl)
theorem Zbdz:tbl 235=some Z06:=Zh Tryz.func235 (by kernel_rfl) (by kernel_rfl)
theorem Zbd0:tbl 122=some Z07:=Zh Tryz.func122 (by kernel_rfl) (by kernel_rfl)
theorem Zbd1:tbl 289=some Z08:=Zh Tryz.func289 (by kernel_rfl) (by kernel_rfl)
theorem Zbd2:tbl 148=some Z09:=Zh Tryz.func148 (by kernel_rfl) (by kernel_rfl)
theorem Zbd3:tbl 200=some Z1a:=Zh Tryz.func200 (by kernel_rfl) (by kernel_rfl)
theorem Zbd4:tbl 81=some Z1b:=Zh Tryz.func81 (by kernel_rfl) (by kernel_rfl)
theorem Zbd5:tbl 343=some Z1c:=Zh Tryz.func343 (by kernel_rfl) (by kernel_rfl)
theorem Zbd6:tbl 167=some Z1d:=Zh Tryz.func167 (by kernel_rfl) (by kernel_rfl)
theorem Zbd7:tbl 399=some Z1e:=Zh Tryz.func399 (by kernel_rfl) (by kernel_rfl)
theorem Zbd8:tbl 351=some Z1f:=Zh Tryz.func351 (by kernel_rfl) (by kernel_rfl)
theorem Zbd9:tbl 352=some Z1g:=Zh Tryz.func352 (by kernel_rfl) (by kernel_rfl)
theorem Zbea:tbl 275=some Z1h:=Zh Tryz.func275 (by kernel_rfl) (by kernel_rfl)
theorem Zbeb:tbl 178=some Z1i:=Zh Tryz.func178 (by kernel_rfl) (by kernel_rfl)
theorem Zbec:tbl 225=some Z1j:=Zh Tryz.func225 (by kernel_rfl) (by kernel_rfl)
theorem Zbed:tbl 349=some Z1k:=Zh Tryz.func349 (by kernel_rfl) (by kernel_rfl)
theorem Zbee:tbl 300=some Z1m:=Zh Tryz.func300 (by kernel_rfl) (by kernel_rfl)
theorem Zbef:tbl 226=some Z1n:=Zh Tryz.func226 (by kernel_rfl) (by kernel_rfl)
theorem Zbeg:tbl 109=some Z1o:=Zh Tryz.func109 (by kernel_rfl) (by kernel_rfl)
theorem Zbeh:tbl 353=some Z1q:=Zh Tryz.func353 (by kernel_rfl) (by kernel_rfl)
theorem Zbei:tbl 276=some Z1r:=Zh Tryz.func276 (by kernel_rfl) (by kernel_rfl)
theorem Zbej:tbl 354=some Z1s:=Zh Tryz.func354 (by kernel_rfl) (by kernel_rfl)
theorem Zbek:tbl 277=some Z1t:=Zh Tryz.func277 (by kernel_rfl) (by kernel_rfl)
theorem Zbel:tbl 166=some Z1v:=Zh Tryz.func166 (by kernel_rfl) (by kernel_rfl)
theorem Zbem:tbl 52=some Z1w:=Zh Tryz.func52 (by kernel_rfl) (by kernel_rfl)
theorem Zben:tbl 224=some Z1y:=Zh Tryz.func224 (by kernel_rfl) (by kernel_rfl)
theorem Zbeo:tbl 208=some Z1z:=Zh Tryz.func208 (by kernel_rfl) (by kernel_rfl)
theorem Zbep:tbl 152=some Z10:=Zh Tryz.func152 (by kernel_rfl) (by kernel_rfl)
theorem Zbeq:tbl 108=some Z11:=Zh Tryz.func108 (by kernel_rfl) (by kernel_rfl)
theorem Zber:tbl 207=some Z12:=Zh Tryz.func207 (by kernel_rfl) (by kernel_rfl)
theorem Zbes:tbl 87=some Z13:=Zh Tryz.func87 (by kernel_rfl) (by kernel_rfl)
theorem Zbet:tbl 164=some Z14:=Zh Tryz.func164 (by kernel_rfl) (by kernel_rfl)
theorem Zbeu:tbl 350=some Z15:=Zh Tryz.func350 (by kernel_rfl) (by kernel_rfl)
theorem Zbev:tbl 274=some Z16:=Zh Tryz.func274 (by kernel_rfl) (by kernel_rfl)
theorem Zbew:tbl 163=some Z18:=Zh Tryz.func163 (by kernel_rfl) (by kernel_rfl)
theorem Zbex:tbl 397=some Z19:=Zh Tryz.func397 (by kernel_rfl) (by kernel_rfl)
theorem Zbey:tbl 341=some Z2a:=Zh Tryz.func341 (by kernel_rfl) (by kernel_rfl)
theorem Zbez:tbl 342=some Z2b:=Zh Tryz.func342 (by kernel_rfl) (by kernel_rfl)
theorem Zbe0:tbl 268=some Z2c:=Zh Tryz.func268 (by kernel_rfl) (by kernel_rfl)
theorem Zbe1:tbl 145=some Z2d:=Zh Tryz.func145 (by kernel_rfl) (by kernel_rfl)
theorem Zbe2:tbl 371=some Z2e:=Zh Tryz.func371 (by kernel_rfl) (by kernel_rfl)
theorem Zbe3:tbl 197=some Z2g:=Zh Tryz.func197 (by kernel_rfl) (by kernel_rfl)
theorem Zbe4:tbl 198=some Z2i:=Zh Tryz.func198 (by kernel_rfl) (by kernel_rfl)
theorem Zbe5:tbl 199=some Z2k:=Zh Tryz.func199 (by kernel_rfl) (by kernel_rfl)
theorem Zbe6:tbl 80=some Z2l:=Zh Tryz.func80 (by kernel_rfl) (by kernel_rfl)
theorem Zbe7:tbl 204=some Z2n:=Zh Tryz.func204 (by kernel_rfl) (by kernel_rfl)
theorem Zbe8:tbl 205=some Z2o:=Zh Tryz.func205 (by kernel_rfl) (by kernel_rfl)
theorem Zbe9:tbl 203=some Z2q:=Zh Tryz.func203 (by kernel_rfl) (by kernel_rfl)
theorem Zbfa:tbl 362=some Z2r:=Zh Tryz.func362 (by kernel_rfl) (by kernel_rfl)
theorem Z29:tbl 291=some Zvw:=Zh Tryz.func291 (by kernel_rfl) (by kernel_rfl)
theorem Zbfb:tbl 292=some Z2s:=Zh Tryz.func292 (by kernel_rfl) (by kernel_rfl)
theorem Zbfc:tbl 363=some Z2t:=Zh Tryz.func363 (by kernel_rfl) (by kernel_rfl)
theorem Zbfd:tbl 293=some Z2u:=Zh Tryz.func293 (by kernel_rfl) (by kernel_rfl)
theorem Zbfe:tbl 206=some Z2x:=Zh Tryz.func206 (by kernel_rfl) (by kernel_rfl)
theorem Zbff:tbl 86=some Z2z:=Zh Tryz.func86 (by kernel_rfl) (by kernel_rfl)
theorem Zbfg:tbl 305=some Z20:=Zh Tryz.func305 (by kernel_rfl) (by kernel_rfl)
theorem Zbfh:tbl 85=some Z21:=Zh Tryz.func85 (by kernel_rfl) (by kernel_rfl)
theorem Zbfi:tbl 234=some Z22:=Zh Tryz.func234 (by kernel_rfl) (by kernel_rfl)
theorem Zbfj:tbl 116=some Z23:=Zh Tryz.func116 (by kernel_rfl) (by kernel_rfl)
theorem Zbfk:tbl 34=some Z24:=Zh Tryz.func34 (by kernel_rfl) (by kernel_rfl)
theorem Zbfl:tbl 115=some Z25:=Zh Tryz.func115 (by kernel_rfl) (by kernel_rfl)
theorem Zbfm:tbl 33=some Z26:=Zh Tryz.func33 (by kernel_rfl) (by kernel_rfl)
theorem Zc7:(∀ a a1 a2 r,Im (Zy a a1 a2=some r) (if a1≤a then (some (Bo (decide (a≤a2)),[])=some r) else (some (Bo false,[])=some r))) ∧
 (∀ a r,Im (Zh5 a=some r) (if (a.size:Int)=1 then (∃ b1,a[0]?=some b1∧(if 97≤(b1.toNat:Int) then (some (Bo (decide ((b1.toNat:Int)≤122)),[])=some r) else (some (Bo false,[])=some r))) else (some (Bo false,[])=some r))) ∧
 (∀ s v x x1 r,Im (Zko s v x x1=some r) (if x1<x then (0≤x1∧(∃ e1,s[x1.toNat]?=some e1∧(if v=e1 then (some (I x1,[])=some r) else (Zko s v x (w (x1+1))=some r)))) else (some (I (-1),[])=some r))) ∧
 (∀ a a1 r,Im (Zn2 a a1=some r) (Zko a a1 (a.length:Int) 0=some r)) ∧
 (∀ a a1 r,Im (Zeb a a1=some r) (∃ v1_0,Zn2 a a1=some (I v1_0,[])∧(some (Bo (decide (0≤v1_0)),[])=some r))) ∧
 (∀ s v x x1 r,Im (Zkp s v x x1=some r) (if x1<x then (0≤x1∧(∃ e1,s[x1.toNat]?=some e1∧(if v=e1 then (some (I x1,[])=some r) else (Zkp s v x (w (x1+1))=some r)))) else (some (I (-1),[])=some r))) ∧
 (∀ a a1 r,Im (Zn3 a a1=some r) (Zkp a a1 (a.length:Int) 0=some r)) ∧
 (∀ a a1 r,Im (Zn4 a a1=some r) (∃ v1_0,Zn3 a a1=some (I v1_0,[])∧(some (Bo (decide (0≤v1_0)),[])=some r))) ∧
 (∀ q seen x x1 x2 r,Im (Zgm q seen x x1 x2=some r) (if x2<x1 then (0≤x2∧(∃ e1,x[x2.toNat]?=some e1∧(∃ v2_0,Zh5 e1.Name=some (Bo v2_0,[])∧(if v2_0=true then (∃ v3_0,Zy (e1.Vars.length:Int) 1 3=some (Bo v3_0,[])∧(if v3_0=true then (Zkq q seen e1 x x1 x2 e1.Vars (e1.Vars.length:Int) 0=some r) else (some (Bo false,[])=some r))) else (some (Bo false,[])=some r))))) else (∃ v4_0,Zn4 seen false=some (Bo v4_0,[])∧(some (Bo (!v4_0),[])=some r)))) ∧
 (∀ q seen a x x1 x2 x3 x4 x5 r,Im (Zkq q seen a x x1 x2 x3 x4 x5=some r) (if x5<x4 then (0≤x5∧(∃ e1,x3[x5.toNat]?=some e1∧(∃ v2_0,Zy e1 0 (w (q.Ze - 1))=some (Bo v2_0,[])∧(if v2_0=true then (x5.toNat≤a.Vars.length∧(∃ v3_0,Zeb (a.Vars.take x5.toNat) e1=some (Bo v3_0,[])∧(if v3_0=true then (some (Bo false,[])=some r) else (0≤e1∧(∃ e4,seen[e1.toNat]?=some e4∧(Zkq q (seen.set e1.toNat true) a x x1 x2 x3 x4 (w (x5+1))=some r)))))) else (some (Bo false,[])=some r))))) else (Zgm q seen x x1 (w (x2+1))=some r))) ∧
 (∀ a a1 r,Im (Zrr a a1=some r) (some (Bo (decide (a.Name=a1)),[])=some r)) ∧
 (∀ s f x x1 r,Im (Zh6 s f x x1=some r) (if x1<x then (0≤x1∧(∃ e1,s[x1.toNat]?=some e1∧(∃ v2_0,Zrr e1 f=some (Bo v2_0,[])∧(if v2_0=true then (some (I x1,[])=some r) else (Zh6 s f x (w (x1+1))=some r))))) else (some (I (-1),[])=some r))):=by
 and_intros
 all_goals intros
 all_goals unfold Im
 all_goals try simp only [Zy,Zh5,Zko,Zn2,Zeb,Zkp,Zn3,Zn4,Zgm,Zkq,Zrr,Zh6,Zg.c_def,mpl,dfs]
 all_goals try simp only [itb]
 all_goals try simp only [itf,gS,kk]
 all_goals repeat' first | refine exI fun _=>?_ | refine anJ fun _ _=>?_ | refine anI fun _=>?_ | refine orE2 ?_ ?_ | exact False.elim
 all_goals (intro h;first | refine run Zbb2 rfl ?_ | refine run Zbb3 rfl ?_ | rw [EvL_eq Zrl.eq_1] | refine run Zbb4 rfl ?_ | refine run Zbb5 rfl ?_ | rw [EvL_eq Zrn.eq_1] | refine run Zbb6 rfl ?_ | refine run Zbb7 rfl ?_ | rw [EvL_eq Zn5.eq_1] | rw [EvL_eq Zrp.eq_1] | refine run Zbb9 rfl ?_ | rw [EvL_eq Zrs.eq_1])
 all_goals (refine Eq.trans ?_ h;clear h;simp +decide [*,kk,tI,tII,Zyy,Zyz,Zrm,Zy0,Zy1,Zro,Zy2,Zy3,Zn6,Zrq,Zy4,Zrt])
abbrev Zbfn:=Zc7.1
abbrev Zbfo:=Zc7.2.1
abbrev Z3a:=Zc7.2.2.1
abbrev Zbfp:=Zc7.2.2.2.1
abbrev Zbfq:=Zc7.2.2.2.2.1
abbrev Z3b:=Zc7.2.2.2.2.2.1
abbrev Zbfr:=Zc7.2.2.2.2.2.2.1
abbrev Zbfs:=Zc7.2.2.2.2.2.2.2.1
abbrev Z3c:=Zc7.2.2.2.2.2.2.2.2.1
abbrev Z3d:=Zc7.2.2.2.2.2.2.2.2.2.1
abbrev Zbft:=Zc7.2.2.2.2.2.2.2.2.2.2.1
abbrev Z3e:=Zc7.2.2.2.2.2.2.2.2.2.2.2
theorem Zc8:(∀ a a1 r,Im (Zn8 a a1=some r) (Zh6 a a1 (a.length:Int) 0=some r)) ∧
 (∀ row arity x x1 x2 r,Im (Zkr row arity x x1 x2=some r) (if x2<x1 then (0≤x2∧(∃ e1,x[x2.toNat]?=some e1∧(∃ v2_0,Zy e1 0 9=some (Bo v2_0,[])∧(if v2_0=true then (Zkr row arity x x1 (w (x2+1))=some r) else (some (Bo false,[])=some r))))) else (some (Bo (decide ((row.length:Int)=arity)),[])=some r))) ∧
 (∀ a a1 r,Im (Zn9 a a1=some r) (Zkr a a1 a (a.length:Int) 0=some r)) ∧
 (∀ a r,Im (Zoa a=some r) (some (Bo (!(decide (a=a))),[])=some r)) ∧
 (∀ a a1 r,Im (Zob a a1=some r) (∃ v1_0,Zoa a=some (Bo v1_0,[])∧(∃ v2_0,Zoa a1=some (Bo v2_0,[])∧(if v1_0=true then (if v2_0=true then (some (I 0,[])=some r) else (some (I (-1),[])=some r)) else (if v2_0=true then (some (I 1,[])=some r) else (if a<a1 then (some (I (-1),[])=some r) else (if a1<a then (some (I 1,[])=some r) else (some (I 0,[])=some r)))))))) ∧
 (∀ s1 s2 x x1 x2 r,Im (Zks s1 s2 x x1 x2=some r) (if x2<x1 then (0≤x2∧(∃ e1,x[x2.toNat]?=some e1∧(if (s2.length:Int)≤x2 then (some (I 1,[])=some r) else (∃ e2,s2[x2.toNat]?=some e2∧(∃ v3_0,Zob e1 e2=some (I v3_0,[])∧(if v3_0=0 then (Zks s1 s2 x x1 (w (x2+1))=some r) else (some (I v3_0,[])=some r))))))) else (if (s1.length:Int)<(s2.length:Int) then (some (I (-1),[])=some r) else (some (I 0,[])=some r)))) ∧
 (∀ a a1 r,Im (Zry a a1=some r) (Zks a a1 a (a.length:Int) 0=some r)) ∧
 (∀ a a1 r,Im (Zoc a a1=some r) (∃ v1_0,Zry a a1=some (I v1_0,[])∧(some (I v1_0,[])=some r))) ∧
 (∀ rows i r,Im (Zkt rows i=some r) (if i<(rows.length:Int) then (0≤(w (i - 1))∧(∃ e1,rows[(w (i - 1)).toNat]?=some e1∧(0≤i∧(∃ e2,rows[i.toNat]?=some e2∧(∃ v3_0,Zoc e1 e2=some (I v3_0,[])∧(if 0≤v3_0 then (some (Bo false,[])=some r) else (Zkt rows (w (i+1))=some r))))))) else (some (Bo true,[])=some r))) ∧
 (∀ a r,Im (Zod a=some r) (Zkt a 1=some r)) ∧
 (∀ t x x1 x2 r,Im (Zkv t x x1 x2=some r) (if x2<x1 then (0≤x2∧(∃ e1,x[x2.toNat]?=some e1∧(∃ v2_0,Zn9 e1 t.Arity=some (Bo v2_0,[])∧(if v2_0=true then (Zkv t x x1 (w (x2+1))=some r) else (some (Bo false,[])=some r))))) else (∃ v3_0,Zh5 t.Name=some (Bo v3_0,[])∧(if v3_0=true then (∃ v4_0,Zy t.Arity 1 3=some (Bo v4_0,[])∧(if v4_0=true then (if (t.Rows.length:Int)≤8 then (∃ v5_0,Zod t.Rows=some (Bo v5_0,[])∧(some (Bo v5_0,[])=some r)) else (some (Bo false,[])=some r)) else (some (Bo false,[])=some r))) else (some (Bo false,[])=some r))))) ∧
 (∀ a r,Im (Zku a=some r) (Zkv a a.Rows (a.Rows.length:Int) 0=some r)):=by
 and_intros
 all_goals intros
 all_goals unfold Im
 all_goals try simp only [Zn8,Zkr,Zn9,Zoa,Zob,Zks,Zry,Zoc,Zkt,Zod,Zkv,Zku,Zy,Zh5,Zh6,mpl,dfs]
 all_goals try simp only [itb]
 all_goals try simp only [itf,gS,kk]
 all_goals repeat' first | refine exI fun _=>?_ | refine anJ fun _ _=>?_ | refine anI fun _=>?_ | refine orE2 ?_ ?_ | exact False.elim
 all_goals (intro h;first | refine run Zbca rfl ?_ | rw [EvL_eq Zru.eq_1] | refine run Zbcb rfl ?_ | refine run Zbcc rfl ?_ | refine run Zbcd rfl ?_ | rw [EvL_eq Zrw.eq_1] | refine run Zbce rfl ?_ | refine run Zbcf rfl ?_ | rw [EvL_eq Zrz.eq_1] | refine run Zbcg rfl ?_ | rw [EvL_eq Zr1.eq_1] | refine run Zbch rfl ?_)
 all_goals (refine Eq.trans ?_ h;clear h;simp +decide [*,kk,tI,tII,Zy5,Zrv,Zy6,Zy7,Zy8,Zrx,Zy9,Zza,Zr0,Zzb,Zr2,Zzc])
abbrev Zbfu:=Zc8.1
abbrev Z3f:=Zc8.2.1
abbrev Zbfv:=Zc8.2.2.1
abbrev Z3g:=Zc8.2.2.2.1
abbrev Zbfw:=Zc8.2.2.2.2.1
abbrev Z3h:=Zc8.2.2.2.2.2.1
abbrev Zbfx:=Zc8.2.2.2.2.2.2.1
abbrev Zbfy:=Zc8.2.2.2.2.2.2.2.1
abbrev Zv7:=Zc8.2.2.2.2.2.2.2.2.1
abbrev Zbfz:=Zc8.2.2.2.2.2.2.2.2.2.1
abbrev Z3i:=Zc8.2.2.2.2.2.2.2.2.2.2.1
abbrev Zbf0:=Zc8.2.2.2.2.2.2.2.2.2.2.2
theorem Ze6:(∀ db x x1 x2 r,Im (Zh7 db x x1 x2=some r) (if x2<x1 then (0≤x2∧(∃ e1,x[x2.toNat]?=some e1∧(∃ v2_0,Zku e1=some (Bo v2_0,[])∧(if v2_0=true then (if 0<x2 then (0≤(w (x2 - 1))∧(∃ e3,db.Tables[(w (x2 - 1)).toNat]?=some e3∧(if (Op.bytesLess e3.Name.toList e1.Name.toList)=true then (Zh7 db x x1 (w (x2+1))=some r) else (some (Bo false,[])=some r)))) else (Zh7 db x x1 (w (x2+1))=some r)) else (some (Bo false,[])=some r))))) else (some (Bo (decide ((db.Tables.length:Int)≤6)),[])=some r))) ∧
 (∀ a r,Im (Zoe a=some r) (Zh7 a a.Tables (a.Tables.length:Int) 0=some r)) ∧
 (∀ a r,Im (Zfj a=some r) (a.length≤68719476736∧(some (.own 0,[.arr 3 1 true (a.map ic)])=some r))) ∧
 (∀ out x x1 x2 r,Im (Zky out x x1 x2=some r) (if x2<x1 then (0≤x2∧(∃ e1,x[x2.toNat]?=some e1∧(∃ (v2_0:List Int),Zfj e1=some (.own 0,[.arr 3 1 true (v2_0.map ic)])∧(out.length+1≤68719476736∧(Zky (out++[v2_0]) x x1 (w (x2+1))=some r))))) else (some (.own 0,[.arr 30 1 true (out.map isc)])=some r))) ∧
 (∀ a r,Im (Zh8 a=some r) (Zky ([]:List (List Int)) a (a.length:Int) 0=some r)) ∧
 (∀ a r,Im (Zr6 a=some r) (∃ (v1_0:List (List Int)),Zh8 a.Rows=some (.own 0,[.arr 30 1 true (v1_0.map isc)])∧(some (.agg [.t (.str a.Name),I a.Arity,.own 0],[.arr 30 1 true (v1_0.map isc)])=some r))) ∧
 (∀ a a1 r,Im (Zfk a a1=some r) (∃ v1_0,Zn8 a.Tables a1=some (I v1_0,[])∧(if v1_0<0 then (some (.tup [.agg [.t (.str ⟨#[]⟩),I 0,.t .nil],Bo false],[])=some r) else (∃ v2_0,Zoe a=some (Bo v2_0,[])∧(if v2_0=true then (0≤v1_0∧(∃ e3,a.Tables[v1_0.toNat]?=some e3∧(∃ (v4_0:List (List Int)),∃ v4_1,∃ v4_2,Zr6 e3=some (.agg [.t (.str v4_1),I v4_2,.own 0],[.arr 30 1 true (v4_0.map isc)])∧(some (.tup [.agg [.t (.str v4_1),I v4_2,.own 0],Bo true],[.arr 30 1 true (v4_0.map isc)])=some r)))) else (some (.tup [.agg [.t (.str ⟨#[]⟩),I 0,.t .nil],Bo false],[])=some r)))))) ∧
 (∀ db x x1 x2 r,Im (Zkz db x x1 x2=some r) (if x2<x1 then (0≤x2∧(∃ e1,x[x2.toNat]?=some e1∧((∃ v2_0 v2_1,Zfk db e1.Name=some (.tup [.agg [.t (.str v2_0),I v2_1,.t .nil],Bo false],[])∧(some (Bo false,[])=some r))∨(∃ (v3_0:List (List Int)),∃ v3_1,∃ v3_2,Zfk db e1.Name=some (.tup [.agg [.t (.str v3_1),I v3_2,.own 0],Bo true],[.arr 30 1 true (v3_0.map isc)])∧(if v3_2=(e1.Vars.length:Int) then (Zkz db x x1 (w (x2+1))=some r) else (some (Bo false,[])=some r)))))) else (some (Bo true,[])=some r))) ∧
 (∀ a a1 r,Im (Zgn a a1=some r) (∃ v1_0,Zc0 a1=some (Bo v1_0,[])∧(if v1_0=true then (Zkz a a1.Atoms (a1.Atoms.length:Int) 0=some r) else (some (Bo false,[])=some r)))):=by
 and_intros
 all_goals intros
 all_goals unfold Im
 all_goals try simp only [Zh7,Zoe,Zfj,Zky,Zh8,Zr6,Zfk,Zkz,Zgn,Zku,Zg.c_def,Zn8,Zi.c_def,Zc0,Zc.c_def,mpl,dfs]
 all_goals try simp only [itb]
 all_goals try simp only [itf,gS,kk]
 all_goals repeat' first | refine exI fun _=>?_ | refine anJ fun _ _=>?_ | refine anI fun _=>?_ | refine orE2 ?_ ?_ | exact False.elim
 all_goals (intro h;first | rw [EvL_eq Zr3.eq_1] | refine run Zbci rfl ?_ | refine run Zbcj rfl ?_ | rw [EvL_eq Zkw.eq_1] | refine run Z27 rfl ?_ | refine run Zbck rfl ?_ | refine run Zbcl rfl ?_ | rw [EvL_eq Zr7.eq_1] | refine run Zbcm rfl ?_)
 all_goals (refine Eq.trans ?_ h;clear h;simp +decide [*,kk,tI,tII,Zr4,Zzd,Zze,Zkx,Zr5,Zzf,Zzg,Zr8,Zzh])
abbrev Z3j:=Ze6.1
abbrev Zbf1:=Ze6.2.1
abbrev Zbf2:=Ze6.2.2.1
abbrev Z3k:=Ze6.2.2.2.1
abbrev Zbf3:=Ze6.2.2.2.2.1
abbrev Zbf4:=Ze6.2.2.2.2.2.1
abbrev Zbf5:=Ze6.2.2.2.2.2.2.1
abbrev Z3l:=Ze6.2.2.2.2.2.2.2.1
abbrev Zbf6:=Ze6.2.2.2.2.2.2.2.2
theorem Zbf7 (a:Zc) (r:AV×List Blk) (h:(∃ (v1_0:Bool),Zy a.Ze 1 4=some (Bo v1_0,[])∧(if v1_0=true then (∃ (v2_0:Bool),Zy (a.Atoms.length:Int) 1 4=some (Bo v2_0,[])∧(if v2_0=true then (0≤a.Ze∧(a.Ze.toNat*1≤room∧(a.Ze≤140737488355328∧(Zgm a (List.replicate (a.Ze).toNat false) a.Atoms (a.Atoms.length:Int) 0=some r)))) else (some (Bo false,[])=some r))) else (some (Bo false,[])=some r)))):Zc0 a=some r:=by
 unfold Zc0
 refine run Zbb8 rfl ?_
 obtain ⟨v1_0,q1,h⟩:=h
 unfold Zy at q1
 try simp at q1
 by_cases q2:v1_0=true
 ·rw [if_pos q2] at h
  obtain ⟨v2_0,q3,h⟩:=h
  unfold Zy at q3
  try simp at q3
  by_cases q4:v2_0=true
  ·rw [if_pos q4] at h
   obtain ⟨q5,h⟩:=h
   obtain ⟨q6,h⟩:=h
   have zq6:=q6;try simp at zq6
   obtain ⟨q7,h⟩:=h
   refine Eq.trans ?_ h
   clear h
   simp +decide [*,Zn7,tI,tII,Zgm]
  ·rw [if_neg q4] at h
   refine Eq.trans ?_ h
   clear h
   simp +decide [*,Zn7,tI,tII]
 ·rw [if_neg q2] at h
  refine Eq.trans ?_ h
  clear h
  simp +decide [*,Zn7,tI,tII]
theorem Zc9:(∀ a r,Im (Zcc a=some r) (∃ v1_0,Zc0 a=some (Bo v1_0,[])∧(if v1_0=true then (¬ (a.Atoms.length:Int)<0∧(some (I (w ((shlI 1 (a.Atoms.length:Int)) - 1)),[])=some r)) else (some (I 0,[])=some r)))) ∧
 (∀ a a1 r,Im (Zh9 a a1=some r) (∃ v1_0,Zc0 a=some (Bo v1_0,[])∧(if v1_0=true then (¬ (a.Atoms.length:Int)<0∧(∃ v2_0,Zy a1 0 (w ((shlI 1 (a.Atoms.length:Int)) - 1))=some (Bo v2_0,[])∧(some (Bo v2_0,[])=some r))) else (some (Bo false,[])=some r)))) ∧
 (∀ q out mask v r,Im (Zgo q out mask v=some r) (if v<q.Ze then (Zia q out mask v q.Atoms (q.Atoms.length:Int) 0=some r) else (some (.own 0,[.arr 3 1 true (out.map ic)])=some r))) ∧
 (∀ q out mask v x x1 x2 r,Im (Zia q out mask v x x1 x2=some r) (if x2<x1 then (0≤x2∧(∃ e1,x[x2.toNat]?=some e1∧(¬ x2<0∧(if (andI (shrI mask x2) 1)=1 then (∃ v2_0,Zeb e1.Vars v=some (Bo v2_0,[])∧(if v2_0=true then (out.length+1≤68719476736∧(Zgo q (out++[v]) mask (w (v+1))=some r)) else (Zia q out mask v x x1 (w (x2+1))=some r))) else (Zia q out mask v x x1 (w (x2+1))=some r))))) else (Zgo q out mask (w (v+1))=some r))) ∧
 (∀ a a1 r,Im (Zc1 a a1=some r) (Zgo a ([]:List Int) a1 0=some r)) ∧
 (∀ out b x x1 x2 r,Im (Zib out b x x1 x2=some r) (if x2<x1 then (0≤x2∧(∃ e1,x[x2.toNat]?=some e1∧(∃ v2_0,Zeb b e1=some (Bo v2_0,[])∧(if v2_0=true then (out.length+1≤68719476736∧(Zib (out++[e1]) b x x1 (w (x2+1))=some r)) else (Zib out b x x1 (w (x2+1))=some r))))) else (some (.own 0,[.arr 3 1 true (out.map ic)])=some r))) ∧
 (∀ a a1 r,Im (Zfl a a1=some r) (Zib ([]:List Int) a1 a (a.length:Int) 0=some r)) ∧
 (∀ vars mask out x x1 x2 r,Im (Zgp vars mask out x x1 x2=some r) (if x2<x1 then (0≤x2∧(∃ e1,x[x2.toNat]?=some e1∧(¬ x2<0∧(if (andI (shrI mask x2) 1)=0 then (∃ (v2_0:List Int),Zfl e1.Vars vars=some (.own 0,[.arr 3 1 true (v2_0.map ic)])∧(if 0<(v2_0.length:Int) then (Zgp vars mask (orI out (shlI 1 x2)) x x1 (w (x2+1))=some r) else (Zgp vars mask out x x1 (w (x2+1))=some r))) else (Zgp vars mask out x x1 (w (x2+1))=some r))))) else (some (I out,[])=some r))) ∧
 (∀ a a1 r,Im (Zoh a a1=some r) (∃ (v1_0:List Int),Zc1 a a1=some (.own 0,[.arr 3 1 true (v1_0.map ic)])∧(Zgp v1_0 a1 0 a.Atoms (a.Atoms.length:Int) 0=some r))) ∧
 (∀ q mask got r,Im (Zk0 q mask got=some r) (∃ v1_0,Zoh q got=some (I v1_0,[])∧(if (orI got (andI v1_0 mask))=got then (some (Bo (decide (got=mask)),[])=some r) else (Zk0 q mask (orI got (andI v1_0 mask))=some r)))) ∧
 (∀ a a1 r,Im (Zev a a1=some r) (if a1=0 then (some (Bo false,[])=some r) else (Zk0 a a1 (andI a1 (w (0 - a1)))=some r))) ∧
 (∀ a a1 r,Im (Zgq a a1=some r) (∃ v1_0,Zh9 a a1=some (Bo v1_0,[])∧(if v1_0=true then (∃ v2_0,Zev a a1=some (Bo v2_0,[])∧(some (Bo v2_0,[])=some r)) else (some (Bo false,[])=some r)))):=by
 and_intros
 all_goals intros
 all_goals unfold Im
 all_goals try simp only [Zcc,Zh9,Zgo,Zia,Zc1,Zib,Zfl,Zgp,Zoh,Zk0,Zev,Zgq,Zc0,Zc.c_def,Zy,Zeb,mpl,dfs]
 all_goals try simp only [itb]
 all_goals try simp only [itf,gS,kk]
 all_goals repeat' first | refine exI fun _=>?_ | refine anJ fun _ _=>?_ | refine anI fun _=>?_ | refine orE2 ?_ ?_ | exact False.elim
 all_goals (intro h;first | refine run Zbcn rfl ?_ | refine run Zbco rfl ?_ | rw [EvL_eq Zof.eq_1] | rw [EvL_eq Zr9.eq_1] | refine run Zbcp rfl ?_ | rw [EvL_eq Zsb.eq_1] | refine run Zbcq rfl ?_ | rw [EvL_eq Zsd.eq_1] | refine run Zbcr rfl ?_ | rw [EvL_eq Zsf.eq_1] | refine run Zbcs rfl ?_ | refine run Zbct rfl ?_)
 all_goals (refine Eq.trans ?_ h;clear h;simp +decide [*,kk,tI,tII,Zzi,Zzj,Zog,Zsa,Zzk,Zzl,Zsc,Zzm,Zzn,Zse,Zzo,Zzp,Zzq])
abbrev Zbf8:=Zc9.1
abbrev Zbf9:=Zc9.2.1
abbrev Z3m:=Zc9.2.2.1
abbrev Z3n:=Zc9.2.2.2.1
abbrev Zbga:=Zc9.2.2.2.2.1
abbrev Z3o:=Zc9.2.2.2.2.2.1
abbrev Zbgb:=Zc9.2.2.2.2.2.2.1
abbrev Z3p:=Zc9.2.2.2.2.2.2.2.1
abbrev Zbgc:=Zc9.2.2.2.2.2.2.2.2.1
abbrev Z3q:=Zc9.2.2.2.2.2.2.2.2.2.1
abbrev Z3r:=Zc9.2.2.2.2.2.2.2.2.2.2.1
abbrev Zbgd:=Zc9.2.2.2.2.2.2.2.2.2.2.2
theorem Zda:(∀ x r,Im (Zec x=some r) (some (.bsl 1 5,[.box (x.c.map .t),.box [.ptr 0 0,.ptr 0 6,.ptr 0 12,.ptr 0 18,.ptr 0 24]])=some r)) ∧
 (∀ x r,Im (Zoi x=some r) (some (.bsl 1 5,[.box (x.c.map .t),.box [.ptr 0 0,.ptr 0 1,.ptr 0 2,.ptr 0 3,.ptr 0 4]])=some r)) ∧
 (∀ o x x1 x2 r,Im (Zfm o x x1 x2=some r) (if x2<x1 then (0≤x2∧(∃ e1,x[x2.toNat]?=some e1∧(∃ v2_0,Zy e1.Add (-99) 99=some (Bo v2_0,[])∧(if v2_0=true then (∃ v3_0,Zy e1.From 1 8192=some (Bo v3_0,[])∧(if v3_0=true then (if 0<x2 then (0≤(w (x2 - 1))∧(∃ e4,o.Steps[(w (x2 - 1)).toNat]?=some e4∧(if e1.From≤e4.From then (some (Bo false,[])=some r) else (Zfm o x x1 (w (x2+1))=some r)))) else (Zfm o x x1 (w (x2+1))=some r)) else (some (Bo false,[])=some r))) else (some (Bo false,[])=some r))))) else (some (Bo (decide ((o.Steps.length:Int)≤4)),[])=some r))) ∧
 (∀ a r,Im (Zbi a=some r) (Zoi a=some (.bsl 1 5,[.box (a.c.map .t),.box [.ptr 0 0,.ptr 0 1,.ptr 0 2,.ptr 0 3,.ptr 0 4]])∧(Zcn a 5 0=some r))) ∧
 (∀ out a r,Im (Zic out a=some r) (if a≤7 then (Zgr out a 0=some r) else (some (.own 0,[.arr 30 1 true (out.map isc)])=some r))) ∧
 (∀ out a b r,Im (Zgr out a b=some r) (if b≤7 then (Zid out a b 0=some r) else (Zic out (w (a+1))=some r))) ∧
 (∀ out a b c r,Im (Zid out a b c=some r) (if c≤7 then (out.length+1≤68719476736∧(Zid (out++[[a,b,c]]) a b (w (c+1))=some r)) else (Zgr out a (w (b+1))=some r))) ∧
 (∀ r,Im (Zcd=some r) (Zic ([]:List (List Int)) 0=some r)) ∧
 (∀ a r,Im (Zed a=some r) (∃ v1_0,Zy a 0 7=some (Bo v1_0,[])∧(if v1_0=true then (if a=0 then (some (I 0,[])=some r) else (¬ (w (2*(w (a - 1))))<0∧(some (I (shlI 1 (w (2*(w (a - 1))))),[])=some r))) else (some (I (-1),[])=some r)))) ∧
 (∀ left right n x x1 x2 r,Im (Zif left right n x x1 x2=some r) (if x2<x1 then (0≤x2∧(∃ e1,x[x2.toNat]?=some e1∧(if e1.From≤(w (left+right)) then (Zif left right (w (n+e1.Add)) x x1 (w (x2+1))=some r) else (Zif left right n x x1 (w (x2+1))=some r)))) else (some (I n,[])=some r))) ∧
 (∀ a a1 a2 a3 r,Im (Zie a a1 a2 a3=some r) (Zif a1 a2 (w ((w ((w ((w (a.Fixed+(w (a.Zl*a1))))+(w (a.Zm*a2))))+(w (a.Zo*a3))))+(w ((w (a.Zn*a1))*a2)))) a.Steps (a.Steps.length:Int) 0=some r)) ∧
 (∀ a a1 r,Im (Zc2 a a1=some r) (∃ e1,a1[0]?=some e1∧(∃ v2_0,Zed e1=some (I v2_0,[])∧(∃ e3,a1[1]?=some e3∧(∃ v4_0,Zed e3=some (I v4_0,[])∧(∃ e5,a1[2]?=some e5∧(∃ v6_0,Zed e5=some (I v6_0,[])∧(∃ v7_0,Zie a v2_0 v4_0 v6_0=some (I v7_0,[])∧(some (I v7_0,[])=some r))))))))):=by
 and_intros
 all_goals intros
 all_goals unfold Im
 all_goals try simp only [Zec,Zoi,Zfm,Zbi,Zic,Zgr,Zid,Zcd,Zed,Zif,Zie,Zc2,Zy,Zj.c_def,Zcn,mpl,dfs]
 all_goals try simp only [itb]
 all_goals try simp only [itf,gS,kk]
 all_goals repeat' first | refine exI fun _=>?_ | refine anJ fun _ _=>?_ | refine anI fun _=>?_ | refine orE2 ?_ ?_ | exact False.elim
 all_goals (intro h;first | refine runM Zbcu rfl ?_ | refine runM Zbcv rfl ?_ | rw [EvL_eq Zsh.eq_1] | refine run Zbcw rfl ?_ | rw [EvL_eq Zk1.eq_1] | rw [EvL_eq Zoj.eq_1] | rw [EvL_eq Zsk.eq_1] | refine run Zbcx rfl ?_ | refine run Zbcy rfl ?_ | rw [EvL_eq Zsm.eq_1] | refine run Zbcz rfl ?_ | refine run Zbc0 rfl ?_)
 all_goals (refine Eq.trans ?_ h;clear h;simp +decide [*,kk,tI,tII,Zzr,Zzs,Zsi,Zzt,Zk2,Zok,Zsl,Zzu,Zzv,Zzw,Zsn,Zzx,Zzy])
abbrev Z3s:=Zda.1
abbrev Zbge:=Zda.2.1
abbrev Z3t:=Zda.2.2.1
abbrev Zbgf:=Zda.2.2.2.1
abbrev Z3u:=Zda.2.2.2.2.1
abbrev Z3v:=Zda.2.2.2.2.2.1
abbrev Z3w:=Zda.2.2.2.2.2.2.1
abbrev Zbgg:=Zda.2.2.2.2.2.2.2.1
abbrev Zbgh:=Zda.2.2.2.2.2.2.2.2.1
abbrev Z3x:=Zda.2.2.2.2.2.2.2.2.2.1
abbrev Zbgi:=Zda.2.2.2.2.2.2.2.2.2.2.1
abbrev Zbgj:=Zda.2.2.2.2.2.2.2.2.2.2.2
theorem Zv8:(∀ o x x1 x2 r,Im (Zfn o x x1 x2=some r) (if x2<x1 then (0≤x2∧(∃ e1,x[x2.toNat]?=some e1∧(Zc3 o x e1 x1 x2 (e1.length:Int) 0=some r))) else (some (.tup [.t .nil,.t .nil,Bo false],[])=some r))) ∧
 (∀ o x t x1 x2 x3 x4 r,Im (Zc3 o x t x1 x2 x3 x4=some r) (if x4<x3 then (0≤x4∧(∃ e1,t[x4.toNat]?=some e1∧(if e1=7 then (Zc3 o x t x1 x2 x3 (w (x4+1))=some r) else (∃ (v2_0:List Int),Zfj t=some (.own 0,[.arr 3 1 true (v2_0.map ic)])∧(∃ e3,v2_0[x4.toNat]?=some e3∧(∃ v4_0,Zc2 o (v2_0.set x4.toNat (w (e3+1)))=some (I v4_0,[])∧(∃ v5_0,Zc2 o t=some (I v5_0,[])∧(if v4_0<v5_0 then (some (.tup [L 1 (t.map ic),.own 0,Bo true],[.arr 3 1 true ((v2_0.set x4.toNat (w (e3+1))).map ic)])=some r) else (Zc3 o x t x1 x2 x3 (w (x4+1))=some r))))))))) else (Zfn o x x1 (w (x2+1))=some r))) ∧
 (∀ a r,Im (Zbf a=some r) (∃ v1_0,Zbi a=some (Bo v1_0,[])∧(if v1_0=true then (∃ (v2_0:List (List Int)),Zcd=some (.own 0,[.arr 30 1 true (v2_0.map isc)])∧(Zfn a v2_0 (v2_0.length:Int) 0=some r)) else (some (.tup [.t .nil,.t .nil,Bo false],[])=some r)))):=by
 and_intros
 all_goals intros
 all_goals unfold Im
 all_goals try simp only [Zfn,Zc3,Zbf,Zfj,Zc2,Zj.c_def,Zbi,Zcd,mpl,dfs]
 all_goals try simp only [itb]
 all_goals try simp only [itf,gS,kk]
 all_goals repeat' first | refine exI fun _=>?_ | refine anJ fun _ _=>?_ | refine anI fun _=>?_ | refine orE2 ?_ ?_ | exact False.elim
 all_goals (intro h;first | rw [EvL_eq Zol.eq_1] | rw [EvL_eq Zso.eq_1] | refine run Zbc1 rfl ?_)
 all_goals (refine Eq.trans ?_ h;clear h;simp +decide [*,kk,tI,tII,Zom,Zzz,Zsp,Zz0])
abbrev Z3y:=Zv8.1
abbrev Zv9:=Zv8.2.1
abbrev Zbgk:=Zv8.2.2
theorem Zj0 (o:Zj) (x:Int) (x1:Int) (r:AV×List Blk) (h:(if x1<x then (if x1=0 then (∃ (v1_0:Bool),Zy o.Fixed (-99) 99=some (Bo v1_0,[])∧(if v1_0=true then (Zcn o x (w (x1+1))=some r) else (some (Bo false,[])=some r))) else (if x1=1 then (∃ (v2_0:Bool),Zy o.Zl (-99) 99=some (Bo v2_0,[])∧(if v2_0=true then (Zcn o x (w (x1+1))=some r) else (some (Bo false,[])=some r))) else (if x1=2 then (∃ (v3_0:Bool),Zy o.Zm (-99) 99=some (Bo v3_0,[])∧(if v3_0=true then (Zcn o x (w (x1+1))=some r) else (some (Bo false,[])=some r))) else (if x1=3 then (∃ (v4_0:Bool),Zy o.Zo (-99) 99=some (Bo v4_0,[])∧(if v4_0=true then (Zcn o x (w (x1+1))=some r) else (some (Bo false,[])=some r))) else (if x1=4 then (∃ (v5_0:Bool),Zy o.Zn (-99) 99=some (Bo v5_0,[])∧(if v5_0=true then (Zcn o x (w (x1+1))=some r) else (some (Bo false,[])=some r))) else False))))) else (Zfm o o.Steps (o.Steps.length:Int) 0=some r))):Zcn o x x1=some r:=by
 unfold Zcn
 rw [EvL_eq Zsg.eq_1]
 by_cases q1:x1<x
 ·rw [if_pos q1] at h
  by_cases q2:x1=0
  ·rw [if_pos q2] at h
   subst q2
   obtain ⟨v1_0,q3,h⟩:=h
   unfold Zy at q3
   try simp at q3
   by_cases q4:v1_0=true
   ·rw [if_pos q4] at h
    refine Eq.trans ?_ h
    clear h
    simp +decide [*,tI,tII,Zcn]
   ·rw [if_neg q4] at h
    refine Eq.trans ?_ h
    clear h
    simp +decide [*,tI,tII]
  ·rw [if_neg q2] at h
   replace q2:=eq_false q2
   by_cases q5:x1=1
   ·rw [if_pos q5] at h
    subst q5
    obtain ⟨v2_0,q6,h⟩:=h
    unfold Zy at q6
    try simp at q6
    by_cases q7:v2_0=true
    ·rw [if_pos q7] at h
     refine Eq.trans ?_ h
     clear h
     simp +decide [*,tI,tII,Zcn]
    ·rw [if_neg q7] at h
     refine Eq.trans ?_ h
     clear h
     simp +decide [*,tI,tII]
   ·rw [if_neg q5] at h
    replace q5:=eq_false q5
    by_cases q8:x1=2
    ·rw [if_pos q8] at h
     subst q8
     obtain ⟨v3_0,q9,h⟩:=h
     unfold Zy at q9
     try simp at q9
     by_cases q10:v3_0=true
     ·rw [if_pos q10] at h
      refine Eq.trans ?_ h
      clear h
      simp +decide [*,tI,tII,Zcn]
     ·rw [if_neg q10] at h
      refine Eq.trans ?_ h
      clear h
      simp +decide [*,tI,tII]
    ·rw [if_neg q8] at h
     replace q8:=eq_false q8
     by_cases q11:x1=3
     ·rw [if_pos q11] at h
      subst q11
      obtain ⟨v4_0,q12,h⟩:=h
      unfold Zy at q12
      try simp at q12
      by_cases q13:v4_0=true
      ·rw [if_pos q13] at h
       refine Eq.trans ?_ h
       clear h
       simp +decide [*,tI,tII,Zcn]
      ·rw [if_neg q13] at h
       refine Eq.trans ?_ h
       clear h
       simp +decide [*,tI,tII]
     ·rw [if_neg q11] at h
      replace q11:=eq_false q11
      by_cases q14:x1=4
      ·rw [if_pos q14] at h
       subst q14
       obtain ⟨v5_0,q15,h⟩:=h
       unfold Zy at q15
       try simp at q15
       by_cases q16:v5_0=true
       ·rw [if_pos q16] at h
        refine Eq.trans ?_ h
        clear h
        simp +decide [*,tI,tII,Zcn]
       ·rw [if_neg q16] at h
        refine Eq.trans ?_ h
        clear h
        simp +decide [*,tI,tII]
      ·rw [if_neg q14] at h
       replace q14:=eq_false q14
       cases h
 ·rw [if_neg q1] at h
  refine Eq.trans ?_ h
  clear h
  simp +decide [*,tI,tII,Zfm,Zsj]
theorem Zj1 (x:Zd) (x1:Int) (x2:Int) (r:AV×List Blk) (h:(if x2<x1 then (if x2=0 then (∃ (v1_0:Bool),Zbi x.Scan=some (Bo v1_0,[])∧(if v1_0=true then ((Zbf x.Scan=some (.tup [.t .nil,.t .nil,Bo false],[])∧(∃ (v3_0:List (List Int)),Zcd=some (.own 0,[.arr 30 1 true (v3_0.map isc)])∧(Zfq x v3_0 (w (1+x2)) x1 x2 (v3_0.length:Int) 0=some r)))∨(∃ (v4_0:List Int) (v4_1:List Int),Zbf x.Scan=some (.tup [L 1 (v4_1.map ic),.own 0,Bo true],[.arr 3 1 true (v4_0.map ic)])∧(some (.tup [I (w (1+x2)),L 1 (v4_1.map ic),.own 0],[.arr 3 1 true (v4_0.map ic)])=some r))) else (some (.tup [I (w (1+x2)),.t .nil,.t .nil],[])=some r))) else (if x2=1 then (∃ (v5_0:Bool),Zbi x.Sort_=some (Bo v5_0,[])∧(if v5_0=true then ((Zbf x.Sort_=some (.tup [.t .nil,.t .nil,Bo false],[])∧(∃ (v7_0:List (List Int)),Zcd=some (.own 0,[.arr 30 1 true (v7_0.map isc)])∧(Zfr x v7_0 (w (1+x2)) x1 x2 (v7_0.length:Int) 0=some r)))∨(∃ (v8_0:List Int) (v8_1:List Int),Zbf x.Sort_=some (.tup [L 1 (v8_1.map ic),.own 0,Bo true],[.arr 3 1 true (v8_0.map ic)])∧(some (.tup [I (w (1+x2)),L 1 (v8_1.map ic),.own 0],[.arr 3 1 true (v8_0.map ic)])=some r))) else (some (.tup [I (w (1+x2)),.t .nil,.t .nil],[])=some r))) else (if x2=2 then (∃ (v9_0:Bool),Zbi x.Hash=some (Bo v9_0,[])∧(if v9_0=true then ((Zbf x.Hash=some (.tup [.t .nil,.t .nil,Bo false],[])∧(∃ (v11_0:List (List Int)),Zcd=some (.own 0,[.arr 30 1 true (v11_0.map isc)])∧(Zfs x v11_0 (w (1+x2)) x1 x2 (v11_0.length:Int) 0=some r)))∨(∃ (v12_0:List Int) (v12_1:List Int),Zbf x.Hash=some (.tup [L 1 (v12_1.map ic),.own 0,Bo true],[.arr 3 1 true (v12_0.map ic)])∧(some (.tup [I (w (1+x2)),L 1 (v12_1.map ic),.own 0],[.arr 3 1 true (v12_0.map ic)])=some r))) else (some (.tup [I (w (1+x2)),.t .nil,.t .nil],[])=some r))) else (if x2=3 then (∃ (v13_0:Bool),Zbi x.Merge=some (Bo v13_0,[])∧(if v13_0=true then ((Zbf x.Merge=some (.tup [.t .nil,.t .nil,Bo false],[])∧(∃ (v15_0:List (List Int)),Zcd=some (.own 0,[.arr 30 1 true (v15_0.map isc)])∧(Zft x v15_0 (w (1+x2)) x1 x2 (v15_0.length:Int) 0=some r)))∨(∃ (v16_0:List Int) (v16_1:List Int),Zbf x.Merge=some (.tup [L 1 (v16_1.map ic),.own 0,Bo true],[.arr 3 1 true (v16_0.map ic)])∧(some (.tup [I (w (1+x2)),L 1 (v16_1.map ic),.own 0],[.arr 3 1 true (v16_0.map ic)])=some r))) else (some (.tup [I (w (1+x2)),.t .nil,.t .nil],[])=some r))) else (if x2=4 then (∃ (v17_0:Bool),Zbi x.Nested=some (Bo v17_0,[])∧(if v17_0=true then ((Zbf x.Nested=some (.tup [.t .nil,.t .nil,Bo false],[])∧(∃ (v19_0:List (List Int)),Zcd=some (.own 0,[.arr 30 1 true (v19_0.map isc)])∧(Zfu x v19_0 (w (1+x2)) x1 x2 (v19_0.length:Int) 0=some r)))∨(∃ (v20_0:List Int) (v20_1:List Int),Zbf x.Nested=some (.tup [L 1 (v20_1.map ic),.own 0,Bo true],[.arr 3 1 true (v20_0.map ic)])∧(some (.tup [I (w (1+x2)),L 1 (v20_1.map ic),.own 0],[.arr 3 1 true (v20_0.map ic)])=some r))) else (some (.tup [I (w (1+x2)),.t .nil,.t .nil],[])=some r))) else False))))) else (some (.tup [I 0,.t .nil,.t .nil],[])=some r))):Z6 x x1 x2=some r:=by
 unfold Z6
 rw [EvL_eq Zfo.eq_1]
 by_cases q1:x2<x1
 ·rw [if_pos q1] at h
  by_cases q2:x2=0
  ·rw [if_pos q2] at h
   subst q2
   obtain ⟨v1_0,q3,h⟩:=h
   unfold Zbi at q3
   try simp at q3
   by_cases q4:v1_0=true
   ·rw [if_pos q4] at h
    rcases h with h | h
    ·
     obtain ⟨q5,h⟩:=h
     unfold Zbf at q5
     try simp at q5
     obtain ⟨v3_0,q6,h⟩:=h
     unfold Zcd at q6
     try simp at q6
     refine Eq.trans ?_ h
     clear h
     simp +decide [*,tI,tII,Zfq]
    ·
     obtain ⟨v4_0,v4_1,q7,h⟩:=h
     unfold Zbf at q7
     try simp at q7
     refine Eq.trans ?_ h
     clear h
     simp +decide [*,tI,tII]
   ·rw [if_neg q4] at h
    refine Eq.trans ?_ h
    clear h
    simp +decide [*,tI,tII]
  ·rw [if_neg q2] at h
   replace q2:=eq_false q2
   by_cases q8:x2=1
   ·rw [if_pos q8] at h
    subst q8
    obtain ⟨v5_0,q9,h⟩:=h
    unfold Zbi at q9
    try simp at q9
    by_cases q10:v5_0=true
    ·rw [if_pos q10] at h
     rcases h with h | h
     ·
      obtain ⟨q11,h⟩:=h
      unfold Zbf at q11
      try simp at q11
      obtain ⟨v7_0,q12,h⟩:=h
      unfold Zcd at q12
      try simp at q12
      refine Eq.trans ?_ h
      clear h
      simp +decide [*,tI,tII,Zfr]
     ·
      obtain ⟨v8_0,v8_1,q13,h⟩:=h
      unfold Zbf at q13
      try simp at q13
      refine Eq.trans ?_ h
      clear h
      simp +decide [*,tI,tII]
    ·rw [if_neg q10] at h
     refine Eq.trans ?_ h
     clear h
     simp +decide [*,tI,tII]
   ·rw [if_neg q8] at h
    replace q8:=eq_false q8
    by_cases q14:x2=2
    ·rw [if_pos q14] at h
     subst q14
     obtain ⟨v9_0,q15,h⟩:=h
     unfold Zbi at q15
     try simp at q15
     by_cases q16:v9_0=true
     ·rw [if_pos q16] at h
      rcases h with h | h
      ·
       obtain ⟨q17,h⟩:=h
       unfold Zbf at q17
       try simp at q17
       obtain ⟨v11_0,q18,h⟩:=h
       unfold Zcd at q18
       try simp at q18
       refine Eq.trans ?_ h
       clear h
       simp +decide [*,tI,tII,Zfs]
      ·
       obtain ⟨v12_0,v12_1,q19,h⟩:=h
       unfold Zbf at q19
       try simp at q19
       refine Eq.trans ?_ h
       clear h
       simp +decide [*,tI,tII]
     ·rw [if_neg q16] at h
      refine Eq.trans ?_ h
      clear h
      simp +decide [*,tI,tII]
    ·rw [if_neg q14] at h
     replace q14:=eq_false q14
     by_cases q20:x2=3
     ·rw [if_pos q20] at h
      subst q20
      obtain ⟨v13_0,q21,h⟩:=h
      unfold Zbi at q21
      try simp at q21
      by_cases q22:v13_0=true
      ·rw [if_pos q22] at h
       rcases h with h | h
       ·
        obtain ⟨q23,h⟩:=h
        unfold Zbf at q23
        try simp at q23
        obtain ⟨v15_0,q24,h⟩:=h
        unfold Zcd at q24
        try simp at q24
        refine Eq.trans ?_ h
        clear h
        simp +decide [*,tI,tII,Zft]
       ·
        obtain ⟨v16_0,v16_1,q25,h⟩:=h
        unfold Zbf at q25
        try simp at q25
        refine Eq.trans ?_ h
        clear h
        simp +decide [*,tI,tII]
      ·rw [if_neg q22] at h
       refine Eq.trans ?_ h
       clear h
       simp +decide [*,tI,tII]
     ·rw [if_neg q20] at h
      replace q20:=eq_false q20
      by_cases q26:x2=4
      ·rw [if_pos q26] at h
       subst q26
       obtain ⟨v17_0,q27,h⟩:=h
       unfold Zbi at q27
       try simp at q27
       by_cases q28:v17_0=true
       ·rw [if_pos q28] at h
        rcases h with h | h
        ·
         obtain ⟨q29,h⟩:=h
         unfold Zbf at q29
         try simp at q29
         obtain ⟨v19_0,q30,h⟩:=h
         unfold Zcd at q30
         try simp at q30
         refine Eq.trans ?_ h
         clear h
         simp +decide [*,tI,tII,Zfu]
        ·
         obtain ⟨v20_0,v20_1,q31,h⟩:=h
         unfold Zbf at q31
         try simp at q31
         refine Eq.trans ?_ h
         clear h
         simp +decide [*,tI,tII]
       ·rw [if_neg q28] at h
        refine Eq.trans ?_ h
        clear h
        simp +decide [*,tI,tII]
      ·rw [if_neg q26] at h
       replace q26:=eq_false q26
       cases h
 ·rw [if_neg q1] at h
  refine Eq.trans ?_ h
  clear h
  simp +decide [*,tI,tII,Zfp]
theorem Zdb:(∀ o x kind x1 x2 x3 x4 r,Im (Zfq o x kind x1 x2 x3 x4=some r) (if x4<x3 then (0≤x4∧(∃ e1,x[x4.toNat]?=some e1∧(∃ v2_0,Zc2 o.Scan e1=some (I v2_0,[])∧(if v2_0<1 then (some (.tup [I kind,L 1 (e1.map ic),.t .nil],[])=some r) else (Zfq o x kind x1 x2 x3 (w (x4+1))=some r))))) else (Z6 o x1 (w (x2+1))=some r))) ∧
 (∀ o x kind x1 x2 x3 x4 r,Im (Zfr o x kind x1 x2 x3 x4=some r) (if x4<x3 then (0≤x4∧(∃ e1,x[x4.toNat]?=some e1∧(∃ v2_0,Zc2 o.Sort_ e1=some (I v2_0,[])∧(if v2_0<1 then (some (.tup [I kind,L 1 (e1.map ic),.t .nil],[])=some r) else (Zfr o x kind x1 x2 x3 (w (x4+1))=some r))))) else (Z6 o x1 (w (x2+1))=some r))) ∧
 (∀ o x kind x1 x2 x3 x4 r,Im (Zfs o x kind x1 x2 x3 x4=some r) (if x4<x3 then (0≤x4∧(∃ e1,x[x4.toNat]?=some e1∧(∃ v2_0,Zc2 o.Hash e1=some (I v2_0,[])∧(if v2_0<1 then (some (.tup [I kind,L 1 (e1.map ic),.t .nil],[])=some r) else (Zfs o x kind x1 x2 x3 (w (x4+1))=some r))))) else (Z6 o x1 (w (x2+1))=some r))) ∧
 (∀ o x kind x1 x2 x3 x4 r,Im (Zft o x kind x1 x2 x3 x4=some r) (if x4<x3 then (0≤x4∧(∃ e1,x[x4.toNat]?=some e1∧(∃ v2_0,Zc2 o.Merge e1=some (I v2_0,[])∧(if v2_0<1 then (some (.tup [I kind,L 1 (e1.map ic),.t .nil],[])=some r) else (Zft o x kind x1 x2 x3 (w (x4+1))=some r))))) else (Z6 o x1 (w (x2+1))=some r))) ∧
 (∀ o x kind x1 x2 x3 x4 r,Im (Zfu o x kind x1 x2 x3 x4=some r) (if x4<x3 then (0≤x4∧(∃ e1,x[x4.toNat]?=some e1∧(∃ v2_0,Zc2 o.Nested e1=some (I v2_0,[])∧(if v2_0<1 then (some (.tup [I kind,L 1 (e1.map ic),.t .nil],[])=some r) else (Zfu o x kind x1 x2 x3 (w (x4+1))=some r))))) else (Z6 o x1 (w (x2+1))=some r))) ∧
 (∀ a r,Im (Zig a=some r) (Zec a=some (.bsl 1 5,[.box (a.c.map .t),.box [.ptr 0 0,.ptr 0 6,.ptr 0 12,.ptr 0 18,.ptr 0 24]])∧(Z6 a 5 0=some r))) ∧
 (∀ a r,Im (Zih a=some r) ((∃ (v1_0:List Int),∃ v1_1,∃ (v1_2:List Int),Zig a=some (.tup [I v1_1,L 1 (v1_2.map ic),.own 0],[.arr 3 1 true (v1_0.map ic)])∧(some (Bo (decide (v1_1=0)),[])=some r))∨(∃ v2_0,Zig a=some (.tup [I v2_0,.t .nil,.t .nil],[])∧(some (Bo (decide (v2_0=0)),[])=some r))∨(∃ v3_0,∃ (v3_1:List Int),Zig a=some (.tup [I v3_0,L 1 (v3_1.map ic),.t .nil],[])∧(some (Bo (decide (v3_0=0)),[])=some r)))) ∧
 (∀ a a1 a2 r,Im (Zk3 a a1 a2=some r) (∃ v1_0,Zgn a1 a2=some (Bo v1_0,[])∧(if v1_0=true then (∃ v2_0,Zcc a2=some (I v2_0,[])∧(∃ v3_0,Zgq a2 v2_0=some (Bo v3_0,[])∧(if v3_0=true then (∃ v4_0,Zih a=some (Bo v4_0,[])∧(some (Bo v4_0,[])=some r)) else (some (Bo false,[])=some r)))) else (some (Bo false,[])=some r)))) ∧
 (∀ q out mask r,Im (Zii q out mask=some r) (∃ v1_0,Zcc q=some (I v1_0,[])∧(if mask≤v1_0 then (∃ v2_0,Zev q mask=some (Bo v2_0,[])∧(if v2_0=true then (out.length+1≤68719476736∧(Zii q (out++[mask]) (w (mask+1))=some r)) else (Zii q out (w (mask+1))=some r))) else (some (.own 0,[.arr 3 1 true (out.map ic)])=some r)))) ∧
 (∀ a r,Im (Zgu a=some r) (Zii a ([]:List Int) 1=some r)) ∧
 (∀ out row x x1 x2 r,Im (Zk4 out row x x1 x2=some r) (if x2<x1 then (0≤x2∧(∃ e1,x[x2.toNat]?=some e1∧(∃ v2_0,Zy e1 0 (w ((row.length:Int) - 1))=some (Bo v2_0,[])∧(if v2_0=true then (0≤e1∧(∃ e3,row[e1.toNat]?=some e3∧(out.length+1≤68719476736∧(Zk4 (out++[e3]) row x x1 (w (x2+1))=some r)))) else (some (.tup [.t .nil,Bo false],[])=some r))))) else (some (.tup [.own 0,Bo true],[.arr 3 1 true (out.map ic)])=some r))) ∧
 (∀ a a1 r,Im (Zfv a a1=some r) (Zk4 ([]:List Int) a a1 (a1.length:Int) 0=some r)):=by
 and_intros
 all_goals intros
 all_goals unfold Im
 all_goals try simp only [Zfq,Zfr,Zfs,Zft,Zfu,Zig,Zih,Zk3,Zii,Zgu,Zk4,Zfv,Zc2,Zj.c_def,Zec,Zd.c_def,Zgn,Zcc,Zgq,Zi.c_def,Zc.c_def,Zev,Zy,Z6,mpl,dfs]
 all_goals try simp only [itb]
 all_goals try simp only [itf,gS,kk]
 all_goals repeat' first | refine exI fun _=>?_ | refine anJ fun _ _=>?_ | refine anI fun _=>?_ | refine orE2 ?_ ?_ | exact False.elim
 all_goals (intro h;first | rw [EvL_eq Zgs.eq_1] | refine run Zbc2 rfl ?_ | refine run Zbc3 rfl ?_ | refine run Zbc4 rfl ?_ | rw [EvL_eq Zsq.eq_1] | refine run Zbc5 rfl ?_ | rw [EvL_eq Zst.eq_1] | refine run Zbc6 rfl ?_)
 all_goals (refine Eq.trans ?_ h;clear h;simp +decide [*,kk,tI,tII,Zgt,Zz1,Zz2,Zz3,Zz4,Zsr,Zz5,Zsu,Zz6])
abbrev Z3z:=Zdb.1
abbrev Z30:=Zdb.2.1
abbrev Z31:=Zdb.2.2.1
abbrev Z32:=Zdb.2.2.2.1
abbrev Z33:=Zdb.2.2.2.2.1
abbrev Zbgl:=Zdb.2.2.2.2.2.1
abbrev Zbgm:=Zdb.2.2.2.2.2.2.1
abbrev Zbgn:=Zdb.2.2.2.2.2.2.2.1
abbrev Z34:=Zdb.2.2.2.2.2.2.2.2.1
abbrev Zbgo:=Zdb.2.2.2.2.2.2.2.2.2.1
abbrev Z35:=Zdb.2.2.2.2.2.2.2.2.2.2.1
abbrev Zbgp:=Zdb.2.2.2.2.2.2.2.2.2.2.2
theorem Zp2:(∀ out x x1 r,Im (Zsw out x x1=some r) (if x1<x then False else (some (.own 0,[.arr 30 1 true (out.map isc)])=some r))) ∧
 (∀ r,Im (Zsv=some r) (Zsw ([]:List (List Int)) 0 0=some r)) ∧
 (∀ r,Im (Zk5=some r) (∃ (v1_0:List (List Int)),Zsv=some (.own 0,[.arr 30 1 true (v1_0.map isc)])∧(∃ (v2_0:List (List Int)),Zsx v1_0=some (.tup [],[.arr 30 1 true (v2_0.map isc)])∧(∃ (v3_0:List (List Int)),Zsy v2_0=some (.own 1,[.dead,.arr 30 1 true (v3_0.map isc)])∧(some (.own 0,[.arr 30 1 true (v3_0.map isc)])=some r))))) ∧
 (∀ a r,Im (Zk6 a=some r) (∃ (v1_0:List (List Int)),Zh8 a=some (.own 0,[.arr 30 1 true (v1_0.map isc)])∧(∃ (v2_0:List (List Int)),Zsx v1_0=some (.tup [],[.arr 30 1 true (v2_0.map isc)])∧(∃ (v3_0:List (List Int)),Zsy v2_0=some (.own 1,[.dead,.arr 30 1 true (v3_0.map isc)])∧(some (.own 0,[.arr 30 1 true (v3_0.map isc)])=some r))))):=by
 and_intros
 all_goals intros
 all_goals unfold Im
 all_goals try simp only [Zsw,Zsv,Zk5,Zk6,Zsx,Zsy,Zh8,mpl,dfs]
 all_goals try simp only [itb]
 all_goals try simp only [itf,gS,kk]
 all_goals repeat' first | refine exI fun _=>?_ | refine anJ fun _ _=>?_ | refine anI fun _=>?_ | refine orE2 ?_ ?_ | exact False.elim
 all_goals (intro h;first | rw [EvL_eq Zkw.eq_1] | refine run Z27 rfl ?_ | refine run Zbc7 rfl ?_)
 all_goals (refine Eq.trans ?_ h;clear h;simp +decide [*,kk,tI,tII,Zkx,Zr5,Zz7])
abbrev Zbgq:=Zp2.1
abbrev Zbgr:=Zp2.2.1
abbrev Zbgs:=Zp2.2.2.1
abbrev Zbgt:=Zp2.2.2.2
theorem Zdc:(∀ db vars x mask x1 x2 x3 r,Im (Zgx db vars x mask x1 x2 x3=some r) (if x3<x2 then (0≤x3∧(∃ e1,x1[x3.toNat]?=some e1∧(¬ x3<0∧(if (andI (shrI mask x3) 1)=0 then (Zgx db vars x mask x1 x2 (w (x3+1))=some r) else ((∃ v2_0 v2_1,Zfk db e1.Name=some (.tup [.agg [.t (.str v2_0),I v2_1,.t .nil],Bo false],[])∧(Zz9 db vars e1 v2_0 v2_1 ([]:List (List Int)) x mask x1 x2 x3 (x.length:Int) 0=some r))∨(∃ (v3_0:List (List Int)),∃ v3_1,∃ v3_2,Zfk db e1.Name=some (.tup [.agg [.t (.str v3_1),I v3_2,.own 0],Bo true],[.arr 30 1 true (v3_0.map isc)])∧(Zim db vars e1 v3_1 v3_2 v3_0 ([]:List (List Int)) x mask x1 x2 x3 (x.length:Int) 0=some r))))))) else (Zk7 vars x (x.length:Int) 0=some r))) ∧
 (∀ db vars a Name Arity x next x1 mask x2 x3 x4 x5 x6 r,Im (Zim db vars a Name Arity x next x1 mask x2 x3 x4 x5 x6=some r) (if x6<x5 then (0≤x6∧(∃ e1,x1[x6.toNat]?=some e1∧(Zgy db vars a Name Arity x next x1 mask e1 x2 x3 x4 x5 x6 (x.length:Int) 0=some r))) else (Zgx db vars next mask x2 x3 (w (x4+1))=some r))) ∧
 (∀ vars x x1 x2 r,Im (Zk7 vars x x1 x2=some r) (if x2<x1 then (0≤x2∧(∃ e1,x[x2.toNat]?=some e1∧((Zfv e1 vars=some (.tup [.t .nil,Bo false],[])∧(Zgz vars ([[]]) x x1 (w (x2+1))=some r))∨(∃ (v3_0:List Int),Zfv e1 vars=some (.tup [.own 0,Bo true],[.arr 3 1 true (v3_0.map ic)])∧(Zgz vars ([v3_0]) x x1 (w (x2+1))=some r))))) else (∃ (v4_0:List (List Int)),Zk5=some (.own 0,[.arr 30 1 true (v4_0.map isc)])∧(some (.agg [.own 0,.own 1],[.arr 3 1 true (vars.map ic),.arr 30 1 true (v4_0.map isc)])=some r)))) ∧
 (∀ db vars a Name Arity x next x1 mask values x2 x3 x4 x5 x6 x7 x8 r,Im (Zgy db vars a Name Arity x next x1 mask values x2 x3 x4 x5 x6 x7 x8=some r) (if x8<x7 then (0≤x8∧(∃ e1,x[x8.toNat]?=some e1∧(∃ (v2_0:List Int),Zfj values=some (.own 0,[.arr 3 1 true (v2_0.map ic)])∧(Zg0 db vars a Name Arity x next v2_0 x1 mask values e1 true x2 x3 x4 x5 x6 x7 x8 a.Vars (a.Vars.length:Int) 0=some r)))) else (Zim db vars a Name Arity x next x1 mask x2 x3 x4 x5 (w (x6+1))=some r))) ∧
 (∀ vars x x1 x2 x3 r,Im (Zgz vars x x1 x2 x3=some r) (if x3<x2 then (0≤x3∧(∃ e1,x1[x3.toNat]?=some e1∧((Zfv e1 vars=some (.tup [.t .nil,Bo false],[])∧(x.length+1≤68719476736∧(Zgz vars (x++[[]]) x1 x2 (w (x3+1))=some r)))∨(∃ (v3_0:List Int),Zfv e1 vars=some (.tup [.own 0,Bo true],[.arr 3 1 true (v3_0.map ic)])∧(x.length+1≤68719476736∧(Zgz vars (x++[v3_0]) x1 x2 (w (x3+1))=some r)))))) else (∃ (v4_0:List (List Int)),Zk6 x=some (.own 0,[.arr 30 1 true (v4_0.map isc)])∧(some (.agg [.own 0,.own 1],[.arr 3 1 true (vars.map ic),.arr 30 1 true (v4_0.map isc)])=some r)))) ∧
 (∀ db vars a Name Arity x next x1 x2 mask values row ok x3 x4 x5 x6 x7 x8 x9 x10 x11 x12 r,Im (Zg0 db vars a Name Arity x next x1 x2 mask values row ok x3 x4 x5 x6 x7 x8 x9 x10 x11 x12=some r) (if x12<x11 then (0≤x12∧(∃ e1,x10[x12.toNat]?=some e1∧(if ok=true then (0≤e1∧(∃ e2,x1[e1.toNat]?=some e2∧(if e2=(-1) then (∃ e3,row[x12.toNat]?=some e3∧(Zg0 db vars a Name Arity x next (x1.set e1.toNat e3) x2 mask values row true x3 x4 x5 x6 x7 x8 x9 x10 x11 (w (x12+1))=some r)) else (∃ e4,row[x12.toNat]?=some e4∧(Zg0 db vars a Name Arity x next (x1.set e1.toNat e4) x2 mask values row (decide (e2=e4)) x3 x4 x5 x6 x7 x8 x9 x10 x11 (w (x12+1))=some r))))) else (∃ e5,row[x12.toNat]?=some e5∧(0≤e1∧(∃ e6,x1[e1.toNat]?=some e6∧(Zg0 db vars a Name Arity x next (x1.set e1.toNat e5) x2 mask values row false x3 x4 x5 x6 x7 x8 x9 x10 x11 (w (x12+1))=some r))))))) else (if ok=true then (next.length+1≤68719476736∧(Zgy db vars a Name Arity x (next++[x1]) x2 mask values x3 x4 x5 x6 x7 x8 (w (x9+1))=some r)) else (Zgy db vars a Name Arity x next x2 mask values x3 x4 x5 x6 x7 x8 (w (x9+1))=some r)))) ∧
 (∀ a a1 a2 r,Im (Zor a a1 a2=some r) (∃ (v1_0:List Int),Zc1 a1 a2=some (.own 0,[.arr 3 1 true (v1_0.map ic)])∧(∃ (v2_0:List Int),Zss ([(-1)]) a1.Ze=some (.own 0,[.arr 3 1 true (v2_0.map ic)])∧(Zgx a v1_0 ([v2_0]) a2 a1.Atoms (a1.Atoms.length:Int) 0=some r)))) ∧
 (∀ db q out x x1 x2 r,Im (Zio db q out x x1 x2=some r) (if x2<x1 then (0≤x2∧(∃ e1,x[x2.toNat]?=some e1∧(∃ (v2_0:List Int) (v2_1:List (List Int)),Zor db q e1=some (.agg [.own 0,.own 1],[.arr 3 1 true (v2_0.map ic),.arr 30 1 true (v2_1.map isc)])∧(0≤e1∧(∃ e3,out[e1.toNat]?=some e3∧(Zio db q (out.set e1.toNat (v2_1.length:Int)) x x1 (w (x2+1))=some r)))))) else (some (.own 0,[.arr 3 1 true (out.map ic)])=some r))) ∧
 (∀ n c r,Im (Zot n c=some r) (∃ v1_0,Zed c=some (I v1_0,[])∧(if n≤v1_0 then (some (I c,[])=some r) else (Zot n (w (c+1))=some r)))) ∧
 (∀ a r,Im (Zos a=some r) (∃ v1_0,Zy a 0 4096=some (Bo v1_0,[])∧(if v1_0=true then (Zot a 0=some r) else (some (I (-1),[])=some r)))) ∧
 (∀ out x x1 x2 r,Im (Zk8 out x x1 x2=some r) (if x2<x1 then (0≤x2∧(∃ e1,x[x2.toNat]?=some e1∧(∃ v2_0,Zos e1=some (I v2_0,[])∧(out.length+1≤68719476736∧(Zk8 (out++[v2_0]) x x1 (w (x2+1))=some r))))) else (some (.own 0,[.arr 3 1 true (out.map ic)])=some r))) ∧
 (∀ a r,Im (Zou a=some r) (Zk8 ([]:List Int) a (a.length:Int) 0=some r)):=by
 and_intros
 all_goals intros
 all_goals unfold Im
 all_goals try simp only [Zgx,Zim,Zk7,Zgy,Zgz,Zg0,Zor,Zio,Zot,Zos,Zk8,Zou,Zfk,Zi.c_def,Zfv,Zk5,Zfj,Zk6,Zc1,Zss,Zc.c_def,Zed,Zy,Zz9,mpl,dfs]
 all_goals try simp only [itb]
 all_goals try simp only [itf,gS,kk]
 all_goals repeat' first | refine exI fun _=>?_ | refine anJ fun _ _=>?_ | refine anI fun _=>?_ | refine orE2 ?_ ?_ | exact False.elim
 all_goals (intro h;first | rw [EvL_eq Zgv.eq_1] | rw [EvL_eq Zij.eq_1] | rw [EvL_eq Zop.eq_1] | rw [EvL_eq Zon.eq_1] | rw [EvL_eq Zsz.eq_1] | refine run Zbc8 rfl ?_ | rw [EvL_eq Zs2.eq_1] | rw [EvL_eq Zs7.eq_1] | refine run Zbdb rfl ?_ | rw [EvL_eq Zs5.eq_1] | refine run Zbda rfl ?_)
 all_goals (refine Eq.trans ?_ h;clear h;simp +decide [*,kk,tI,tII,Zil,Zgw,Zik,Zoq,Zoo,Zs1,Zs0,Zz8,Zs3,Z0c,Zs6,Z0a])
abbrev Z36:=Zdc.1
abbrev Z37:=Zdc.2.1
abbrev Zbgu:=Zdc.2.2.1
abbrev Z38:=Zdc.2.2.2.1
abbrev Z39:=Zdc.2.2.2.2.1
abbrev Z4a:=Zdc.2.2.2.2.2.1
abbrev Zbgv:=Zdc.2.2.2.2.2.2.1
abbrev Z4b:=Zdc.2.2.2.2.2.2.2.1
abbrev Zf4:=Zdc.2.2.2.2.2.2.2.2.1
abbrev Zbgw:=Zdc.2.2.2.2.2.2.2.2.2.1
abbrev Z4c:=Zdc.2.2.2.2.2.2.2.2.2.2.1
abbrev Zbgx:=Zdc.2.2.2.2.2.2.2.2.2.2.2
theorem Zei:(∀ a a1 r,Im (Zk9 a a1=some r) ((Zin a a1=some (.t .nil,[])∧(∃ (v2_0:List Int),Z0b=some (.own 0,[.arr 3 1 true (v2_0.map ic)])∧(some (.own 0,[.arr 3 1 true (v2_0.map ic)])=some r)))∨(∃ (v3_0:List Int),Zin a a1=some (.own 0,[.arr 3 1 true (v3_0.map ic)])∧(∃ (v4_0:List Int),Zou v3_0=some (.own 0,[.arr 3 1 true (v4_0.map ic)])∧(some (.own 0,[.arr 3 1 true (v4_0.map ic)])=some r))))) ∧
 (∀ location x x1 x2 r,Im (Zla location x x1 x2=some r) (if x2<x1 then (0≤x2∧(∃ e1,x[x2.toNat]?=some e1∧(∃ v2_0,Zy e1 0 7=some (Bo v2_0,[])∧(if v2_0=true then (Zla location x x1 (w (x2+1))=some r) else (some (Bo false,[])=some r))))) else (some (Bo (decide ((location.length:Int)≤16)),[])=some r))) ∧
 (∀ a r,Im (Zov a=some r) (Zla a a (a.length:Int) 0=some r)) ∧
 (∀ out location x x1 x2 r,Im (Zg1 out location x x1 x2=some r) (if x2<x1 then (0≤x2∧(∃ e1,x[x2.toNat]?=some e1∧(∃ v2_0,Zed e1=some (I v2_0,[])∧(out.length+1≤68719476736∧(Zg1 (out++[v2_0]) location x x1 (w (x2+1))=some r))))) else (∃ v3_0,Zov location=some (Bo v3_0,[])∧(if v3_0=true then (some (.own 0,[.arr 3 1 true (out.map ic)])=some r) else (some (.t .nil,[])=some r))))) ∧
 (∀ a r,Im (Zip a=some r) (Zg1 ([]:List Int) a a (a.length:Int) 0=some r)) ∧
 (∀ q sizes x x1 x2 r,Im (Zlb q sizes x x1 x2=some r) (if x2<x1 then (0≤x2∧(∃ e1,x[x2.toNat]?=some e1∧(∃ v2_0,Zy e1 0 4096=some (Bo v2_0,[])∧(if v2_0=true then (Zlb q sizes x x1 (w (x2+1))=some r) else (some (Bo false,[])=some r))))) else (∃ v3_0,Zc0 q=some (Bo v3_0,[])∧(if v3_0=true then (∃ v4_0,Zcc q=some (I v4_0,[])∧(some (Bo (decide ((sizes.length:Int)=(w (v4_0+1)))),[])=some r)) else (some (Bo false,[])=some r))))) ∧
 (∀ a a1 r,Im (Zg2 a a1=some r) (Zlb a a1 a1 (a1.length:Int) 0=some r)) ∧
 (∀ out mask i r,Im (Zir out mask i=some r) (if i<4 then (¬ i<0∧(if (andI (shrI mask i) 1)=1 then (out.length+1≤68719476736∧(Zir (out++[i]) mask (w (i+1))=some r)) else (Zir out mask (w (i+1))=some r))) else (some (.own 0,[.arr 3 1 true (out.map ic)])=some r))) ∧
 (∀ a r,Im (Ziq a=some r) (∃ v1_0,Zy a 0 15=some (Bo v1_0,[])∧(if v1_0=true then (Zir ([]:List Int) a 0=some r) else (some (.t .nil,[])=some r)))) ∧
 (∀ a r,Im (Zlc a=some r) (some (.agg [.own 0],[.arr 194 3 true (([(⟨1,a,0⟩:Zb)]).map Zb.c)])=some r)):=by
 and_intros
 all_goals intros
 all_goals unfold Im
 all_goals try simp only [Zk9,Zla,Zov,Zg1,Zip,Zlb,Zg2,Zir,Ziq,Zlc,Zin,Z0b,Zou,Zi.c_def,Zc.c_def,Zy,Zed,Zc0,Zcc,mpl,dfs]
 all_goals try simp only [itb]
 all_goals try simp only [itf,gS,kk]
 all_goals repeat' first | refine exI fun _=>?_ | refine anJ fun _ _=>?_ | refine anI fun _=>?_ | refine orE2 ?_ ?_ | exact False.elim
 all_goals (intro h;first | refine run Zbdc rfl ?_ | rw [EvL_eq Zs8.eq_1] | refine run Zbdd rfl ?_ | rw [EvL_eq Zta.eq_1] | refine run Zbde rfl ?_ | rw [EvL_eq Ztc.eq_1] | refine run Zbdf rfl ?_ | rw [EvL_eq Zte.eq_1] | refine run Zbdg rfl ?_ | refine run Zbdh rfl ?_)
 all_goals (refine Eq.trans ?_ h;clear h;simp +decide [*,kk,tI,tII,Z0d,Zs9,Z0e,Ztb,Z0f,Ztd,Z0g,Z0h,Ztf,Z0i,Z0j])
abbrev Zbgy:=Zei.1
abbrev Z4d:=Zei.2.1
abbrev Zbgz:=Zei.2.2.1
abbrev Zwa:=Zei.2.2.2.1
abbrev Z4e:=Zei.2.2.2.2.1
abbrev Z4f:=Zei.2.2.2.2.2.1
abbrev Zbg0:=Zei.2.2.2.2.2.2.1
abbrev Z4g:=Zei.2.2.2.2.2.2.2.1
abbrev Zbg1:=Zei.2.2.2.2.2.2.2.2.1
abbrev Zbg2:=Zei.2.2.2.2.2.2.2.2.2
theorem Zbg3 (a:Zi) (a1:Zc) (r:AV×List Blk) (h:(∃ (v1_0:Bool),Zgn a a1=some (Bo v1_0,[])∧(if v1_0=true then (∃ (v2_0:Int),Zcc a1=some (I v2_0,[])∧(0≤(w (v2_0+1))∧((w (v2_0+1))≤(w (v2_0+1))∧((w (v2_0+1)).toNat*8≤room∧((w (v2_0+1))≤140737488355328∧(∃ (v3_0:List Int),Zgu a1=some (.own 0,[.arr 3 1 true (v3_0.map ic)])∧(Zio a a1 (List.replicate ((w (v2_0+1))).toNat 0) v3_0 (v3_0.length:Int) 0=some r))))))) else (some (.t .nil,[])=some r)))):Zin a a1=some r:=by
 unfold Zin
 refine run Zbc9 rfl ?_
 obtain ⟨v1_0,q1,h⟩:=h
 unfold Zgn at q1
 try simp at q1
 by_cases q2:v1_0=true
 ·rw [if_pos q2] at h
  obtain ⟨v2_0,q3,h⟩:=h
  unfold Zcc at q3
  try simp at q3
  obtain ⟨q4,h⟩:=h
  obtain ⟨q5,h⟩:=h
  obtain ⟨q6,h⟩:=h
  have zq6:=q6;try simp at zq6
  obtain ⟨q7,h⟩:=h
  obtain ⟨v3_0,q8,h⟩:=h
  unfold Zgu at q8
  try simp at q8
  refine Eq.trans ?_ h
  clear h
  simp +decide [*,Zs4,tI,tII,Zio]
 ·rw [if_neg q2] at h
  refine Eq.trans ?_ h
  clear h
  simp +decide [*,Zs4,tI,tII]
end Go.Proofs.YtgnfoghkbpkgjaaGreat
