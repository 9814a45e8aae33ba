/-
  Parts of the proofs for this seat: D2 T1 T2 T3 G1 G2 G3 G4.
-/
import Derived.Test.YtgnfoghkbpkgjaaGreatP8
set_option linter.unusedSimpArgs false
set_option linter.unusedVariables false
set_option maxRecDepth 100000
set_option maxHeartbeats 4000000
namespace Go.Proofs.YtgnfoghkbpkgjaaGreat
open Go.AM
def Ztp:MCode:=.we [.m 27 12,.m 28 3,.ll 29 28,.b 30 .lss 27 29] [2,3,4,5,9,10,11,12,30] 30 4 (.seq (.block 5 (.drw [.m 33 10,.m 34 33,.g 35 34 (.mov (.s 2)),.g 36 34 (.mov (.s 12)),.g 37 34 (.ia 1 35 36),.g 38 34 (.l 37),.g 39 34 (.fa 1 5),.g 40 34 (.l 39),.g 41 34 (.mov (.s 11)),.g 42 34 (.ia 1 40 41),.g 43 34 (.l 42),.g 44 34 (.b .neq 38 43),.g 45 34 (.mov (.s 44)),.h 46 45 (.mov (.s 3)),.h 47 45 (.mov (.s 12)),.h 48 45 (.ia 1 46 47),.h 49 45 (.l 48),.h 50 45 (.fa 2 4),.h 51 45 (.l 50),.h 52 45 (.mov (.s 9)),.h 53 45 (.ia 1 51 52),.h 54 45 (.l 53),.h 55 45 (.mov (.s 11)),.h 56 45 (.ia 1 54 55),.h 57 45 (.l 56),.h 58 45 (.b .eql 49 57),.g 59 34 (.pick (.s 45) (.q true) (.s 58)),.o 60 (.pick (.s 34) (.s 59) (.q false)),.m 10 60] [[],[0],[1],[1],[2,3,1],[4,1],[1],[6,1],[1],[7,8,1],[9,1],[5,10,1],[11,1,1],[12],[12],[13,14,12],[15,12],[12],[17,12],[12],[18,19,12],[20,12],[12],[21,22,12],[23,12],[16,24,12],[12,25,1],[1,26],[27,12,0,1,2,3,4,5,6,7,8,9,10,11,12,13,14,15,16,17,18,19,20,21,22,23,24,25,26,27]] [2,3,4,5,9,10,11,12])) (.reg [.m 31 12,.bk 32 .add 31 1,.m 12 32] [2,3,4,5,9,10,11,12]))
def Ztq:MCode:=.reg [.m 25 11,.bk 26 .add 25 1,.m 11 26] [2,3,4,5,9,10,11]
def Zoh:MCode:=.we [.m 20 11,.fa 21 1 5,.l 22 21,.ll 23 22,.b 24 .lss 20 23] [2,3,4,5,9,10,11,24] 24 2 (.seq (.block 3 (.r [.mk' 12 0] [2,3,4,5,9,10,11,12] (.block 4 (.loop [2,3,4,5,9,10,11,12] Ztp)))) Ztq)
def Zoi:MCode:=.r [.m 61 10] [2,3,4,5,9,61] (.cond (.s 61) (.r [.o 8 (.mov (.q true))] [8] .ret) .skip)
def Zoj:MCode:=.reg [.m 18 9,.bk 19 .add 18 1,.m 9 19] [2,3,4,5,9]
def Zle:MCode:=.we [.m 13 9,.fa 14 2 4,.l 15 14,.ll 16 15,.b 17 .lss 13 16] [2,3,4,5,9,17] 17 0 (.seq (.block 1 (.r [.o 10 (.mov (.q true))] [2,3,4,5,9,10] (.seq (.r [.mk' 11 0] [2,3,4,5,9,10,11] (.block 2 (.loop [2,3,4,5,9,10,11] Zoh))) Zoi))) Zoj)
def Zlf:MCode:=.r [.o 8 (.mov (.q false))] [8] .ret
def Zz9:MFun:=⟨4,62,[.tmp 8],.r [.bx 4 0,.bx 5 1,.o 8 (.mov (.q false))] [2,3,4,5] (.seq (.r [.mk' 9 0] [2,3,4,5,9] (.block 0 (.loop [2,3,4,5,9] Zle))) Zlf)⟩
noncomputable def Zok (a:Zh) (a1:Atom) (a2:List Int) (a3:List Int):Rs:=C 354 [.agg (a.c.map .t),.agg (a1.c.map .t),L 1 (a2.map ic),L 1 (a3.map ic)] []
noncomputable def Ziv (t:Zh) (a:Atom) (vars:List Int) (row:List Int) (i:Int):Rs:=EvL C [.blk 0,.seq Zlf,.fin 0 [.tmp 8]] [2,3,4,5,9] Zle ⟨[(2,L 1 (vars.map ic)),(3,L 1 (row.map ic)),(4,.ptr 0 0),(5,.ptr 1 0),(9,I i)],[[]],[.box (t.c.map .t),.box (a.c.map .t)]⟩
noncomputable def Ziw (t:Zh) (a:Atom) (vars:List Int) (row:List Int) (i:Int) (is:Bool) (k:Int):Rs:=EvL C [.blk 2,.seq Zoi,.blk 1,.seq Zoj,.loop [2,3,4,5,9] Zle,.blk 0,.seq Zlf,.fin 0 [.tmp 8]] [2,3,4,5,9,10,11] Zoh ⟨[(2,L 1 (vars.map ic)),(3,L 1 (row.map ic)),(4,.ptr 0 0),(5,.ptr 1 0),(9,I i),(10,Bo is),(11,I k)],[[]],[.box (t.c.map .t),.box (a.c.map .t)]⟩
noncomputable def Zg5 (t:Zh) (a:Atom) (vars:List Int) (row:List Int) (i:Int) (is:Bool) (k:Int) (j:Int):Rs:=EvL C [.blk 4,.blk 3,.seq Ztq,.loop [2,3,4,5,9,10,11] Zoh,.blk 2,.seq Zoi,.blk 1,.seq Zoj,.loop [2,3,4,5,9] Zle,.blk 0,.seq Zlf,.fin 0 [.tmp 8]] [2,3,4,5,9,10,11,12] Ztp ⟨[(2,L 1 (vars.map ic)),(3,L 1 (row.map ic)),(4,.ptr 0 0),(5,.ptr 1 0),(9,I i),(10,Bo is),(11,I k),(12,I j)],[[]],[.box (t.c.map .t),.box (a.c.map .t)]⟩
def Ztr:MCode:=.we [.m 12 9,.m 13 0,.ll 14 13,.b 15 .lss 12 14] [0,1,2,3,9,15] 15 0 (.seq (.block 1 (.seq (.drw [.m 18 0,.m 19 9,.ia 20 3 18 19,.ln 21 3 20,.m 22 1,.m 23 9,.ia 24 2 22 23,.ln 25 2 24,.m 26 2,.m 27 3,.cl 28 354 [21,25,26,27],.o 29 (.un .not (.s 28))] [[],[],[0,1],[2],[],[],[4,5],[6],[],[],[3,7,8,9],[10]] [0,1,2,3,9,29]) (.cond (.s 29) (.r [.o 30 (.bslice 30 1 0 [.lst 1 []] []),.m 8 30] [8] .ret) .skip))) (.reg [.m 16 9,.bk 17 .add 16 1,.m 9 17] [0,1,2,3,9]))
def Zts:MCode:=.we [.m 41 11,.bk 42 .leq 41 9] [0,1,2,3,10,11,42] 42 2 (.seq (.block 3 (.reg [.m 45 10,.m 46 0,.m 47 1,.m 48 2,.o 49 (.bslice 3 1 0 [.z] []),.m 50 3,.o 51 (.append 3 1 8 false (.s 49) (.s 50)),.m 52 11,.o 53 (.bslice 3 1 1 [.z] [(0,.s 52)]),.o 54 (.append 3 1 8 true (.s 51) (.s 53)),.o 55 (.icall 277 [.s 46,.s 47,.s 48,.s 54]),.o 56 (.append 30 1 24 false (.s 45) (.s 55)),.m 10 56] [0,1,2,3,10,11])) (.reg [.m 43 11,.bk 44 .add 43 1,.m 11 44] [0,1,2,3,10,11]))
def Ztt:MCode:=.r [.m 57 10,.m 8 57] [8] .ret
def Ztu:MCode:=.wc [.m 31 3,.ll 32 31,.m 33 2,.ll 34 33,.b 35 .eql 32 34] [0,1,2,3,35] 35 (.r [.o 36 (.bslice 3 1 0 [.z] []),.m 37 3,.o 38 (.append 3 1 8 false (.s 36) (.s 37)),.o 39 (.bslice 30 1 1 [.lst 1 []] [(0,.s 38)]),.m 8 39] [8] .ret) (.r [.o 40 (.bslice 30 1 0 [.lst 1 []] []),.m 10 40] [0,1,2,3,10] (.seq (.r [.mk' 11 0] [0,1,2,3,10,11] (.block 2 (.loop [0,1,2,3,10,11] Zts))) Ztt))
def Z0a:MFun:=⟨4,58,[.tmp 8],.r [.o 8 (.mov (.c (.t .nil)))] [0,1,2,3] (.seq (.r [.mk' 9 0] [0,1,2,3,9] (.block 0 (.loop [0,1,2,3,9] Ztr))) Ztu)⟩
noncomputable def Zg6 (x:List Zh) (fr:Bool) (x1:List Atom) (x2:List Int) (x3:List Int):Rs:=C 277 [.own 0,.own 1,.own 2,.own 3] [.arr 277 3 true (x.map Zh.c),.arr 264 2 fr (x1.map Atom.c),.arr 3 1 true (x2.map ic),.arr 3 1 true (x3.map ic)]
noncomputable def Zix (l:List Zh) (fr:Bool) (atoms:List Atom) (vars:List Int) (row:List Int) (i:Int):Rs:=EvL C [.blk 0,.seq Ztu,.fin 4 [.tmp 8]] [0,1,2,3,9] Ztr ⟨[(0,.own 0),(1,.own 1),(2,.own 2),(3,.own 3),(9,I i)],[[(0,.own 0),(1,.own 1),(2,.own 2),(3,.own 3)]],[.arr 277 3 true (l.map Zh.c),.arr 264 2 fr (atoms.map Atom.c),.arr 3 1 true (vars.map ic),.arr 3 1 true (row.map ic)]⟩
noncomputable def Ziy (l:List Zh) (fr:Bool) (atoms:List Atom) (vars:List Int) (row:List Int) (fr1:Bool) (out:List (List Int)) (v:Int):Rs:=EvL C [.blk 2,.seq Ztt,.fin 4 [.tmp 8]] [0,1,2,3,10,11] Zts ⟨[(0,.own 0),(1,.own 1),(2,.own 2),(3,.own 3),(10,.own 4),(11,I v)],[[(0,.own 0),(1,.own 1),(2,.own 2),(3,.own 3)]],[.arr 277 3 true (l.map Zh.c),.arr 264 2 fr (atoms.map Atom.c),.arr 3 1 true (vars.map ic),.arr 3 1 true (row.map ic),.arr 30 1 fr1 (out.map isc)]⟩
def Z0b:MCode:=.reg [.m 33 10,.bk 34 .add 33 1,.m 10 34] [2,3,4,6,8,9,10]
def Ztv:MCode:=.we [.m 28 10,.fa 29 1 4,.l 30 29,.ll 31 30,.b 32 .lss 28 31] [2,3,4,6,8,9,10,32] 32 0 (.seq (.block 1 (.r [.m 35 2,.m 36 10,.b 37 .shr 35 36,.bk 38 .and 37 1,.bk 39 .eql 38 1] [2,3,4,6,8,9,10,39] (.cond (.s 39) (.seq (.drw [.ln 41 1 3,.fa 42 1 4,.l 43 42,.m 44 10,.ia 45 2 43 44,.fa 46 0 45,.l 47 46,.cl 48 275 [41,47],.m 40 48,.o 49 (.ext (.s 40) 0),.o 50 (.ext (.s 40) 1),.o 11 (.alloc [.t (.str ⟨#[]⟩),.t .z,.t .nil]),.st 3 11 49,.m 12 50] [[],[],[1],[],[2,3],[4],[5],[0,6],[7],[8],[8],[],[11,9,7,0,1,2,3,4,5,6,7,8,9,11],[10,12,0,1,2,3,4,5,6,7,8,9,10,11,12]] [2,3,4,6,8,9,10,11]) (.r [.m 51 8,.ln 52 3 11,.o 53 (.bslice 277 3 1 [.str ⟨#[]⟩,.z,.lst 1 []] [(0,.s 52)]),.o 54 (.append 277 3 48 true (.s 51) (.s 53)),.m 8 54] [2,3,4,6,8,9,10] (.reg [.m 55 9,.fa 56 1 4,.l 57 56,.m 58 10,.ia 59 2 57 58,.ln 60 2 59,.o 61 (.bslice 264 2 1 [.str ⟨#[]⟩,.lst 1 []] [(0,.s 60)]),.o 62 (.append 264 2 40 true (.s 55) (.s 61)),.m 9 62] [2,3,4,6,8,9,10]))) .skip))) Z0b)
def Ztw:MCode:=.r [.ln 63 2 4,.m 64 2,.cl 65 276 [63,64],.m 13 65] [6,8,9,13] (.r [.m 66 13,.m 67 8,.m 68 9,.m 69 13,.o 70 (.bslice 3 1 0 [.z] []),.o 71 (.icall 277 [.s 67,.s 68,.s 69,.s 70]),.o 72 (.build [.t .nil,.t .nil] [(0,1,.s 66),(1,1,.s 71)]),.st 2 6 72,.o 7 (.mov (.q true))] [6,7] .ret)
def Z0c:MFun:=⟨3,73,[.cell 6 (some 2),.tmp 7],.r [.bx 3 0,.bx 4 1,.o 6 (.alloc [.t .nil,.t .nil]),.o 7 (.mov (.q false))] [2,3,4,6] (.wc [.ln 14 1 3,.ln 15 2 4,.cl 16 178 [14,15],.o 17 (.un .not (.s 16)),.m 18 17,.h 19 18 (.mov (.s 2)),.h 20 18 (.ln 2 4),.h 21 18 (.cl 81 [20]),.h 22 18 (.call 122 [.s 19,.c (.t (.int .i64 1)),.s 21]),.h 23 18 (.un .not (.s 22)),.o 24 (.pick (.s 18) (.q true) (.s 23))] [2,3,4,6,24] 24 (.r [.o 25 (.build [.t .nil,.t .nil] []),.st 2 6 25,.o 7 (.mov (.q false))] [6,7] .ret) (.r [.o 26 (.bslice 277 3 0 [.str ⟨#[]⟩,.z,.lst 1 []] []),.m 8 26] [2,3,4,6,8] (.r [.o 27 (.bslice 264 2 0 [.str ⟨#[]⟩,.lst 1 []] []),.m 9 27] [2,3,4,6,8,9] (.seq (.r [.mk' 10 0] [2,3,4,6,8,9,10] (.block 0 (.loop [2,3,4,6,8,9,10] Ztv))) Ztw))))⟩
noncomputable def Zg7 (a:Zi) (a1:Zc) (a2:Int):Rs:=C 166 [.agg (a.c.map .t),.agg (a1.c.map .t),I a2] []
noncomputable def Zg8 (d:Zi) (q:Zc) (l:List Zh) (fr:Bool) (atoms:List Atom) (mask:Int) (i:Int):Rs:=EvL C [.blk 0,.seq Ztw,.fin 0 [.cell 6 (some 2),.tmp 7]] [2,3,4,6,8,9,10] Ztv ⟨[(2,I mask),(3,.ptr 0 0),(4,.ptr 1 0),(6,.ptr 2 0),(8,.own 3),(9,.own 4),(10,I i)],[[]],[.box (d.c.map .t),.box (q.c.map .t),.box [.t .nil,.t .nil],.arr 277 3 true (l.map Zh.c),.arr 264 2 fr (atoms.map Atom.c)]⟩
def Z0d:MFun:=⟨3,21,[.tmp 6],.r [.bx 3 0,.bx 4 1,.mk' 6 0] [2,3,4] (.r [.ln 10 1 3,.ln 11 2 4,.m 12 2,.cl 13 166 [10,11,12],.m 9 13,.o 14 (.ext (.s 9) 0),.o 15 (.ext (.s 9) 1),.o 7 (.alloc [.t .nil,.t .nil]),.st 2 7 14,.m 8 15] [7,8] (.wc [.m 16 8,.o 17 (.un .not (.s 16))] [7,17] 17 (.r [.mk' 6 (-1)] [6] .ret) (.r [.fa 18 1 7,.l 19 18,.ll 20 19,.m 6 20] [6] .ret)))⟩
noncomputable def Zol (a:Zi) (a1:Zc) (a2:Int):Rs:=C 52 [.agg (a.c.map .t),.agg (a1.c.map .t),I a2] []
def Z0e:MCode:=.reg [.m 27 5,.m 28 7,.o 29 (.bslice 3 1 1 [.z] [(0,.s 28)]),.o 30 (.append 3 1 8 true (.s 27) (.s 29)),.m 5 30] [2,3,5,6]
def Ztx:MCode:=.we [.m 9 6,.ln 10 2 3,.cl 11 81 [10],.b 12 .leq 9 11,.m 13 12,.g 14 13 (.ln 1 2),.g 15 13 (.ln 2 3),.g 16 13 (.cl 178 [14,15]),.o 17 (.pick (.s 13) (.s 16) (.q false))] [2,3,5,6,17] 17 0 (.seq (.block 1 (.r [.mk' 7 0] [2,3,5,6,7] (.wc [.ln 20 2 3,.m 21 6,.cl 22 109 [20,21]] [2,3,5,6,7,22] 22 (.reg [.ln 23 1 2,.ln 24 2 3,.m 25 6,.cl 26 52 [23,24,25],.m 7 26] [2,3,5,6,7]) Z0e))) (.reg [.m 18 6,.bk 19 .add 18 1,.m 6 19] [2,3,5,6]))
def Zty:MCode:=.r [.m 31 5,.m 4 31] [4] .ret
def Z0f:MFun:=⟨2,32,[.tmp 4],.r [.bx 2 0,.bx 3 1,.o 4 (.mov (.c (.t .nil)))] [2,3] (.r [.o 8 (.bslice 3 1 0 [.z] []),.m 5 8] [2,3,5] (.seq (.r [.mk' 6 0] [2,3,5,6] (.block 0 (.loop [2,3,5,6] Ztx))) Zty))⟩
noncomputable def Zlg (a:Zi) (a1:Zc):Rs:=C 224 [.agg (a.c.map .t),.agg (a1.c.map .t)] []
noncomputable def Ziz (d:Zi) (q:Zc) (out:List Int) (m:Int):Rs:=EvL C [.blk 0,.seq Zty,.fin 0 [.tmp 4]] [2,3,5,6] Ztx ⟨[(2,.ptr 0 0),(3,.ptr 1 0),(5,.own 2),(6,I m)],[[]],[.box (d.c.map .t),.box (q.c.map .t),.arr 3 1 true (out.map ic)]⟩
def Ztz:MCode:=.we [.m 8 4,.m 9 0,.b 10 .lss 8 9] [0,3,4,10] 10 0 (.seq (.block 1 (.reg [.m 13 3,.bk 14 .mul 13 4,.o 15 (.mm true (.k 1) (.s 14)),.m 3 15] [0,3,4])) (.reg [.m 11 4,.bk 12 .add 11 1,.m 4 12] [0,3,4]))
def Zt0:MCode:=.r [.m 16 3,.m 2 16] [2] .ret
def Z0g:MFun:=⟨1,17,[.tmp 2],.r [.mk' 2 0] [0] (.wc [.m 5 0,.o 6 (.call 122 [.s 5,.c (.t .z),.c (.t (.int .i64 7))]),.o 7 (.un .not (.s 6))] [0,7] 7 (.r [.mk' 2 (-1)] [2] .ret) (.r [.mk' 3 0] [0,3] (.seq (.r [.mk' 4 0] [0,3,4] (.block 0 (.loop [0,3,4] Ztz))) Zt0)))⟩
noncomputable def Zer (a:Int):Rs:=C 208 [I a] []
noncomputable def Zi0 (k:Int) (n:Int) (i:Int):Rs:=EvL C [.blk 0,.seq Zt0,.fin 0 [.tmp 2]] [0,3,4] Ztz ⟨[(0,I k),(3,I n),(4,I i)],[[]],[]⟩
def Zt1:MCode:=.we [.m 6 3,.bk 7 .leq 6 7] [0,3,7] 7 0 (.seq (.block 1 (.r [.m 10 3,.cl 11 208 [10],.m 12 0,.b 13 .geq 11 12] [0,3,13] (.cond (.s 13) (.r [.m 14 3,.m 2 14] [2] .ret) .skip))) (.reg [.m 8 3,.bk 9 .add 8 1,.m 3 9] [0,3]))
def Zt2:MCode:=.r [.mk' 2 (-1)] [2] .ret
def Z0h:MFun:=⟨1,15,[.tmp 2],.r [.mk' 2 0] [0] (.wc [.m 4 0,.bk 5 .lss 4 0] [0,5] 5 (.r [.mk' 2 (-1)] [2] .ret) (.seq (.r [.mk' 3 0] [0,3] (.block 0 (.loop [0,3] Zt1))) Zt2))⟩
noncomputable def Zom (a:Int):Rs:=C 152 [I a] []
noncomputable def Zon (n:Int) (k:Int):Rs:=EvL C [.blk 0,.seq Zt2,.fin 0 [.tmp 2]] [0,3] Zt1 ⟨[(0,I n),(3,I k)],[[]],[]⟩
def Zt3:MCode:=.we [.m 12 7,.m 13 6,.ll 14 13,.b 15 .lss 12 14] [5,6,7,15] 15 0 (.seq (.block 1 (.reg [.m 18 5,.m 19 6,.m 20 7,.ia 21 1 19 20,.l 22 21,.cl 23 152 [22],.o 24 (.bslice 3 1 1 [.z] [(0,.s 23)]),.o 25 (.append 3 1 8 true (.s 18) (.s 24)),.m 5 25] [5,6,7])) (.reg [.m 16 7,.bk 17 .add 16 1,.m 7 17] [5,6,7]))
def Zt4:MCode:=.r [.m 26 5,.m 4 26] [4] .ret
def Z0i:MFun:=⟨2,27,[.tmp 4],.r [.bx 2 0,.bx 3 1,.o 4 (.mov (.c (.t .nil)))] [2,3] (.r [.o 8 (.bslice 3 1 0 [.z] []),.m 5 8] [2,3,5] (.r [.ln 9 1 2,.ln 10 2 3,.cl 11 224 [9,10],.m 6 11] [5,6] (.seq (.r [.mk' 7 0] [5,6,7] (.block 0 (.loop [5,6,7] Zt3))) Zt4)))⟩
noncomputable def Zlh (a:Zi) (a1:Zc):Rs:=C 108 [.agg (a.c.map .t),.agg (a1.c.map .t)] []
noncomputable def Zli (out:List Int) (l:List Int) (i:Int):Rs:=EvL C [.blk 0,.seq Zt4,.fin 0 [.tmp 4]] [5,6,7] Zt3 ⟨[(5,.own 0),(6,.own 1),(7,I i)],[[]],[.arr 3 1 true (out.map ic),.arr 3 1 true (l.map ic)]⟩
def Zt5:MCode:=.we [.m 4 3,.m 5 0,.ll 6 5,.b 7 .lss 4 6] [0,3,7] 7 0 (.seq (.block 1 (.r [.m 10 0,.m 11 3,.ia 12 1 10 11,.l 13 12,.o 14 (.call 122 [.s 13,.c (.t .z),.c (.t (.int .i64 7))]),.o 15 (.un .not (.s 14))] [0,3,15] (.cond (.s 15) (.r [.o 2 (.mov (.q false))] [2] .ret) .skip))) (.reg [.m 8 3,.bk 9 .add 8 1,.m 3 9] [0,3]))
def Zt6:MCode:=.r [.m 16 0,.ll 17 16,.bk 18 .leq 17 16,.m 2 18] [2] .ret
def Z0j:MFun:=⟨1,19,[.tmp 2],.r [.o 2 (.mov (.q false))] [0] (.seq (.r [.mk' 3 0] [0,3] (.block 0 (.loop [0,3] Zt5))) Zt6)⟩
noncomputable def Zoo (a:List Int):Rs:=C 207 [L 1 (a.map ic)] []
noncomputable def Zlj (l:List Int) (i:Int):Rs:=EvL C [.blk 0,.seq Zt6,.fin 0 [.tmp 2]] [0,3] Zt5 ⟨[(0,L 1 (l.map ic)),(3,I i)],[[]],[]⟩
def Zt7:MCode:=.we [.m 6 4,.m 7 0,.ll 8 7,.b 9 .lss 6 8,.m 10 9,.g 11 10 (.mov (.s 0)),.g 12 10 (.cl 207 [11]),.o 13 (.pick (.s 10) (.s 12) (.q false))] [0,3,4,13] 13 0 (.seq (.block 1 (.reg [.m 16 3,.m 17 0,.m 18 4,.ia 19 1 17 18,.l 20 19,.cl 21 208 [20],.o 22 (.bslice 3 1 1 [.z] [(0,.s 21)]),.o 23 (.append 3 1 8 true (.s 16) (.s 22)),.m 3 23] [0,3,4])) (.reg [.m 14 4,.bk 15 .add 14 1,.m 4 15] [0,3,4]))
def Zt8:MCode:=.r [.m 24 3,.m 2 24] [2] .ret
def Z0k:MFun:=⟨1,25,[.tmp 2],.r [.o 2 (.mov (.c (.t .nil)))] [0] (.r [.o 5 (.bslice 3 1 0 [.z] []),.m 3 5] [0,3] (.seq (.r [.mk' 4 0] [0,3,4] (.block 0 (.loop [0,3,4] Zt7))) Zt8))⟩
noncomputable def Zlk (a:List Int):Rs:=C 87 [L 1 (a.map ic)] []
noncomputable def Zi1 (out:List Int) (l:List Int) (i:Int):Rs:=EvL C [.blk 0,.seq Zt8,.fin 0 [.tmp 2]] [0,3,4] Zt7 ⟨[(0,L 1 (l.map ic)),(3,.own 0),(4,I i)],[[]],[.arr 3 1 true (out.map ic)]⟩
def Z0l:MFun:=⟨2,24,[.cell 4 (some 6)],.r [.bx 2 0,.o 4 (.alloc [.t .z,.t .z,.t .z,.t .z,.t .z,.t .nil])] [1,2,4] (.seq (.r [.m 5 1] [2,4,5] (.block 0 (.r [.bk 7 .eql 5 1,.m 6 7] [2,4,5,6] (.cond (.s 6) (.r [.fa 8 0 2,.ln 9 6 8,.st 6 4 9] [4] .ret) (.r [.bk 11 .eql 5 2,.m 10 11] [2,4,5,10] (.cond (.s 10) (.r [.fa 12 6 2,.ln 13 6 12,.st 6 4 13] [4] .ret) (.r [.bk 15 .eql 5 3,.m 14 15] [2,4,5,14] (.cond (.s 14) (.r [.fa 16 12 2,.ln 17 6 16,.st 6 4 17] [4] .ret) (.r [.bk 19 .eql 5 4,.m 18 19] [2,4,18] (.cond (.s 18) (.r [.fa 20 18 2,.ln 21 6 20,.st 6 4 21] [4] .ret) .skip)))))))))) (.r [.fa 22 24 2,.ln 23 6 22,.st 6 4 23] [4] .ret))⟩
noncomputable def Zdt (a:Zd) (a1:Int):Rs:=C 164 [.agg (a.c.map .t),I a1] []
def Z0m:MFun:=⟨1,5,[.tmp 2],.r [.o 2 (.mov (.q false))] [0] (.r [.m 3 0,.o 4 (.call 122 [.s 3,.c (.t (.int .i64 (-99))),.c (.t (.int .i64 99))]),.m 2 4] [2] .ret)⟩
noncomputable def Zes (a:Int):Rs:=C 350 [I a] []
def Zt9:MCode:=.we [.m 38 3,.fa 39 5 1,.l 40 39,.ll 41 40,.b 42 .lss 38 41] [1,3,42] 42 0 (.seq (.block 1 (.seq (.drw [.fa 45 5 1,.l 46 45,.m 47 3,.ia 48 2 46 47,.fa 49 0 48,.l 50 49,.o 51 (.call 122 [.s 50,.c (.t (.int .i64 1)),.c (.t (.int .i64 8192))]),.o 52 (.un .not (.s 51)),.m 53 52,.h 54 53 (.fa 5 1),.h 55 53 (.l 54),.h 56 53 (.mov (.s 3)),.h 57 53 (.ia 2 55 56),.h 58 53 (.fa 1 57),.h 59 53 (.l 58),.h 60 53 (.cl 350 [59]),.h 61 53 (.un .not (.s 60)),.o 62 (.pick (.s 53) (.q true) (.s 61)),.m 63 62,.h 64 63 (.mov (.s 3)),.h 65 63 (.bk .gtr 64 0),.h 66 63 (.mov (.s 65)),.g 67 66 (.fa 5 1),.g 68 66 (.l 67),.g 69 66 (.mov (.s 3)),.g 70 66 (.bk .sub 69 1),.g 71 66 (.ia 2 68 70),.g 72 66 (.fa 0 71),.g 73 66 (.l 72),.g 74 66 (.fa 5 1),.g 75 66 (.l 74),.g 76 66 (.mov (.s 3)),.g 77 66 (.ia 2 75 76),.g 78 66 (.fa 0 77),.g 79 66 (.l 78),.g 80 66 (.b .geq 73 79),.h 81 63 (.pick (.s 66) (.s 80) (.q false)),.o 82 (.pick (.s 63) (.q true) (.s 81))] [[],[0],[],[1,2],[3],[4],[5],[6],[7,6],[8],[9,8],[8],[10,11,8],[12,8],[13,8],[14,8,8],[15,8],[8,16],[17,15],[18],[19,18],[20,18,18],[21],[22,21],[21],[24,21],[23,25,21],[26,21],[27,21],[21],[29,21],[21],[30,31,21],[32,21],[33,21],[28,34,21],[21,35,18],[18,36]] [1,3,82]) (.cond (.s 82) (.r [.o 2 (.mov (.q false))] [2] .ret) .skip))) (.reg [.m 43 3,.bk 44 .add 43 1,.m 3 44] [1,3]))
def Zua:MCode:=.r [.o 2 (.mov (.q true))] [2] .ret
def Z0n:MFun:=⟨1,83,[.tmp 2],.r [.bx 1 0,.o 2 (.mov (.q false))] [1] (.wc [.fa 4 0 1,.l 5 4,.cl 6 350 [5],.o 7 (.un .not (.s 6)),.m 8 7,.h 9 8 (.fa 1 1),.h 10 8 (.l 9),.h 11 8 (.cl 350 [10]),.h 12 8 (.un .not (.s 11)),.o 13 (.pick (.s 8) (.q true) (.s 12)),.m 14 13,.h 15 14 (.fa 2 1),.h 16 14 (.l 15),.h 17 14 (.cl 350 [16]),.h 18 14 (.un .not (.s 17)),.o 19 (.pick (.s 14) (.q true) (.s 18)),.m 20 19,.h 21 20 (.fa 3 1),.h 22 20 (.l 21),.h 23 20 (.cl 350 [22]),.h 24 20 (.un .not (.s 23)),.o 25 (.pick (.s 20) (.q true) (.s 24)),.m 26 25,.h 27 26 (.fa 4 1),.h 28 26 (.l 27),.h 29 26 (.cl 350 [28]),.h 30 26 (.un .not (.s 29)),.o 31 (.pick (.s 26) (.q true) (.s 30)),.m 32 31,.h 33 32 (.fa 5 1),.h 34 32 (.l 33),.h 35 32 (.ll 34),.h 36 32 (.bk .gtr 35 4),.o 37 (.pick (.s 32) (.q true) (.s 36))] [1,37] 37 (.r [.o 2 (.mov (.q false))] [2] .ret) (.seq (.r [.mk' 3 0] [1,3] (.block 0 (.loop [1,3] Zt9))) Zua))⟩
noncomputable def Zfn (a:Zj):Rs:=C 274 [.agg (a.c.map .t)] []
noncomputable def Zg9 (o:Zj) (i:Int):Rs:=EvL C [.blk 0,.seq Zua,.fin 0 [.tmp 2]] [1,3] Zt9 ⟨[(1,.ptr 0 0),(3,I i)],[[]],[.box (o.c.map .t)]⟩
def Z0o:MCode:=.reg [.m 58 10,.bk 59 .add 58 1,.m 10 59] [1,2,4,9,10]
def Zub:MCode:=.we [.m 53 10,.fa 54 5 4,.l 55 54,.ll 56 55,.b 57 .lss 53 56] [1,2,4,9,10,57] 57 0 (.seq (.block 1 (.r [.m 60 1,.m 61 2,.b 62 .add 60 61,.fa 63 5 4,.l 64 63,.m 65 10,.ia 66 2 64 65,.fa 67 0 66,.l 68 67,.b 69 .geq 62 68] [1,2,4,9,10,69] (.cond (.s 69) (.reg [.m 70 9,.fa 71 5 4,.l 72 71,.m 73 10,.ia 74 2 72 73,.fa 75 1 74,.l 76 75,.b 77 .add 70 76,.m 9 77] [1,2,4,9,10]) .skip))) Z0o)
def Zuc:MCode:=.r [.m 78 9,.m 8 78] [8] .ret
def Z0p:MFun:=⟨4,79,[.tmp 8],.r [.bx 4 0,.mk' 8 0] [1,2,3,4] (.wc [.ln 11 6 4,.cl 12 274 [11],.o 13 (.un .not (.s 12)),.m 14 13,.h 15 14 (.mov (.s 1)),.h 16 14 (.call 122 [.s 15,.c (.t .z),.c (.t (.int .i64 4096))]),.h 17 14 (.un .not (.s 16)),.o 18 (.pick (.s 14) (.q true) (.s 17)),.m 19 18,.h 20 19 (.mov (.s 2)),.h 21 19 (.call 122 [.s 20,.c (.t .z),.c (.t (.int .i64 4096))]),.h 22 19 (.un .not (.s 21)),.o 23 (.pick (.s 19) (.q true) (.s 22)),.m 24 23,.h 25 24 (.mov (.s 3)),.h 26 24 (.call 122 [.s 25,.c (.t .z),.c (.t (.int .i64 4096))]),.h 27 24 (.un .not (.s 26)),.o 28 (.pick (.s 24) (.q true) (.s 27))] [1,2,3,4,28] 28 (.r [.mk' 8 0] [8] .ret) (.r [.fa 29 0 4,.l 30 29,.fa 31 1 4,.l 32 31,.m 33 1,.b 34 .mul 32 33,.b 35 .add 30 34,.fa 36 2 4,.l 37 36,.m 38 2,.b 39 .mul 37 38,.b 40 .add 35 39,.fa 41 3 4,.l 42 41,.m 43 3,.b 44 .mul 42 43,.b 45 .add 40 44,.fa 46 4 4,.l 47 46,.m 48 1,.b 49 .mul 47 48,.m 50 2,.b 51 .mul 49 50,.b 52 .add 45 51,.m 9 52] [1,2,4,9] (.seq (.r [.mk' 10 0] [1,2,4,9,10] (.block 0 (.loop [1,2,4,9,10] Zub))) Zuc)))⟩
noncomputable def Zcr (a:Zj) (a1:Int) (a2:Int) (a3:Int):Rs:=C 163 [.agg (a.c.map .t),I a1,I a2,I a3] []
noncomputable def Zha (o:Zj) (l:Int) (r_1:Int) (n:Int) (i:Int):Rs:=EvL C [.blk 0,.seq Zuc,.fin 0 [.tmp 8]] [1,2,4,9,10] Zub ⟨[(1,I l),(2,I r_1),(4,.ptr 0 0),(9,I n),(10,I i)],[[]],[.box (o.c.map .t)]⟩
def Z0q:MFun:=⟨2,19,[.tmp 4],.r [.bx 2 0,.mk' 4 0] [1,2] (.seq (.drw [.ln 5 6 2,.m 6 1,.o 7 (.iaddr 1 (.s 6) (.k 0)),.l 8 7,.cl 9 208 [8],.m 10 1,.o 11 (.iaddr 1 (.s 10) (.k 1)),.l 12 11,.cl 13 208 [12],.m 14 1,.o 15 (.iaddr 1 (.s 14) (.k 2)),.l 16 15,.cl 17 208 [16],.cl 18 163 [5,9,13,17],.m 4 18] [[],[],[1],[2],[3],[],[5],[6],[7,4],[],[9],[10],[11,8],[0,4,8,12,12],[13,13,0,1,2,3,4,5,6,7,8,9,10,11,12,13]] [4]) .ret)⟩
noncomputable def Zhb (a:Zj) (a1:List Int):Rs:=C 397 [.agg (a.c.map .t),L 1 (a1.map ic)] []
def Zud:MCode:=.we [.m 32 9,.bk 33 .lss 32 3] [1,5,6,7,8,9,33] 33 6 (.seq (.block 7 (.r [.o 36 (.bslice 3 1 0 [.z] []),.m 37 8,.o 38 (.append 3 1 8 false (.s 36) (.s 37)),.m 10 38] [1,5,6,7,8,9,10] (.r [.m 39 10,.m 40 9,.m 41 10,.m 42 9,.ia 43 1 41 42,.l 44 43,.bk 45 .add 44 1,.ia 46 1 39 40,.st 1 46 45] [1,5,6,7,8,9,10] (.seq (.drw [.m 47 10,.m 48 9,.ia 49 1 47 48,.l 50 49,.bk 51 .leq 50 7,.m 52 51,.g 53 52 (.ln 6 1),.g 54 52 (.mov (.s 10)),.g 55 52 (.cl 397 [53,54]),.g 56 52 (.ln 6 1),.g 57 52 (.mov (.s 8)),.g 58 52 (.cl 397 [56,57]),.g 59 52 (.b .lss 55 58),.o 60 (.pick (.s 52) (.s 59) (.q false))] [[],[],[0,1],[2],[3],[4],[5],[5],[6,7,5,5],[5],[5],[9,10,8,5],[8,11,5],[5,12]] [1,5,6,7,8,9,10,60]) (.cond (.s 60) (.r [.m 61 8,.m 62 10,.m 2 61,.m 3 62,.o 4 (.mov (.q true))] [2,3,4] .ret) .skip))))) (.reg [.m 34 9,.bk 35 .add 34 1,.m 9 35] [1,5,6,7,8,9]))
def Zue:MCode:=.reg [.m 26 7,.bk 27 .add 26 1,.m 7 27] [1,5,6,7]
def Zop:MCode:=.we [.m 24 7,.bk 25 .leq 24 7] [1,5,6,7,25] 25 4 (.seq (.block 5 (.r [.m 28 5,.m 29 6,.m 30 7,.o 31 (.bslice 3 1 3 [.z] [(0,.s 28),(1,.s 29),(2,.s 30)]),.m 8 31] [1,5,6,7,8] (.r [.mk' 9 0] [1,5,6,7,8,9] (.block 6 (.loop [1,5,6,7,8,9] Zud))))) Zue)
def Zoq:MCode:=.reg [.m 22 6,.bk 23 .add 22 1,.m 6 23] [1,5,6]
def Zll:MCode:=.we [.m 20 6,.bk 21 .leq 20 7] [1,5,6,21] 21 2 (.seq (.block 3 (.r [.mk' 7 0] [1,5,6,7] (.block 4 (.loop [1,5,6,7] Zop)))) Zoq)
def Zlm:MCode:=.reg [.m 18 5,.bk 19 .add 18 1,.m 5 19] [1,5]
def Zi2:MCode:=.we [.m 16 5,.bk 17 .leq 16 7] [1,5,17] 17 0 (.seq (.block 1 (.r [.mk' 6 0] [1,5,6] (.block 2 (.loop [1,5,6] Zll)))) Zlm)
def Zi3:MCode:=.r [.o 63 (.bslice 3 1 0 [.z] []),.o 64 (.bslice 3 1 0 [.z] []),.m 2 63,.m 3 64,.o 4 (.mov (.q false))] [2,3,4] .ret
def Z0r:MFun:=⟨1,65,[.tmp 2,.tmp 3,.tmp 4],.r [.bx 1 0,.o 2 (.mov (.c (.t .nil))),.o 3 (.mov (.c (.t .nil))),.o 4 (.mov (.q false))] [1] (.wc [.ln 11 6 1,.cl 12 274 [11],.o 13 (.un .not (.s 12))] [1,13] 13 (.r [.o 14 (.bslice 3 1 0 [.z] []),.o 15 (.bslice 3 1 0 [.z] []),.m 2 14,.m 3 15,.o 4 (.mov (.q false))] [2,3,4] .ret) (.seq (.r [.mk' 5 0] [1,5] (.block 0 (.loop [1,5] Zi2))) Zi3))⟩
noncomputable def Zor (a:Zj):Rs:=C 341 [.agg (a.c.map .t)] []
noncomputable def Zhc (o:Zj) (a:Int):Rs:=EvL C [.blk 0,.seq Zi3,.fin 0 [.tmp 2,.tmp 3,.tmp 4]] [1,5] Zi2 ⟨[(1,.ptr 0 0),(5,I a)],[[]],[.box (o.c.map .t)]⟩
noncomputable def Zi4 (o:Zj) (a:Int) (b:Int):Rs:=EvL C [.blk 2,.blk 1,.seq Zlm,.loop [1,5] Zi2,.blk 0,.seq Zi3,.fin 0 [.tmp 2,.tmp 3,.tmp 4]] [1,5,6] Zll ⟨[(1,.ptr 0 0),(5,I a),(6,I b)],[[]],[.box (o.c.map .t)]⟩
noncomputable def Zi5 (o:Zj) (a:Int) (b:Int) (e:Int):Rs:=EvL C [.blk 4,.blk 3,.seq Zoq,.loop [1,5,6] Zll,.blk 2,.blk 1,.seq Zlm,.loop [1,5] Zi2,.blk 0,.seq Zi3,.fin 0 [.tmp 2,.tmp 3,.tmp 4]] [1,5,6,7] Zop ⟨[(1,.ptr 0 0),(5,I a),(6,I b),(7,I e)],[[]],[.box (o.c.map .t)]⟩
noncomputable def Zet (o:Zj) (x:List Int) (a:Int) (b:Int) (e:Int) (k:Int):Rs:=EvL C [.blk 6,.blk 5,.seq Zue,.loop [1,5,6,7] Zop,.blk 4,.blk 3,.seq Zoq,.loop [1,5,6] Zll,.blk 2,.blk 1,.seq Zlm,.loop [1,5] Zi2,.blk 0,.seq Zi3,.fin 0 [.tmp 2,.tmp 3,.tmp 4]] [1,5,6,7,8,9] Zud ⟨[(1,.ptr 0 0),(5,I a),(6,I b),(7,I e),(8,.own 1),(9,I k)],[[]],[.box (o.c.map .t),.arr 3 1 true (x.map ic)]⟩
def Zuf:MCode:=.we [.m 14 5,.bk 15 .leq 14 7] [1,3,4,5,15] 15 4 (.seq (.block 5 (.r [.ln 18 6 1,.m 19 3,.m 20 4,.m 21 5,.o 22 (.bslice 3 1 3 [.z] [(0,.s 19),(1,.s 20),(2,.s 21)]),.cl 23 397 [18,22],.bk 24 .lss 23 1] [1,3,4,5,24] (.cond (.s 24) (.r [.m 25 3,.m 26 4,.m 27 5,.o 28 (.bslice 3 1 3 [.z] [(0,.s 25),(1,.s 26),(2,.s 27)]),.m 2 28] [2] .ret) .skip))) (.reg [.m 16 5,.bk 17 .add 16 1,.m 5 17] [1,3,4,5]))
def Zug:MCode:=.reg [.m 12 4,.bk 13 .add 12 1,.m 4 13] [1,3,4]
def Zos:MCode:=.we [.m 10 4,.bk 11 .leq 10 7] [1,3,4,11] 11 2 (.seq (.block 3 (.r [.mk' 5 0] [1,3,4,5] (.block 4 (.loop [1,3,4,5] Zuf)))) Zug)
def Zot:MCode:=.reg [.m 8 3,.bk 9 .add 8 1,.m 3 9] [1,3]
def Zln:MCode:=.we [.m 6 3,.bk 7 .leq 6 7] [1,3,7] 7 0 (.seq (.block 1 (.r [.mk' 4 0] [1,3,4] (.block 2 (.loop [1,3,4] Zos)))) Zot)
def Zlo:MCode:=.r [.o 29 (.bslice 3 1 0 [.z] []),.m 2 29] [2] .ret
def Z0s:MFun:=⟨1,30,[.tmp 2],.r [.bx 1 0,.o 2 (.mov (.c (.t .nil)))] [1] (.seq (.r [.mk' 3 0] [1,3] (.block 0 (.loop [1,3] Zln))) Zlo)⟩
noncomputable def Zou (a:Zj):Rs:=C 342 [.agg (a.c.map .t)] []
noncomputable def Zi6 (o:Zj) (a:Int):Rs:=EvL C [.blk 0,.seq Zlo,.fin 0 [.tmp 2]] [1,3] Zln ⟨[(1,.ptr 0 0),(3,I a)],[[]],[.box (o.c.map .t)]⟩
noncomputable def Zi7 (o:Zj) (a:Int) (b:Int):Rs:=EvL C [.blk 2,.blk 1,.seq Zot,.loop [1,3] Zln,.blk 0,.seq Zlo,.fin 0 [.tmp 2]] [1,3,4] Zos ⟨[(1,.ptr 0 0),(3,I a),(4,I b)],[[]],[.box (o.c.map .t)]⟩
noncomputable def Zlp (o:Zj) (a:Int) (b:Int) (e:Int):Rs:=EvL C [.blk 4,.blk 3,.seq Zug,.loop [1,3,4] Zos,.blk 2,.blk 1,.seq Zot,.loop [1,3] Zln,.blk 0,.seq Zlo,.fin 0 [.tmp 2]] [1,3,4,5] Zuf ⟨[(1,.ptr 0 0),(3,I a),(4,I b),(5,I e)],[[]],[.box (o.c.map .t)]⟩
def Zuh:MCode:=.we [.m 11 5,.bk 12 .leq 11 5] [1,5,12] 12 0 (.seq (.block 1 (.r [.ln 15 30 1,.m 16 5,.cl 17 164 [15,16],.o 6 (.alloc [.t .z,.t .z,.t .z,.t .z,.t .z,.t .nil]),.st 6 6 17] [1,5,6] (.wc [.ln 18 6 6,.cl 19 274 [18],.o 20 (.un .not (.s 19))] [1,5,6,20] 20 (.r [.m 21 5,.o 22 (.bslice 3 1 0 [.z] []),.o 23 (.bslice 3 1 0 [.z] []),.m 2 21,.m 3 22,.m 4 23] [2,3,4] .ret) (.r [.ln 25 6 6,.cl 26 341 [25],.m 24 26,.o 27 (.ext (.s 24) 0),.o 28 (.ext (.s 24) 1),.o 29 (.ext (.s 24) 2),.m 7 27,.m 8 28,.m 9 29] [1,5,6,7,8,9] (.wc [.m 30 9] [1,5,6,7,8,30] 30 (.r [.m 31 5,.m 32 7,.m 33 8,.m 2 31,.m 3 32,.m 4 33] [2,3,4] .ret) (.r [.ln 34 6 6,.cl 35 342 [34],.m 10 35] [1,5,10] (.r [.m 36 10,.ll 37 36,.bk 38 .gtr 37 0] [1,5,10,38] (.cond (.s 38) (.r [.m 39 5,.m 40 10,.o 41 (.bslice 3 1 0 [.z] []),.m 2 39,.m 3 40,.m 4 41] [2,3,4] .ret) .skip)))))))) (.reg [.m 13 5,.bk 14 .add 13 1,.m 5 14] [1,5]))
def Zui:MCode:=.r [.o 42 (.bslice 3 1 0 [.z] []),.o 43 (.bslice 3 1 0 [.z] []),.mk' 2 0,.m 3 42,.m 4 43] [2,3,4] .ret
def Z0t:MFun:=⟨1,44,[.tmp 2,.tmp 3,.tmp 4],.r [.bx 1 0,.mk' 2 0,.o 3 (.mov (.c (.t .nil))),.o 4 (.mov (.c (.t .nil)))] [1] (.seq (.r [.mk' 5 1] [1,5] (.block 0 (.loop [1,5] Zuh))) Zui)⟩
noncomputable def Zuj (a:Zd):Rs:=C 268 [.agg (a.c.map .t)] []
noncomputable def Zi8 (m:Zd) (k:Int):Rs:=EvL C [.blk 0,.seq Zui,.fin 0 [.tmp 2,.tmp 3,.tmp 4]] [1,5] Zuh ⟨[(1,.ptr 0 0),(5,I k)],[[]],[.box (m.c.map .t)]⟩
def Z0u:MFun:=⟨1,14,[.tmp 2],.r [.bx 1 0,.o 2 (.mov (.q false))] [1] (.r [.ln 7 30 1,.cl 8 268 [7],.m 6 8,.o 9 (.ext (.s 6) 0),.o 10 (.ext (.s 6) 1),.o 11 (.ext (.s 6) 2),.m 3 9,.m 4 10,.m 5 11] [3] (.r [.m 12 3,.bk 13 .eql 12 0,.m 2 13] [2] .ret))⟩
noncomputable def Zlq (a:Zd):Rs:=C 145 [.agg (a.c.map .t)] []
def Zuk:MCode:=.we [.m 17 5,.m 18 1,.ll 19 18,.b 20 .lss 17 19] [1,5,20] 20 0 (.seq (.block 1 (.r [.m 23 1,.m 24 5,.ia 25 1 23 24,.l 26 25,.o 27 (.call 122 [.s 26,.c (.t .z),.c (.t (.int .i64 4096))]),.o 28 (.un .not (.s 27))] [1,5,28] (.cond (.s 28) (.r [.o 4 (.mov (.q false))] [4] .ret) .skip))) (.reg [.m 21 5,.bk 22 .add 21 1,.m 5 22] [1,5]))
def Zul:MCode:=.r [.o 4 (.mov (.q true))] [4] .ret
def Z0v:MFun:=⟨2,29,[.tmp 4],.r [.bx 2 0,.o 4 (.mov (.q false))] [1,2] (.wc [.ln 6 2 2,.cl 7 200 [6],.o 8 (.un .not (.s 7)),.m 9 8,.h 10 9 (.mov (.s 1)),.h 11 9 (.ll 10),.h 12 9 (.ln 2 2),.h 13 9 (.cl 81 [12]),.h 14 9 (.bk .add 13 1),.h 15 9 (.b .neq 11 14),.o 16 (.pick (.s 9) (.q true) (.s 15))] [1,16] 16 (.r [.o 4 (.mov (.q false))] [4] .ret) (.seq (.r [.mk' 5 0] [1,5] (.block 0 (.loop [1,5] Zuk))) Zul))⟩
noncomputable def Zlr (a:Zc) (a1:List Int):Rs:=C 371 [.agg (a.c.map .t),L 1 (a1.map ic)] []
noncomputable def Zls (sizes:List Int) (i:Int):Rs:=EvL C [.blk 0,.seq Zul,.fin 0 [.tmp 4]] [1,5] Zuk ⟨[(1,L 1 (sizes.map ic)),(5,I i)],[[]],[]⟩
def Z0w:MCode:=.reg [.m 12 5,.bk 13 .add 12 1,.m 5 13] [1,3,4,5]
def Zum:MCode:=.we [.m 9 5,.m 10 4,.b 11 .leq 9 10] [1,3,4,5,11] 11 0 (.seq (.block 1 (.r [.ln 14 2 1,.m 15 5,.cl 16 226 [14,15]] [1,3,4,5,16] (.cond (.s 16) (.reg [.m 17 3,.m 18 5,.o 19 (.bslice 3 1 1 [.z] [(0,.s 18)]),.o 20 (.append 3 1 8 true (.s 17) (.s 19)),.m 3 20] [1,3,4,5]) .skip))) Z0w)
def Zun:MCode:=.r [.m 21 3,.m 2 21] [2] .ret
def Z0x:MFun:=⟨1,22,[.tmp 2],.r [.bx 1 0,.o 2 (.mov (.c (.t .nil)))] [1] (.r [.o 6 (.bslice 3 1 0 [.z] []),.m 3 6] [1,3] (.r [.ln 7 2 1,.cl 8 81 [7],.m 4 8] [1,3,4] (.seq (.r [.mk' 5 1] [1,3,4,5] (.block 0 (.loop [1,3,4,5] Zum))) Zun)))⟩
noncomputable def Zov (a:Zc):Rs:=C 197 [.agg (a.c.map .t)] []
noncomputable def Zi9 (q:Zc) (out:List Int) (full:Int) (m:Int):Rs:=EvL C [.blk 0,.seq Zun,.fin 0 [.tmp 2]] [1,3,4,5] Zum ⟨[(1,.ptr 0 0),(3,.own 1),(4,I full),(5,I m)],[[]],[.box (q.c.map .t),.arr 3 1 true (out.map ic)]⟩
def Z0y:MCode:=.reg [.m 16 6,.bk 17 .add 16 1,.m 6 17] [1,2,5,6]
def Zuo:MCode:=.we [.m 13 6,.m 14 1,.b 15 .lss 13 14] [1,2,5,6,15] 15 0 (.seq (.block 1 (.r [.m 18 6,.m 19 1,.b 20 .and 18 19,.m 21 6,.b 22 .eql 20 21,.m 23 22,.g 24 23 (.ln 2 2),.g 25 23 (.mov (.s 6)),.g 26 23 (.cl 226 [24,25]),.o 27 (.pick (.s 23) (.s 26) (.q false)),.m 28 27,.g 29 28 (.ln 2 2),.g 30 28 (.mov (.s 1)),.g 31 28 (.mov (.s 6)),.g 32 28 (.b .sub 30 31),.g 33 28 (.cl 226 [29,32]),.o 34 (.pick (.s 28) (.s 33) (.q false))] [1,2,5,6,34] (.cond (.s 34) (.reg [.m 35 5,.m 36 6,.o 37 (.bslice 3 1 1 [.z] [(0,.s 36)]),.o 38 (.append 3 1 8 true (.s 35) (.s 37)),.m 5 38] [1,2,5,6]) .skip))) Z0y)
def Zup:MCode:=.r [.m 39 5,.m 4 39] [4] .ret
def Z0z:MFun:=⟨2,40,[.tmp 4],.r [.bx 2 0,.o 4 (.mov (.c (.t .nil)))] [1,2] (.r [.o 7 (.bslice 3 1 0 [.z] []),.m 5 7] [1,2,5] (.wc [.ln 8 2 2,.m 9 1,.cl 10 109 [8,9],.o 11 (.un .not (.s 10))] [1,2,5,11] 11 (.r [.m 12 5,.m 4 12] [4] .ret) (.seq (.r [.mk' 6 1] [1,2,5,6] (.block 0 (.loop [1,2,5,6] Zuo))) Zup)))⟩
noncomputable def Zow (a:Zc) (a1:Int):Rs:=C 198 [.agg (a.c.map .t),I a1] []
noncomputable def Zeu (q:Zc) (out:List Int) (mask:Int) (m:Int):Rs:=EvL C [.blk 0,.seq Zup,.fin 0 [.tmp 4]] [1,2,5,6] Zuo ⟨[(1,I mask),(2,.ptr 0 0),(5,.own 1),(6,I m)],[[]],[.box (q.c.map .t),.arr 3 1 true (out.map ic)]⟩
def Z00:MCode:=.reg [.m 22 10,.bk 23 .add 22 1,.m 10 23] [7,8,9,10]
def Zuq:MCode:=.we [.m 18 10,.m 19 8,.ll 20 19,.b 21 .lss 18 20] [7,8,9,10,21] 21 0 (.seq (.block 1 (.r [.m 24 9,.m 25 8,.m 26 10,.ia 27 1 25 26,.l 28 27,.cl 29 148 [24,28]] [7,8,9,10,29] (.cond (.s 29) (.reg [.m 30 7,.m 31 8,.m 32 10,.ia 33 1 31 32,.l 34 33,.o 35 (.bslice 3 1 1 [.z] [(0,.s 34)]),.o 36 (.append 3 1 8 true (.s 30) (.s 35)),.m 7 36] [7,8,9,10]) .skip))) Z00)
def Zur:MCode:=.r [.m 37 7,.m 6 37] [6] .ret
def Z01:MFun:=⟨3,38,[.tmp 6],.r [.bx 3 0,.o 6 (.mov (.c (.t .nil)))] [1,2,3] (.r [.o 11 (.bslice 3 1 0 [.z] []),.m 7 11] [1,2,3,7] (.r [.ln 12 2 3,.m 13 1,.cl 14 276 [12,13],.m 8 14] [2,3,7,8] (.r [.ln 15 2 3,.m 16 2,.cl 17 276 [15,16],.m 9 17] [7,8,9] (.seq (.r [.mk' 10 0] [7,8,9,10] (.block 0 (.loop [7,8,9,10] Zuq))) Zur))))⟩
noncomputable def Zja (a:Zc) (a1:Int) (a2:Int):Rs:=C 199 [.agg (a.c.map .t),I a1,I a2] []
noncomputable def Zjb (out:List Int) (x:List Int) (y:List Int) (i:Int):Rs:=EvL C [.blk 0,.seq Zur,.fin 0 [.tmp 6]] [7,8,9,10] Zuq ⟨[(7,.own 0),(8,.own 1),(9,.own 2),(10,I i)],[[]],[.arr 3 1 true (out.map ic),.arr 3 1 true (x.map ic),.arr 3 1 true (y.map ic)]⟩
def Zox:MCode:=.we [.m 28 7,.fa 29 1 6,.l 30 29,.ll 31 30,.b 32 .lss 28 31] [1,3,4,5,6,7,32] 32 2 (.seq (.block 3 (.drw [.fa 35 2 6,.l 36 35,.ln 37 2 1,.fa 38 1 6,.l 39 38,.m 40 7,.ia 41 1 39 40,.l 42 41,.m 43 4,.m 44 5,.ia 45 1 43 44,.l 46 45,.fa 47 1 6,.l 48 47,.m 49 7,.ia 50 1 48 49,.l 51 50,.b 52 .sub 46 51,.cl 53 199 [37,42,52],.o 54 (.bslice 30 1 1 [.lst 1 []] [(0,.s 53)]),.o 55 (.append 30 1 24 true (.s 36) (.s 54)),.fa 56 2 6,.st 1 56 55] [[],[0],[],[],[3],[],[4,5],[6],[],[],[8,9],[10],[],[12],[],[13,14],[15],[11,16],[2,7,17],[18],[1,19,18],[0,1,2,3,4,5,6,7,8,9,10,11,12,13,14,15,16,17,18,19,20],[21,20,20,0,1,2,3,4,5,6,7,8,9,10,11,12,13,14,15,16,17,18,19,20]] [1,3,4,5,6,7])) (.reg [.m 33 7,.bk 34 .add 33 1,.m 7 34] [1,3,4,5,6,7]))
def Zoy:MCode:=.reg [.m 57 3,.ln 58 3 6,.o 59 (.bslice 257 3 1 [.z,.lst 1 [],.lst 1 []] [(0,.s 58)]),.o 60 (.append 257 3 56 true (.s 57) (.s 59)),.m 3 60] [1,3,4,5]
def Zoz:MCode:=.reg [.m 15 5,.bk 16 .add 15 1,.m 5 16] [1,3,4,5]
def Zlt:MCode:=.we [.m 11 5,.m 12 4,.ll 13 12,.b 14 .lss 11 13] [1,3,4,5,14] 14 0 (.seq (.block 1 (.seq (.drw [.m 17 4,.m 18 5,.ia 19 1 17 18,.l 20 19,.ln 21 2 1,.m 22 4,.m 23 5,.ia 24 1 22 23,.l 25 24,.cl 26 198 [21,25],.o 27 (.build [.t .z,.t .nil,.t .nil] [(0,1,.s 20),(1,1,.s 26)]),.o 6 (.alloc [.t .z,.t .nil,.t .nil]),.st 3 6 27] [[],[],[0,1],[2],[],[],[],[5,6],[7],[4,8],[3,9],[],[11,10,9,0,1,2,3,4,5,6,7,8,9,10,11]] [1,3,4,5,6]) (.seq (.r [.mk' 7 0] [1,3,4,5,6,7] (.block 2 (.loop [1,3,4,5,6,7] Zox))) Zoy))) Zoz)
def Zlu:MCode:=.r [.m 61 3,.m 2 61] [2] .ret
def Z02:MFun:=⟨1,62,[.tmp 2],.r [.bx 1 0,.o 2 (.mov (.c (.t .nil)))] [1] (.r [.o 8 (.bslice 257 3 0 [.z,.lst 1 [],.lst 1 []] []),.m 3 8] [1,3] (.r [.ln 9 2 1,.cl 10 197 [9],.m 4 10] [1,3,4] (.seq (.r [.mk' 5 0] [1,3,4,5] (.block 0 (.loop [1,3,4,5] Zlt))) Zlu)))⟩
noncomputable def Zlv (a:Zc):Rs:=C 80 [.agg (a.c.map .t)] []
noncomputable def Zfo (q:Zc) (out:List Zw) (masks:List Int) (i:Int):Rs:=EvL C [.blk 0,.seq Zlu,.fin 0 [.tmp 2]] [1,3,4,5] Zlt ⟨[(1,.ptr 0 0),(3,.own 1),(4,.own 2),(5,I i)],[[]],[.box (q.c.map .t),.arr 257 3 true (out.map Zw.c),.arr 3 1 true (masks.map ic)]⟩
noncomputable def Zo0 (q:Zc) (out:List Zw) (masks:List Int) (mask:Int) (x:List Int) (i:Int) (k:Int):Rs:=EvL C [.blk 2,.seq Zoy,.blk 1,.seq Zoz,.loop [1,3,4,5] Zlt,.blk 0,.seq Zlu,.fin 0 [.tmp 2]] [1,3,4,5,6,7] Zox ⟨[(1,.ptr 0 0),(3,.own 1),(4,.own 2),(5,I i),(6,.ptr 3 0),(7,I k)],[[]],[.box (q.c.map .t),.arr 257 3 true (out.map Zw.c),.arr 3 1 true (masks.map ic),.box [I mask,.own 4,.t .nil],.arr 3 1 true (x.map ic)]⟩
noncomputable def Zlw (q:Zc) (out:List Zw) (masks:List Int) (mask:Int) (x:List Int) (x1:List (List Int)) (i:Int) (k:Int):Rs:=EvL C [.blk 2,.seq Zoy,.blk 1,.seq Zoz,.loop [1,3,4,5] Zlt,.blk 0,.seq Zlu,.fin 0 [.tmp 2]] [1,3,4,5,6,7] Zox ⟨[(1,.ptr 0 0),(3,.own 1),(4,.own 2),(5,I i),(6,.ptr 3 0),(7,I k)],[[]],[.box (q.c.map .t),.arr 257 3 true (out.map Zw.c),.arr 3 1 true (masks.map ic),.box [I mask,.own 4,.own 5],.arr 3 1 true (x.map ic),.arr 30 1 true (x1.map isc)]⟩
def Z03:MCode:=.reg [.m 12 4,.bk 13 .add 12 1,.m 4 13] [0,3,4]
def Zus:MCode:=.we [.m 6 4,.bk 7 .lss 6 4,.m 8 7,.g 9 8 (.mov (.s 0)),.g 10 8 (.call 122 [.s 9,.c (.t .z),.c (.t (.int .i64 15))]),.o 11 (.pick (.s 8) (.s 10) (.q false))] [0,3,4,11] 11 0 (.seq (.block 1 (.r [.m 14 0,.m 15 4,.b 16 .shr 14 15,.bk 17 .and 16 1,.bk 18 .eql 17 1] [0,3,4,18] (.cond (.s 18) (.reg [.m 19 3,.m 20 4,.o 21 (.bslice 3 1 1 [.z] [(0,.s 20)]),.o 22 (.append 3 1 8 true (.s 19) (.s 21)),.m 3 22] [0,3,4]) .skip))) Z03)
def Zut:MCode:=.r [.m 23 3,.m 2 23] [2] .ret
def Z04:MFun:=⟨1,24,[.tmp 2],.r [.o 2 (.mov (.c (.t .nil)))] [0] (.r [.o 5 (.bslice 3 1 0 [.z] []),.m 3 5] [0,3] (.seq (.r [.mk' 4 0] [0,3,4] (.block 0 (.loop [0,3,4] Zus))) Zut))⟩
noncomputable def Zlx (a:Int):Rs:=C 204 [I a] []
noncomputable def Zjc (out:List Int) (mask:Int) (i:Int):Rs:=EvL C [.blk 0,.seq Zut,.fin 0 [.tmp 2]] [0,3,4] Zus ⟨[(0,I mask),(3,.own 0),(4,I i)],[[]],[.arr 3 1 true (out.map ic)]⟩
def Z05:MFun:=⟨1,7,[.cell 2 (some 1)],.r [.o 2 (.alloc [.t .nil])] [0,2] (.r [.m 3 0,.o 4 (.build [.t .z,.t .z,.t .z] [(0,1,.c (.t (.int .i64 1))),(1,1,.s 3)]),.o 5 (.bslice 194 3 1 [.z,.z,.z] [(0,.s 4)]),.o 6 (.build [.t .nil] [(0,1,.s 5)]),.st 1 2 6] [2] .ret)⟩
noncomputable def Zly (a:Int):Rs:=C 205 [I a] []
def Z06:MCode:=.reg [.m 11 6,.bk 12 .add 11 1,.m 6 12] [0,1,5,6]
def Zuu:MCode:=.we [.m 7 6,.m 8 0,.ll 9 8,.b 10 .lss 7 9] [0,1,5,6,10] 10 0 (.seq (.block 1 (.seq (.drw [.m 13 0,.m 14 6,.ia 15 4 13 14,.fa 16 0 15,.l 17 16,.m 18 1,.b 19 .eql 17 18,.m 20 19,.g 21 20 (.mov (.s 5)),.g 22 20 (.bk .lss 21 0),.g 23 20 (.mov (.s 22)),.h 24 23 (.mov (.s 0)),.h 25 23 (.mov (.s 6)),.h 26 23 (.ia 4 24 25),.h 27 23 (.fa 2 26),.h 28 23 (.l 27),.h 29 23 (.mov (.s 0)),.h 30 23 (.mov (.s 5)),.h 31 23 (.ia 4 29 30),.h 32 23 (.fa 2 31),.h 33 23 (.l 32),.h 34 23 (.b .lss 28 33),.g 35 20 (.pick (.s 23) (.q true) (.s 34)),.o 36 (.pick (.s 20) (.s 35) (.q false))] [[],[],[0,1],[2],[3],[],[4,5],[6],[7],[8,7],[9,7,7],[10],[10],[11,12,10],[13,10],[14,10],[10],[10],[16,17,10],[18,10],[19,10],[15,20,10],[10,21,7],[7,22]] [0,1,5,6,36]) (.cond (.s 36) (.reg [.m 37 6,.m 5 37] [0,1,5,6]) .skip))) Z06)
def Zuv:MCode:=.r [.m 38 5,.m 4 38] [4] .ret
def Z07:MFun:=⟨2,39,[.tmp 4],.r [.mk' 4 0] [0,1] (.r [.mk' 5 (-1)] [0,1,5] (.seq (.r [.mk' 6 0] [0,1,5,6] (.block 0 (.loop [0,1,5,6] Zuu))) Zuv))⟩
noncomputable def Zfp (a:List Za) (a1:Int):Rs:=C 203 [L 4 (a.map Za.c),I a1] []
noncomputable def Zfq (l:List Za) (mask:Int) (best:Int) (i:Int):Rs:=EvL C [.blk 0,.seq Zuv,.fin 0 [.tmp 4]] [0,1,5,6] Zuu ⟨[(0,L 4 (l.map Za.c)),(1,I mask),(5,I best),(6,I i)],[[]],[]⟩
def Z08:MFun:=⟨4,30,[.cell 8 (some 1)],.r [.bx 4 0,.bx 5 1,.o 8 (.alloc [.t .nil])] [2,3,4,5,8] (.r [.o 10 (.bslice 194 3 0 [.z,.z,.z] []),.fa 11 0 4,.l 12 11,.o 13 (.append 194 3 24 false (.s 10) (.s 12)),.o 14 (.build [.t .nil] [(0,1,.s 13)]),.o 9 (.alloc [.t .nil]),.st 1 9 14] [2,3,5,8,9] (.r [.fa 15 0 9,.l 16 15,.fa 17 0 5,.l 18 17,.o 19 (.append 194 3 24 false (.s 16) (.s 18)),.fa 20 0 9,.st 1 20 19] [2,3,8,9] (.r [.fa 21 0 9,.l 22 21,.m 23 2,.m 24 3,.o 25 (.build [.t .z,.t .z,.t .z] [(0,1,.s 23),(2,1,.s 24)]),.o 26 (.bslice 194 3 1 [.z,.z,.z] [(0,.s 25)]),.o 27 (.append 194 3 24 true (.s 22) (.s 26)),.fa 28 0 9,.st 1 28 27] [8,9] (.r [.ln 29 1 9,.st 1 8 29] [8] .ret))))⟩
noncomputable def Zc2 (a:Plan) (a1:Plan) (a2:Int) (a3:Int):Rs:=C 362 [.agg (a.c.map .t),.agg (a1.c.map .t),I a2,I a3] []
def Zuw:MFun:=⟨8,81,[],.r [.bx 8 0,.bx 11 3,.bx 12 4] [1,2,5,6,7,8,11,12] (.seq (.drw [.fa 17 2 11,.l 18 17,.fa 19 2 12,.l 20 19,.b 21 .add 18 20,.ln 22 30 8,.m 23 5,.cl 24 164 [22,23],.m 25 1,.fa 26 0 11,.l 27 26,.ia 28 1 25 27,.l 29 28,.m 30 1,.fa 31 0 12,.l 32 31,.ia 33 1 30 32,.l 34 33,.m 35 1,.fa 36 0 11,.l 37 36,.fa 38 0 12,.l 39 38,.b 40 .or 37 39,.ia 41 1 35 40,.l 42 41,.cl 43 163 [24,29,34,42],.b 44 .add 21 43,.m 16 44] [[],[0],[],[2],[1,3],[],[],[5,6],[],[],[9],[8,10],[11],[],[],[14],[13,15],[16],[],[],[19],[],[21],[20,22],[18,23],[24],[7,12,17,25,7],[4,26],[27,26,0,1,2,3,4,5,6,7,8,9,10,11,12,13,14,15,16,17,18,19,20,21,22,23,24,25,26,27]] [2,5,6,7,11,12,16]) (.r [.m 45 2,.m 46 7,.bk 47 .add 46 1,.ia 48 4 45 47,.fa 49 0 48,.l 50 49,.bk 51 .eql 50 0,.m 52 51,.h 53 52 (.mov (.s 16)),.h 54 52 (.mov (.s 2)),.h 55 52 (.mov (.s 7)),.h 56 52 (.bk .add 55 1),.h 57 52 (.ia 4 54 56),.h 58 52 (.fa 2 57),.h 59 52 (.l 58),.h 60 52 (.b .lss 53 59),.o 61 (.pick (.s 52) (.q true) (.s 60))] [2,5,6,7,11,12,16,61] (.cond (.s 61) (.drw [.m 62 2,.m 63 7,.bk 64 .add 63 1,.fa 65 0 11,.l 66 65,.fa 67 0 12,.l 68 67,.b 69 .or 66 68,.m 70 7,.m 71 16,.fa 72 3 11,.ln 73 1 72,.fa 74 3 12,.ln 75 1 74,.m 76 5,.m 77 6,.cl 78 362 [73,75,76,77],.o 79 (.build [.t .z,.t .z,.t .z,.t .nil] [(0,1,.s 69),(1,1,.s 70),(2,1,.s 71),(3,1,.s 78)]),.ia 80 4 62 64,.st 4 80 79] [[],[],[1],[],[3],[],[5],[4,6],[],[],[],[10],[],[12],[],[],[11,13,14,15],[7,8,9,16],[0,2,0,1,2,3,4,5,6,7,8,9,10,11,12,13,14,15,16,17],[18,17,16,0,1,2,3,4,5,6,7,8,9,10,11,12,13,14,15,16,17]] []) .skip)))⟩
noncomputable def Zhd (x:List Int) (x1:List Za) (a:Zd) (a1:Za) (a2:Za) (a3:Int) (a4:Int) (a5:Int):Rs:=C 291 [.agg (a.c.map .t),.own 0,.own 1,.agg (a1.c.map .t),.agg (a2.c.map .t),I a3,I a4,I a5] [.arr 3 1 true (x.map ic),.arr 145 4 true (x1.map Za.c)]
def Zux:MCode:=.we [.m 8 7,.m 9 0,.ll 10 9,.b 11 .lss 8 10] [0,1,2,7,11] 11 0 (.seq (.block 1 (.r [.m 14 0,.m 15 7,.ia 16 4 14 15,.fa 17 0 16,.l 18 17,.m 19 1,.b 20 .eql 18 19,.m 21 20,.g 22 21 (.mov (.s 0)),.g 23 21 (.mov (.s 7)),.g 24 21 (.ia 4 22 23),.g 25 21 (.fa 1 24),.g 26 21 (.l 25),.g 27 21 (.mov (.s 2)),.g 28 21 (.b .eql 26 27),.o 29 (.pick (.s 21) (.s 28) (.q false))] [0,1,2,7,29] (.cond (.s 29) (.r [.m 30 7,.m 6 30] [6] .ret) .skip))) (.reg [.m 12 7,.bk 13 .add 12 1,.m 7 13] [0,1,2,7]))
def Zuy:MCode:=.r [.mk' 6 (-1)] [6] .ret
def Z09:MFun:=⟨3,31,[.tmp 6],.r [.mk' 6 0] [0,1,2] (.seq (.r [.mk' 7 0] [0,1,2,7] (.block 0 (.loop [0,1,2,7] Zux))) Zuy)⟩
noncomputable def Zjd (a:List Za) (a1:Int) (a2:Int):Rs:=C 292 [L 4 (a.map Za.c),I a1,I a2] []
noncomputable def Zje (l:List Za) (mask:Int) (order:Int) (i:Int):Rs:=EvL C [.blk 0,.seq Zuy,.fin 0 [.tmp 6]] [0,1,2,7] Zux ⟨[(0,L 4 (l.map Za.c)),(1,I mask),(2,I order),(7,I i)],[[]],[]⟩
def Z1a:MFun:=⟨2,19,[.cell 4 (some 1)],.r [.bx 2 0,.o 4 (.alloc [.t .nil])] [1,2,4] (.r [.o 6 (.bslice 194 3 0 [.z,.z,.z] []),.fa 7 0 2,.l 8 7,.o 9 (.append 194 3 24 false (.s 6) (.s 8)),.o 10 (.build [.t .nil] [(0,1,.s 9)]),.o 5 (.alloc [.t .nil]),.st 1 5 10] [1,4,5] (.r [.fa 11 0 5,.l 12 11,.m 13 1,.o 14 (.build [.t .z,.t .z,.t .z] [(0,1,.c (.t (.int .i64 2))),(2,1,.s 13)]),.o 15 (.bslice 194 3 1 [.z,.z,.z] [(0,.s 14)]),.o 16 (.append 194 3 24 true (.s 12) (.s 15)),.fa 17 0 5,.st 1 17 16] [4,5] (.r [.ln 18 1 5,.st 1 4 18] [4] .ret)))⟩
noncomputable def Zjf (a:Plan) (a1:Int):Rs:=C 363 [.agg (a.c.map .t),I a1] []
noncomputable def Zlz (x:List Int) (x1:List Za) (x2:List Zb) (a:Zd) (a1:Za) (Mask:Int) (Order:Int) (Cost:Int) (a2:Int) (a3:Int) (a4:Int):Rs:=C 291 [.agg (a.c.map .t),.own 0,.own 1,.agg (a1.c.map .t),.agg [I Mask,I Order,I Cost,.own 2],I a2,I a3,I a4] [.arr 3 1 true (x.map ic),.arr 145 4 true (x1.map Za.c),.arr 194 3 true (x2.map Zb.c)]
noncomputable def Zl0 (x:List Int) (x1:List Za) (x2:List Zb) (a:Zd) (Mask:Int) (Order:Int) (Cost:Int) (a1:Za) (a2:Int) (a3:Int) (a4:Int):Rs:=C 291 [.agg (a.c.map .t),.own 0,.own 1,.agg [I Mask,I Order,I Cost,.own 2],.agg (a1.c.map .t),I a2,I a3,I a4] [.arr 3 1 true (x.map ic),.arr 145 4 true (x1.map Za.c),.arr 194 3 true (x2.map Zb.c)]
noncomputable def Zl1 (x:List Int) (x1:List Za) (x2:List Zb) (x3:List Zb) (a:Zd) (Mask:Int) (Order:Int) (Cost:Int) (Mask1:Int) (Order1:Int) (Cost1:Int) (a1:Int) (a2:Int) (a3:Int):Rs:=C 291 [.agg (a.c.map .t),.own 0,.own 1,.agg [I Mask,I Order,I Cost,.own 2],.agg [I Mask1,I Order1,I Cost1,.own 3],I a1,I a2,I a3] [.arr 3 1 true (x.map ic),.arr 145 4 true (x1.map Za.c),.arr 194 3 true (x2.map Zb.c),.arr 194 3 true (x3.map Zb.c)]
def Z1b:MFun:=⟨5,61,[.cell 10 (some 4)],.r [.bx 5 0,.o 10 (.alloc [.t .z,.t .z,.t .z,.t .nil])] [1,2,3,4,5,10] (.r [.m 14 2,.m 15 2,.m 16 3,.cl 17 203 [15,16],.ia 18 4 14 17,.ln 19 4 18,.o 11 (.alloc [.t .z,.t .z,.t .z,.t .nil]),.st 4 11 19] [1,2,3,4,5,10,11] (.seq (.drw [.fa 20 2 11,.l 21 20,.fa 22 6 5,.ln 23 6 22,.m 24 1,.m 25 3,.ia 26 1 24 25,.l 27 26,.m 28 1,.m 29 3,.ia 30 1 28 29,.l 31 30,.o 32 (.call 163 [.s 23,.s 27,.c (.t .z),.s 31]),.b 33 .add 21 32,.m 12 33] [[],[0],[],[2],[],[],[4,5],[6],[],[],[8,9],[10],[3,7,11],[1,12],[13,12,0,1,2,3,4,5,6,7,8,9,10,11,12,13]] [2,3,4,10,11,12]) (.r [.m 34 2,.m 35 3,.m 36 4,.cl 37 292 [34,35,36],.m 13 37] [2,3,4,10,11,12,13] (.wc [.m 38 13,.bk 39 .geq 38 0,.m 40 39,.g 41 40 (.mov (.s 2)),.g 42 40 (.mov (.s 13)),.g 43 40 (.ia 4 41 42),.g 44 40 (.fa 2 43),.g 45 40 (.l 44),.g 46 40 (.mov (.s 12)),.g 47 40 (.b .leq 45 46),.o 48 (.pick (.s 40) (.s 47) (.q false))] [2,3,4,10,11,12,13,48] 48 (.r [.m 49 2,.m 50 13,.ia 51 4 49 50,.ln 52 4 51,.st 4 10 52] [10] .ret) (.r [.m 53 3,.m 54 4,.m 55 12,.fa 56 3 11,.ln 57 1 56,.m 58 4,.cl 59 363 [57,58],.o 60 (.build [.t .z,.t .z,.t .z,.t .nil] [(0,1,.s 53),(1,1,.s 54),(2,1,.s 55),(3,1,.s 59)]),.st 4 10 60] [10] .ret)))))⟩
noncomputable def Zd9 (x:List Int) (fr:Bool) (x1:List Za) (a:Zd) (a1:Int) (a2:Int):Rs:=C 293 [.agg (a.c.map .t),.own 0,.own 1,I a1,I a2] [.arr 3 1 true (x.map ic),.arr 145 4 fr (x1.map Za.c)]
def Z1c:MCode:=.reg [.m 58 15,.bk 59 .add 58 1,.m 15 59] [1,2,4,7,9,10,11,12,14,15]
def Zuz:MCode:=.we [.m 56 15,.bk 57 .lss 56 4] [1,2,4,7,9,10,11,12,14,15,57] 57 2 (.seq (.block 3 (.r [.m 60 2,.m 61 11,.m 62 15,.cl 63 292 [60,61,62],.m 16 63] [1,2,4,7,9,10,11,12,14,15,16] (.r [.m 64 16,.bk 65 .geq 64 0] [1,2,4,7,9,10,11,12,14,15,16,65] (.cond (.s 65) (.drw [.ln 66 30 4,.m 67 1,.m 68 9,.m 69 2,.m 70 16,.ia 71 4 69 70,.ln 72 4 71,.ln 73 4 14,.m 74 15,.o 75 (.icall 291 [.s 66,.s 67,.s 68,.s 72,.s 73,.c (.t (.int .i64 5)),.c (.t .z),.s 74])] [[],[],[],[],[],[3,4],[5],[],[],[0,1,2,6,7,8]] [1,2,4,7,9,10,11,12,14,15]) .skip)))) Z1c)
def Zu0:MCode:=.we [.m 76 17,.fa 77 2 7,.l 78 77,.m 79 10,.ia 80 1 78 79,.l 81 80,.ll 82 81,.b 83 .lss 76 82] [1,2,4,7,9,10,11,12,17,83] 83 4 (.seq (.block 5 (.r [.fa 86 2 7,.l 87 86,.m 88 10,.ia 89 1 87 88,.l 90 89,.m 91 17,.ia 92 1 90 91,.l 93 92,.m 18 93] [1,2,4,7,9,10,11,12,17,18] (.drw [.ln 94 30 4,.m 95 1,.m 96 9,.ln 97 30 4,.m 98 1,.m 99 2,.m 100 11,.m 101 18,.o 102 (.pcall 293 [.s 97,.s 98,.s 99,.s 100,.s 101]),.ln 103 30 4,.m 104 1,.m 105 2,.m 106 12,.m 107 18,.o 108 (.pcall 293 [.s 103,.s 104,.s 105,.s 106,.s 107]),.m 109 18,.m 110 18,.o 111 (.icall 291 [.s 94,.s 95,.s 96,.s 102,.s 108,.c (.t (.int .i64 4)),.s 109,.s 110])] [[],[],[],[],[],[],[],[],[3,4,5,6,7],[],[],[],[],[],[9,10,11,12,13,8],[],[],[0,1,2,8,14,15,16,14]] [1,2,4,7,9,10,11,12,17]))) (.reg [.m 84 17,.bk 85 .add 84 1,.m 17 85] [1,2,4,7,9,10,11,12,17]))
def Zu1:MCode:=.r [.mk' 17 0] [1,2,4,7,9,10,11,12,17] (.block 4 (.loop [1,2,4,7,9,10,11,12,17] Zu0))
def Zo1:MCode:=.reg [.m 27 10,.bk 28 .add 27 1,.m 10 28] [1,2,4,7,9,10]
def Zl2:MCode:=.we [.m 22 10,.fa 23 1 7,.l 24 23,.ll 25 24,.b 26 .lss 22 25] [1,2,4,7,9,10,26] 26 0 (.seq (.block 1 (.r [.fa 29 1 7,.l 30 29,.m 31 10,.ia 32 1 30 31,.l 33 32,.m 11 33] [1,2,4,7,9,10,11] (.r [.fa 34 0 7,.l 35 34,.m 36 11,.b 37 .sub 35 36,.m 12 37] [1,2,4,7,9,10,11,12] (.r [.m 38 2,.m 39 2,.m 40 11,.cl 41 203 [39,40],.ia 42 4 38 41,.ln 43 4 42,.o 13 (.alloc [.t .z,.t .z,.t .z,.t .nil]),.st 4 13 43] [1,2,4,7,9,10,11,12,13] (.r [.m 44 2,.m 45 2,.m 46 12,.cl 47 203 [45,46],.ia 48 4 44 47,.ln 49 4 48,.o 14 (.alloc [.t .z,.t .z,.t .z,.t .nil]),.st 4 14 49] [1,2,4,7,9,10,11,12,13,14] (.r [.ln 50 30 4,.m 51 1,.m 52 9,.ln 53 4 13,.ln 54 4 14,.o 55 (.icall 291 [.s 50,.s 51,.s 52,.s 53,.s 54,.c (.t (.int .i64 3)),.c (.t .z),.c (.t (.int .i64 (-1)))])] [1,2,4,7,9,10,11,12,14] (.seq (.r [.mk' 15 (-1)] [1,2,4,7,9,10,11,12,14,15] (.block 2 (.loop [1,2,4,7,9,10,11,12,14,15] Zuz))) Zu1))))))) Zo1)
def Z1d:MCode:=.reg [.m 115 20,.bk 116 .add 115 1,.m 20 116] [9,19,20]
def Zu2:MCode:=.we [.m 113 20,.bk 114 .leq 113 4] [9,19,20,114] 114 6 (.seq (.block 7 (.r [.m 117 9,.m 118 20,.ia 119 4 117 118,.fa 120 0 119,.l 121 120,.bk 122 .gtr 121 0] [9,19,20,122] (.cond (.s 122) (.reg [.m 123 19,.m 124 9,.m 125 20,.ia 126 4 124 125,.ln 127 4 126,.o 128 (.bslice 145 4 1 [.z,.z,.z,.lst 3 []] [(0,.s 127)]),.o 129 (.append 145 4 48 true (.s 123) (.s 128)),.m 19 129] [9,19,20]) .skip))) Z1d)
def Zu3:MCode:=.r [.m 130 19,.m 8 130] [8] .ret
def Zl3:MCode:=.r [.o 112 (.bslice 145 4 0 [.z,.z,.z,.lst 3 []] []),.m 19 112] [9,19] (.seq (.r [.mk' 20 0] [9,19,20] (.block 6 (.loop [9,19,20] Zu2))) Zu3)
def Z1e:MFun:=⟨4,131,[.tmp 8],.r [.bx 4 0,.bx 7 3,.o 8 (.mov (.c (.t .nil)))] [1,2,4,7] (.r [.o 21 (.mkslice 145 4 48 [.z,.z,.z,.lst 3 []] (.k 5) (.k 5)),.m 9 21] [1,2,4,7,9] (.seq (.r [.mk' 10 0] [1,2,4,7,9,10] (.block 0 (.loop [1,2,4,7,9,10] Zl2))) Zl3))⟩
noncomputable def Zo2 (x:List Int) (fr:Bool) (x1:List Za) (a:Zd) (a1:Zw):Rs:=C 206 [.agg (a.c.map .t),.own 0,.own 1,.agg (a1.c.map .t)] [.arr 3 1 true (x.map ic),.arr 145 4 fr (x1.map Za.c)]
noncomputable def Zjg (sizes:List Int) (fr:Bool) (l:List Za) (m:Zd) (x:Zw) (mine:List Za) (k:Int):Rs:=EvL C [.blk 0,.seq Zl3,.fin 2 [.tmp 8]] [1,2,4,7,9,10] Zl2 ⟨[(1,.own 0),(2,.own 1),(4,.ptr 2 0),(7,.ptr 3 0),(9,.own 4),(10,I k)],[[(0,.own 0),(1,.own 1)]],[.arr 3 1 true (sizes.map ic),.arr 145 4 fr (l.map Za.c),.box (m.c.map .t),.box (x.c.map .t),.arr 145 4 true (mine.map Za.c)]⟩
noncomputable def Zjh (sizes:List Int) (fr:Bool) (l:List Za) (m:Zd) (x:Zw) (mine:List Za) (b:Za) (k:Int) (left:Int) (right:Int) (o:Int):Rs:=EvL C [.blk 2,.seq Zu1,.blk 1,.seq Zo1,.loop [1,2,4,7,9,10] Zl2,.blk 0,.seq Zl3,.fin 2 [.tmp 8]] [1,2,4,7,9,10,11,12,14,15] Zuz ⟨[(1,.own 0),(2,.own 1),(4,.ptr 2 0),(7,.ptr 3 0),(9,.own 4),(10,I k),(11,I left),(12,I right),(14,.ptr 5 0),(15,I o)],[[(0,.own 0),(1,.own 1)]],[.arr 3 1 true (sizes.map ic),.arr 145 4 fr (l.map Za.c),.box (m.c.map .t),.box (x.c.map .t),.arr 145 4 true (mine.map Za.c),.box (b.c.map .t)]⟩
noncomputable def Zhe (mine:List Za) (fr:Bool) (out:List Za) (x:List Int) (fr1:Bool) (x1:List Za) (o:Int):Rs:=EvL C [.blk 6,.seq Zu3,.fin 2 [.tmp 8]] [9,19,20] Zu2 ⟨[(9,.own 0),(19,.own 1),(20,I o)],[[(0,.own 2),(1,.own 3)]],[.arr 145 4 true (mine.map Za.c),.arr 145 4 fr (out.map Za.c),.arr 3 1 true (x.map ic),.arr 145 4 fr1 (x1.map Za.c)]⟩
noncomputable def Zev (sizes:List Int) (fr:Bool) (l:List Za) (m:Zd) (x:Zw) (mine:List Za) (k:Int) (left:Int) (right:Int) (e:Int):Rs:=EvL C [.blk 4,.blk 1,.seq Zo1,.loop [1,2,4,7,9,10] Zl2,.blk 0,.seq Zl3,.fin 2 [.tmp 8]] [1,2,4,7,9,10,11,12,17] Zu0 ⟨[(1,.own 0),(2,.own 1),(4,.ptr 2 0),(7,.ptr 3 0),(9,.own 4),(10,I k),(11,I left),(12,I right),(17,I e)],[[(0,.own 0),(1,.own 1)]],[.arr 3 1 true (sizes.map ic),.arr 145 4 fr (l.map Za.c),.box (m.c.map .t),.box (x.c.map .t),.arr 145 4 true (mine.map Za.c)]⟩
def Z1f:MCode:=.reg [.m 18 10,.bk 19 .add 18 1,.m 10 19] [2,3,4,5,9,10]
def Zu4:MCode:=.we [.m 14 10,.m 15 2,.ll 16 15,.b 17 .lss 14 16] [2,3,4,5,9,10,17] 17 0 (.seq (.block 1 (.r [.m 20 2,.m 21 10,.ia 22 3 20 21,.fa 23 0 22,.l 24 23,.m 11 24] [2,3,4,5,9,10,11] (.wc [.m 25 11,.m 26 11,.bk 27 .sub 26 1,.b 28 .and 25 27,.bk 29 .eql 28 0] [2,3,4,5,9,10,11,29] 29 (.r [.m 30 11,.cl 31 204 [30],.o 32 (.iaddr 1 (.s 31) (.k 0)),.l 33 32,.m 12 33] [2,3,4,5,9,10,11,12] (.seq (.drw [.m 34 9,.m 35 11,.fa 36 1 5,.l 37 36,.m 38 12,.ia 39 2 37 38,.fa 40 1 39,.l 41 40,.o 42 (.iaddr 1 (.s 41) (.k 0)),.l 43 42,.fa 44 0 4,.ln 45 6 44,.m 46 3,.m 47 11,.ia 48 1 46 47,.l 49 48,.m 50 3,.m 51 11,.ia 52 1 50 51,.l 53 52,.o 54 (.call 163 [.s 45,.s 49,.c (.t .z),.s 53]),.m 55 12,.cl 56 205 [55],.o 57 (.build [.t .z,.t .z,.t .z,.t .nil] [(0,1,.s 35),(1,1,.s 43),(2,1,.s 54),(3,1,.s 56)]),.o 58 (.bslice 145 4 1 [.z,.z,.z,.lst 3 []] [(0,.s 57)]),.o 59 (.append 145 4 48 true (.s 34) (.s 58)),.m 9 59] [[],[],[],[2],[],[3,4],[5],[6],[7],[8],[],[10],[],[],[12,13],[14],[],[],[16,17],[18],[11,15,19],[],[21,20],[1,9,20,22],[23],[0,24,22],[25,25,0,1,2,3,4,5,6,7,8,9,10,11,12,13,14,15,16,17,18,19,20,21,22,23,24,25]] [2,3,4,5,9,10]) (.exit 1))) (.drw [.m 60 9,.ln 61 30 4,.m 62 3,.m 63 9,.m 64 2,.m 65 10,.ia 66 3 64 65,.ln 67 3 66,.o 68 (.pcall 206 [.s 61,.s 62,.s 63,.s 67]),.o 69 (.append 145 4 48 false (.s 60) (.s 68)),.m 9 69] [[],[],[],[],[],[],[4,5],[6],[1,2,3,7],[0,8,8],[9,9,0,1,2,3,4,5,6,7,8,9]] [2,3,4,5,9,10])))) Z1f)
def Zu5:MCode:=.r [.m 70 9,.m 8 70] [8] .ret
def Z1g:MFun:=⟨4,71,[.tmp 8],.r [.bx 4 0,.bx 5 1,.o 8 (.mov (.c (.t .nil)))] [2,3,4,5] (.r [.o 13 (.bslice 145 4 0 [.z,.z,.z,.lst 3 []] []),.m 9 13] [2,3,4,5,9] (.seq (.r [.mk' 10 0] [2,3,4,5,9,10] (.block 0 (.loop [2,3,4,5,9,10] Zu4))) Zu5))⟩
noncomputable def Zo3 (x:List Zw) (x1:List Int) (a:Zd) (a1:Zc):Rs:=C 86 [.agg (a.c.map .t),.agg (a1.c.map .t),.own 0,.own 1] [.arr 257 3 true (x.map Zw.c),.arr 3 1 true (x1.map ic)]
noncomputable def Zji (shapes:List Zw) (sizes:List Int) (m:Zd) (q:Zc) (fr:Bool) (out:List Za) (i:Int):Rs:=EvL C [.blk 0,.seq Zu5,.fin 2 [.tmp 8]] [2,3,4,5,9,10] Zu4 ⟨[(2,.own 0),(3,.own 1),(4,.ptr 2 0),(5,.ptr 3 0),(9,.own 4),(10,I i)],[[(0,.own 0),(1,.own 1)]],[.arr 257 3 true (shapes.map Zw.c),.arr 3 1 true (sizes.map ic),.box (m.c.map .t),.box (q.c.map .t),.arr 145 4 fr (out.map Za.c)]⟩
def Z1h:MFun:=⟨3,23,[.tmp 6],.r [.bx 3 0,.bx 4 1,.o 6 (.mov (.c (.t .nil)))] [2,3,4] (.wc [.ln 7 30 3,.cl 8 145 [7],.o 9 (.un .not (.s 8)),.m 10 9,.h 11 10 (.ln 2 4),.h 12 10 (.mov (.s 2)),.h 13 10 (.cl 371 [11,12]),.h 14 10 (.un .not (.s 13)),.o 15 (.pick (.s 10) (.q true) (.s 14))] [2,3,4,15] 15 (.r [.o 16 (.bslice 145 4 0 [.z,.z,.z,.lst 3 []] []),.m 6 16] [6] .ret) (.seq (.drw [.ln 17 30 3,.ln 18 2 4,.ln 19 2 4,.cl 20 80 [19],.m 21 2,.o 22 (.pcall 86 [.s 17,.s 18,.s 20,.s 21]),.m 6 22] [[],[],[],[2],[],[0,1,3,4,3],[5,5,0,1,2,3,4,5]] [6]) .ret))⟩
noncomputable def Zo4 (x:List Int) (a:Zd) (a1:Zc):Rs:=C 305 [.agg (a.c.map .t),.agg (a1.c.map .t),.own 0] [.arr 3 1 true (x.map ic)]
def Z1i:MFun:=⟨2,38,[.cell 4 (some 4),.tmp 5],.r [.o 4 (.alloc [.t .z,.t .z,.t .z,.t .nil]),.o 5 (.mov (.q false))] [0,1,4] (.r [.m 7 0,.m 8 1,.cl 9 203 [7,8],.m 6 9] [0,4,6] (.wc [.m 10 6,.bk 11 .lss 10 0] [0,4,6,11] 11 (.r [.o 12 (.build [.t .z,.t .z,.t .z,.t .nil] []),.st 4 4 12,.o 5 (.mov (.q false))] [4,5] .ret) (.seq (.drw [.m 13 0,.m 14 6,.ia 15 4 13 14,.fa 16 0 15,.l 17 16,.m 18 0,.m 19 6,.ia 20 4 18 19,.fa 21 1 20,.l 22 21,.m 23 0,.m 24 6,.ia 25 4 23 24,.fa 26 2 25,.l 27 26,.o 28 (.bslice 194 3 0 [.z,.z,.z] []),.m 29 0,.m 30 6,.ia 31 4 29 30,.fa 32 3 31,.fa 33 0 32,.l 34 33,.o 35 (.append 194 3 24 false (.s 28) (.s 34)),.o 36 (.build [.t .nil] [(0,1,.s 35)]),.o 37 (.build [.t .z,.t .z,.t .z,.t .nil] [(0,1,.s 17),(1,1,.s 22),(2,1,.s 27),(3,1,.s 36)]),.st 4 4 37,.o 5 (.mov (.q true))] [[],[],[0,1],[2],[3],[],[],[5,6],[7],[8],[],[],[10,11],[12],[13],[],[],[],[16,17],[18],[19],[20],[15,21],[22],[4,9,14,23],[24,22,0,1,2,3,4,5,6,7,8,9,10,11,12,13,14,15,16,17,18,19,20,21,22,23,24],[25,0,1,2,3,4,5,6,7,8,9,10,11,12,13,14,15,16,17,18,19,20,21,22,23,24,25]] [4,5]) .ret)))⟩
noncomputable def Zfr (a:List Za) (a1:Int):Rs:=C 85 [L 4 (a.map Za.c),I a1] []
def Z1j:MFun:=⟨3,22,[.cell 6 (some 4),.tmp 7],.r [.bx 3 0,.bx 4 1,.o 6 (.alloc [.t .z,.t .z,.t .z,.t .nil]),.o 7 (.mov (.q false))] [2,3,4,6] (.seq (.drw [.ln 11 30 3,.ln 12 2 4,.m 13 2,.o 14 (.icall 305 [.s 11,.s 12,.s 13]),.ln 15 2 4,.cl 16 81 [15],.cl 17 85 [14,16],.m 10 17,.o 18 (.ext (.s 10) 0),.o 19 (.ext (.s 10) 1),.o 8 (.alloc [.t .z,.t .z,.t .z,.t .nil]),.st 4 8 18,.m 9 19] [[],[],[],[0,1,2],[],[4,3],[3,5,5],[6],[7],[7],[],[10,8,6,0,1,2,3,4,5,6,7,8,10],[9,11,0,1,2,3,4,5,6,7,8,9,10,11]] [6,8,9]) (.r [.ln 20 4 8,.m 21 9,.st 4 6 20,.m 7 21] [6,7] .ret))⟩
noncomputable def Zo5 (x:List Int) (a:Zd) (a1:Zc):Rs:=C 234 [.agg (a.c.map .t),.agg (a1.c.map .t),.own 0] [.arr 3 1 true (x.map ic)]
def Z1k:MFun:=⟨3,20,[.tmp 6],.r [.bx 3 0,.bx 4 1,.mk' 6 0] [2,3,4] (.r [.ln 10 30 3,.ln 11 2 4,.m 12 2,.o 13 (.icall 234 [.s 10,.s 11,.s 12]),.m 9 13,.o 14 (.ext (.s 9) 0),.o 15 (.ext (.s 9) 1),.o 7 (.alloc [.t .z,.t .z,.t .z,.t .nil]),.st 4 7 14,.m 8 15] [7,8] (.wc [.m 16 8,.o 17 (.un .not (.s 16))] [7,17] 17 (.r [.mk' 6 (-1)] [6] .ret) (.r [.fa 18 2 7,.l 19 18,.m 6 19] [6] .ret)))⟩
noncomputable def Zo6 (x:List Int) (a:Zd) (a1:Zc):Rs:=C 227 [.agg (a.c.map .t),.agg (a1.c.map .t),.own 0] [.arr 3 1 true (x.map ic)]
def Z1l:MFun:=⟨3,12,[.tmp 6],.r [.bx 3 0,.bx 4 1,.mk' 6 0] [2,3,4] (.seq (.drw [.ln 7 30 3,.ln 8 2 4,.m 9 2,.cl 10 87 [9],.o 11 (.icall 227 [.s 7,.s 8,.s 10]),.m 6 11] [[],[],[],[2],[0,1,3,3],[4,4,0,1,2,3,4]] [6]) .ret)⟩
noncomputable def Zl4 (a:Zd) (a1:Zc) (a2:List Int):Rs:=C 110 [.agg (a.c.map .t),.agg (a1.c.map .t),L 1 (a2.map ic)] []
def Z1m:MFun:=⟨3,25,[.tmp 6],.r [.bx 3 0,.bx 4 1,.bx 5 2,.mk' 6 0] [3,4,5] (.r [.ln 8 1 4,.ln 9 2 5,.cl 10 108 [8,9],.m 7 10] [3,5,7] (.seq (.seq (.drw [.m 11 7,.ll 12 11,.bk 13 .eql 12 0,.m 14 13,.h 15 14 (.ln 2 5),.h 16 14 (.ln 2 5),.h 17 14 (.cl 81 [16]),.h 18 14 (.cl 109 [15,17]),.h 19 14 (.un .not (.s 18)),.o 20 (.pick (.s 14) (.q true) (.s 19))] [[],[0],[1],[2],[3],[3],[5,3,3],[4,6,6,3],[7,3],[3,8]] [3,5,7,20]) (.cond (.s 20) (.r [.mk' 6 (-1)] [6] .ret) .skip)) (.r [.ln 21 30 3,.ln 22 2 5,.m 23 7,.cl 24 110 [21,22,23],.m 6 24] [6] .ret)))⟩
noncomputable def Zo7 (a:Zd) (a1:Zi) (a2:Zc):Rs:=C 29 [.agg (a.c.map .t),.agg (a1.c.map .t),.agg (a2.c.map .t)] []
theorem Z9t:tbl 124=some Zxb:=Zg Tryz.func124 (by kernel_rfl) (by kernel_rfl)
theorem Z9u:tbl 344=some Zxc:=Zg Tryz.func344 (by kernel_rfl) (by kernel_rfl)
theorem Z9v:tbl 256=some Zxd:=Zg Tryz.func256 (by kernel_rfl) (by kernel_rfl)
theorem Z9w:tbl 135=some Zxe:=Zg Tryz.func135 (by kernel_rfl) (by kernel_rfl)
theorem Z9x:tbl 398=some Zxf:=Zg Tryz.func398 (by kernel_rfl) (by kernel_rfl)
theorem Z9y:tbl 345=some Zxg:=Zg Tryz.func345 (by kernel_rfl) (by kernel_rfl)
theorem Z9z:tbl 271=some Zm9:=Zg Tryz.func271 (by kernel_rfl) (by kernel_rfl)
theorem Z90:tbl 357=some Zxh:=Zg Tryz.func357 (by kernel_rfl) (by kernel_rfl)
theorem Z91:tbl 356=some Zxi:=Zg Tryz.func356 (by kernel_rfl) (by kernel_rfl)
theorem Z92:tbl 328=some Zxj:=Zg Tryz.func328 (by kernel_rfl) (by kernel_rfl)
theorem Z93:tbl 438=some Zxk:=Zg Tryz.func438 (by kernel_rfl) (by kernel_rfl)
theorem Z94:tbl 428=some Zxl:=Zg Tryz.func428 (by kernel_rfl) (by kernel_rfl)
theorem Z95:tbl 394=some Zxm:=Zg Tryz.func394 (by kernel_rfl) (by kernel_rfl)
theorem Z96:tbl 331=some Zxn:=Zg Tryz.func331 (by kernel_rfl) (by kernel_rfl)
theorem Z97:tbl 429=some Zxo:=Zg Tryz.func429 (by kernel_rfl) (by kernel_rfl)
theorem Z98:tbl 400=some Zxp:=Zg Tryz.func400 (by kernel_rfl) (by kernel_rfl)
theorem Z99:tbl 358=some Zxq:=Zg Tryz.func358 (by kernel_rfl) (by kernel_rfl)
theorem Zbaa:tbl 261=some Zxr:=Zg Tryz.func261 (by kernel_rfl) (by kernel_rfl)
theorem Z1n:tbl 317=some Zq4:=Zg Tryz.func317 (by kernel_rfl) (by kernel_rfl)
theorem Zbab:tbl 359=some Zxs:=Zg Tryz.func359 (by kernel_rfl) (by kernel_rfl)
theorem Zbac:tbl 285=some Zxt:=Zg Tryz.func285 (by kernel_rfl) (by kernel_rfl)
theorem Zbad:tbl 185=some Zxu:=Zg Tryz.func185 (by kernel_rfl) (by kernel_rfl)
theorem Zbae:tbl 230=some Zxv:=Zg Tryz.func230 (by kernel_rfl) (by kernel_rfl)
theorem Zbaf:tbl 301=some Zxw:=Zg Tryz.func301 (by kernel_rfl) (by kernel_rfl)
theorem Zbag:tbl 346=some Zxx:=Zg Tryz.func346 (by kernel_rfl) (by kernel_rfl)
theorem Zbah:tbl 347=some Zxz:=Zg Tryz.func347 (by kernel_rfl) (by kernel_rfl)
theorem Zbai:tbl 368=some Zx1:=Zg Tryz.func368 (by kernel_rfl) (by kernel_rfl)
theorem Zbaj:tbl 302=some Zx2:=Zg Tryz.func302 (by kernel_rfl) (by kernel_rfl)
theorem Zbak:tbl 229=some Zx3:=Zg Tryz.func229 (by kernel_rfl) (by kernel_rfl)
theorem Zbal:tbl 140=some Zx4:=Zg Tryz.func140 (by kernel_rfl) (by kernel_rfl)
theorem Zbam:tbl 391=some Zx5:=Zg Tryz.func391 (by kernel_rfl) (by kernel_rfl)
theorem Zban:tbl 324=some Zx6:=Zg Tryz.func324 (by kernel_rfl) (by kernel_rfl)
theorem Zbao:tbl 326=some Zx7:=Zg Tryz.func326 (by kernel_rfl) (by kernel_rfl)
theorem Zbap:tbl 236=some Zx8:=Zg Tryz.func236 (by kernel_rfl) (by kernel_rfl)
theorem Zbaq:tbl 259=some Zya:=Zg Tryz.func259 (by kernel_rfl) (by kernel_rfl)
theorem Zbar:tbl 327=some Zyb:=Zg Tryz.func327 (by kernel_rfl) (by kernel_rfl)
theorem Zbas:tbl 325=some Zyd:=Zg Tryz.func325 (by kernel_rfl) (by kernel_rfl)
theorem Zbat:tbl 253=some Zye:=Zg Tryz.func253 (by kernel_rfl) (by kernel_rfl)
theorem Zbau:tbl 131=some Zyf:=Zg Tryz.func131 (by kernel_rfl) (by kernel_rfl)
theorem Zbav:tbl 112=some Zyg:=Zg Tryz.func112 (by kernel_rfl) (by kernel_rfl)
theorem Zbaw:tbl 303=some Zyi:=Zg Tryz.func303 (by kernel_rfl) (by kernel_rfl)
theorem Zbax:tbl 370=some Zyj:=Zg Tryz.func370 (by kernel_rfl) (by kernel_rfl)
theorem Zbay:tbl 262=some Zyk:=Zg Tryz.func262 (by kernel_rfl) (by kernel_rfl)
theorem Zbaz:tbl 304=some Zyl:=Zg Tryz.func304 (by kernel_rfl) (by kernel_rfl)
theorem Zba0:tbl 232=some Zr3:=Zg Tryz.func232 (by kernel_rfl) (by kernel_rfl)
theorem Zba1:tbl 231=some Zyn:=Zg Tryz.func231 (by kernel_rfl) (by kernel_rfl)
theorem Zba2:tbl 141=some Zyp:=Zg Tryz.func141 (by kernel_rfl) (by kernel_rfl)
theorem Zba3:tbl 113=some Zyq:=Zg Tryz.func113 (by kernel_rfl) (by kernel_rfl)
theorem Zba4:tbl 237=some Zyr:=Zg Tryz.func237 (by kernel_rfl) (by kernel_rfl)
theorem Zba5:tbl 117=some Zys:=Zg Tryz.func117 (by kernel_rfl) (by kernel_rfl)
theorem Zba6:tbl 373=some Zyt:=Zg Tryz.func373 (by kernel_rfl) (by kernel_rfl)
theorem Zba7:tbl 374=some Zyv:=Zg Tryz.func374 (by kernel_rfl) (by kernel_rfl)
theorem Zba8:tbl 376=some Zyw:=Zg Tryz.func376 (by kernel_rfl) (by kernel_rfl)
theorem Zba9:tbl 272=some Zyx:=Zg Tryz.func272 (by kernel_rfl) (by kernel_rfl)
theorem Zbba:tbl 155=some Zyz:=Zg Tryz.func155 (by kernel_rfl) (by kernel_rfl)
theorem Zbbb:tbl 258=some Zy0:=Zg Tryz.func258 (by kernel_rfl) (by kernel_rfl)
theorem Zbbc:tbl 366=some Zy2:=Zg Tryz.func366 (by kernel_rfl) (by kernel_rfl)
theorem Zbbd:tbl 367=some Zy3:=Zg Tryz.func367 (by kernel_rfl) (by kernel_rfl)
theorem Zbbe:tbl 297=some Zsj:=Zg Tryz.func297 (by kernel_rfl) (by kernel_rfl)
theorem Zbbf:tbl 375=some Zb4:=Zg Tryz.func375 (by kernel_rfl) (by kernel_rfl)
theorem Zbbg:tbl 377=some Zy5:=Zg Tryz.func377 (by kernel_rfl) (by kernel_rfl)
theorem Z1o:tbl 372=some Zsn:=Zg Tryz.func372 (by kernel_rfl) (by kernel_rfl)
theorem Zbbh:tbl 355=some Zy6:=Zg Tryz.func355 (by kernel_rfl) (by kernel_rfl)
theorem Zbbi:tbl 378=some Zy7:=Zg Tryz.func378 (by kernel_rfl) (by kernel_rfl)
theorem Zbbj:tbl 381=some Zy8:=Zg Tryz.func381 (by kernel_rfl) (by kernel_rfl)
theorem Zbbk:tbl 403=some Zy9:=Zg Tryz.func403 (by kernel_rfl) (by kernel_rfl)
theorem Zbbl:tbl 379=some Zzd:=Zg Tryz.func379 (by kernel_rfl) (by kernel_rfl)
theorem Zbbm:tbl 404=some Zze:=Zg Tryz.func404 (by kernel_rfl) (by kernel_rfl)
theorem Zbbn:tbl 380=some Zzf:=Zg Tryz.func380 (by kernel_rfl) (by kernel_rfl)
theorem Zbbo:tbl 307=some Zn0:=Zg Tryz.func307 (by kernel_rfl) (by kernel_rfl)
theorem Zbbp:tbl 306=some Zzi:=Zg Tryz.func306 (by kernel_rfl) (by kernel_rfl)
theorem Zbbq:tbl 235=some Zzj:=Zg Tryz.func235 (by kernel_rfl) (by kernel_rfl)
theorem Zbbr:tbl 218=some Zzk:=Zg Tryz.func218 (by kernel_rfl) (by kernel_rfl)
theorem Zbbs:tbl 97=some Zzm:=Zg Tryz.func97 (by kernel_rfl) (by kernel_rfl)
theorem Zbbt:tbl 31=some Zzn:=Zg Tryz.func31 (by kernel_rfl) (by kernel_rfl)
theorem Zbbu:tbl 122=some Zzo:=Zg Tryz.func122 (by kernel_rfl) (by kernel_rfl)
theorem Zbbv:tbl 289=some Zzp:=Zg Tryz.func289 (by kernel_rfl) (by kernel_rfl)
theorem Zbbw:tbl 148=some Zzq:=Zg Tryz.func148 (by kernel_rfl) (by kernel_rfl)
theorem Zbbx:tbl 200=some Zzr:=Zg Tryz.func200 (by kernel_rfl) (by kernel_rfl)
theorem Zbby:tbl 81=some Zzs:=Zg Tryz.func81 (by kernel_rfl) (by kernel_rfl)
theorem Zbbz:tbl 343=some Zzt:=Zg Tryz.func343 (by kernel_rfl) (by kernel_rfl)
theorem Zbb0:tbl 167=some Zzu:=Zg Tryz.func167 (by kernel_rfl) (by kernel_rfl)
theorem Zbb1:tbl 399=some Zzv:=Zg Tryz.func399 (by kernel_rfl) (by kernel_rfl)
theorem Zbb2:tbl 351=some Zzw:=Zg Tryz.func351 (by kernel_rfl) (by kernel_rfl)
theorem Zbb3:tbl 352=some Zzx:=Zg Tryz.func352 (by kernel_rfl) (by kernel_rfl)
theorem Zbb4:tbl 275=some Zzy:=Zg Tryz.func275 (by kernel_rfl) (by kernel_rfl)
theorem Zbb5:tbl 178=some Zzz:=Zg Tryz.func178 (by kernel_rfl) (by kernel_rfl)
theorem Zbb6:tbl 225=some Zz0:=Zg Tryz.func225 (by kernel_rfl) (by kernel_rfl)
theorem Zbb7:tbl 349=some Zz1:=Zg Tryz.func349 (by kernel_rfl) (by kernel_rfl)
theorem Zbb8:tbl 300=some Zz3:=Zg Tryz.func300 (by kernel_rfl) (by kernel_rfl)
theorem Zbb9:tbl 226=some Zz4:=Zg Tryz.func226 (by kernel_rfl) (by kernel_rfl)
theorem Zbca:tbl 109=some Zz5:=Zg Tryz.func109 (by kernel_rfl) (by kernel_rfl)
theorem Zbcb:tbl 353=some Zz7:=Zg Tryz.func353 (by kernel_rfl) (by kernel_rfl)
theorem Zbcc:tbl 276=some Zz8:=Zg Tryz.func276 (by kernel_rfl) (by kernel_rfl)
theorem Zbcd:tbl 354=some Zz9:=Zg Tryz.func354 (by kernel_rfl) (by kernel_rfl)
theorem Zbce:tbl 277=some Z0a:=Zg Tryz.func277 (by kernel_rfl) (by kernel_rfl)
theorem Zbcf:tbl 166=some Z0c:=Zg Tryz.func166 (by kernel_rfl) (by kernel_rfl)
theorem Zbcg:tbl 52=some Z0d:=Zg Tryz.func52 (by kernel_rfl) (by kernel_rfl)
theorem Zbch:tbl 224=some Z0f:=Zg Tryz.func224 (by kernel_rfl) (by kernel_rfl)
theorem Zbci:tbl 208=some Z0g:=Zg Tryz.func208 (by kernel_rfl) (by kernel_rfl)
theorem Zbcj:tbl 152=some Z0h:=Zg Tryz.func152 (by kernel_rfl) (by kernel_rfl)
theorem Zbck:tbl 108=some Z0i:=Zg Tryz.func108 (by kernel_rfl) (by kernel_rfl)
theorem Zbcl:tbl 207=some Z0j:=Zg Tryz.func207 (by kernel_rfl) (by kernel_rfl)
theorem Zbcm:tbl 87=some Z0k:=Zg Tryz.func87 (by kernel_rfl) (by kernel_rfl)
theorem Zbcn:tbl 164=some Z0l:=Zg Tryz.func164 (by kernel_rfl) (by kernel_rfl)
theorem Zbco:tbl 350=some Z0m:=Zg Tryz.func350 (by kernel_rfl) (by kernel_rfl)
theorem Zbcp:tbl 274=some Z0n:=Zg Tryz.func274 (by kernel_rfl) (by kernel_rfl)
theorem Zbcq:tbl 163=some Z0p:=Zg Tryz.func163 (by kernel_rfl) (by kernel_rfl)
theorem Zbcr:tbl 397=some Z0q:=Zg Tryz.func397 (by kernel_rfl) (by kernel_rfl)
theorem Zbcs:tbl 341=some Z0r:=Zg Tryz.func341 (by kernel_rfl) (by kernel_rfl)
theorem Zbct:tbl 342=some Z0s:=Zg Tryz.func342 (by kernel_rfl) (by kernel_rfl)
theorem Zbcu:tbl 268=some Z0t:=Zg Tryz.func268 (by kernel_rfl) (by kernel_rfl)
theorem Zbcv:tbl 145=some Z0u:=Zg Tryz.func145 (by kernel_rfl) (by kernel_rfl)
theorem Zbcw:tbl 371=some Z0v:=Zg Tryz.func371 (by kernel_rfl) (by kernel_rfl)
theorem Zbcx:tbl 197=some Z0x:=Zg Tryz.func197 (by kernel_rfl) (by kernel_rfl)
theorem Zbcy:tbl 198=some Z0z:=Zg Tryz.func198 (by kernel_rfl) (by kernel_rfl)
theorem Zbcz:tbl 199=some Z01:=Zg Tryz.func199 (by kernel_rfl) (by kernel_rfl)
theorem Zbc0:tbl 80=some Z02:=Zg Tryz.func80 (by kernel_rfl) (by kernel_rfl)
theorem Zbc1:tbl 204=some Z04:=Zg Tryz.func204 (by kernel_rfl) (by kernel_rfl)
theorem Zbc2:tbl 205=some Z05:=Zg Tryz.func205 (by kernel_rfl) (by kernel_rfl)
theorem Zbc3:tbl 203=some Z07:=Zg Tryz.func203 (by kernel_rfl) (by kernel_rfl)
theorem Zbc4:tbl 362=some Z08:=Zg Tryz.func362 (by kernel_rfl) (by kernel_rfl)
theorem Z1p:tbl 291=some Zuw:=Zg Tryz.func291 (by kernel_rfl) (by kernel_rfl)
theorem Zbc5:tbl 292=some Z09:=Zg Tryz.func292 (by kernel_rfl) (by kernel_rfl)
theorem Zbc6:tbl 363=some Z1a:=Zg Tryz.func363 (by kernel_rfl) (by kernel_rfl)
theorem Zbc7:tbl 293=some Z1b:=Zg Tryz.func293 (by kernel_rfl) (by kernel_rfl)
theorem Zbc8:tbl 206=some Z1e:=Zg Tryz.func206 (by kernel_rfl) (by kernel_rfl)
theorem Zbc9:tbl 86=some Z1g:=Zg Tryz.func86 (by kernel_rfl) (by kernel_rfl)
theorem Zbda:tbl 305=some Z1h:=Zg Tryz.func305 (by kernel_rfl) (by kernel_rfl)
theorem Zbdb:tbl 85=some Z1i:=Zg Tryz.func85 (by kernel_rfl) (by kernel_rfl)
theorem Zbdc:tbl 234=some Z1j:=Zg Tryz.func234 (by kernel_rfl) (by kernel_rfl)
theorem Zbdd:tbl 227=some Z1k:=Zg Tryz.func227 (by kernel_rfl) (by kernel_rfl)
theorem Zbde:tbl 110=some Z1l:=Zg Tryz.func110 (by kernel_rfl) (by kernel_rfl)
theorem Zbdf:tbl 29=some Z1m:=Zg Tryz.func29 (by kernel_rfl) (by kernel_rfl)
theorem Zc3:(∀ a a1 a2 r,Im (Zx a a1 a2=some r) (if a1≤a then (some (Bo (decide (a≤a2)),[])=some r) else (some (Bo false,[])=some r))) ∧
 (∀ a r,Im (Zhr a=some r) (if (a.size:Int)=1 then (∃ b1,a[0]?=some b1∧(if 97≤(b1.toNat:Int) then (some (Bo (decide ((b1.toNat:Int)≤122)),[])=some r) else (some (Bo false,[])=some r))) else (some (Bo false,[])=some r))) ∧
 (∀ s v x x1 r,Im (Zj3 s v x x1=some r) (if x1<x then (0≤x1∧(∃ e1,s[x1.toNat]?=some e1∧(if v=e1 then (some (I x1,[])=some r) else (Zj3 s v x (w (x1+1))=some r)))) else (some (I (-1),[])=some r))) ∧
 (∀ a a1 r,Im (Zm4 a a1=some r) (Zj3 a a1 (a.length:Int) 0=some r)) ∧
 (∀ a a1 r,Im (Zd4 a a1=some r) (∃ v1_0,Zm4 a a1=some (I v1_0,[])∧(some (Bo (decide (0≤v1_0)),[])=some r))) ∧
 (∀ s v x x1 r,Im (Zj4 s v x x1=some r) (if x1<x then (0≤x1∧(∃ e1,s[x1.toNat]?=some e1∧(if v=e1 then (some (I x1,[])=some r) else (Zj4 s v x (w (x1+1))=some r)))) else (some (I (-1),[])=some r))) ∧
 (∀ a a1 r,Im (Zm5 a a1=some r) (Zj4 a a1 (a.length:Int) 0=some r)) ∧
 (∀ a a1 r,Im (Zm6 a a1=some r) (∃ v1_0,Zm5 a a1=some (I v1_0,[])∧(some (Bo (decide (0≤v1_0)),[])=some r))) ∧
 (∀ q seen x x1 x2 r,Im (Zf9 q seen x x1 x2=some r) (if x2<x1 then (0≤x2∧(∃ e1,x[x2.toNat]?=some e1∧(∃ v2_0,Zhr e1.Name=some (Bo v2_0,[])∧(if v2_0=true then (∃ v3_0,Zx (e1.Vars.length:Int) 1 3=some (Bo v3_0,[])∧(if v3_0=true then (Zj5 q seen e1 x x1 x2 e1.Vars (e1.Vars.length:Int) 0=some r) else (some (Bo false,[])=some r))) else (some (Bo false,[])=some r))))) else (∃ v4_0,Zm6 seen false=some (Bo v4_0,[])∧(some (Bo (!v4_0),[])=some r)))) ∧
 (∀ q seen a x x1 x2 x3 x4 x5 r,Im (Zj5 q seen a x x1 x2 x3 x4 x5=some r) (if x5<x4 then (0≤x5∧(∃ e1,x3[x5.toNat]?=some e1∧(∃ v2_0,Zx e1 0 (w (q.Ze - 1))=some (Bo v2_0,[])∧(if v2_0=true then (x5.toNat≤a.Vars.length∧(∃ v3_0,Zd4 (a.Vars.take x5.toNat) e1=some (Bo v3_0,[])∧(if v3_0=true then (some (Bo false,[])=some r) else (0≤e1∧(∃ e4,seen[e1.toNat]?=some e4∧(Zj5 q (seen.set e1.toNat true) a x x1 x2 x3 x4 (w (x5+1))=some r)))))) else (some (Bo false,[])=some r))))) else (Zf9 q seen x x1 (w (x2+1))=some r))) ∧
 (∀ a a1 r,Im (Zqq a a1=some r) (some (Bo (decide (a.Name=a1)),[])=some r)) ∧
 (∀ s f x x1 r,Im (Zhs s f x x1=some r) (if x1<x then (0≤x1∧(∃ e1,s[x1.toNat]?=some e1∧(∃ v2_0,Zqq e1 f=some (Bo v2_0,[])∧(if v2_0=true then (some (I x1,[])=some r) else (Zhs s f x (w (x1+1))=some r))))) else (some (I (-1),[])=some r))):=by
 and_intros
 all_goals intros
 all_goals unfold Im
 all_goals try simp only [Zx,Zhr,Zj3,Zm4,Zd4,Zj4,Zm5,Zm6,Zf9,Zj5,Zqq,Zhs,Zh.c_def,mpl,dfs]
 all_goals try simp only [itb]
 all_goals try simp only [itf,gS,kk]
 all_goals repeat' first | refine exI fun _=>?_ | refine anJ fun _ _=>?_ | refine anI fun _=>?_ | refine orE2 ?_ ?_ | exact False.elim
 all_goals (intro h;first | refine run Z9t rfl ?_ | refine run Z9u rfl ?_ | rw [EvL_eq Zqk.eq_1] | refine run Z9v rfl ?_ | refine run Z9w rfl ?_ | rw [EvL_eq Zqm.eq_1] | refine run Z9x rfl ?_ | refine run Z9y rfl ?_ | rw [EvL_eq Zm7.eq_1] | rw [EvL_eq Zqo.eq_1] | refine run Z90 rfl ?_ | rw [EvL_eq Zqr.eq_1])
 all_goals (refine Eq.trans ?_ h;clear h;simp +decide [*,kk,tI,tII,Zxb,Zxc,Zql,Zxd,Zxe,Zqn,Zxf,Zxg,Zm8,Zqp,Zxh,Zqs])
abbrev Zbdg:=Zc3.1
abbrev Zbdh:=Zc3.2.1
abbrev Z1q:=Zc3.2.2.1
abbrev Zbdi:=Zc3.2.2.2.1
abbrev Zbdj:=Zc3.2.2.2.2.1
abbrev Z1r:=Zc3.2.2.2.2.2.1
abbrev Zbdk:=Zc3.2.2.2.2.2.2.1
abbrev Zbdl:=Zc3.2.2.2.2.2.2.2.1
abbrev Z1s:=Zc3.2.2.2.2.2.2.2.2.1
abbrev Z1t:=Zc3.2.2.2.2.2.2.2.2.2.1
abbrev Zbdm:=Zc3.2.2.2.2.2.2.2.2.2.2.1
abbrev Z1u:=Zc3.2.2.2.2.2.2.2.2.2.2.2
theorem Zc4:(∀ a a1 r,Im (Zna a a1=some r) (Zhs a a1 (a.length:Int) 0=some r)) ∧
 (∀ row arity x x1 x2 r,Im (Zj6 row arity x x1 x2=some r) (if x2<x1 then (0≤x2∧(∃ e1,x[x2.toNat]?=some e1∧(∃ v2_0,Zx e1 0 9=some (Bo v2_0,[])∧(if v2_0=true then (Zj6 row arity x x1 (w (x2+1))=some r) else (some (Bo false,[])=some r))))) else (some (Bo (decide ((row.length:Int)=arity)),[])=some r))) ∧
 (∀ a a1 r,Im (Znb a a1=some r) (Zj6 a a1 a (a.length:Int) 0=some r)) ∧
 (∀ a r,Im (Znc a=some r) (some (Bo (!(decide (a=a))),[])=some r)) ∧
 (∀ a a1 r,Im (Znd a a1=some r) (∃ v1_0,Znc a=some (Bo v1_0,[])∧(∃ v2_0,Znc a1=some (Bo v2_0,[])∧(if v1_0=true then (if v2_0=true then (some (I 0,[])=some r) else (some (I (-1),[])=some r)) else (if v2_0=true then (some (I 1,[])=some r) else (if a<a1 then (some (I (-1),[])=some r) else (if a1<a then (some (I 1,[])=some r) else (some (I 0,[])=some r)))))))) ∧
 (∀ s1 s2 x x1 x2 r,Im (Zj7 s1 s2 x x1 x2=some r) (if x2<x1 then (0≤x2∧(∃ e1,x[x2.toNat]?=some e1∧(if (s2.length:Int)≤x2 then (some (I 1,[])=some r) else (∃ e2,s2[x2.toNat]?=some e2∧(∃ v3_0,Znd e1 e2=some (I v3_0,[])∧(if v3_0=0 then (Zj7 s1 s2 x x1 (w (x2+1))=some r) else (some (I v3_0,[])=some r))))))) else (if (s1.length:Int)<(s2.length:Int) then (some (I (-1),[])=some r) else (some (I 0,[])=some r)))) ∧
 (∀ a a1 r,Im (Zqx a a1=some r) (Zj7 a a1 a (a.length:Int) 0=some r)) ∧
 (∀ a a1 r,Im (Zne a a1=some r) (∃ v1_0,Zqx a a1=some (I v1_0,[])∧(some (I v1_0,[])=some r))) ∧
 (∀ rows i r,Im (Zj8 rows i=some r) (if i<(rows.length:Int) then (0≤(w (i - 1))∧(∃ e1,rows[(w (i - 1)).toNat]?=some e1∧(0≤i∧(∃ e2,rows[i.toNat]?=some e2∧(∃ v3_0,Zne e1 e2=some (I v3_0,[])∧(if 0≤v3_0 then (some (Bo false,[])=some r) else (Zj8 rows (w (i+1))=some r))))))) else (some (Bo true,[])=some r))) ∧
 (∀ a r,Im (Znf a=some r) (Zj8 a 1=some r)) ∧
 (∀ t x x1 x2 r,Im (Zka t x x1 x2=some r) (if x2<x1 then (0≤x2∧(∃ e1,x[x2.toNat]?=some e1∧(∃ v2_0,Znb e1 t.Arity=some (Bo v2_0,[])∧(if v2_0=true then (Zka t x x1 (w (x2+1))=some r) else (some (Bo false,[])=some r))))) else (∃ v3_0,Zhr t.Name=some (Bo v3_0,[])∧(if v3_0=true then (∃ v4_0,Zx t.Arity 1 3=some (Bo v4_0,[])∧(if v4_0=true then (if (t.Rows.length:Int)≤8 then (∃ v5_0,Znf t.Rows=some (Bo v5_0,[])∧(some (Bo v5_0,[])=some r)) else (some (Bo false,[])=some r)) else (some (Bo false,[])=some r))) else (some (Bo false,[])=some r))))) ∧
 (∀ a r,Im (Zj9 a=some r) (Zka a a.Rows (a.Rows.length:Int) 0=some r)):=by
 and_intros
 all_goals intros
 all_goals unfold Im
 all_goals try simp only [Zna,Zj6,Znb,Znc,Znd,Zj7,Zqx,Zne,Zj8,Znf,Zka,Zj9,Zx,Zhr,Zhs,mpl,dfs]
 all_goals try simp only [itb]
 all_goals try simp only [itf,gS,kk]
 all_goals repeat' first | refine exI fun _=>?_ | refine anJ fun _ _=>?_ | refine anI fun _=>?_ | refine orE2 ?_ ?_ | exact False.elim
 all_goals (intro h;first | refine run Z91 rfl ?_ | rw [EvL_eq Zqt.eq_1] | refine run Z92 rfl ?_ | refine run Z93 rfl ?_ | refine run Z94 rfl ?_ | rw [EvL_eq Zqv.eq_1] | refine run Z95 rfl ?_ | refine run Z96 rfl ?_ | rw [EvL_eq Zqy.eq_1] | refine run Z97 rfl ?_ | rw [EvL_eq Zq0.eq_1] | refine run Z98 rfl ?_)
 all_goals (refine Eq.trans ?_ h;clear h;simp +decide [*,kk,tI,tII,Zxi,Zqu,Zxj,Zxk,Zxl,Zqw,Zxm,Zxn,Zqz,Zxo,Zq1,Zxp])
abbrev Zbdn:=Zc4.1
abbrev Z1v:=Zc4.2.1
abbrev Zbdo:=Zc4.2.2.1
abbrev Z1w:=Zc4.2.2.2.1
abbrev Zbdp:=Zc4.2.2.2.2.1
abbrev Z1x:=Zc4.2.2.2.2.2.1
abbrev Zbdq:=Zc4.2.2.2.2.2.2.1
abbrev Zbdr:=Zc4.2.2.2.2.2.2.2.1
abbrev Zu6:=Zc4.2.2.2.2.2.2.2.2.1
abbrev Zbds:=Zc4.2.2.2.2.2.2.2.2.2.1
abbrev Z1y:=Zc4.2.2.2.2.2.2.2.2.2.2.1
abbrev Zbdt:=Zc4.2.2.2.2.2.2.2.2.2.2.2
theorem Zew:(∀ db x x1 x2 r,Im (Zht db x x1 x2=some r) (if x2<x1 then (0≤x2∧(∃ e1,x[x2.toNat]?=some e1∧(∃ v2_0,Zj9 e1=some (Bo v2_0,[])∧(if v2_0=true then (if 0<x2 then (0≤(w (x2 - 1))∧(∃ e3,db.Tables[(w (x2 - 1)).toNat]?=some e3∧(if (Op.bytesLess e3.Name.toList e1.Name.toList)=true then (Zht db x x1 (w (x2+1))=some r) else (some (Bo false,[])=some r)))) else (Zht db x x1 (w (x2+1))=some r)) else (some (Bo false,[])=some r))))) else (some (Bo (decide ((db.Tables.length:Int)≤6)),[])=some r))) ∧
 (∀ a r,Im (Zng a=some r) (Zht a a.Tables (a.Tables.length:Int) 0=some r)) ∧
 (∀ a r,Im (Ze7 a=some r) (a.length≤68719476736∧(some (.own 0,[.arr 3 1 true (a.map ic)])=some r))) ∧
 (∀ out x x1 x2 r,Im (Zkd out x x1 x2=some r) (if x2<x1 then (0≤x2∧(∃ e1,x[x2.toNat]?=some e1∧(∃ (v2_0:List Int),Ze7 e1=some (.own 0,[.arr 3 1 true (v2_0.map ic)])∧(out.length+1≤68719476736∧(Zkd (out++[v2_0]) x x1 (w (x2+1))=some r))))) else (some (.own 0,[.arr 30 1 true (out.map isc)])=some r))) ∧
 (∀ a r,Im (Zhu a=some r) (Zkd ([]:List (List Int)) a (a.length:Int) 0=some r)) ∧
 (∀ a r,Im (Zq5 a=some r) (∃ (v1_0:List (List Int)),Zhu a.Rows=some (.own 0,[.arr 30 1 true (v1_0.map isc)])∧(some (.agg [.t (.str a.Name),I a.Arity,.own 0],[.arr 30 1 true (v1_0.map isc)])=some r))) ∧
 (∀ a a1 r,Im (Ze8 a a1=some r) (∃ v1_0,Zna a.Tables a1=some (I v1_0,[])∧(if v1_0<0 then (some (.tup [.agg [.t (.str ⟨#[]⟩),I 0,.t .nil],Bo false],[])=some r) else (∃ v2_0,Zng a=some (Bo v2_0,[])∧(if v2_0=true then (0≤v1_0∧(∃ e3,a.Tables[v1_0.toNat]?=some e3∧(∃ (v4_0:List (List Int)),∃ v4_1,∃ v4_2,Zq5 e3=some (.agg [.t (.str v4_1),I v4_2,.own 0],[.arr 30 1 true (v4_0.map isc)])∧(some (.tup [.agg [.t (.str v4_1),I v4_2,.own 0],Bo true],[.arr 30 1 true (v4_0.map isc)])=some r)))) else (some (.tup [.agg [.t (.str ⟨#[]⟩),I 0,.t .nil],Bo false],[])=some r)))))) ∧
 (∀ db x x1 x2 r,Im (Zke db x x1 x2=some r) (if x2<x1 then (0≤x2∧(∃ e1,x[x2.toNat]?=some e1∧((∃ v2_0 v2_1,Ze8 db e1.Name=some (.tup [.agg [.t (.str v2_0),I v2_1,.t .nil],Bo false],[])∧(some (Bo false,[])=some r))∨(∃ (v3_0:List (List Int)),∃ v3_1,∃ v3_2,Ze8 db e1.Name=some (.tup [.agg [.t (.str v3_1),I v3_2,.own 0],Bo true],[.arr 30 1 true (v3_0.map isc)])∧(if v3_2=(e1.Vars.length:Int) then (Zke db x x1 (w (x2+1))=some r) else (some (Bo false,[])=some r)))))) else (some (Bo true,[])=some r))) ∧
 (∀ a a1 r,Im (Zga a a1=some r) (∃ v1_0,Zcw a1=some (Bo v1_0,[])∧(if v1_0=true then (Zke a a1.Atoms (a1.Atoms.length:Int) 0=some r) else (some (Bo false,[])=some r)))):=by
 and_intros
 all_goals intros
 all_goals unfold Im
 all_goals try simp only [Zht,Zng,Ze7,Zkd,Zhu,Zq5,Ze8,Zke,Zga,Zj9,Zh.c_def,Zna,Zi.c_def,Zcw,Zc.c_def,mpl,dfs]
 all_goals try simp only [itb]
 all_goals try simp only [itf,gS,kk]
 all_goals repeat' first | refine exI fun _=>?_ | refine anJ fun _ _=>?_ | refine anI fun _=>?_ | refine orE2 ?_ ?_ | exact False.elim
 all_goals (intro h;first | rw [EvL_eq Zq2.eq_1] | refine run Z99 rfl ?_ | refine run Zbaa rfl ?_ | rw [EvL_eq Zkb.eq_1] | refine run Z1n rfl ?_ | refine run Zbab rfl ?_ | refine run Zbac rfl ?_ | rw [EvL_eq Zq6.eq_1] | refine run Zbad rfl ?_)
 all_goals (refine Eq.trans ?_ h;clear h;simp +decide [*,kk,tI,tII,Zq3,Zxq,Zxr,Zkc,Zq4,Zxs,Zxt,Zq7,Zxu])
abbrev Z1z:=Zew.1
abbrev Zbdu:=Zew.2.1
abbrev Zbdv:=Zew.2.2.1
abbrev Z10:=Zew.2.2.2.1
abbrev Zbdw:=Zew.2.2.2.2.1
abbrev Zbdx:=Zew.2.2.2.2.2.1
abbrev Zbdy:=Zew.2.2.2.2.2.2.1
abbrev Z11:=Zew.2.2.2.2.2.2.2.1
abbrev Zbdz:=Zew.2.2.2.2.2.2.2.2
theorem Zbd0 (a:Zc) (r:AV×List Blk) (h:(∃ (v1_0:Bool),Zx a.Ze 1 4=some (Bo v1_0,[])∧(if v1_0=true then (∃ (v2_0:Bool),Zx (a.Atoms.length:Int) 1 4=some (Bo v2_0,[])∧(if v2_0=true then (0≤a.Ze∧(a.Ze.toNat*1≤room∧(a.Ze≤140737488355328∧(Zf9 a (List.replicate (a.Ze).toNat false) a.Atoms (a.Atoms.length:Int) 0=some r)))) else (some (Bo false,[])=some r))) else (some (Bo false,[])=some r)))):Zcw a=some r:=by
 unfold Zcw
 refine run Z9z rfl ?_
 obtain ⟨v1_0,q1,h⟩:=h
 unfold Zx at q1
 try simp at q1
 by_cases q2:v1_0=true
 ·rw [if_pos q2] at h
  obtain ⟨v2_0,q3,h⟩:=h
  unfold Zx at q3
  try simp at q3
  by_cases q4:v2_0=true
  ·rw [if_pos q4] at h
   obtain ⟨q5,h⟩:=h
   obtain ⟨q6,h⟩:=h
   have zq6:=q6;try simp at zq6
   obtain ⟨q7,h⟩:=h
   refine Eq.trans ?_ h
   clear h
   simp +decide [*,Zm9,tI,tII,Zf9]
  ·rw [if_neg q4] at h
   refine Eq.trans ?_ h
   clear h
   simp +decide [*,Zm9,tI,tII]
 ·rw [if_neg q2] at h
  refine Eq.trans ?_ h
  clear h
  simp +decide [*,Zm9,tI,tII]
theorem Zc5:(∀ a r,Im (Zcb a=some r) (∃ v1_0,Zcw a=some (Bo v1_0,[])∧(if v1_0=true then (¬ (a.Atoms.length:Int)<0∧(some (I (w ((shlI 1 (a.Atoms.length:Int)) - 1)),[])=some r)) else (some (I 0,[])=some r)))) ∧
 (∀ a a1 r,Im (Zhv a a1=some r) (∃ v1_0,Zcw a=some (Bo v1_0,[])∧(if v1_0=true then (¬ (a.Atoms.length:Int)<0∧(∃ v2_0,Zx a1 0 (w ((shlI 1 (a.Atoms.length:Int)) - 1))=some (Bo v2_0,[])∧(some (Bo v2_0,[])=some r))) else (some (Bo false,[])=some r)))) ∧
 (∀ q out mask v r,Im (Zgb q out mask v=some r) (if v<q.Ze then (Zhw q out mask v q.Atoms (q.Atoms.length:Int) 0=some r) else (some (.own 0,[.arr 3 1 true (out.map ic)])=some r))) ∧
 (∀ q out mask v x x1 x2 r,Im (Zhw q out mask v x x1 x2=some r) (if x2<x1 then (0≤x2∧(∃ e1,x[x2.toNat]?=some e1∧(¬ x2<0∧(if (andI (shrI mask x2) 1)=1 then (∃ v2_0,Zd4 e1.Vars v=some (Bo v2_0,[])∧(if v2_0=true then (out.length+1≤68719476736∧(Zgb q (out++[v]) mask (w (v+1))=some r)) else (Zhw q out mask v x x1 (w (x2+1))=some r))) else (Zhw q out mask v x x1 (w (x2+1))=some r))))) else (Zgb q out mask (w (v+1))=some r))) ∧
 (∀ a a1 r,Im (Zcx a a1=some r) (Zgb a ([]:List Int) a1 0=some r)) ∧
 (∀ out b x x1 x2 r,Im (Zhx out b x x1 x2=some r) (if x2<x1 then (0≤x2∧(∃ e1,x[x2.toNat]?=some e1∧(∃ v2_0,Zd4 b e1=some (Bo v2_0,[])∧(if v2_0=true then (out.length+1≤68719476736∧(Zhx (out++[e1]) b x x1 (w (x2+1))=some r)) else (Zhx out b x x1 (w (x2+1))=some r))))) else (some (.own 0,[.arr 3 1 true (out.map ic)])=some r))) ∧
 (∀ a a1 r,Im (Ze9 a a1=some r) (Zhx ([]:List Int) a1 a (a.length:Int) 0=some r)) ∧
 (∀ vars mask out x x1 x2 r,Im (Zgc vars mask out x x1 x2=some r) (if x2<x1 then (0≤x2∧(∃ e1,x[x2.toNat]?=some e1∧(¬ x2<0∧(if (andI (shrI mask x2) 1)=0 then (∃ (v2_0:List Int),Ze9 e1.Vars vars=some (.own 0,[.arr 3 1 true (v2_0.map ic)])∧(if 0<(v2_0.length:Int) then (Zgc vars mask (orI out (shlI 1 x2)) x x1 (w (x2+1))=some r) else (Zgc vars mask out x x1 (w (x2+1))=some r))) else (Zgc vars mask out x x1 (w (x2+1))=some r))))) else (some (I out,[])=some r))) ∧
 (∀ a a1 r,Im (Znj a a1=some r) (∃ (v1_0:List Int),Zcx a a1=some (.own 0,[.arr 3 1 true (v1_0.map ic)])∧(Zgc v1_0 a1 0 a.Atoms (a.Atoms.length:Int) 0=some r))) ∧
 (∀ q mask got r,Im (Zkf q mask got=some r) (∃ v1_0,Znj q got=some (I v1_0,[])∧(if (orI got (andI v1_0 mask))=got then (some (Bo (decide (got=mask)),[])=some r) else (Zkf q mask (orI got (andI v1_0 mask))=some r)))) ∧
 (∀ a a1 r,Im (Zek a a1=some r) (if a1=0 then (some (Bo false,[])=some r) else (Zkf a a1 (andI a1 (w (0 - a1)))=some r))) ∧
 (∀ a a1 r,Im (Zgd a a1=some r) (∃ v1_0,Zhv a a1=some (Bo v1_0,[])∧(if v1_0=true then (∃ v2_0,Zek a a1=some (Bo v2_0,[])∧(some (Bo v2_0,[])=some r)) else (some (Bo false,[])=some r)))):=by
 and_intros
 all_goals intros
 all_goals unfold Im
 all_goals try simp only [Zcb,Zhv,Zgb,Zhw,Zcx,Zhx,Ze9,Zgc,Znj,Zkf,Zek,Zgd,Zcw,Zc.c_def,Zx,Zd4,mpl,dfs]
 all_goals try simp only [itb]
 all_goals try simp only [itf,gS,kk]
 all_goals repeat' first | refine exI fun _=>?_ | refine anJ fun _ _=>?_ | refine anI fun _=>?_ | refine orE2 ?_ ?_ | exact False.elim
 all_goals (intro h;first | refine run Zbae rfl ?_ | refine run Zbaf rfl ?_ | rw [EvL_eq Znh.eq_1] | rw [EvL_eq Zq8.eq_1] | refine run Zbag rfl ?_ | rw [EvL_eq Zra.eq_1] | refine run Zbah rfl ?_ | rw [EvL_eq Zrc.eq_1] | refine run Zbai rfl ?_ | rw [EvL_eq Zre.eq_1] | refine run Zbaj rfl ?_ | refine run Zbak rfl ?_)
 all_goals (refine Eq.trans ?_ h;clear h;simp +decide [*,kk,tI,tII,Zxv,Zxw,Zni,Zq9,Zxx,Zxy,Zrb,Zxz,Zx0,Zrd,Zx1,Zx2,Zx3])
abbrev Zbd1:=Zc5.1
abbrev Zbd2:=Zc5.2.1
abbrev Z12:=Zc5.2.2.1
abbrev Z13:=Zc5.2.2.2.1
abbrev Zbd3:=Zc5.2.2.2.2.1
abbrev Z14:=Zc5.2.2.2.2.2.1
abbrev Zbd4:=Zc5.2.2.2.2.2.2.1
abbrev Z15:=Zc5.2.2.2.2.2.2.2.1
abbrev Zbd5:=Zc5.2.2.2.2.2.2.2.2.1
abbrev Z16:=Zc5.2.2.2.2.2.2.2.2.2.1
abbrev Z17:=Zc5.2.2.2.2.2.2.2.2.2.2.1
abbrev Zbd6:=Zc5.2.2.2.2.2.2.2.2.2.2.2
theorem Zc6:(∀ x r,Im (Zd5 x=some r) (some (.bsl 1 5,[.box (x.c.map .t),.box [.ptr 0 0,.ptr 0 6,.ptr 0 12,.ptr 0 18,.ptr 0 24]])=some r)) ∧
 (∀ x r,Im (Znk x=some r) (some (.bsl 1 5,[.box (x.c.map .t),.box [.ptr 0 0,.ptr 0 1,.ptr 0 2,.ptr 0 3,.ptr 0 4]])=some r)) ∧
 (∀ o x x1 x2 r,Im (Zfa o x x1 x2=some r) (if x2<x1 then (0≤x2∧(∃ e1,x[x2.toNat]?=some e1∧(∃ v2_0,Zx e1.Add (-99) 99=some (Bo v2_0,[])∧(if v2_0=true then (∃ v3_0,Zx e1.From 1 8192=some (Bo v3_0,[])∧(if v3_0=true then (if 0<x2 then (0≤(w (x2 - 1))∧(∃ e4,o.Steps[(w (x2 - 1)).toNat]?=some e4∧(if e1.From≤e4.From then (some (Bo false,[])=some r) else (Zfa o x x1 (w (x2+1))=some r)))) else (Zfa o x x1 (w (x2+1))=some r)) else (some (Bo false,[])=some r))) else (some (Bo false,[])=some r))))) else (some (Bo (decide ((o.Steps.length:Int)≤4)),[])=some r))) ∧
 (∀ a r,Im (Zbi a=some r) (Znk a=some (.bsl 1 5,[.box (a.c.map .t),.box [.ptr 0 0,.ptr 0 1,.ptr 0 2,.ptr 0 3,.ptr 0 4]])∧(Zck a 5 0=some r))) ∧
 (∀ out a r,Im (Zhy out a=some r) (if a≤7 then (Zge out a 0=some r) else (some (.own 0,[.arr 30 1 true (out.map isc)])=some r))) ∧
 (∀ out a b r,Im (Zge out a b=some r) (if b≤7 then (Zhz out a b 0=some r) else (Zhy out (w (a+1))=some r))) ∧
 (∀ out a b c r,Im (Zhz out a b c=some r) (if c≤7 then (out.length+1≤68719476736∧(Zhz (out++[[a,b,c]]) a b (w (c+1))=some r)) else (Zge out a (w (b+1))=some r))) ∧
 (∀ r,Im (Zcc=some r) (Zhy ([]:List (List Int)) 0=some r)) ∧
 (∀ a r,Im (Zd6 a=some r) (∃ v1_0,Zx a 0 7=some (Bo v1_0,[])∧(if v1_0=true then (if a=0 then (some (I 0,[])=some r) else (¬ (w (2*(w (a - 1))))<0∧(some (I (shlI 1 (w (2*(w (a - 1))))),[])=some r))) else (some (I (-1),[])=some r)))) ∧
 (∀ left right n x x1 x2 r,Im (Zh1 left right n x x1 x2=some r) (if x2<x1 then (0≤x2∧(∃ e1,x[x2.toNat]?=some e1∧(if e1.From≤(w (left+right)) then (Zh1 left right (w (n+e1.Add)) x x1 (w (x2+1))=some r) else (Zh1 left right n x x1 (w (x2+1))=some r)))) else (some (I n,[])=some r))) ∧
 (∀ a a1 a2 a3 r,Im (Zh0 a a1 a2 a3=some r) (Zh1 a1 a2 (w ((w ((w ((w (a.Fixed+(w (a.Zl*a1))))+(w (a.Zm*a2))))+(w (a.Zo*a3))))+(w ((w (a.Zn*a1))*a2)))) a.Steps (a.Steps.length:Int) 0=some r)) ∧
 (∀ a a1 r,Im (Zcy a a1=some r) (∃ e1,a1[0]?=some e1∧(∃ v2_0,Zd6 e1=some (I v2_0,[])∧(∃ e3,a1[1]?=some e3∧(∃ v4_0,Zd6 e3=some (I v4_0,[])∧(∃ e5,a1[2]?=some e5∧(∃ v6_0,Zd6 e5=some (I v6_0,[])∧(∃ v7_0,Zh0 a v2_0 v4_0 v6_0=some (I v7_0,[])∧(some (I v7_0,[])=some r))))))))):=by
 and_intros
 all_goals intros
 all_goals unfold Im
 all_goals try simp only [Zd5,Znk,Zfa,Zbi,Zhy,Zge,Zhz,Zcc,Zd6,Zh1,Zh0,Zcy,Zx,Zj.c_def,Zck,mpl,dfs]
 all_goals try simp only [itb]
 all_goals try simp only [itf,gS,kk]
 all_goals repeat' first | refine exI fun _=>?_ | refine anJ fun _ _=>?_ | refine anI fun _=>?_ | refine orE2 ?_ ?_ | exact False.elim
 all_goals (intro h;first | refine runM Zbal rfl ?_ | refine runM Zbam rfl ?_ | rw [EvL_eq Zrg.eq_1] | refine run Zban rfl ?_ | rw [EvL_eq Zkg.eq_1] | rw [EvL_eq Znl.eq_1] | rw [EvL_eq Zrj.eq_1] | refine run Zbao rfl ?_ | refine run Zbap rfl ?_ | rw [EvL_eq Zrl.eq_1] | refine run Zbaq rfl ?_ | refine run Zbar rfl ?_)
 all_goals (refine Eq.trans ?_ h;clear h;simp +decide [*,kk,tI,tII,Zx4,Zx5,Zrh,Zx6,Zkh,Znm,Zrk,Zx7,Zx8,Zx9,Zrm,Zya,Zyb])
abbrev Z18:=Zc6.1
abbrev Zbd7:=Zc6.2.1
abbrev Z19:=Zc6.2.2.1
abbrev Zbd8:=Zc6.2.2.2.1
abbrev Z2a:=Zc6.2.2.2.2.1
abbrev Z2b:=Zc6.2.2.2.2.2.1
abbrev Z2c:=Zc6.2.2.2.2.2.2.1
abbrev Zbd9:=Zc6.2.2.2.2.2.2.2.1
abbrev Zbea:=Zc6.2.2.2.2.2.2.2.2.1
abbrev Z2d:=Zc6.2.2.2.2.2.2.2.2.2.1
abbrev Zbeb:=Zc6.2.2.2.2.2.2.2.2.2.2.1
abbrev Zbec:=Zc6.2.2.2.2.2.2.2.2.2.2.2
theorem Zu7:(∀ o x x1 x2 r,Im (Zfb o x x1 x2=some r) (if x2<x1 then (0≤x2∧(∃ e1,x[x2.toNat]?=some e1∧(Zcz o x e1 x1 x2 (e1.length:Int) 0=some r))) else (some (.tup [.t .nil,.t .nil,Bo false],[])=some r))) ∧
 (∀ o x t x1 x2 x3 x4 r,Im (Zcz o x t x1 x2 x3 x4=some r) (if x4<x3 then (0≤x4∧(∃ e1,t[x4.toNat]?=some e1∧(if e1=7 then (Zcz o x t x1 x2 x3 (w (x4+1))=some r) else (∃ (v2_0:List Int),Ze7 t=some (.own 0,[.arr 3 1 true (v2_0.map ic)])∧(∃ e3,v2_0[x4.toNat]?=some e3∧(∃ v4_0,Zcy o (v2_0.set x4.toNat (w (e3+1)))=some (I v4_0,[])∧(∃ v5_0,Zcy o t=some (I v5_0,[])∧(if v4_0<v5_0 then (some (.tup [L 1 (t.map ic),.own 0,Bo true],[.arr 3 1 true ((v2_0.set x4.toNat (w (e3+1))).map ic)])=some r) else (Zcz o x t x1 x2 x3 (w (x4+1))=some r))))))))) else (Zfb o x x1 (w (x2+1))=some r))) ∧
 (∀ a r,Im (Zbd a=some r) (∃ v1_0,Zbi a=some (Bo v1_0,[])∧(if v1_0=true then (∃ (v2_0:List (List Int)),Zcc=some (.own 0,[.arr 30 1 true (v2_0.map isc)])∧(Zfb a v2_0 (v2_0.length:Int) 0=some r)) else (some (.tup [.t .nil,.t .nil,Bo false],[])=some r)))):=by
 and_intros
 all_goals intros
 all_goals unfold Im
 all_goals try simp only [Zfb,Zcz,Zbd,Ze7,Zcy,Zj.c_def,Zbi,Zcc,mpl,dfs]
 all_goals try simp only [itb]
 all_goals try simp only [itf,gS,kk]
 all_goals repeat' first | refine exI fun _=>?_ | refine anJ fun _ _=>?_ | refine anI fun _=>?_ | refine orE2 ?_ ?_ | exact False.elim
 all_goals (intro h;first | rw [EvL_eq Znn.eq_1] | rw [EvL_eq Zrn.eq_1] | refine run Zbas rfl ?_)
 all_goals (refine Eq.trans ?_ h;clear h;simp +decide [*,kk,tI,tII,Zno,Zyc,Zro,Zyd])
abbrev Z2e:=Zu7.1
abbrev Zu8:=Zu7.2.1
abbrev Zbed:=Zu7.2.2
theorem Zjj (o:Zj) (x:Int) (x1:Int) (r:AV×List Blk) (h:(if x1<x then (if x1=0 then (∃ (v1_0:Bool),Zx o.Fixed (-99) 99=some (Bo v1_0,[])∧(if v1_0=true then (Zck o x (w (x1+1))=some r) else (some (Bo false,[])=some r))) else (if x1=1 then (∃ (v2_0:Bool),Zx o.Zl (-99) 99=some (Bo v2_0,[])∧(if v2_0=true then (Zck o x (w (x1+1))=some r) else (some (Bo false,[])=some r))) else (if x1=2 then (∃ (v3_0:Bool),Zx o.Zm (-99) 99=some (Bo v3_0,[])∧(if v3_0=true then (Zck o x (w (x1+1))=some r) else (some (Bo false,[])=some r))) else (if x1=3 then (∃ (v4_0:Bool),Zx o.Zo (-99) 99=some (Bo v4_0,[])∧(if v4_0=true then (Zck o x (w (x1+1))=some r) else (some (Bo false,[])=some r))) else (if x1=4 then (∃ (v5_0:Bool),Zx o.Zn (-99) 99=some (Bo v5_0,[])∧(if v5_0=true then (Zck o x (w (x1+1))=some r) else (some (Bo false,[])=some r))) else False))))) else (Zfa o o.Steps (o.Steps.length:Int) 0=some r))):Zck o x x1=some r:=by
 unfold Zck
 rw [EvL_eq Zrf.eq_1]
 by_cases q1:x1<x
 ·rw [if_pos q1] at h
  by_cases q2:x1=0
  ·rw [if_pos q2] at h
   subst q2
   obtain ⟨v1_0,q3,h⟩:=h
   unfold Zx at q3
   try simp at q3
   by_cases q4:v1_0=true
   ·rw [if_pos q4] at h
    refine Eq.trans ?_ h
    clear h
    simp +decide [*,tI,tII,Zck]
   ·rw [if_neg q4] at h
    refine Eq.trans ?_ h
    clear h
    simp +decide [*,tI,tII]
  ·rw [if_neg q2] at h
   replace q2:=eq_false q2
   by_cases q5:x1=1
   ·rw [if_pos q5] at h
    subst q5
    obtain ⟨v2_0,q6,h⟩:=h
    unfold Zx at q6
    try simp at q6
    by_cases q7:v2_0=true
    ·rw [if_pos q7] at h
     refine Eq.trans ?_ h
     clear h
     simp +decide [*,tI,tII,Zck]
    ·rw [if_neg q7] at h
     refine Eq.trans ?_ h
     clear h
     simp +decide [*,tI,tII]
   ·rw [if_neg q5] at h
    replace q5:=eq_false q5
    by_cases q8:x1=2
    ·rw [if_pos q8] at h
     subst q8
     obtain ⟨v3_0,q9,h⟩:=h
     unfold Zx at q9
     try simp at q9
     by_cases q10:v3_0=true
     ·rw [if_pos q10] at h
      refine Eq.trans ?_ h
      clear h
      simp +decide [*,tI,tII,Zck]
     ·rw [if_neg q10] at h
      refine Eq.trans ?_ h
      clear h
      simp +decide [*,tI,tII]
    ·rw [if_neg q8] at h
     replace q8:=eq_false q8
     by_cases q11:x1=3
     ·rw [if_pos q11] at h
      subst q11
      obtain ⟨v4_0,q12,h⟩:=h
      unfold Zx at q12
      try simp at q12
      by_cases q13:v4_0=true
      ·rw [if_pos q13] at h
       refine Eq.trans ?_ h
       clear h
       simp +decide [*,tI,tII,Zck]
      ·rw [if_neg q13] at h
       refine Eq.trans ?_ h
       clear h
       simp +decide [*,tI,tII]
     ·rw [if_neg q11] at h
      replace q11:=eq_false q11
      by_cases q14:x1=4
      ·rw [if_pos q14] at h
       subst q14
       obtain ⟨v5_0,q15,h⟩:=h
       unfold Zx at q15
       try simp at q15
       by_cases q16:v5_0=true
       ·rw [if_pos q16] at h
        refine Eq.trans ?_ h
        clear h
        simp +decide [*,tI,tII,Zck]
       ·rw [if_neg q16] at h
        refine Eq.trans ?_ h
        clear h
        simp +decide [*,tI,tII]
      ·rw [if_neg q14] at h
       replace q14:=eq_false q14
       cases h
 ·rw [if_neg q1] at h
  refine Eq.trans ?_ h
  clear h
  simp +decide [*,tI,tII,Zfa,Zri]
theorem Zjk (x:Zd) (x1:Int) (x2:Int) (r:AV×List Blk) (h:(if x2<x1 then (if x2=0 then (∃ (v1_0:Bool),Zbi x.Scan=some (Bo v1_0,[])∧(if v1_0=true then ((Zbd x.Scan=some (.tup [.t .nil,.t .nil,Bo false],[])∧(∃ (v3_0:List (List Int)),Zcc=some (.own 0,[.arr 30 1 true (v3_0.map isc)])∧(Zfe x v3_0 (w (1+x2)) x1 x2 (v3_0.length:Int) 0=some r)))∨(∃ (v4_0:List Int) (v4_1:List Int),Zbd x.Scan=some (.tup [L 1 (v4_1.map ic),.own 0,Bo true],[.arr 3 1 true (v4_0.map ic)])∧(some (.tup [I (w (1+x2)),L 1 (v4_1.map ic),.own 0],[.arr 3 1 true (v4_0.map ic)])=some r))) else (some (.tup [I (w (1+x2)),.t .nil,.t .nil],[])=some r))) else (if x2=1 then (∃ (v5_0:Bool),Zbi x.Sort_=some (Bo v5_0,[])∧(if v5_0=true then ((Zbd x.Sort_=some (.tup [.t .nil,.t .nil,Bo false],[])∧(∃ (v7_0:List (List Int)),Zcc=some (.own 0,[.arr 30 1 true (v7_0.map isc)])∧(Zff x v7_0 (w (1+x2)) x1 x2 (v7_0.length:Int) 0=some r)))∨(∃ (v8_0:List Int) (v8_1:List Int),Zbd x.Sort_=some (.tup [L 1 (v8_1.map ic),.own 0,Bo true],[.arr 3 1 true (v8_0.map ic)])∧(some (.tup [I (w (1+x2)),L 1 (v8_1.map ic),.own 0],[.arr 3 1 true (v8_0.map ic)])=some r))) else (some (.tup [I (w (1+x2)),.t .nil,.t .nil],[])=some r))) else (if x2=2 then (∃ (v9_0:Bool),Zbi x.Hash=some (Bo v9_0,[])∧(if v9_0=true then ((Zbd x.Hash=some (.tup [.t .nil,.t .nil,Bo false],[])∧(∃ (v11_0:List (List Int)),Zcc=some (.own 0,[.arr 30 1 true (v11_0.map isc)])∧(Zfg x v11_0 (w (1+x2)) x1 x2 (v11_0.length:Int) 0=some r)))∨(∃ (v12_0:List Int) (v12_1:List Int),Zbd x.Hash=some (.tup [L 1 (v12_1.map ic),.own 0,Bo true],[.arr 3 1 true (v12_0.map ic)])∧(some (.tup [I (w (1+x2)),L 1 (v12_1.map ic),.own 0],[.arr 3 1 true (v12_0.map ic)])=some r))) else (some (.tup [I (w (1+x2)),.t .nil,.t .nil],[])=some r))) else (if x2=3 then (∃ (v13_0:Bool),Zbi x.Merge=some (Bo v13_0,[])∧(if v13_0=true then ((Zbd x.Merge=some (.tup [.t .nil,.t .nil,Bo false],[])∧(∃ (v15_0:List (List Int)),Zcc=some (.own 0,[.arr 30 1 true (v15_0.map isc)])∧(Zfh x v15_0 (w (1+x2)) x1 x2 (v15_0.length:Int) 0=some r)))∨(∃ (v16_0:List Int) (v16_1:List Int),Zbd x.Merge=some (.tup [L 1 (v16_1.map ic),.own 0,Bo true],[.arr 3 1 true (v16_0.map ic)])∧(some (.tup [I (w (1+x2)),L 1 (v16_1.map ic),.own 0],[.arr 3 1 true (v16_0.map ic)])=some r))) else (some (.tup [I (w (1+x2)),.t .nil,.t .nil],[])=some r))) else (if x2=4 then (∃ (v17_0:Bool),Zbi x.Nested=some (Bo v17_0,[])∧(if v17_0=true then ((Zbd x.Nested=some (.tup [.t .nil,.t .nil,Bo false],[])∧(∃ (v19_0:List (List Int)),Zcc=some (.own 0,[.arr 30 1 true (v19_0.map isc)])∧(Zfi x v19_0 (w (1+x2)) x1 x2 (v19_0.length:Int) 0=some r)))∨(∃ (v20_0:List Int) (v20_1:List Int),Zbd x.Nested=some (.tup [L 1 (v20_1.map ic),.own 0,Bo true],[.arr 3 1 true (v20_0.map ic)])∧(some (.tup [I (w (1+x2)),L 1 (v20_1.map ic),.own 0],[.arr 3 1 true (v20_0.map ic)])=some r))) else (some (.tup [I (w (1+x2)),.t .nil,.t .nil],[])=some r))) else False))))) else (some (.tup [I 0,.t .nil,.t .nil],[])=some r))):Z5 x x1 x2=some r:=by
 unfold Z5
 rw [EvL_eq Zfc.eq_1]
 by_cases q1:x2<x1
 ·rw [if_pos q1] at h
  by_cases q2:x2=0
  ·rw [if_pos q2] at h
   subst q2
   obtain ⟨v1_0,q3,h⟩:=h
   unfold Zbi at q3
   try simp at q3
   by_cases q4:v1_0=true
   ·rw [if_pos q4] at h
    rcases h with h | h
    ·
     obtain ⟨q5,h⟩:=h
     unfold Zbd at q5
     try simp at q5
     obtain ⟨v3_0,q6,h⟩:=h
     unfold Zcc at q6
     try simp at q6
     refine Eq.trans ?_ h
     clear h
     simp +decide [*,tI,tII,Zfe]
    ·
     obtain ⟨v4_0,v4_1,q7,h⟩:=h
     unfold Zbd at q7
     try simp at q7
     refine Eq.trans ?_ h
     clear h
     simp +decide [*,tI,tII]
   ·rw [if_neg q4] at h
    refine Eq.trans ?_ h
    clear h
    simp +decide [*,tI,tII]
  ·rw [if_neg q2] at h
   replace q2:=eq_false q2
   by_cases q8:x2=1
   ·rw [if_pos q8] at h
    subst q8
    obtain ⟨v5_0,q9,h⟩:=h
    unfold Zbi at q9
    try simp at q9
    by_cases q10:v5_0=true
    ·rw [if_pos q10] at h
     rcases h with h | h
     ·
      obtain ⟨q11,h⟩:=h
      unfold Zbd at q11
      try simp at q11
      obtain ⟨v7_0,q12,h⟩:=h
      unfold Zcc at q12
      try simp at q12
      refine Eq.trans ?_ h
      clear h
      simp +decide [*,tI,tII,Zff]
     ·
      obtain ⟨v8_0,v8_1,q13,h⟩:=h
      unfold Zbd at q13
      try simp at q13
      refine Eq.trans ?_ h
      clear h
      simp +decide [*,tI,tII]
    ·rw [if_neg q10] at h
     refine Eq.trans ?_ h
     clear h
     simp +decide [*,tI,tII]
   ·rw [if_neg q8] at h
    replace q8:=eq_false q8
    by_cases q14:x2=2
    ·rw [if_pos q14] at h
     subst q14
     obtain ⟨v9_0,q15,h⟩:=h
     unfold Zbi at q15
     try simp at q15
     by_cases q16:v9_0=true
     ·rw [if_pos q16] at h
      rcases h with h | h
      ·
       obtain ⟨q17,h⟩:=h
       unfold Zbd at q17
       try simp at q17
       obtain ⟨v11_0,q18,h⟩:=h
       unfold Zcc at q18
       try simp at q18
       refine Eq.trans ?_ h
       clear h
       simp +decide [*,tI,tII,Zfg]
      ·
       obtain ⟨v12_0,v12_1,q19,h⟩:=h
       unfold Zbd at q19
       try simp at q19
       refine Eq.trans ?_ h
       clear h
       simp +decide [*,tI,tII]
     ·rw [if_neg q16] at h
      refine Eq.trans ?_ h
      clear h
      simp +decide [*,tI,tII]
    ·rw [if_neg q14] at h
     replace q14:=eq_false q14
     by_cases q20:x2=3
     ·rw [if_pos q20] at h
      subst q20
      obtain ⟨v13_0,q21,h⟩:=h
      unfold Zbi at q21
      try simp at q21
      by_cases q22:v13_0=true
      ·rw [if_pos q22] at h
       rcases h with h | h
       ·
        obtain ⟨q23,h⟩:=h
        unfold Zbd at q23
        try simp at q23
        obtain ⟨v15_0,q24,h⟩:=h
        unfold Zcc at q24
        try simp at q24
        refine Eq.trans ?_ h
        clear h
        simp +decide [*,tI,tII,Zfh]
       ·
        obtain ⟨v16_0,v16_1,q25,h⟩:=h
        unfold Zbd at q25
        try simp at q25
        refine Eq.trans ?_ h
        clear h
        simp +decide [*,tI,tII]
      ·rw [if_neg q22] at h
       refine Eq.trans ?_ h
       clear h
       simp +decide [*,tI,tII]
     ·rw [if_neg q20] at h
      replace q20:=eq_false q20
      by_cases q26:x2=4
      ·rw [if_pos q26] at h
       subst q26
       obtain ⟨v17_0,q27,h⟩:=h
       unfold Zbi at q27
       try simp at q27
       by_cases q28:v17_0=true
       ·rw [if_pos q28] at h
        rcases h with h | h
        ·
         obtain ⟨q29,h⟩:=h
         unfold Zbd at q29
         try simp at q29
         obtain ⟨v19_0,q30,h⟩:=h
         unfold Zcc at q30
         try simp at q30
         refine Eq.trans ?_ h
         clear h
         simp +decide [*,tI,tII,Zfi]
        ·
         obtain ⟨v20_0,v20_1,q31,h⟩:=h
         unfold Zbd at q31
         try simp at q31
         refine Eq.trans ?_ h
         clear h
         simp +decide [*,tI,tII]
       ·rw [if_neg q28] at h
        refine Eq.trans ?_ h
        clear h
        simp +decide [*,tI,tII]
      ·rw [if_neg q26] at h
       replace q26:=eq_false q26
       cases h
 ·rw [if_neg q1] at h
  refine Eq.trans ?_ h
  clear h
  simp +decide [*,tI,tII,Zfd]
theorem Zc7:(∀ o x kind x1 x2 x3 x4 r,Im (Zfe o x kind x1 x2 x3 x4=some r) (if x4<x3 then (0≤x4∧(∃ e1,x[x4.toNat]?=some e1∧(∃ v2_0,Zcy o.Scan e1=some (I v2_0,[])∧(if v2_0<1 then (some (.tup [I kind,L 1 (e1.map ic),.t .nil],[])=some r) else (Zfe o x kind x1 x2 x3 (w (x4+1))=some r))))) else (Z5 o x1 (w (x2+1))=some r))) ∧
 (∀ o x kind x1 x2 x3 x4 r,Im (Zff o x kind x1 x2 x3 x4=some r) (if x4<x3 then (0≤x4∧(∃ e1,x[x4.toNat]?=some e1∧(∃ v2_0,Zcy o.Sort_ e1=some (I v2_0,[])∧(if v2_0<1 then (some (.tup [I kind,L 1 (e1.map ic),.t .nil],[])=some r) else (Zff o x kind x1 x2 x3 (w (x4+1))=some r))))) else (Z5 o x1 (w (x2+1))=some r))) ∧
 (∀ o x kind x1 x2 x3 x4 r,Im (Zfg o x kind x1 x2 x3 x4=some r) (if x4<x3 then (0≤x4∧(∃ e1,x[x4.toNat]?=some e1∧(∃ v2_0,Zcy o.Hash e1=some (I v2_0,[])∧(if v2_0<1 then (some (.tup [I kind,L 1 (e1.map ic),.t .nil],[])=some r) else (Zfg o x kind x1 x2 x3 (w (x4+1))=some r))))) else (Z5 o x1 (w (x2+1))=some r))) ∧
 (∀ o x kind x1 x2 x3 x4 r,Im (Zfh o x kind x1 x2 x3 x4=some r) (if x4<x3 then (0≤x4∧(∃ e1,x[x4.toNat]?=some e1∧(∃ v2_0,Zcy o.Merge e1=some (I v2_0,[])∧(if v2_0<1 then (some (.tup [I kind,L 1 (e1.map ic),.t .nil],[])=some r) else (Zfh o x kind x1 x2 x3 (w (x4+1))=some r))))) else (Z5 o x1 (w (x2+1))=some r))) ∧
 (∀ o x kind x1 x2 x3 x4 r,Im (Zfi o x kind x1 x2 x3 x4=some r) (if x4<x3 then (0≤x4∧(∃ e1,x[x4.toNat]?=some e1∧(∃ v2_0,Zcy o.Nested e1=some (I v2_0,[])∧(if v2_0<1 then (some (.tup [I kind,L 1 (e1.map ic),.t .nil],[])=some r) else (Zfi o x kind x1 x2 x3 (w (x4+1))=some r))))) else (Z5 o x1 (w (x2+1))=some r))) ∧
 (∀ a r,Im (Zh2 a=some r) (Zd5 a=some (.bsl 1 5,[.box (a.c.map .t),.box [.ptr 0 0,.ptr 0 6,.ptr 0 12,.ptr 0 18,.ptr 0 24]])∧(Z5 a 5 0=some r))) ∧
 (∀ a r,Im (Zh3 a=some r) ((∃ (v1_0:List Int),∃ v1_1,∃ (v1_2:List Int),Zh2 a=some (.tup [I v1_1,L 1 (v1_2.map ic),.own 0],[.arr 3 1 true (v1_0.map ic)])∧(some (Bo (decide (v1_1=0)),[])=some r))∨(∃ v2_0,Zh2 a=some (.tup [I v2_0,.t .nil,.t .nil],[])∧(some (Bo (decide (v2_0=0)),[])=some r))∨(∃ v3_0,∃ (v3_1:List Int),Zh2 a=some (.tup [I v3_0,L 1 (v3_1.map ic),.t .nil],[])∧(some (Bo (decide (v3_0=0)),[])=some r)))) ∧
 (∀ a a1 a2 r,Im (Zki a a1 a2=some r) (∃ v1_0,Zga a1 a2=some (Bo v1_0,[])∧(if v1_0=true then (∃ v2_0,Zcb a2=some (I v2_0,[])∧(∃ v3_0,Zgd a2 v2_0=some (Bo v3_0,[])∧(if v3_0=true then (∃ v4_0,Zh3 a=some (Bo v4_0,[])∧(some (Bo v4_0,[])=some r)) else (some (Bo false,[])=some r)))) else (some (Bo false,[])=some r)))) ∧
 (∀ q out mask r,Im (Zh4 q out mask=some r) (∃ v1_0,Zcb q=some (I v1_0,[])∧(if mask≤v1_0 then (∃ v2_0,Zek q mask=some (Bo v2_0,[])∧(if v2_0=true then (out.length+1≤68719476736∧(Zh4 q (out++[mask]) (w (mask+1))=some r)) else (Zh4 q out (w (mask+1))=some r))) else (some (.own 0,[.arr 3 1 true (out.map ic)])=some r)))) ∧
 (∀ a r,Im (Zgh a=some r) (Zh4 a ([]:List Int) 1=some r)) ∧
 (∀ out row x x1 x2 r,Im (Zkj out row x x1 x2=some r) (if x2<x1 then (0≤x2∧(∃ e1,x[x2.toNat]?=some e1∧(∃ v2_0,Zx e1 0 (w ((row.length:Int) - 1))=some (Bo v2_0,[])∧(if v2_0=true then (0≤e1∧(∃ e3,row[e1.toNat]?=some e3∧(out.length+1≤68719476736∧(Zkj (out++[e3]) row x x1 (w (x2+1))=some r)))) else (some (.tup [.t .nil,Bo false],[])=some r))))) else (some (.tup [.own 0,Bo true],[.arr 3 1 true (out.map ic)])=some r))) ∧
 (∀ a a1 r,Im (Zfj a a1=some r) (Zkj ([]:List Int) a a1 (a1.length:Int) 0=some r)):=by
 and_intros
 all_goals intros
 all_goals unfold Im
 all_goals try simp only [Zfe,Zff,Zfg,Zfh,Zfi,Zh2,Zh3,Zki,Zh4,Zgh,Zkj,Zfj,Zcy,Zj.c_def,Zd5,Zd.c_def,Zga,Zcb,Zgd,Zi.c_def,Zc.c_def,Zek,Zx,Z5,mpl,dfs]
 all_goals try simp only [itb]
 all_goals try simp only [itf,gS,kk]
 all_goals repeat' first | refine exI fun _=>?_ | refine anJ fun _ _=>?_ | refine anI fun _=>?_ | refine orE2 ?_ ?_ | exact False.elim
 all_goals (intro h;first | rw [EvL_eq Zgf.eq_1] | refine run Zbat rfl ?_ | refine run Zbau rfl ?_ | refine run Zbav rfl ?_ | rw [EvL_eq Zrp.eq_1] | refine run Zbaw rfl ?_ | rw [EvL_eq Zrs.eq_1] | refine run Zbax rfl ?_)
 all_goals (refine Eq.trans ?_ h;clear h;simp +decide [*,kk,tI,tII,Zgg,Zye,Zyf,Zyg,Zyh,Zrq,Zyi,Zrt,Zyj])
abbrev Z2f:=Zc7.1
abbrev Z2g:=Zc7.2.1
abbrev Z2h:=Zc7.2.2.1
abbrev Z2i:=Zc7.2.2.2.1
abbrev Z2j:=Zc7.2.2.2.2.1
abbrev Zbee:=Zc7.2.2.2.2.2.1
abbrev Zbef:=Zc7.2.2.2.2.2.2.1
abbrev Zbeg:=Zc7.2.2.2.2.2.2.2.1
abbrev Z2k:=Zc7.2.2.2.2.2.2.2.2.1
abbrev Zbeh:=Zc7.2.2.2.2.2.2.2.2.2.1
abbrev Z2l:=Zc7.2.2.2.2.2.2.2.2.2.2.1
abbrev Zbei:=Zc7.2.2.2.2.2.2.2.2.2.2.2
theorem Zo8:(∀ out x x1 r,Im (Zrv out x x1=some r) (if x1<x then False else (some (.own 0,[.arr 30 1 true (out.map isc)])=some r))) ∧
 (∀ r,Im (Zru=some r) (Zrv ([]:List (List Int)) 0 0=some r)) ∧
 (∀ r,Im (Zkk=some r) (∃ (v1_0:List (List Int)),Zru=some (.own 0,[.arr 30 1 true (v1_0.map isc)])∧(∃ (v2_0:List (List Int)),Zrw v1_0=some (.tup [],[.arr 30 1 true (v2_0.map isc)])∧(∃ (v3_0:List (List Int)),Zrx v2_0=some (.own 1,[.dead,.arr 30 1 true (v3_0.map isc)])∧(some (.own 0,[.arr 30 1 true (v3_0.map isc)])=some r))))) ∧
 (∀ a r,Im (Zkl a=some r) (∃ (v1_0:List (List Int)),Zhu a=some (.own 0,[.arr 30 1 true (v1_0.map isc)])∧(∃ (v2_0:List (List Int)),Zrw v1_0=some (.tup [],[.arr 30 1 true (v2_0.map isc)])∧(∃ (v3_0:List (List Int)),Zrx v2_0=some (.own 1,[.dead,.arr 30 1 true (v3_0.map isc)])∧(some (.own 0,[.arr 30 1 true (v3_0.map isc)])=some r))))):=by
 and_intros
 all_goals intros
 all_goals unfold Im
 all_goals try simp only [Zrv,Zru,Zkk,Zkl,Zrw,Zrx,Zhu,mpl,dfs]
 all_goals try simp only [itb]
 all_goals try simp only [itf,gS,kk]
 all_goals repeat' first | refine exI fun _=>?_ | refine anJ fun _ _=>?_ | refine anI fun _=>?_ | refine orE2 ?_ ?_ | exact False.elim
 all_goals (intro h;first | rw [EvL_eq Zkb.eq_1] | refine run Z1n rfl ?_ | refine run Zbay rfl ?_)
 all_goals (refine Eq.trans ?_ h;clear h;simp +decide [*,kk,tI,tII,Zkc,Zq4,Zyk])
abbrev Zbej:=Zo8.1
abbrev Zbek:=Zo8.2.1
abbrev Zbel:=Zo8.2.2.1
abbrev Zbem:=Zo8.2.2.2
theorem Zc8:(∀ db vars x mask x1 x2 x3 r,Im (Zgk db vars x mask x1 x2 x3=some r) (if x3<x2 then (0≤x3∧(∃ e1,x1[x3.toNat]?=some e1∧(¬ x3<0∧(if (andI (shrI mask x3) 1)=0 then (Zgk db vars x mask x1 x2 (w (x3+1))=some r) else ((∃ v2_0 v2_1,Ze8 db e1.Name=some (.tup [.agg [.t (.str v2_0),I v2_1,.t .nil],Bo false],[])∧(Zym db vars e1 v2_0 v2_1 ([]:List (List Int)) x mask x1 x2 x3 (x.length:Int) 0=some r))∨(∃ (v3_0:List (List Int)),∃ v3_1,∃ v3_2,Ze8 db e1.Name=some (.tup [.agg [.t (.str v3_1),I v3_2,.own 0],Bo true],[.arr 30 1 true (v3_0.map isc)])∧(Zh8 db vars e1 v3_1 v3_2 v3_0 ([]:List (List Int)) x mask x1 x2 x3 (x.length:Int) 0=some r))))))) else (Zkm vars x (x.length:Int) 0=some r))) ∧
 (∀ db vars a Name Arity x next x1 mask x2 x3 x4 x5 x6 r,Im (Zh8 db vars a Name Arity x next x1 mask x2 x3 x4 x5 x6=some r) (if x6<x5 then (0≤x6∧(∃ e1,x1[x6.toNat]?=some e1∧(Zgl db vars a Name Arity x next x1 mask e1 x2 x3 x4 x5 x6 (x.length:Int) 0=some r))) else (Zgk db vars next mask x2 x3 (w (x4+1))=some r))) ∧
 (∀ vars x x1 x2 r,Im (Zkm vars x x1 x2=some r) (if x2<x1 then (0≤x2∧(∃ e1,x[x2.toNat]?=some e1∧((Zfj e1 vars=some (.tup [.t .nil,Bo false],[])∧(Zgm vars ([[]]) x x1 (w (x2+1))=some r))∨(∃ (v3_0:List Int),Zfj e1 vars=some (.tup [.own 0,Bo true],[.arr 3 1 true (v3_0.map ic)])∧(Zgm vars ([v3_0]) x x1 (w (x2+1))=some r))))) else (∃ (v4_0:List (List Int)),Zkk=some (.own 0,[.arr 30 1 true (v4_0.map isc)])∧(some (.agg [.own 0,.own 1],[.arr 3 1 true (vars.map ic),.arr 30 1 true (v4_0.map isc)])=some r)))) ∧
 (∀ db vars a Name Arity x next x1 mask values x2 x3 x4 x5 x6 x7 x8 r,Im (Zgl db vars a Name Arity x next x1 mask values x2 x3 x4 x5 x6 x7 x8=some r) (if x8<x7 then (0≤x8∧(∃ e1,x[x8.toNat]?=some e1∧(∃ (v2_0:List Int),Ze7 values=some (.own 0,[.arr 3 1 true (v2_0.map ic)])∧(Zgn db vars a Name Arity x next v2_0 x1 mask values e1 true x2 x3 x4 x5 x6 x7 x8 a.Vars (a.Vars.length:Int) 0=some r)))) else (Zh8 db vars a Name Arity x next x1 mask x2 x3 x4 x5 (w (x6+1))=some r))) ∧
 (∀ vars x x1 x2 x3 r,Im (Zgm vars x x1 x2 x3=some r) (if x3<x2 then (0≤x3∧(∃ e1,x1[x3.toNat]?=some e1∧((Zfj e1 vars=some (.tup [.t .nil,Bo false],[])∧(x.length+1≤68719476736∧(Zgm vars (x++[[]]) x1 x2 (w (x3+1))=some r)))∨(∃ (v3_0:List Int),Zfj e1 vars=some (.tup [.own 0,Bo true],[.arr 3 1 true (v3_0.map ic)])∧(x.length+1≤68719476736∧(Zgm vars (x++[v3_0]) x1 x2 (w (x3+1))=some r)))))) else (∃ (v4_0:List (List Int)),Zkl x=some (.own 0,[.arr 30 1 true (v4_0.map isc)])∧(some (.agg [.own 0,.own 1],[.arr 3 1 true (vars.map ic),.arr 30 1 true (v4_0.map isc)])=some r)))) ∧
 (∀ db vars a Name Arity x next x1 x2 mask values row ok x3 x4 x5 x6 x7 x8 x9 x10 x11 x12 r,Im (Zgn db vars a Name Arity x next x1 x2 mask values row ok x3 x4 x5 x6 x7 x8 x9 x10 x11 x12=some r) (if x12<x11 then (0≤x12∧(∃ e1,x10[x12.toNat]?=some e1∧(if ok=true then (0≤e1∧(∃ e2,x1[e1.toNat]?=some e2∧(if e2=(-1) then (∃ e3,row[x12.toNat]?=some e3∧(Zgn db vars a Name Arity x next (x1.set e1.toNat e3) x2 mask values row true x3 x4 x5 x6 x7 x8 x9 x10 x11 (w (x12+1))=some r)) else (∃ e4,row[x12.toNat]?=some e4∧(Zgn db vars a Name Arity x next (x1.set e1.toNat e4) x2 mask values row (decide (e2=e4)) x3 x4 x5 x6 x7 x8 x9 x10 x11 (w (x12+1))=some r))))) else (∃ e5,row[x12.toNat]?=some e5∧(0≤e1∧(∃ e6,x1[e1.toNat]?=some e6∧(Zgn db vars a Name Arity x next (x1.set e1.toNat e5) x2 mask values row false x3 x4 x5 x6 x7 x8 x9 x10 x11 (w (x12+1))=some r))))))) else (if ok=true then (next.length+1≤68719476736∧(Zgl db vars a Name Arity x (next++[x1]) x2 mask values x3 x4 x5 x6 x7 x8 (w (x9+1))=some r)) else (Zgl db vars a Name Arity x next x2 mask values x3 x4 x5 x6 x7 x8 (w (x9+1))=some r)))) ∧
 (∀ a a1 a2 r,Im (Znt a a1 a2=some r) (∃ (v1_0:List Int),Zcx a1 a2=some (.own 0,[.arr 3 1 true (v1_0.map ic)])∧(∃ (v2_0:List Int),Zrr ([(-1)]) a1.Ze=some (.own 0,[.arr 3 1 true (v2_0.map ic)])∧(Zgk a v1_0 ([v2_0]) a2 a1.Atoms (a1.Atoms.length:Int) 0=some r)))) ∧
 (∀ db q out x x1 x2 r,Im (Zia db q out x x1 x2=some r) (if x2<x1 then (0≤x2∧(∃ e1,x[x2.toNat]?=some e1∧(∃ (v2_0:List Int) (v2_1:List (List Int)),Znt db q e1=some (.agg [.own 0,.own 1],[.arr 3 1 true (v2_0.map ic),.arr 30 1 true (v2_1.map isc)])∧(0≤e1∧(∃ e3,out[e1.toNat]?=some e3∧(Zia db q (out.set e1.toNat (v2_1.length:Int)) x x1 (w (x2+1))=some r)))))) else (some (.own 0,[.arr 3 1 true (out.map ic)])=some r))) ∧
 (∀ n c r,Im (Znv n c=some r) (∃ v1_0,Zd6 c=some (I v1_0,[])∧(if n≤v1_0 then (some (I c,[])=some r) else (Znv n (w (c+1))=some r)))) ∧
 (∀ a r,Im (Znu a=some r) (∃ v1_0,Zx a 0 4096=some (Bo v1_0,[])∧(if v1_0=true then (Znv a 0=some r) else (some (I (-1),[])=some r)))) ∧
 (∀ out x x1 x2 r,Im (Zkn out x x1 x2=some r) (if x2<x1 then (0≤x2∧(∃ e1,x[x2.toNat]?=some e1∧(∃ v2_0,Znu e1=some (I v2_0,[])∧(out.length+1≤68719476736∧(Zkn (out++[v2_0]) x x1 (w (x2+1))=some r))))) else (some (.own 0,[.arr 3 1 true (out.map ic)])=some r))) ∧
 (∀ a r,Im (Znw a=some r) (Zkn ([]:List Int) a (a.length:Int) 0=some r)):=by
 and_intros
 all_goals intros
 all_goals unfold Im
 all_goals try simp only [Zgk,Zh8,Zkm,Zgl,Zgm,Zgn,Znt,Zia,Znv,Znu,Zkn,Znw,Ze8,Zi.c_def,Zfj,Zkk,Ze7,Zkl,Zcx,Zrr,Zc.c_def,Zd6,Zx,Zym,mpl,dfs]
 all_goals try simp only [itb]
 all_goals try simp only [itf,gS,kk]
 all_goals repeat' first | refine exI fun _=>?_ | refine anJ fun _ _=>?_ | refine anI fun _=>?_ | refine orE2 ?_ ?_ | exact False.elim
 all_goals (intro h;first | rw [EvL_eq Zgi.eq_1] | rw [EvL_eq Zh5.eq_1] | rw [EvL_eq Znr.eq_1] | rw [EvL_eq Znp.eq_1] | rw [EvL_eq Zry.eq_1] | refine run Zbaz rfl ?_ | rw [EvL_eq Zr1.eq_1] | rw [EvL_eq Zr6.eq_1] | refine run Zba2 rfl ?_ | rw [EvL_eq Zr4.eq_1] | refine run Zba1 rfl ?_)
 all_goals (refine Eq.trans ?_ h;clear h;simp +decide [*,kk,tI,tII,Zh7,Zgj,Zh6,Zns,Znq,Zr0,Zrz,Zyl,Zr2,Zyp,Zr5,Zyn])
abbrev Z2m:=Zc8.1
abbrev Z2n:=Zc8.2.1
abbrev Zben:=Zc8.2.2.1
abbrev Z2o:=Zc8.2.2.2.1
abbrev Z2p:=Zc8.2.2.2.2.1
abbrev Z2q:=Zc8.2.2.2.2.2.1
abbrev Zbeo:=Zc8.2.2.2.2.2.2.1
abbrev Z2r:=Zc8.2.2.2.2.2.2.2.1
abbrev Zfs:=Zc8.2.2.2.2.2.2.2.2.1
abbrev Zbep:=Zc8.2.2.2.2.2.2.2.2.2.1
abbrev Z2s:=Zc8.2.2.2.2.2.2.2.2.2.2.1
abbrev Zbeq:=Zc8.2.2.2.2.2.2.2.2.2.2.2
theorem Zea:(∀ a a1 r,Im (Zko a a1=some r) ((Zh9 a a1=some (.t .nil,[])∧(∃ (v2_0:List Int),Zyo=some (.own 0,[.arr 3 1 true (v2_0.map ic)])∧(some (.own 0,[.arr 3 1 true (v2_0.map ic)])=some r)))∨(∃ (v3_0:List Int),Zh9 a a1=some (.own 0,[.arr 3 1 true (v3_0.map ic)])∧(∃ (v4_0:List Int),Znw v3_0=some (.own 0,[.arr 3 1 true (v4_0.map ic)])∧(some (.own 0,[.arr 3 1 true (v4_0.map ic)])=some r))))) ∧
 (∀ location x x1 x2 r,Im (Zkp location x x1 x2=some r) (if x2<x1 then (0≤x2∧(∃ e1,x[x2.toNat]?=some e1∧(∃ v2_0,Zx e1 0 7=some (Bo v2_0,[])∧(if v2_0=true then (Zkp location x x1 (w (x2+1))=some r) else (some (Bo false,[])=some r))))) else (some (Bo (decide ((location.length:Int)≤16)),[])=some r))) ∧
 (∀ a r,Im (Znx a=some r) (Zkp a a (a.length:Int) 0=some r)) ∧
 (∀ out location x x1 x2 r,Im (Zgo out location x x1 x2=some r) (if x2<x1 then (0≤x2∧(∃ e1,x[x2.toNat]?=some e1∧(∃ v2_0,Zd6 e1=some (I v2_0,[])∧(out.length+1≤68719476736∧(Zgo (out++[v2_0]) location x x1 (w (x2+1))=some r))))) else (∃ v3_0,Znx location=some (Bo v3_0,[])∧(if v3_0=true then (some (.own 0,[.arr 3 1 true (out.map ic)])=some r) else (some (.t .nil,[])=some r))))) ∧
 (∀ a r,Im (Zib a=some r) (Zgo ([]:List Int) a a (a.length:Int) 0=some r)) ∧
 (∀ q sizes x x1 x2 r,Im (Zkq q sizes x x1 x2=some r) (if x2<x1 then (0≤x2∧(∃ e1,x[x2.toNat]?=some e1∧(∃ v2_0,Zx e1 0 4096=some (Bo v2_0,[])∧(if v2_0=true then (Zkq q sizes x x1 (w (x2+1))=some r) else (some (Bo false,[])=some r))))) else (∃ v3_0,Zcw q=some (Bo v3_0,[])∧(if v3_0=true then (∃ v4_0,Zcb q=some (I v4_0,[])∧(some (Bo (decide ((sizes.length:Int)=(w (v4_0+1)))),[])=some r)) else (some (Bo false,[])=some r))))) ∧
 (∀ a a1 r,Im (Zgp a a1=some r) (Zkq a a1 a1 (a1.length:Int) 0=some r)) ∧
 (∀ out mask i r,Im (Zid out mask i=some r) (if i<4 then (¬ i<0∧(if (andI (shrI mask i) 1)=1 then (out.length+1≤68719476736∧(Zid (out++[i]) mask (w (i+1))=some r)) else (Zid out mask (w (i+1))=some r))) else (some (.own 0,[.arr 3 1 true (out.map ic)])=some r))) ∧
 (∀ a r,Im (Zic a=some r) (∃ v1_0,Zx a 0 15=some (Bo v1_0,[])∧(if v1_0=true then (Zid ([]:List Int) a 0=some r) else (some (.t .nil,[])=some r)))) ∧
 (∀ a r,Im (Zkr a=some r) (some (.agg [.own 0],[.arr 194 3 true (([(⟨1,a,0⟩:Zb)]).map Zb.c)])=some r)):=by
 and_intros
 all_goals intros
 all_goals unfold Im
 all_goals try simp only [Zko,Zkp,Znx,Zgo,Zib,Zkq,Zgp,Zid,Zic,Zkr,Zh9,Zyo,Znw,Zi.c_def,Zc.c_def,Zx,Zd6,Zcw,Zcb,mpl,dfs]
 all_goals try simp only [itb]
 all_goals try simp only [itf,gS,kk]
 all_goals repeat' first | refine exI fun _=>?_ | refine anJ fun _ _=>?_ | refine anI fun _=>?_ | refine orE2 ?_ ?_ | exact False.elim
 all_goals (intro h;first | refine run Zba3 rfl ?_ | rw [EvL_eq Zr7.eq_1] | refine run Zba4 rfl ?_ | rw [EvL_eq Zr9.eq_1] | refine run Zba5 rfl ?_ | rw [EvL_eq Zsb.eq_1] | refine run Zba6 rfl ?_ | rw [EvL_eq Zsd.eq_1] | refine run Zba7 rfl ?_ | refine run Zba8 rfl ?_)
 all_goals (refine Eq.trans ?_ h;clear h;simp +decide [*,kk,tI,tII,Zyq,Zr8,Zyr,Zsa,Zys,Zsc,Zyt,Zyu,Zse,Zyv,Zyw])
abbrev Zber:=Zea.1
abbrev Z2t:=Zea.2.1
abbrev Zbes:=Zea.2.2.1
abbrev Zu9:=Zea.2.2.2.1
abbrev Z2u:=Zea.2.2.2.2.1
abbrev Z2v:=Zea.2.2.2.2.2.1
abbrev Zbet:=Zea.2.2.2.2.2.2.1
abbrev Z2w:=Zea.2.2.2.2.2.2.2.1
abbrev Zbeu:=Zea.2.2.2.2.2.2.2.2.1
abbrev Zbev:=Zea.2.2.2.2.2.2.2.2.2
theorem Zbew (a:Zi) (a1:Zc) (r:AV×List Blk) (h:(∃ (v1_0:Bool),Zga a a1=some (Bo v1_0,[])∧(if v1_0=true then (∃ (v2_0:Int),Zcb a1=some (I v2_0,[])∧(0≤(w (v2_0+1))∧((w (v2_0+1))≤(w (v2_0+1))∧((w (v2_0+1)).toNat*8≤room∧((w (v2_0+1))≤140737488355328∧(∃ (v3_0:List Int),Zgh a1=some (.own 0,[.arr 3 1 true (v3_0.map ic)])∧(Zia a a1 (List.replicate ((w (v2_0+1))).toNat 0) v3_0 (v3_0.length:Int) 0=some r))))))) else (some (.t .nil,[])=some r)))):Zh9 a a1=some r:=by
 unfold Zh9
 refine run Zba0 rfl ?_
 obtain ⟨v1_0,q1,h⟩:=h
 unfold Zga at q1
 try simp at q1
 by_cases q2:v1_0=true
 ·rw [if_pos q2] at h
  obtain ⟨v2_0,q3,h⟩:=h
  unfold Zcb at q3
  try simp at q3
  obtain ⟨q4,h⟩:=h
  obtain ⟨q5,h⟩:=h
  obtain ⟨q6,h⟩:=h
  have zq6:=q6;try simp at zq6
  obtain ⟨q7,h⟩:=h
  obtain ⟨v3_0,q8,h⟩:=h
  unfold Zgh at q8
  try simp at q8
  refine Eq.trans ?_ h
  clear h
  simp +decide [*,Zr3,tI,tII,Zia]
 ·rw [if_neg q2] at h
  refine Eq.trans ?_ h
  clear h
  simp +decide [*,Zr3,tI,tII]
end Go.Proofs.YtgnfoghkbpkgjaaGreat
