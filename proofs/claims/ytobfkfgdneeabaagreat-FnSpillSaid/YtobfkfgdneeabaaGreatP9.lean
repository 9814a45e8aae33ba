/-
  Parts of the proofs for this seat: D1.
-/
import Derived.Test.YtobfkfgdneeabaaGreatP8
set_option linter.all false
set_option maxRecDepth 100000
set_option maxHeartbeats 4000000
set_option cbv.maxSteps 9999999
namespace Go.Proofs.YtobfkfgdneeabaaGreat
open Go.AM
noncomputable section
def Z6k:Ab:=AG (Zg 4 Tryz.f4)
def Mr(a:V2):Rs:=C 4 [L 1 (a.map (kc .u8))] []
def ZsT:Af (Zg 47 Tryz.f47):={ m:=_ }
def ZsU:Za:=Aa ZsT 9
def ZsV:Za:=Aa ZsT 19
def Z6l:Ab:=Zp ZsT 9 ZsU 19 ZsV
def gL(a:V2):Rs:=C 47 [L 1 (a.map (kc .u8))] []
def gM(c:V2)(h1 i:Int):Rs:=lp C [.blk 0,.seq ZsV,.fin 0 [.tmp 2]] [0,3,4] ZsU [L 1 (c.map (kc .u8)),I h1,I i] []
def Z6m:Af (Zg 109 Tryz.f109):={ m:=_ }
def Z6n:Za:=Aa Z6m 14
def Z6o:Ab:=Vu Z6m 14 Z6n
def H4(x:Zo):Rs:=C 109 [.ptr 0 0] [Ag x.c]
def Z6p:Ab:=AG (Zg 56 Tryz.f56)
def ZR(x:Zo)(a:Int):Rs:=C 56 [.ptr 0 0,I a] [Ag x.c]
def Z6q:Ab:=AG (Zg 53 Tryz.f53)
def Xo(x:Zo)(a:Int):Rs:=C 53 [.ptr 0 0,I a] [Ag x.c]
def Z6r:Ab:=AG (Zg 90 Tryz.f90)
def ZsW:Rs:=C 90 [] []
def Z6s:Ab:=AG (Zg 55 Tryz.f55)
def Wu(x:Zo)(x1:V2):Rs:=C 55 [.ptr 0 0,.own 1] [Ag x.c,Zm x1]
def ZsX:Af (Zg 91 Tryz.f91):={ m:=_ }
def Z6t:Za:=Aa ZsX 16
def Z6u:Za:=Aw ZsX 10 6 Z6t
def Z6v:Ab:=Vu ZsX 10 Z6u
def H5(x:Zo):Rs:=C 91 [.ptr 0 0] [Ag x.c]
def Z6w:Ab:=AG (Zg 48 Tryz.f48)
def gN(x:Zo):Rs:=C 48 [.ptr 0 0] [Ag x.c]
def Sj:Af (Zg 154 Tryz.f154):={ m:=_ }
def Z6x:Za:=Aa Sj 35
def Z6y:Za:=Aw Sj 27 8 Z6x
def ZsY:Za:=Aw Sj 11 16 Z6y
def Z6z:Za:=Aa Sj 43
def ZsZ:Za:=Aw Sj 37 6 Z6z
def Z60:Ab:=Zp Sj 11 ZsY 37 ZsZ
def KE(a:V2):Rs:=C 154 [.t .nil,Zq a] []
def Zta:=lp C [.blk 0,.seq ZsZ,.fin 0 [.tmp 4]] [0,1,5,6,7] ZsY
def Ztb(c:XS)(cd:V2)(cc:Bool)(i:Int):Rs:=Zta [.t .nil,Zq cd,.own 0,Bo cc,I i] [Z3 c]
def Ztc:Af (Zg 86 Tryz.f86):={ m:=_ }
def Ztd:Za:=Aa Ztc 7
def Zn8:Za:=Aa Ztc 31
def Z61:Ab:=Zp Ztc 7 Ztd 31 Zn8
def Vy(a a1:V2):Rs:=C 86 [Zq a,Zq a1] []
def gO(a b:V2)(i:Int):Rs:=lp C [.blk 0,.seq Zn8,.fin 0 [.tmp 4]] [0,1,5] Ztd [Zq a,Zq b,I i] []
def gP(a b:V2)(i:Int)(x:Bool):Rs:=Ev C [.fin 0 [.tmp 4]] Zn8 ⟨[(0,Zq a),(1,Zq b),(5,I i),(15,Bo x)],[[]],[]⟩
def Kh(a:XS)(a1:V2):Rs:=C 154 [Wl a,Zq a1] []
def Qg(cc c:XS)(cl:V2)(cd:Bool)(i:Int):Rs:=Zta [Wl c,Zq cl,.own 0,Bo cd,I i] [Z3 cc]
def Sk:Af (Zg 158 Tryz.f158):={ m:=_ }
def Zn9:Za:=Aa Sk 24
def ZnA:Za:=Aa Sk 34
def ZnB:Za:=Aa Sk 35
def Ms:Za:=BR Sk 9 15 Zn9 25 ZnA 26 ZnB
def Mt:Za:=Aa Sk 36
def Z62:Ab:=Zp Sk 9 Ms 36 Mt
def Q8(x:Zo)(a:KI)(a1 a2 a3:Int):Rs:=C 158 [.ptr 0 0,.t (.str a),I a1,I a2,I a3] [Ag x.c]
def ZnC(c:Zo)(co:KI)(cd:Int)(cl:KI)(cc cn cp n:Int):Rs:=EvL C [.blk 0,.seq Mt,.fin 1 [.cellO 10 (some 3) [none,none,some (38,1)]]] [0,2,4,10,11,12] Ms ⟨[(0,.ptr 0 0),(2,I cn),(4,I cp),(10,.ptr 1 0),(11,.ptr 2 0),(12,I n)],[[(0,.ptr 0 0)]],[Ag c.c,.box [.t (.str co),I cd,.t .nil],.box [.t (.str cl),I cc,.t .nil]]⟩
def Sl(c:Zo)(co:KI)(cd:Int)(cl:KI)(cc:Int)(cp:V2)(cn cu n i:Int):Rs:=EvL C [.blk 2,.seq ZnA,.blk 1,.seq ZnB,.loop [0,2,4,10,11,12] Ms,.blk 0,.seq Mt,.fin 1 [.cellO 10 (some 3) [none,none,some (38,1)]]] [0,2,4,10,11,12,13,14] Zn9 ⟨[(0,.ptr 0 0),(2,I cn),(4,I cu),(10,.ptr 1 0),(11,.ptr 2 0),(12,I n),(13,.own 3),(14,I i)],[[(0,.ptr 0 0)]],[Ag c.c,.box [.t (.str co),I cd,.t .nil],.box [.t (.str cl),I cc,.t .nil],Zm cp]⟩
def Sm(c:Zo)(co:KI)(cd:Int)(cl:KI)(cc:Int)(x:XS)(cn cp n:Int):Rs:=EvL C [.blk 0,.seq Mt,.fin 1 [.cellO 10 (some 3) [none,none,some (38,1)]]] [0,2,4,10,11,12] Ms ⟨[(0,.ptr 0 0),(2,I cn),(4,I cp),(10,.ptr 1 0),(11,.ptr 2 0),(12,I n)],[[(0,.ptr 0 0)]],[Ag c.c,.box [.t (.str co),I cd,.t .nil],.box [.t (.str cl),I cc,.own 3],Z3 x]⟩
def gQ(c:Zo)(co:KI)(cd:Int)(cl:KI)(cc:Int)(x:XS)(cp:V2)(cn cu n i:Int):Rs:=EvL C [.blk 2,.seq ZnA,.blk 1,.seq ZnB,.loop [0,2,4,10,11,12] Ms,.blk 0,.seq Mt,.fin 1 [.cellO 10 (some 3) [none,none,some (38,1)]]] [0,2,4,10,11,12,13,14] Zn9 ⟨[(0,.ptr 0 0),(2,I cn),(4,I cu),(10,.ptr 1 0),(11,.ptr 2 0),(12,I n),(13,.own 4),(14,I i)],[[(0,.ptr 0 0)]],[Ag c.c,.box [.t (.str co),I cd,.t .nil],.box [.t (.str cl),I cc,.own 3],Z3 x,Zm cp]⟩
def Sn:Af (Zg 92 Tryz.f92):={ m:=_ }
def Zte:Za:=Aa Sn 37
def Ztf:Za:=Aw Sn 31 6 Zte
def gT:Za:=Aw Sn 13 18 Ztf
def Ztg:Za:=Aa Sn 47
def gU:Za:=Aw Sn 41 6 Ztg
def Z63:Ab:=Zp Sn 13 gT 41 gU
def gV(x:Zo):Rs:=C 92 [.ptr 0 0] [Ag x.c]
def ZnD(c:Zo)(x:List KI)(cd cc x1 x2:Int):Rs:=EvL C [.blk 0,.seq gU,.fin 1 [.cellO 2 (some 1) [some (3,0)]]] [0,2,3,4,5,17,18,19] gT ⟨[(0,.ptr 0 0),(2,.ptr 1 0),(3,I cd),(4,I cc),(5,.ptr 2 0),(17,.own 3),(18,I x1),(19,I x2)],[[(0,.ptr 0 0)]],[Ag c.c,.box [.t .nil],.box [.t .nil],.arr 9 1 true (x.map sc)]⟩
def Ki(c:Zo)(x:List Zl)(x1:List KI)(cd cc x2 x3:Int):Rs:=EvL C [.blk 0,.seq gU,.fin 1 [.cellO 2 (some 1) [some (3,0)]]] [0,2,3,4,5,17,18,19] gT ⟨[(0,.ptr 0 0),(2,.ptr 1 0),(3,I cd),(4,I cc),(5,.ptr 2 0),(17,.own 4),(18,I x2),(19,I x3)],[[(0,.ptr 0 0)]],[Ag c.c,.box [.t .nil],.box [.own 3],.arr 112 3 true (x.map Zl.c),.arr 9 1 true (x1.map sc)]⟩
def So:Af (Zg 93 Tryz.f93):={ m:=_ }
def Z64:Za:=Aa So 26
def ZnE:Za:=Aw So 13 13 Z64
def Z65:Za:=Aa So 39
def Z66:Za:=Aw So 33 6 Z65
def ZnF:Za:=Aw So 27 6 Z66
def Z67:Ab:=Zp So 13 ZnE 27 ZnF
def gW(x:Zo):Rs:=C 93 [.ptr 0 0] [Ag x.c]
def Mu(c:Zo)(cd:KI)(To:Int)(cc:KI)(cl m i:Int):Rs:=EvL C [.blk 0,.seq ZnF,.fin 1 [.cellO 2 (some 3) [none,some (1,0),none]]] [0,2,4,5,6] ZnE ⟨[(0,.ptr 0 0),(2,.ptr 1 0),(4,I m),(5,.ptr 2 0),(6,I i)],[[(0,.ptr 0 0)]],[Ag c.c,.box [.t (.str cd),.t .nil,I To],.box [.t (.str cc),.t .nil,I cl]]⟩
def Sp(c:Zo)(cd:KI)(To:Int)(cc:KI)(cl:Int)(x:V2)(m i:Int):Rs:=EvL C [.blk 0,.seq ZnF,.fin 1 [.cellO 2 (some 3) [none,some (1,0),none]]] [0,2,4,5,6] ZnE ⟨[(0,.ptr 0 0),(2,.ptr 1 0),(4,I m),(5,.ptr 2 0),(6,I i)],[[(0,.ptr 0 0)]],[Ag c.c,.box [.t (.str cd),.t .nil,I To],.box [.t (.str cc),.own 3,I cl],Zm x]⟩
def Zth:Ab:=AG (Zg 127 Tryz.f127)
def Mv(a:KI):Rs:=C 127 [.t (.str a)] []
def Zti:Ab:=AG (Zg 32 Tryz.f32)
def Z0(a a1 a2:Int):Rs:=C 32 [I a,I a1,I a2] []
def Ztj:Af (Zg 203 Tryz.f203):={ m:=_ }
def Ztk:Za:=Aa Ztj 7
def Ztl:Za:=Aa Ztj 23
def Z68:Ab:=Zp Ztj 7 Ztk 23 Ztl
def Sq(a:V2)(a1:Int):Rs:=C 203 [Zq a,I a1] []
def gX(c:V2)(n i:Int):Rs:=lp C [.blk 0,.seq Ztl,.fin 0 [.tmp 4]] [0,1,5] Ztk [Zq c,I n,I i] []
def Ztm:Af (Zg 183 Tryz.f183):={ m:=_ }
def Ztn:Za:=Aa Ztm 15
def Zto:Za:=Aa Ztm 31
def Z69:Ab:=Zp Ztm 15 Ztn 31 Zto
def Jw(a:Zl):Rs:=C 183 [Ap a.c] []
def Ztp:=lp C [.blk 0,.seq Zto,.fin 0 [.tmp 2]] [1,3] Ztn
def Sr(t:Zl)(i:Int):Rs:=Ztp [.ptr 0 0,I i] [Ag t.c]
def Ztq:Af (Zg 129 Tryz.f129):={ m:=_ }
def Ztr:Za:=Aa Ztq 7
def Zts:Za:=Aa Ztq 23
def Z6A:Ab:=Zp Ztq 7 Ztr 23 Zts
def Ss(a:Zj):Rs:=C 129 [Ap a.c] []
def St(d:Zj)(i:Int):Rs:=lp C [.blk 0,.seq Zts,.fin 0 [.tmp 2]] [1,3] Ztr [.ptr 0 0,I i] [Ag d.c]
def Ztt:Af (Zg 130 Tryz.f130):={ m:=_ }
def Ztu:Za:=Aa Ztt 9
def Ztv:Za:=Aa Ztt 19
def Z6B:Ab:=Zp Ztt 9 Ztu 19 Ztv
def KF(a:Zl):Rs:=C 130 [Ap a.c] []
def Ztw:=lp C [.blk 0,.seq Ztv,.fin 0 [.cell 2 (some 3)]] [1,2,3,4] Ztu
def Ztx(t:Zl)(cn:KI)(cd:Int)(cl:KI)(cc i:Int):Rs:=Ztw [.ptr 0 0,.ptr 1 0,.ptr 2 0,I i] [Ag t.c,.box [.t (.str cn),I cd,.t .nil],.box [.t (.str cl),I cc,.t .nil]]
def Su(t:Zl)(cn:KI)(cd:Int)(cl:KI)(cc:Int)(x:XS)(i:Int):Rs:=Ztw [.ptr 0 0,.ptr 1 0,.ptr 2 0,I i] [Ag t.c,.box [.t (.str cn),I cd,.t .nil],.box [.t (.str cl),I cc,.own 3],Z3 x]
def Zty:Af (Zg 66 Tryz.f66):={ m:=_ }
def Ztz:Za:=Aa Zty 7
def Zt0:Za:=Aa Zty 23
def Z6C:Ab:=Zp Zty 7 Ztz 23 Zt0
def WG(a:Zj)(a1:KI):Rs:=C 66 [Ap a.c,.t (.str a1)] []
def gY(d:Zj)(cd:KI)(cc:Int)(cl:KI)(i:Int):Rs:=lp C [.blk 0,.seq Zt0,.fin 0 [.cell 4 (some 3),.tmp 5]] [1,2,4,6] Ztz [.t (.str cl),.ptr 0 0,.ptr 1 0,I i] [Ag d.c,.box [.t (.str cd),I cc,.t .nil]]
def H6(cc:KI)(c:Int):Rs:=C 183 [.agg [.t (.str cc),I c,.t .nil]] []
def Zt1(cc:KI)(c i:Int):Rs:=Ztp [.ptr 0 0,I i] [.box [.t (.str cc),I c,.t .nil]]
def Zt2:Af (Zg 206 Tryz.f206):={ m:=_ }
def Zt3:Za:=Aa Zt2 7
def Zt4:Za:=Aa Zt2 23
def Z6D:Ab:=Zp Zt2 7 Zt3 23 Zt4
def ZnG(cc:KI)(c:Int)(a:V2):Rs:=C 206 [.agg [.t (.str cc),I c,.t .nil],Zq a] []
def Zt5:=lp C [.blk 0,.seq Zt4,.fin 0 [.tmp 4]] [1,2,5] Zt3
def gZ(cc:KI)(c:Int)(cd:V2)(i:Int):Rs:=Zt5 [Zq cd,.ptr 0 0,I i] [.box [.t (.str cc),I c,.t .nil]]
def Zt6:Af (Zg 128 Tryz.f128):={ m:=_ }
def Zt7:Za:=Aa Zt6 7
def Zt8:Za:=Aa Zt6 23
def Zt9:Ab:=Zp Zt6 7 Zt7 23 Zt8
def VW(a:V2)(a1:Int):Rs:=C 128 [Zq a,I a1] []
def hJ(l:V2)(x i:Int):Rs:=lp C [.blk 0,.seq Zt8,.fin 0 [.tmp 4]] [0,1,5] Zt7 [Zq l,I x,I i] []
def Sv(a:Zl)(a1:V2):Rs:=C 206 [Ap a.c,Zq a1] []
def hU(t:Zl)(cc:V2)(i:Int):Rs:=Zt5 [Zq cc,.ptr 0 0,I i] [Ag t.c]
def Z6E:Ab:=AG (Zg 159 Tryz.f159)
def Sw(a:Zj)(a1:Z9):Rs:=C 159 [Ap a.c,Ap a1.c] []
def ZtA:Af (Zg 207 Tryz.f207):={ m:=_ }
def ZtB:Za:=Aa ZtA 9
def ZtC:Za:=Aa ZtA 27
def Z6F:Ab:=Zp ZtA 9 ZtB 27 ZtC
def H7(a a1:V2):Rs:=C 207 [Zq a,Zq a1] []
def iA(cc cd c:V2)(i:Int):Rs:=lp C [.blk 0,.seq ZtC,.fin 0 [.tmp 4,.tmp 5]] [0,1,6,7] ZtB [Zq cd,Zq c,.own 0,I i] [Zm cc]
def iB:Af (Zg 160 Tryz.f160):={ m:=_ }
def ZtD:Za:=Aa iB 23
def ZtE:Za:=Aa iB 41
def ZnH:Za:=AJ iB 9 14 ZtD 32 ZtE
def ZtF:Za:=Aa iB 42
def Z6G:Ab:=Zp iB 9 ZnH 42 ZtF
def ZnI(a:Zj)(a1:Z9):Rs:=C 160 [Ap a.c,Ap a1.c] []
def ZtG:List Fr:=[.blk 0,.seq ZtF,.fin 0 [.tmp 4]]
def ZtH:=lp C ZtG [2,3,5,7] ZnH
def ZtI(d:Zj)(f:Z9)(cd:KI)(cc k:Int):Rs:=ZtH [.ptr 0 0,.ptr 1 0,.ptr 2 0,I k] [Ag d.c,Ag f.c,.box [.t (.str cd),I cc,.t .nil]]
def Sx(d:Zj)(f:Z9)(cd:KI)(cc:Int)(x:XS)(k:Int):Rs:=ZtH [.ptr 0 0,.ptr 1 0,.ptr 2 0,I k] [Ag d.c,Ag f.c,.box [.t (.str cd),I cc,.own 3],Z3 x]
def H8(d:Zj)(f:Z9)(cd:KI)(cc:Int)(x:XS)(y:V2)(k i:Int):Rs:=lp C (.blk 2::.blk 1::.seq ZtE::.loop [2,3,5,7] ZnH::ZtG) [2,3,5,7,8,10] ZtD [.ptr 0 0,.ptr 1 0,.ptr 2 0,I k,.own 4,I i] [Ag d.c,Ag f.c,.box [.t (.str cd),I cc,.own 3],Z3 x,Zm y]
def Z6H:Ab:=AG (Zg 94 Tryz.f94)
def Sy(a:Zj)(a1:Z9):Rs:=C 94 [Ap a.c,Ap a1.c] []
def ZtJ:Ab:=AG (Zg 161 Tryz.f161)
def H9(x:Zo)(x1:List KI):Rs:=C 161 [.ptr 0 0,.own 1] [Ag x.c,.arr 9 1 true (x1.map sc)]
def ZnJ:Af (Zg 95 Tryz.f95):={ m:=_ }
def Z6I:Za:=Aa ZnJ 22
def Z6J:Za:=Aw ZnJ 16 6 Z6I
def Z6K:Za:=Aw ZnJ 10 6 Z6J
def Z6L:Ab:=Vu ZnJ 10 Z6K
def Sz(x:Zo):Rs:=C 95 [.ptr 0 0] [Ag x.c]
def Z6M:Ab:=AG (Zg 162 Tryz.f162)
def SA(a:Zj)(a1:Z2):Rs:=C 162 [Ap a.c,Ap a1.c] []
def Ia:Af (Zg 163 Tryz.f163):={ m:=_ }
def ZtK:Za:=Aa Ia 38
def ZtL:Za:=Aa Ia 53
def ZtM:Za:=Aa Ia 63
def ZtN:Za:=AJ Ia 48 5 ZtL 15 ZtM
def ZnK:Za:=Aa Ia 68
def iC:Za:=BR Ia 21 17 ZtK 27 ZtN 47 ZnK
def ZtO:Za:=Aa Ia 69
def Z6N:Ab:=Zp Ia 21 iC 69 ZtO
def ZtP(a:Zj)(a1:Z2):Rs:=C 163 [Ap a.c,Ap a1.c] []
def ZnL:List Fr:=[.blk 0,.seq ZtO,.fin 0 [.tmp 4]]
def iD:=lp C ZnL [3,5,6,8,10] iC
def KG(x:Z2)(co:V2)(cn:KI)(cd:Int)(cl:KI)(cc v:Int):Rs:=iD [.ptr 0 0,.own 1,.ptr 2 0,.ptr 3 0,I v] [Ag x.c,Zm co,.box [.t (.str cn),I cd,.t .nil],.box [.t (.str cl),I cc,.t .nil]]
def KH(x:Z2)(co:V2)(cn:KI)(cd:Int)(cl:KI)(cc:Int)(x1:XS)(v:Int):Rs:=iD [.ptr 0 0,.own 1,.ptr 2 0,.ptr 3 0,I v] [Ag x.c,Zm co,.box [.t (.str cn),I cd,.t .nil],.box [.t (.str cl),I cc,.own 4],Z3 x1]
def KJ(x:Z2)(co:V2)(cn:KI)(cd:Int)(x1:XS)(cl:KI)(cc v:Int):Rs:=iD [.ptr 0 0,.own 1,.ptr 2 0,.ptr 4 0,I v] [Ag x.c,Zm co,.box [.t (.str cn),I cd,.own 3],Z3 x1,.box [.t (.str cl),I cc,.t .nil]]
def KK(x:Z2)(co:V2)(cn:KI)(cd:Int)(x1:XS)(cl:KI)(cc:Int)(x2:XS)(v:Int):Rs:=iD [.ptr 0 0,.own 1,.ptr 2 0,.ptr 4 0,I v] [Ag x.c,Zm co,.box [.t (.str cn),I cd,.own 3],Z3 x1,.box [.t (.str cl),I cc,.own 5],Z3 x2]
def iE:=lp C (.blk 2::.seq ZtN::.blk 1::.seq ZnK::.loop [3,5,6,8,10] iC::ZnL) [3,5,6,8,10,11,12,13] ZtK
def iF(x:Z2)(cp:V2)(cn:KI)(cd:Int)(cl:KI)(cc v:Int)(co cu:Bool)(i:Int):Rs:=iE [.ptr 0 0,.own 1,.ptr 2 0,.ptr 3 0,I v,Bo co,Bo cu,I i] [Ag x.c,Zm cp,.box [.t (.str cn),I cd,.t .nil],.box [.t (.str cl),I cc,.t .nil]]
def iG(x:Z2)(cp:V2)(cn:KI)(cd:Int)(cl:KI)(cc:Int)(x1:XS)(v:Int)(co cu:Bool)(i:Int):Rs:=iE [.ptr 0 0,.own 1,.ptr 2 0,.ptr 3 0,I v,Bo co,Bo cu,I i] [Ag x.c,Zm cp,.box [.t (.str cn),I cd,.t .nil],.box [.t (.str cl),I cc,.own 4],Z3 x1]
def iH(x:Z2)(cp:V2)(cn:KI)(cd:Int)(x1:XS)(cl:KI)(cc v:Int)(co cu:Bool)(i:Int):Rs:=iE [.ptr 0 0,.own 1,.ptr 2 0,.ptr 4 0,I v,Bo co,Bo cu,I i] [Ag x.c,Zm cp,.box [.t (.str cn),I cd,.own 3],Z3 x1,.box [.t (.str cl),I cc,.t .nil]]
def iI(x:Z2)(cp:V2)(cn:KI)(cd:Int)(x1:XS)(cl:KI)(cc:Int)(x2:XS)(v:Int)(co cu:Bool)(i:Int):Rs:=iE [.ptr 0 0,.own 1,.ptr 2 0,.ptr 4 0,I v,Bo co,Bo cu,I i] [Ag x.c,Zm cp,.box [.t (.str cn),I cd,.own 3],Z3 x1,.box [.t (.str cl),I cc,.own 5],Z3 x2]
def iJ:=lp C (.blk 4::.seq ZtM::.blk 1::.seq ZnK::.loop [3,5,6,8,10] iC::ZnL) [3,5,6,8,10,11,12,14] ZtL
def SB(x:Z2)(cp:V2)(cn:KI)(cd:Int)(cl:KI)(cc v:Int)(co cu:Bool)(i:Int):Rs:=iJ [.ptr 0 0,.own 1,.ptr 2 0,.ptr 3 0,I v,Bo co,Bo cu,I i] [Ag x.c,Zm cp,.box [.t (.str cn),I cd,.t .nil],.box [.t (.str cl),I cc,.t .nil]]
def SC(x:Z2)(cp:V2)(cn:KI)(cd:Int)(cl:KI)(cc:Int)(x1:XS)(v:Int)(co cu:Bool)(i:Int):Rs:=iJ [.ptr 0 0,.own 1,.ptr 2 0,.ptr 3 0,I v,Bo co,Bo cu,I i] [Ag x.c,Zm cp,.box [.t (.str cn),I cd,.t .nil],.box [.t (.str cl),I cc,.own 4],Z3 x1]
def SD(x:Z2)(cp:V2)(cn:KI)(cd:Int)(x1:XS)(cl:KI)(cc v:Int)(co cu:Bool)(i:Int):Rs:=iJ [.ptr 0 0,.own 1,.ptr 2 0,.ptr 4 0,I v,Bo co,Bo cu,I i] [Ag x.c,Zm cp,.box [.t (.str cn),I cd,.own 3],Z3 x1,.box [.t (.str cl),I cc,.t .nil]]
def SE(x:Z2)(cp:V2)(cn:KI)(cd:Int)(x1:XS)(cl:KI)(cc:Int)(x2:XS)(v:Int)(co cu:Bool)(i:Int):Rs:=iJ [.ptr 0 0,.own 1,.ptr 2 0,.ptr 4 0,I v,Bo co,Bo cu,I i] [Ag x.c,Zm cp,.box [.t (.str cn),I cd,.own 3],Z3 x1,.box [.t (.str cl),I cc,.own 5],Z3 x2]
def Z6O:Ab:=AG (Zg 96 Tryz.f96)
def SF(a:Zj)(a1:Z2):Rs:=C 96 [Ap a.c,Ap a1.c] []
def ZnM:Af (Zg 258 Tryz.f258):={ m:=_ }
def Z6P:Za:=Aa ZnM 22
def ZtQ:Za:=Aw ZnM 9 13 Z6P
def ZtR:Za:=Aa ZnM 23
def Z6Q:Ab:=Zp ZnM 9 ZtQ 23 ZtR
def UC(a:Int):Rs:=C 258 [I a] []
def Mw(c:V2)(m v:Int):Rs:=lp C [.blk 0,.seq ZtR,.fin 0 [.tmp 2]] [0,3,4] ZtQ [I m,.own 0,I v] [Zm c]
def ZtS:Af (Zg 228 Tryz.f228):={ m:=_ }
def ZtT:Za:=Aa ZtS 9
def ZtU:Za:=Aa ZtS 19
def Z6R:Ab:=Zp ZtS 9 ZtT 19 ZtU
def iK(a:Int):Rs:=C 228 [I a] []
def Mx(c:XS)(n m:Int):Rs:=lp C [.blk 0,.seq ZtU,.fin 0 [.tmp 2]] [0,3,4] ZtT [I n,.own 0,I m] [Z3 c]
def Gs:Af (Zg 229 Tryz.f229):={ m:=_ }
def ZtV:Za:=Aa Gs 19
def Z6S:Za:=Aa Gs 66
def ZtW:Za:=Aw Gs 51 15 Z6S
def ZtX:Za:=Aa Gs 67
def ZtY:Za:=Aa Gs 68
def ZnN:Za:=BR Gs 36 15 ZtW 31 ZtX 32 ZtY
def ZtZ:Za:=Aa Gs 69
def Zua:Za:=AJ Gs 31 5 ZnN 38 ZtZ
def Z6T:Ab:=Zp Gs 19 ZtV 31 Zua
def SG(a:Zl)(a1:V2):Rs:=C 229 [Ap a.c,Zq a1] []
def iL(t:Zl)(cd:XS)(cc cl:V2)(i:Int):Rs:=lp C [.blk 0,.seq Zua,.fin 0 [.tmp 4,.tmp 5]] [1,2,6,7,8] ZtV [Zq cl,.ptr 0 0,.own 1,.own 2,I i] [Ag t.c,Z3 cd,Zm cc]
def Zub:List Fr:=[.blk 2,.seq ZtZ,.fin 0 [.tmp 4,.tmp 5]]
def SH(t:Zl)(cd:XS)(cc cl:V2)(k:Int):Rs:=lp C Zub [1,2,6,7,11] ZnN [Zq cl,.ptr 0 0,.own 1,.own 2,I k] [Ag t.c,Z3 cd,Zm cc]
def iO(t:Zl)(cd:XS)(cc cl:V2)(k n i:Int):Rs:=lp C (.blk 4::.seq ZtX::.blk 3::.seq ZtY::.loop [1,2,6,7,11] ZnN::Zub) [1,2,6,7,11,12,13] ZtW [Zq cl,.ptr 0 0,.own 1,.own 2,I k,I n,I i] [Ag t.c,Z3 cd,Zm cc]
def Zuc:Af (Zg 208 Tryz.f208):={ m:=_ }
def Zud:Za:=Aa Zuc 19
def Zue:Za:=Aa Zuc 31
def Z6U:Ab:=Zp Zuc 19 Zud 31 Zue
def My(a:Zl):Rs:=C 208 [Ap a.c] []
def Zuf:=lp C [.blk 0,.seq Zue,.fin 0 [.cellO 2 (some 4) [none,none,none,some (3,0)]]] [1,2,3,4,5] Zud
def Zug(t:Zl)(cp:KI)(cn cd:Int)(co:KI)(cl cc:Int)(l:XS)(i:Int):Rs:=Zuf [.ptr 0 0,.ptr 1 0,.ptr 2 0,.own 3,I i] [Ag t.c,.box [.t (.str cp),I cn,I cd,.t .nil],.box [.t (.str co),I cl,I cc,.t .nil],Z3 l]
def iP(t:Zl)(cp:KI)(cn cd:Int)(co:KI)(cl cc:Int)(fr:Bool)(x:List ZA)(l:XS)(i:Int):Rs:=Zuf [.ptr 0 0,.ptr 1 0,.ptr 2 0,.own 4,I i] [Ag t.c,.box [.t (.str cp),I cn,I cd,.t .nil],.box [.t (.str co),I cl,I cc,.own 3],.arr 261 3 fr (x.map ZA.c),Z3 l]
def Zuh:Af (Zg 164 Tryz.f164):={ m:=_ }
def Zui:Za:=Aa Zuh 17
def Zuj:Za:=Aa Zuh 29
def Z6V:Ab:=Zp Zuh 17 Zui 29 Zuj
def SI(a:Zj)(a1:Int):Rs:=C 164 [Ap a.c,I a1] []
def Zuk:=lp C [.blk 0,.seq Zuj,.fin 0 [.cellO 4 (some 2) [none,some (4,0)],.tmpO 5 [none]]] [2,4,6,7] Zui
def Zul(d:Zj)(cd cc i:Int):Rs:=Zuk [.ptr 0 0,.ptr 1 0,.ptr 2 0,I i] [Ag d.c,.box [I cd,.t .nil],.box [I cc,.t .nil]]
def iQ(d:Zj)(cd cc:Int)(fr:Bool)(x:List Z1)(i:Int):Rs:=Zuk [.ptr 0 0,.ptr 1 0,.ptr 2 0,I i] [Ag d.c,.box [I cd,.t .nil],.box [I cc,.own 3],.arr 240 4 fr (x.map Z1.c)]
def iR:Af (Zg 165 Tryz.f165):={ m:=_ }
def Zum:Za:=Aa iR 15
def Zun:Za:=Aa iR 36
def Zuo:Za:=Aa iR 52
def Zup:Za:=AJ iR 31 5 Zun 21 Zuo
def Z6W:Ab:=Zp iR 15 Zum 31 Zup
def SJ(a:Zj)(a1:List Z9)(a2:List Z2):Rs:=C 165 [Ap a.c,L 3 (a1.map Z9.c),L 4 (a2.map Z2.c)] []
def iS(d:Zj)(cc:List Z9)(cd:List Z2)(i:Int):Rs:=lp C [.blk 0,.seq Zup,.fin 0 [.tmp 6]] [1,2,3,7] Zum [L 3 (cc.map Z9.c),L 4 (cd.map Z2.c),.ptr 0 0,I i] [Ag d.c]
def iT(d:Zj)(cc:List Z2)(i:Int):Rs:=lp C [.blk 2,.seq Zuo,.fin 0 [.tmp 6]] [2,3,8] Zun [L 4 (cc.map Z2.c),.ptr 0 0,I i] [Ag d.c]
def Zuq:Af (Zg 166 Tryz.f166):={ m:=_ }
def Zur:Za:=Aa Zuq 9
def Zus:Za:=Aa Zuq 21
def Z6X:Ab:=Zp Zuq 9 Zur 21 Zus
def ZnO(a:Zj):Rs:=C 166 [Ap a.c] []
def Zut:=lp C [.blk 0,.seq Zus,.fin 0 [.cellO 2 (some 1) [some (112,3)]]] [1,2,3,4] Zur
def Zuu(d:Zj)(i:Int):Rs:=Zut [.ptr 0 0,.ptr 1 0,.ptr 2 0,I i] [Ag d.c,.box [.t .nil],.box [.t .nil]]
def Mz(d:Zj)(x:List Zl)(i:Int):Rs:=Zut [.ptr 0 0,.ptr 1 0,.ptr 2 0,I i] [Ag d.c,.box [.t .nil],.box [.own 3],.arr 112 3 true (x.map Zl.c)]
def Zuv:Af (Zg 167 Tryz.f167):={ m:=_ }
def Zuw:Za:=Aa Zuv 9
def Zux:Za:=Aa Zuv 19
def Z6Y:Ab:=Zp Zuv 9 Zuw 19 Zux
def ZnP(a:List Z9):Rs:=C 167 [L 3 (a.map Z9.c)] []
def iU(cc l:List Z9)(i:Int):Rs:=lp C [.blk 0,.seq Zux,.fin 0 [.tmp 2]] [0,3,4] Zuw [L 3 (l.map Z9.c),.own 0,I i] [.arr 152 3 true (cc.map Z9.c)]
def Z6Z:Ab:=AG (Zg 97 Tryz.f97)
def ZnQ(a:Zj)(a1:List Z9)(a2:List Z2):Rs:=C 97 [Ap a.c,L 3 (a1.map Z9.c),L 4 (a2.map Z2.c)] []
def MA:Af (Zg 49 Tryz.f49):={ m:=_ }
def Z7a:Za:=Aa MA 26
def Zuy:Za:=Aw MA 11 15 Z7a
def Z7b:Za:=Aa MA 49
def Zuz:Za:=Aw MA 34 15 Z7b
def Zu0:Za:=Aa MA 50
def Zu1:Za:=AJ MA 27 7 Zuz 23 Zu0
def Z7c:Ab:=Zp MA 11 Zuy 27 Zu1
def iV(x:Zo):Rs:=C 49 [.ptr 0 0] [Ag x.c]
def SK(c:Zo)(cc:Int)(d:Zj)(fr:Bool)(cd:List Z9)(n:Int):Rs:=EvL C [.blk 0,.seq Zu1,.fin 1 [.cellO 2 (some 5) [some (3,0),none,some (4,0),some (3,0),some (4,0)]]] [0,2,3,4,5] Zuy ⟨[(0,.ptr 0 0),(2,.ptr 1 0),(3,.ptr 2 0),(4,.own 3),(5,I n)],[[(0,.ptr 0 0)]],[Ag c.c,.box [.t .nil,I cc,.t .nil,.t .nil,.t .nil],Ag d.c,.arr 152 3 fr (cd.map Z9.c)]⟩
def iW(c:Zo)(cc:Int)(d:Zj)(fr:Bool)(cd:List Z9)(cl:List Z2)(n:Int):Rs:=EvL C [.blk 2,.seq Zu0,.fin 1 [.cellO 2 (some 5) [some (3,0),none,some (4,0),some (3,0),some (4,0)]]] [0,2,3,4,7,8] Zuz ⟨[(0,.ptr 0 0),(2,.ptr 1 0),(3,.ptr 2 0),(4,.own 3),(7,.own 4),(8,I n)],[[(0,.ptr 0 0)]],[Ag c.c,.box [.t .nil,I cc,.t .nil,.t .nil,.t .nil],Ag d.c,.arr 152 3 fr (cd.map Z9.c),.arr 156 4 true (cl.map Z2.c)]⟩
def ZnR:Af (Zg 169 Tryz.f169):={ m:=_ }
def ZIp:Za:=Aa ZnR 26
def ZIq:Za:=Aw ZnR 11 15 ZIp
def ZIr:Za:=Aa ZnR 27
def Z7d:Ab:=Zp ZnR 11 ZIq 27 ZIr
def iX:Af (Zg 65 Tryz.f65):={ m:=_ }
def Zu2:Za:=Aa iX 39
def Zu3:Za:=Aa iX 57
def ZnS:Za:=AJ iX 17 22 Zu2 40 Zu3
def Zu4:Za:=Aa iX 58
def ZnT:Ab:=Zp iX 17 ZnS 58 Zu4
def iY(c:Int):Rs:=C 65 [.agg [I c,.t .nil]] []
def ZnU:List Fr:=[.blk 0,.seq Zu4,.fin 0 [.tmp 2]]
def ZnV:=lp C ZnU [1,3,4] ZnS
def Z7e(c cc i:Int):Rs:=ZnV [.ptr 0 0,I cc,I i] [.box [I c,.t .nil]]
def ZnW:Af (Zg 171 Tryz.f171):={ m:=_ }
def ZIs:Za:=Aa ZnW 23
def ZIt:Za:=Aw ZnW 9 14 ZIs
def ZIu:Za:=Aa ZnW 25
def Z7f:Ab:=Zp ZnW 9 ZIt 25 ZIu
def Z7g:Ab:=AG (Zg 170 Tryz.f170)
def Kj(a:Zc):Rs:=C 65 [Ap a.c] []
def SL(q:Zc)(cc i:Int):Rs:=ZnV [.ptr 0 0,I cc,I i] [Ag q.c]
def iZ(q:Zc)(a:Zd)(cc i k:Int):Rs:=lp C (.blk 2::.blk 1::.seq Zu3::.loop [1,3,4] ZnS::ZnU) [1,3,4,5,6] Zu2 [.ptr 0 0,I cc,I i,.ptr 1 0,I k] [Ag q.c,Ag a.c]
def Zu5:Af (Zg 209 Tryz.f209):={ m:=_ }
def ZIv:Za:=Aa Zu5 9
def ZIw:Za:=Aa Zu5 19
def Z7h:Ab:=Zp Zu5 9 ZIv 19 ZIw
def Gt:Af (Zg 99 Tryz.f99):={ m:=_ }
def ZIx:Za:=Aa Gt 61
def ZIy:Za:=Aw Gt 46 15 ZIx
def ZIz:Za:=Aa Gt 62
def ZI0:Za:=AJ Gt 34 12 ZIy 28 ZIz
def ZI1:Za:=Aa Gt 63
def ZI2:Za:=Aa Gt 64
def ZI3:Za:=BR Gt 11 23 ZI0 52 ZI1 53 ZI2
def ZI4:Za:=Aa Gt 65
def Z7i:Ab:=Zp Gt 11 ZI3 65 ZI4
def i6(a:KI):Rs:=C 99 [.t (.str a)] []
def SM:Af (Zg 168 Tryz.f168):={ m:=_ }
def SN:Za:=Aa SM 42
def SO:Za:=Aa SM 56
def SP:Za:=Aa SM 57
def Gu:Za:=BR SM 21 21 SN 35 SO 36 SP
def Gv:Za:=Aa SM 58
def Z7j:Ab:=Zp SM 21 Gu 58 Gv
def ZnX(x:Zo):Rs:=C 168 [.ptr 0 0] [Ag x.c]
def i7(c:Zo)(cl cc:Int)(x:List Zd)(cd n:Int):Rs:=EvL C [.blk 0,.seq Gv,.fin 1 [.cellO 2 (some 2) [none,some (110,2)]]] [0,2,4,6,7] Gu ⟨[(0,.ptr 0 0),(2,.ptr 1 0),(4,.ptr 2 0),(6,.ptr 4 0),(7,I n)],[[(0,.ptr 0 0)]],[Ag c.c,.box [I cl,.t .nil],.box [I cc,.own 3],Js x,.box [I cd,.t .nil]]⟩
def i8(c:Zo)(cl cc:Int)(x:List Zd)(cd:Int)(cn:KI)(n m v i:Int):Rs:=EvL C [.blk 2,.seq SO,.blk 1,.seq SP,.loop [0,2,4,6,7] Gu,.blk 0,.seq Gv,.fin 1 [.cellO 2 (some 2) [none,some (110,2)]]] [0,2,4,6,7,9,10,11,12] SN ⟨[(0,.ptr 0 0),(2,.ptr 1 0),(4,.ptr 2 0),(6,.ptr 4 0),(7,I n),(9,.ptr 5 0),(10,I m),(11,I v),(12,I i)],[[(0,.ptr 0 0)]],[Ag c.c,.box [I cl,.t .nil],.box [I cc,.own 3],Js x,.box [I cd,.t .nil],.box [.t (.str cn),.t .nil]]⟩
def i9(c:Zo)(cl cc:Int)(x:List Zd)(cd:Int)(cn:KI)(x1:V2)(n m v i:Int):Rs:=EvL C [.blk 2,.seq SO,.blk 1,.seq SP,.loop [0,2,4,6,7] Gu,.blk 0,.seq Gv,.fin 1 [.cellO 2 (some 2) [none,some (110,2)]]] [0,2,4,6,7,9,10,11,12] SN ⟨[(0,.ptr 0 0),(2,.ptr 1 0),(4,.ptr 2 0),(6,.ptr 4 0),(7,I n),(9,.ptr 5 0),(10,I m),(11,I v),(12,I i)],[[(0,.ptr 0 0)]],[Ag c.c,.box [I cl,.t .nil],.box [I cc,.own 3],Js x,.box [I cd,.t .nil],.box [.t (.str cn),.own 6],Zm x1]⟩
def Kk(c:Zo)(cl cc:Int)(x:List Zd)(cd:Int)(x1:List Zd)(n:Int):Rs:=EvL C [.blk 0,.seq Gv,.fin 1 [.cellO 2 (some 2) [none,some (110,2)]]] [0,2,4,6,7] Gu ⟨[(0,.ptr 0 0),(2,.ptr 1 0),(4,.ptr 2 0),(6,.ptr 4 0),(7,I n)],[[(0,.ptr 0 0)]],[Ag c.c,.box [I cl,.t .nil],.box [I cc,.own 3],Js x,.box [I cd,.own 5],Js x1]⟩
def jA(c:Zo)(cl cc:Int)(x:List Zd)(cd:Int)(x1:List Zd)(cn:KI)(n m v i:Int):Rs:=EvL C [.blk 2,.seq SO,.blk 1,.seq SP,.loop [0,2,4,6,7] Gu,.blk 0,.seq Gv,.fin 1 [.cellO 2 (some 2) [none,some (110,2)]]] [0,2,4,6,7,9,10,11,12] SN ⟨[(0,.ptr 0 0),(2,.ptr 1 0),(4,.ptr 2 0),(6,.ptr 4 0),(7,I n),(9,.ptr 6 0),(10,I m),(11,I v),(12,I i)],[[(0,.ptr 0 0)]],[Ag c.c,.box [I cl,.t .nil],.box [I cc,.own 3],Js x,.box [I cd,.own 5],Js x1,.box [.t (.str cn),.t .nil]]⟩
def jB(c:Zo)(cl cc:Int)(x:List Zd)(cd:Int)(x1:List Zd)(cn:KI)(x2:V2)(n m v i:Int):Rs:=EvL C [.blk 2,.seq SO,.blk 1,.seq SP,.loop [0,2,4,6,7] Gu,.blk 0,.seq Gv,.fin 1 [.cellO 2 (some 2) [none,some (110,2)]]] [0,2,4,6,7,9,10,11,12] SN ⟨[(0,.ptr 0 0),(2,.ptr 1 0),(4,.ptr 2 0),(6,.ptr 4 0),(7,I n),(9,.ptr 6 0),(10,I m),(11,I v),(12,I i)],[[(0,.ptr 0 0)]],[Ag c.c,.box [I cl,.t .nil],.box [I cc,.own 3],Js x,.box [I cd,.own 5],Js x1,.box [.t (.str cn),.own 7],Zm x2]⟩
def ZnY(x:Zo)(a:List KI):Rs:=C 161 [.ptr 0 0,L 1 (a.map sc)] [Ag x.c]
def Z7k:Af (Zg 98 Tryz.f98):={ m:=_ }
def Z7l:Za:=Aa Z7k 10
def Z7m:Ab:=Vu Z7k 10 Z7l
def ZnZ(x:Zo):Rs:=C 98 [.ptr 0 0] [Ag x.c]
def Z7n:Ab:=AG (Zg 31 Tryz.f31)
def Wv(a:Zc):Rs:=C 31 [Ap a.c] []
def Z7o:Ab:=AG (Zg 155 Tryz.f155)
def SQ(a:Zc)(a1:Int):Rs:=C 155 [Ap a.c,I a1] []
def jC:Af (Zg 134 Tryz.f134):={ m:=_ }
def Zu6:Za:=Aa jC 21
def Zu7:Za:=Aa jC 31
def Zoa:Za:=AJ jC 9 12 Zu6 22 Zu7
def Zu8:Za:=Aa jC 32
def Z7p:Ab:=Zp jC 9 Zoa 32 Zu8
def Un(a:Zc)(a1:Int):Rs:=C 134 [Ap a.c,I a1] []
def Zu9:List Fr:=[.blk 0,.seq Zu8,.fin 0 [.tmp 4]]
def SR(q:Zc)(cc x i:Int):Rs:=lp C Zu9 [1,2,5,6] Zoa [I cc,.ptr 0 0,I x,I i] [Ag q.c]
def jD(q:Zc)(cc x i k:Int):Rs:=lp C (.blk 2::.blk 1::.seq Zu7::.loop [1,2,5,6] Zoa::Zu9) [1,2,5,6,7] Zu6 [I cc,.ptr 0 0,I x,I i,I k] [Ag q.c]
def Zob:Af (Zg 204 Tryz.f204):={ m:=_ }
def Z7q:Za:=Aa Zob 24
def ZuA:Za:=Aw Zob 11 13 Z7q
def ZuB:Za:=Aa Zob 25
def Z7r:Ab:=Zp Zob 11 ZuA 25 ZuB
def Zoc(a:Zc)(a1:Int):Rs:=C 204 [Ap a.c,I a1] []
def SS(q:Zc)(cd cl cc i:Int):Rs:=lp C [.blk 0,.seq ZuB,.fin 0 [.tmp 4]] [1,2,5,6,7] ZuA [I cd,.ptr 0 0,I cl,I cc,I i] [Ag q.c]
def ZuC:Af (Zg 156 Tryz.f156):={ m:=_ }
def ZuD:Za:=Aa ZuC 9
def ZuE:Za:=Aa ZuC 19
def Z7s:Ab:=Zp ZuC 9 ZuD 19 ZuE
def MB(a:Zc)(a1:Int):Rs:=C 156 [Ap a.c,I a1] []
def jE(q:Zc)(cc x n:Int):Rs:=lp C [.blk 0,.seq ZuE,.fin 0 [.tmp 4]] [1,2,5,6] ZuD [I cc,.ptr 0 0,I x,I n] [Ag q.c]
def Z7t:Ab:=AG (Zg 87 Tryz.f87)
def UD(a:Zc)(a1:Int):Rs:=C 87 [Ap a.c,I a1] []
def Z7u:Af (Zg 50 Tryz.f50):={ m:=_ }
def Z7v:Za:=Aa Z7u 10
def Z7w:Ab:=Vu Z7u 10 Z7v
def jF(x:Zo):Rs:=C 50 [.ptr 0 0] [Ag x.c]
def Zod:Af (Zg 100 Tryz.f100):={ m:=_ }
def Z7x:Za:=Aa Zod 30
def ZuF:Za:=Aw Zod 17 13 Z7x
def ZuG:Za:=Aa Zod 31
def Z7y:Ab:=Zp Zod 17 ZuF 31 ZuG
def MD(a:Zc)(a1:Int):Rs:=C 100 [Ap a.c,I a1] []
def ME(q:Zc)(cd:V2)(cc m:Int):Rs:=lp C [.blk 0,.seq ZuG,.fin 0 [.tmp 4]] [1,2,5,6] ZuF [I cc,.ptr 0 0,.own 1,I m] [Ag q.c,Zm cd]
def Zoe:Af (Zg 101 Tryz.f101):={ m:=_ }
def Z7z:Za:=Aa Zoe 22
def ZuH:Za:=Aw Zoe 9 13 Z7z
def ZuI:Za:=Aa Zoe 23
def Z70:Ab:=Zp Zoe 9 ZuH 23 ZuI
def Ib(a:Int):Rs:=C 101 [I a] []
def ST(cc:V2)(c i:Int):Rs:=lp C [.blk 0,.seq ZuI,.fin 0 [.tmp 2]] [0,3,4] ZuH [I c,.own 0,I i] [Zm cc]
def Z71:Ab:=AG (Zg 102 Tryz.f102)
def SU(a:Int):Rs:=C 102 [I a] []
def Z72:Ab:=AG (Zg 103 Tryz.f103)
def Jx(a a1:Zr)(a2 a3:Int):Rs:=C 103 [Ap a.c,Ap a1.c,I a2,I a3] []
def Zof:Af (Zg 210 Tryz.f210):={ m:=_ }
def Z73:Za:=Aa Zof 22
def ZuJ:Za:=Aw Zof 9 13 Z73
def ZuK:Za:=Aa Zof 23
def Z74:Ab:=Zp Zof 9 ZuJ 23 ZuK
def MF(a:Int):Rs:=C 210 [I a] []
def MG(cc:V2)(c v:Int):Rs:=lp C [.blk 0,.seq ZuK,.fin 0 [.tmp 2]] [0,3,4] ZuJ [I c,.own 0,I v] [Zm cc]
def Z75:Ab:=AG (Zg 172 Tryz.f172)
def Q9(a:Zc)(a1:Int):Rs:=C 172 [Ap a.c,I a1] []
def Zog:Af (Zg 104 Tryz.f104):={ m:=_ }
def Z76:Za:=Aa Zog 26
def ZuL:Za:=Aw Zog 13 13 Z76
def ZuM:Za:=Aa Zog 27
def Z77:Ab:=Zp Zog 13 ZuL 27 ZuM
def Ic(a:Zc)(a1 a2:Int):Rs:=C 104 [Ap a.c,I a1,I a2] []
def SV(c x y:V2)(i:Int):Rs:=lp C [.blk 0,.seq ZuM,.fin 0 [.tmp 6]] [7,8,9,10] ZuL [.own 0,.own 1,.own 2,I i] [Zm c,Zm x,Zm y]
def Z78:Ab:=AG (Zg 133 Tryz.f133)
def SW(a a1:Int):Rs:=C 133 [I a,I a1] []
def Zoh:Af (Zg 70 Tryz.f70):={ m:=_ }
def Z79:Za:=Aa Zoh 91
def Zoi:Za:=Aw Zoh 77 14 Z79
def Zoj:Za:=Aw Zoh 46 31 Zoi
def Z7A:Ab:=Vu Zoh 46 Zoj
def MH(a:Zc)(a1:Zn)(a2:List Zf)(a3:V2):Rs:=C 70 [Ap a.c,Ap a1.c,KC a2,Zq a3] []
def SY(q:Zc)(x:Zn)(x1:Zf)(cd:List Zf)(cc:V2)(n x2:Int)(x3:Bool):Rs:=Ev C [.blk 0,.seq (.seq (.reg [.o 213 (.build [.t (.int .i64 0),.t (.int .i64 0),.t (.int .i64 0),.t (.int .i64 0)] []),.n (.store 4 (.s 8) (.s 213)),.o 9 (.mov (.k (-1)))] [8,9]) (.ret)),.fin 0 [.cell 8 (some 4),.tmp 9]] Zoj ⟨[(2,KC cd),(3,Zq cc),(4,.ptr 0 0),(5,.ptr 1 0),(8,.ptr 2 0),(10,I n),(18,I x2),(106,Bo x3)],[[]],[Ag q.c,Ag x.c,Ag x1.c]⟩
def SZ(x:Zc)(x1:Zn)(x2 a b y:Zf)(v:Int):Rs:=Ev C [.blk 0,.seq (.seq (.reg [.o 213 (.build [.t (.int .i64 0),.t (.int .i64 0),.t (.int .i64 0),.t (.int .i64 0)] []),.n (.store 4 (.s 8) (.s 213)),.o 9 (.mov (.k (-1)))] [8,9]) (.ret)),.fin 0 [.cell 8 (some 4),.tmp 9]] Zoi ⟨[(5,.ptr 1 0),(8,.ptr 2 0),(11,.ptr 3 0),(12,.ptr 4 0),(13,I v),(14,.ptr 5 0)],[[]],[Ag x.c,Ag x1.c,Ag x2.c,Ag a.c,Ag b.c,Ag y.c]⟩
def MI(x:Zc)(x1:Zn)(x2 a b y:Zf)(v:Int)(x3:Bool):Rs:=Ev C [.blk 0,.seq (.seq (.reg [.o 213 (.build [.t (.int .i64 0),.t (.int .i64 0),.t (.int .i64 0),.t (.int .i64 0)] []),.n (.store 4 (.s 8) (.s 213)),.o 9 (.mov (.k (-1)))] [8,9]) (.ret)),.fin 0 [.cell 8 (some 4),.tmp 9]] Zoi ⟨[(5,.ptr 1 0),(8,.ptr 2 0),(11,.ptr 3 0),(12,.ptr 4 0),(13,I v),(14,.ptr 5 0),(182,Bo x3)],[[]],[Ag x.c,Ag x1.c,Ag x2.c,Ag a.c,Ag b.c,Ag y.c]⟩
def ZuN:Af (Zg 38 Tryz.f38):={ m:=_ }
def ZuO:Za:=Aa ZuN 19
def ZuP:Za:=Aa ZuN 41
def Z7B:Ab:=Zp ZuN 19 ZuO 41 ZuP
def Qh(a:Zc)(a1:Zr):Rs:=C 38 [Ap a.c,Ap a1.c] []
def jG(q:Zc)(p:Zr)(cd:List Zf)(cc:V2)(i:Int):Rs:=lp C [.blk 0,.seq ZuP,.fin 0 [.tmp 4,.tmp 5]] [2,3,6,7,8] ZuO [.ptr 0 0,.ptr 1 0,.own 2,.own 3,I i] [Ag q.c,Ag p.c,Q5 cd,Zm cc]
def Z7C:Ab:=AG (Zg 105 Tryz.f105)
def S0(a:Zc)(a1:Zr):Rs:=C 105 [Ap a.c,Ap a1.c] []
def Z7D:Ab:=AG (Zg 106 Tryz.f106)
def S2(a:Zr)(a1:Int):Rs:=C 106 [Ap a.c,I a1] []
def ZuQ:Af (Zg 51 Tryz.f51):={ m:=_ }
def Z7E:Za:=Aa ZuQ 61
def Z7F:Za:=Aw ZuQ 55 6 Z7E
def Z7G:Ab:=Vu ZuQ 55 Z7F
def MJ(x:Zo)(a:Zc)(a1:Int):Rs:=C 51 [.ptr 0 0,Ap a.c,I a1] [Ag x.c]
def jH:Af (Zg 259 Tryz.f259):={ m:=_ }
def ZuR:Za:=Aa jH 39
def ZuS:Za:=Aa jH 55
def Zok:Za:=AJ jH 15 24 ZuR 40 ZuS
def ZuT:Za:=Aa jH 56
def Z7H:Ab:=Zp jH 15 Zok 56 ZuT
def S3(a a1:Z1):Rs:=C 259 [Ap a.c,Ap a1.c] []
def ZuU:List Fr:=[.blk 0,.seq ZuT,.fin 0 [.tmp 4]]
def S4(a b:Z1)(i:Int):Rs:=lp C ZuU [2,3,5] Zok [.ptr 0 0,.ptr 1 0,I i] [Ag a.c,Ag b.c]
def jI(a b:Z1)(x y:ZA)(i k:Int):Rs:=lp C (.blk 2::.blk 1::.seq ZuS::.loop [2,3,5] Zok::ZuU) [2,3,5,6,7,8] ZuR [.ptr 0 0,.ptr 1 0,I i,.ptr 2 0,.ptr 3 0,I k] [Ag a.c,Ag b.c,Ag x.c,Ag y.c]
def ZuV:Af (Zg 230 Tryz.f230):={ m:=_ }
def ZuW:Za:=Aa ZuV 15
def ZuX:Za:=Aa ZuV 31
def Z7I:Ab:=Zp ZuV 15 ZuW 31 ZuX
def Zol(a a1:ZM):Rs:=C 230 [Ap a.c,Ap a1.c] []
def jJ(a b:ZM)(i:Int):Rs:=lp C [.blk 0,.seq ZuX,.fin 0 [.tmp 4]] [2,3,5] ZuW [.ptr 0 0,.ptr 1 0,I i] [Ag a.c,Ag b.c]
def Z7J:Ab:=AG (Zg 211 Tryz.f211)
def Zom(a:Zs):Rs:=C 211 [Ap a.c] []
def ZuY:Af (Zg 28 Tryz.f28):={ m:=_ }
def ZuZ:Za:=Aa ZuY 15
def Zva:Za:=Aa ZuY 33
def Z7K:Ab:=Zp ZuY 15 ZuZ 33 Zva
def QA(a:Zj)(a1:Zc):Rs:=C 28 [Ap a.c,Ap a1.c] []
def S5(d:Zj)(q:Zc)(i:Int):Rs:=lp C [.blk 0,.seq Zva,.fin 0 [.tmp 4]] [2,3,5] ZuZ [.ptr 0 0,.ptr 1 0,I i] [Ag d.c,Ag q.c]
def Z7L:Ab:=AG (Zg 173 Tryz.f173)
def VG(a:Zs)(a1:Zc)(a2:Int):Rs:=C 173 [Ap a.c,Ap a1.c,I a2] []
def Zvb:Af (Zg 197 Tryz.f197):={ m:=_ }
def Zvc:Za:=Aa Zvb 7
def Zvd:Za:=Aa Zvb 23
def Z7M:Ab:=Zp Zvb 7 Zvc 23 Zvd
def Gw(a:Zd)(a1:Int):Rs:=C 197 [Ap a.c,I a1] []
def S6(a:Zd)(v k:Int):Rs:=lp C [.blk 0,.seq Zvd,.fin 0 [.tmp 4]] [1,2,5] Zvc [I v,.ptr 0 0,I k] [Ag a.c]
def jK:Af (Zg 260 Tryz.f260):={ m:=_ }
def Zve:Za:=Aa jK 53
def Zvf:Za:=Aa jK 69
def Zon:Za:=AJ jK 25 28 Zve 44 Zvf
def Zvg:Za:=Aa jK 70
def Z7N:Ab:=Zp jK 25 Zon 70 Zvg
def Zoo(a:Zs)(a1:Zc)(a2 a3:Int):Rs:=C 260 [Ap a.c,Ap a1.c,I a2,I a3] []
def Zvh:List Fr:=[.blk 0,.seq Zvg,.fin 0 [.tmp 8]]
def MK(s:Zs)(q:Zc)(v:V2)(cc i k:Int):Rs:=lp C Zvh [2,3,4,5,9,10] Zon [I cc,I i,.ptr 0 0,.ptr 1 0,.own 2,I k] [Ag s.c,Ag q.c,Zm v]
def jL(s:Zs)(q:Zc)(v:V2)(want:Z2)(cc i k j:Int):Rs:=lp C (.blk 2::.blk 1::.seq Zvf::.loop [2,3,4,5,9,10] Zon::Zvh) [2,3,4,5,9,10,11,12] Zve [I cc,I i,.ptr 0 0,.ptr 1 0,.own 2,I k,.ptr 3 0,I j] [Ag s.c,Ag q.c,Zm v,Ag want.c]
def S7:Af (Zg 231 Tryz.f231):={ m:=_ }
def Zvi:Za:=Aa S7 9
def Z7O:Za:=Aa S7 53
def Zvj:Za:=Aw S7 32 21 Z7O
def Zvk:Za:=Aa S7 54
def Zvl:Za:=AJ S7 19 13 Zvj 35 Zvk
def Z7P:Ab:=Zp S7 9 Zvi 19 Zvl
def Kl(x:V2)(a:Zs)(a1:Zc)(a2:Int):Rs:=C 231 [Ap a.c,Ap a1.c,I a2,.own 0] [Zm x]
def jM(cc:V2)(s:Zs)(q:Zc)(cd cl i:Int):Rs:=EvL C [.blk 0,.seq Zvl,.fin 1 [.tmp 8]] [2,3,4,5,9,10] Zvi ⟨[(2,I cd),(3,.own 0),(4,.ptr 1 0),(5,.ptr 2 0),(9,I cl),(10,I i)],[[(0,.own 0)]],[Zm cc,Ag s.c,Ag q.c]⟩
def Km(cc:V2)(s:Zs)(q:Zc)(cd cl i:Int):Rs:=EvL C [.blk 2,.seq Zvk,.fin 1 [.tmp 8]] [2,3,4,5,9,11] Zvj ⟨[(2,I cd),(3,.own 0),(4,.ptr 1 0),(5,.ptr 2 0),(9,I cl),(11,I i)],[[(0,.own 0)]],[Zm cc,Ag s.c,Ag q.c]⟩
end
