/-
  Parts of the proofs for this seat: D1.
-/
import Derived.Test.YthdihnbeifcppaaGreatP9
set_option linter.all false
set_option maxRecDepth 100000
set_option maxHeartbeats 4000000
set_option cbv.maxSteps 9999999
namespace Go.Proofs.YthdihnbeifcppaaGreat
open Go.AM
noncomputable section
def ZxS:MFun:=mkF (Zi 197 Tryz.f197)
def Uv(a:V6):Rs:=C 197 [Z2 a] []
def ZnM:RawF (Zi 258 Tryz.f258):={ m:=_ }
def ZnN:MCode:=cut0 ZnM 9
def ZnO:MCode:=cut0 ZnM 21
def ZxT:MFun:=Z3 ZnM 9 ZnN 21 ZnO
def Zae(a:V4):Rs:=C 258 [WG a] []
def ZcP(c x:V4)(x1 x2:Int):Rs:=lp C [.blk 0,.seq ZnO,.fin 0 [.tmp 2]] [3,7,8,9] ZnN [.own 0,WG x,I x1,I x2] [Xl c]
def ZxU:MFun:=mkF (Zi 195 Tryz.f195)
def WJ(a:Zc):Rs:=C 195 [gaO a.c] []
def ZnP:RawF (Zi 124 Tryz.f124):={ m:=_ }
def ZnQ:MCode:=cut0 ZnP 9
def ZnR:MCode:=cut0 ZnP 21
def ZxV:MFun:=Z3 ZnP 9 ZnQ 21 ZnR
def QZ(a:Zl):Rs:=C 124 [gaO a.c] []
def ZnS:=lp C [.blk 0,.seq ZnR,.fin 0 [.cellO 2 (some 1) [some (179,3)]]] [2,3,8,9,10] ZnQ
def ZnT(x:List Zc)(x1 x2:Int):Rs:=ZnS [.ptr 0 0,.ptr 1 0,L 3 (x.map Zc.c),I x1,I x2] [.box [.t .nil],.box [.t .nil]]
def Zfr(x x1:List Zc)(x2 x3:Int):Rs:=ZnS [.ptr 0 0,.ptr 1 0,L 3 (x1.map Zc.c),I x2,I x3] [.box [.t .nil],.box [.own 2],.arr 179 3 true (x.map Zc.c)]
def ZnU:RawF (Zi 196 Tryz.f196):={ m:=_ }
def ZnV:MCode:=cut0 ZnU 9
def ZnW:MCode:=cut0 ZnU 21
def ZxW:MFun:=Z3 ZnU 9 ZnV 21 ZnW
def Zfs(a:Zk):Rs:=C 196 [gaO a.c] []
def Zft(s:Zk)(cd:UP)(Arity RowCount:Int)(cc x:List Zy)(x1 x2:Int):Rs:=lp C [.blk 0,.seq ZnW,.fin 0 [.cell 2 (some 4)]] [1,2,3,8,9,10] ZnV [.ptr 0 0,.ptr 1 0,.own 2,L 3 (x.map Zy.c),I x1,I x2] [gbO s.c,.box [.t (.str cd),I Arity,I RowCount,.t .nil],.arr 249 3 true (cc.map Zy.c)]
def ZnX:RawF (Zi 125 Tryz.f125):={ m:=_ }
def ZnY:MCode:=cut0 ZnX 9
def ZnZ:MCode:=cut0 ZnX 21
def ZxX:MFun:=Z3 ZnX 9 ZnY 21 ZnZ
def ZjK(a:Zu):Rs:=C 125 [gaO a.c] []
def Zoa:=lp C [.blk 0,.seq ZnZ,.fin 0 [.cellO 2 (some 2) [none,some (191,4)]]] [2,3,10,11,12] ZnY
def Zob(Version Version1:Int)(x:List Zk)(x1 x2:Int):Rs:=Zoa [.ptr 0 0,.ptr 1 0,L 4 (x.map Zk.c),I x1,I x2] [.box [I Version,.t .nil],.box [I Version1,.t .nil]]
def Zfu(Version Version1:Int)(x x1:List Zk)(x2 x3:Int):Rs:=Zoa [.ptr 0 0,.ptr 1 0,L 4 (x1.map Zk.c),I x2,I x3] [.box [I Version,.t .nil],.box [I Version1,.own 2],.arr 191 4 true (x.map Zk.c)]
def Zoc:RawF (Zi 126 Tryz.f126):={ m:=_ }
def Zod:MCode:=cut0 Zoc 9
def Zoe:MCode:=cut0 Zoc 23
def ZxY:MFun:=Z3 Zoc 9 Zod 23 Zoe
def Zof(a:List Zp):Rs:=C 126 [QW a] []
def Zfv(cc x:List Zp)(x1 x2:Int):Rs:=lp C [.blk 0,.seq Zoe,.fin 0 [.tmp 2]] [3,7,8,9] Zod [.own 0,QW x,I x1,I x2] [.arr 185 3 true (cc.map Zp.c)]
def ZxZ:MFun:=mkF (Zi 66 Tryz.f66)
def Zbv(a:Zs):Rs:=C 66 [gaO a.c] []
def Zog:RawF (Zi 67 Tryz.f67):={ m:=_ }
def Zya:MCode:=cut0 Zog 7
def Zyb:MCode:=cut0 Zog 19
def Zyc:MFun:=Z3 Zog 7 Zya 19 Zyb
def ZjL(a:Za):Rs:=C 67 [.agg (a.c.map .t)] []
def Zoh:RawF (Zi 129 Tryz.f129):={ m:=_ }
def Zoi:MCode:=cut0 Zoh 9
def Zoj:MCode:=cut0 Zoh 21
def Zyd:MFun:=Z3 Zoh 9 Zoi 21 Zoj
def ZcQ(a:Zj):Rs:=C 129 [gaO a.c] []
def Zok:=lp C [.blk 0,.seq Zoj,.fin 0 [.cellO 2 (some 2) [none,some (251,2)]]] [2,3,10,11,12] Zoi
def Zol(Zm VariableCount1:Int)(x:List Ze)(x1 x2:Int):Rs:=Zok [.ptr 0 0,.ptr 1 0,L 2 (x.map Ze.c),I x1,I x2] [.box [I Zm,.t .nil],.box [I VariableCount1,.t .nil]]
def Zfw(Zm VariableCount1:Int)(x x1:List Ze)(x2 x3:Int):Rs:=Zok [.ptr 0 0,.ptr 1 0,L 2 (x1.map Ze.c),I x2,I x3] [.box [I Zm,.t .nil],.box [I VariableCount1,.own 2],.arr 251 2 true (x.map Ze.c)]
def Zye:MFun:=mkF (Zi 198 Tryz.f198)
def Ka(a:Zg):Rs:=C 198 [gaO a.c] []
def Zyf:MFun:=mkF (Zi 199 Tryz.f199)
def ZjM(a:Box):Rs:=C 199 [gaO a.c] []
def Zyg:MFun:=mkF (Zi 130 Tryz.f130)
def Zfx(a:Region):Rs:=C 130 [gaO a.c] []
def Zom:RawF (Zi 68 Tryz.f68):={ m:=_ }
def Zon:MCode:=cut0 Zom 9
def Zoo:MCode:=cut0 Zom 21
def Zyh:MFun:=Z3 Zom 9 Zon 21 Zoo
def ZcR(a:ZH):Rs:=C 68 [gaO a.c] []
def Zop:=lp C [.blk 0,.seq Zoo,.fin 0 [.cellO 2 (some 2) [none,some (128,8)]]] [2,3,10,11,12] Zon
def Zoq(Clock Clock1:Int)(x:List Zo)(x1 x2:Int):Rs:=Zop [.ptr 0 0,.ptr 1 0,L 8 (x.map Zo.c),I x1,I x2] [.box [I Clock,.t .nil],.box [I Clock1,.t .nil]]
def Zfy(Clock Clock1:Int)(x x1:List Zo)(x2 x3:Int):Rs:=Zop [.ptr 0 0,.ptr 1 0,L 8 (x1.map Zo.c),I x2,I x3] [.box [I Clock,.t .nil],.box [I Clock1,.own 2],.arr 128 8 true (x.map Zo.c)]
def Zyi:MFun:=mkF (Zi 27 Tryz.f27)
def Zfz(a:ZJ):Rs:=C 27 [gaO a.c] []
def Zyj:MFun:=mkF (Zi 69 Tryz.f69)
def ZV(a a1 a2:Int):Rs:=C 69 [I a,I a1,I a2] []
def Zor:RawF (Zi 211 Tryz.f211):={ m:=_ }
def Zos:MCode:=cut0 Zor 7
def Zot:MCode:=cut0 Zor 25
def Zyk:MFun:=Z3 Zor 7 Zos 25 Zot
def Zbw(a:V6)(a1:Int):Rs:=C 211 [Z2 a,I a1] []
def Zf0(c:V6)(arity:Int)(x:V6)(x1 x2:Int):Rs:=lp C [.blk 0,.seq Zot,.fin 0 [.tmp 4]] [0,1,7,8,9] Zos [Z2 c,I arity,Z2 x,I x1,I x2] []
def Zyl:MFun:=mkF (Zi 269 Tryz.f269)
def Zbx(a:UP):Rs:=C 269 [.t (.str a)] []
def Zym:MFun:=mkF (Zi 385 Tryz.f385)
def Zf1(a:Int):Rs:=C 385 [I a] []
def Zyn:MFun:=mkF (Zi 354 Tryz.f354)
def ZjN(a a1:Int):Rs:=C 354 [I a,I a1] []
def Zou:RawF (Zi 320 Tryz.f320):={ m:=_ }
def Zov:MCode:=cut0 Zou 7
def Zow:MCode:=cut0 Zou 37
def Zyo:MFun:=Z3 Zou 7 Zov 37 Zow
def Zox(a a1:V6):Rs:=C 320 [Z2 a,Z2 a1] []
def Zf2(s1 s2 x:V6)(x1 x2:Int):Rs:=lp C [.blk 0,.seq Zow,.fin 0 [.tmp 4]] [0,1,9,10,11] Zov [Z2 s1,Z2 s2,Z2 x,I x1,I x2] []
def Zyp:MFun:=mkF (Zi 275 Tryz.f275)
def ZjO(a a1:V6):Rs:=C 275 [Z2 a,Z2 a1] []
def Zoy:RawF (Zi 270 Tryz.f270):={ m:=_ }
def Zoz:MCode:=cut0 Zoy 7
def Zo0:MCode:=cut0 Zoy 23
def Zyq:MFun:=Z3 Zoy 7 Zoz 23 Zo0
def ZjP(a:V4):Rs:=C 270 [WG a] []
def Zf3(c:V4)(i:Int):Rs:=lp C [.blk 0,.seq Zo0,.fin 0 [.tmp 2]] [0,3] Zoz [WG c,I i] []
def Zo1:RawF (Zi 210 Tryz.f210):={ m:=_ }
def Zo2:MCode:=cut0 Zo1 7
def Zo3:MCode:=cut0 Zo1 25
def Zyr:MFun:=Z3 Zo1 7 Zo2 25 Zo3
def Q4(a:Zc):Rs:=C 210 [.agg (a.c.map .t)] []
def Zf4(t:Zc)(x:V4)(x1 x2:Int):Rs:=lp C [.blk 0,.seq Zo3,.fin 0 [.tmp 2]] [1,6,7,8] Zo2 [.ptr 0 0,WG x,I x1,I x2] [gbO t.c]
def Zo4:RawF (Zi 142 Tryz.f142):={ m:=_ }
def Zo5:MCode:=cut0 Zo4 7
def Zo6:MCode:=cut0 Zo4 25
def Zys:MFun:=Z3 Zo4 7 Zo5 25 Zo6
def Zaf(a:Zl):Rs:=C 142 [gaO a.c] []
def Zf5(db:Zl)(x:List Zc)(x1 x2:Int):Rs:=lp C [.blk 0,.seq Zo6,.fin 0 [.tmp 2]] [1,6,7,8] Zo5 [.ptr 0 0,L 3 (x.map Zc.c),I x1,I x2] [gbO db.c]
def Zo7:RawF (Zi 143 Tryz.f143):={ m:=_ }
def Zyt:MCode:=cut0 Zo7 17
def Zyu:MCode:=cut0 Zo7 31
def Zyv:MFun:=Z3 Zo7 17 Zyt 31 Zyu
def Zf6(a:Zc):Rs:=C 143 [.agg (a.c.map .t)] []
def Zo8:RawF (Zi 75 Tryz.f75):={ m:=_ }
def Zo9:MCode:=cut0 Zo8 17
def ZoA:MCode:=cut0 Zo8 29
def Zyw:MFun:=Z3 Zo8 17 Zo9 29 ZoA
def Zby(a:Zl)(a1:Int):Rs:=C 75 [gaO a.c,I a1] []
def ZoB:=lp C [.blk 0,.seq ZoA,.fin 0 [.cellO 4 (some 2) [none,some (191,4)],.tmpO 5 [none]]] [4,6,21,22,23] Zo9
def ZoC(Version Version1:Int)(x:List Zc)(x1 x2:Int):Rs:=ZoB [.ptr 0 0,.ptr 1 0,L 3 (x.map Zc.c),I x1,I x2] [.box [I Version,.t .nil],.box [I Version1,.t .nil]]
def Zf7(Version Version1:Int)(x:List Zk)(x1:List Zc)(x2 x3:Int):Rs:=ZoB [.ptr 0 0,.ptr 1 0,L 3 (x1.map Zc.c),I x2,I x3] [.box [I Version,.t .nil],.box [I Version1,.own 2],.arr 191 4 true (x.map Zk.c)]
def ZoD:RawF (Zi 273 Tryz.f273):={ m:=_ }
def ZoE:MCode:=cut0 ZoD 15
def ZoF:MCode:=cut0 ZoD 33
def Zyx:MFun:=Z3 ZoD 15 ZoE 33 ZoF
def Qa(a a1:V6):Rs:=C 273 [Z2 a,Z2 a1] []
def Zf8(s1 s2:V6)(x x1:Int):Rs:=lp C [.blk 0,.seq ZoF,.fin 0 [.tmp 4]] [0,1,12,13] ZoE [Z2 s1,Z2 s2,I x,I x1] []
def Zyy:MFun:=mkF (Zi 335 Tryz.f335)
def ZoG(a a1:V6):Rs:=C 335 [Z2 a,Z2 a1] []
def ZoH:RawF (Zi 334 Tryz.f334):={ m:=_ }
def ZoI:MCode:=cut0 ZoH 15
def ZoJ:MCode:=cut0 ZoH 35
def Zyz:MFun:=Z3 ZoH 15 ZoI 35 ZoJ
def ZjQ(a a1:V4):Rs:=C 334 [WG a,WG a1,.fn 335 []] []
def Zf9(s2 x:V4)(x1 x2:Int):Rs:=lp C [.blk 0,.seq ZoJ,.fin 0 [.tmp 6]] [1,2,15,16,17] ZoI [WG s2,.fn 335 [],WG x,I x1,I x2] []
def Zy0:MFun:=mkF (Zi 309 Tryz.f309)
def ZjR(a a1:V4):Rs:=C 309 [WG a,WG a1] []
def Zy1:MFun:=mkF (Zi 260 Tryz.f260)
def ZjS(a a1:Zy):Rs:=C 260 [gaO a.c,gaO a1.c] []
def ZoK:RawF (Zi 259 Tryz.f259):={ m:=_ }
def ZoL:MCode:=cut0 ZoK 15
def ZoM:MCode:=cut0 ZoK 35
def Zy2:MFun:=Z3 ZoK 15 ZoL 35 ZoM
def ZoN(a a1:List Zy):Rs:=C 259 [L 3 (a.map Zy.c),L 3 (a1.map Zy.c),.fn 260 []] []
def ZfA(s2 x:List Zy)(x1 x2:Int):Rs:=lp C [.blk 0,.seq ZoM,.fin 0 [.tmp 6]] [1,2,15,16,17] ZoL [L 3 (s2.map Zy.c),.fn 260 [],L 3 (x.map Zy.c),I x1,I x2] []
def Zy3:MFun:=mkF (Zi 201 Tryz.f201)
def ZjT(a a1:Zk):Rs:=C 201 [gaO a.c,gaO a1.c] []
def ZoO:RawF (Zi 200 Tryz.f200):={ m:=_ }
def ZoP:MCode:=cut0 ZoO 15
def ZoQ:MCode:=cut0 ZoO 35
def Zy4:MFun:=Z3 ZoO 15 ZoP 35 ZoQ
def ZoR(a a1:List Zk):Rs:=C 200 [L 4 (a.map Zk.c),L 4 (a1.map Zk.c),.fn 201 []] []
def ZfB(s2 x:List Zk)(x1 x2:Int):Rs:=lp C [.blk 0,.seq ZoQ,.fin 0 [.tmp 6]] [1,2,15,16,17] ZoP [L 4 (s2.map Zk.c),.fn 201 [],L 4 (x.map Zk.c),I x1,I x2] []
def Zy5:MFun:=mkF (Zi 131 Tryz.f131)
def ZfC(a a1:Zu):Rs:=C 131 [gaO a.c,gaO a1.c] []
def Zy6:MFun:=mkF (Zi 209 Tryz.f209)
def ZoS(a:Zc)(a1:UP):Rs:=C 209 [gaO a.c,.iptr [.str a1] 0] []
def ZoT:RawF (Zi 208 Tryz.f208):={ m:=_ }
def ZoU:MCode:=cut0 ZoT 7
def ZoV:MCode:=cut0 ZoT 25
def Zy7:MFun:=Z3 ZoT 7 ZoU 25 ZoV
def ZjU(a:List Zc)(a1:UP):Rs:=C 208 [L 3 (a.map Zc.c),.fn 209 [.iptr [.str a1] 0]] []
def ZfD(s:List Zc)(f:UP)(x x1:Int):Rs:=lp C [.blk 0,.seq ZoV,.fin 0 [.tmp 4]] [0,1,7,8] ZoU [L 3 (s.map Zc.c),.fn 209 [.iptr [.str f] 0],I x,I x1] []
def Zy8:MFun:=mkF (Zi 136 Tryz.f136)
def V0(a:Zl)(a1:UP):Rs:=C 136 [gaO a.c,.t (.str a1)] []
def ZoW:RawF (Zi 278 Tryz.f278):={ m:=_ }
def ZoX:MCode:=cut0 ZoW 7
def ZoY:MCode:=cut0 ZoW 25
def Zy9:MFun:=Z3 ZoW 7 ZoX 25 ZoY
def ZcS(a:V6)(a1:Int):Rs:=C 278 [Z2 a,I a1] []
def ZfE(c:V6)(arity:Int)(x:V6)(x1 x2:Int):Rs:=lp C [.blk 0,.seq ZoY,.fin 0 [.tmp 4]] [0,1,7,8,9] ZoX [Z2 c,I arity,Z2 x,I x1,I x2] []
def ZoZ:RawF (Zi 321 Tryz.f321):={ m:=_ }
def Zpa:MCode:=cut0 ZoZ 7
def Zpb:MCode:=cut0 ZoZ 25
def ZyA:MFun:=Z3 ZoZ 7 Zpa 25 Zpb
def ZjV(a:V6)(a1:Int):Rs:=C 321 [Z2 a,I a1] []
def ZfF(s:V6)(v x x1:Int):Rs:=lp C [.blk 0,.seq Zpb,.fin 0 [.tmp 4]] [0,1,7,8] Zpa [Z2 s,I v,I x,I x1] []
def ZyB:MFun:=mkF (Zi 279 Tryz.f279)
def Qb(a:V6)(a1:Int):Rs:=C 279 [Z2 a,I a1] []
def ZyC:MFun:=mkF (Zi 216 Tryz.f216)
def ZfG(a:Zl)(a1:Zp):Rs:=C 216 [gaO a.c,gaO a1.c] []
def Zpc:RawF (Zi 280 Tryz.f280):={ m:=_ }
def Zpd:MCode:=cut0 Zpc 9
def Zpe:MCode:=cut0 Zpc 29
def ZyD:MFun:=Z3 Zpc 9 Zpd 29 Zpe
def Kb(a a1:V6):Rs:=C 280 [Z2 a,Z2 a1] []
def ZfH(c cc x:V6)(x1 x2:Int):Rs:=lp C [.blk 0,.seq Zpe,.fin 0 [.tmp 4,.tmp 5]] [0,6,10,11,12] Zpd [Z2 cc,.own 0,Z2 x,I x1,I x2] [ZB c]
def ZyE:Rs:=C 273 [.t .nil,.t .nil] []
def ZyF(a:V6):Rs:=C 273 [.t .nil,Z2 a] []
def ZyG(a:V6):Rs:=C 273 [Z2 a,.t .nil] []
def ZfI:RawF (Zi 217 Tryz.f217):={ m:=_ }
def Zpf:MCode:=cut0 ZfI 31
def Zpg:MCode:=cut0 ZfI 53
def ZjW:MCode:=cut2 ZfI 17 14 Zpf 36 Zpg
def Zph:MCode:=cut0 ZfI 54
def ZyH:MFun:=Z3 ZfI 17 ZjW 54 Zph
def ZfJ(a:Zl)(a1:Zp):Rs:=C 217 [gaO a.c,gaO a1.c] []
def Zpi:List Fr:=[.blk 0,.seq Zph,.fin 0 [.tmp 4]]
def Zpj:=lp C Zpi [3,5,27,28,29] ZjW
def ZyI(f:Zp)(cc:UP)(Arity x x1:Int):Rs:=Zpj [.ptr 0 0,.ptr 1 0,.t .nil,I x,I x1] [gbO f.c,.box [.t (.str cc),I Arity,.t .nil]]
def ZcT(f:Zp)(t:Zc)(x:V4)(x1 x2:Int):Rs:=Zpj [.ptr 0 0,.ptr 1 0,WG x,I x1,I x2] [gbO f.c,gbO t.c]
def Zag(f:Zp)(t:Zc)(k:Int)(y:V6)(x:V4)(x1 x2:Int)(x3:V4)(x4 x5:Int):Rs:=lp C (.blk 2::.blk 1::.seq Zpg::.loop [3,5,27,28,29] ZjW::Zpi) [3,5,7,8,27,28,29,37,38,39] Zpf [.ptr 0 0,.ptr 1 0,I k,Z2 y,WG x,I x1,I x2,WG x3,I x4,I x5] [gbO f.c,gbO t.c]
def ZyJ:MFun:=mkF (Zi 140 Tryz.f140)
def ZfK(a:Zl)(a1:Zp):Rs:=C 140 [gaO a.c,gaO a1.c] []
def ZyK:MFun:=mkF (Zi 218 Tryz.f218)
def ZcU(a:Zl)(a1:Zr):Rs:=C 218 [gaO a.c,gaO a1.c] []
def ZjX(x:V6):Rs:=C 281 [.own 0] [.arr 3 1 true (x.map ic)]
def ZjY(x:V6):Rs:=C 282 [.own 0] [.arr 3 1 true (x.map ic)]
def ZcV:RawF (Zi 219 Tryz.f219):={ m:=_ }
def Zpk:MCode:=cut0 ZcV 21
def ZyL:MCode:=cut0 ZcV 57
def Zpl:MCode:=cut1 ZcV 40 17 ZyL
def Zpm:MCode:=cut0 ZcV 58
def Zpn:MCode:=cut2 ZcV 33 7 Zpl 25 Zpm
def ZyM:MFun:=Z3 ZcV 21 Zpk 33 Zpn
def ZfL(a:Zl)(a1:Zr):Rs:=C 219 [gaO a.c,gaO a1.c] []
def ZfM:=lp C [.blk 0,.seq Zpn,.fin 0 [.tmp 4]] [3,5,9,36,37,38] Zpk
def ZyN(x:Zr)(cd:UP)(Arity:Int)(cc:V6)(x1 x2:Int):Rs:=ZfM [.ptr 0 0,.ptr 1 0,.own 2,.t .nil,I x1,I x2] [gbO x.c,.box [.t (.str cd),I Arity,.t .nil],ZB cc]
def ZyO(x:Zr)(cd:UP)(Arity:Int)(cc:V6)(x1:V4)(x2 x3:Int):Rs:=ZfM [.ptr 0 0,.ptr 1 0,.own 2,.own 3,I x2,I x3] [gbO x.c,.box [.t (.str cd),I Arity,.t .nil],ZB cc,Xl x1]
def ZyP(x:Zr)(cd:UP)(Arity:Int)(x1:V4)(cc:V6)(x2 x3:Int):Rs:=ZfM [.ptr 0 0,.ptr 1 0,.own 3,.t .nil,I x2,I x3] [gbO x.c,.box [.t (.str cd),I Arity,.own 2],Xl x1,ZB cc]
def ZfN(x:Zr)(cd:UP)(Arity:Int)(x1:V4)(cc:V6)(x2:V4)(x3 x4:Int):Rs:=ZfM [.ptr 0 0,.ptr 1 0,.own 3,.own 4,I x3,I x4] [gbO x.c,.box [.t (.str cd),I Arity,.own 2],Xl x1,ZB cc,Xl x2]
def ZcW(x:Zr)(cc cd:V6)(x1:V4)(x2 x3:Int):Rs:=lp C [.blk 2,.seq Zpm,.fin 0 [.tmp 4]] [3,9,12,53,54,55] Zpl [.ptr 0 0,.own 1,.own 2,.own 3,I x2,I x3] [gbO x.c,ZB cc,ZB cd,Xl x1]
def ZyQ:MFun:=mkF (Zi 141 Tryz.f141)
def ZjZ(a:Zl)(a1:Zr):Rs:=C 141 [gaO a.c,gaO a1.c] []
def ZfO:RawF (Zi 74 Tryz.f74):={ m:=_ }
def Zpo:MCode:=cut0 ZfO 7
def Zpp:MCode:=cut0 ZfO 30
def Zpq:MCode:=cut0 ZfO 48
def Zpr:MCode:=cut2 ZfO 25 5 Zpp 23 Zpq
def ZyR:MFun:=Z3 ZfO 7 Zpo 25 Zpr
def ZcX(a:Zl)(a1:List Zp)(a2:List Zr):Rs:=C 74 [gaO a.c,QW a1,JX a2] []
def ZfP(db:Zl)(cc:List Zp)(cd:List Zr)(x:List Zp)(x1 x2:Int):Rs:=lp C [.blk 0,.seq Zpr,.fin 0 [.tmp 6]] [1,2,3,11,12,13] Zpo [QW cc,JX cd,.ptr 0 0,QW x,I x1,I x2] [gbO db.c]
def ZfQ(db:Zl)(cc:List Zp)(cd x:List Zr)(x1 x2:Int):Rs:=lp C [.blk 2,.seq Zpq,.fin 0 [.tmp 6]] [1,2,3,22,23,24] Zpp [QW cc,JX cd,.ptr 0 0,JX x,I x1,I x2] [gbO db.c]
def ZyS:MFun:=mkF (Zi 70 Tryz.f70)
def Zbz(a:Zs):Rs:=C 70 [gaO a.c] []
def ZyT:MFun:=mkF (Zi 127 Tryz.f127)
def Q5(x:Za):Rs:=C 127 [.ptr 0 0] [.box (x.c.map .t)]
def ZyU:MFun:=mkF (Zi 261 Tryz.f261)
def Zka(x:Z0):Rs:=C 261 [.ptr 0 0] [gbO x.c]
def ZfR:RawF (Zi 202 Tryz.f202):={ m:=_ }
def Zps:MCode:=cut0 ZfR 7
def Zpt:MCode:=cut0 ZfR 30
def Zpu:MCode:=cut0 ZfR 48
def Zpv:MCode:=cut2 ZfR 25 5 Zpt 23 Zpu
def ZyV:MFun:=Z3 ZfR 7 Zps 25 Zpv
def W6(a:Z0):Rs:=C 202 [gaO a.c] []
def Uw(o:Z0)(x x1:Int):Rs:=lp C [.blk 0,.seq Zpv,.fin 0 [.tmp 2]] [1,7,8,9] Zps [.ptr 0 0,.bsl 1 5,I x,I x1] [gbO o.c,.box [.ptr 0 0,.ptr 0 1,.ptr 0 2,.ptr 0 3,.ptr 0 4]]
def Zb0(o:Z0)(x:List Zd)(x1 x2:Int):Rs:=lp C [.blk 2,.seq Zpu,.fin 0 [.tmp 2]] [1,20,21,22] Zpt [.ptr 0 0,L 2 (x.map Zd.c),I x1,I x2] [gbO o.c]
def Zb1:RawF (Zi 204 Tryz.f204):={ m:=_ }
def Zpw:MCode:=cut0 Zb1 33
def Zpx:MCode:=cut0 Zb1 43
def Zkb:MCode:=cut2 Zb1 21 12 Zpw 22 Zpx
def Zpy:MCode:=cut0 Zb1 44
def Zkc:MCode:=cut2 Zb1 9 12 Zkb 35 Zpy
def Zpz:MCode:=cut0 Zb1 45
def ZyW:MFun:=Z3 Zb1 9 Zkc 45 Zpz
def Ui:Rs:=C 204 [] []
def Zp0:List Fr:=[.blk 0,.seq Zpz,.fin 0 [.tmp 0]]
def ZcY(c:V4)(a:Int):Rs:=lp C Zp0 [1,2] Zkc [.own 0,I a] [Xl c]
def Zp1:List Fr:=.blk 2::.blk 1::.seq Zpy::.loop [1,2] Zkc::Zp0
def Zb2(c:V4)(a b:Int):Rs:=lp C Zp1 [1,2,3] Zkb [.own 0,I a,I b] [Xl c]
def ZcZ(cc:V4)(a b c:Int):Rs:=lp C (.blk 4::.blk 3::.seq Zpx::.loop [1,2,3] Zkb::Zp1) [1,2,3,4] Zpw [.own 0,I a,I b,I c] [Xl cc]
def ZyX:MFun:=mkF (Zi 263 Tryz.f263)
def Js(a:Int):Rs:=C 263 [I a] []
def Zkd:RawF (Zi 262 Tryz.f262):={ m:=_ }
def ZyY:MCode:=cut0 Zkd 24
def Zp2:MCode:=cut1 Zkd 9 15 ZyY
def Zp3:MCode:=cut0 Zkd 25
def ZyZ:MFun:=Z3 Zkd 9 Zp2 25 Zp3
def Zda(a:Z0)(a1 a2 a3:Int):Rs:=C 262 [gaO a.c,I a1,I a2,I a3] []
def Zb3(left right n:Int)(x:List Zd)(x1 x2:Int):Rs:=lp C [.blk 0,.seq Zp3,.fin 0 [.tmp 8]] [1,2,9,37,38,39] Zp2 [I left,I right,I n,L 2 (x.map Zd.c),I x1,I x2] []
def Zza:MFun:=mkF (Zi 205 Tryz.f205)
def Kc(a:Z0)(a1:V6):Rs:=C 205 [gaO a.c,Z2 a1] []
def Zdb:RawF (Zi 203 Tryz.f203):={ m:=_ }
def Zzb:MCode:=cut0 Zdb 56
def Zp4:MCode:=cut1 Zdb 29 27 Zzb
def Zp5:MCode:=cut0 Zdb 57
def Zke:MCode:=cut2 Zdb 15 14 Zp4 42 Zp5
def Zp6:MCode:=cut0 Zdb 58
def Zzc:MFun:=Z3 Zdb 15 Zke 58 Zp6
def Wv(a:Z0):Rs:=C 203 [gaO a.c] []
def Zp7:List Fr:=[.blk 0,.seq Zp6,.fin 0 [.tmp 2,.tmp 3,.tmp 4]]
def Zah(o:Z0)(x:V4)(x1 x2:Int):Rs:=lp C Zp7 [1,12,13,14] Zke [.ptr 0 0,.own 1,I x1,I x2] [gbO o.c,Xl x]
def Kd(o:Z0)(x:V4)(t:V6)(x1 x2 x3 x4:Int):Rs:=lp C (.blk 2::.blk 1::.seq Zp5::.loop [1,12,13,14] Zke::Zp7) [1,6,12,13,14,19,20] Zp4 [.ptr 0 0,Z2 t,.own 1,I x1,I x2,I x3,I x4] [gbO o.c,Xl x]
def ZfS:RawF (Zi 132 Tryz.f132):={ m:=_ }
def Zp8:MCode:=cut0 ZfS 41
def Zp9:MCode:=cut0 ZfS 59
def Zkf:MCode:=cut2 ZfS 7 34 Zp8 52 Zp9
def ZpA:MCode:=cut0 ZfS 60
def Zzd:MFun:=Z3 ZfS 7 Zkf 60 ZpA
def Zdc(a:Za):Rs:=C 132 [gaO a.c] []
def Jt:List Fr:=[.blk 0,.seq ZpA,.fin 0 [.tmp 2,.tmp 3,.tmp 4]]
def XJ(x:Za)(x1 x2:Int):Rs:=lp C Jt [13,14,15] Zkf [.bsl 0 5,I x1,I x2] [.box [.ptr 1 0,.ptr 1 6,.ptr 1 12,.ptr 1 18,.ptr 1 24],gbO x.c]
def Ke:=lp C (.blk 2::.blk 1::.seq Zp9::.loop [13,14,15] Zkf::Jt) [6,7,13,14,15,40,41,42] Zp8
def Zai(o:Za)(x:V4)(kind x1 x2 x3 x4:Int):Rs:=Ke [.ptr 0 0,I kind,.bsl 1 5,I x1,I x2,.own 2,I x3,I x4] [gbO o.c,.box [.ptr 0 0,.ptr 0 6,.ptr 0 12,.ptr 0 18,.ptr 0 24],Xl x]
def Zaj(o:Za)(x:V4)(kind x1 x2 x3 x4:Int):Rs:=Ke [.ptr 0 6,I kind,.bsl 1 5,I x1,I x2,.own 2,I x3,I x4] [gbO o.c,.box [.ptr 0 0,.ptr 0 6,.ptr 0 12,.ptr 0 18,.ptr 0 24],Xl x]
def Zak(o:Za)(x:V4)(kind x1 x2 x3 x4:Int):Rs:=Ke [.ptr 0 12,I kind,.bsl 1 5,I x1,I x2,.own 2,I x3,I x4] [gbO o.c,.box [.ptr 0 0,.ptr 0 6,.ptr 0 12,.ptr 0 18,.ptr 0 24],Xl x]
def Zal(o:Za)(x:V4)(kind x1 x2 x3 x4:Int):Rs:=Ke [.ptr 0 18,I kind,.bsl 1 5,I x1,I x2,.own 2,I x3,I x4] [gbO o.c,.box [.ptr 0 0,.ptr 0 6,.ptr 0 12,.ptr 0 18,.ptr 0 24],Xl x]
def Zam(o:Za)(x:V4)(kind x1 x2 x3 x4:Int):Rs:=Ke [.ptr 0 24,I kind,.bsl 1 5,I x1,I x2,.own 2,I x3,I x4] [gbO o.c,.box [.ptr 0 0,.ptr 0 6,.ptr 0 12,.ptr 0 18,.ptr 0 24],Xl x]
def Zze:MFun:=mkF (Zi 71 Tryz.f71)
def Ju(a:Za):Rs:=C 71 [gaO a.c] []
def ZpB:RawF (Zi 371 Tryz.f371):={ m:=_ }
def ZpC:MCode:=cut0 ZpB 7
def ZpD:MCode:=cut0 ZpB 25
def Zzf:MFun:=Z3 ZpB 7 ZpC 25 ZpD
def Zkg(a:List Bool)(a1:Bool):Rs:=C 371 [L 1 (a.map bc),Bo a1] []
def ZfT(s:List Bool)(v:Bool)(x x1:Int):Rs:=lp C [.blk 0,.seq ZpD,.fin 0 [.tmp 4]] [0,1,7,8] ZpC [L 1 (s.map bc),Bo v,I x,I x1] []
def Zzg:MFun:=mkF (Zi 336 Tryz.f336)
def Zkh(a:List Bool)(a1:Bool):Rs:=C 336 [L 1 (a.map bc),Bo a1] []
def ZfU:RawF (Zi 310 Tryz.f310):={ m:=_ }
def ZpE:MCode:=cut0 ZfU 39
def ZpF:MCode:=cut0 ZfU 59
def Zki:MCode:=cut2 ZfU 17 22 ZpE 42 ZpF
def ZpG:MCode:=cut0 ZfU 60
def Zkj:MFun:=Z3 ZfU 17 Zki 60 ZpG
def KG(a:Zj):Rs:=C 310 [gaO a.c] []
def Zkk:List Fr:=[.blk 0,.seq ZpG,.fin 0 [.tmp 2]]
def Zb4(q:Zj)(cc:List Bool)(x:List Ze)(x1 x2:Int):Rs:=lp C Zkk [1,3,23,24,25] Zki [.ptr 0 0,.own 1,L 2 (x.map Ze.c),I x1,I x2] [gbO q.c,.arr 4 1 true (cc.map bc)]
def ZfV(q:Zj)(cc:List Bool)(a:Ze)(x:List Ze)(x1 x2:Int)(x3:V6)(x4 x5:Int):Rs:=lp C (.blk 2::.blk 1::.seq ZpF::.loop [1,3,23,24,25] Zki::Zkk) [1,3,5,23,24,25,41,42,43] ZpE [.ptr 0 0,.own 1,.ptr 2 0,L 2 (x.map Ze.c),I x1,I x2,Z2 x3,I x4,I x5] [gbO q.c,.arr 4 1 true (cc.map bc),gbO a.c]
def ZpH:RawF (Zi 342 Tryz.f342):={ m:=_ }
def ZpI:MCode:=cut0 ZpH 7
def ZpJ:MCode:=cut0 ZpH 25
def Zzh:MFun:=Z3 ZpH 7 ZpI 25 ZpJ
def Zb5(a:V6):Rs:=C 342 [Z2 a] []
def ZfW(c x:V6)(x1 x2:Int):Rs:=lp C [.blk 0,.seq ZpJ,.fin 0 [.tmp 2]] [0,5,6,7] ZpI [Z2 c,Z2 x,I x1,I x2] []
def ZpK:RawF (Zi 372 Tryz.f372):={ m:=_ }
def ZpL:MCode:=cut0 ZpK 15
def ZpM:MCode:=cut0 ZpK 33
def Zzi:MFun:=Z3 ZpK 15 ZpL 33 ZpM
def Zkl(a a1:V6):Rs:=C 372 [Z2 a,Z2 a1] []
def ZfX(a b:V6)(x x1:Int):Rs:=lp C [.blk 0,.seq ZpM,.fin 0 [.tmp 4]] [0,1,12,13] ZpL [Z2 a,Z2 b,I x,I x1] []
def Zzj:MFun:=mkF (Zi 337 Tryz.f337)
def Zkm(a:Box):Rs:=C 337 [gaO a.c] []
def Zzk:MFun:=mkF (Zi 266 Tryz.f266)
def VJ(a:Zj):Rs:=C 266 [gaO a.c] []
def Zzl:MFun:=mkF (Zi 311 Tryz.f311)
def Zkn(a:Zj)(a1:Box):Rs:=C 311 [gaO a.c,gaO a1.c] []
def ZfY:RawF (Zi 374 Tryz.f374):={ m:=_ }
def ZpN:MCode:=cut0 ZfY 21
def ZpO:MCode:=cut0 ZfY 39
def Zko:MCode:=cut2 ZfY 9 12 ZpN 30 ZpO
def ZpP:MCode:=cut0 ZfY 40
def Zzm:MFun:=Z3 ZfY 9 Zko 40 ZpP
def KH(a:Zj)(a1:Int):Rs:=C 374 [gaO a.c,I a1] []
def ZpQ:List Fr:=[.blk 0,.seq ZpP,.fin 0 [.tmp 4]]
def Zb6(q:Zj)(cc:V6)(mask v:Int):Rs:=lp C ZpQ [1,2,5,6] Zko [I mask,.ptr 0 0,.own 1,I v] [gbO q.c,ZB cc]
def ZfZ(q:Zj)(cc:V6)(mask v:Int)(x:List Ze)(x1 x2:Int):Rs:=lp C (.blk 2::.blk 1::.seq ZpO::.loop [1,2,5,6] Zko::ZpQ) [1,2,5,6,17,18,19] ZpN [I mask,.ptr 0 0,.own 1,I v,L 2 (x.map Ze.c),I x1,I x2] [gbO q.c,ZB cc]
def Zkp:RawF (Zi 375 Tryz.f375):={ m:=_ }
def Zzn:MCode:=cut0 Zkp 24
def ZpR:MCode:=cut1 Zkp 9 15 Zzn
def ZpS:MCode:=cut0 Zkp 25
def Zzo:MFun:=Z3 Zkp 9 ZpR 25 ZpS
def Zan(a a1:V6):Rs:=C 375 [Z2 a,Z2 a1] []
def Zdd(c b x:V6)(x1 x2:Int):Rs:=lp C [.blk 0,.seq ZpS,.fin 0 [.tmp 4]] [1,5,9,10,11] ZpR [Z2 b,.own 0,Z2 x,I x1,I x2] [ZB c]
def Zzp:MFun:=mkF (Zi 373 Tryz.f373)
def Zde(a:Zj)(a1:Zh)(a2:List Zt)(a3:V6):Rs:=C 373 [gaO a.c,gaO a1.c,L 4 (a2.map Zt.c),Z2 a3] []
def Zkq:RawF (Zi 338 Tryz.f338):={ m:=_ }
def Zzq:MCode:=cut0 Zkq 52
def ZpT:MCode:=cut1 Zkq 19 33 Zzq
def ZpU:MCode:=cut0 Zkq 54
def Zzr:MFun:=Z3 Zkq 19 ZpT 54 ZpU
def Zao(a:Zj)(a1:Zg):Rs:=C 338 [gaO a.c,gaO a1.c] []
def Zga(q:Zj)(cd:List Zt)(cc:V6)(x:List Zh)(x1 x2:Int):Rs:=lp C [.blk 0,.seq ZpU,.fin 0 [.tmp 4,.tmp 5]] [2,6,7,25,26,27] ZpT [.ptr 0 0,.own 1,.own 2,L 3 (x.map Zh.c),I x1,I x2] [gbO q.c,Zbi cd,ZB cc]
def Zzs:MFun:=mkF (Zi 312 Tryz.f312)
def Zkr(a:Zj)(a1:Zg):Rs:=C 312 [gaO a.c,gaO a1.c] []
def Zzt:MFun:=mkF (Zi 264 Tryz.f264)
def Zgb(a:Zj)(a1:Region):Rs:=C 264 [gaO a.c,gaO a1.c] []
def Zzu:MFun:=mkF (Zi 313 Tryz.f313)
def Zb7(a:Zj)(a1:Int):Rs:=C 313 [gaO a.c,I a1] []
def Zks:RawF (Zi 339 Tryz.f339):={ m:=_ }
def Zzv:MCode:=cut0 Zks 26
def ZpV:MCode:=cut1 Zks 11 15 Zzv
def ZpW:MCode:=cut0 Zks 27
def Zzw:MFun:=Z3 Zks 11 ZpV 27 ZpW
def Zkt(a:Zj)(a1:Int):Rs:=C 339 [gaO a.c,I a1] []
def Zdf(cc:V6)(mask out:Int)(x:List Ze)(x1 x2:Int):Rs:=lp C [.blk 0,.seq ZpW,.fin 0 [.tmp 4]] [1,5,6,13,14,15] ZpV [I mask,.own 0,I out,L 2 (x.map Ze.c),I x1,I x2] [ZB cc]
def Zzx:RawF (Zi 314 Tryz.f314):={ m:=_ }
def ZpX:MCode:=cut0 Zzx 14
def Zzy:MFun:=XH Zzx 14 ZpX
def Jv(a:Zj)(a1:Int):Rs:=C 314 [gaO a.c,I a1] []
def Zgc(q:Zj)(mask got:Int):Rs:=lp C [.blk 0,.fin 0 [.tmp 4]] [1,2,5] ZpX [I mask,.ptr 0 0,I got] [gbO q.c]
def Zzz:MFun:=mkF (Zi 265 Tryz.f265)
def Zdg(a:Zj)(a1:Int):Rs:=C 265 [gaO a.c,I a1] []
def Zz0:MFun:=mkF (Zi 206 Tryz.f206)
def Zgd(a:Za)(a1:Zj)(a2:Region):Rs:=C 206 [gaO a.c,gaO a1.c,gaO a2.c] []
def ZpY:RawF (Zi 316 Tryz.f316):={ m:=_ }
def ZpZ:MCode:=cut0 ZpY 9
def Zqa:MCode:=cut0 ZpY 21
def Zz1:MFun:=Z3 ZpY 9 ZpZ 21 Zqa
def Jw(a:V6):Rs:=C 316 [Z2 a] []
def Zb8(cc c x:V6)(x1 x2:Int):Rs:=lp C [.blk 0,.seq Zqa,.fin 0 [.tmp 2]] [0,3,7,8,9] ZpZ [Z2 c,.own 0,Z2 x,I x1,I x2] [ZB cc]
def Zqb:RawF (Zi 376 Tryz.f376):={ m:=_ }
def Zqc:MCode:=cut0 Zqb 7
def Zqd:MCode:=cut0 Zqb 25
def Zz2:MFun:=Z3 Zqb 7 Zqc 25 Zqd
def Zdh(a:Zj)(a1:V6):Rs:=C 376 [gaO a.c,Z2 a1] []
def Zge(q:Zj)(cc x:V6)(x1 x2:Int):Rs:=lp C [.blk 0,.seq Zqd,.fin 0 [.tmp 4]] [1,2,7,8,9] Zqc [Z2 cc,.ptr 0 0,Z2 x,I x1,I x2] [gbO q.c]
def Zz3:MFun:=mkF (Zi 377 Tryz.f377)
def Wy(a:Z0)(a1 a2 a3:Int):Rs:=C 377 [gaO a.c,I a1,I a2,I a3] []
def Zgf:RawF (Zi 340 Tryz.f340):={ m:=_ }
def Zgg:MCode:=cut0 Zgf 43
def Zz4:MCode:=cut1 Zgf 37 6 Zgg
def Zgh:MCode:=cut1 Zgf 19 18 Zz4
def Zgi:MCode:=cut0 Zgf 45
def Zz5:MFun:=Z3 Zgf 19 Zgh 45 Zgi
def Zb9(a:Za)(a1:Zj)(a2:Zg)(a3:V6):Rs:=C 340 [gaO a.c,gaO a1.c,gaO a2.c,Z2 a3] []
def Wg(m:Za)(cd:List Zt)(cl cc:V6)(x:List Zh)(x1 x2:Int):Rs:=lp C [.blk 0,.seq Zgi,.fin 0 [.tmp 8]] [3,4,9,11,32,33,34] Zgh [Z2 cc,.ptr 0 0,.own 1,.own 2,L 3 (x.map Zh.c),I x1,I x2] [gbO m.c,Zbi cd,ZB cl]
def Zgj(m:Za)(cd:List Zt)(cl:V6)(x:Zh)(cc:V6)(i left right:Int)(x1:List Zh)(x2 x3:Int):Rs:=Ev C [.blk 1,.seq (.reg [.o 105 (.bin .add (.s 34) (.k 1)),.m 34 105] [3,4,9,11,32,33,34]),.loop [3,4,9,11,32,33,34] Zgh,.blk 0,.seq Zgi,.fin 0 [.tmp 8]] Zgg ⟨[(3,Z2 cc),(4,.ptr 0 0),(9,.own 1),(11,.own 2),(12,I i),(13,.ptr 3 0),(14,I left),(15,I right),(32,L 3 (x1.map Zh.c)),(33,I x2),(34,I x3)],[[]],[gbO m.c,Zbi cd,ZB cl,gbO x.c]⟩
def Zgk(m:Za)(cd:List Zt)(cl:V6)(x:Zh)(cc:V6)(i left right:Int)(x1:List Zh)(x2 x3:Int)(x4:Bool):Rs:=Ev C [.blk 1,.seq (.reg [.o 105 (.bin .add (.s 34) (.k 1)),.m 34 105] [3,4,9,11,32,33,34]),.loop [3,4,9,11,32,33,34] Zgh,.blk 0,.seq Zgi,.fin 0 [.tmp 8]] Zgg ⟨[(3,Z2 cc),(4,.ptr 0 0),(9,.own 1),(11,.own 2),(12,I i),(13,.ptr 3 0),(14,I left),(15,I right),(32,L 3 (x1.map Zh.c)),(33,I x2),(34,I x3),(70,Bo x4)],[[]],[gbO m.c,Zbi cd,ZB cl,gbO x.c]⟩
def Zqe:RawF (Zi 341 Tryz.f341):={ m:=_ }
def Zqf:MCode:=cut0 Zqe 9
def Zqg:MCode:=cut0 Zqe 21
def Zz6:MFun:=Z3 Zqe 9 Zqf 21 Zqg
def Zgl(a:V6):Rs:=C 341 [Z2 a] []
def Zgm(n:Int)(x:V6)(x1 x2:Int):Rs:=lp C [.blk 0,.seq Zqg,.fin 0 [.tmp 2]] [3,6,7,8] Zqf [I n,Z2 x,I x1,I x2] []
def Zqh:MFun:=mkF (Zi 315 Tryz.f315)
def Jx(a:Za)(a1:Zj)(a2:Zg)(a3:V6):Rs:=C 315 [gaO a.c,gaO a1.c,gaO a2.c,Z2 a3] []
def Zz7(a:Za)(a1:Zj)(a2:Zg):Rs:=C 315 [gaO a.c,gaO a1.c,gaO a2.c,.t .nil] []
def Zz8:MFun:=mkF (Zi 267 Tryz.f267)
def Zgn(a:Za)(a1:Zj)(a2:Zg)(a3:V6):Rs:=C 267 [gaO a.c,gaO a1.c,gaO a2.c,Z2 a3] []
def Zku:RawF (Zi 390 Tryz.f390):={ m:=_ }
def Zz9:MCode:=cut0 Zku 22
def Zqi:MCode:=cut1 Zku 9 13 Zz9
def Zqj:MCode:=cut0 Zku 23
def ZzA:MFun:=Z3 Zku 9 Zqi 23 Zqj
def Zgo(a:Zj):Rs:=C 390 [gaO a.c] []
def Zdi(q:Zj)(cc:V6)(mask:Int):Rs:=lp C [.blk 0,.seq Zqj,.fin 0 [.tmp 2]] [1,3,4] Zqi [.ptr 0 0,.own 1,I mask] [gbO q.c,ZB cc]
def Zkv:RawF (Zi 391 Tryz.f391):={ m:=_ }
def ZzB:MCode:=cut0 Zkv 30
def Zqk:MCode:=cut1 Zkv 17 13 ZzB
def Zql:MCode:=cut0 Zkv 31
def ZzC:MFun:=Z3 Zkv 17 Zqk 31 Zql
def Zdj(a:Int):Rs:=C 391 [I a] []
def Zdk(c:V6)(mask i:Int):Rs:=lp C [.blk 0,.seq Zql,.fin 0 [.tmp 2]] [0,3,4] Zqk [I mask,.own 0,I i] [ZB c]
def ZzD:MFun:=mkF (Zi 393 Tryz.f393)
def Zgp(a:Int):Rs:=C 393 [I a] []
def VK:MFun:=mkF (Zi 392 Tryz.f392)
def Jy(m:Za)(q:Zj)(co:V6)(d:Int)(c cc cd cl cn:Zb)(cp cu cv cy cz:Bool)(x:List Zh)(a:Int):Rs:=C 392 [.ptr 0 0,.agg [.own 1],I a] [We m q co d c cc cd cl cn cp cu cv cy cz,Zbj x]
def Zkw:RawF (Zi 394 Tryz.f394):={ m:=_ }
def ZzE:MCode:=cut0 Zkw 30
def Zqm:MCode:=cut1 Zkw 17 13 ZzE
def Zqn:MCode:=cut0 Zkw 31
def ZzF:MFun:=Z3 Zkw 17 Zqm 31 Zqn
def Zgq(a:Zj)(a1:Int):Rs:=C 394 [gaO a.c,I a1] []
def ZbA(q:Zj)(cc:V6)(mask x:Int):Rs:=lp C [.blk 0,.seq Zqn,.fin 0 [.tmp 4]] [1,2,5,6] Zqm [I mask,.ptr 0 0,.own 1,I x] [gbO q.c,ZB cc]
def Zkx:RawF (Zi 389 Tryz.f389):={ m:=_ }
def Zqo:MCode:=cut0 Zkx 24
def Zgr:MCode:=cut1 Zkx 9 15 Zqo
def Zgs:MCode:=cut0 Zkx 25
def Zqp:MFun:=Z3 Zkx 9 Zgr 25 Zgs
def ZbB(a:List Zb):Rs:=C 389 [Vy a] []
def Zdl(Mask Order Cost:Int)(best:Zb)(x:List Zb)(x1 x2:Int):Rs:=lp C [.blk 0,.seq Zgs,.fin 0 [.cell 2 (some 4)]] [2,3,9,10,11] Zgr [.ptr 0 0,.ptr 1 0,Vy x,I x1,I x2] [.box [I Mask,I Order,I Cost,.t .nil],gbO best.c]
def ZzG:MFun:=mkF (Zi 395 Tryz.f395)
def KJ(a a1:Zg)(a2 a3:Int):Rs:=C 395 [gaO a.c,gaO a1.c,I a2,I a3] []
def Zky:RawF (Zi 398 Tryz.f398):={ m:=_ }
def Kf:MCode:=cut0 Zky 24
def Zqq:MCode:=cut1 Zky 9 15 Kf
def Zqr:MCode:=cut0 Zky 25
def ZzH:MFun:=Z3 Zky 9 Zqq 25 Zqr
def Zgt(m:Za)(q:Zj)(co:V6)(d:Int)(c cc cd cl cn:Zb)(cp cu cv cy cz:Bool):Rs:=C 398 [.ptr 0 0] [We m q co d c cc cd cl cn cp cu cv cy cz]
def XK(m:Za)(q:Zj)(cp:V6)(dc:Int)(cc cd cl cn co:Zb)(cu cv cy cz d fr:Bool)(dd:List Zb)(x0 x1 x2 x3 x4:Bool)(x:Int):Rs:=EvL C [.blk 0,.seq Zqr,.fin 1 [.tmp 2]] [0,3,10,11] Zqq ⟨[(0,.ptr 0 0),(3,.own 1),(10,.agg [Bo x0,Bo x1,Bo x2,Bo x3,Bo x4]),(11,I x)],[[(0,.ptr 0 0)]],[We m q cp dc cc cd cl cn co cu cv cy cz d,.arr 287 4 fr (dd.map Zb.c)]⟩
def ZzI:MFun:=mkF (Zi 401 Tryz.f401)
def Jz(a:Zj)(a1:Int):Rs:=C 401 [gaO a.c,I a1] []
def ZzJ(a:V6):Rs:=C 375 [Z2 a,.t .nil] []
def ZzK(a:V6):Rs:=C 375 [.t .nil,Z2 a] []
def ZzL:Rs:=C 375 [.t .nil,.t .nil] []
def ZzM:MFun:=mkF (Zi 396 Tryz.f396)
def ZbC(a:Zj)(a1 a2:Int):Rs:=C 396 [gaO a.c,I a1,I a2] []
def ZzN:MFun:=mkF (Zi 402 Tryz.f402)
def Zkz(a:Zg)(a1:Int):Rs:=C 402 [gaO a.c,I a1] []
def Zqs:RawF (Zi 397 Tryz.f397):={ m:=_ }
def Zqt:MCode:=cut0 Zqs 19
def Zqu:MCode:=cut0 Zqs 37
def ZzO:MFun:=Z3 Zqs 19 Zqt 37 Zqu
def ZbD(a:Za)(a1:Zj)(a2:V6)(a3:List Zb)(a4:Int):Rs:=C 397 [gaO a.c,gaO a1.c,Z2 a2,Vy a3,I a4] []
def Zgu(m:Za)(q:Zj)(x:List Zh)(cc:V6)(v:Int)(x1:List Zb)(x2 x3:Int):Rs:=lp C [.blk 0,.seq Zqu,.fin 0 [.cell 10 (some 1)]] [2,4,5,6,10,12,27,28,29] Zqt [Z2 cc,I v,.ptr 0 0,.ptr 1 0,.ptr 2 0,.ptr 3 0,Vy x1,I x2,I x3] [gbO m.c,gbO q.c,.box [.t .nil],.box [.own 4],Zbj x]
end
