/-
  Parts of the proofs for this seat: D4 T1 T2.
-/
import Derived.Test.YtggcnlojfngdeaaGreatP9
import Derived.Test.YtggcnlojfngdeaaGreatP10
import Derived.Test.YtggcnlojfngdeaaGreatP11
set_option linter.all false
set_option maxRecDepth 100000
set_option maxHeartbeats 4000000
set_option cbv.maxSteps 9999999
namespace Go.Proofs.YtggcnlojfngdeaaGreat
open Go.AM
noncomputable section
def Z78:Ab:=AB (Zi 161 Tryz.f161)
def Sl(a:Zc)(a1:Zn)(a2:List Zp)(a3:WL):Rs:=C 161 [Am a.c,Am a1.c,L 4 (a2.map Zp.c),Zt a3] []
def ZoY:Ag (Zi 120 Tryz.f120):={ m:=_ }
def Z79:Za:=Aa ZoY 52
def ZyB:Za:=Av ZoY 19 33 Z79
def ZyC:Za:=Aa ZoY 54
def Z7A:Ab:=Zs ZoY 19 ZyB 54 ZyC
def HG(a:Zc)(a1:Zj):Rs:=C 120 [Am a.c,Am a1.c] []
def i4(q:Zc)(cd:List Zp)(cc:WL)(x:List Zn)(x1 x2:Int):Rs:=lp C [.blk 0,.seq ZyC,.fin 0 [.tmp 4,.tmp 5]] [2,6,7,25,26,27] ZyB [.ptr 0 0,.own 1,.own 2,L 3 (x.map Zn.c),I x1,I x2] [Ae q.c,I6 cd,Zo cc]
def Z7B:Ab:=AB (Zi 71 Tryz.f71)
def i5(a:Zc)(a1:Zj):Rs:=C 71 [Am a.c,Am a1.c] []
def ZyD:Ag (Zi 72 Tryz.f72):={ m:=_ }
def ZyE:Za:=Aa ZyD 7
def ZyF:Za:=Aa ZyD 25
def Z7C:Ab:=Zs ZyD 7 ZyE 25 ZyF
def i6(a:WL)(a1:Int):Rs:=C 72 [Zt a,I a1] []
def i7(l:WL)(n:Int)(x:WL)(x1 x2:Int):Rs:=lp C [.blk 0,.seq ZyF,.fin 0 [.tmp 4]] [0,1,7,8,9] ZyE [Zt l,I n,Zt x,I x1,I x2] []
def Ml:Ag (Zi 28 Tryz.f28):={ m:=_ }
def ZyG:Za:=Aa Ml 15
def ZyH:Za:=Aa Ml 38
def ZyI:Za:=Aa Ml 61
def ZyJ:Za:=Aa Ml 79
def ZyK:Za:=AD Ml 56 5 ZyI 23 ZyJ
def ZyL:Za:=AD Ml 33 5 ZyH 23 ZyK
def Z7D:Ab:=Zs Ml 15 ZyG 33 ZyL
def i8(a:Zc)(a1:Z6):Rs:=C 28 [Am a.c,Am a1.c] []
def i9(q:Zc)(b:Z6)(x:List Zj)(x1 x2:Int):Rs:=lp C [.blk 0,.seq ZyL,.fin 0 [.tmp 4]] [2,3,50,51,52] ZyG [.ptr 0 0,.ptr 1 0,L 1 (x.map Zj.c),I x1,I x2] [Ae q.c,Ae b.c]
def Sn(b:Z6)(x:WL)(x1 x2:Int):Rs:=lp C [.blk 2,.seq ZyK,.fin 0 [.tmp 4]] [3,64,65,66] ZyH [.ptr 0 0,Zt x,I x1,I x2] [Ae b.c]
def So(b:Z6)(x:XV)(x1 x2:Int):Rs:=lp C [.blk 4,.seq ZyJ,.fin 0 [.tmp 4]] [3,93,94,95] ZyI [.ptr 0 0,L 1 (x.map AA),I x1,I x2] [Ae b.c]
def Z7E:Ab:=AB (Zi 29 Tryz.f29)
def jA(a:Box)(a1:WL):Rs:=C 29 [Am a.c,Zt a1] []
def Z7F:Ab:=AB (Zi 75 Tryz.f75)
def jB(a a1:Int):Rs:=C 75 [I a,I a1] []
def ZyM:Ag (Zi 123 Tryz.f123):={ m:=_ }
def ZyN:Za:=Aa ZyM 9
def ZyO:Za:=Aa ZyM 21
def Z7G:Ab:=Zs ZyM 9 ZyN 21 ZyO
def Sp(a:WL):Rs:=C 123 [Zt a] []
def Mm(cc c x:WL)(x1 x2:Int):Rs:=lp C [.blk 0,.seq ZyO,.fin 0 [.tmp 2]] [0,3,7,8,9] ZyN [Zt c,.own 0,Zt x,I x1,I x2] [Zo cc]
def ZyP:Ag (Zi 191 Tryz.f191):={ m:=_ }
def ZyQ:Za:=Aa ZyP 7
def ZyR:Za:=Aa ZyP 25
def Z7H:Ab:=Zs ZyP 7 ZyQ 25 ZyR
def ZoZ(a:Zc)(a1:WL):Rs:=C 191 [Am a.c,Zt a1] []
def jC(q:Zc)(cc x:WL)(x1 x2:Int):Rs:=lp C [.blk 0,.seq ZyR,.fin 0 [.tmp 4]] [1,2,7,8,9] ZyQ [Zt cc,.ptr 0 0,Zt x,I x1,I x2] [Ae q.c]
def Z7I:Ab:=AB (Zi 192 Tryz.f192)
def WH(a:Zz)(a1 a2 a3:Int):Rs:=C 192 [Am a.c,I a1,I a2,I a3] []
def jD:Ag (Zi 162 Tryz.f162):={ m:=_ }
def jE:Za:=Aa jD 43
def Z7J:Za:=Av jD 37 6 jE
def jF:Za:=Av jD 19 18 Z7J
def jG:Za:=Aa jD 45
def Z7K:Ab:=Zs jD 19 jF 45 jG
def Mn(a:Zf)(a1:Zc)(a2:Zj)(a3:WL):Rs:=C 162 [Am a.c,Am a1.c,Am a2.c,Zt a3] []
def VM(m:Zf)(cd:List Zp)(cl cc:WL)(x:List Zn)(x1 x2:Int):Rs:=lp C [.blk 0,.seq jG,.fin 0 [.tmp 8]] [3,4,9,11,32,33,34] jF [Zt cc,.ptr 0 0,.own 1,.own 2,L 3 (x.map Zn.c),I x1,I x2] [Ae m.c,I6 cd,Zo cl]
def jH(m:Zf)(cl:List Zp)(co:WL)(x:Zn)(cd:WL)(i cn cc:Int)(x1:List Zn)(x2 x3:Int):Rs:=Ev C [.blk 1,.seq (.reg [.o 105 (.bin .add (.s 34) (.k 1)),.m 34 105] [3,4,9,11,32,33,34]),.loop [3,4,9,11,32,33,34] jF,.blk 0,.seq jG,.fin 0 [.tmp 8]] jE ⟨[(3,Zt cd),(4,.ptr 0 0),(9,.own 1),(11,.own 2),(12,I i),(13,.ptr 3 0),(14,I cn),(15,I cc),(32,L 3 (x1.map Zn.c)),(33,I x2),(34,I x3)],[[]],[Ae m.c,I6 cl,Zo co,Ae x.c]⟩
def jI(m:Zf)(cl:List Zp)(co:WL)(x:Zn)(cd:WL)(i cn cc:Int)(x1:List Zn)(x2 x3:Int)(x4:Bool):Rs:=Ev C [.blk 1,.seq (.reg [.o 105 (.bin .add (.s 34) (.k 1)),.m 34 105] [3,4,9,11,32,33,34]),.loop [3,4,9,11,32,33,34] jF,.blk 0,.seq jG,.fin 0 [.tmp 8]] jE ⟨[(3,Zt cd),(4,.ptr 0 0),(9,.own 1),(11,.own 2),(12,I i),(13,.ptr 3 0),(14,I cn),(15,I cc),(32,L 3 (x1.map Zn.c)),(33,I x2),(34,I x3),(70,Bo x4)],[[]],[Ae m.c,I6 cl,Zo co,Ae x.c]⟩
def ZyS:Ag (Zi 163 Tryz.f163):={ m:=_ }
def ZyT:Za:=Aa ZyS 9
def ZyU:Za:=Aa ZyS 21
def Z7L:Ab:=Zs ZyS 9 ZyT 21 ZyU
def jJ(a:WL):Rs:=C 163 [Zt a] []
def jK(n:Int)(x:WL)(x1 x2:Int):Rs:=lp C [.blk 0,.seq ZyU,.fin 0 [.tmp 2]] [3,6,7,8] ZyT [I n,Zt x,I x1,I x2] []
def ZyV:Ab:=AB (Zi 122 Tryz.f122)
def jL(a:Zf)(a1:Zc)(a2:Zj)(a3:WL):Rs:=C 122 [Am a.c,Am a1.c,Am a2.c,Zt a3] []
def Z7M(a:Zf)(a1:Zc)(a2:Zj):Rs:=C 122 [Am a.c,Am a1.c,Am a2.c,.t .nil] []
def Z7N:Ab:=AB (Zi 76 Tryz.f76)
def Zpa(a:Zf)(a1:Zc)(a2:Zj)(a3:WL):Rs:=C 76 [Am a.c,Am a1.c,Am a2.c,Zt a3] []
def jM:Ag (Zi 30 Tryz.f30):={ m:=_ }
def ZyW:Za:=Aa jM 25
def ZyX:Za:=Aa jM 47
def Zpb:Za:=AD jM 9 16 ZyW 38 ZyX
def ZyY:Za:=Aa jM 48
def Z7O:Ab:=Zs jM 9 Zpb 48 ZyY
def Zpc(a:Zf)(a1:Zc)(a2:Z6)(a3:WL):Rs:=C 30 [Am a.c,Am a1.c,Am a2.c,Zt a3] []
def ZyZ:List Fr:=[.blk 0,.seq ZyY,.fin 0 [.tmp 8,.tmp 9]]
def Sq(m:Zf)(q:Zc)(b:Z6)(cc:WL)(cd:Int)(x:XV)(x1 x2:Int):Rs:=lp C ZyZ [3,4,5,6,10,18,19,20] Zpb [Zt cc,.ptr 0 0,.ptr 1 0,.ptr 2 0,I cd,L 1 (x.map AA),I x1,I x2] [Ae m.c,Ae q.c,Ae b.c]
def jN(m:Zf)(q:Zc)(b:Z6)(cc:WL)(cl cd:Int)(x:XV)(x1 x2:Int)(x3:WL)(x4 x5:Int):Rs:=lp C (.blk 2::.blk 1::.seq ZyX::.loop [3,4,5,6,10,18,19,20] Zpb::ZyZ) [3,4,5,6,10,13,18,19,20,33,34,35] ZyW [Zt cc,.ptr 0 0,.ptr 1 0,.ptr 2 0,I cl,I cd,L 1 (x.map AA),I x1,I x2,Zt x3,I x4,I x5] [Ae m.c,Ae q.c,Ae b.c]
def Z7P:Ab:=AB (Zi 13 Tryz.f13)
def Zpd(a:Zf)(a1:Zc)(a2:Z6)(a3:WL):Rs:=C 13 [Am a.c,Am a1.c,Am a2.c,Zt a3] []
def Z7Q:Ab:=AB (Zi 124 Tryz.f124)
def Zpe(x:WL)(a:Zf)(a1:Zc):Rs:=C 124 [Am a.c,Am a1.c,.own 0] [Zo x]
def Z7R:Ab:=AB (Zi 77 Tryz.f77)
def Zpf(x:WL)(a:Zf)(a1:Zc):Rs:=C 77 [Am a.c,Am a1.c,.own 0] [Zo x]
def Z7S:Ab:=AB (Zi 32 Tryz.f32)
def Zza(x:WL)(a:Zf)(a1:Zc):Rs:=C 32 [Am a.c,Am a1.c,.own 0] [Zo x]
def Z7T:Ab:=AB (Zi 15 Tryz.f15)
def jO(a:Zf)(a1:Zc)(a2:WL):Rs:=C 15 [Am a.c,Am a1.c,Zt a2] []
def Z7U:Ab:=AB (Zi 14 Tryz.f14)
def Zpg(a:Int)(a1:Zb)(a2:Int):Rs:=C 14 [I a,Am a1.c,I a2] []
def Z7V:Ag (Zi 3 Tryz.f3):={ m:=_ }
def Zzb:Za:=Aa Z7V 39
def Z7W:Za:=.seq (.regF [.o 2 (.mov (.c (.t (.bool true))))] [2]) (.ret)
def Z7X:Ab:=VY Z7V 39 Zzb
def Zzc(a:WL):Rs:=C 3 [L 1 (a.map (kc .u8))] []
def jP(m:Zf)(q:Zc)(b:Z6)(f:Zb)(cc:WL)(n k:Int):Rs:=lp C [.blk 0,.seq Z7W,.fin 0 [.tmp 2]] [0,3,5,8,10,12,13] Zzb [L 1 (cc.map (kc .u8)),.ptr 0 0,.ptr 1 0,.ptr 2 0,.ptr 3 0,I n,I k] [Ae m.c,Ae q.c,Ae b.c,Ae f.c]
def ZD0:Af 4=some Z29:=Zh Tryz.func4 (by kernel_rfl) (by kernel_rfl)
def ZD1:Af 16=some Z2A:=Zh Tryz.func16 (by kernel_rfl) (by kernel_rfl)
def ZD2:Af 87=some Z2D:=Zh Tryz.func87 (by kernel_rfl) (by kernel_rfl)
def ZD3:Af 38=some Z2E:=Zh Tryz.func38 (by kernel_rfl) (by kernel_rfl)
def ZD4:Af 18=some Z2F:=Zh Tryz.func18 (by kernel_rfl) (by kernel_rfl)
def ZD5:Af 79=some Z2G:=Zh Tryz.func79 (by kernel_rfl) (by kernel_rfl)
def Z7Y:Af 37=some Zrq:=Zh Tryz.func37 (by kernel_rfl) (by kernel_rfl)
def ZD6:Af 80=some Z2J:=Zh Tryz.func80 (by kernel_rfl) (by kernel_rfl)
def ZD7:Af 34=some Z2K:=Zh Tryz.func34 (by kernel_rfl) (by kernel_rfl)
def ZD8:Af 136=some Z2O:=Zh Tryz.func136 (by kernel_rfl) (by kernel_rfl)
def ZD9:Af 168=some Z2P:=Zh Tryz.func168 (by kernel_rfl) (by kernel_rfl)
def ZDA:Af 89=some Z2Q:=Zh Tryz.func89 (by kernel_rfl) (by kernel_rfl)
def ZDB:Af 81=some Z2R:=Zh Tryz.func81 (by kernel_rfl) (by kernel_rfl)
def ZDC:Af 39=some Z2V:=Zh Tryz.func39 (by kernel_rfl) (by kernel_rfl)
def Z7Z:Af 137=some Zr1:=Zh Tryz.func137 (by kernel_rfl) (by kernel_rfl)
def Z8a:Af 50=some Zr2:=Zh Tryz.func50 (by kernel_rfl) (by kernel_rfl)
def ZDD:Af 208=some Z2W:=Zh Tryz.func208 (by kernel_rfl) (by kernel_rfl)
def ZDE:Af 193=some Z2X:=Zh Tryz.func193 (by kernel_rfl) (by kernel_rfl)
def ZDF:Af 169=some Z2Y:=Zh Tryz.func169 (by kernel_rfl) (by kernel_rfl)
def ZDG:Af 171=some Z2Z:=Zh Tryz.func171 (by kernel_rfl) (by kernel_rfl)
def ZDH:Af 165=some Z3a:=Zh Tryz.func165 (by kernel_rfl) (by kernel_rfl)
def ZDI:Af 166=some Z3b:=Zh Tryz.func166 (by kernel_rfl) (by kernel_rfl)
def Z8b:Af 107=some ZrT:=Zh Tryz.func107 (by kernel_rfl) (by kernel_rfl)
def ZDJ:Af 125=some Z3c:=Zh Tryz.func125 (by kernel_rfl) (by kernel_rfl)
def ZDK:Af 167=some Z3d:=Zh Tryz.func167 (by kernel_rfl) (by kernel_rfl)
def ZDL:Af 126=some Z3e:=Zh Tryz.func126 (by kernel_rfl) (by kernel_rfl)
def ZDM:Af 82=some Z3f:=Zh Tryz.func82 (by kernel_rfl) (by kernel_rfl)
def Z8c:Af 43=some Zsd:=Zh Tryz.func43 (by kernel_rfl) (by kernel_rfl)
def ZDN:Af 40=some Z3j:=Zh Tryz.func40 (by kernel_rfl) (by kernel_rfl)
def ZDO:Af 127=some Z3k:=Zh Tryz.func127 (by kernel_rfl) (by kernel_rfl)
def ZDP:Af 128=some Z3l:=Zh Tryz.func128 (by kernel_rfl) (by kernel_rfl)
def ZDQ:Af 83=some Z3m:=Zh Tryz.func83 (by kernel_rfl) (by kernel_rfl)
def ZDR:Af 209=some Z3o:=Zh Tryz.func209 (by kernel_rfl) (by kernel_rfl)
def ZDS:Af 194=some Z3p:=Zh Tryz.func194 (by kernel_rfl) (by kernel_rfl)
def ZDT:Af 195=some Z3r:=Zh Tryz.func195 (by kernel_rfl) (by kernel_rfl)
def ZDU:Af 170=some Z3s:=Zh Tryz.func170 (by kernel_rfl) (by kernel_rfl)
def ZDV:Af 129=some Z3t:=Zh Tryz.func129 (by kernel_rfl) (by kernel_rfl)
def ZDW:Af 130=some Z3u:=Zh Tryz.func130 (by kernel_rfl) (by kernel_rfl)
def ZDX:Af 131=some Z3v:=Zh Tryz.func131 (by kernel_rfl) (by kernel_rfl)
def ZDY:Af 132=some Z3w:=Zh Tryz.func132 (by kernel_rfl) (by kernel_rfl)
def ZDZ:Af 84=some Z3x:=Zh Tryz.func84 (by kernel_rfl) (by kernel_rfl)
def ZEa:Af 35=some Z3z:=Zh Tryz.func35 (by kernel_rfl) (by kernel_rfl)
def ZEb:Af 133=some Z30:=Zh Tryz.func133 (by kernel_rfl) (by kernel_rfl)
def Z8d:Af 90=some ZsM:=Zh Tryz.func90 (by kernel_rfl) (by kernel_rfl)
def ZEc:Af 135=some Z32:=Zh Tryz.func135 (by kernel_rfl) (by kernel_rfl)
def ZEd:Af 134=some Z33:=Zh Tryz.func134 (by kernel_rfl) (by kernel_rfl)
def ZEe:Af 172=some Z34:=Zh Tryz.func172 (by kernel_rfl) (by kernel_rfl)
def ZEf:Af 86=some Z35:=Zh Tryz.func86 (by kernel_rfl) (by kernel_rfl)
def ZEg:Af 42=some Z36:=Zh Tryz.func42 (by kernel_rfl) (by kernel_rfl)
def ZEh:Af 85=some Z39:=Zh Tryz.func85 (by kernel_rfl) (by kernel_rfl)
def ZEi:Af 47=some Z3A:=Zh Tryz.func47 (by kernel_rfl) (by kernel_rfl)
def ZEj:Af 94=some Z3B:=Zh Tryz.func94 (by kernel_rfl) (by kernel_rfl)
def ZEk:Af 180=some Z3C:=Zh Tryz.func180 (by kernel_rfl) (by kernel_rfl)
def ZEl:Af 143=some Z3E:=Zh Tryz.func143 (by kernel_rfl) (by kernel_rfl)
def ZEm:Af 95=some Z3F:=Zh Tryz.func95 (by kernel_rfl) (by kernel_rfl)
def ZEn:Af 46=some Z3G:=Zh Tryz.func46 (by kernel_rfl) (by kernel_rfl)
def ZEo:Af 36=some Z3J:=Zh Tryz.func36 (by kernel_rfl) (by kernel_rfl)
def ZEp:Af 17=some Z3K:=Zh Tryz.func17 (by kernel_rfl) (by kernel_rfl)
def ZEq:Af 88=some Z3N:=Zh Tryz.func88 (by kernel_rfl) (by kernel_rfl)
def ZEr:Af 41=some Z3Q:=Zh Tryz.func41 (by kernel_rfl) (by kernel_rfl)
def ZEs:Af 19=some Z3T:=Zh Tryz.func19 (by kernel_rfl) (by kernel_rfl)
def ZEt:Af 20=some Z3W:=Zh Tryz.func20 (by kernel_rfl) (by kernel_rfl)
def ZEu:Af 5=some Z3Z:=Zh Tryz.func5 (by kernel_rfl) (by kernel_rfl)
def ZEv:Af 196=some Z4a:=Zh Tryz.func196 (by kernel_rfl) (by kernel_rfl)
def ZEw:Af 173=some Z4b:=Zh Tryz.func173 (by kernel_rfl) (by kernel_rfl)
def ZEx:Af 138=some Z4c:=Zh Tryz.func138 (by kernel_rfl) (by kernel_rfl)
def ZEy:Af 139=some Z4d:=Zh Tryz.func139 (by kernel_rfl) (by kernel_rfl)
def ZEz:Af 91=some Z4e:=Zh Tryz.func91 (by kernel_rfl) (by kernel_rfl)
def ZE0:Af 183=some Z4g:=Zh Tryz.func183 (by kernel_rfl) (by kernel_rfl)
def ZE1:Af 148=some Z4h:=Zh Tryz.func148 (by kernel_rfl) (by kernel_rfl)
def ZE2:Af 99=some Z4j:=Zh Tryz.func99 (by kernel_rfl) (by kernel_rfl)
def ZE3:Af 210=some Z4k:=Zh Tryz.func210 (by kernel_rfl) (by kernel_rfl)
def ZE4:Af 197=some Z4l:=Zh Tryz.func197 (by kernel_rfl) (by kernel_rfl)
def ZE5:Af 174=some Z4n:=Zh Tryz.func174 (by kernel_rfl) (by kernel_rfl)
def ZE6:Af 140=some Z4o:=Zh Tryz.func140 (by kernel_rfl) (by kernel_rfl)
def ZE7:Af 220=some Z4p:=Zh Tryz.func220 (by kernel_rfl) (by kernel_rfl)
def ZE8:Af 211=some Z4q:=Zh Tryz.func211 (by kernel_rfl) (by kernel_rfl)
def ZE9:Af 198=some Z4r:=Zh Tryz.func198 (by kernel_rfl) (by kernel_rfl)
def ZEA:Af 199=some Z4s:=Zh Tryz.func199 (by kernel_rfl) (by kernel_rfl)
def ZEB:Af 175=some Z4t:=Zh Tryz.func175 (by kernel_rfl) (by kernel_rfl)
def ZEC:Af 141=some Z4u:=Zh Tryz.func141 (by kernel_rfl) (by kernel_rfl)
def ZED:Af 92=some Z4w:=Zh Tryz.func92 (by kernel_rfl) (by kernel_rfl)
def ZEE:Af 44=some Z4y:=Zh Tryz.func44 (by kernel_rfl) (by kernel_rfl)
def ZEF:Af 176=some Z40:=Zh Tryz.func176 (by kernel_rfl) (by kernel_rfl)
def ZEG:Af 203=some Z42:=Zh Tryz.func203 (by kernel_rfl) (by kernel_rfl)
def ZEH:Af 221=some Z43:=Zh Tryz.func221 (by kernel_rfl) (by kernel_rfl)
def ZEI:Af 212=some Z44:=Zh Tryz.func212 (by kernel_rfl) (by kernel_rfl)
def ZEJ:Af 200=some Z46:=Zh Tryz.func200 (by kernel_rfl) (by kernel_rfl)
def ZEK:Af 177=some Z47:=Zh Tryz.func177 (by kernel_rfl) (by kernel_rfl)
def ZEL:Af 101=some Z49:=Zh Tryz.func101 (by kernel_rfl) (by kernel_rfl)
def ZEM:Af 202=some Z4A:=Zh Tryz.func202 (by kernel_rfl) (by kernel_rfl)
def ZEN:Af 213=some Z4B:=Zh Tryz.func213 (by kernel_rfl) (by kernel_rfl)
def ZEO:Af 201=some Z4C:=Zh Tryz.func201 (by kernel_rfl) (by kernel_rfl)
def ZEP:Af 178=some Z4D:=Zh Tryz.func178 (by kernel_rfl) (by kernel_rfl)
def ZEQ:Af 246=some Z4F:=Zh Tryz.func246 (by kernel_rfl) (by kernel_rfl)
def ZER:Af 247=some Z4H:=Zh Tryz.func247 (by kernel_rfl) (by kernel_rfl)
def ZES:Af 249=some Z4I:=Zh Tryz.func249 (by kernel_rfl) (by kernel_rfl)
def ZET:Af 248=some Z4J:=Zh Tryz.func248 (by kernel_rfl) (by kernel_rfl)
def ZEU:Af 235=some Z4K:=Zh Tryz.func235 (by kernel_rfl) (by kernel_rfl)
def ZEV:Af 227=some Z4M:=Zh Tryz.func227 (by kernel_rfl) (by kernel_rfl)
def ZEW:Af 239=some Z4O:=Zh Tryz.func239 (by kernel_rfl) (by kernel_rfl)
def ZEX:Af 229=some Z4P:=Zh Tryz.func229 (by kernel_rfl) (by kernel_rfl)
def ZEY:Af 236=some Z4S:=Zh Tryz.func236 (by kernel_rfl) (by kernel_rfl)
end
