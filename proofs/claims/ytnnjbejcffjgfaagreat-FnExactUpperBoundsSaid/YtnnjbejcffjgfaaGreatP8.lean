/-
  Parts of the proofs for this seat: D1.
-/
import Derived.Test.YtnnjbejcffjgfaaGreatP7
set_option linter.unusedSectionVars false
set_option linter.unusedSimpArgs false
set_option linter.unusedVariables false
set_option maxRecDepth 100000
set_option maxHeartbeats 4000000
set_option cbv.maxSteps 9999999
namespace Go.Proofs.YtnnjbejcffjgfaaGreat
open Go.AM
noncomputable section
def Zbpu:MFun:=mkF (rawF 79 Tryz.f79)
def Z7(a a1 a2:Int):Rs:=C 79 [I a,I a1,I a2] []
def Z85:RawF (rawF 243 Tryz.f243):={ m:=_ }
def Z86:MCode:=cut0 Z85 7
def Z87:MCode:=cut0 Z85 25
def Zbpv:MFun:=Zo Z85 7 Z86 25 Z87
def Z0x(a:List Int)(a1:Int):Rs:=C 243 [L 1 (a.map ic),I a1] []
def Zti(cc:List Int)(c:Int)(x:List Int)(x1 x2:Int):Rs:=EvL C [.blk 0,.seq Z87,.fin 0 [.tmp 4]] [0,1,7,8,9] Z86 ⟨[(0,L 1 (cc.map ic)),(1,I c),(7,L 1 (x.map ic)),(8,I x1),(9,I x2)],[[]],[]⟩
def Zbpw:MFun:=mkF (rawF 134 Tryz.f134)
def Zo1(a:ByteArray):Rs:=C 134 [.t (.str a)] []
def Zbpx:MFun:=mkF (rawF 338 Tryz.f338)
def Z0y(a:Int):Rs:=C 338 [I a] []
def Zbpy:MFun:=mkF (rawF 324 Tryz.f324)
def Z0z(a a1:Int):Rs:=C 324 [I a,I a1] []
def Z88:RawF (rawF 300 Tryz.f300):={ m:=_ }
def Z89:MCode:=cut0 Z88 7
def Z9a:MCode:=cut0 Z88 37
def Zbpz:MFun:=Zo Z88 7 Z89 37 Z9a
def Z9b(a a1:List Int):Rs:=C 300 [L 1 (a.map ic),L 1 (a1.map ic)] []
def Ztj(s1 s2 x:List Int)(x1 x2:Int):Rs:=EvL C [.blk 0,.seq Z9a,.fin 0 [.tmp 4]] [0,1,9,10,11] Z89 ⟨[(0,L 1 (s1.map ic)),(1,L 1 (s2.map ic)),(9,L 1 (x.map ic)),(10,I x1),(11,I x2)],[[]],[]⟩
def Zbp0:MFun:=mkF (rawF 276 Tryz.f276)
def Z00(a a1:List Int):Rs:=C 276 [L 1 (a.map ic),L 1 (a1.map ic)] []
def Z9c:RawF (rawF 244 Tryz.f244):={ m:=_ }
def Z9d:MCode:=cut0 Z9c 7
def Z9e:MCode:=cut0 Z9c 23
def Zbp1:MFun:=Zo Z9c 7 Z9d 23 Z9e
def Z01(a:List (List Int)):Rs:=C 244 [L 1 (a.map isc)] []
def Ztk(c:List (List Int))(i:Int):Rs:=EvL C [.blk 0,.seq Z9e,.fin 0 [.tmp 2]] [0,3] Z9d ⟨[(0,L 1 (c.map isc)),(3,I i)],[[]],[]⟩
def Z9f:RawF (rawF 203 Tryz.f203):={ m:=_ }
def Z9g:MCode:=cut0 Z9f 7
def Z9h:MCode:=cut0 Z9f 25
def Zbp2:MFun:=Zo Z9f 7 Z9g 25 Z9h
def Zhm(a:Ze):Rs:=C 203 [.agg (a.c.map .t)] []
def Ztl(t:Ze)(x:List (List Int))(x1 x2:Int):Rs:=EvL C [.blk 0,.seq Z9h,.fin 0 [.tmp 2]] [1,6,7,8] Z9g ⟨[(1,.ptr 0 0),(6,L 1 (x.map isc)),(7,I x1),(8,I x2)],[[]],[.box (t.c.map .t)]⟩
def Z9i:RawF (rawF 160 Tryz.f160):={ m:=_ }
def Z9j:MCode:=cut0 Z9i 7
def Z9k:MCode:=cut0 Z9i 25
def Zbp3:MFun:=Zo Z9i 7 Z9j 25 Z9k
def Zo2(a:Zi):Rs:=C 160 [.agg (a.c.map .t)] []
def Zo3(db:Zi)(x:List Ze)(x1 x2:Int):Rs:=EvL C [.blk 0,.seq Z9k,.fin 0 [.tmp 2]] [1,6,7,8] Z9j ⟨[(1,.ptr 0 0),(6,L 3 (x.map Ze.c)),(7,I x1),(8,I x2)],[[]],[.box (db.c.map .t)]⟩
def Z02:RawF (rawF 245 Tryz.f245):={ m:=_ }
def Zbp4:MCode:=cut0 Z02 22
def Z9l:MCode:=cut1 Z02 9 13 Zbp4
def Z9m:MCode:=cut0 Z02 23
def Zbp5:MFun:=Zo Z02 9 Z9l 23 Z9m
def Ze4(a:Int):Rs:=C 245 [I a] []
def Zo4(c:List Int)(cc i:Int):Rs:=EvL C [.blk 0,.seq Z9m,.fin 0 [.tmp 2]] [0,3,4] Z9l ⟨[(0,I cc),(3,.own 0),(4,I i)],[[]],[.arr 3 1 true (c.map ic)]⟩
def Z9n:RawF (rawF 204 Tryz.f204):={ m:=_ }
def Z9o:MCode:=cut0 Z9n 17
def Z9p:MCode:=cut0 Z9n 27
def Zbp6:MFun:=Zo Z9n 17 Z9o 27 Z9p
def Zo5(a:Int):Rs:=C 204 [I a] []
def Zkd(cc:List (List Int))(c cd:Int):Rs:=EvL C [.blk 0,.seq Z9p,.fin 0 [.tmp 2]] [0,3,4] Z9o ⟨[(0,I c),(3,.own 0),(4,I cd)],[[]],[.arr 56 1 true (cc.map isc)]⟩
def Z9q:RawF (rawF 246 Tryz.f246):={ m:=_ }
def Z9r:MCode:=cut0 Z9q 7
def Z9s:MCode:=cut0 Z9q 25
def Zbp7:MFun:=Zo Z9q 7 Z9r 25 Z9s
def Zo6(a:List Int)(a1:Int):Rs:=C 246 [L 1 (a.map ic),I a1] []
def Zo7(c:List Int)(cc:Int)(x:List Int)(x1 x2:Int):Rs:=EvL C [.blk 0,.seq Z9s,.fin 0 [.tmp 4]] [0,1,7,8,9] Z9r ⟨[(0,L 1 (c.map ic)),(1,I cc),(7,L 1 (x.map ic)),(8,I x1),(9,I x2)],[[]],[]⟩
def Z9t:RawF (rawF 247 Tryz.f247):={ m:=_ }
def Z9u:MCode:=cut0 Z9t 9
def Z9v:MCode:=cut0 Z9t 29
def Zbp8:MFun:=Zo Z9t 9 Z9u 29 Z9v
def Zc7(a a1:List Int):Rs:=C 247 [L 1 (a.map ic),L 1 (a1.map ic)] []
def Ztm(c cc x:List Int)(x1 x2:Int):Rs:=EvL C [.blk 0,.seq Z9v,.fin 0 [.tmp 4,.tmp 5]] [0,6,10,11,12] Z9u ⟨[(0,L 1 (cc.map ic)),(6,.own 0),(10,L 1 (x.map ic)),(11,I x1),(12,I x2)],[[]],[.arr 3 1 true (c.map ic)]⟩
def Zbp9:MFun:=mkF (rawF 191 Tryz.f191)
def Zep(a:List Int):Rs:=C 191 [L 1 (a.map ic)] []
def Z9w:RawF (rawF 212 Tryz.f212):={ m:=_ }
def Z9x:MCode:=cut0 Z9w 9
def Z9y:MCode:=cut0 Z9w 21
def Zbqa:MFun:=Zo Z9w 9 Z9x 21 Z9y
def Zhn(a:List (List Int)):Rs:=C 212 [L 1 (a.map isc)] []
def Zo8(c x:List (List Int))(x1 x2:Int):Rs:=EvL C [.blk 0,.seq Z9y,.fin 0 [.tmp 2]] [3,7,8,9] Z9x ⟨[(3,.own 0),(7,L 1 (x.map isc)),(8,I x1),(9,I x2)],[[]],[.arr 56 1 true (c.map isc)]⟩
def Z9z(x:List (List Int)):Rs:=C 277 [.own 0,.fn 276 []] [.arr 56 1 true (x.map isc)]
def Z90(x:List (List Int)):Rs:=C 278 [.own 0,.fn 279 []] [.arr 56 1 true (x.map isc)]
def Zbqb:MFun:=mkF (rawF 248 Tryz.f248)
def Ztn(a:List (List Int)):Rs:=C 248 [L 1 (a.map isc)] []
def Z91:RawF (rawF 249 Tryz.f249):={ m:=_ }
def Z92:MCode:=cut0 Z91 15
def Z93:MCode:=cut0 Z91 33
def Zbqc:MFun:=Zo Z91 15 Z92 33 Z93
def Zin(a a1:List Int):Rs:=C 249 [L 1 (a.map ic),L 1 (a1.map ic)] []
def Zto(s1 s2:List Int)(x x1:Int):Rs:=EvL C [.blk 0,.seq Z93,.fin 0 [.tmp 4]] [0,1,12,13] Z92 ⟨[(0,L 1 (s1.map ic)),(1,L 1 (s2.map ic)),(12,I x),(13,I x1)],[[]],[]⟩
def Zke:RawF (rawF 205 Tryz.f205):={ m:=_ }
def Z94:MCode:=cut0 Zke 17
def Zbqd:MCode:=cut0 Zke 69
def Z95:MCode:=cut1 Zke 54 15 Zbqd
def Z96:MCode:=cut0 Zke 70
def Z03:MCode:=cut2 Zke 40 14 Z95 30 Z96
def Z04:MCode:=cut0 Zke 71
def Z97:MCode:=cut2 Zke 31 9 Z03 40 Z04
def Zbqe:MFun:=Zo Zke 17 Z94 31 Z97
def Zgx(a:Ze)(a1:List Int):Rs:=C 205 [.agg (a.c.map .t),L 1 (a1.map ic)] []
def Zio(all:List (List Int))(c:List Int)(x:List (List Int))(x1 x2:Int):Rs:=EvL C [.blk 0,.seq Z97,.fin 0 [.tmp 4,.tmp 5]] [1,6,29,30,31] Z94 ⟨[(1,L 1 (c.map ic)),(6,.own 0),(29,L 1 (x.map isc)),(30,I x1),(31,I x2)],[[]],[.arr 56 1 true (all.map isc)]⟩
def Zma(all cc:List (List Int))(c:List Int)(x x1:Int):Rs:=EvL C [.blk 2,.seq Z04,.fin 0 [.tmp 4,.tmp 5]] [6,11,12,51,52,53] Z03 ⟨[(6,.own 0),(11,.own 1),(12,.own 2),(51,.own 1),(52,I x),(53,I x1)],[[]],[.arr 56 1 true (all.map isc),.arr 56 1 true (cc.map isc),.arr 3 1 true (c.map ic)]⟩
def Zo9(all cc:List (List Int))(c:List Int)(i:Int)(g:List Int)(x x1 x2 x3:Int):Rs:=EvL C [.blk 4,.blk 3,.seq Z96,.loop [6,11,12,51,52,53] Z03,.blk 2,.seq Z04,.fin 0 [.tmp 4,.tmp 5]] [6,11,12,13,14,51,52,53,58,59,60] Z95 ⟨[(6,.own 0),(11,.own 1),(12,.own 2),(13,I i),(14,L 1 (g.map ic)),(51,.own 1),(52,I x),(53,I x1),(58,.own 0),(59,I x2),(60,I x3)],[[]],[.arr 56 1 true (all.map isc),.arr 56 1 true (cc.map isc),.arr 3 1 true (c.map ic)]⟩
def Z98:RawF (rawF 161 Tryz.f161):={ m:=_ }
def Ztp:MCode:=cut0 Z98 17
def Ztq:MCode:=cut0 Z98 31
def Zbqf:MFun:=Zo Z98 17 Ztp 31 Ztq
def Zho(a:Ze):Rs:=C 161 [.agg (a.c.map .t)] []
def Zbqg(t:Ze)(cp:ByteArray)(cn cd:Int)(co:ByteArray)(cl cc x x1:Int):Rs:=EvL C [.blk 0,.seq Ztq,.fin 0 [.cell 2 (some 4)]] [1,2,3,22,23,24] Ztp ⟨[(1,.ptr 0 0),(2,.ptr 1 0),(3,.ptr 2 0),(22,.t .nil),(23,I x),(24,I x1)],[[]],[.box (t.c.map .t),.box [.t (.str cp),I cn,I cd,.t .nil],.box [.t (.str co),I cl,I cc,.t .nil]]⟩
def Z99(t:Ze)(cp:ByteArray)(cn cd:Int)(co:ByteArray)(cl cc:Int)(x:List (List Int))(x1 x2:Int):Rs:=EvL C [.blk 0,.seq Ztq,.fin 0 [.cell 2 (some 4)]] [1,2,3,22,23,24] Ztp ⟨[(1,.ptr 0 0),(2,.ptr 1 0),(3,.ptr 2 0),(22,.own 3),(23,I x1),(24,I x2)],[[]],[.box (t.c.map .t),.box [.t (.str cp),I cn,I cd,.t .nil],.box [.t (.str co),I cl,I cc,.t .nil],.arr 56 1 true (x.map isc)]⟩
def Zmb(t:Ze)(cp:ByteArray)(cn cd:Int)(co:ByteArray)(cl cc:Int)(fr:Bool)(x:List Zh)(x1:List (List Int))(x2 x3:Int):Rs:=EvL C [.blk 0,.seq Ztq,.fin 0 [.cell 2 (some 4)]] [1,2,3,22,23,24] Ztp ⟨[(1,.ptr 0 0),(2,.ptr 1 0),(3,.ptr 2 0),(22,.own 4),(23,I x2),(24,I x3)],[[]],[.box (t.c.map .t),.box [.t (.str cp),I cn,I cd,.t .nil],.box [.t (.str co),I cl,I cc,.own 3],.arr 200 3 fr (x.map Zh.c),.arr 56 1 true (x1.map isc)]⟩
def Zbaa:RawF (rawF 116 Tryz.f116):={ m:=_ }
def Z05:MCode:=cut0 Zbaa 17
def Z06:MCode:=cut0 Zbaa 29
def Zbqh:MFun:=Zo Zbaa 17 Z05 29 Z06
def Zpa(a:Zi)(a1:Int):Rs:=C 116 [.agg (a.c.map .t),I a1] []
def Zbab(cd cc:Int)(x:List Ze)(x1 x2:Int):Rs:=EvL C [.blk 0,.seq Z06,.fin 0 [.cell 4 (some 2),.tmp 5]] [4,6,21,22,23] Z05 ⟨[(4,.ptr 0 0),(6,.ptr 1 0),(21,L 3 (x.map Ze.c)),(22,I x1),(23,I x2)],[[]],[.box [I cd,.t .nil],.box [I cc,.t .nil]]⟩
def Zmc(cd cc:Int)(fr:Bool)(x:List Zg)(x1:List Ze)(x2 x3:Int):Rs:=EvL C [.blk 0,.seq Z06,.fin 0 [.cell 4 (some 2),.tmp 5]] [4,6,21,22,23] Z05 ⟨[(4,.ptr 0 0),(6,.ptr 1 0),(21,L 3 (x1.map Ze.c)),(22,I x2),(23,I x3)],[[]],[.box [I cd,.t .nil],.box [I cc,.own 2],.arr 141 4 fr (x.map Zg.c)]⟩
def Zbac:RawF (rawF 162 Tryz.f162):={ m:=_ }
def Ztr:MCode:=cut0 Zbac 15
def Zts:MCode:=cut0 Zbac 35
def Zbad:MFun:=Zo Zbac 15 Ztr 35 Zts
def Zbae(a:List Zg):Rs:=C 162 [.t .nil,L 4 (a.map Zg.c),.fn 163 []] []
def Zbaf(s2:List Zg)(x x1:Int):Rs:=EvL C [.blk 0,.seq Zts,.fin 0 [.tmp 6]] [1,2,15,16,17] Ztr ⟨[(1,L 4 (s2.map Zg.c)),(2,.fn 163 []),(15,.t .nil),(16,I x),(17,I x1)],[[]],[]⟩
def Zbag:MFun:=mkF (rawF 117 Tryz.f117)
def Ztt(cc:Int)(a:Zl):Rs:=C 117 [.agg [I cc,.t .nil],.agg (a.c.map .t)] []
def Zbqi:MFun:=mkF (rawF 167 Tryz.f167)
def Zbah(a:Ze)(a1:ByteArray):Rs:=C 167 [.agg (a.c.map .t),.iptr [.str a1] 0] []
def Zbai:RawF (rawF 166 Tryz.f166):={ m:=_ }
def Zbaj:MCode:=cut0 Zbai 7
def Zbak:MCode:=cut0 Zbai 25
def Zbqj:MFun:=Zo Zbai 7 Zbaj 25 Zbak
def Zbal(a:List Ze)(a1:ByteArray):Rs:=C 166 [L 3 (a.map Ze.c),.fn 167 [.iptr [.str a1] 0]] []
def Ztu(s:List Ze)(f:ByteArray)(x x1:Int):Rs:=EvL C [.blk 0,.seq Zbak,.fin 0 [.tmp 4]] [0,1,7,8] Zbaj ⟨[(0,L 3 (s.map Ze.c)),(1,.fn 167 [.iptr [.str f] 0]),(7,I x),(8,I x1)],[[]],[]⟩
def Zbqk:MFun:=mkF (rawF 168 Tryz.f168)
def Zbam(a:Ze):Rs:=C 168 [.agg (a.c.map .t)] []
def Zbql:MFun:=mkF (rawF 119 Tryz.f119)
def Zb1(a:Zi)(a1:ByteArray):Rs:=C 119 [.agg (a.c.map .t),.t (.str a1)] []
def Zban:RawF (rawF 185 Tryz.f185):={ m:=_ }
def Zbao:MCode:=cut0 Zban 7
def Zbap:MCode:=cut0 Zban 25
def Zbqm:MFun:=Zo Zban 7 Zbao 25 Zbap
def Zmd(a:List Int)(a1:Int):Rs:=C 185 [L 1 (a.map ic),I a1] []
def Ztv(s:List Int)(v x x1:Int):Rs:=EvL C [.blk 0,.seq Zbap,.fin 0 [.tmp 4]] [0,1,7,8] Zbao ⟨[(0,L 1 (s.map ic)),(1,I v),(7,I x),(8,I x1)],[[]],[]⟩
def Zbqn:MFun:=mkF (rawF 135 Tryz.f135)
def Zfo(a:List Int)(a1:Int):Rs:=C 135 [L 1 (a.map ic),I a1] []
def Zbqo:MFun:=mkF (rawF 208 Tryz.f208)
def Zpb(a:Zi)(a1:Zk):Rs:=C 208 [.agg (a.c.map .t),.agg (a1.c.map .t)] []
def Zbqp:Rs:=C 249 [.t .nil,.t .nil] []
def Zbqq(a:List Int):Rs:=C 249 [.t .nil,L 1 (a.map ic)] []
def Zbqr(a:List Int):Rs:=C 249 [L 1 (a.map ic),.t .nil] []
def Ztw:RawF (rawF 209 Tryz.f209):={ m:=_ }
def Zbaq:MCode:=cut0 Ztw 31
def Zbar:MCode:=cut0 Ztw 53
def Ztx:MCode:=cut2 Ztw 17 14 Zbaq 36 Zbar
def Zty:MCode:=cut0 Ztw 54
def Zbqs:MFun:=Zo Ztw 17 Ztx 54 Zty
def Ztz(a:Zi)(a1:Zk):Rs:=C 209 [.agg (a.c.map .t),.agg (a1.c.map .t)] []
def Zbqt(f:Zk)(cd:ByteArray)(cc x x1:Int):Rs:=EvL C [.blk 0,.seq Zty,.fin 0 [.tmp 4]] [3,5,27,28,29] Ztx ⟨[(3,.ptr 0 0),(5,.ptr 1 0),(27,.t .nil),(28,I x),(29,I x1)],[[]],[.box (f.c.map .t),.box [.t (.str cd),I cc,.t .nil]]⟩
def Zpc(f:Zk)(t:Ze)(x:List (List Int))(x1 x2:Int):Rs:=EvL C [.blk 0,.seq Zty,.fin 0 [.tmp 4]] [3,5,27,28,29] Ztx ⟨[(3,.ptr 0 0),(5,.ptr 1 0),(27,L 1 (x.map isc)),(28,I x1),(29,I x2)],[[]],[.box (f.c.map .t),.box (t.c.map .t)]⟩
def Zeq(f:Zk)(t:Ze)(k:Int)(y:List Int)(x:List (List Int))(x1 x2:Int)(x3:List (List Int))(x4 x5:Int):Rs:=EvL C [.blk 2,.blk 1,.seq Zbar,.loop [3,5,27,28,29] Ztx,.blk 0,.seq Zty,.fin 0 [.tmp 4]] [3,5,7,8,27,28,29,37,38,39] Zbaq ⟨[(3,.ptr 0 0),(5,.ptr 1 0),(7,I k),(8,L 1 (y.map ic)),(27,L 1 (x.map isc)),(28,I x1),(29,I x2),(37,L 1 (x3.map isc)),(38,I x4),(39,I x5)],[[]],[.box (f.c.map .t),.box (t.c.map .t)]⟩
def Zbqu:MFun:=mkF (rawF 164 Tryz.f164)
def Z07(a:Zi)(a1:Zk):Rs:=C 164 [.agg (a.c.map .t),.agg (a1.c.map .t)] []
def Zbqv:MFun:=mkF (rawF 210 Tryz.f210)
def Zt0(a:Zi)(a1:Zj):Rs:=C 210 [.agg (a.c.map .t),.agg (a1.c.map .t)] []
def Zme(x:List Int):Rs:=C 251 [.own 0] [.arr 3 1 true (x.map ic)]
def Z08(x:List Int):Rs:=C 252 [.own 0] [.arr 3 1 true (x.map ic)]
def Zpd:RawF (rawF 211 Tryz.f211):={ m:=_ }
def Zpe:MCode:=cut0 Zpd 21
def Zbqw:MCode:=cut0 Zpd 57
def Zbas:MCode:=cut1 Zpd 40 17 Zbqw
def Zbat:MCode:=cut0 Zpd 58
def Zpf:MCode:=cut2 Zpd 33 7 Zbas 25 Zbat
def Zbqx:MFun:=Zo Zpd 21 Zpe 33 Zpf
def Zt1(a:Zi)(a1:Zj):Rs:=C 211 [.agg (a.c.map .t),.agg (a1.c.map .t)] []
def Zbqy(x:Zj)(cl:ByteArray)(cc:Int)(cd:List Int)(x1 x2:Int):Rs:=EvL C [.blk 0,.seq Zpf,.fin 0 [.tmp 4]] [3,5,9,36,37,38] Zpe ⟨[(3,.ptr 0 0),(5,.ptr 1 0),(9,.own 2),(36,.t .nil),(37,I x1),(38,I x2)],[[]],[.box (x.c.map .t),.box [.t (.str cl),I cc,.t .nil],.arr 3 1 true (cd.map ic)]⟩
def Zbqz(x:Zj)(cl:ByteArray)(cc:Int)(cd:List Int)(x1:List (List Int))(x2 x3:Int):Rs:=EvL C [.blk 0,.seq Zpf,.fin 0 [.tmp 4]] [3,5,9,36,37,38] Zpe ⟨[(3,.ptr 0 0),(5,.ptr 1 0),(9,.own 2),(36,.own 3),(37,I x2),(38,I x3)],[[]],[.box (x.c.map .t),.box [.t (.str cl),I cc,.t .nil],.arr 3 1 true (cd.map ic),.arr 56 1 true (x1.map isc)]⟩
def Zbq0(x:Zj)(cl:ByteArray)(cc:Int)(x1:List (List Int))(cd:List Int)(x2 x3:Int):Rs:=EvL C [.blk 0,.seq Zpf,.fin 0 [.tmp 4]] [3,5,9,36,37,38] Zpe ⟨[(3,.ptr 0 0),(5,.ptr 1 0),(9,.own 3),(36,.t .nil),(37,I x2),(38,I x3)],[[]],[.box (x.c.map .t),.box [.t (.str cl),I cc,.own 2],.arr 56 1 true (x1.map isc),.arr 3 1 true (cd.map ic)]⟩
def Zt2(x:Zj)(cl:ByteArray)(cc:Int)(x1:List (List Int))(cd:List Int)(x2:List (List Int))(x3 x4:Int):Rs:=EvL C [.blk 0,.seq Zpf,.fin 0 [.tmp 4]] [3,5,9,36,37,38] Zpe ⟨[(3,.ptr 0 0),(5,.ptr 1 0),(9,.own 3),(36,.own 4),(37,I x3),(38,I x4)],[[]],[.box (x.c.map .t),.box [.t (.str cl),I cc,.own 2],.arr 56 1 true (x1.map isc),.arr 3 1 true (cd.map ic),.arr 56 1 true (x2.map isc)]⟩
def Zpg(x:Zj)(cc cd:List Int)(x1:List (List Int))(x2 x3:Int):Rs:=EvL C [.blk 2,.seq Zbat,.fin 0 [.tmp 4]] [3,9,12,53,54,55] Zbas ⟨[(3,.ptr 0 0),(9,.own 1),(12,.own 2),(53,.own 3),(54,I x2),(55,I x3)],[[]],[.box (x.c.map .t),.arr 3 1 true (cc.map ic),.arr 3 1 true (cd.map ic),.arr 56 1 true (x1.map isc)]⟩
def Zbq1:MFun:=mkF (rawF 165 Tryz.f165)
def Z09(a:Zi)(a1:Zj):Rs:=C 165 [.agg (a.c.map .t),.agg (a1.c.map .t)] []
def Zt3:RawF (rawF 118 Tryz.f118):={ m:=_ }
def Zbau:MCode:=cut0 Zt3 7
def Zbav:MCode:=cut0 Zt3 30
def Zbaw:MCode:=cut0 Zt3 48
def Zbax:MCode:=cut2 Zt3 25 5 Zbav 23 Zbaw
def Zbq2:MFun:=Zo Zt3 7 Zbau 25 Zbax
def Zph(a:Zi)(a1:List Zk)(a2:List Zj):Rs:=C 118 [.agg (a.c.map .t),L 3 (a1.map Zk.c),L 4 (a2.map Zj.c)] []
def Zt4(db:Zi)(cc:List Zk)(cd:List Zj)(x:List Zk)(x1 x2:Int):Rs:=EvL C [.blk 0,.seq Zbax,.fin 0 [.tmp 6]] [1,2,3,11,12,13] Zbau ⟨[(1,L 3 (cc.map Zk.c)),(2,L 4 (cd.map Zj.c)),(3,.ptr 0 0),(11,L 3 (x.map Zk.c)),(12,I x1),(13,I x2)],[[]],[.box (db.c.map .t)]⟩
def Zt5(db:Zi)(cc:List Zk)(cd x:List Zj)(x1 x2:Int):Rs:=EvL C [.blk 2,.seq Zbaw,.fin 0 [.tmp 6]] [1,2,3,22,23,24] Zbav ⟨[(1,L 3 (cc.map Zk.c)),(2,L 4 (cd.map Zj.c)),(3,.ptr 0 0),(22,L 4 (x.map Zj.c)),(23,I x1),(24,I x2)],[[]],[.box (db.c.map .t)]⟩
def Zbq3:MFun:=mkF (rawF 281 Tryz.f281)
def Zbay(a a1:List Int):Rs:=C 281 [L 1 (a.map ic),L 1 (a1.map ic)] []
def Zbaz:RawF (rawF 280 Tryz.f280):={ m:=_ }
def Zba0:MCode:=cut0 Zbaz 15
def Zba1:MCode:=cut0 Zbaz 35
def Zbq4:MFun:=Zo Zbaz 15 Zba0 35 Zba1
def Zba2(a a1:List (List Int)):Rs:=C 280 [L 1 (a.map isc),L 1 (a1.map isc),.fn 281 []] []
def Zt6(s2 x:List (List Int))(x1 x2:Int):Rs:=EvL C [.blk 0,.seq Zba1,.fin 0 [.tmp 6]] [1,2,15,16,17] Zba0 ⟨[(1,L 1 (s2.map isc)),(2,.fn 281 []),(15,L 1 (x.map isc)),(16,I x1),(17,I x2)],[[]],[]⟩
def Zbq5:MFun:=mkF (rawF 250 Tryz.f250)
def Z1a(a a1:List (List Int)):Rs:=C 250 [L 1 (a.map isc),L 1 (a1.map isc)] []
def Zbq6:MFun:=mkF (rawF 207 Tryz.f207)
def Zt7(a a1:Zh):Rs:=C 207 [.agg (a.c.map .t),.agg (a1.c.map .t)] []
def Zba3:RawF (rawF 206 Tryz.f206):={ m:=_ }
def Zba4:MCode:=cut0 Zba3 15
def Zba5:MCode:=cut0 Zba3 35
def Zbq7:MFun:=Zo Zba3 15 Zba4 35 Zba5
def Zba6(a a1:List Zh):Rs:=C 206 [L 3 (a.map Zh.c),L 3 (a1.map Zh.c),.fn 207 []] []
def Zt8(s2 x:List Zh)(x1 x2:Int):Rs:=EvL C [.blk 0,.seq Zba5,.fin 0 [.tmp 6]] [1,2,15,16,17] Zba4 ⟨[(1,L 3 (s2.map Zh.c)),(2,.fn 207 []),(15,L 3 (x.map Zh.c)),(16,I x1),(17,I x2)],[[]],[]⟩
def Zbq8:MFun:=mkF (rawF 163 Tryz.f163)
def Zmf(a a1:Zg):Rs:=C 163 [.agg (a.c.map .t),.agg (a1.c.map .t)] []
def Zba7(a a1:List Zg):Rs:=C 162 [L 4 (a.map Zg.c),L 4 (a1.map Zg.c),.fn 163 []] []
def Zt9(s2 x:List Zg)(x1 x2:Int):Rs:=EvL C [.blk 0,.seq Zts,.fin 0 [.tmp 6]] [1,2,15,16,17] Ztr ⟨[(1,L 4 (s2.map Zg.c)),(2,.fn 163 []),(15,L 4 (x.map Zg.c)),(16,I x1),(17,I x2)],[[]],[]⟩
def Z1b(a a1:Zl):Rs:=C 117 [.agg (a.c.map .t),.agg (a1.c.map .t)] []
def Zbq9:MFun:=mkF (rawF 77 Tryz.f77)
def Zpi(a:Zf):Rs:=C 77 [.agg (a.c.map .t)] []
def Zba8:RawF (rawF 186 Tryz.f186):={ m:=_ }
def Zba9:MCode:=cut0 Zba8 7
def Zbba:MCode:=cut0 Zba8 25
def Zbra:MFun:=Zo Zba8 7 Zba9 25 Zbba
def Z1c(a:List Bool)(a1:Bool):Rs:=C 186 [L 1 (a.map bc),Bo a1] []
def Zua(s:List Bool)(v:Bool)(x x1:Int):Rs:=EvL C [.blk 0,.seq Zbba,.fin 0 [.tmp 4]] [0,1,7,8] Zba9 ⟨[(0,L 1 (s.map bc)),(1,Bo v),(7,I x),(8,I x1)],[[]],[]⟩
def Zbrb:MFun:=mkF (rawF 136 Tryz.f136)
def Z1d(a:List Bool)(a1:Bool):Rs:=C 136 [L 1 (a.map bc),Bo a1] []
def Zub:RawF (rawF 92 Tryz.f92):={ m:=_ }
def Zbbb:MCode:=cut0 Zub 39
def Zbbc:MCode:=cut0 Zub 59
def Z1e:MCode:=cut2 Zub 17 22 Zbbb 42 Zbbc
def Z1f:MCode:=cut0 Zub 60
def Z1g:MFun:=Zo Zub 17 Z1e 60 Z1f
def Zkf(a:Zb):Rs:=C 92 [.agg (a.c.map .t)] []
def Zmg(q:Zb)(cc:List Bool)(x:List Atom)(x1 x2:Int):Rs:=EvL C [.blk 0,.seq Z1f,.fin 0 [.tmp 2]] [1,3,23,24,25] Z1e ⟨[(1,.ptr 0 0),(3,.own 1),(23,L 2 (x.map Atom.c)),(24,I x1),(25,I x2)],[[]],[.box (q.c.map .t),.arr 4 1 true (cc.map bc)]⟩
def Zuc(q:Zb)(cc:List Bool)(a:Atom)(x:List Atom)(x1 x2:Int)(x3:List Int)(x4 x5:Int):Rs:=EvL C [.blk 2,.blk 1,.seq Zbbc,.loop [1,3,23,24,25] Z1e,.blk 0,.seq Z1f,.fin 0 [.tmp 2]] [1,3,5,23,24,25,41,42,43] Zbbb ⟨[(1,.ptr 0 0),(3,.own 1),(5,.ptr 2 0),(23,L 2 (x.map Atom.c)),(24,I x1),(25,I x2),(41,L 1 (x3.map ic)),(42,I x4),(43,I x5)],[[]],[.box (q.c.map .t),.arr 4 1 true (cc.map bc),.box (a.c.map .t)]⟩
def Zbbd:RawF (rawF 78 Tryz.f78):={ m:=_ }
def Zbbe:MCode:=cut0 Zbbd 15
def Zbbf:MCode:=cut0 Zbbd 35
def Zbrc:MFun:=Zo Zbbd 15 Zbbe 35 Zbbf
def Zpj(a:Zi)(a1:Zb):Rs:=C 78 [.agg (a.c.map .t),.agg (a1.c.map .t)] []
def Zud(db:Zi)(x:List Atom)(x1 x2:Int):Rs:=EvL C [.blk 0,.seq Zbbf,.fin 0 [.tmp 4]] [2,13,14,15] Zbbe ⟨[(2,.ptr 0 0),(13,L 2 (x.map Atom.c)),(14,I x1),(15,I x2)],[[]],[.box (db.c.map .t)]⟩
def Zbrd:MFun:=mkF (rawF 50 Tryz.f50)
def Ze5(a:Zb):Rs:=C 50 [.agg (a.c.map .t)] []
def Zbre:MFun:=mkF (rawF 40 Tryz.f40)
def Zcu(a:Zf)(a1:Zb)(a2:Int):Rs:=C 40 [.agg (a.c.map .t),.agg (a1.c.map .t),I a2] []
def Z1h:RawF (rawF 122 Tryz.f122):={ m:=_ }
def Zbrf:MCode:=cut0 Z1h 30
def Zbbg:MCode:=cut1 Z1h 17 13 Zbrf
def Zbbh:MCode:=cut0 Z1h 31
def Zbrg:MFun:=Zo Z1h 17 Zbbg 31 Zbbh
def Zca(a:Int):Rs:=C 122 [I a] []
def Zpk(cc:List Int)(c i:Int):Rs:=EvL C [.blk 0,.seq Zbbh,.fin 0 [.tmp 2]] [0,3,4] Zbbg ⟨[(0,I c),(3,.own 0),(4,I i)],[[]],[.arr 3 1 true (cc.map ic)]⟩
def Zbbi(cl:ByteArray)(cd cc:Int)(a:Zg):Rs:=C 163 [.agg [.t (.str cl),I cd,I cc,.t .nil],.agg (a.c.map .t)] []
def Zbrh(cc:ByteArray)(c:Int):Rs:=C 203 [.agg [.t (.str cc),I c,.t .nil]] []
def Zbbj(cc:ByteArray)(c:Int):Rs:=C 161 [.agg [.t (.str cc),I c,.t .nil]] []
def Zbri:RawF (rawF 215 Tryz.f215):={ m:=_ }
def Zbrj:MCode:=cut0 Zbri 12
def Zbrk:MFun:=Zbb Zbri 12 Zbrj
def Zkg(a:Zg):Rs:=C 215 [.agg (a.c.map .t)] []
def Zbrl:MFun:=mkF (rawF 232 Tryz.f232)
def Zpl(a:Zg):Rs:=C 232 [.agg (a.c.map .t)] []
def Zbbk:RawF (rawF 233 Tryz.f233):={ m:=_ }
def Zbbl:MCode:=cut0 Zbbk 9
def Zbbm:MCode:=cut0 Zbbk 21
def Zbrm:MFun:=Zo Zbbk 9 Zbbl 21 Zbbm
def Z1i(a:Zg):Rs:=C 233 [.agg (a.c.map .t)] []
def Zue(s:Zg)(cn:ByteArray)(cl cc:Int)(cd x:List Zh)(x1 x2:Int):Rs:=EvL C [.blk 0,.seq Zbbm,.fin 0 [.cell 2 (some 4)]] [1,2,3,8,9,10] Zbbl ⟨[(1,.ptr 0 0),(2,.ptr 1 0),(3,.own 2),(8,L 3 (x.map Zh.c)),(9,I x1),(10,I x2)],[[]],[.box (s.c.map .t),.box [.t (.str cn),I cl,I cc,.t .nil],.arr 200 3 true (cd.map Zh.c)]⟩
def Zbbn:RawF (rawF 192 Tryz.f192):={ m:=_ }
def Zbbo:MCode:=cut0 Zbbn 7
def Zbbp:MCode:=cut0 Zbbn 25
def Zbrn:MFun:=Zo Zbbn 7 Zbbo 25 Zbbp
def Zpm(a:Zl)(a1:ByteArray):Rs:=C 192 [.agg (a.c.map .t),.t (.str a1)] []
def Zpn(cl:ByteArray)(cd cc:Int)(cn:ByteArray)(x:List Zg)(x1 x2:Int):Rs:=EvL C [.blk 0,.seq Zbbp,.fin 0 [.cellO 4 (some 4) [none,none,none,some (200,3)],.tmpO 5 [none]]] [1,4,9,10,11] Zbbo ⟨[(1,.t (.str cn)),(4,.ptr 0 0),(9,L 4 (x.map Zg.c)),(10,I x1),(11,I x2)],[[]],[.box [.t (.str cl),I cd,I cc,.t .nil]]⟩
def Zbro:MFun:=mkF (rawF 143 Tryz.f143)
def Zgb(a:Zf)(a1:Zb)(a2:Int):Rs:=C 143 [.agg (a.c.map .t),.agg (a1.c.map .t),I a2] []
def Zbbq:RawF (rawF 120 Tryz.f120):={ m:=_ }
def Z1j:MCode:=cut0 Zbbq 17
def Z1k:MCode:=cut0 Zbbq 29
def Zbrp:MFun:=Zo Zbbq 17 Z1j 29 Z1k
def Zuf(a:Zf)(a1:Zb)(a2:Int):Rs:=C 120 [.agg (a.c.map .t),.agg (a1.c.map .t),I a2] []
def Zbrq(s:Zf)(q:Zb)(n x x1:Int):Rs:=EvL C [.blk 0,.seq Z1k,.fin 0 [.tmp 6]] [3,4,7,16,17,18] Z1j ⟨[(3,.ptr 0 0),(4,.ptr 1 0),(7,I n),(16,.t .nil),(17,I x),(18,I x1)],[[]],[.box (s.c.map .t),.box (q.c.map .t)]⟩
def Zug(s:Zf)(q:Zb)(x:List Int)(n x1 x2:Int):Rs:=EvL C [.blk 0,.seq Z1k,.fin 0 [.tmp 6]] [3,4,7,16,17,18] Z1j ⟨[(3,.ptr 0 0),(4,.ptr 1 0),(7,I n),(16,.own 2),(17,I x1),(18,I x2)],[[]],[.box (s.c.map .t),.box (q.c.map .t),.arr 3 1 true (x.map ic)]⟩
def Zuh:RawF (rawF 187 Tryz.f187):={ m:=_ }
def Zbbr:MCode:=cut0 Zuh 21
def Zbbs:MCode:=cut0 Zuh 39
def Z1l:MCode:=cut2 Zuh 9 12 Zbbr 30 Zbbs
def Z1m:MCode:=cut0 Zuh 40
def Zbrr:MFun:=Zo Zuh 9 Z1l 40 Z1m
def Zhp(a:Zb)(a1:Int):Rs:=C 187 [.agg (a.c.map .t),I a1] []
def Zmh(q:Zb)(cd:List Int)(cc v:Int):Rs:=EvL C [.blk 0,.seq Z1m,.fin 0 [.tmp 4]] [1,2,5,6] Z1l ⟨[(1,I cc),(2,.ptr 0 0),(5,.own 1),(6,I v)],[[]],[.box (q.c.map .t),.arr 3 1 true (cd.map ic)]⟩
def Zpo(q:Zb)(cd:List Int)(cc v:Int)(x:List Atom)(x1 x2:Int):Rs:=EvL C [.blk 2,.blk 1,.seq Zbbs,.loop [1,2,5,6] Z1l,.blk 0,.seq Z1m,.fin 0 [.tmp 4]] [1,2,5,6,17,18,19] Zbbr ⟨[(1,I cc),(2,.ptr 0 0),(5,.own 1),(6,I v),(17,L 2 (x.map Atom.c)),(18,I x1),(19,I x2)],[[]],[.box (q.c.map .t),.arr 3 1 true (cd.map ic)]⟩
def Z1n:RawF (rawF 172 Tryz.f172):={ m:=_ }
def Zbrs:MCode:=cut0 Z1n 24
def Zbbt:MCode:=cut1 Z1n 9 15 Zbrs
def Zbbu:MCode:=cut0 Z1n 25
def Zbrt:MFun:=Zo Z1n 9 Zbbt 25 Zbbu
def Zkh(a:Atom)(a1:List Int):Rs:=C 172 [.agg (a.c.map .t),L 1 (a1.map ic)] []
def Zpp(cc c x:List Int)(x1 x2:Int):Rs:=EvL C [.blk 0,.seq Zbbu,.fin 0 [.tmp 4]] [1,5,10,11,12] Zbbt ⟨[(1,L 1 (c.map ic)),(5,.own 0),(10,L 1 (x.map ic)),(11,I x1),(12,I x2)],[[]],[.arr 3 1 true (cc.map ic)]⟩
def Zbru:Rs:=C 191 [.t .nil] []
def Zbrv:RawF (rawF 254 Tryz.f254):={ m:=_ }
def Zbbv:MCode:=cut0 Zbrv 4
def Zbrw:MFun:=Zbb Zbrv 4 Zbbv
def Zui(x:List Int):Rs:=C 254 [.own 0] [.arr 3 1 true (x.map ic)]
def Zuj(s:List Int)(i j:Int):Rs:=EvL C [.blk 0,.fin 1 []] [0,2,3] Zbbv ⟨[(0,.own 0),(2,I i),(3,I j)],[[(0,.own 0)]],[.arr 3 1 true (s.map ic)]⟩
def Zbrx:MFun:=mkF (rawF 216 Tryz.f216)
def Z1o(a:Ze)(a1:List Int):Rs:=C 216 [.agg (a.c.map .t),L 1 (a1.map ic)] []
def Zbry(cc:ByteArray)(c:Int)(a:List Int):Rs:=C 216 [.agg [.t (.str cc),I c,.t .nil],L 1 (a.map ic)] []
def Zbrz:MFun:=mkF (rawF 171 Tryz.f171)
def Zmi(a:Zg)(a1:List Int):Rs:=C 171 [.agg (a.c.map .t),L 1 (a1.map ic)] []
def Zbr0:MFun:=mkF (rawF 253 Tryz.f253)
def Zmj(a:Zg)(a1:List Int):Rs:=C 253 [.agg (a.c.map .t),L 1 (a1.map ic)] []
def Zbr1:MFun:=mkF (rawF 213 Tryz.f213)
def Z1p(a:Zf)(a1:Zb)(a2:Int)(a3:List Int):Rs:=C 213 [.agg (a.c.map .t),.agg (a1.c.map .t),I a2,L 1 (a3.map ic)] []
def Z1q:RawF (rawF 169 Tryz.f169):={ m:=_ }
def Zbr2:MCode:=cut0 Z1q 34
def Z1r:MCode:=cut1 Z1q 17 17 Zbr2
def Z1s:MCode:=cut0 Z1q 35
def Zbr3:MFun:=Zo Z1q 17 Z1r 35 Z1s
def Zpq(a:Zf)(a1:Zb)(a2 a3:Int):Rs:=C 169 [.agg (a.c.map .t),.agg (a1.c.map .t),I a2,I a3] []
def Zbr4(s:Zf)(q:Zb)(cc cl cd x x1:Int):Rs:=EvL C [.blk 0,.seq Z1s,.fin 0 [.tmp 8]] [2,3,4,5,9,16,17,18] Z1r ⟨[(2,I cc),(3,I cl),(4,.ptr 0 0),(5,.ptr 1 0),(9,I cd),(16,.t .nil),(17,I x),(18,I x1)],[[]],[.box (s.c.map .t),.box (q.c.map .t)]⟩
def Zmk(s:Zf)(q:Zb)(x:List Int)(cc cl cd x1 x2:Int):Rs:=EvL C [.blk 0,.seq Z1s,.fin 0 [.tmp 8]] [2,3,4,5,9,16,17,18] Z1r ⟨[(2,I cc),(3,I cl),(4,.ptr 0 0),(5,.ptr 1 0),(9,I cd),(16,.own 2),(17,I x1),(18,I x2)],[[]],[.box (s.c.map .t),.box (q.c.map .t),.arr 3 1 true (x.map ic)]⟩
def Zbr5:MFun:=mkF (rawF 121 Tryz.f121)
def Zuk(a:Zf)(a1:Zb)(a2:Int):Rs:=C 121 [.agg (a.c.map .t),.agg (a1.c.map .t),I a2] []
def Zbr6:MFun:=mkF (rawF 99 Tryz.f99)
def Zpr(a:Zb)(a1:Int):Rs:=C 99 [.agg (a.c.map .t),I a1] []
def Zbr7:MFun:=mkF (rawF 214 Tryz.f214)
def Zgc(a:Zb)(a1:Int):Rs:=C 214 [.agg (a.c.map .t),I a1] []
def Z1t:RawF (rawF 188 Tryz.f188):={ m:=_ }
def Zbr8:MCode:=cut0 Z1t 24
def Zbbw:MCode:=cut1 Z1t 9 15 Zbr8
def Zbbx:MCode:=cut0 Z1t 25
def Zbr9:MFun:=Zo Z1t 9 Zbbw 25 Zbbx
def Zki(a a1:List Int):Rs:=C 188 [L 1 (a.map ic),L 1 (a1.map ic)] []
def Zps(c b x:List Int)(x1 x2:Int):Rs:=EvL C [.blk 0,.seq Zbbx,.fin 0 [.tmp 4]] [1,5,9,10,11] Zbbw ⟨[(1,L 1 (b.map ic)),(5,.own 0),(9,L 1 (x.map ic)),(10,I x1),(11,I x2)],[[]],[.arr 3 1 true (c.map ic)]⟩
def Zbsa(a:List Int):Rs:=C 188 [L 1 (a.map ic),.t .nil] []
def Zbsb(a:List Int):Rs:=C 188 [.t .nil,L 1 (a.map ic)] []
def Zbsc:Rs:=C 188 [.t .nil,.t .nil] []
def Zbsd:MFun:=mkF (rawF 170 Tryz.f170)
def Zul(a:Zb)(a1 a2:Int):Rs:=C 170 [.agg (a.c.map .t),I a1,I a2] []
def Zbby:RawF (rawF 217 Tryz.f217):={ m:=_ }
def Zbbz:MCode:=cut0 Zbby 9
def Zbb0:MCode:=cut0 Zbby 29
def Zbse:MFun:=Zo Zbby 9 Zbbz 29 Zbb0
def Zum(a:List Int):Rs:=C 217 [L 1 (a.map ic)] []
def Zpt(c:List Int)(cc:Int)(x:List Int)(x1 x2:Int):Rs:=EvL C [.blk 0,.seq Zbb0,.fin 0 [.tmp 2]] [0,3,6,7,8] Zbbz ⟨[(0,L 1 (c.map ic)),(3,I cc),(6,L 1 (x.map ic)),(7,I x1),(8,I x2)],[[]],[]⟩
def Zbb1:RawF (rawF 173 Tryz.f173):={ m:=_ }
def Zbb2:MCode:=cut0 Zbb1 17
def Zbb3:MCode:=cut0 Zbb1 27
def Zbsf:MFun:=Zo Zbb1 17 Zbb2 27 Zbb3
def Zun(a a1:List Int):Rs:=C 173 [L 1 (a.map ic),L 1 (a1.map ic)] []
def Zuo(a b:List Int)(n i:Int):Rs:=EvL C [.blk 0,.seq Zbb3,.fin 0 [.tmp 4]] [0,1,5,6] Zbb2 ⟨[(0,L 1 (a.map ic)),(1,L 1 (b.map ic)),(5,I n),(6,I i)],[[]],[]⟩
def Zbsg:MFun:=mkF (rawF 123 Tryz.f123)
def Zup(a:Zf)(a1:Zb)(a2 a3:Int):Rs:=C 123 [.agg (a.c.map .t),.agg (a1.c.map .t),I a2,I a3] []
def Zbb4:RawF (rawF 174 Tryz.f174):={ m:=_ }
def Z1u:MCode:=cut0 Zbb4 7
def Z1v:MCode:=cut0 Zbb4 27
def Zbsh:MFun:=Zo Zbb4 7 Z1u 27 Z1v
def Zuq(a:Zf)(a1:Zb)(a2:Int):Rs:=C 174 [.agg (a.c.map .t),.agg (a1.c.map .t),I a2] []
def Zbsi(s:Zf)(q:Zb)(x x1:Int):Rs:=EvL C [.blk 0,.seq Z1v,.fin 0 [.tmp 6]] [3,4,12,13,14] Z1u ⟨[(3,.ptr 0 0),(4,.ptr 1 0),(12,.t .nil),(13,I x),(14,I x1)],[[]],[.box (s.c.map .t),.box (q.c.map .t)]⟩
def Zur(s:Zf)(q:Zb)(x:List Int)(x1 x2:Int):Rs:=EvL C [.blk 0,.seq Z1v,.fin 0 [.tmp 6]] [3,4,12,13,14] Z1u ⟨[(3,.ptr 0 0),(4,.ptr 1 0),(12,.own 2),(13,I x1),(14,I x2)],[[]],[.box (s.c.map .t),.box (q.c.map .t),.arr 3 1 true (x.map ic)]⟩
def Z1w:RawF (rawF 339 Tryz.f339):={ m:=_ }
def Zbsj:MCode:=cut0 Z1w 24
def Zbb5:MCode:=cut1 Z1w 9 15 Zbsj
def Zbb6:MCode:=cut0 Z1w 25
def Zbsk:MFun:=Zo Z1w 9 Zbb5 25 Zbb6
def Zbsl:Rs:=C 339 [.t .nil] []
def Zpu(a:List Int):Rs:=C 339 [L 1 (a.map ic)] []
def Zpv(c:Int)(x:List Int)(x1 x2:Int):Rs:=EvL C [.blk 0,.seq Zbb6,.fin 0 [.tmp 2]] [3,6,7,8] Zbb5 ⟨[(3,I c),(6,L 1 (x.map ic)),(7,I x1),(8,I x2)],[[]],[]⟩
def Zbb7:RawF (rawF 340 Tryz.f340):={ m:=_ }
def Zbb8:MCode:=cut0 Zbb7 15
def Zbb9:MCode:=cut0 Zbb7 23
def Zbsm:MFun:=Zo Zbb7 15 Zbb8 23 Zbb9
def Zus(a:Int):Rs:=C 340 [I a] []
def Zut(n b:Int):Rs:=EvL C [.blk 0,.seq Zbb9,.fin 0 [.tmp 2]] [0,3] Zbb8 ⟨[(0,I n),(3,I b)],[[]],[]⟩
def Zbca:RawF (rawF 313 Tryz.f313):={ m:=_ }
def Zbcb:MCode:=cut0 Zbca 17
def Zbcc:MCode:=cut0 Zbca 31
def Zbsn:MFun:=Zo Zbca 17 Zbcb 31 Zbcc
def Zuu(a:Zg)(a1:Atom):Rs:=C 313 [.agg (a.c.map .t),.agg (a1.c.map .t)] []
def Zpw(s:Zg)(atom:Atom)(cc:List Zm)(cd:Int):Rs:=EvL C [.blk 0,.seq Zbcc,.fin 0 [.tmpO 4 [some (251,3)]]] [2,3,5,6] Zbcb ⟨[(2,.ptr 0 0),(3,.ptr 1 0),(5,.own 2),(6,I cd)],[[]],[.box (s.c.map .t),.box (atom.c.map .t),.arr 251 3 true (cc.map Zm.c)]⟩
def Zbcd:RawF (rawF 284 Tryz.f284):={ m:=_ }
def Z1x:MCode:=cut0 Zbcd 17
def Z1y:MCode:=cut0 Zbcd 41
def Zbso:MFun:=Zo Zbcd 17 Z1x 41 Z1y
def Zuv(a:Zf)(a1:Zb)(a2:Int):Rs:=C 284 [.agg (a.c.map .t),.agg (a1.c.map .t),I a2] []
def Zbsp(s:Zf)(q:Zb)(cc:List Zm)(x x1:Int):Rs:=EvL C [.blk 0,.seq Z1y,.fin 0 [.tmpO 6 [some (251,3)]]] [3,4,7,32,33,34] Z1x ⟨[(3,.ptr 0 0),(4,.ptr 1 0),(7,.own 2),(32,.t .nil),(33,I x),(34,I x1)],[[]],[.box (s.c.map .t),.box (q.c.map .t),.arr 251 3 true (cc.map Zm.c)]⟩
def Zuw(s:Zf)(q:Zb)(cc:List Zm)(x:List Int)(x1 x2:Int):Rs:=EvL C [.blk 0,.seq Z1y,.fin 0 [.tmpO 6 [some (251,3)]]] [3,4,7,32,33,34] Z1x ⟨[(3,.ptr 0 0),(4,.ptr 1 0),(7,.own 2),(32,.own 3),(33,I x1),(34,I x2)],[[]],[.box (s.c.map .t),.box (q.c.map .t),.arr 251 3 true (cc.map Zm.c),.arr 3 1 true (x.map ic)]⟩
def Z1z:RawF (rawF 316 Tryz.f316):={ m:=_ }
def Zbsq:MCode:=cut0 Z1z 24
def Zbce:MCode:=cut1 Z1z 9 15 Zbsq
def Zbcf:MCode:=cut0 Z1z 25
def Zbsr:MFun:=Zo Z1z 9 Zbce 25 Zbcf
def Zux(x:List Int)(a:Int):Rs:=C 316 [I a,.ptr 0 0] [.box [L 1 (x.map ic)]]
def Zkj(x:List Int)(cc c:Int)(x1:List Int)(x2 x3:Int):Rs:=EvL C [.blk 0,.seq Zbcf,.fin 1 [.tmp 3]] [0,4,7,8,9] Zbce ⟨[(0,I cc),(4,I c),(7,L 1 (x1.map ic)),(8,I x2),(9,I x3)],[[(0,.ptr 0 0)]],[.box [L 1 (x.map ic)]]⟩
def Zbcg:RawF (rawF 286 Tryz.f286):={ m:=_ }
def Zbch:MCode:=cut0 Zbcg 11
def Zbci:MCode:=cut0 Zbcg 23
def Zbss:MFun:=Zo Zbcg 11 Zbch 23 Zbci
def Zuy(a:List Zm)(a1:List Int):Rs:=C 286 [L 3 (a.map Zm.c),L 1 (a1.map ic)] []
def Zuz(x:List Int)(cc x1:List Zm)(x2 x3:Int):Rs:=EvL C [.blk 0,.seq Zbci,.fin 0 [.tmp 4]] [5,6,11,12,13] Zbch ⟨[(5,.fn 316 [.ptr 0 0]),(6,.own 1),(11,L 3 (x1.map Zm.c)),(12,I x2),(13,I x3)],[[]],[.box [L 1 (x.map ic)],.arr 251 3 true (cc.map Zm.c)]⟩
def Zml:RawF (rawF 341 Tryz.f341):={ m:=_ }
def Zbst:MCode:=cut0 Zml 22
def Zbcj:MCode:=cut1 Zml 7 15 Zbst
def Zbsu:MCode:=cut0 Zml 43
def Zbck:MCode:=cut1 Zml 28 15 Zbsu
def Zbcl:MCode:=cut0 Zml 44
def Zbcm:MCode:=cut2 Zml 23 5 Zbck 21 Zbcl
def Zbsv:MFun:=Zo Zml 7 Zbcj 23 Zbcm
def Zmm(x x1:List Int)(x2:Int)(x3:List (List Int)):Rs:=C 341 [.own 0,.own 1,.ptr 2 0,.ptr 3 0] [.arr 3 1 true (x.map ic),.arr 3 1 true (x1.map ic),.box [I x2],.box [.own 4],.arr 56 1 true (x3.map isc)]
def Zmn(c:List Int)(x:List (List Int))(cc x1:List Int)(x2 x3 x4:Int):Rs:=EvL C [.blk 0,.seq Zbcm,.fin 5 []] [1,3,6,13,14,15] Zbcj ⟨[(1,.own 0),(3,.ptr 1 0),(6,.own 3),(13,.own 4),(14,I x3),(15,I x4)],[[(0,.own 4),(1,.own 0),(2,.ptr 5 0),(3,.ptr 1 0),(4,.own 2)]],[.arr 3 1 true (c.map ic),.box [.own 2],.arr 56 1 true (x.map isc),.arr 3 1 true (cc.map ic),.arr 3 1 true (x1.map ic),.box [I x2]]⟩
def Zpx(x:List (List Int))(c x1 x2:List Int)(x3 x4 x5:Int):Rs:=EvL C [.blk 2,.seq Zbcl,.fin 5 []] [3,6,29,30,31] Zbck ⟨[(3,.ptr 0 0),(6,.own 2),(29,.own 3),(30,I x4),(31,I x5)],[[(0,.own 4),(1,.own 3),(2,.ptr 5 0),(3,.ptr 0 0),(4,.own 1)]],[.box [.own 1],.arr 56 1 true (x.map isc),.arr 3 1 true (c.map ic),.arr 3 1 true (x1.map ic),.arr 3 1 true (x2.map ic),.box [I x3]]⟩
def Zhq:RawF (rawF 314 Tryz.f314):={ m:=_ }
def Zbcn:MCode:=cut0 Zhq 21
def Zbsw:MCode:=cut0 Zhq 73
def Zbco:MCode:=cut1 Zhq 60 13 Zbsw
def Zbcp:MCode:=cut0 Zhq 74
def Z10:MCode:=cut2 Zhq 48 12 Zbco 26 Zbcp
def Z11:MCode:=cut0 Zhq 75
def Zu0:MCode:=cut2 Zhq 36 12 Z10 39 Z11
def Zu1:MCode:=cut0 Zhq 76
def Zbcq:MCode:=cut2 Zhq 31 5 Zu0 45 Zu1
def Zbsx:MFun:=Zo Zhq 21 Zbcn 31 Zbcq
def Zu2(a:Int):Rs:=C 314 [I a] []
def Zpy(all:Int)(x:List (List Int))(n i:Int):Rs:=EvL C [.blk 0,.seq Zbcq,.fin 0 [.tmpO 2 [some (56,1)]]] [0,3,4,5,6] Zbcn ⟨[(0,I n),(3,.ptr 0 0),(4,.ptr 1 0),(5,.fn 341 [.ptr 0 0,.ptr 1 0]),(6,I i)],[[]],[.box [I all],.box [.own 2],.arr 56 1 true (x.map isc)]⟩
def Zmo(all:Int)(x:List (List Int))(n i:Int):Rs:=EvL C [.blk 2,.seq Zu1,.fin 0 [.tmpO 2 [some (56,1)]]] [0,3,4,5,7] Zu0 ⟨[(0,I n),(3,.ptr 0 0),(4,.ptr 1 0),(5,.fn 341 [.ptr 0 0,.ptr 1 0]),(7,I i)],[[]],[.box [I all],.box [.own 2],.arr 56 1 true (x.map isc)]⟩
def Zmp(all:Int)(x:List (List Int))(n i j:Int):Rs:=EvL C [.blk 4,.blk 3,.seq Z11,.loop [0,3,4,5,7] Zu0,.blk 2,.seq Zu1,.fin 0 [.tmpO 2 [some (56,1)]]] [0,3,4,5,7,8] Z10 ⟨[(0,I n),(3,.ptr 0 0),(4,.ptr 1 0),(5,.fn 341 [.ptr 0 0,.ptr 1 0]),(7,I i),(8,I j)],[[]],[.box [I all],.box [.own 2],.arr 56 1 true (x.map isc)]⟩
def Zmq(all:Int)(x:List (List Int))(n i j s:Int):Rs:=EvL C [.blk 6,.blk 5,.seq Zbcp,.loop [0,3,4,5,7,8] Z10,.blk 4,.blk 3,.seq Z11,.loop [0,3,4,5,7] Zu0,.blk 2,.seq Zu1,.fin 0 [.tmpO 2 [some (56,1)]]] [0,3,4,5,7,8,9] Zbco ⟨[(0,I n),(3,.ptr 0 0),(4,.ptr 1 0),(5,.fn 341 [.ptr 0 0,.ptr 1 0]),(7,I i),(8,I j),(9,I s)],[[]],[.box [I all],.box [.own 2],.arr 56 1 true (x.map isc)]⟩
def Zkk:RawF (rawF 315 Tryz.f315):={ m:=_ }
def Zbcr:MCode:=cut0 Zkk 32
def Zbcs:MCode:=cut0 Zkk 50
def Zbct:MCode:=cut0 Zkk 57
def Z12:MCode:=cut3 Zkk 17 15 Zbcr 33 Zbcs 40 Zbct
def Zbcu:MCode:=cut0 Zkk 63
def Zbcv:MCode:=cut0 Zkk 81
def Z13:MCode:=cut2 Zkk 58 5 Zbcu 23 Zbcv
def Zbsy:MFun:=Zo Zkk 17 Z12 58 Z13
def Zmr(a:Program):Rs:=C 315 [.agg (a.c.map .t)] []
def Zpz(p:Program)(fr:Bool)(x:List (List Int))(n x1 x2:Int):Rs:=EvL C [.blk 0,.seq Z13,.fin 0 [.tmp 2]] [1,3,38,39,40] Z12 ⟨[(1,.ptr 0 0),(3,I n),(38,.own 1),(39,I x1),(40,I x2)],[[]],[.box (p.c.map .t),.arr 56 1 fr (x.map isc)]⟩
def Zu3(p:Program)(fr:Bool)(x:List (List Int))(n:Int)(cc:List Int)(x1 x2:Int)(x3:List Int)(x4 x5:Int):Rs:=EvL C [.blk 2,.seq Zbcs,.blk 1,.seq Zbct,.loop [1,3,38,39,40] Z12,.blk 0,.seq Z13,.fin 0 [.tmp 2]] [1,3,5,38,39,40,44,45,46] Zbcr ⟨[(1,.ptr 0 0),(3,I n),(5,L 1 (cc.map ic)),(38,.own 1),(39,I x1),(40,I x2),(44,L 1 (x3.map ic)),(45,I x4),(46,I x5)],[[]],[.box (p.c.map .t),.arr 56 1 fr (x.map isc)]⟩
def Zu4(x:List Int)(x1 x2:Int):Rs:=EvL C [.blk 4,.seq Zbcv,.fin 0 [.tmp 2]] [60,61,62] Zbcu ⟨[(60,L 1 (x.map ic)),(61,I x1),(62,I x2)],[[]],[]⟩
def Z14:RawF (rawF 285 Tryz.f285):={ m:=_ }
def Zbcw:MCode:=cut0 Z14 51
def Zbcx:MCode:=cut1 Z14 23 28 Zbcw
def Z15:MCode:=cut0 Z14 55
def Zbcy:MFun:=Zo Z14 23 Zbcx 55 Z15
def Zkl(a:List Zm)(a1:Int):Rs:=C 285 [L 3 (a.map Zm.c),I a1] []
def Zip(x:List Int)(x1:List (List Int))(x2:List Int)(cc:Int)(x3:List Zm)(x4 x5:Int):Rs:=EvL C [.blk 0,.seq Z15,.fin 0 [.cellO 4 (some 3) [some (3,1),some (56,1),some (3,1)],.tmpO 5 [none]]] [4,6,7,33,34,35] Zbcx ⟨[(4,.ptr 0 0),(6,I cc),(7,.ptr 1 0),(33,L 3 (x3.map Zm.c)),(34,I x4),(35,I x5)],[[]],[.box [.t .nil,.t .nil,.t .nil],.box [.own 2,.own 3,.own 4],.arr 3 1 true (x.map ic),.arr 56 1 true (x1.map isc),.arr 3 1 true (x2.map ic)]⟩
def Zbsz(a:List Zm):Rs:=C 286 [L 3 (a.map Zm.c),.t .nil] []
def Zbs0:MFun:=mkF (rawF 255 Tryz.f255)
def Z16(a:Zf)(a1:Zb)(a2:Int):Rs:=C 255 [.agg (a.c.map .t),.agg (a1.c.map .t),I a2] []
def Zbs1:MFun:=mkF (rawF 317 Tryz.f317)
def Zkm(a:Int):Rs:=C 317 [I a] []
def Zbcz:RawF (rawF 291 Tryz.f291):={ m:=_ }
def Zbc0:MCode:=cut0 Zbcz 9
def Zbc1:MCode:=cut0 Zbcz 21
def Zbs2:MFun:=Zo Zbcz 9 Zbc0 21 Zbc1
def Zgd(a:List Int):Rs:=C 291 [L 1 (a.map ic)] []
def Zu5(cc:List Za)(x:List Int)(x1 x2:Int):Rs:=EvL C [.blk 0,.seq Zbc1,.fin 0 [.tmp 2]] [3,7,8,9] Zbc0 ⟨[(3,.own 0),(7,L 1 (x.map ic)),(8,I x1),(9,I x2)],[[]],[.arr 149 2 true (cc.map Za.c)]⟩
def Zu6:RawF (rawF 287 Tryz.f287):={ m:=_ }
def Z17:MCode:=cut0 Zu6 19
def Zu7:MCode:=cut0 Zu6 34
def Zu8:MCode:=cut0 Zu6 48
def Z18:MCode:=cut2 Zu6 29 5 Zu7 19 Zu8
def Zbs3:MFun:=Zo Zu6 19 Z17 29 Z18
def Zu9(a:Program):Rs:=C 287 [.agg (a.c.map .t)] []
def Zbc2(p:Program)(cd cc:Za)(x x1:List Za)(n k:Int):Rs:=EvL C [.blk 0,.seq Z18,.fin 0 [.cellO 2 (some 7) [some (3,1),some (3,1),some (179,1),some (149,2),some (149,2),none,none],.tmpO 3 [none]]] [1,2,4,5,6] Z17 ⟨[(1,.ptr 0 0),(2,.ptr 1 0),(4,.ptr 2 0),(5,I n),(6,I k)],[[]],[.box (p.c.map .t),.box [.t .nil,.t .nil,.t .nil,.t .nil,.t .nil,I cd.Num,I cd.Den],.box [.t .nil,.t .nil,.t .nil,.own 3,.own 4,I cc.Num,I cc.Den],.arr 149 2 true (x.map Za.c),.arr 149 2 true (x1.map Za.c)]⟩
def Zva(p:Program)(cd cc:Za)(x:List Int)(x1 x2:List Za)(n k:Int):Rs:=EvL C [.blk 0,.seq Z18,.fin 0 [.cellO 2 (some 7) [some (3,1),some (3,1),some (179,1),some (149,2),some (149,2),none,none],.tmpO 3 [none]]] [1,2,4,5,6] Z17 ⟨[(1,.ptr 0 0),(2,.ptr 1 0),(4,.ptr 2 0),(5,I n),(6,I k)],[[]],[.box (p.c.map .t),.box [.t .nil,.t .nil,.t .nil,.t .nil,.t .nil,I cd.Num,I cd.Den],.box [.t .nil,.own 3,.t .nil,.own 4,.own 5,I cc.Num,I cc.Den],.arr 3 1 true (x.map ic),.arr 149 2 true (x1.map Za.c),.arr 149 2 true (x2.map Za.c)]⟩
def Zbs4(cd cc:Za)(x x1:List Za)(n:Int)(x2:List (List Int))(x3 x4:Int):Rs:=EvL C [.blk 2,.seq Zu8,.fin 0 [.cellO 2 (some 7) [some (3,1),some (3,1),some (179,1),some (149,2),some (149,2),none,none],.tmpO 3 [none]]] [2,4,5,36,37,38] Zu7 ⟨[(2,.ptr 0 0),(4,.ptr 1 0),(5,I n),(36,L 1 (x2.map isc)),(37,I x3),(38,I x4)],[[]],[.box [.t .nil,.t .nil,.t .nil,.t .nil,.t .nil,I cd.Num,I cd.Den],.box [.t .nil,.t .nil,.t .nil,.own 2,.own 3,I cc.Num,I cc.Den],.arr 149 2 true (x.map Za.c),.arr 149 2 true (x1.map Za.c)]⟩
def Zbc3(cd cc:Za)(x:List Int)(x1 x2:List Za)(n:Int)(x3:List (List Int))(x4 x5:Int):Rs:=EvL C [.blk 2,.seq Zu8,.fin 0 [.cellO 2 (some 7) [some (3,1),some (3,1),some (179,1),some (149,2),some (149,2),none,none],.tmpO 3 [none]]] [2,4,5,36,37,38] Zu7 ⟨[(2,.ptr 0 0),(4,.ptr 1 0),(5,I n),(36,L 1 (x3.map isc)),(37,I x4),(38,I x5)],[[]],[.box [.t .nil,.t .nil,.t .nil,.t .nil,.t .nil,I cd.Num,I cd.Den],.box [.t .nil,.own 2,.t .nil,.own 3,.own 4,I cc.Num,I cc.Den],.arr 3 1 true (x.map ic),.arr 149 2 true (x1.map Za.c),.arr 149 2 true (x2.map Za.c)]⟩
def Zvb(cd cc:Za)(x x1:List Int)(x2:List (List Za))(x3 x4:List Za)(n:Int)(x5:List (List Int))(x6 x7:Int):Rs:=EvL C [.blk 2,.seq Zu8,.fin 0 [.cellO 2 (some 7) [some (3,1),some (3,1),some (179,1),some (149,2),some (149,2),none,none],.tmpO 3 [none]]] [2,4,5,36,37,38] Zu7 ⟨[(2,.ptr 0 0),(4,.ptr 1 0),(5,I n),(36,L 1 (x5.map isc)),(37,I x6),(38,I x7)],[[]],[.box [.t .nil,.t .nil,.t .nil,.t .nil,.t .nil,I cd.Num,I cd.Den],.box [.own 2,.own 3,.own 4,.own 5,.own 6,I cc.Num,I cc.Den],.arr 3 1 true (x.map ic),.arr 3 1 true (x1.map ic),.arr 179 1 true (x2.map (lc 2 Za.c)),.arr 149 2 true (x3.map Za.c),.arr 149 2 true (x4.map Za.c)]⟩
def Z19:RawF (rawF 288 Tryz.f288):={ m:=_ }
def Zbs5:MCode:=cut0 Z19 24
def Zbc4:MCode:=cut1 Z19 9 15 Zbs5
def Zbc5:MCode:=cut0 Z19 25
def Zbs6:MFun:=Zo Z19 9 Zbc4 25 Zbc5
def Zvc(a:Zn):Rs:=C 288 [.agg (a.c.map .t)] []
def Zkn(d:Zn)(cc:Int)(x:List Za)(x1 x2:Int):Rs:=EvL C [.blk 0,.seq Zbc5,.fin 0 [.tmp 2]] [1,3,7,8,9] Zbc4 ⟨[(1,.ptr 0 0),(3,I cc),(7,L 2 (x.map Za.c)),(8,I x1),(9,I x2)],[[]],[.box (d.c.map .t)]⟩
def Zbc6:RawF (rawF 257 Tryz.f257):={ m:=_ }
def Zbc7:MCode:=cut0 Zbc6 5
def Zbc8:MCode:=cut0 Zbc6 13
def Zbs7:MFun:=Zo Zbc6 5 Zbc7 13 Zbc8
def Zgy(a a1:Int):Rs:=C 257 [I a,I a1] []
def Zvd(a b:Int):Rs:=EvL C [.blk 0,.seq Zbc8,.fin 0 [.tmp 4]] [0,1] Zbc7 ⟨[(0,I a),(1,I b)],[[]],[]⟩
def Zbs8:MFun:=mkF (rawF 219 Tryz.f219)
def Zcm(a:Za):Rs:=C 219 [.agg (a.c.map .t)] []
def Zbs9:RawF (rawF 342 Tryz.f342):={ m:=_ }
def Zbta:MCode:=cut0 Zbs9 16
def Zbtb:MFun:=Zbb Zbs9 16 Zbta
def Zms(a a1:Int):Rs:=C 342 [I a,I a1] []
def Zbtc:MFun:=mkF (rawF 318 Tryz.f318)
def Zve(a a1:Za):Rs:=C 318 [.agg (a.c.map .t),.agg (a1.c.map .t)] []
def Zbtd:MFun:=mkF (rawF 319 Tryz.f319)
def Z2a(a a1:Za):Rs:=C 319 [.agg (a.c.map .t),.agg (a1.c.map .t)] []
def Z2b:RawF (rawF 289 Tryz.f289):={ m:=_ }
def Zbte:MCode:=cut0 Z2b 44
def Zbc9:MCode:=cut1 Z2b 11 33 Zbte
def Zbda:MCode:=cut0 Z2b 45
def Zbtf:MFun:=Zo Z2b 11 Zbc9 45 Zbda
def Zvf(a:Zn)(a1:Int):Rs:=C 289 [.agg (a.c.map .t),I a1] []
def Zhr(d:Zn)(least:Za)(cc cd x x1:Int):Rs:=EvL C [.blk 0,.seq Zbda,.fin 0 [.tmp 4]] [1,2,5,6,14,15] Zbc9 ⟨[(1,I cc),(2,.ptr 0 0),(5,I cd),(6,.ptr 1 0),(14,I x),(15,I x1)],[[]],[.box (d.c.map .t),.box (least.c.map .t)]⟩
def Zbtg:MFun:=mkF (rawF 320 Tryz.f320)
def Zko(a:List Za):Rs:=C 320 [L 2 (a.map Za.c)] []
def Zbth:MFun:=mkF (rawF 321 Tryz.f321)
def Ziq(x:Z4)(a a1:Za):Rs:=C 321 [.ptr 0 0,.agg (a.c.map .t),.agg (a1.c.map .t)] [.box (x.c.map .t)]
def Zbti:MFun:=mkF (rawF 292 Tryz.f292)
def Zfp(a:Za):Rs:=C 292 [.agg (a.c.map .t)] []
def Zbtj:MFun:=mkF (rawF 343 Tryz.f343)
def Zvg(a a1:Za):Rs:=C 343 [.agg (a.c.map .t),.agg (a1.c.map .t)] []
def Zbtk:MFun:=mkF (rawF 344 Tryz.f344)
def Zvh(a a1:Za):Rs:=C 344 [.agg (a.c.map .t),.agg (a1.c.map .t)] []
def Zbtl:MFun:=mkF (rawF 323 Tryz.f323)
def Zfq(x:Z4)(a a1 a2:Za):Rs:=C 323 [.ptr 0 0,.agg (a.c.map .t),.agg (a1.c.map .t),.agg (a2.c.map .t)] [.box (x.c.map .t)]
def Z2c:RawF (rawF 322 Tryz.f322):={ m:=_ }
def Zbtm:MCode:=cut0 Z2c 26
def Z2d:MCode:=cut1 Z2c 11 15 Zbtm
def Z2e:MCode:=cut0 Z2c 27
def Zbtn:MFun:=Zo Z2c 11 Z2d 27 Z2e
def Zmt(x:Int)(x1:Z4)(x2:Za)(x3 a:List Za):Rs:=C 322 [L 2 (a.map Za.c),.ptr 0 0,.ptr 1 0,.ptr 3 0,.ptr 4 0] [.box [I x],.box [.ptr 2 0],.box (x1.c.map .t),.box (x2.c.map .t),.box [.own 5],.arr 149 2 true (x3.map Za.c)]
def Zp0(l:List Za)(x:Int)(x1:Z4)(x2:Za)(x3:List Za)(c:Za)(x4 x5:Int):Rs:=EvL C [.blk 0,.seq Z2e,.fin 6 [.tmp 6]] [0,1,2,3,4,7,16,17] Z2d ⟨[(0,.own 0),(1,.ptr 1 0),(2,.ptr 2 0),(3,.ptr 4 0),(4,.ptr 5 0),(7,.ptr 7 0),(16,I x4),(17,I x5)],[[(0,.ptr 1 0),(1,.ptr 2 0),(2,.ptr 3 0),(3,.ptr 4 0),(4,.ptr 5 0),(5,.own 6)]],[.arr 149 2 true (l.map Za.c),.box [I x],.box [.ptr 3 0],.box (x1.c.map .t),.box (x2.c.map .t),.box [.own 6],.arr 149 2 true (x3.map Za.c),.box (c.c.map .t)]⟩
def Zvi(x:Int)(x1:Z4)(x2:Za)(x3 a:List Za):Rs:=C 322 [L 2 (a.map Za.c),.ptr 0 0,.ptr 1 0,.ptr 3 0,.ptr 4 0] [.box [I x],.box [.ptr 2 0],.box (x1.c.map .t),.box (x2.c.map .t),.box [L 2 (x3.map Za.c)]]
def Zp1(l:List Za)(x:Int)(x1:Z4)(x2:Za)(x3:List Za)(c:Za)(x4 x5:Int):Rs:=EvL C [.blk 0,.seq Z2e,.fin 5 [.tmp 6]] [0,1,2,3,4,7,16,17] Z2d ⟨[(0,.own 0),(1,.ptr 1 0),(2,.ptr 2 0),(3,.ptr 4 0),(4,.ptr 5 0),(7,.ptr 6 0),(16,I x4),(17,I x5)],[[(0,.ptr 1 0),(1,.ptr 2 0),(2,.ptr 3 0),(3,.ptr 4 0),(4,.ptr 5 0)]],[.arr 149 2 true (l.map Za.c),.box [I x],.box [.ptr 3 0],.box (x1.c.map .t),.box (x2.c.map .t),.box [L 2 (x3.map Za.c)],.box (c.c.map .t)]⟩
end
end Go.Proofs.YtnnjbejcffjgfaaGreat
