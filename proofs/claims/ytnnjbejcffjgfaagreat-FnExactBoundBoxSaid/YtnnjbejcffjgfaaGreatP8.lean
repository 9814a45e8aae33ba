/-
  Parts of the proofs for this seat: D1.
-/
import Derived.Test.YtnnjbejcffjgfaaGreatP7
set_option linter.unusedSectionVars false
set_option linter.unusedSimpArgs false
set_option linter.unusedVariables false
set_option maxRecDepth 100000
set_option maxHeartbeats 4000000
set_option cbv.maxSteps 9999999
namespace Go.Proofs.YtnnjbejcffjgfaaGreat
open Go.AM
noncomputable section
def Zbpe:MFun:=mkF (rawF 79 Tryz.f79)
def Z7(a a1 a2:Int):Rs:=C 79 [I a,I a1,I a2] []
def Z8u:RawF (rawF 243 Tryz.f243):={ m:=_ }
def Z8v:MCode:=cut0 Z8u 7
def Z8w:MCode:=cut0 Z8u 25
def Zbpf:MFun:=Zn Z8u 7 Z8v 25 Z8w
def Z0t(a:List Int)(a1:Int):Rs:=C 243 [L 1 (a.map ic),I a1] []
def Ztc(cc:List Int)(c:Int)(x:List Int)(x1 x2:Int):Rs:=EvL C [.blk 0,.seq Z8w,.fin 0 [.tmp 4]] [0,1,7,8,9] Z8v ⟨[(0,L 1 (cc.map ic)),(1,I c),(7,L 1 (x.map ic)),(8,I x1),(9,I x2)],[[]],[]⟩
def Zbpg:MFun:=mkF (rawF 134 Tryz.f134)
def Zoz(a:ByteArray):Rs:=C 134 [.t (.str a)] []
def Zbph:MFun:=mkF (rawF 338 Tryz.f338)
def Z0u(a:Int):Rs:=C 338 [I a] []
def Zbpi:MFun:=mkF (rawF 324 Tryz.f324)
def Z0v(a a1:Int):Rs:=C 324 [I a,I a1] []
def Z8x:RawF (rawF 300 Tryz.f300):={ m:=_ }
def Z8y:MCode:=cut0 Z8x 7
def Z8z:MCode:=cut0 Z8x 37
def Zbpj:MFun:=Zn Z8x 7 Z8y 37 Z8z
def Z80(a a1:List Int):Rs:=C 300 [L 1 (a.map ic),L 1 (a1.map ic)] []
def Ztd(s1 s2 x:List Int)(x1 x2:Int):Rs:=EvL C [.blk 0,.seq Z8z,.fin 0 [.tmp 4]] [0,1,9,10,11] Z8y ⟨[(0,L 1 (s1.map ic)),(1,L 1 (s2.map ic)),(9,L 1 (x.map ic)),(10,I x1),(11,I x2)],[[]],[]⟩
def Zbpk:MFun:=mkF (rawF 276 Tryz.f276)
def Z0w(a a1:List Int):Rs:=C 276 [L 1 (a.map ic),L 1 (a1.map ic)] []
def Z81:RawF (rawF 244 Tryz.f244):={ m:=_ }
def Z82:MCode:=cut0 Z81 7
def Z83:MCode:=cut0 Z81 23
def Zbpl:MFun:=Zn Z81 7 Z82 23 Z83
def Z0x(a:List (List Int)):Rs:=C 244 [L 1 (a.map isc)] []
def Zte(c:List (List Int))(i:Int):Rs:=EvL C [.blk 0,.seq Z83,.fin 0 [.tmp 2]] [0,3] Z82 ⟨[(0,L 1 (c.map isc)),(3,I i)],[[]],[]⟩
def Z84:RawF (rawF 203 Tryz.f203):={ m:=_ }
def Z85:MCode:=cut0 Z84 7
def Z86:MCode:=cut0 Z84 25
def Zbpm:MFun:=Zn Z84 7 Z85 25 Z86
def Zhj(a:Ze):Rs:=C 203 [.agg (a.c.map .t)] []
def Ztf(t:Ze)(x:List (List Int))(x1 x2:Int):Rs:=EvL C [.blk 0,.seq Z86,.fin 0 [.tmp 2]] [1,6,7,8] Z85 ⟨[(1,.ptr 0 0),(6,L 1 (x.map isc)),(7,I x1),(8,I x2)],[[]],[.box (t.c.map .t)]⟩
def Z87:RawF (rawF 160 Tryz.f160):={ m:=_ }
def Z88:MCode:=cut0 Z87 7
def Z89:MCode:=cut0 Z87 25
def Zbpn:MFun:=Zn Z87 7 Z88 25 Z89
def Zo0(a:Zi):Rs:=C 160 [.agg (a.c.map .t)] []
def Zo1(db:Zi)(x:List Ze)(x1 x2:Int):Rs:=EvL C [.blk 0,.seq Z89,.fin 0 [.tmp 2]] [1,6,7,8] Z88 ⟨[(1,.ptr 0 0),(6,L 3 (x.map Ze.c)),(7,I x1),(8,I x2)],[[]],[.box (db.c.map .t)]⟩
def Z0y:RawF (rawF 245 Tryz.f245):={ m:=_ }
def Zbpo:MCode:=cut0 Z0y 22
def Z9a:MCode:=cut1 Z0y 9 13 Zbpo
def Z9b:MCode:=cut0 Z0y 23
def Zbpp:MFun:=Zn Z0y 9 Z9a 23 Z9b
def Ze3(a:Int):Rs:=C 245 [I a] []
def Zo2(c:List Int)(cc i:Int):Rs:=EvL C [.blk 0,.seq Z9b,.fin 0 [.tmp 2]] [0,3,4] Z9a ⟨[(0,I cc),(3,.own 0),(4,I i)],[[]],[.arr 3 1 true (c.map ic)]⟩
def Z9c:RawF (rawF 204 Tryz.f204):={ m:=_ }
def Z9d:MCode:=cut0 Z9c 17
def Z9e:MCode:=cut0 Z9c 27
def Zbpq:MFun:=Zn Z9c 17 Z9d 27 Z9e
def Zo3(a:Int):Rs:=C 204 [I a] []
def Zj8(cc:List (List Int))(c cd:Int):Rs:=EvL C [.blk 0,.seq Z9e,.fin 0 [.tmp 2]] [0,3,4] Z9d ⟨[(0,I c),(3,.own 0),(4,I cd)],[[]],[.arr 56 1 true (cc.map isc)]⟩
def Z9f:RawF (rawF 246 Tryz.f246):={ m:=_ }
def Z9g:MCode:=cut0 Z9f 7
def Z9h:MCode:=cut0 Z9f 25
def Zbpr:MFun:=Zn Z9f 7 Z9g 25 Z9h
def Zo4(a:List Int)(a1:Int):Rs:=C 246 [L 1 (a.map ic),I a1] []
def Zo5(c:List Int)(cc:Int)(x:List Int)(x1 x2:Int):Rs:=EvL C [.blk 0,.seq Z9h,.fin 0 [.tmp 4]] [0,1,7,8,9] Z9g ⟨[(0,L 1 (c.map ic)),(1,I cc),(7,L 1 (x.map ic)),(8,I x1),(9,I x2)],[[]],[]⟩
def Z9i:RawF (rawF 247 Tryz.f247):={ m:=_ }
def Z9j:MCode:=cut0 Z9i 9
def Z9k:MCode:=cut0 Z9i 29
def Zbps:MFun:=Zn Z9i 9 Z9j 29 Z9k
def Zc5(a a1:List Int):Rs:=C 247 [L 1 (a.map ic),L 1 (a1.map ic)] []
def Ztg(c cc x:List Int)(x1 x2:Int):Rs:=EvL C [.blk 0,.seq Z9k,.fin 0 [.tmp 4,.tmp 5]] [0,6,10,11,12] Z9j ⟨[(0,L 1 (cc.map ic)),(6,.own 0),(10,L 1 (x.map ic)),(11,I x1),(12,I x2)],[[]],[.arr 3 1 true (c.map ic)]⟩
def Zbpt:MFun:=mkF (rawF 191 Tryz.f191)
def Zeo(a:List Int):Rs:=C 191 [L 1 (a.map ic)] []
def Z9l:RawF (rawF 212 Tryz.f212):={ m:=_ }
def Z9m:MCode:=cut0 Z9l 9
def Z9n:MCode:=cut0 Z9l 21
def Zbpu:MFun:=Zn Z9l 9 Z9m 21 Z9n
def Zhk(a:List (List Int)):Rs:=C 212 [L 1 (a.map isc)] []
def Zo6(c x:List (List Int))(x1 x2:Int):Rs:=EvL C [.blk 0,.seq Z9n,.fin 0 [.tmp 2]] [3,7,8,9] Z9m ⟨[(3,.own 0),(7,L 1 (x.map isc)),(8,I x1),(9,I x2)],[[]],[.arr 56 1 true (c.map isc)]⟩
def Z9o(x:List (List Int)):Rs:=C 277 [.own 0,.fn 276 []] [.arr 56 1 true (x.map isc)]
def Z9p(x:List (List Int)):Rs:=C 278 [.own 0,.fn 279 []] [.arr 56 1 true (x.map isc)]
def Zbpv:MFun:=mkF (rawF 248 Tryz.f248)
def Zth(a:List (List Int)):Rs:=C 248 [L 1 (a.map isc)] []
def Z9q:RawF (rawF 249 Tryz.f249):={ m:=_ }
def Z9r:MCode:=cut0 Z9q 15
def Z9s:MCode:=cut0 Z9q 33
def Zbpw:MFun:=Zn Z9q 15 Z9r 33 Z9s
def Zik(a a1:List Int):Rs:=C 249 [L 1 (a.map ic),L 1 (a1.map ic)] []
def Zti(s1 s2:List Int)(x x1:Int):Rs:=EvL C [.blk 0,.seq Z9s,.fin 0 [.tmp 4]] [0,1,12,13] Z9r ⟨[(0,L 1 (s1.map ic)),(1,L 1 (s2.map ic)),(12,I x),(13,I x1)],[[]],[]⟩
def Zj9:RawF (rawF 205 Tryz.f205):={ m:=_ }
def Z9t:MCode:=cut0 Zj9 17
def Zbpx:MCode:=cut0 Zj9 69
def Z9u:MCode:=cut1 Zj9 54 15 Zbpx
def Z9v:MCode:=cut0 Zj9 70
def Z0z:MCode:=cut2 Zj9 40 14 Z9u 30 Z9v
def Z00:MCode:=cut0 Zj9 71
def Z9w:MCode:=cut2 Zj9 31 9 Z0z 40 Z00
def Zbpy:MFun:=Zn Zj9 17 Z9t 31 Z9w
def Zgv(a:Ze)(a1:List Int):Rs:=C 205 [.agg (a.c.map .t),L 1 (a1.map ic)] []
def Zil(all:List (List Int))(c:List Int)(x:List (List Int))(x1 x2:Int):Rs:=EvL C [.blk 0,.seq Z9w,.fin 0 [.tmp 4,.tmp 5]] [1,6,29,30,31] Z9t ⟨[(1,L 1 (c.map ic)),(6,.own 0),(29,L 1 (x.map isc)),(30,I x1),(31,I x2)],[[]],[.arr 56 1 true (all.map isc)]⟩
def Zl6(all cc:List (List Int))(c:List Int)(x x1:Int):Rs:=EvL C [.blk 2,.seq Z00,.fin 0 [.tmp 4,.tmp 5]] [6,11,12,51,52,53] Z0z ⟨[(6,.own 0),(11,.own 1),(12,.own 2),(51,.own 1),(52,I x),(53,I x1)],[[]],[.arr 56 1 true (all.map isc),.arr 56 1 true (cc.map isc),.arr 3 1 true (c.map ic)]⟩
def Zo7(all cc:List (List Int))(c:List Int)(i:Int)(g:List Int)(x x1 x2 x3:Int):Rs:=EvL C [.blk 4,.blk 3,.seq Z9v,.loop [6,11,12,51,52,53] Z0z,.blk 2,.seq Z00,.fin 0 [.tmp 4,.tmp 5]] [6,11,12,13,14,51,52,53,58,59,60] Z9u ⟨[(6,.own 0),(11,.own 1),(12,.own 2),(13,I i),(14,L 1 (g.map ic)),(51,.own 1),(52,I x),(53,I x1),(58,.own 0),(59,I x2),(60,I x3)],[[]],[.arr 56 1 true (all.map isc),.arr 56 1 true (cc.map isc),.arr 3 1 true (c.map ic)]⟩
def Z9x:RawF (rawF 161 Tryz.f161):={ m:=_ }
def Ztj:MCode:=cut0 Z9x 17
def Ztk:MCode:=cut0 Z9x 31
def Zbpz:MFun:=Zn Z9x 17 Ztj 31 Ztk
def Zhl(a:Ze):Rs:=C 161 [.agg (a.c.map .t)] []
def Zbp0(t:Ze)(cp:ByteArray)(cn cd:Int)(co:ByteArray)(cl cc x x1:Int):Rs:=EvL C [.blk 0,.seq Ztk,.fin 0 [.cell 2 (some 4)]] [1,2,3,22,23,24] Ztj ⟨[(1,.ptr 0 0),(2,.ptr 1 0),(3,.ptr 2 0),(22,.t .nil),(23,I x),(24,I x1)],[[]],[.box (t.c.map .t),.box [.t (.str cp),I cn,I cd,.t .nil],.box [.t (.str co),I cl,I cc,.t .nil]]⟩
def Z9y(t:Ze)(cp:ByteArray)(cn cd:Int)(co:ByteArray)(cl cc:Int)(x:List (List Int))(x1 x2:Int):Rs:=EvL C [.blk 0,.seq Ztk,.fin 0 [.cell 2 (some 4)]] [1,2,3,22,23,24] Ztj ⟨[(1,.ptr 0 0),(2,.ptr 1 0),(3,.ptr 2 0),(22,.own 3),(23,I x1),(24,I x2)],[[]],[.box (t.c.map .t),.box [.t (.str cp),I cn,I cd,.t .nil],.box [.t (.str co),I cl,I cc,.t .nil],.arr 56 1 true (x.map isc)]⟩
def Zl7(t:Ze)(cp:ByteArray)(cn cd:Int)(co:ByteArray)(cl cc:Int)(fr:Bool)(x:List Zg)(x1:List (List Int))(x2 x3:Int):Rs:=EvL C [.blk 0,.seq Ztk,.fin 0 [.cell 2 (some 4)]] [1,2,3,22,23,24] Ztj ⟨[(1,.ptr 0 0),(2,.ptr 1 0),(3,.ptr 2 0),(22,.own 4),(23,I x2),(24,I x3)],[[]],[.box (t.c.map .t),.box [.t (.str cp),I cn,I cd,.t .nil],.box [.t (.str co),I cl,I cc,.own 3],.arr 200 3 fr (x.map Zg.c),.arr 56 1 true (x1.map isc)]⟩
def Z9z:RawF (rawF 116 Tryz.f116):={ m:=_ }
def Z01:MCode:=cut0 Z9z 17
def Z02:MCode:=cut0 Z9z 29
def Zbp1:MFun:=Zn Z9z 17 Z01 29 Z02
def Zo8(a:Zi)(a1:Int):Rs:=C 116 [.agg (a.c.map .t),I a1] []
def Z90(cd cc:Int)(x:List Ze)(x1 x2:Int):Rs:=EvL C [.blk 0,.seq Z02,.fin 0 [.cell 4 (some 2),.tmp 5]] [4,6,21,22,23] Z01 ⟨[(4,.ptr 0 0),(6,.ptr 1 0),(21,L 3 (x.map Ze.c)),(22,I x1),(23,I x2)],[[]],[.box [I cd,.t .nil],.box [I cc,.t .nil]]⟩
def Zl8(cd cc:Int)(fr:Bool)(x:List Zf)(x1:List Ze)(x2 x3:Int):Rs:=EvL C [.blk 0,.seq Z02,.fin 0 [.cell 4 (some 2),.tmp 5]] [4,6,21,22,23] Z01 ⟨[(4,.ptr 0 0),(6,.ptr 1 0),(21,L 3 (x1.map Ze.c)),(22,I x2),(23,I x3)],[[]],[.box [I cd,.t .nil],.box [I cc,.own 2],.arr 141 4 fr (x.map Zf.c)]⟩
def Z91:RawF (rawF 162 Tryz.f162):={ m:=_ }
def Ztl:MCode:=cut0 Z91 15
def Ztm:MCode:=cut0 Z91 35
def Z92:MFun:=Zn Z91 15 Ztl 35 Ztm
def Z93(a:List Zf):Rs:=C 162 [.t .nil,L 4 (a.map Zf.c),.fn 163 []] []
def Z94(s2:List Zf)(x x1:Int):Rs:=EvL C [.blk 0,.seq Ztm,.fin 0 [.tmp 6]] [1,2,15,16,17] Ztl ⟨[(1,L 4 (s2.map Zf.c)),(2,.fn 163 []),(15,.t .nil),(16,I x),(17,I x1)],[[]],[]⟩
def Z95:MFun:=mkF (rawF 117 Tryz.f117)
def Ztn(cc:Int)(a:Zl):Rs:=C 117 [.agg [I cc,.t .nil],.agg (a.c.map .t)] []
def Zbp2:MFun:=mkF (rawF 167 Tryz.f167)
def Z96(a:Ze)(a1:ByteArray):Rs:=C 167 [.agg (a.c.map .t),.iptr [.str a1] 0] []
def Z97:RawF (rawF 166 Tryz.f166):={ m:=_ }
def Z98:MCode:=cut0 Z97 7
def Z99:MCode:=cut0 Z97 25
def Zbp3:MFun:=Zn Z97 7 Z98 25 Z99
def Zbaa(a:List Ze)(a1:ByteArray):Rs:=C 166 [L 3 (a.map Ze.c),.fn 167 [.iptr [.str a1] 0]] []
def Zto(s:List Ze)(f:ByteArray)(x x1:Int):Rs:=EvL C [.blk 0,.seq Z99,.fin 0 [.tmp 4]] [0,1,7,8] Z98 ⟨[(0,L 3 (s.map Ze.c)),(1,.fn 167 [.iptr [.str f] 0]),(7,I x),(8,I x1)],[[]],[]⟩
def Zbp4:MFun:=mkF (rawF 168 Tryz.f168)
def Zbab(a:Ze):Rs:=C 168 [.agg (a.c.map .t)] []
def Zbp5:MFun:=mkF (rawF 119 Tryz.f119)
def Zb0(a:Zi)(a1:ByteArray):Rs:=C 119 [.agg (a.c.map .t),.t (.str a1)] []
def Zbac:RawF (rawF 185 Tryz.f185):={ m:=_ }
def Zbad:MCode:=cut0 Zbac 7
def Zbae:MCode:=cut0 Zbac 25
def Zbp6:MFun:=Zn Zbac 7 Zbad 25 Zbae
def Zl9(a:List Int)(a1:Int):Rs:=C 185 [L 1 (a.map ic),I a1] []
def Ztp(s:List Int)(v x x1:Int):Rs:=EvL C [.blk 0,.seq Zbae,.fin 0 [.tmp 4]] [0,1,7,8] Zbad ⟨[(0,L 1 (s.map ic)),(1,I v),(7,I x),(8,I x1)],[[]],[]⟩
def Zbp7:MFun:=mkF (rawF 135 Tryz.f135)
def Zfo(a:List Int)(a1:Int):Rs:=C 135 [L 1 (a.map ic),I a1] []
def Zbp8:MFun:=mkF (rawF 208 Tryz.f208)
def Zo9(a:Zi)(a1:Zk):Rs:=C 208 [.agg (a.c.map .t),.agg (a1.c.map .t)] []
def Zbp9:Rs:=C 249 [.t .nil,.t .nil] []
def Zbqa(a:List Int):Rs:=C 249 [.t .nil,L 1 (a.map ic)] []
def Zbqb(a:List Int):Rs:=C 249 [L 1 (a.map ic),.t .nil] []
def Ztq:RawF (rawF 209 Tryz.f209):={ m:=_ }
def Zbaf:MCode:=cut0 Ztq 31
def Zbag:MCode:=cut0 Ztq 53
def Ztr:MCode:=cut2 Ztq 17 14 Zbaf 36 Zbag
def Zts:MCode:=cut0 Ztq 54
def Zbqc:MFun:=Zn Ztq 17 Ztr 54 Zts
def Ztt(a:Zi)(a1:Zk):Rs:=C 209 [.agg (a.c.map .t),.agg (a1.c.map .t)] []
def Zbqd(f:Zk)(cd:ByteArray)(cc x x1:Int):Rs:=EvL C [.blk 0,.seq Zts,.fin 0 [.tmp 4]] [3,5,27,28,29] Ztr ⟨[(3,.ptr 0 0),(5,.ptr 1 0),(27,.t .nil),(28,I x),(29,I x1)],[[]],[.box (f.c.map .t),.box [.t (.str cd),I cc,.t .nil]]⟩
def Zpa(f:Zk)(t:Ze)(x:List (List Int))(x1 x2:Int):Rs:=EvL C [.blk 0,.seq Zts,.fin 0 [.tmp 4]] [3,5,27,28,29] Ztr ⟨[(3,.ptr 0 0),(5,.ptr 1 0),(27,L 1 (x.map isc)),(28,I x1),(29,I x2)],[[]],[.box (f.c.map .t),.box (t.c.map .t)]⟩
def Zep(f:Zk)(t:Ze)(k:Int)(y:List Int)(x:List (List Int))(x1 x2:Int)(x3:List (List Int))(x4 x5:Int):Rs:=EvL C [.blk 2,.blk 1,.seq Zbag,.loop [3,5,27,28,29] Ztr,.blk 0,.seq Zts,.fin 0 [.tmp 4]] [3,5,7,8,27,28,29,37,38,39] Zbaf ⟨[(3,.ptr 0 0),(5,.ptr 1 0),(7,I k),(8,L 1 (y.map ic)),(27,L 1 (x.map isc)),(28,I x1),(29,I x2),(37,L 1 (x3.map isc)),(38,I x4),(39,I x5)],[[]],[.box (f.c.map .t),.box (t.c.map .t)]⟩
def Zbqe:MFun:=mkF (rawF 164 Tryz.f164)
def Z03(a:Zi)(a1:Zk):Rs:=C 164 [.agg (a.c.map .t),.agg (a1.c.map .t)] []
def Zbqf:MFun:=mkF (rawF 210 Tryz.f210)
def Ztu(a:Zi)(a1:Zj):Rs:=C 210 [.agg (a.c.map .t),.agg (a1.c.map .t)] []
def Zma(x:List Int):Rs:=C 251 [.own 0] [.arr 3 1 true (x.map ic)]
def Z04(x:List Int):Rs:=C 252 [.own 0] [.arr 3 1 true (x.map ic)]
def Zpb:RawF (rawF 211 Tryz.f211):={ m:=_ }
def Zpc:MCode:=cut0 Zpb 21
def Zbqg:MCode:=cut0 Zpb 57
def Zbah:MCode:=cut1 Zpb 40 17 Zbqg
def Zbai:MCode:=cut0 Zpb 58
def Zpd:MCode:=cut2 Zpb 33 7 Zbah 25 Zbai
def Zbqh:MFun:=Zn Zpb 21 Zpc 33 Zpd
def Ztv(a:Zi)(a1:Zj):Rs:=C 211 [.agg (a.c.map .t),.agg (a1.c.map .t)] []
def Zbqi(x:Zj)(cl:ByteArray)(cc:Int)(cd:List Int)(x1 x2:Int):Rs:=EvL C [.blk 0,.seq Zpd,.fin 0 [.tmp 4]] [3,5,9,36,37,38] Zpc ⟨[(3,.ptr 0 0),(5,.ptr 1 0),(9,.own 2),(36,.t .nil),(37,I x1),(38,I x2)],[[]],[.box (x.c.map .t),.box [.t (.str cl),I cc,.t .nil],.arr 3 1 true (cd.map ic)]⟩
def Zbqj(x:Zj)(cl:ByteArray)(cc:Int)(cd:List Int)(x1:List (List Int))(x2 x3:Int):Rs:=EvL C [.blk 0,.seq Zpd,.fin 0 [.tmp 4]] [3,5,9,36,37,38] Zpc ⟨[(3,.ptr 0 0),(5,.ptr 1 0),(9,.own 2),(36,.own 3),(37,I x2),(38,I x3)],[[]],[.box (x.c.map .t),.box [.t (.str cl),I cc,.t .nil],.arr 3 1 true (cd.map ic),.arr 56 1 true (x1.map isc)]⟩
def Zbqk(x:Zj)(cl:ByteArray)(cc:Int)(x1:List (List Int))(cd:List Int)(x2 x3:Int):Rs:=EvL C [.blk 0,.seq Zpd,.fin 0 [.tmp 4]] [3,5,9,36,37,38] Zpc ⟨[(3,.ptr 0 0),(5,.ptr 1 0),(9,.own 3),(36,.t .nil),(37,I x2),(38,I x3)],[[]],[.box (x.c.map .t),.box [.t (.str cl),I cc,.own 2],.arr 56 1 true (x1.map isc),.arr 3 1 true (cd.map ic)]⟩
def Ztw(x:Zj)(cl:ByteArray)(cc:Int)(x1:List (List Int))(cd:List Int)(x2:List (List Int))(x3 x4:Int):Rs:=EvL C [.blk 0,.seq Zpd,.fin 0 [.tmp 4]] [3,5,9,36,37,38] Zpc ⟨[(3,.ptr 0 0),(5,.ptr 1 0),(9,.own 3),(36,.own 4),(37,I x3),(38,I x4)],[[]],[.box (x.c.map .t),.box [.t (.str cl),I cc,.own 2],.arr 56 1 true (x1.map isc),.arr 3 1 true (cd.map ic),.arr 56 1 true (x2.map isc)]⟩
def Zpe(x:Zj)(cc cd:List Int)(x1:List (List Int))(x2 x3:Int):Rs:=EvL C [.blk 2,.seq Zbai,.fin 0 [.tmp 4]] [3,9,12,53,54,55] Zbah ⟨[(3,.ptr 0 0),(9,.own 1),(12,.own 2),(53,.own 3),(54,I x2),(55,I x3)],[[]],[.box (x.c.map .t),.arr 3 1 true (cc.map ic),.arr 3 1 true (cd.map ic),.arr 56 1 true (x1.map isc)]⟩
def Zbql:MFun:=mkF (rawF 165 Tryz.f165)
def Z05(a:Zi)(a1:Zj):Rs:=C 165 [.agg (a.c.map .t),.agg (a1.c.map .t)] []
def Ztx:RawF (rawF 118 Tryz.f118):={ m:=_ }
def Zbaj:MCode:=cut0 Ztx 7
def Zbak:MCode:=cut0 Ztx 30
def Zbal:MCode:=cut0 Ztx 48
def Zbam:MCode:=cut2 Ztx 25 5 Zbak 23 Zbal
def Zbqm:MFun:=Zn Ztx 7 Zbaj 25 Zbam
def Zpf(a:Zi)(a1:List Zk)(a2:List Zj):Rs:=C 118 [.agg (a.c.map .t),L 3 (a1.map Zk.c),L 4 (a2.map Zj.c)] []
def Zty(db:Zi)(cc:List Zk)(cd:List Zj)(x:List Zk)(x1 x2:Int):Rs:=EvL C [.blk 0,.seq Zbam,.fin 0 [.tmp 6]] [1,2,3,11,12,13] Zbaj ⟨[(1,L 3 (cc.map Zk.c)),(2,L 4 (cd.map Zj.c)),(3,.ptr 0 0),(11,L 3 (x.map Zk.c)),(12,I x1),(13,I x2)],[[]],[.box (db.c.map .t)]⟩
def Ztz(db:Zi)(cc:List Zk)(cd x:List Zj)(x1 x2:Int):Rs:=EvL C [.blk 2,.seq Zbal,.fin 0 [.tmp 6]] [1,2,3,22,23,24] Zbak ⟨[(1,L 3 (cc.map Zk.c)),(2,L 4 (cd.map Zj.c)),(3,.ptr 0 0),(22,L 4 (x.map Zj.c)),(23,I x1),(24,I x2)],[[]],[.box (db.c.map .t)]⟩
def Zbqn:MFun:=mkF (rawF 281 Tryz.f281)
def Zban(a a1:List Int):Rs:=C 281 [L 1 (a.map ic),L 1 (a1.map ic)] []
def Zbao:RawF (rawF 280 Tryz.f280):={ m:=_ }
def Zbap:MCode:=cut0 Zbao 15
def Zbaq:MCode:=cut0 Zbao 35
def Zbqo:MFun:=Zn Zbao 15 Zbap 35 Zbaq
def Zbar(a a1:List (List Int)):Rs:=C 280 [L 1 (a.map isc),L 1 (a1.map isc),.fn 281 []] []
def Zt0(s2 x:List (List Int))(x1 x2:Int):Rs:=EvL C [.blk 0,.seq Zbaq,.fin 0 [.tmp 6]] [1,2,15,16,17] Zbap ⟨[(1,L 1 (s2.map isc)),(2,.fn 281 []),(15,L 1 (x.map isc)),(16,I x1),(17,I x2)],[[]],[]⟩
def Zbqp:MFun:=mkF (rawF 250 Tryz.f250)
def Z06(a a1:List (List Int)):Rs:=C 250 [L 1 (a.map isc),L 1 (a1.map isc)] []
def Zbqq:MFun:=mkF (rawF 207 Tryz.f207)
def Zt1(a a1:Zg):Rs:=C 207 [.agg (a.c.map .t),.agg (a1.c.map .t)] []
def Zbas:RawF (rawF 206 Tryz.f206):={ m:=_ }
def Zbat:MCode:=cut0 Zbas 15
def Zbau:MCode:=cut0 Zbas 35
def Zbqr:MFun:=Zn Zbas 15 Zbat 35 Zbau
def Zbav(a a1:List Zg):Rs:=C 206 [L 3 (a.map Zg.c),L 3 (a1.map Zg.c),.fn 207 []] []
def Zt2(s2 x:List Zg)(x1 x2:Int):Rs:=EvL C [.blk 0,.seq Zbau,.fin 0 [.tmp 6]] [1,2,15,16,17] Zbat ⟨[(1,L 3 (s2.map Zg.c)),(2,.fn 207 []),(15,L 3 (x.map Zg.c)),(16,I x1),(17,I x2)],[[]],[]⟩
def Zbqs:MFun:=mkF (rawF 163 Tryz.f163)
def Zmb(a a1:Zf):Rs:=C 163 [.agg (a.c.map .t),.agg (a1.c.map .t)] []
def Zbaw(a a1:List Zf):Rs:=C 162 [L 4 (a.map Zf.c),L 4 (a1.map Zf.c),.fn 163 []] []
def Zt3(s2 x:List Zf)(x1 x2:Int):Rs:=EvL C [.blk 0,.seq Ztm,.fin 0 [.tmp 6]] [1,2,15,16,17] Ztl ⟨[(1,L 4 (s2.map Zf.c)),(2,.fn 163 []),(15,L 4 (x.map Zf.c)),(16,I x1),(17,I x2)],[[]],[]⟩
def Z07(a a1:Zl):Rs:=C 117 [.agg (a.c.map .t),.agg (a1.c.map .t)] []
def Zbqt:MFun:=mkF (rawF 77 Tryz.f77)
def Zpg(a:Zh):Rs:=C 77 [.agg (a.c.map .t)] []
def Zbax:RawF (rawF 186 Tryz.f186):={ m:=_ }
def Zbay:MCode:=cut0 Zbax 7
def Zbaz:MCode:=cut0 Zbax 25
def Zbqu:MFun:=Zn Zbax 7 Zbay 25 Zbaz
def Z08(a:List Bool)(a1:Bool):Rs:=C 186 [L 1 (a.map bc),Bo a1] []
def Zt4(s:List Bool)(v:Bool)(x x1:Int):Rs:=EvL C [.blk 0,.seq Zbaz,.fin 0 [.tmp 4]] [0,1,7,8] Zbay ⟨[(0,L 1 (s.map bc)),(1,Bo v),(7,I x),(8,I x1)],[[]],[]⟩
def Zbqv:MFun:=mkF (rawF 136 Tryz.f136)
def Z09(a:List Bool)(a1:Bool):Rs:=C 136 [L 1 (a.map bc),Bo a1] []
def Zt5:RawF (rawF 92 Tryz.f92):={ m:=_ }
def Zba0:MCode:=cut0 Zt5 39
def Zba1:MCode:=cut0 Zt5 59
def Z1a:MCode:=cut2 Zt5 17 22 Zba0 42 Zba1
def Z1b:MCode:=cut0 Zt5 60
def Z1c:MFun:=Zn Zt5 17 Z1a 60 Z1b
def Zka(a:Zc):Rs:=C 92 [.agg (a.c.map .t)] []
def Zmc(q:Zc)(cc:List Bool)(x:List Atom)(x1 x2:Int):Rs:=EvL C [.blk 0,.seq Z1b,.fin 0 [.tmp 2]] [1,3,23,24,25] Z1a ⟨[(1,.ptr 0 0),(3,.own 1),(23,L 2 (x.map Atom.c)),(24,I x1),(25,I x2)],[[]],[.box (q.c.map .t),.arr 4 1 true (cc.map bc)]⟩
def Zt6(q:Zc)(cc:List Bool)(a:Atom)(x:List Atom)(x1 x2:Int)(x3:List Int)(x4 x5:Int):Rs:=EvL C [.blk 2,.blk 1,.seq Zba1,.loop [1,3,23,24,25] Z1a,.blk 0,.seq Z1b,.fin 0 [.tmp 2]] [1,3,5,23,24,25,41,42,43] Zba0 ⟨[(1,.ptr 0 0),(3,.own 1),(5,.ptr 2 0),(23,L 2 (x.map Atom.c)),(24,I x1),(25,I x2),(41,L 1 (x3.map ic)),(42,I x4),(43,I x5)],[[]],[.box (q.c.map .t),.arr 4 1 true (cc.map bc),.box (a.c.map .t)]⟩
def Zba2:RawF (rawF 78 Tryz.f78):={ m:=_ }
def Zba3:MCode:=cut0 Zba2 15
def Zba4:MCode:=cut0 Zba2 35
def Zbqw:MFun:=Zn Zba2 15 Zba3 35 Zba4
def Zph(a:Zi)(a1:Zc):Rs:=C 78 [.agg (a.c.map .t),.agg (a1.c.map .t)] []
def Zt7(db:Zi)(x:List Atom)(x1 x2:Int):Rs:=EvL C [.blk 0,.seq Zba4,.fin 0 [.tmp 4]] [2,13,14,15] Zba3 ⟨[(2,.ptr 0 0),(13,L 2 (x.map Atom.c)),(14,I x1),(15,I x2)],[[]],[.box (db.c.map .t)]⟩
def Zbqx:MFun:=mkF (rawF 50 Tryz.f50)
def Ze4(a:Zc):Rs:=C 50 [.agg (a.c.map .t)] []
def Zbqy:MFun:=mkF (rawF 40 Tryz.f40)
def Zc6(a:Zh)(a1:Zc)(a2:Int):Rs:=C 40 [.agg (a.c.map .t),.agg (a1.c.map .t),I a2] []
def Z1d:RawF (rawF 122 Tryz.f122):={ m:=_ }
def Zbqz:MCode:=cut0 Z1d 30
def Zba5:MCode:=cut1 Z1d 17 13 Zbqz
def Zba6:MCode:=cut0 Z1d 31
def Zbq0:MFun:=Zn Z1d 17 Zba5 31 Zba6
def Zb9(a:Int):Rs:=C 122 [I a] []
def Zpi(cc:List Int)(c i:Int):Rs:=EvL C [.blk 0,.seq Zba6,.fin 0 [.tmp 2]] [0,3,4] Zba5 ⟨[(0,I c),(3,.own 0),(4,I i)],[[]],[.arr 3 1 true (cc.map ic)]⟩
def Zba7(cl:ByteArray)(cd cc:Int)(a:Zf):Rs:=C 163 [.agg [.t (.str cl),I cd,I cc,.t .nil],.agg (a.c.map .t)] []
def Zbq1(cc:ByteArray)(c:Int):Rs:=C 203 [.agg [.t (.str cc),I c,.t .nil]] []
def Zba8(cc:ByteArray)(c:Int):Rs:=C 161 [.agg [.t (.str cc),I c,.t .nil]] []
def Zbq2:RawF (rawF 215 Tryz.f215):={ m:=_ }
def Zbq3:MCode:=cut0 Zbq2 12
def Zbq4:MFun:=Zbb Zbq2 12 Zbq3
def Zkb(a:Zf):Rs:=C 215 [.agg (a.c.map .t)] []
def Zbq5:MFun:=mkF (rawF 232 Tryz.f232)
def Zpj(a:Zf):Rs:=C 232 [.agg (a.c.map .t)] []
def Zba9:RawF (rawF 233 Tryz.f233):={ m:=_ }
def Zbba:MCode:=cut0 Zba9 9
def Zbbb:MCode:=cut0 Zba9 21
def Zbq6:MFun:=Zn Zba9 9 Zbba 21 Zbbb
def Z1e(a:Zf):Rs:=C 233 [.agg (a.c.map .t)] []
def Zt8(s:Zf)(cn:ByteArray)(cl cc:Int)(cd x:List Zg)(x1 x2:Int):Rs:=EvL C [.blk 0,.seq Zbbb,.fin 0 [.cell 2 (some 4)]] [1,2,3,8,9,10] Zbba ⟨[(1,.ptr 0 0),(2,.ptr 1 0),(3,.own 2),(8,L 3 (x.map Zg.c)),(9,I x1),(10,I x2)],[[]],[.box (s.c.map .t),.box [.t (.str cn),I cl,I cc,.t .nil],.arr 200 3 true (cd.map Zg.c)]⟩
def Zbbc:RawF (rawF 192 Tryz.f192):={ m:=_ }
def Zbbd:MCode:=cut0 Zbbc 7
def Zbbe:MCode:=cut0 Zbbc 25
def Zbq7:MFun:=Zn Zbbc 7 Zbbd 25 Zbbe
def Zpk(a:Zl)(a1:ByteArray):Rs:=C 192 [.agg (a.c.map .t),.t (.str a1)] []
def Zpl(cl:ByteArray)(cd cc:Int)(cn:ByteArray)(x:List Zf)(x1 x2:Int):Rs:=EvL C [.blk 0,.seq Zbbe,.fin 0 [.cellO 4 (some 4) [none,none,none,some (200,3)],.tmpO 5 [none]]] [1,4,9,10,11] Zbbd ⟨[(1,.t (.str cn)),(4,.ptr 0 0),(9,L 4 (x.map Zf.c)),(10,I x1),(11,I x2)],[[]],[.box [.t (.str cl),I cd,I cc,.t .nil]]⟩
def Zbq8:MFun:=mkF (rawF 143 Tryz.f143)
def Zgb(a:Zh)(a1:Zc)(a2:Int):Rs:=C 143 [.agg (a.c.map .t),.agg (a1.c.map .t),I a2] []
def Zbbf:RawF (rawF 120 Tryz.f120):={ m:=_ }
def Z1f:MCode:=cut0 Zbbf 17
def Z1g:MCode:=cut0 Zbbf 29
def Zbq9:MFun:=Zn Zbbf 17 Z1f 29 Z1g
def Zt9(a:Zh)(a1:Zc)(a2:Int):Rs:=C 120 [.agg (a.c.map .t),.agg (a1.c.map .t),I a2] []
def Zbra(s:Zh)(q:Zc)(n x x1:Int):Rs:=EvL C [.blk 0,.seq Z1g,.fin 0 [.tmp 6]] [3,4,7,16,17,18] Z1f ⟨[(3,.ptr 0 0),(4,.ptr 1 0),(7,I n),(16,.t .nil),(17,I x),(18,I x1)],[[]],[.box (s.c.map .t),.box (q.c.map .t)]⟩
def Zua(s:Zh)(q:Zc)(x:List Int)(n x1 x2:Int):Rs:=EvL C [.blk 0,.seq Z1g,.fin 0 [.tmp 6]] [3,4,7,16,17,18] Z1f ⟨[(3,.ptr 0 0),(4,.ptr 1 0),(7,I n),(16,.own 2),(17,I x1),(18,I x2)],[[]],[.box (s.c.map .t),.box (q.c.map .t),.arr 3 1 true (x.map ic)]⟩
def Zub:RawF (rawF 187 Tryz.f187):={ m:=_ }
def Zbbg:MCode:=cut0 Zub 21
def Zbbh:MCode:=cut0 Zub 39
def Z1h:MCode:=cut2 Zub 9 12 Zbbg 30 Zbbh
def Z1i:MCode:=cut0 Zub 40
def Zbrb:MFun:=Zn Zub 9 Z1h 40 Z1i
def Zhm(a:Zc)(a1:Int):Rs:=C 187 [.agg (a.c.map .t),I a1] []
def Zmd(q:Zc)(cd:List Int)(cc v:Int):Rs:=EvL C [.blk 0,.seq Z1i,.fin 0 [.tmp 4]] [1,2,5,6] Z1h ⟨[(1,I cc),(2,.ptr 0 0),(5,.own 1),(6,I v)],[[]],[.box (q.c.map .t),.arr 3 1 true (cd.map ic)]⟩
def Zpm(q:Zc)(cd:List Int)(cc v:Int)(x:List Atom)(x1 x2:Int):Rs:=EvL C [.blk 2,.blk 1,.seq Zbbh,.loop [1,2,5,6] Z1h,.blk 0,.seq Z1i,.fin 0 [.tmp 4]] [1,2,5,6,17,18,19] Zbbg ⟨[(1,I cc),(2,.ptr 0 0),(5,.own 1),(6,I v),(17,L 2 (x.map Atom.c)),(18,I x1),(19,I x2)],[[]],[.box (q.c.map .t),.arr 3 1 true (cd.map ic)]⟩
def Z1j:RawF (rawF 172 Tryz.f172):={ m:=_ }
def Zbrc:MCode:=cut0 Z1j 24
def Zbbi:MCode:=cut1 Z1j 9 15 Zbrc
def Zbbj:MCode:=cut0 Z1j 25
def Zbrd:MFun:=Zn Z1j 9 Zbbi 25 Zbbj
def Zkc(a:Atom)(a1:List Int):Rs:=C 172 [.agg (a.c.map .t),L 1 (a1.map ic)] []
def Zpn(cc c x:List Int)(x1 x2:Int):Rs:=EvL C [.blk 0,.seq Zbbj,.fin 0 [.tmp 4]] [1,5,10,11,12] Zbbi ⟨[(1,L 1 (c.map ic)),(5,.own 0),(10,L 1 (x.map ic)),(11,I x1),(12,I x2)],[[]],[.arr 3 1 true (cc.map ic)]⟩
def Zbre:Rs:=C 191 [.t .nil] []
def Zbrf:RawF (rawF 254 Tryz.f254):={ m:=_ }
def Zbbk:MCode:=cut0 Zbrf 4
def Zbrg:MFun:=Zbb Zbrf 4 Zbbk
def Zuc(x:List Int):Rs:=C 254 [.own 0] [.arr 3 1 true (x.map ic)]
def Zud(s:List Int)(i j:Int):Rs:=EvL C [.blk 0,.fin 1 []] [0,2,3] Zbbk ⟨[(0,.own 0),(2,I i),(3,I j)],[[(0,.own 0)]],[.arr 3 1 true (s.map ic)]⟩
def Zbrh:MFun:=mkF (rawF 216 Tryz.f216)
def Z1k(a:Ze)(a1:List Int):Rs:=C 216 [.agg (a.c.map .t),L 1 (a1.map ic)] []
def Zbri(cc:ByteArray)(c:Int)(a:List Int):Rs:=C 216 [.agg [.t (.str cc),I c,.t .nil],L 1 (a.map ic)] []
def Zbrj:MFun:=mkF (rawF 171 Tryz.f171)
def Zme(a:Zf)(a1:List Int):Rs:=C 171 [.agg (a.c.map .t),L 1 (a1.map ic)] []
def Zbrk:MFun:=mkF (rawF 253 Tryz.f253)
def Zmf(a:Zf)(a1:List Int):Rs:=C 253 [.agg (a.c.map .t),L 1 (a1.map ic)] []
def Zbrl:MFun:=mkF (rawF 213 Tryz.f213)
def Z1l(a:Zh)(a1:Zc)(a2:Int)(a3:List Int):Rs:=C 213 [.agg (a.c.map .t),.agg (a1.c.map .t),I a2,L 1 (a3.map ic)] []
def Z1m:RawF (rawF 169 Tryz.f169):={ m:=_ }
def Zbrm:MCode:=cut0 Z1m 34
def Z1n:MCode:=cut1 Z1m 17 17 Zbrm
def Z1o:MCode:=cut0 Z1m 35
def Zbrn:MFun:=Zn Z1m 17 Z1n 35 Z1o
def Zpo(a:Zh)(a1:Zc)(a2 a3:Int):Rs:=C 169 [.agg (a.c.map .t),.agg (a1.c.map .t),I a2,I a3] []
def Zbro(s:Zh)(q:Zc)(cc cl cd x x1:Int):Rs:=EvL C [.blk 0,.seq Z1o,.fin 0 [.tmp 8]] [2,3,4,5,9,16,17,18] Z1n ⟨[(2,I cc),(3,I cl),(4,.ptr 0 0),(5,.ptr 1 0),(9,I cd),(16,.t .nil),(17,I x),(18,I x1)],[[]],[.box (s.c.map .t),.box (q.c.map .t)]⟩
def Zmg(s:Zh)(q:Zc)(x:List Int)(cc cl cd x1 x2:Int):Rs:=EvL C [.blk 0,.seq Z1o,.fin 0 [.tmp 8]] [2,3,4,5,9,16,17,18] Z1n ⟨[(2,I cc),(3,I cl),(4,.ptr 0 0),(5,.ptr 1 0),(9,I cd),(16,.own 2),(17,I x1),(18,I x2)],[[]],[.box (s.c.map .t),.box (q.c.map .t),.arr 3 1 true (x.map ic)]⟩
def Zbrp:MFun:=mkF (rawF 121 Tryz.f121)
def Zue(a:Zh)(a1:Zc)(a2:Int):Rs:=C 121 [.agg (a.c.map .t),.agg (a1.c.map .t),I a2] []
def Zbrq:MFun:=mkF (rawF 99 Tryz.f99)
def Zpp(a:Zc)(a1:Int):Rs:=C 99 [.agg (a.c.map .t),I a1] []
def Zbrr:MFun:=mkF (rawF 214 Tryz.f214)
def Zgc(a:Zc)(a1:Int):Rs:=C 214 [.agg (a.c.map .t),I a1] []
def Z1p:RawF (rawF 188 Tryz.f188):={ m:=_ }
def Zbrs:MCode:=cut0 Z1p 24
def Zbbl:MCode:=cut1 Z1p 9 15 Zbrs
def Zbbm:MCode:=cut0 Z1p 25
def Zbrt:MFun:=Zn Z1p 9 Zbbl 25 Zbbm
def Zkd(a a1:List Int):Rs:=C 188 [L 1 (a.map ic),L 1 (a1.map ic)] []
def Zpq(c b x:List Int)(x1 x2:Int):Rs:=EvL C [.blk 0,.seq Zbbm,.fin 0 [.tmp 4]] [1,5,9,10,11] Zbbl ⟨[(1,L 1 (b.map ic)),(5,.own 0),(9,L 1 (x.map ic)),(10,I x1),(11,I x2)],[[]],[.arr 3 1 true (c.map ic)]⟩
def Zbru(a:List Int):Rs:=C 188 [L 1 (a.map ic),.t .nil] []
def Zbrv(a:List Int):Rs:=C 188 [.t .nil,L 1 (a.map ic)] []
def Zbrw:Rs:=C 188 [.t .nil,.t .nil] []
def Zbrx:MFun:=mkF (rawF 170 Tryz.f170)
def Zuf(a:Zc)(a1 a2:Int):Rs:=C 170 [.agg (a.c.map .t),I a1,I a2] []
def Zbbn:RawF (rawF 217 Tryz.f217):={ m:=_ }
def Zbbo:MCode:=cut0 Zbbn 9
def Zbbp:MCode:=cut0 Zbbn 29
def Zbry:MFun:=Zn Zbbn 9 Zbbo 29 Zbbp
def Zug(a:List Int):Rs:=C 217 [L 1 (a.map ic)] []
def Zpr(c:List Int)(cc:Int)(x:List Int)(x1 x2:Int):Rs:=EvL C [.blk 0,.seq Zbbp,.fin 0 [.tmp 2]] [0,3,6,7,8] Zbbo ⟨[(0,L 1 (c.map ic)),(3,I cc),(6,L 1 (x.map ic)),(7,I x1),(8,I x2)],[[]],[]⟩
def Zbbq:RawF (rawF 173 Tryz.f173):={ m:=_ }
def Zbbr:MCode:=cut0 Zbbq 17
def Zbbs:MCode:=cut0 Zbbq 27
def Zbrz:MFun:=Zn Zbbq 17 Zbbr 27 Zbbs
def Zuh(a a1:List Int):Rs:=C 173 [L 1 (a.map ic),L 1 (a1.map ic)] []
def Zui(a b:List Int)(n i:Int):Rs:=EvL C [.blk 0,.seq Zbbs,.fin 0 [.tmp 4]] [0,1,5,6] Zbbr ⟨[(0,L 1 (a.map ic)),(1,L 1 (b.map ic)),(5,I n),(6,I i)],[[]],[]⟩
def Zbr0:MFun:=mkF (rawF 123 Tryz.f123)
def Zuj(a:Zh)(a1:Zc)(a2 a3:Int):Rs:=C 123 [.agg (a.c.map .t),.agg (a1.c.map .t),I a2,I a3] []
def Zbbt:RawF (rawF 174 Tryz.f174):={ m:=_ }
def Z1q:MCode:=cut0 Zbbt 7
def Z1r:MCode:=cut0 Zbbt 27
def Zbr1:MFun:=Zn Zbbt 7 Z1q 27 Z1r
def Zuk(a:Zh)(a1:Zc)(a2:Int):Rs:=C 174 [.agg (a.c.map .t),.agg (a1.c.map .t),I a2] []
def Zbr2(s:Zh)(q:Zc)(x x1:Int):Rs:=EvL C [.blk 0,.seq Z1r,.fin 0 [.tmp 6]] [3,4,12,13,14] Z1q ⟨[(3,.ptr 0 0),(4,.ptr 1 0),(12,.t .nil),(13,I x),(14,I x1)],[[]],[.box (s.c.map .t),.box (q.c.map .t)]⟩
def Zul(s:Zh)(q:Zc)(x:List Int)(x1 x2:Int):Rs:=EvL C [.blk 0,.seq Z1r,.fin 0 [.tmp 6]] [3,4,12,13,14] Z1q ⟨[(3,.ptr 0 0),(4,.ptr 1 0),(12,.own 2),(13,I x1),(14,I x2)],[[]],[.box (s.c.map .t),.box (q.c.map .t),.arr 3 1 true (x.map ic)]⟩
def Z1s:RawF (rawF 339 Tryz.f339):={ m:=_ }
def Zbr3:MCode:=cut0 Z1s 24
def Zbbu:MCode:=cut1 Z1s 9 15 Zbr3
def Zbbv:MCode:=cut0 Z1s 25
def Zbr4:MFun:=Zn Z1s 9 Zbbu 25 Zbbv
def Zbr5:Rs:=C 339 [.t .nil] []
def Zps(a:List Int):Rs:=C 339 [L 1 (a.map ic)] []
def Zpt(c:Int)(x:List Int)(x1 x2:Int):Rs:=EvL C [.blk 0,.seq Zbbv,.fin 0 [.tmp 2]] [3,6,7,8] Zbbu ⟨[(3,I c),(6,L 1 (x.map ic)),(7,I x1),(8,I x2)],[[]],[]⟩
def Zbbw:RawF (rawF 340 Tryz.f340):={ m:=_ }
def Zbbx:MCode:=cut0 Zbbw 15
def Zbby:MCode:=cut0 Zbbw 23
def Zbr6:MFun:=Zn Zbbw 15 Zbbx 23 Zbby
def Zum(a:Int):Rs:=C 340 [I a] []
def Zun(n b:Int):Rs:=EvL C [.blk 0,.seq Zbby,.fin 0 [.tmp 2]] [0,3] Zbbx ⟨[(0,I n),(3,I b)],[[]],[]⟩
def Zbbz:RawF (rawF 313 Tryz.f313):={ m:=_ }
def Zbb0:MCode:=cut0 Zbbz 17
def Zbb1:MCode:=cut0 Zbbz 31
def Zbr7:MFun:=Zn Zbbz 17 Zbb0 31 Zbb1
def Zuo(a:Zf)(a1:Atom):Rs:=C 313 [.agg (a.c.map .t),.agg (a1.c.map .t)] []
def Zpu(s:Zf)(atom:Atom)(cc:List Zo)(cd:Int):Rs:=EvL C [.blk 0,.seq Zbb1,.fin 0 [.tmpO 4 [some (251,3)]]] [2,3,5,6] Zbb0 ⟨[(2,.ptr 0 0),(3,.ptr 1 0),(5,.own 2),(6,I cd)],[[]],[.box (s.c.map .t),.box (atom.c.map .t),.arr 251 3 true (cc.map Zo.c)]⟩
def Zbb2:RawF (rawF 284 Tryz.f284):={ m:=_ }
def Z1t:MCode:=cut0 Zbb2 17
def Z1u:MCode:=cut0 Zbb2 41
def Zbr8:MFun:=Zn Zbb2 17 Z1t 41 Z1u
def Zup(a:Zh)(a1:Zc)(a2:Int):Rs:=C 284 [.agg (a.c.map .t),.agg (a1.c.map .t),I a2] []
def Zbr9(s:Zh)(q:Zc)(cc:List Zo)(x x1:Int):Rs:=EvL C [.blk 0,.seq Z1u,.fin 0 [.tmpO 6 [some (251,3)]]] [3,4,7,32,33,34] Z1t ⟨[(3,.ptr 0 0),(4,.ptr 1 0),(7,.own 2),(32,.t .nil),(33,I x),(34,I x1)],[[]],[.box (s.c.map .t),.box (q.c.map .t),.arr 251 3 true (cc.map Zo.c)]⟩
def Zuq(s:Zh)(q:Zc)(cc:List Zo)(x:List Int)(x1 x2:Int):Rs:=EvL C [.blk 0,.seq Z1u,.fin 0 [.tmpO 6 [some (251,3)]]] [3,4,7,32,33,34] Z1t ⟨[(3,.ptr 0 0),(4,.ptr 1 0),(7,.own 2),(32,.own 3),(33,I x1),(34,I x2)],[[]],[.box (s.c.map .t),.box (q.c.map .t),.arr 251 3 true (cc.map Zo.c),.arr 3 1 true (x.map ic)]⟩
def Z1v:RawF (rawF 316 Tryz.f316):={ m:=_ }
def Zbsa:MCode:=cut0 Z1v 24
def Zbb3:MCode:=cut1 Z1v 9 15 Zbsa
def Zbb4:MCode:=cut0 Z1v 25
def Zbsb:MFun:=Zn Z1v 9 Zbb3 25 Zbb4
def Zur(x:List Int)(a:Int):Rs:=C 316 [I a,.ptr 0 0] [.box [L 1 (x.map ic)]]
def Zke(x:List Int)(cc c:Int)(x1:List Int)(x2 x3:Int):Rs:=EvL C [.blk 0,.seq Zbb4,.fin 1 [.tmp 3]] [0,4,7,8,9] Zbb3 ⟨[(0,I cc),(4,I c),(7,L 1 (x1.map ic)),(8,I x2),(9,I x3)],[[(0,.ptr 0 0)]],[.box [L 1 (x.map ic)]]⟩
def Zbb5:RawF (rawF 286 Tryz.f286):={ m:=_ }
def Zbb6:MCode:=cut0 Zbb5 11
def Zbb7:MCode:=cut0 Zbb5 23
def Zbsc:MFun:=Zn Zbb5 11 Zbb6 23 Zbb7
def Zus(a:List Zo)(a1:List Int):Rs:=C 286 [L 3 (a.map Zo.c),L 1 (a1.map ic)] []
def Zut(x:List Int)(cc x1:List Zo)(x2 x3:Int):Rs:=EvL C [.blk 0,.seq Zbb7,.fin 0 [.tmp 4]] [5,6,11,12,13] Zbb6 ⟨[(5,.fn 316 [.ptr 0 0]),(6,.own 1),(11,L 3 (x1.map Zo.c)),(12,I x2),(13,I x3)],[[]],[.box [L 1 (x.map ic)],.arr 251 3 true (cc.map Zo.c)]⟩
def Zmh:RawF (rawF 341 Tryz.f341):={ m:=_ }
def Zbsd:MCode:=cut0 Zmh 22
def Zbb8:MCode:=cut1 Zmh 7 15 Zbsd
def Zbse:MCode:=cut0 Zmh 43
def Zbb9:MCode:=cut1 Zmh 28 15 Zbse
def Zbca:MCode:=cut0 Zmh 44
def Zbcb:MCode:=cut2 Zmh 23 5 Zbb9 21 Zbca
def Zbsf:MFun:=Zn Zmh 7 Zbb8 23 Zbcb
def Zmi(x x1:List Int)(x2:Int)(x3:List (List Int)):Rs:=C 341 [.own 0,.own 1,.ptr 2 0,.ptr 3 0] [.arr 3 1 true (x.map ic),.arr 3 1 true (x1.map ic),.box [I x2],.box [.own 4],.arr 56 1 true (x3.map isc)]
def Zmj(c:List Int)(x:List (List Int))(cc x1:List Int)(x2 x3 x4:Int):Rs:=EvL C [.blk 0,.seq Zbcb,.fin 5 []] [1,3,6,13,14,15] Zbb8 ⟨[(1,.own 0),(3,.ptr 1 0),(6,.own 3),(13,.own 4),(14,I x3),(15,I x4)],[[(0,.own 4),(1,.own 0),(2,.ptr 5 0),(3,.ptr 1 0),(4,.own 2)]],[.arr 3 1 true (c.map ic),.box [.own 2],.arr 56 1 true (x.map isc),.arr 3 1 true (cc.map ic),.arr 3 1 true (x1.map ic),.box [I x2]]⟩
def Zpv(x:List (List Int))(c x1 x2:List Int)(x3 x4 x5:Int):Rs:=EvL C [.blk 2,.seq Zbca,.fin 5 []] [3,6,29,30,31] Zbb9 ⟨[(3,.ptr 0 0),(6,.own 2),(29,.own 3),(30,I x4),(31,I x5)],[[(0,.own 4),(1,.own 3),(2,.ptr 5 0),(3,.ptr 0 0),(4,.own 1)]],[.box [.own 1],.arr 56 1 true (x.map isc),.arr 3 1 true (c.map ic),.arr 3 1 true (x1.map ic),.arr 3 1 true (x2.map ic),.box [I x3]]⟩
def Zhn:RawF (rawF 314 Tryz.f314):={ m:=_ }
def Zbcc:MCode:=cut0 Zhn 21
def Zbsg:MCode:=cut0 Zhn 73
def Zbcd:MCode:=cut1 Zhn 60 13 Zbsg
def Zbce:MCode:=cut0 Zhn 74
def Z1w:MCode:=cut2 Zhn 48 12 Zbcd 26 Zbce
def Z1x:MCode:=cut0 Zhn 75
def Zuu:MCode:=cut2 Zhn 36 12 Z1w 39 Z1x
def Zuv:MCode:=cut0 Zhn 76
def Zbcf:MCode:=cut2 Zhn 31 5 Zuu 45 Zuv
def Zbsh:MFun:=Zn Zhn 21 Zbcc 31 Zbcf
def Zuw(a:Int):Rs:=C 314 [I a] []
def Zpw(all:Int)(x:List (List Int))(n i:Int):Rs:=EvL C [.blk 0,.seq Zbcf,.fin 0 [.tmpO 2 [some (56,1)]]] [0,3,4,5,6] Zbcc ⟨[(0,I n),(3,.ptr 0 0),(4,.ptr 1 0),(5,.fn 341 [.ptr 0 0,.ptr 1 0]),(6,I i)],[[]],[.box [I all],.box [.own 2],.arr 56 1 true (x.map isc)]⟩
def Zmk(all:Int)(x:List (List Int))(n i:Int):Rs:=EvL C [.blk 2,.seq Zuv,.fin 0 [.tmpO 2 [some (56,1)]]] [0,3,4,5,7] Zuu ⟨[(0,I n),(3,.ptr 0 0),(4,.ptr 1 0),(5,.fn 341 [.ptr 0 0,.ptr 1 0]),(7,I i)],[[]],[.box [I all],.box [.own 2],.arr 56 1 true (x.map isc)]⟩
def Zml(all:Int)(x:List (List Int))(n i j:Int):Rs:=EvL C [.blk 4,.blk 3,.seq Z1x,.loop [0,3,4,5,7] Zuu,.blk 2,.seq Zuv,.fin 0 [.tmpO 2 [some (56,1)]]] [0,3,4,5,7,8] Z1w ⟨[(0,I n),(3,.ptr 0 0),(4,.ptr 1 0),(5,.fn 341 [.ptr 0 0,.ptr 1 0]),(7,I i),(8,I j)],[[]],[.box [I all],.box [.own 2],.arr 56 1 true (x.map isc)]⟩
def Zmm(all:Int)(x:List (List Int))(n i j s:Int):Rs:=EvL C [.blk 6,.blk 5,.seq Zbce,.loop [0,3,4,5,7,8] Z1w,.blk 4,.blk 3,.seq Z1x,.loop [0,3,4,5,7] Zuu,.blk 2,.seq Zuv,.fin 0 [.tmpO 2 [some (56,1)]]] [0,3,4,5,7,8,9] Zbcd ⟨[(0,I n),(3,.ptr 0 0),(4,.ptr 1 0),(5,.fn 341 [.ptr 0 0,.ptr 1 0]),(7,I i),(8,I j),(9,I s)],[[]],[.box [I all],.box [.own 2],.arr 56 1 true (x.map isc)]⟩
def Zkf:RawF (rawF 315 Tryz.f315):={ m:=_ }
def Zbcg:MCode:=cut0 Zkf 32
def Zbch:MCode:=cut0 Zkf 50
def Zbci:MCode:=cut0 Zkf 57
def Z1y:MCode:=cut3 Zkf 17 15 Zbcg 33 Zbch 40 Zbci
def Zbcj:MCode:=cut0 Zkf 63
def Zbck:MCode:=cut0 Zkf 81
def Z1z:MCode:=cut2 Zkf 58 5 Zbcj 23 Zbck
def Zbsi:MFun:=Zn Zkf 17 Z1y 58 Z1z
def Zmn(a:Program):Rs:=C 315 [.agg (a.c.map .t)] []
def Zpx(p:Program)(fr:Bool)(x:List (List Int))(n x1 x2:Int):Rs:=EvL C [.blk 0,.seq Z1z,.fin 0 [.tmp 2]] [1,3,38,39,40] Z1y ⟨[(1,.ptr 0 0),(3,I n),(38,.own 1),(39,I x1),(40,I x2)],[[]],[.box (p.c.map .t),.arr 56 1 fr (x.map isc)]⟩
def Zux(p:Program)(fr:Bool)(x:List (List Int))(n:Int)(cc:List Int)(x1 x2:Int)(x3:List Int)(x4 x5:Int):Rs:=EvL C [.blk 2,.seq Zbch,.blk 1,.seq Zbci,.loop [1,3,38,39,40] Z1y,.blk 0,.seq Z1z,.fin 0 [.tmp 2]] [1,3,5,38,39,40,44,45,46] Zbcg ⟨[(1,.ptr 0 0),(3,I n),(5,L 1 (cc.map ic)),(38,.own 1),(39,I x1),(40,I x2),(44,L 1 (x3.map ic)),(45,I x4),(46,I x5)],[[]],[.box (p.c.map .t),.arr 56 1 fr (x.map isc)]⟩
def Zuy(x:List Int)(x1 x2:Int):Rs:=EvL C [.blk 4,.seq Zbck,.fin 0 [.tmp 2]] [60,61,62] Zbcj ⟨[(60,L 1 (x.map ic)),(61,I x1),(62,I x2)],[[]],[]⟩
def Z10:RawF (rawF 285 Tryz.f285):={ m:=_ }
def Zbcl:MCode:=cut0 Z10 51
def Zbcm:MCode:=cut1 Z10 23 28 Zbcl
def Z11:MCode:=cut0 Z10 55
def Zbcn:MFun:=Zn Z10 23 Zbcm 55 Z11
def Zkg(a:List Zo)(a1:Int):Rs:=C 285 [L 3 (a.map Zo.c),I a1] []
def Zim(x:List Int)(x1:List (List Int))(x2:List Int)(cc:Int)(x3:List Zo)(x4 x5:Int):Rs:=EvL C [.blk 0,.seq Z11,.fin 0 [.cellO 4 (some 3) [some (3,1),some (56,1),some (3,1)],.tmpO 5 [none]]] [4,6,7,33,34,35] Zbcm ⟨[(4,.ptr 0 0),(6,I cc),(7,.ptr 1 0),(33,L 3 (x3.map Zo.c)),(34,I x4),(35,I x5)],[[]],[.box [.t .nil,.t .nil,.t .nil],.box [.own 2,.own 3,.own 4],.arr 3 1 true (x.map ic),.arr 56 1 true (x1.map isc),.arr 3 1 true (x2.map ic)]⟩
def Zbsj(a:List Zo):Rs:=C 286 [L 3 (a.map Zo.c),.t .nil] []
def Zbsk:MFun:=mkF (rawF 255 Tryz.f255)
def Z12(a:Zh)(a1:Zc)(a2:Int):Rs:=C 255 [.agg (a.c.map .t),.agg (a1.c.map .t),I a2] []
def Zbsl:MFun:=mkF (rawF 317 Tryz.f317)
def Zkh(a:Int):Rs:=C 317 [I a] []
def Zbco:RawF (rawF 291 Tryz.f291):={ m:=_ }
def Zbcp:MCode:=cut0 Zbco 9
def Zbcq:MCode:=cut0 Zbco 21
def Zbsm:MFun:=Zn Zbco 9 Zbcp 21 Zbcq
def Zgd(a:List Int):Rs:=C 291 [L 1 (a.map ic)] []
def Zuz(cc:List Za)(x:List Int)(x1 x2:Int):Rs:=EvL C [.blk 0,.seq Zbcq,.fin 0 [.tmp 2]] [3,7,8,9] Zbcp ⟨[(3,.own 0),(7,L 1 (x.map ic)),(8,I x1),(9,I x2)],[[]],[.arr 149 2 true (cc.map Za.c)]⟩
def Zu0:RawF (rawF 287 Tryz.f287):={ m:=_ }
def Z13:MCode:=cut0 Zu0 19
def Zu1:MCode:=cut0 Zu0 34
def Zu2:MCode:=cut0 Zu0 48
def Z14:MCode:=cut2 Zu0 29 5 Zu1 19 Zu2
def Zbsn:MFun:=Zn Zu0 19 Z13 29 Z14
def Zu3(a:Program):Rs:=C 287 [.agg (a.c.map .t)] []
def Zbcr(p:Program)(cd cc:Za)(x x1:List Za)(n k:Int):Rs:=EvL C [.blk 0,.seq Z14,.fin 0 [.cellO 2 (some 7) [some (3,1),some (3,1),some (179,1),some (149,2),some (149,2),none,none],.tmpO 3 [none]]] [1,2,4,5,6] Z13 ⟨[(1,.ptr 0 0),(2,.ptr 1 0),(4,.ptr 2 0),(5,I n),(6,I k)],[[]],[.box (p.c.map .t),.box [.t .nil,.t .nil,.t .nil,.t .nil,.t .nil,I cd.Num,I cd.Den],.box [.t .nil,.t .nil,.t .nil,.own 3,.own 4,I cc.Num,I cc.Den],.arr 149 2 true (x.map Za.c),.arr 149 2 true (x1.map Za.c)]⟩
def Zu4(p:Program)(cd cc:Za)(x:List Int)(x1 x2:List Za)(n k:Int):Rs:=EvL C [.blk 0,.seq Z14,.fin 0 [.cellO 2 (some 7) [some (3,1),some (3,1),some (179,1),some (149,2),some (149,2),none,none],.tmpO 3 [none]]] [1,2,4,5,6] Z13 ⟨[(1,.ptr 0 0),(2,.ptr 1 0),(4,.ptr 2 0),(5,I n),(6,I k)],[[]],[.box (p.c.map .t),.box [.t .nil,.t .nil,.t .nil,.t .nil,.t .nil,I cd.Num,I cd.Den],.box [.t .nil,.own 3,.t .nil,.own 4,.own 5,I cc.Num,I cc.Den],.arr 3 1 true (x.map ic),.arr 149 2 true (x1.map Za.c),.arr 149 2 true (x2.map Za.c)]⟩
def Zbso(cd cc:Za)(x x1:List Za)(n:Int)(x2:List (List Int))(x3 x4:Int):Rs:=EvL C [.blk 2,.seq Zu2,.fin 0 [.cellO 2 (some 7) [some (3,1),some (3,1),some (179,1),some (149,2),some (149,2),none,none],.tmpO 3 [none]]] [2,4,5,36,37,38] Zu1 ⟨[(2,.ptr 0 0),(4,.ptr 1 0),(5,I n),(36,L 1 (x2.map isc)),(37,I x3),(38,I x4)],[[]],[.box [.t .nil,.t .nil,.t .nil,.t .nil,.t .nil,I cd.Num,I cd.Den],.box [.t .nil,.t .nil,.t .nil,.own 2,.own 3,I cc.Num,I cc.Den],.arr 149 2 true (x.map Za.c),.arr 149 2 true (x1.map Za.c)]⟩
def Zbcs(cd cc:Za)(x:List Int)(x1 x2:List Za)(n:Int)(x3:List (List Int))(x4 x5:Int):Rs:=EvL C [.blk 2,.seq Zu2,.fin 0 [.cellO 2 (some 7) [some (3,1),some (3,1),some (179,1),some (149,2),some (149,2),none,none],.tmpO 3 [none]]] [2,4,5,36,37,38] Zu1 ⟨[(2,.ptr 0 0),(4,.ptr 1 0),(5,I n),(36,L 1 (x3.map isc)),(37,I x4),(38,I x5)],[[]],[.box [.t .nil,.t .nil,.t .nil,.t .nil,.t .nil,I cd.Num,I cd.Den],.box [.t .nil,.own 2,.t .nil,.own 3,.own 4,I cc.Num,I cc.Den],.arr 3 1 true (x.map ic),.arr 149 2 true (x1.map Za.c),.arr 149 2 true (x2.map Za.c)]⟩
def Zu5(cd cc:Za)(x x1:List Int)(x2:List (List Za))(x3 x4:List Za)(n:Int)(x5:List (List Int))(x6 x7:Int):Rs:=EvL C [.blk 2,.seq Zu2,.fin 0 [.cellO 2 (some 7) [some (3,1),some (3,1),some (179,1),some (149,2),some (149,2),none,none],.tmpO 3 [none]]] [2,4,5,36,37,38] Zu1 ⟨[(2,.ptr 0 0),(4,.ptr 1 0),(5,I n),(36,L 1 (x5.map isc)),(37,I x6),(38,I x7)],[[]],[.box [.t .nil,.t .nil,.t .nil,.t .nil,.t .nil,I cd.Num,I cd.Den],.box [.own 2,.own 3,.own 4,.own 5,.own 6,I cc.Num,I cc.Den],.arr 3 1 true (x.map ic),.arr 3 1 true (x1.map ic),.arr 179 1 true (x2.map (lc 2 Za.c)),.arr 149 2 true (x3.map Za.c),.arr 149 2 true (x4.map Za.c)]⟩
def Z15:RawF (rawF 288 Tryz.f288):={ m:=_ }
def Zbsp:MCode:=cut0 Z15 24
def Zbct:MCode:=cut1 Z15 9 15 Zbsp
def Zbcu:MCode:=cut0 Z15 25
def Zbsq:MFun:=Zn Z15 9 Zbct 25 Zbcu
def Zu6(a:Zm):Rs:=C 288 [.agg (a.c.map .t)] []
def Zki(d:Zm)(cc:Int)(x:List Za)(x1 x2:Int):Rs:=EvL C [.blk 0,.seq Zbcu,.fin 0 [.tmp 2]] [1,3,7,8,9] Zbct ⟨[(1,.ptr 0 0),(3,I cc),(7,L 2 (x.map Za.c)),(8,I x1),(9,I x2)],[[]],[.box (d.c.map .t)]⟩
def Zbcv:RawF (rawF 257 Tryz.f257):={ m:=_ }
def Zbcw:MCode:=cut0 Zbcv 5
def Zbcx:MCode:=cut0 Zbcv 13
def Zbsr:MFun:=Zn Zbcv 5 Zbcw 13 Zbcx
def Zgw(a a1:Int):Rs:=C 257 [I a,I a1] []
def Zu7(a b:Int):Rs:=EvL C [.blk 0,.seq Zbcx,.fin 0 [.tmp 4]] [0,1] Zbcw ⟨[(0,I a),(1,I b)],[[]],[]⟩
def Zbss:MFun:=mkF (rawF 219 Tryz.f219)
def Zcm(a:Za):Rs:=C 219 [.agg (a.c.map .t)] []
def Zbst:RawF (rawF 342 Tryz.f342):={ m:=_ }
def Zbsu:MCode:=cut0 Zbst 16
def Zbsv:MFun:=Zbb Zbst 16 Zbsu
def Zmo(a a1:Int):Rs:=C 342 [I a,I a1] []
def Zbsw:MFun:=mkF (rawF 318 Tryz.f318)
def Zu8(a a1:Za):Rs:=C 318 [.agg (a.c.map .t),.agg (a1.c.map .t)] []
def Zbsx:MFun:=mkF (rawF 319 Tryz.f319)
def Z16(a a1:Za):Rs:=C 319 [.agg (a.c.map .t),.agg (a1.c.map .t)] []
def Z17:RawF (rawF 289 Tryz.f289):={ m:=_ }
def Zbsy:MCode:=cut0 Z17 44
def Zbcy:MCode:=cut1 Z17 11 33 Zbsy
def Zbcz:MCode:=cut0 Z17 45
def Zbsz:MFun:=Zn Z17 11 Zbcy 45 Zbcz
def Zu9(a:Zm)(a1:Int):Rs:=C 289 [.agg (a.c.map .t),I a1] []
def Zho(d:Zm)(least:Za)(cc cd x x1:Int):Rs:=EvL C [.blk 0,.seq Zbcz,.fin 0 [.tmp 4]] [1,2,5,6,14,15] Zbcy ⟨[(1,I cc),(2,.ptr 0 0),(5,I cd),(6,.ptr 1 0),(14,I x),(15,I x1)],[[]],[.box (d.c.map .t),.box (least.c.map .t)]⟩
def Zbs0:MFun:=mkF (rawF 320 Tryz.f320)
def Zkj(a:List Za):Rs:=C 320 [L 2 (a.map Za.c)] []
def Zbs1:MFun:=mkF (rawF 321 Tryz.f321)
def Zin(x:Z4)(a a1:Za):Rs:=C 321 [.ptr 0 0,.agg (a.c.map .t),.agg (a1.c.map .t)] [.box (x.c.map .t)]
def Zbs2:MFun:=mkF (rawF 292 Tryz.f292)
def Zfp(a:Za):Rs:=C 292 [.agg (a.c.map .t)] []
def Zbs3:MFun:=mkF (rawF 343 Tryz.f343)
def Zva(a a1:Za):Rs:=C 343 [.agg (a.c.map .t),.agg (a1.c.map .t)] []
def Zbs4:MFun:=mkF (rawF 344 Tryz.f344)
def Zvb(a a1:Za):Rs:=C 344 [.agg (a.c.map .t),.agg (a1.c.map .t)] []
def Zbs5:MFun:=mkF (rawF 323 Tryz.f323)
def Zfq(x:Z4)(a a1 a2:Za):Rs:=C 323 [.ptr 0 0,.agg (a.c.map .t),.agg (a1.c.map .t),.agg (a2.c.map .t)] [.box (x.c.map .t)]
def Z18:RawF (rawF 322 Tryz.f322):={ m:=_ }
def Zbs6:MCode:=cut0 Z18 26
def Z19:MCode:=cut1 Z18 11 15 Zbs6
def Z2a:MCode:=cut0 Z18 27
def Zbs7:MFun:=Zn Z18 11 Z19 27 Z2a
def Zmp(x:Int)(x1:Z4)(x2:Za)(x3 a:List Za):Rs:=C 322 [L 2 (a.map Za.c),.ptr 0 0,.ptr 1 0,.ptr 3 0,.ptr 4 0] [.box [I x],.box [.ptr 2 0],.box (x1.c.map .t),.box (x2.c.map .t),.box [.own 5],.arr 149 2 true (x3.map Za.c)]
def Zpy(l:List Za)(x:Int)(x1:Z4)(x2:Za)(x3:List Za)(c:Za)(x4 x5:Int):Rs:=EvL C [.blk 0,.seq Z2a,.fin 6 [.tmp 6]] [0,1,2,3,4,7,16,17] Z19 ⟨[(0,.own 0),(1,.ptr 1 0),(2,.ptr 2 0),(3,.ptr 4 0),(4,.ptr 5 0),(7,.ptr 7 0),(16,I x4),(17,I x5)],[[(0,.ptr 1 0),(1,.ptr 2 0),(2,.ptr 3 0),(3,.ptr 4 0),(4,.ptr 5 0),(5,.own 6)]],[.arr 149 2 true (l.map Za.c),.box [I x],.box [.ptr 3 0],.box (x1.c.map .t),.box (x2.c.map .t),.box [.own 6],.arr 149 2 true (x3.map Za.c),.box (c.c.map .t)]⟩
def Zvc(x:Int)(x1:Z4)(x2:Za)(x3 a:List Za):Rs:=C 322 [L 2 (a.map Za.c),.ptr 0 0,.ptr 1 0,.ptr 3 0,.ptr 4 0] [.box [I x],.box [.ptr 2 0],.box (x1.c.map .t),.box (x2.c.map .t),.box [L 2 (x3.map Za.c)]]
def Zpz(l:List Za)(x:Int)(x1:Z4)(x2:Za)(x3:List Za)(c:Za)(x4 x5:Int):Rs:=EvL C [.blk 0,.seq Z2a,.fin 5 [.tmp 6]] [0,1,2,3,4,7,16,17] Z19 ⟨[(0,.own 0),(1,.ptr 1 0),(2,.ptr 2 0),(3,.ptr 4 0),(4,.ptr 5 0),(7,.ptr 6 0),(16,I x4),(17,I x5)],[[(0,.ptr 1 0),(1,.ptr 2 0),(2,.ptr 3 0),(3,.ptr 4 0),(4,.ptr 5 0)]],[.arr 149 2 true (l.map Za.c),.box [I x],.box [.ptr 3 0],.box (x1.c.map .t),.box (x2.c.map .t),.box [L 2 (x3.map Za.c)],.box (c.c.map .t)]⟩
end
end Go.Proofs.YtnnjbejcffjgfaaGreat
