/-
  Parts of the proofs for this seat: K FG FA.
-/
import Derived.Test.YthdihnbeifcppaaGreatP9
set_option linter.all false
set_option maxRecDepth 100000
set_option maxHeartbeats 4000000
set_option cbv.maxSteps 9999999
namespace Go.Proofs.YthdihnbeifcppaaGreat
open Go.AM
noncomputable section
def Zmy:MFun:=mkF (Zi 3 Tryz.f3)
def ZJQ:tbl 3=some Zmy:=Zf Tryz.func3
def Z5a:MFun:=mkF (Zi 4 Tryz.f4)
def ZJR:tbl 4=some Z5a:=Zf Tryz.func4
def Z5b:MFun:=mkF (Zi 5 Tryz.f5)
def ZJS:tbl 5=some Z5b:=Zf Tryz.func5
def Z5c:MFun:=mkF (Zi 7 Tryz.f7)
def ZJT:tbl 7=some Z5c:=Zf Tryz.func7
def Z5d:MFun:=mkF (Zi 8 Tryz.f8)
def ZJU:tbl 8=some Z5d:=Zf Tryz.func8
def Z5e:MFun:=mkF (Zi 10 Tryz.f10)
def ZJV:tbl 10=some Z5e:=Zf Tryz.func10
def Z5f:MFun:=mkF (Zi 11 Tryz.f11)
def ZJW:tbl 11=some Z5f:=Zf Tryz.func11
def Z5g:MFun:=mkF (Zi 12 Tryz.f12)
def ZJX:tbl 12=some Z5g:=Zf Tryz.func12
def Z5h:MFun:=mkF (Zi 13 Tryz.f13)
def ZJY:tbl 13=some Z5h:=Zf Tryz.func13
def Z5i:MFun:=mkF (Zi 14 Tryz.f14)
def ZJZ:tbl 14=some Z5i:=Zf Tryz.func14
def Z5j:MFun:=mkF (Zi 15 Tryz.f15)
def ZKa:tbl 15=some Z5j:=Zf Tryz.func15
def Z5k:MFun:=mkF (Zi 16 Tryz.f16)
def ZKb:tbl 16=some Z5k:=Zf Tryz.func16
def Z5l:MFun:=mkF (Zi 17 Tryz.f17)
def ZKc:tbl 17=some Z5l:=Zf Tryz.func17
def Z5m:MFun:=mkF (Zi 18 Tryz.f18)
def ZKd:tbl 18=some Z5m:=Zf Tryz.func18
def Z5n:MFun:=mkF (Zi 23 Tryz.f23)
def ZKe:tbl 23=some Z5n:=Zf Tryz.func23
def Z5o:MFun:=mkF (Zi 24 Tryz.f24)
def ZKf:tbl 24=some Z5o:=Zf Tryz.func24
def Z5p:MFun:=mkF (Zi 25 Tryz.f25)
def ZKg:tbl 25=some Z5p:=Zf Tryz.func25
def Z5q:RawF (Zi 26 Tryz.f26):={ m:=_ }
def Zmz:MCode:=cut0 Z5q 9
def Z5r:MFun:=XH Z5q 9 Zmz
def ZKh:tbl 26=some Z5r:=Zf Tryz.func26
def Z5s:MFun:=mkF (Zi 31 Tryz.f31)
def ZKi:tbl 31=some Z5s:=Zf Tryz.func31
def Z5t:MFun:=mkF (Zi 32 Tryz.f32)
def ZKj:tbl 32=some Z5t:=Zf Tryz.func32
def Z5u:MFun:=mkF (Zi 33 Tryz.f33)
def ZKk:tbl 33=some Z5u:=Zf Tryz.func33
def Z5v:RawF (Zi 34 Tryz.f34):={ m:=_ }
def Zm0:MCode:=cut0 Z5v 15
def Zvt:MFun:=XH Z5v 15 Zm0
def ZKl:tbl 34=some Zvt:=Zf Tryz.func34
def Z5w:MFun:=mkF (Zi 35 Tryz.f35)
def ZKm:tbl 35=some Z5w:=Zf Tryz.func35
def Z5x:MFun:=mkF (Zi 36 Tryz.f36)
def ZKn:tbl 36=some Z5x:=Zf Tryz.func36
def Z5y:MFun:=mkF (Zi 37 Tryz.f37)
def ZKo:tbl 37=some Z5y:=Zf Tryz.func37
def Z5z:RawF (Zi 38 Tryz.f38):={ m:=_ }
def Zis:MCode:=cut0 Z5z 7
def Zvu:MFun:=XH Z5z 7 Zis
def Z50:tbl 38=some Zvu:=Zf Tryz.func38
def Z51:MFun:=mkF (Zi 39 Tryz.f39)
def ZKp:tbl 39=some Z51:=Zf Tryz.func39
def Z52:MFun:=mkF (Zi 40 Tryz.f40)
def ZKq:tbl 40=some Z52:=Zf Tryz.func40
def Z53:MFun:=mkF (Zi 41 Tryz.f41)
def ZKr:tbl 41=some Z53:=Zf Tryz.func41
def Z54:MFun:=mkF (Zi 42 Tryz.f42)
def ZKs:tbl 42=some Z54:=Zf Tryz.func42
def Z55:MFun:=mkF (Zi 43 Tryz.f43)
def ZKt:tbl 43=some Z55:=Zf Tryz.func43
def Z56:MFun:=mkF (Zi 46 Tryz.f46)
def ZKu:tbl 46=some Z56:=Zf Tryz.func46
def Z57:MFun:=mkF (Zi 60 Tryz.f60)
def ZKv:tbl 60=some Z57:=Zf Tryz.func60
def Z58:MFun:=mkF (Zi 61 Tryz.f61)
def ZKw:tbl 61=some Z58:=Zf Tryz.func61
def Z59:MFun:=mkF (Zi 64 Tryz.f64)
def ZKx:tbl 64=some Z59:=Zf Tryz.func64
def Z5A:MFun:=mkF (Zi 78 Tryz.f78)
def ZKy:tbl 78=some Z5A:=Zf Tryz.func78
def Z5B:MFun:=mkF (Zi 79 Tryz.f79)
def ZKz:tbl 79=some Z5B:=Zf Tryz.func79
def Z5C:MFun:=mkF (Zi 82 Tryz.f82)
def ZK0:tbl 82=some Z5C:=Zf Tryz.func82
def Z5D:MFun:=mkF (Zi 84 Tryz.f84)
def ZK1:tbl 84=some Z5D:=Zf Tryz.func84
def Z5E:MFun:=mkF (Zi 85 Tryz.f85)
def ZK2:tbl 85=some Z5E:=Zf Tryz.func85
def Z5F:RawF (Zi 86 Tryz.f86):={ m:=_ }
def Zm1:MCode:=cut0 Z5F 7
def Z5G:MFun:=XH Z5F 7 Zm1
def ZK3:tbl 86=some Z5G:=Zf Tryz.func86
def Z5H:RawF (Zi 87 Tryz.f87):={ m:=_ }
def Zm2:MCode:=cut0 Z5H 7
def Z5I:MFun:=XH Z5H 7 Zm2
def ZK4:tbl 87=some Z5I:=Zf Tryz.func87
def Z5J:MFun:=mkF (Zi 88 Tryz.f88)
def ZK5:tbl 88=some Z5J:=Zf Tryz.func88
def Z5K:RawF (Zi 89 Tryz.f89):={ m:=_ }
def Zm3:MCode:=cut0 Z5K 7
def Z5L:MFun:=XH Z5K 7 Zm3
def ZK6:tbl 89=some Z5L:=Zf Tryz.func89
def Z5M:MFun:=mkF (Zi 90 Tryz.f90)
def ZK7:tbl 90=some Z5M:=Zf Tryz.func90
def Z5N:MFun:=mkF (Zi 91 Tryz.f91)
def ZK8:tbl 91=some Z5N:=Zf Tryz.func91
def Z5O:RawF (Zi 92 Tryz.f92):={ m:=_ }
def Zm4:MCode:=cut0 Z5O 7
def Z5P:MFun:=XH Z5O 7 Zm4
def ZK9:tbl 92=some Z5P:=Zf Tryz.func92
def Z5Q:RawF (Zi 93 Tryz.f93):={ m:=_ }
def Zm5:MCode:=cut0 Z5Q 7
def Z5R:MFun:=XH Z5Q 7 Zm5
def ZKA:tbl 93=some Z5R:=Zf Tryz.func93
def Z5S:MFun:=mkF (Zi 94 Tryz.f94)
def ZKB:tbl 94=some Z5S:=Zf Tryz.func94
def Z5T:RawF (Zi 95 Tryz.f95):={ m:=_ }
def Zm6:MCode:=cut0 Z5T 7
def Z5U:MFun:=XH Z5T 7 Zm6
def ZKC:tbl 95=some Z5U:=Zf Tryz.func95
def Z5V:MFun:=mkF (Zi 98 Tryz.f98)
def ZKD:tbl 98=some Z5V:=Zf Tryz.func98
def Z5W:MFun:=mkF (Zi 99 Tryz.f99)
def ZKE:tbl 99=some Z5W:=Zf Tryz.func99
def Z5X:MFun:=mkF (Zi 100 Tryz.f100)
def ZKF:tbl 100=some Z5X:=Zf Tryz.func100
def Z5Y:MFun:=mkF (Zi 101 Tryz.f101)
def ZKG:tbl 101=some Z5Y:=Zf Tryz.func101
def Z5Z:MFun:=mkF (Zi 120 Tryz.f120)
def ZKH:tbl 120=some Z5Z:=Zf Tryz.func120
def Z6a:MFun:=mkF (Zi 121 Tryz.f121)
def ZKI:tbl 121=some Z6a:=Zf Tryz.func121
def Z6b:MFun:=mkF (Zi 123 Tryz.f123)
def ZKJ:tbl 123=some Z6b:=Zf Tryz.func123
def Z6c:MFun:=mkF (Zi 147 Tryz.f147)
def ZKK:tbl 147=some Z6c:=Zf Tryz.func147
def Z6d:MFun:=mkF (Zi 148 Tryz.f148)
def ZKL:tbl 148=some Z6d:=Zf Tryz.func148
def Z6e:MFun:=mkF (Zi 150 Tryz.f150)
def ZKM:tbl 150=some Z6e:=Zf Tryz.func150
def Z6f:RawF (Zi 151 Tryz.f151):={ m:=_ }
def Zm7:MCode:=cut0 Z6f 7
def Z6g:MFun:=XH Z6f 7 Zm7
def ZKN:tbl 151=some Z6g:=Zf Tryz.func151
def Z6h:RawF (Zi 152 Tryz.f152):={ m:=_ }
def Zm8:MCode:=cut0 Z6h 7
def Z6i:MFun:=XH Z6h 7 Zm8
def ZKO:tbl 152=some Z6i:=Zf Tryz.func152
def Z6j:RawF (Zi 153 Tryz.f153):={ m:=_ }
def Zit:MCode:=cut0 Z6j 15
def Zvv:MFun:=XH Z6j 15 Zit
def Z6k:tbl 153=some Zvv:=Zf Tryz.func153
def Z6l:RawF (Zi 154 Tryz.f154):={ m:=_ }
def Zm9:MCode:=cut0 Z6l 7
def Z6m:MFun:=XH Z6l 7 Zm9
def ZKP:tbl 154=some Z6m:=Zf Tryz.func154
def Z6n:RawF (Zi 155 Tryz.f155):={ m:=_ }
def Ziu:MCode:=cut0 Z6n 7
def Zvw:MFun:=XH Z6n 7 Ziu
def Z6o:tbl 155=some Zvw:=Zf Tryz.func155
def Z6p:RawF (Zi 156 Tryz.f156):={ m:=_ }
def Ziv:MCode:=cut0 Z6p 7
def Zvx:MFun:=XH Z6p 7 Ziv
def Z6q:tbl 156=some Zvx:=Zf Tryz.func156
def Z6r:RawF (Zi 157 Tryz.f157):={ m:=_ }
def ZmA:MCode:=cut0 Z6r 7
def Z6s:MFun:=XH Z6r 7 ZmA
def ZKQ:tbl 157=some Z6s:=Zf Tryz.func157
def Z6t:RawF (Zi 158 Tryz.f158):={ m:=_ }
def ZmB:MCode:=cut0 Z6t 7
def Z6u:MFun:=XH Z6t 7 ZmB
def ZKR:tbl 158=some Z6u:=Zf Tryz.func158
def Z6v:RawF (Zi 159 Tryz.f159):={ m:=_ }
def ZmC:MCode:=cut0 Z6v 7
def Z6w:MFun:=XH Z6v 7 ZmC
def ZKS:tbl 159=some Z6w:=Zf Tryz.func159
def Z6x:RawF (Zi 160 Tryz.f160):={ m:=_ }
def ZmD:MCode:=cut0 Z6x 7
def Z6y:MFun:=XH Z6x 7 ZmD
def ZKT:tbl 160=some Z6y:=Zf Tryz.func160
def Z6z:RawF (Zi 161 Tryz.f161):={ m:=_ }
def ZmE:MCode:=cut0 Z6z 7
def Z60:MFun:=XH Z6z 7 ZmE
def ZKU:tbl 161=some Z60:=Zf Tryz.func161
def Z61:RawF (Zi 162 Tryz.f162):={ m:=_ }
def ZmF:MCode:=cut0 Z61 7
def Z62:MFun:=XH Z61 7 ZmF
def ZKV:tbl 162=some Z62:=Zf Tryz.func162
def Z63:MFun:=mkF (Zi 163 Tryz.f163)
def ZKW:tbl 163=some Z63:=Zf Tryz.func163
def Z64:MFun:=mkF (Zi 164 Tryz.f164)
def ZKX:tbl 164=some Z64:=Zf Tryz.func164
def Z65:MFun:=mkF (Zi 165 Tryz.f165)
def ZKY:tbl 165=some Z65:=Zf Tryz.func165
def Z66:MFun:=mkF (Zi 166 Tryz.f166)
def ZKZ:tbl 166=some Z66:=Zf Tryz.func166
def Z67:MFun:=mkF (Zi 190 Tryz.f190)
def ZLa:tbl 190=some Z67:=Zf Tryz.func190
def Z68:MFun:=mkF (Zi 191 Tryz.f191)
def ZLb:tbl 191=some Z68:=Zf Tryz.func191
def Z69:MFun:=mkF (Zi 192 Tryz.f192)
def ZLc:tbl 192=some Z69:=Zf Tryz.func192
def Z6A:MFun:=mkF (Zi 193 Tryz.f193)
def ZLd:tbl 193=some Z6A:=Zf Tryz.func193
def Z6B:MFun:=mkF (Zi 194 Tryz.f194)
def ZLe:tbl 194=some Z6B:=Zf Tryz.func194
def Z6C:MFun:=mkF (Zi 222 Tryz.f222)
def ZLf:tbl 222=some Z6C:=Zf Tryz.func222
def Z6D:MFun:=mkF (Zi 223 Tryz.f223)
def ZLg:tbl 223=some Z6D:=Zf Tryz.func223
def Z6E:MFun:=mkF (Zi 224 Tryz.f224)
def ZLh:tbl 224=some Z6E:=Zf Tryz.func224
def Z6F:MFun:=mkF (Zi 225 Tryz.f225)
def ZLi:tbl 225=some Z6F:=Zf Tryz.func225
def Z6G:MFun:=mkF (Zi 226 Tryz.f226)
def ZLj:tbl 226=some Z6G:=Zf Tryz.func226
def Z6H:RawF (Zi 227 Tryz.f227):={ m:=_ }
def Ziw:MCode:=cut0 Z6H 7
def Zvy:MFun:=XH Z6H 7 Ziw
def Z6I:tbl 227=some Zvy:=Zf Tryz.func227
def Z6J:RawF (Zi 228 Tryz.f228):={ m:=_ }
def Zix:MCode:=cut0 Z6J 7
def Zvz:MFun:=XH Z6J 7 Zix
def Z6K:tbl 228=some Zvz:=Zf Tryz.func228
def Z6L:RawF (Zi 229 Tryz.f229):={ m:=_ }
def ZmG:MCode:=cut0 Z6L 7
def Z6M:MFun:=XH Z6L 7 ZmG
def ZLk:tbl 229=some Z6M:=Zf Tryz.func229
def Z6N:RawF (Zi 230 Tryz.f230):={ m:=_ }
def ZmH:MCode:=cut0 Z6N 7
def Z6O:MFun:=XH Z6N 7 ZmH
def ZLl:tbl 230=some Z6O:=Zf Tryz.func230
def Z6P:MFun:=mkF (Zi 234 Tryz.f234)
def ZLm:tbl 234=some Z6P:=Zf Tryz.func234
def Z6Q:MFun:=mkF (Zi 235 Tryz.f235)
def ZLn:tbl 235=some Z6Q:=Zf Tryz.func235
def Z6R:MFun:=mkF (Zi 256 Tryz.f256)
def ZLo:tbl 256=some Z6R:=Zf Tryz.func256
def Z6S:MFun:=mkF (Zi 257 Tryz.f257)
def ZLp:tbl 257=some Z6S:=Zf Tryz.func257
def Z6T:MFun:=mkF (Zi 287 Tryz.f287)
def ZLq:tbl 287=some Z6T:=Zf Tryz.func287
def Z6U:MFun:=mkF (Zi 288 Tryz.f288)
def ZLr:tbl 288=some Z6U:=Zf Tryz.func288
def Z6V:MFun:=mkF (Zi 289 Tryz.f289)
def ZLs:tbl 289=some Z6V:=Zf Tryz.func289
def Z6W:MFun:=mkF (Zi 290 Tryz.f290)
def ZLt:tbl 290=some Z6W:=Zf Tryz.func290
def Z6X:MFun:=mkF (Zi 291 Tryz.f291)
def ZLu:tbl 291=some Z6X:=Zf Tryz.func291
def Z6Y:MFun:=mkF (Zi 306 Tryz.f306)
def ZLv:tbl 306=some Z6Y:=Zf Tryz.func306
def Z6Z:MFun:=mkF (Zi 307 Tryz.f307)
def ZLw:tbl 307=some Z6Z:=Zf Tryz.func307
def Z7a:MFun:=mkF (Zi 323 Tryz.f323)
def ZLx:tbl 323=some Z7a:=Zf Tryz.func323
def Z7b:MFun:=mkF (Zi 324 Tryz.f324)
def ZLy:tbl 324=some Z7b:=Zf Tryz.func324
def Z7c:MFun:=mkF (Zi 333 Tryz.f333)
def ZLz:tbl 333=some Z7c:=Zf Tryz.func333
def Z7d:MFun:=mkF (Zi 364 Tryz.f364)
def ZL0:tbl 364=some Z7d:=Zf Tryz.func364
end
end Go.Proofs.YthdihnbeifcppaaGreat
namespace Go.AM
variable{ext:ZG}{tbl:Nat->Option MFun}
def hdB(a b c d x:Nat)(ks:UB)(y z:MCode):MCode:=.seq (.seq (.reg [⟨some a,none,.mov (.s x)⟩,⟨some b,none,.mov (.s 0)⟩,⟨some c,none,.len false (.s b)⟩,⟨some d,none,.bin .lss (.s a) (.s c)⟩] (ks++[d])) (.cond (.s d) .skip (.exit 0))) (.seq (.block 1 y) z)
def toR(n k:Nat)(l:Option Nat):MCode:=.reg [⟨some 14,none,.mov (.s 3)⟩,⟨some 15,none,.mov (.s 4)⟩,⟨some 16,none,.mov (.s 0)⟩,⟨some 17,none,.mov (.s 4)⟩,⟨some 18,none,.iaddr n (.s 16) (.s 17)⟩,⟨some 19,none,.load l (.s 18)⟩,⟨some 20,none,.call k [.s 19]⟩,⟨some 21,none,.iaddr n (.s 14) (.s 15)⟩,⟨none,none,.store n (.s 21) (.s 20)⟩] [0,3,4]
def toB(n k:Nat)(l:Option Nat):MCode:=hdB 8 9 10 11 4 [0,3,4] (toR n k l) (.reg [⟨some 12,none,.mov (.s 4)⟩,⟨some 13,none,.bin .add (.s 12) (.c (.t (.int .i64 1)))⟩,⟨some 4,none,.mov (.s 13)⟩] [0,3,4])
def toM(ty n sz k:Nat)(z:UD)(l:Option Nat):MFun:=⟨1,23,[.tmp 2],.seq (.reg [⟨some 2,none,.mov (.c (.t .nil))⟩] [0]) (.seq (.reg [⟨some 5,none,.mov (.s 0)⟩,⟨some 6,none,.len false (.s 5)⟩,⟨some 7,none,.mkslice ty n sz z (.s 6) (.s 6)⟩,⟨some 3,none,.mov (.s 7)⟩] [0,3]) (.seq (.seq (.reg [⟨some 4,none,.mov (.c (.t (.int .i64 0)))⟩] [0,3,4]) (.block 0 (.loop [0,3,4] (toB n k l)))) (.seq (.reg [⟨some 22,none,.mov (.s 3)⟩,⟨some 2,none,.mov (.s 22)⟩] [2]) .ret)))⟩
theorem toG{f ty n sz k:Nat}{z:UD}{l:Option Nat}(ht:tbl f=some (toM ty n sz k z l)){Cx:ZG}(hC:Cx=Xs ext tbl){α:Type}(c:α->UD)(xs:List α)(hl:xs.length<=4294967296)(hs:sz<=4096)
  (hb:∀i (hi:i<xs.length),(fill c z xs i).length=xs.length->IntKind.wrap .i64 ((i:Int)+1)=(i:Int)+1->∀fr,EvL Cx fr [0,3,4] (toB n k l) ⟨[(0,L n (xs.map c)),(3,.own 0),(4,I i)],[[]],[.arr ty n true (fill c z xs i)]⟩=EvL Cx fr [0,3,4] (toB n k l) ⟨[(0,L n (xs.map c)),(3,.own 0),(4,I ((i:Int)+1))],[[]],[.arr ty n true ((fill c z xs i).set i (c xs[i]))]⟩) :
  Cx f [L n (xs.map c)] []=some (.own 0,[.arr ty n true (xs.map c)]):=by
 subst hC;refine Zff (h0:=[]) ht rfl ?_;have hq:∀fr,∀i,i<=xs.length->EvL (Xs ext tbl) fr [0,3,4] (toB n k l) ⟨[(0,L n (xs.map c)),(3,.own 0),(4,I i)],[[]],[.arr ty n true (fill c z xs i)]⟩ =
   EvX (Xs ext tbl) fr (.x 0) ⟨[(0,L n (xs.map c)),(3,.own 0),(4,I xs.length),(11,Bo false)],[[]],[.arr ty n true (xs.map c)]⟩:=by
  intro fr;refine down xs.length ?_ ?_
  .rw[Zn (toB.eq_1 n k l)];simp[hdB,Zxv]
  .intro i hi ih;rw[hb i hi (Zxw (Yc9 hi)) (Z1 (by omega) (by omega)) fr,Zxx hi,<-ih];rfl
 have h1:xs.length*sz<=room:=Y1 (Ydj hl hs) (by decide);have h2:(xs.length:Int)<=140737488355328:=by omega
 have h3:=λfr=>hq fr 0 (Yd _)
 simp[Zxu]at h3;simp[toM,h1,h2,h3]
def eqR(n k:Nat)(l:Option Nat):MCode:=.drw [⟨some 17,none,.mov (.s 0)⟩,⟨some 18,none,.mov (.s 5)⟩,⟨some 19,none,.iaddr n (.s 17) (.s 18)⟩,⟨some 20,none,.load l (.s 19)⟩,⟨some 21,none,.mov (.s 1)⟩,⟨some 22,none,.mov (.s 5)⟩,⟨some 23,none,.iaddr n (.s 21) (.s 22)⟩,⟨some 24,none,.load l (.s 23)⟩,⟨some 25,none,.call k [.s 20,.s 24]⟩,⟨some 26,none,.un .not (.s 25)⟩] [[],[],[0,1],[2],[],[],[4,5],[6],[3,7],[8]] [0,1,5,26]
def eqB(n k:Nat)(l:Option Nat):MCode:=hdB 11 12 13 14 5 [0,1,5] (.seq (eqR n k l) (.cond (.s 26) (.seq (.reg [⟨some 4,none,.mov (.c (.t (.bool false)))⟩] [4]) .ret) .skip)) (.reg [⟨some 15,none,.mov (.s 5)⟩,⟨some 16,none,.bin .add (.s 15) (.c (.t (.int .i64 1)))⟩,⟨some 5,none,.mov (.s 16)⟩] [0,1,5])
def eqM(n k:Nat)(l:Option Nat):MFun:=⟨2,27,[.tmp 4],.seq (.reg [⟨some 4,none,.mov (.c (.t (.bool false)))⟩] [0,1]) (.seq (.seq (.reg [⟨some 6,none,.mov (.s 0)⟩,⟨some 7,none,.len false (.s 6)⟩,⟨some 8,none,.mov (.s 1)⟩,⟨some 9,none,.len false (.s 8)⟩,⟨some 10,none,.bin .neq (.s 7) (.s 9)⟩] [0,1,10]) (.cond (.s 10) (.seq (.reg [⟨some 4,none,.mov (.c (.t (.bool false)))⟩] [4]) .ret) .skip)) (.seq (.seq (.reg [⟨some 5,none,.mov (.c (.t (.int .i64 0)))⟩] [0,1,5]) (.block 0 (.loop [0,1,5] (eqB n k l)))) (.seq (.reg [⟨some 4,none,.mov (.c (.t (.bool true)))⟩] [4]) .ret)))⟩
def ldV(l:Option Nat)(x:UD):AV:=match l with
 |some _=>.agg (x.map .t)
 |none=>.t (x.headD .any)
@[simp] theorem ZL1(h:UA):∀xs:UD,VD h (xs.map .t)=some xs
 |[]=>by simp[VD]
 |x::xs=>by simp[VD,ZL1 h xs]
@[simp] theorem ZL2:∀xs:UD,Z9 (xs.map .t)=[]
 |[]=>by simp[Z9]
 |x::xs=>by simp[Z9,ZL2 xs]
theorem eqG{f n k:Nat}{l:Option Nat}(ht:tbl f=some (eqM n k l)){Cx:ZG}(hC:Cx=Xs ext tbl){α:Type}[DecidableEq α](c:α->UD)(xs ys:List α)(hm:xs.length<=4294967296)(hn:∀x,(c x).length=n)(hl:l=some n\/l=none/\n=1)
  (hc:∀x,x∈xs->∀y,Cx k [ldV l (c x),ldV l (c y)] []=some (Bo (decide (x=y)),[])) :
  Cx f [L n (xs.map c),L n (ys.map c)] []=some (Bo (decide (xs=ys)),[]):=by
 subst hC;refine Zff (h0:=[]) ht rfl ?_;by_cases he:ys.length=xs.length
 .have hq:∀fr,∀i,i<=xs.length->EvL (Xs ext tbl) fr [0,1,5] (eqB n k l) ⟨[(0,L n (xs.map c)),(1,L n (ys.map c)),(5,I i)],[[]],[]⟩ =
   if xs.drop i=ys.drop i then EvX (Xs ext tbl) fr (.x 0) ⟨[(0,L n (xs.map c)),(1,L n (ys.map c)),(5,I xs.length),(14,Bo false)],[[]],[]⟩else EvX (Xs ext tbl) fr .r ⟨[(4,Bo false)],[[]],[]⟩:=by
   intro fr;refine down xs.length ?_ ?_
   .rw[Zn (eqB.eq_1 n k l)];simp[hdB,he,Ydb]
   .intro i hi ih;have hi2:i<ys.length:=by omega
    have h4:IntKind.wrap .i64 ((i:Int)+1)=(i:Int)+1:=Z1 (by omega) (by omega);have h5:=hc xs[i] (Yc hi) ys[i];have h6:=hn xs[i];have h7:=hn ys[i];rw[Zn (eqB.eq_1 n k l)];simp at ih;simp only[Zx3 hi hi2,ih];rcases hl with rfl|⟨rfl,rfl⟩
    .simp[ldV]at h5;have h8:(c xs[i]).take n=c xs[i]:=by rw[Yb3 (by omega)]
     have h9:(c ys[i]).take n=c ys[i]:=by rw[Yb3 (by omega)]
     simp +decide[hdB,eqR,hi,hi2,h4,h5,h6,h7,h8,h9,<-List.map_take];by_cases e1:xs[i]=ys[i]
     .simp[e1];exact ih
     .simp[e1]
    .obtain⟨a,ha⟩:=List.length_eq_one_iff.1 h6;obtain⟨b,hb⟩:=List.length_eq_one_iff.1 h7;simp[ldV,ha,hb]at h5;simp +decide[hdB,eqR,hi,hi2,h4,h5,ha,hb];by_cases e1:xs[i]=ys[i]
     .simp[e1];exact ih
     .simp[e1]
  have h3:=λfr=>hq fr 0 (Yd _)
  simp at h3;simp[eqM,h3,he];split<;>simp_all
 .have h1:xs≠ys:=λh=>he (by rw[h])
  have h2:¬((xs.length:Int)=ys.length):=by omega
  simp[eqM,h1,h2]
def szB(n k:Nat)(l:Option Nat):MCode:=hdB 12 13 14 15 5 [0,1,5] (.seq (.reg [⟨some 18,none,.mov (.s 0)⟩,⟨some 19,none,.mov (.s 5)⟩,⟨some 20,none,.iaddr n (.s 18) (.s 19)⟩,⟨some 21,none,.load l (.s 20)⟩,⟨some 22,none,.mov (.s 1)⟩,⟨some 23,none,.call k [.s 21,.s 22]⟩,⟨some 1,none,.mov (.s 23)⟩] [0,1,5]) (.seq (.reg [⟨some 24,none,.mov (.s 1)⟩,⟨some 25,none,.bin .lss (.s 24) (.c (.t (.int .i64 0)))⟩] [0,1,5,25]) (.cond (.s 25) (.seq (.reg [⟨some 4,none,.mov (.c (.t (.int .i64 (-1))))⟩] [4]) .ret) .skip))) (.reg [⟨some 16,none,.mov (.s 5)⟩,⟨some 17,none,.bin .add (.s 16) (.c (.t (.int .i64 1)))⟩,⟨some 5,none,.mov (.s 17)⟩] [0,1,5])
def szM(n k:Nat)(l:Option Nat):MFun:=⟨2,27,[.tmp 4],.seq (.reg [⟨some 4,none,.mov (.c (.t (.int .i64 0)))⟩] [0,1]) (.seq (.reg [⟨some 6,none,.mov (.s 1)⟩,⟨some 7,none,.mov (.s 0)⟩,⟨some 8,none,.len false (.s 7)⟩,⟨some 9,none,.bin .sub (.s 6) (.s 8)⟩,⟨some 1,none,.mov (.s 9)⟩] [0,1]) (.seq (.seq (.reg [⟨some 10,none,.mov (.s 1)⟩,⟨some 11,none,.bin .lss (.s 10) (.c (.t (.int .i64 0)))⟩] [0,1,11]) (.cond (.s 11) (.seq (.reg [⟨some 4,none,.mov (.c (.t (.int .i64 (-1))))⟩] [4]) .ret) .skip)) (.seq (.seq (.reg [⟨some 5,none,.mov (.c (.t (.int .i64 0)))⟩] [0,1,5]) (.block 0 (.loop [0,1,5] (szB n k l)))) (.seq (.reg [⟨some 26,none,.mov (.s 1)⟩,⟨some 4,none,.mov (.s 26)⟩] [4]) .ret))))⟩
theorem szG{f n k:Nat}{l:Option Nat}(ht:tbl f=some (szM n k l)){Cx:ZG}(hC:Cx=Xs ext tbl){α:Type}(c:α->UD)(g:α->Int->Int)(xs:List α)(cc:Int)(hm:xs.length<=maxLen)(hn:∀x,(c x).length=n)(hl:l=some n\/l=none/\n=1)
  (hc:∀x,x∈xs->∀cc,Cx k [ldV l (c x),I cc] []=some (I (g x cc),[])) :
  Cx f [L n (xs.map c),I cc] []=some (I (szL g xs cc),[]):=by
 subst hC;refine Zff (h0:=[]) ht rfl ?_;have hm2:maxLen<=9223372036854775807:=by decide
 have hq:∀fr,∀i,i<=xs.length->∀cc:Int,
  (EvL (Xs ext tbl) fr [0,1,5] (szB n k l) ⟨[(0,L n (xs.map c)),(1,I cc),(5,I i)],[[]],[]⟩=EvX (Xs ext tbl) fr .r ⟨[(4,I (-1))],[[]],[]⟩/\Ut g (xs.drop i) cc=-1)\/
  EvL (Xs ext tbl) fr [0,1,5] (szB n k l) ⟨[(0,L n (xs.map c)),(1,I cc),(5,I i)],[[]],[]⟩=EvX (Xs ext tbl) fr (.x 0) ⟨[(0,L n (xs.map c)),(1,I (Ut g (xs.drop i) cc)),(5,I xs.length),(15,Bo false)],[[]],[]⟩:=by
  intro fr;refine down xs.length ?_ ?_
  .intro cc;right;rw[Zn (szB.eq_1 n k l)];simp[hdB,Ydb,Ut]
  .intro i hi ih cc;have h4:IntKind.wrap .i64 ((i:Int)+1)=(i:Int)+1:=Z1 (by omega) (by omega);have h5:=hc xs[i] (Yc hi) cc;have h6:=hn xs[i];have e:EvL (Xs ext tbl) fr [0,1,5] (szB n k l) ⟨[(0,L n (xs.map c)),(1,I cc),(5,I i)],[[]],[]⟩=if g xs[i] cc<0 then EvX (Xs ext tbl) fr .r ⟨[(4,I (-1))],[[]],[]⟩else EvL (Xs ext tbl) fr [0,1,5] (szB n k l) ⟨[(0,L n (xs.map c)),(1,I (g xs[i] cc)),(5,I ((i+1:Nat):Int))],[[]],[]⟩:=by
    rw[Zn (szB.eq_1 n k l)];rcases hl with rfl|⟨rfl,rfl⟩
    .simp[ldV]at h5;have h8:(c xs[i]).take n=c xs[i]:=by rw[Yb3 (by omega)]
     simp[hdB,hi,h4,h5,h6,h8,<-List.map_take]
    .obtain⟨a,ha⟩:=List.length_eq_one_iff.1 h6;simp[ldV,ha]at h5;simp[hdB,hi,h4,h5,ha]
   rw[e,Yi hi,Ut];split
   .exact .inl ⟨rfl,rfl⟩
   .exact ih _
 have h3:=λfr l=>hq fr 0 (Yd _) l
 simp at h3;simp[szM,szL,Z5,sz1];split
 .simp_all
 .rcases h3 [.blk 0,.seq _,.fin _ _] (IntKind.wrap .i64 (cc-xs.length))with⟨h5,h6⟩|h5
  .rw[h5];simp[h6]
  .rw[h5];simp
end Go.AM
namespace Go.Proofs.YthdihnbeifcppaaGreat
open Go.AM
noncomputable section
def ZL3(xs:V6)(h:SmA xs)(fr:List Fr):∀i,i<=xs.length->EvL C fr [0,3,4] Zmz ⟨[(0,L 1 (xs.map ic)),(3,.own 0),(4,I i)],[[]],[.arr ZU 1 true (fill ic [.int .i64 0] xs i)]⟩ =
  EvX C fr (.x 0) ⟨[(0,L 1 (xs.map ic)),(3,.own 0),(4,I xs.length),(11,Bo false)],[[]],[.arr ZU 1 true (xs.map ic)]⟩:=by
 have hl:xs.length<=4294967296:=h;refine down xs.length ?_ ?_
 .rw[Zn Zmz.eq_1];simp[Zxv]
 .intro i hi ih;rw[Zn Zmz.eq_1,<-ih];have h1:=Zxx (f:=ic) (z:=[.int .i64 0]) hi;have h3:=Zxw (f:=ic) (z:=[.int .i64 0]) (Yc9 hi);have h4:IntKind.wrap .i64 ((i:Int)+1)=(i:Int)+1:=Z1 (by omega) (by omega);simp at h1;simp[hi,h3,h4,h1]
def ZaJ(xs:V6)(h:SmA xs):C Z9D [L 1 (xs.map ic)] []=some (.own 0,[.arr ZU 1 true (xs.map ic)]):=by
 refine run ZKh rfl ?_;have hl:xs.length<=4294967296:=h;have h1:∀b,b<=4096->xs.length*b<=room:=λb hb=>Y1 (Ydj hl hb) (by decide)
 have h2:(xs.length:Int)<=140737488355328:=by omega
 have h3:=λfr=>ZL3 xs h fr 0 (Yd _)
 simp[Zxu]at h3;simp[Z5r,h1,h2,h3]
def ZL4(xs ys:V6)(h:SmA xs)(hl:ys.length=xs.length)(fr:List Fr):∀i,i<=xs.length->EvL C fr [0,1,5] Zm0 ⟨[(0,L 1 (xs.map ic)),(1,L 1 (ys.map ic)),(5,I i)],[[]],[]⟩ =
  if xs.drop i=ys.drop i then EvX C fr (.x 0) ⟨[(0,L 1 (xs.map ic)),(1,L 1 (ys.map ic)),(5,I xs.length),(14,Bo false)],[[]],[]⟩else EvX C fr .r ⟨[(4,Bo false)],[[]],[]⟩:=by
 have hm:xs.length<=4294967296:=h;refine down xs.length ?_ ?_
 .rw[Zn Zm0.eq_1];simp[hl,Ydb]
 .intro i hi ih;have hi2:i<ys.length:=by omega
  have h4:IntKind.wrap .i64 ((i:Int)+1)=(i:Int)+1:=Z1 (by omega) (by omega);rw[Zn Zm0.eq_1];simp +decide[hi,hi2,h4];simp at ih;simp only[Zx3 hi hi2,ih];split<;>first|(simp_all;done)|grind
def ZaK(xs ys:V6)(h:SmA xs):C Z9H [L 1 (xs.map ic),L 1 (ys.map ic)] []=some (Bo (decide (xs=ys)),[]):=by
 refine run ZKl rfl ?_;by_cases hl:ys.length=xs.length
 .have h3:=λfr=>ZL4 xs ys h hl fr 0 (Yd _)
  simp at h3;simp[Zvt,h3,hl];split<;>simp_all
 .have h1:xs≠ys:=λh=>hl (by rw[h])
  have h2:¬((xs.length:Int)=ys.length):=by omega
  simp[Zvt,h1,h2]
@[simp] def ZeE(es:V5)(c:Int):C Z99 [L 1 es,I c] []=some (I (sz1 es.length c),[]):=by
 refine run ZKd rfl ?_;simp[Z5m,sz1];split<;>simp_all
def ZL5:tbl 253=some (toM 42 1 24 26 [(.lst 1 [])] none):=Zf Tryz.func253 (by kernel_rfl) (by kernel_rfl)
def Z7e(xs:V4)(h:SmL SmA xs):C ZBe [L 1 (xs.map isc)] []=some (.own 0,[.arr Zfq 1 true (xs.map isc)]) :=
 toG (Cx:=C) ZL5 rfl _ xs h.1 (by decide) λi hi h3 h4 fr=>by rw[Zn (toB.eq_1 _ _ _)];simp[hdB,toR,hi,h3,h4,ZaJ _ (h.2 _ (Yc hi))]
def ZL6:tbl 284=some (eqM 1 34 none):=Zf Tryz.func284 (by kernel_rfl) (by kernel_rfl)
def Z7f(xs ys:V4)(h:SmL SmA xs):C ZBj [L 1 (xs.map isc),L 1 (ys.map isc)] []=some (Bo (decide (xs=ys)),[]) :=
 eqG (Cx:=C) ZL6 rfl _ xs ys h.1 (λ_=>rfl) (by decide) (λx hx y=>by simp[ldV,ZaK _ _ (h.2 x hx)])
def ZL7:tbl 231=some (szM 1 18 none):=Zf Tryz.func231 (by kernel_rfl) (by kernel_rfl)
def Z7g(xs:V4)(c:Int)(h:OkL (OkL OkI) xs):C ZAZ [L 1 (xs.map isc),I c] []=some (I (szL szI xs c),[]) :=
 szG (Cx:=C) ZL7 rfl _ _ xs c h.1 (λ_=>rfl) (by decide) (λx hx l=>by simp[ldV,ZeE])
def ZL8(x0:UP)(x1:Int)(x2:V4)(h2:SmL SmA x2):C ZAN [.agg [.t (.str x0),I x1,.t (tII x2)]] []=some (.agg [.t (.str x0),I x1,.own 0],[.arr Zfq 1 true (x2.map isc)]):=by
 refine run ZLa rfl ?_;simp[Z67,Z7e _ h2]
def ZL9(x0:UP)(x1:Int)(x2:V4)(y0:UP)(y1:Int)(y2:V4)(h2:SmL SmA x2):C ZAS [.agg [.t (.str x0),I x1,.t (tII x2)],.agg [.t (.str y0),I y1,.t (tII y2)]] []=some (Bo (decide (x0=y0/\x1=y1/\x2=y2)),[]):=by
 refine run ZLf rfl ?_;simp[Z6C,Z7f _ _ h2]
 repeat' split
 all_goals first|(simp_all;done)|grind
def ZLA(x0:UP)(x1:Int)(x2:V4)(c:Int)(h2:OkL (OkL OkI) x2):C ZAJ [.agg [.t (.str x0),I x1,.t (tII x2)],I c] []=some (I (Zc.sz ⟨x0,x1,x2⟩ c),[]):=by
 refine run ZKW rfl ?_;simp[Z63,Z7g _ _ h2,Zc.sz,Z5,sz1]
 repeat' split
 all_goals first|(simp_all;done)|grind
def ZLB:tbl 118=some (toM 179 3 48 190 [(.str ⟨#[]⟩),(.int .i64 0),(.lst 1 [])] (some 3)):=Zf Tryz.func118 (by kernel_rfl) (by kernel_rfl)
def ZLC(xs:List Zc)(h:SmL Zc.small xs):C ZAy [L 3 (xs.map Zc.c)] []=some (.own 0,[.arr ZjH 3 true (xs.map Zc.c)]) :=
 toG (Cx:=C) ZLB rfl _ xs h.1 (by decide) λi hi h3 h4 fr=>by rw[Zn (toB.eq_1 _ _ _)];simp[hdB,toR,hi,h3,h4,ZL8 _ _ _ (h.2 _ (Yc hi)).2]
def ZLD:tbl 145=some (eqM 3 222 (some 3)):=Zf Tryz.func145 (by kernel_rfl) (by kernel_rfl)
def ZLE(xs ys:List Zc)(h:SmL Zc.small xs):C ZA4 [L 3 (xs.map Zc.c),L 3 (ys.map Zc.c)] []=some (Bo (decide (xs=ys)),[]) :=
 eqG (Cx:=C) ZLD rfl _ xs ys h.1 (λ_=>rfl) (by decide) (λx hx y=>by simp[ldV,ZL9 _ _ _ _ _ _ (h.2 x hx).2,Zc.ext_iff,Bool.and_assoc])
def ZLF:tbl 96=some (szM 3 163 (some 3)):=Zf Tryz.func96 (by kernel_rfl) (by kernel_rfl)
def ZLG(xs:List Zc)(cc:Int)(h:OkL Zc.okay xs):C ZAs [L 3 (xs.map Zc.c),I cc] []=some (I (szL Zc.sz xs cc),[]) :=
 szG (Cx:=C) ZLF rfl _ _ xs cc h.1 (λ_=>rfl) (by decide) (λx hx l=>by simp[ldV,ZLA _ _ _ _ (h.2 x hx).2.2])
def ZLH(x0:List Zc)(h0:SmL Zc.small x0):C Z9U [.agg [.t (.lst 3 (x0.map Zc.c))]] []=some (.agg [.own 0],[.arr ZjH 3 true (x0.map Zc.c)]):=by
 refine run ZKv rfl ?_;simp[Z57,ZLC _ h0]
def ZLI(x0 y0:List Zc)(h0:SmL Zc.small x0):C ZAa [.agg [.t (.lst 3 (x0.map Zc.c))],.agg [.t (.lst 3 (y0.map Zc.c))]] []=some (Bo (decide (x0=y0)),[]):=by
 refine run ZKy rfl ?_;simp[Z5A,ZLE _ _ h0]
 repeat' split
 all_goals first|(simp_all;done)|grind
def ZLJ(x0:List Zc)(cc:Int)(h0:OkL Zc.okay x0):C Z9O [.agg [.t (.lst 3 (x0.map Zc.c))],I cc] []=some (I (Zl.sz ⟨x0⟩ cc),[]):=by
 refine run ZKs rfl ?_;simp[Z54,ZLG _ _ h0,Zl.sz,Z5,sz1]
 repeat' split
 all_goals first|(simp_all;done)|grind
def ZLK(x0:UP)(x1:Bool)(x2:V6)(h2:SmA x2):C Z90 [.agg [.t (.str x0),Bo x1,.t (tI x2)]] []=some (.agg [.t (.str x0),Bo x1,.own 0],[.arr ZU 1 true (x2.map ic)]):=by
 refine run ZJU rfl ?_;simp[Z5d,ZaJ _ h2]
def ZLL(x0:UP)(x1:Bool)(x2:V6)(y0:UP)(y1:Bool)(y2:V6)(h2:SmA x2):C Z92 [.agg [.t (.str x0),Bo x1,.t (tI x2)],.agg [.t (.str y0),Bo y1,.t (tI y2)]] []=some (Bo (decide (x0=y0/\x1=y1/\x2=y2)),[]):=by
 refine run ZJW rfl ?_;simp[Z5f,ZaK _ _ h2]
 repeat' split
 all_goals first|(simp_all;done)|grind
def ZLM(x0:UP)(x1:Bool)(x2:V6)(c:Int) :C Z9y [.agg [.t (.str x0),Bo x1,.t (tI x2)],I c] []=some (I (ZR.sz ⟨x0,x1,x2⟩ c),[]):=by
 refine run ZJS rfl ?_;simp[Z5b,ZeE,ZR.sz,Z5,sz1]
 repeat' split
 all_goals first|(simp_all;done)|grind
def ZLN(x0:UP)(x1:V6)(h1:SmA x1):C ZBs [.agg [.t (.str x0),.t (tI x1)]] []=some (.agg [.t (.str x0),.own 0],[.arr ZU 1 true (x1.map ic)]):=by
 refine run ZLw rfl ?_;simp[Z6Z,ZaJ _ h1]
def ZLO(x0:UP)(x1:V6)(y0:UP)(y1:V6)(h1:SmA x1):C ZBv [.agg [.t (.str x0),.t (tI x1)],.agg [.t (.str y0),.t (tI y1)]] []=some (Bo (decide (x0=y0/\x1=y1)),[]):=by
 refine run ZLy rfl ?_;simp[Z7b,ZaK _ _ h1]
 repeat' split
 all_goals first|(simp_all;done)|grind
def ZLP(x0:UP)(x1:V6)(c:Int) :C ZBp [.agg [.t (.str x0),.t (tI x1)],I c] []=some (I (Ze.sz ⟨x0,x1⟩ c),[]):=by
 refine run ZLt rfl ?_;simp[Z6W,ZeE,Ze.sz,Z5,sz1]
 repeat' split
 all_goals first|(simp_all;done)|grind
def ZLQ:tbl 255=some (toM 251 2 40 307 [(.str ⟨#[]⟩),(.lst 1 [])] (some 2)):=Zf Tryz.func255 (by kernel_rfl) (by kernel_rfl)
def ZLR(xs:List Ze)(h:SmL Ze.small xs):C ZBg [L 2 (xs.map Ze.c)] []=some (.own 0,[.arr ZnL 2 true (xs.map Ze.c)]) :=
 toG (Cx:=C) ZLQ rfl _ xs h.1 (by decide) λi hi h3 h4 fr=>by rw[Zn (toB.eq_1 _ _ _)];simp[hdB,toR,hi,h3,h4,ZLN _ _ (h.2 _ (Yc hi)).2]
def ZLS:tbl 286=some (eqM 2 324 (some 2)):=Zf Tryz.func286 (by kernel_rfl) (by kernel_rfl)
def ZLT(xs ys:List Ze)(h:SmL Ze.small xs):C ZBl [L 2 (xs.map Ze.c),L 2 (ys.map Ze.c)] []=some (Bo (decide (xs=ys)),[]) :=
 eqG (Cx:=C) ZLS rfl _ xs ys h.1 (λ_=>rfl) (by decide) (λx hx y=>by simp[ldV,ZLO _ _ _ _ (h.2 x hx).2,Ze.ext_iff,Bool.and_assoc])
def ZLU:tbl 233=some (szM 2 290 (some 2)):=Zf Tryz.func233 (by kernel_rfl) (by kernel_rfl)
def ZLV(xs:List Ze)(cc:Int)(h:OkL Ze.okay xs):C ZBb [L 2 (xs.map Ze.c),I cc] []=some (I (szL Ze.sz xs cc),[]) :=
 szG (Cx:=C) ZLU rfl _ _ xs cc h.1 (λ_=>rfl) (by decide) (λx hx l=>by simp[ldV,ZLP])
def ZLW(x0:Int)(x1:List Ze)(h1:SmL Ze.small x1):C ZAQ [.agg [I x0,.t (.lst 2 (x1.map Ze.c))]] []=some (.agg [I x0,.own 0],[.arr ZnL 2 true (x1.map Ze.c)]):=by
 refine run ZLd rfl ?_;simp[Z6A,ZLR _ h1]
def ZLX(x0:Int)(x1:List Ze)(y0:Int)(y1:List Ze)(h1:SmL Ze.small x1):C ZAV [.agg [I x0,.t (.lst 2 (x1.map Ze.c))],.agg [I y0,.t (.lst 2 (y1.map Ze.c))]] []=some (Bo (decide (x0=y0/\x1=y1)),[]):=by
 refine run ZLi rfl ?_;simp[Z6F,ZLT _ _ h1]
 repeat' split
 all_goals first|(simp_all;done)|grind
def ZLY(x0:Int)(x1:List Ze)(cc:Int)(h1:OkL Ze.okay x1):C ZAL [.agg [I x0,.t (.lst 2 (x1.map Ze.c))],I cc] []=some (I (Zj.sz ⟨x0,x1⟩ cc),[]):=by
 refine run ZKY rfl ?_;simp[Z65,ZLV _ _ h1,Zj.sz,Z5,sz1]
 repeat' split
 all_goals first|(simp_all;done)|grind
def ZLZ(x0:UP)(x1:V6)(x2:Int)(h1:SmA x1):C ZA0 [.agg [.t (.str x0),.t (tI x1),I x2]] []=some (.agg [.t (.str x0),.own 0,I x2],[.arr ZU 1 true (x1.map ic)]):=by
 refine run ZKH rfl ?_;simp[Z5Z,ZaJ _ h1]
def ZMa(x0:UP)(x1:V6)(x2:Int)(y0:UP)(y1:V6)(y2:Int)(h1:SmA x1):C ZA6 [.agg [.t (.str x0),.t (tI x1),I x2],.agg [.t (.str y0),.t (tI y1),I y2]] []=some (Bo (decide (x0=y0/\x1=y1/\x2=y2)),[]):=by
 refine run ZKK rfl ?_;simp[Z6c,ZaK _ _ h1]
 repeat' split
 all_goals first|(simp_all;done)|grind
def ZMb(x0:UP)(x1:V6)(x2 c:Int) :C ZAu [.agg [.t (.str x0),.t (tI x1),I x2],I c] []=some (I (Zp.sz ⟨x0,x1,x2⟩ c),[]):=by
 refine run ZKD rfl ?_;simp[Z5V,ZeE,Zp.sz,Z5,sz1]
 repeat' split
 all_goals first|(simp_all;done)|grind
def ZMc(x0:UP)(x1:Int)(x2:UP)(x3:Int) :C ZA1 [.agg [.t (.str x0),I x1,.t (.str x2),I x3]] []=some (.agg [.t (.str x0),I x1,.t (.str x2),I x3],[]):=by
 refine run ZKI rfl ?_;simp[Z6a]
def ZMd(x0:UP)(x1:Int)(x2:UP)(x3:Int)(y0:UP)(y1:Int)(y2:UP)(y3:Int) :C ZA7 [.agg [.t (.str x0),I x1,.t (.str x2),I x3],.agg [.t (.str y0),I y1,.t (.str y2),I y3]] []=some (Bo (decide (x0=y0/\x1=y1/\x2=y2/\x3=y3)),[]):=by
 refine run ZKL rfl ?_;simp[Z6d]
 repeat' split
 all_goals first|(simp_all;done)|grind
def ZMe(x0:UP)(x1:Int)(x2:UP)(x3 c:Int) :C ZAv [.agg [.t (.str x0),I x1,.t (.str x2),I x3],I c] []=some (I (Zr.sz ⟨x0,x1,x2,x3⟩ c),[]):=by
 refine run ZKE rfl ?_;simp[Z5W,Zr.sz,Z5,sz1]
 repeat' split
 all_goals first|(simp_all;done)|grind
def ZMf(x0:V6)(x1:V4)(x2:V6)(h0:SmA x0)(h1:SmL SmA x1)(h2:SmA x2):C ZBr [.agg [.t (tI x0),.t (tII x1),.t (tI x2)]] []=some (.agg [.own 0,.own 1,.own 2],[.arr ZU 1 true (x0.map ic),.arr Zfq 1 true (x1.map isc),.arr ZU 1 true (x2.map ic)]):=by
 refine run ZLv rfl ?_;simp[Z6Y,ZaJ _ h0,Z7e _ h1,ZaJ _ h2]
def ZMg(x0:V6)(x1:V4)(x2 y0:V6)(y1:V4)(y2:V6)(h0:SmA x0)(h1:SmL SmA x1)(h2:SmA x2):C ZBu [.agg [.t (tI x0),.t (tII x1),.t (tI x2)],.agg [.t (tI y0),.t (tII y1),.t (tI y2)]] []=some (Bo (decide (x0=y0/\x1=y1/\x2=y2)),[]):=by
 refine run ZLx rfl ?_;simp[Z7a,ZaK _ _ h0,Z7f _ _ h1,ZaK _ _ h2]
 repeat' split
 all_goals first|(simp_all;done)|grind
def ZMh(x0:V6)(x1:V4)(x2:V6)(c:Int)(h1:OkL (OkL OkI) x1):C ZBo [.agg [.t (tI x0),.t (tII x1),.t (tI x2)],I c] []=some (I (Zy.sz ⟨x0,x1,x2⟩ c),[]):=by
 refine run ZLs rfl ?_;simp[Z6V,ZeE,Z7g _ _ h1,Zy.sz,Z5,sz1]
 repeat' split
 all_goals first|(simp_all;done)|grind
def ZMi:tbl 254=some (toM 249 3 72 306 [(.lst 1 []),(.lst 1 []),(.lst 1 [])] (some 3)):=Zf Tryz.func254 (by kernel_rfl) (by kernel_rfl)
def ZMj(xs:List Zy)(h:SmL Zy.small xs):C ZBf [L 3 (xs.map Zy.c)] []=some (.own 0,[.arr ZxR 3 true (xs.map Zy.c)]) :=
 toG (Cx:=C) ZMi rfl _ xs h.1 (by decide) λi hi h3 h4 fr=>by rw[Zn (toB.eq_1 _ _ _)];simp[hdB,toR,hi,h3,h4,ZMf _ _ _ (h.2 _ (Yc hi)).1 (h.2 _ (Yc hi)).2.1 (h.2 _ (Yc hi)).2.2]
def ZMk:tbl 285=some (eqM 3 323 (some 3)):=Zf Tryz.func285 (by kernel_rfl) (by kernel_rfl)
def ZMl(xs ys:List Zy)(h:SmL Zy.small xs):C ZBk [L 3 (xs.map Zy.c),L 3 (ys.map Zy.c)] []=some (Bo (decide (xs=ys)),[]) :=
 eqG (Cx:=C) ZMk rfl _ xs ys h.1 (λ_=>rfl) (by decide) (λx hx y=>by simp[ldV,ZMg _ _ _ _ _ _ (h.2 x hx).1 (h.2 x hx).2.1 (h.2 x hx).2.2,Zy.ext_iff,Bool.and_assoc])
def ZMm:tbl 232=some (szM 3 289 (some 3)):=Zf Tryz.func232 (by kernel_rfl) (by kernel_rfl)
def ZMn(xs:List Zy)(cc:Int)(h:OkL Zy.okay xs):C ZBa [L 3 (xs.map Zy.c),I cc] []=some (I (szL Zy.sz xs cc),[]) :=
 szG (Cx:=C) ZMm rfl _ _ xs cc h.1 (λ_=>rfl) (by decide) (λx hx l=>by simp[ldV,ZMh _ _ _ _ (h.2 x hx).2.1])
def ZMo(x0:UP)(x1 x2:Int)(x3:List Zy)(h3:SmL Zy.small x3):C ZAO [.agg [.t (.str x0),I x1,I x2,.t (.lst 3 (x3.map Zy.c))]] []=some (.agg [.t (.str x0),I x1,I x2,.own 0],[.arr ZxR 3 true (x3.map Zy.c)]):=by
 refine run ZLb rfl ?_;simp[Z68,ZMj _ h3]
def ZMp(x0:UP)(x1 x2:Int)(x3:List Zy)(y0:UP)(y1 y2:Int)(y3:List Zy)(h3:SmL Zy.small x3):C ZAT [.agg [.t (.str x0),I x1,I x2,.t (.lst 3 (x3.map Zy.c))],.agg [.t (.str y0),I y1,I y2,.t (.lst 3 (y3.map Zy.c))]] []=some (Bo (decide (x0=y0/\x1=y1/\x2=y2/\x3=y3)),[]):=by
 refine run ZLg rfl ?_;simp[Z6D,ZMl _ _ h3]
 repeat' split
 all_goals first|(simp_all;done)|grind
def ZMq(x0:UP)(x1 x2:Int)(x3:List Zy)(cc:Int)(h3:OkL Zy.okay x3):C ZAK [.agg [.t (.str x0),I x1,I x2,.t (.lst 3 (x3.map Zy.c))],I cc] []=some (I (Zk.sz ⟨x0,x1,x2,x3⟩ cc),[]):=by
 refine run ZKX rfl ?_;simp[Z64,ZMn _ _ h3,Zk.sz,Z5,sz1]
 repeat' split
 all_goals first|(simp_all;done)|grind
def ZMr:tbl 119=some (toM 191 4 56 191 [(.str ⟨#[]⟩),(.int .i64 0),(.int .i64 0),(.lst 3 [])] (some 4)):=Zf Tryz.func119 (by kernel_rfl) (by kernel_rfl)
def ZMs(xs:List Zk)(h:SmL Zk.small xs):C ZAz [L 4 (xs.map Zk.c)] []=some (.own 0,[.arr ZjI 4 true (xs.map Zk.c)]) :=
 toG (Cx:=C) ZMr rfl _ xs h.1 (by decide) λi hi h3 h4 fr=>by rw[Zn (toB.eq_1 _ _ _)];simp[hdB,toR,hi,h3,h4,ZMo _ _ _ _ (h.2 _ (Yc hi)).2]
def ZMt:tbl 146=some (eqM 4 223 (some 4)):=Zf Tryz.func146 (by kernel_rfl) (by kernel_rfl)
def ZMu(xs ys:List Zk)(h:SmL Zk.small xs):C ZA5 [L 4 (xs.map Zk.c),L 4 (ys.map Zk.c)] []=some (Bo (decide (xs=ys)),[]) :=
 eqG (Cx:=C) ZMt rfl _ xs ys h.1 (λ_=>rfl) (by decide) (λx hx y=>by simp[ldV,ZMp _ _ _ _ _ _ _ _ (h.2 x hx).2,Zk.ext_iff,Bool.and_assoc])
def ZMv:tbl 97=some (szM 4 164 (some 4)):=Zf Tryz.func97 (by kernel_rfl) (by kernel_rfl)
def ZMw(xs:List Zk)(cc:Int)(h:OkL Zk.okay xs):C ZAt [L 4 (xs.map Zk.c),I cc] []=some (I (szL Zk.sz xs cc),[]) :=
 szG (Cx:=C) ZMv rfl _ _ xs cc h.1 (λ_=>rfl) (by decide) (λx hx l=>by simp[ldV,ZMq _ _ _ _ _ (h.2 x hx).2.2.2])
def ZMx(x0:Int)(x1:List Zk)(h1:SmL Zk.small x1):C Z9V [.agg [I x0,.t (.lst 4 (x1.map Zk.c))]] []=some (.agg [I x0,.own 0],[.arr ZjI 4 true (x1.map Zk.c)]):=by
 refine run ZKw rfl ?_;simp[Z58,ZMs _ h1]
def ZMy(x0:Int)(x1:List Zk)(y0:Int)(y1:List Zk)(h1:SmL Zk.small x1):C ZAb [.agg [I x0,.t (.lst 4 (x1.map Zk.c))],.agg [I y0,.t (.lst 4 (y1.map Zk.c))]] []=some (Bo (decide (x0=y0/\x1=y1)),[]):=by
 refine run ZKz rfl ?_;simp[Z5B,ZMu _ _ h1]
 repeat' split
 all_goals first|(simp_all;done)|grind
def ZMz(x0:Int)(x1:List Zk)(cc:Int)(h1:OkL Zk.okay x1):C Z9P [.agg [I x0,.t (.lst 4 (x1.map Zk.c))],I cc] []=some (I (Zu.sz ⟨x0,x1⟩ cc),[]):=by
 refine run ZKt rfl ?_;simp[Z55,ZMw _ _ h1,Zu.sz,Z5,sz1]
 repeat' split
 all_goals first|(simp_all;done)|grind
def ZM0:tbl 62=some (toM 185 3 48 120 [(.str ⟨#[]⟩),(.lst 1 []),(.int .i64 0)] (some 3)):=Zf Tryz.func62 (by kernel_rfl) (by kernel_rfl)
def ZM1(xs:List Zp)(h:SmL Zp.small xs):C Z9W [L 3 (xs.map Zp.c)] []=some (.own 0,[.arr ZnJ 3 true (xs.map Zp.c)]) :=
 toG (Cx:=C) ZM0 rfl _ xs h.1 (by decide) λi hi h3 h4 fr=>by rw[Zn (toB.eq_1 _ _ _)];simp[hdB,toR,hi,h3,h4,ZLZ _ _ _ (h.2 _ (Yc hi)).2]
def ZM2:tbl 80=some (eqM 3 147 (some 3)):=Zf Tryz.func80 (by kernel_rfl) (by kernel_rfl)
def ZM3(xs ys:List Zp)(h:SmL Zp.small xs):C ZAc [L 3 (xs.map Zp.c),L 3 (ys.map Zp.c)] []=some (Bo (decide (xs=ys)),[]) :=
 eqG (Cx:=C) ZM2 rfl _ xs ys h.1 (λ_=>rfl) (by decide) (λx hx y=>by simp[ldV,ZMa _ _ _ _ _ _ (h.2 x hx).2,Zp.ext_iff,Bool.and_assoc])
def ZM4:tbl 44=some (szM 3 98 (some 3)):=Zf Tryz.func44 (by kernel_rfl) (by kernel_rfl)
def ZM5(xs:List Zp)(cc:Int)(h:OkL Zp.okay xs):C Z9Q [L 3 (xs.map Zp.c),I cc] []=some (I (szL Zp.sz xs cc),[]) :=
 szG (Cx:=C) ZM4 rfl _ _ xs cc h.1 (λ_=>rfl) (by decide) (λx hx l=>by simp[ldV,ZMb])
def ZM6:tbl 63=some (toM 187 4 48 121 [(.str ⟨#[]⟩),(.int .i64 0),(.str ⟨#[]⟩),(.int .i64 0)] (some 4)):=Zf Tryz.func63 (by kernel_rfl) (by kernel_rfl)
def ZM7(xs:List Zr)(h:SmL Zr.small xs):C Z9X [L 4 (xs.map Zr.c)] []=some (.own 0,[.arr ZnK 4 true (xs.map Zr.c)]) :=
 toG (Cx:=C) ZM6 rfl _ xs h.1 (by decide) λi hi h3 h4 fr=>by rw[Zn (toB.eq_1 _ _ _)];simp[hdB,toR,hi,h3,h4,ZMc _ _ _ _ ]
def ZM8:tbl 81=some (eqM 4 148 (some 4)):=Zf Tryz.func81 (by kernel_rfl) (by kernel_rfl)
def ZM9(xs ys:List Zr)(h:SmL Zr.small xs):C ZAd [L 4 (xs.map Zr.c),L 4 (ys.map Zr.c)] []=some (Bo (decide (xs=ys)),[]) :=
 eqG (Cx:=C) ZM8 rfl _ xs ys h.1 (λ_=>rfl) (by decide) (λx hx y=>by simp[ldV,ZMd _ _ _ _ _ _ _ _ ,Zr.ext_iff,Bool.and_assoc])
def ZMA:tbl 45=some (szM 4 99 (some 4)):=Zf Tryz.func45 (by kernel_rfl) (by kernel_rfl)
def ZMB(xs:List Zr)(cc:Int)(h:OkL Zr.okay xs):C Z9R [L 4 (xs.map Zr.c),I cc] []=some (I (szL Zr.sz xs cc),[]) :=
 szG (Cx:=C) ZMA rfl _ _ xs cc h.1 (λ_=>rfl) (by decide) (λx hx l=>by simp[ldV,ZMe])
def ZMC(x0:List Zc)(x1:Int)(x2:List Zk)(x3:List Zp)(x4:List Zr)(h0:SmL Zc.small x0)(h2:SmL Zk.small x2)(h3:SmL Zp.small x3)(h4:SmL Zr.small x4):C Z9A [.agg [.t (.lst 3 (x0.map Zc.c)),I x1,.t (.lst 4 (x2.map Zk.c)),.t (.lst 3 (x3.map Zp.c)),.t (.lst 4 (x4.map Zr.c))]] []=some (.agg [.own 0,I x1,.own 1,.own 2,.own 3],[.arr ZjH 3 true (x0.map Zc.c),.arr ZjI 4 true (x2.map Zk.c),.arr ZnJ 3 true (x3.map Zp.c),.arr ZnK 4 true (x4.map Zr.c)]):=by
 refine run ZKe rfl ?_;simp[Z5n,ZLH _ h0,ZMx _ _ h2,ZM1 _ h3,ZM7 _ h4]
def ZMD(x0:List Zc)(x1:Int)(x2:List Zk)(x3:List Zp)(x4:List Zr)(y0:List Zc)(y1:Int)(y2:List Zk)(y3:List Zp)(y4:List Zr)(h0:SmL Zc.small x0)(h2:SmL Zk.small x2)(h3:SmL Zp.small x3)(h4:SmL Zr.small x4):C Z9E [.agg [.t (.lst 3 (x0.map Zc.c)),I x1,.t (.lst 4 (x2.map Zk.c)),.t (.lst 3 (x3.map Zp.c)),.t (.lst 4 (x4.map Zr.c))],.agg [.t (.lst 3 (y0.map Zc.c)),I y1,.t (.lst 4 (y2.map Zk.c)),.t (.lst 3 (y3.map Zp.c)),.t (.lst 4 (y4.map Zr.c))]] []=some (Bo (decide (x0=y0/\x1=y1/\x2=y2/\x3=y3/\x4=y4)),[]):=by
 refine run ZKi rfl ?_;simp[Z5s,ZLI _ _ h0,ZMy _ _ _ _ h2,ZM3 _ _ h3,ZM9 _ _ h4]
 repeat' split
 all_goals first|(simp_all;done)|grind
def ZME(x0:List Zc)(x1:Int)(x2:List Zk)(x3:List Zp)(x4:List Zr)(cc:Int)(h0:OkL Zc.okay x0)(h2:OkL Zk.okay x2)(h3:OkL Zp.okay x3)(h4:OkL Zr.okay x4):C Z96 [.agg [.t (.lst 3 (x0.map Zc.c)),I x1,.t (.lst 4 (x2.map Zk.c)),.t (.lst 3 (x3.map Zp.c)),.t (.lst 4 (x4.map Zr.c))],I cc] []=some (I (Zs.sz ⟨⟨x0⟩,⟨x1,x2⟩,x3,x4⟩ cc),[]):=by
 refine run ZKa rfl ?_;simp[Z5j,ZLJ _ _ h0,ZMz _ _ _ h2,ZM5 _ _ h3,ZMB _ _ h4,Zs.sz,Z5,sz1]
 repeat' split
 all_goals first|(simp_all;done)|grind
def ZMF(x0 x1:V6)(h0:SmA x0)(h1:SmA x1):C ZBi [.agg [.t (tI x0),.t (tI x1)]] []=some (.agg [.own 0,.own 1],[.arr ZU 1 true (x0.map ic),.arr ZU 1 true (x1.map ic)]):=by
 refine run ZLp rfl ?_;simp[Z6S,ZaJ _ h0,ZaJ _ h1]
def ZMG(x0 x1 y0 y1:V6)(h0:SmA x0)(h1:SmA x1):C ZBn [.agg [.t (tI x0),.t (tI x1)],.agg [.t (tI y0),.t (tI y1)]] []=some (Bo (decide (x0=y0/\x1=y1)),[]):=by
 refine run ZLr rfl ?_;simp[Z6U,ZaK _ _ h0,ZaK _ _ h1]
 repeat' split
 all_goals first|(simp_all;done)|grind
def ZMH(x0 x1:V6)(c:Int) :C ZBd [.agg [.t (tI x0),.t (tI x1)],I c] []=some (I (Box.sz ⟨x0,x1⟩ c),[]):=by
 refine run ZLn rfl ?_;simp[Z6Q,ZeE,Box.sz,Z5,sz1]
 repeat' split
 all_goals first|(simp_all;done)|grind
def ZMI(x0 x1:Int) :C ZAP [.agg [I x0,I x1]] []=some (.agg [I x0,I x1],[]):=by
 refine run ZLc rfl ?_;simp[Z69]
def ZMJ(x0 x1 y0 y1:Int) :C ZAU [.agg [I x0,I x1],.agg [I y0,I y1]] []=some (Bo (decide (x0=y0/\x1=y1)),[]):=by
 refine run ZLh rfl ?_;simp[Z6E]
 repeat' split
 all_goals first|(simp_all;done)|grind
def ZMK:tbl 122=some (toM 256 2 16 192 [(.int .i64 0),(.int .i64 0)] (some 2)):=Zf Tryz.func122 (by kernel_rfl) (by kernel_rfl)
def ZML(xs:List Zd)(h:SmA xs):C ZA2 [L 2 (xs.map Zd.c)] []=some (.own 0,[.arr Q3 2 true (xs.map Zd.c)]) :=
 toG (Cx:=C) ZMK rfl _ xs h (by decide) λi hi h3 h4 fr=>by rw[Zn (toB.eq_1 _ _ _)];simp[hdB,toR,hi,h3,h4,ZMI]
def ZMM:tbl 149=some (eqM 2 224 (some 2)):=Zf Tryz.func149 (by kernel_rfl) (by kernel_rfl)
def ZMN(xs ys:List Zd)(h:SmA xs):C ZA8 [L 2 (xs.map Zd.c),L 2 (ys.map Zd.c)] []=some (Bo (decide (xs=ys)),[]) :=
 eqG (Cx:=C) ZMM rfl _ xs ys h (λ_=>rfl) (by decide) (λx hx y=>by simp[ldV,ZMJ _ _ _ _ ,Zd.ext_iff,Bool.and_assoc])
@[simp] def ZMO(es:V5)(c:Int):C ZAw [L 2 es,I c] []=some (I (sz1 es.length c),[]):=by
 refine run ZKF rfl ?_;simp[Z5X,sz1];split<;>simp_all
def Ziy(x0 x1 x2 x3 x4:Int)(x5:List Zd)(h5:SmA x5):C Z9Y [.agg [I x0,I x1,I x2,I x3,I x4,.t (.lst 2 (x5.map Zd.c))]] []=some (.agg [I x0,I x1,I x2,I x3,I x4,.own 0],[.arr Q3 2 true (x5.map Zd.c)]):=by
 refine run ZKx rfl ?_;simp[Z59,ZML _ h5]
def Ziz(x0 x1 x2 x3 x4:Int)(x5:List Zd)(y0 y1 y2 y3 y4:Int)(y5:List Zd)(h5:SmA x5):C ZAe [.agg [I x0,I x1,I x2,I x3,I x4,.t (.lst 2 (x5.map Zd.c))],.agg [I y0,I y1,I y2,I y3,I y4,.t (.lst 2 (y5.map Zd.c))]] []=some (Bo (decide (x0=y0/\x1=y1/\x2=y2/\x3=y3/\x4=y4/\x5=y5)),[]):=by
 refine run ZK0 rfl ?_;simp[Z5C,ZMN _ _ h5]
 repeat' split
 all_goals first|(simp_all;done)|grind
def ZMP(x0 x1 x2 x3 x4:Int)(x5:List Zd)(cc:Int) :C Z9S [.agg [I x0,I x1,I x2,I x3,I x4,.t (.lst 2 (x5.map Zd.c))],I cc] []=some (I (Z0.sz ⟨x0,x1,x2,x3,x4,x5⟩ cc),[]):=by
 refine run ZKu rfl ?_;simp[Z56,ZMO,Z0.sz,Z5,sz1]
 repeat' split
 all_goals first|(simp_all;done)|grind
def ZMQ(x0 x1 x2 x3 x4:Int)(x5:List Zd)(x6 x7 x8 x9 cc:Int)(x11:List Zd)(cd cl cn co cp:Int)(x17:List Zd)(cu cv cy cz d:Int)(x23:List Zd)(dc dd dl dn dp:Int)(x29:List Zd)(h5:SmA x5)(du:SmA x11)(dv:SmA x17)(dy:SmA x23)(dz:SmA x29):C Z9B [.agg [I x0,I x1,I x2,I x3,I x4,.t (.lst 2 (x5.map Zd.c)),I x6,I x7,I x8,I x9,I cc,.t (.lst 2 (x11.map Zd.c)),I cd,I cl,I cn,I co,I cp,.t (.lst 2 (x17.map Zd.c)),I cu,I cv,I cy,I cz,I d,.t (.lst 2 (x23.map Zd.c)),I dc,I dd,I dl,I dn,I dp,.t (.lst 2 (x29.map Zd.c))]] []=some (.agg [I x0,I x1,I x2,I x3,I x4,.own 0,I x6,I x7,I x8,I x9,I cc,.own 1,I cd,I cl,I cn,I co,I cp,.own 2,I cu,I cv,I cy,I cz,I d,.own 3,I dc,I dd,I dl,I dn,I dp,.own 4],[.arr Q3 2 true (x5.map Zd.c),.arr Q3 2 true (x11.map Zd.c),.arr Q3 2 true (x17.map Zd.c),.arr Q3 2 true (x23.map Zd.c),.arr Q3 2 true (x29.map Zd.c)]):=by
 refine run ZKf rfl ?_;simp[Z5o,Ziy _ _ _ _ _ _ h5,Ziy _ _ _ _ _ _ du,Ziy _ _ _ _ _ _ dv,Ziy _ _ _ _ _ _ dy,Ziy _ _ _ _ _ _ dz]
def ZMR(x0 x1 x2 x3 x4:Int)(x5:List Zd)(x6 x7 x8 x9 cc:Int)(x11:List Zd)(cd cl cn co cp:Int)(x17:List Zd)(cu cv cy cz d:Int)(x23:List Zd)(dc dd dl dn dp:Int)(x29:List Zd)(y0 y1 y2 y3 y4:Int)(y5:List Zd)(y6 y7 y8 y9 du:Int)(dv:List Zd)(dy dz l lc ld:Int)(ll:List Zd)(ln lo lp lu lv:Int)(ly:List Zd)(lz n nc nd nl:Int)(nn:List Zd)(h5:SmA x5)(np:SmA x11)(nu:SmA x17)(nv:SmA x23)(ny:SmA x29):C Z9F [.agg [I x0,I x1,I x2,I x3,I x4,.t (.lst 2 (x5.map Zd.c)),I x6,I x7,I x8,I x9,I cc,.t (.lst 2 (x11.map Zd.c)),I cd,I cl,I cn,I co,I cp,.t (.lst 2 (x17.map Zd.c)),I cu,I cv,I cy,I cz,I d,.t (.lst 2 (x23.map Zd.c)),I dc,I dd,I dl,I dn,I dp,.t (.lst 2 (x29.map Zd.c))],.agg [I y0,I y1,I y2,I y3,I y4,.t (.lst 2 (y5.map Zd.c)),I y6,I y7,I y8,I y9,I du,.t (.lst 2 (dv.map Zd.c)),I dy,I dz,I l,I lc,I ld,.t (.lst 2 (ll.map Zd.c)),I ln,I lo,I lp,I lu,I lv,.t (.lst 2 (ly.map Zd.c)),I lz,I n,I nc,I nd,I nl,.t (.lst 2 (nn.map Zd.c))]] []=some (Bo (decide (x0=y0/\x1=y1/\x2=y2/\x3=y3/\x4=y4/\x5=y5/\x6=y6/\x7=y7/\x8=y8/\x9=y9/\cc=du/\x11=dv/\cd=dy/\cl=dz/\cn=l/\co=lc/\cp=ld/\x17=ll/\cu=ln/\cv=lo/\cy=lp/\cz=lu/\d=lv/\x23=ly/\dc=lz/\dd=n/\dl=nc/\dn=nd/\dp=nl/\x29=nn)),[]):=by
 refine run ZKj rfl ?_;simp[Z5t,Ziz _ _ _ _ _ _ _ _ _ _ _ _ h5,Ziz _ _ _ _ _ _ _ _ _ _ _ _ np,Ziz _ _ _ _ _ _ _ _ _ _ _ _ nu,Ziz _ _ _ _ _ _ _ _ _ _ _ _ nv,Ziz _ _ _ _ _ _ _ _ _ _ _ _ ny]
 repeat' split
 all_goals first|(simp_all;done)|grind
def ZMS(x0 x1 x2 x3 x4:Int)(x5:List Zd)(x6 x7 x8 x9 cd:Int)(cl:List Zd)(cn co cp cu cv:Int)(cy:List Zd)(cz d dc dd dl:Int)(dn:List Zd)(dp du dv dy dz:Int)(l:List Zd)(cc:Int) :C Z97 [.agg [I x0,I x1,I x2,I x3,I x4,.t (.lst 2 (x5.map Zd.c)),I x6,I x7,I x8,I x9,I cd,.t (.lst 2 (cl.map Zd.c)),I cn,I co,I cp,I cu,I cv,.t (.lst 2 (cy.map Zd.c)),I cz,I d,I dc,I dd,I dl,.t (.lst 2 (dn.map Zd.c)),I dp,I du,I dv,I dy,I dz,.t (.lst 2 (l.map Zd.c))],I cc] []=some (I (Za.sz ⟨⟨x0,x1,x2,x3,x4,x5⟩,⟨x6,x7,x8,x9,cd,cl⟩,⟨cn,co,cp,cu,cv,cy⟩,⟨cz,d,dc,dd,dl,dn⟩,⟨dp,du,dv,dy,dz,l⟩⟩ cc),[]):=by
 refine run ZKb rfl ?_;simp[Z5k,ZMP,Za.sz,Z5,sz1]
 repeat' split
 all_goals first|(simp_all;done)|grind
def ZMT(x0 x1 x2:Int) :C ZBx [.agg [I x0,I x1,I x2]] []=some (.agg [I x0,I x1,I x2],[]):=by
 refine run ZLz rfl ?_;simp[Z7c]
def ZMU(x0 x1 x2 y0 y1 y2:Int) :C ZBy [.agg [I x0,I x1,I x2],.agg [I y0,I y1,I y2]] []=some (Bo (decide (x0=y0/\x1=y1/\x2=y2)),[]):=by
 refine run ZL0 rfl ?_;simp[Z7d]
 repeat' split
 all_goals first|(simp_all;done)|grind
def ZMV:tbl 308=some (toM 277 3 24 333 [(.int .i64 0),(.int .i64 0),(.int .i64 0)] (some 3)):=Zf Tryz.func308 (by kernel_rfl) (by kernel_rfl)
def ZMW(xs:List Zh)(h:SmA xs):C ZBt [L 3 (xs.map Zh.c)] []=some (.own 0,[.arr ZjJ 3 true (xs.map Zh.c)]) :=
 toG (Cx:=C) ZMV rfl _ xs h (by decide) λi hi h3 h4 fr=>by rw[Zn (toB.eq_1 _ _ _)];simp[hdB,toR,hi,h3,h4,ZMT]
def ZMX:tbl 325=some (eqM 3 364 (some 3)):=Zf Tryz.func325 (by kernel_rfl) (by kernel_rfl)
def ZMY(xs ys:List Zh)(h:SmA xs):C ZBw [L 3 (xs.map Zh.c),L 3 (ys.map Zh.c)] []=some (Bo (decide (xs=ys)),[]) :=
 eqG (Cx:=C) ZMX rfl _ xs ys h (λ_=>rfl) (by decide) (λx hx y=>by simp[ldV,ZMU _ _ _ _ _ _ ,Zh.ext_iff,Bool.and_assoc])
@[simp] def ZMZ(es:V5)(c:Int):C ZBq [L 3 es,I c] []=some (I (sz1 es.length c),[]):=by
 refine run ZLu rfl ?_;simp[Z6X,sz1];split<;>simp_all
def ZNa(x0:List Zh)(h0:SmA x0):C ZBh [.agg [.t (.lst 3 (x0.map Zh.c))]] []=some (.agg [.own 0],[.arr ZjJ 3 true (x0.map Zh.c)]):=by
 refine run ZLo rfl ?_;simp[Z6R,ZMW _ h0]
def ZNb(x0 y0:List Zh)(h0:SmA x0):C ZBm [.agg [.t (.lst 3 (x0.map Zh.c))],.agg [.t (.lst 3 (y0.map Zh.c))]] []=some (Bo (decide (x0=y0)),[]):=by
 refine run ZLq rfl ?_;simp[Z6T,ZMY _ _ h0]
 repeat' split
 all_goals first|(simp_all;done)|grind
def ZNc(x0:List Zh)(cc:Int) :C ZBc [.agg [.t (.lst 3 (x0.map Zh.c))],I cc] []=some (I (Zg.sz ⟨x0⟩ cc),[]):=by
 refine run ZLm rfl ?_;simp[Z6P,ZMZ,Zg.sz,Z5,sz1]
 repeat' split
 all_goals first|(simp_all;done)|grind
def ZNd(x0:List Zh)(x1 x2:V6)(x3:Int)(h0:SmA x0)(h1:SmA x1)(h2:SmA x2):C ZAR [.agg [.t (.lst 3 (x0.map Zh.c)),.t (tI x1),.t (tI x2),I x3]] []=some (.agg [.own 0,.own 1,.own 2,I x3],[.arr ZjJ 3 true (x0.map Zh.c),.arr ZU 1 true (x1.map ic),.arr ZU 1 true (x2.map ic)]):=by
 refine run ZLe rfl ?_;simp[Z6B,ZNa _ h0,ZMF _ _ h1 h2]
def ZNe(x0:List Zh)(x1 x2:V6)(x3:Int)(y0:List Zh)(y1 y2:V6)(y3:Int)(h0:SmA x0)(h1:SmA x1)(h2:SmA x2):C ZAW [.agg [.t (.lst 3 (x0.map Zh.c)),.t (tI x1),.t (tI x2),I x3],.agg [.t (.lst 3 (y0.map Zh.c)),.t (tI y1),.t (tI y2),I y3]] []=some (Bo (decide (x0=y0/\x1=y1/\x2=y2/\x3=y3)),[]):=by
 refine run ZLj rfl ?_;simp[Z6G,ZNb _ _ h0,ZMG _ _ _ _ h1 h2]
 repeat' split
 all_goals first|(simp_all;done)|grind
def ZNf(x0:List Zh)(x1 x2:V6)(x3 cc:Int) :C ZAM [.agg [.t (.lst 3 (x0.map Zh.c)),.t (tI x1),.t (tI x2),I x3],I cc] []=some (I (Region.sz ⟨⟨x0⟩,⟨x1,x2⟩,x3⟩ cc),[]):=by
 refine run ZKZ rfl ?_;simp[Z66,ZNc,ZMH,Region.sz,Z5,sz1]
 repeat' split
 all_goals first|(simp_all;done)|grind
def ZNg(x0:Int)(x1:List Ze)(x2:List Zh)(x3 x4:V6)(x5 x6 x7:Int)(h1:SmL Ze.small x1)(h2:SmA x2)(h3:SmA x3)(h4:SmA x4):C ZA3 [.agg [I x0,.t (.lst 2 (x1.map Ze.c)),.t (.lst 3 (x2.map Zh.c)),.t (tI x3),.t (tI x4),I x5,I x6,I x7]] []=some (.agg [I x0,.own 0,.own 1,.own 2,.own 3,I x5,I x6,I x7],[.arr ZnL 2 true (x1.map Ze.c),.arr ZjJ 3 true (x2.map Zh.c),.arr ZU 1 true (x3.map ic),.arr ZU 1 true (x4.map ic)]):=by
 refine run ZKJ rfl ?_;simp[Z6b,ZLW _ _ h1,ZNd _ _ _ _ h2 h3 h4]
def ZNh(x0:Int)(x1:List Ze)(x2:List Zh)(x3 x4:V6)(x5 x6 x7 y0:Int)(y1:List Ze)(y2:List Zh)(y3 y4:V6)(y5 y6 y7:Int)(h1:SmL Ze.small x1)(h2:SmA x2)(h3:SmA x3)(h4:SmA x4):C ZA9 [.agg [I x0,.t (.lst 2 (x1.map Ze.c)),.t (.lst 3 (x2.map Zh.c)),.t (tI x3),.t (tI x4),I x5,I x6,I x7],.agg [I y0,.t (.lst 2 (y1.map Ze.c)),.t (.lst 3 (y2.map Zh.c)),.t (tI y3),.t (tI y4),I y5,I y6,I y7]] []=some (Bo (decide (x0=y0/\x1=y1/\x2=y2/\x3=y3/\x4=y4/\x5=y5/\x6=y6/\x7=y7)),[]):=by
 refine run ZKM rfl ?_;simp[Z6e,ZLX _ _ _ _ h1,ZNe _ _ _ _ _ _ _ _ h2 h3 h4]
 repeat' split
 all_goals first|(simp_all;done)|grind
def ZNi(x0:Int)(x1:List Ze)(x2:List Zh)(x3 x4:V6)(x5 x6 x7 cc:Int)(h1:OkL Ze.okay x1):C ZAx [.agg [I x0,.t (.lst 2 (x1.map Ze.c)),.t (.lst 3 (x2.map Zh.c)),.t (tI x3),.t (tI x4),I x5,I x6,I x7],I cc] []=some (I (Zo.sz ⟨⟨x0,x1⟩,⟨⟨x2⟩,⟨x3,x4⟩,x5⟩,x6,x7⟩ cc),[]):=by
 refine run ZKG rfl ?_;simp[Z5Y,ZLY _ _ _ h1,ZNf,Zo.sz,Z5,sz1]
 repeat' split
 all_goals first|(simp_all;done)|grind
def ZNj:tbl 65=some (toM 128 8 128 123 [(.int .i64 0),(.lst 2 []),(.lst 3 []),(.lst 1 []),(.lst 1 []),(.int .i64 0),(.int .i64 0),(.int .i64 0)] (some 8)):=Zf Tryz.func65 (by kernel_rfl) (by kernel_rfl)
def ZNk(xs:List Zo)(h:SmL Zo.small xs):C Z9Z [L 8 (xs.map Zo.c)] []=some (.own 0,[.arr ZnI 8 true (xs.map Zo.c)]) :=
 toG (Cx:=C) ZNj rfl _ xs h.1 (by decide) λi hi h3 h4 fr=>by rw[Zn (toB.eq_1 _ _ _)];simp[hdB,toR,hi,h3,h4,ZNg _ _ _ _ _ _ _ _ (h.2 _ (Yc hi)).1 (h.2 _ (Yc hi)).2.1 (h.2 _ (Yc hi)).2.2.1 (h.2 _ (Yc hi)).2.2.2]
def ZNl:tbl 83=some (eqM 8 150 (some 8)):=Zf Tryz.func83 (by kernel_rfl) (by kernel_rfl)
def ZNm(xs ys:List Zo)(h:SmL Zo.small xs):C ZAf [L 8 (xs.map Zo.c),L 8 (ys.map Zo.c)] []=some (Bo (decide (xs=ys)),[]) :=
 eqG (Cx:=C) ZNl rfl _ xs ys h.1 (λ_=>rfl) (by decide) (λx hx y=>by simp[ldV,ZNh _ _ _ _ _ _ _ _ _ _ _ _ _ _ _ _ (h.2 x hx).1 (h.2 x hx).2.1 (h.2 x hx).2.2.1 (h.2 x hx).2.2.2,Zo.ext_iff,Zj.ext_iff,Region.ext_iff,Zg.ext_iff,Box.ext_iff,Bool.and_assoc])
def ZNn:tbl 47=some (szM 8 101 (some 8)):=Zf Tryz.func47 (by kernel_rfl) (by kernel_rfl)
def ZNo(xs:List Zo)(cc:Int)(h:OkL Zo.okay xs):C Z9T [L 8 (xs.map Zo.c),I cc] []=some (I (szL Zo.sz xs cc),[]) :=
 szG (Cx:=C) ZNn rfl _ _ xs cc h.1 (λ_=>rfl) (by decide) (λx hx l=>by simp[ldV,ZNi _ _ _ _ _ _ _ _ _ (h.2 x hx).2.1])
def ZNp(x0:Int)(x1:List Zo)(h1:SmL Zo.small x1):C Z9C [.agg [I x0,.t (.lst 8 (x1.map Zo.c))]] []=some (.agg [I x0,.own 0],[.arr ZnI 8 true (x1.map Zo.c)]):=by
 refine run ZKg rfl ?_;simp[Z5p,ZNk _ h1]
def ZNq(x0:Int)(x1:List Zo)(y0:Int)(y1:List Zo)(h1:SmL Zo.small x1):C Z9G [.agg [I x0,.t (.lst 8 (x1.map Zo.c))],.agg [I y0,.t (.lst 8 (y1.map Zo.c))]] []=some (Bo (decide (x0=y0/\x1=y1)),[]):=by
 refine run ZKk rfl ?_;simp[Z5u,ZNm _ _ h1]
 repeat' split
 all_goals first|(simp_all;done)|grind
def ZNr(x0:Int)(x1:List Zo)(cc:Int)(h1:OkL Zo.okay x1):C Z98 [.agg [I x0,.t (.lst 8 (x1.map Zo.c))],I cc] []=some (I (ZH.sz ⟨x0,x1⟩ cc),[]):=by
 refine run ZKc rfl ?_;simp[Z5l,ZNo _ _ h1,ZH.sz,Z5,sz1]
 repeat' split
 all_goals first|(simp_all;done)|grind
def ZNs(x0:List Zc)(x1:Int)(x2:List Zk)(x3:List Zp)(x4:List Zr)(x5 x6 x7 x8 x9:Int)(x10:List Zd)(cd cl cn co cp:Int)(x16:List Zd)(cu cv cy cz d:Int)(x22:List Zd)(dc dd dl dn dp:Int)(x28:List Zd)(du dv dy dz l:Int)(x34:List Zd)(lc:Int)(cc:List Zo)(ld ll ln lo:Int)(h0:SmL Zc.small x0)(h2:SmL Zk.small x2)(h3:SmL Zp.small x3)(h4:SmL Zr.small x4)(lp:SmA x10)(lu:SmA x16)(lv:SmA x22)(ly:SmA x28)(lz:SmA x34)(n:SmL Zo.small cc):C Z9z [.agg [.t (.lst 3 (x0.map Zc.c)),I x1,.t (.lst 4 (x2.map Zk.c)),.t (.lst 3 (x3.map Zp.c)),.t (.lst 4 (x4.map Zr.c)),I x5,I x6,I x7,I x8,I x9,.t (.lst 2 (x10.map Zd.c)),I cd,I cl,I cn,I co,I cp,.t (.lst 2 (x16.map Zd.c)),I cu,I cv,I cy,I cz,I d,.t (.lst 2 (x22.map Zd.c)),I dc,I dd,I dl,I dn,I dp,.t (.lst 2 (x28.map Zd.c)),I du,I dv,I dy,I dz,I l,.t (.lst 2 (x34.map Zd.c)),I lc,.t (.lst 8 (cc.map Zo.c)),I ld,I ll,I ln,I lo]] []=some (.agg [.own 0,I x1,.own 1,.own 2,.own 3,I x5,I x6,I x7,I x8,I x9,.own 4,I cd,I cl,I cn,I co,I cp,.own 5,I cu,I cv,I cy,I cz,I d,.own 6,I dc,I dd,I dl,I dn,I dp,.own 7,I du,I dv,I dy,I dz,I l,.own 8,I lc,.own 9,I ld,I ll,I ln,I lo],[.arr ZjH 3 true (x0.map Zc.c),.arr ZjI 4 true (x2.map Zk.c),.arr ZnJ 3 true (x3.map Zp.c),.arr ZnK 4 true (x4.map Zr.c),.arr Q3 2 true (x10.map Zd.c),.arr Q3 2 true (x16.map Zd.c),.arr Q3 2 true (x22.map Zd.c),.arr Q3 2 true (x28.map Zd.c),.arr Q3 2 true (x34.map Zd.c),.arr ZnI 8 true (cc.map Zo.c)]):=by
 refine run ZJT rfl ?_;simp[Z5c,ZMC _ _ _ _ _ h0 h2 h3 h4,ZMQ _ _ _ _ _ _ _ _ _ _ _ _ _ _ _ _ _ _ _ _ _ _ _ _ _ _ _ _ _ _ lp lu lv ly lz,ZNp _ _ n]
def Z7h(x0:List Zc)(x1:Int)(x2:List Zk)(x3:List Zp)(x4:List Zr)(x5 x6 x7 x8 x9:Int)(x10:List Zd)(cd cl cn co cp:Int)(x16:List Zd)(cu cv cy cz d:Int)(x22:List Zd)(dc dd dl dn dp:Int)(x28:List Zd)(du dv dy dz l:Int)(x34:List Zd)(lc:Int)(cc:List Zo)(oy oz p pc:Int)(y0:List Zc)(y1:Int)(y2:List Zk)(y3:List Zp)(y4:List Zr)(y5 y6 y7 y8 y9:Int)(ld:List Zd)(ll ln lo lp lu:Int)(lv:List Zd)(ly lz n nc nd:Int)(nl:List Zd)(nn np nu nv ny:Int)(nz:List Zd)(o oc od ol oo:Int)(op:List Zd)(ou:Int)(ov:List Zo)(pd pl pn po:Int)(h0:SmL Zc.small x0)(h2:SmL Zk.small x2)(h3:SmL Zp.small x3)(h4:SmL Zr.small x4)(pp:SmA x10)(pu:SmA x16)(pv:SmA x22)(py:SmA x28)(pz:SmA x34)(u:SmL Zo.small cc):C Z91 [.agg [.t (.lst 3 (x0.map Zc.c)),I x1,.t (.lst 4 (x2.map Zk.c)),.t (.lst 3 (x3.map Zp.c)),.t (.lst 4 (x4.map Zr.c)),I x5,I x6,I x7,I x8,I x9,.t (.lst 2 (x10.map Zd.c)),I cd,I cl,I cn,I co,I cp,.t (.lst 2 (x16.map Zd.c)),I cu,I cv,I cy,I cz,I d,.t (.lst 2 (x22.map Zd.c)),I dc,I dd,I dl,I dn,I dp,.t (.lst 2 (x28.map Zd.c)),I du,I dv,I dy,I dz,I l,.t (.lst 2 (x34.map Zd.c)),I lc,.t (.lst 8 (cc.map Zo.c)),I oy,I oz,I p,I pc],.agg [.t (.lst 3 (y0.map Zc.c)),I y1,.t (.lst 4 (y2.map Zk.c)),.t (.lst 3 (y3.map Zp.c)),.t (.lst 4 (y4.map Zr.c)),I y5,I y6,I y7,I y8,I y9,.t (.lst 2 (ld.map Zd.c)),I ll,I ln,I lo,I lp,I lu,.t (.lst 2 (lv.map Zd.c)),I ly,I lz,I n,I nc,I nd,.t (.lst 2 (nl.map Zd.c)),I nn,I np,I nu,I nv,I ny,.t (.lst 2 (nz.map Zd.c)),I o,I oc,I od,I ol,I oo,.t (.lst 2 (op.map Zd.c)),I ou,.t (.lst 8 (ov.map Zo.c)),I pd,I pl,I pn,I po]] []=some (Bo (decide (x0=y0/\x1=y1/\x2=y2/\x3=y3/\x4=y4/\x5=y5/\x6=y6/\x7=y7/\x8=y8/\x9=y9/\x10=ld/\cd=ll/\cl=ln/\cn=lo/\co=lp/\cp=lu/\x16=lv/\cu=ly/\cv=lz/\cy=n/\cz=nc/\d=nd/\x22=nl/\dc=nn/\dd=np/\dl=nu/\dn=nv/\dp=ny/\x28=nz/\du=o/\dv=oc/\dy=od/\dz=ol/\l=oo/\x34=op/\lc=ou/\cc=ov/\oy=pd/\oz=pl/\p=pn/\pc=po)),[]):=by
 refine run ZJV rfl ?_;have eS:=ZMD x0 x1 x2 x3 x4 y0 y1 y2 y3 y4 h0 h2 h3 h4;have eM:=ZMR x5 x6 x7 x8 x9 x10 cd cl cn co cp x16 cu cv cy cz d x22 dc dd dl dn dp x28 du dv dy dz l x34 y5 y6 y7 y8 y9 ld ll ln lo lp lu lv ly lz n nc nd nl nn np nu nv ny nz o oc od ol oo op pp pu pv py pz;have eC:=ZNq lc cc ou ov u;have e:decide (x0=y0/\x1=y1/\x2=y2/\x3=y3/\x4=y4/\x5=y5/\x6=y6/\x7=y7/\x8=y8/\x9=y9/\x10=ld/\cd=ll/\cl=ln/\cn=lo/\co=lp/\cp=lu/\x16=lv/\cu=ly/\cv=lz/\cy=n/\cz=nc/\d=nd/\x22=nl/\dc=nn/\dd=np/\dl=nu/\dn=nv/\dp=ny/\x28=nz/\du=o/\dv=oc/\dy=od/\dz=ol/\l=oo/\x34=op/\lc=ou/\cc=ov/\oy=pd/\oz=pl/\p=pn/\pc=po)=(decide (x0=y0/\x1=y1/\x2=y2/\x3=y3/\x4=y4) && (decide (x5=y5/\x6=y6/\x7=y7/\x8=y8/\x9=y9/\x10=ld/\cd=ll/\cl=ln/\cn=lo/\co=lp/\cp=lu/\x16=lv/\cu=ly/\cv=lz/\cy=n/\cz=nc/\d=nd/\x22=nl/\dc=nn/\dd=np/\dl=nu/\dn=nv/\dp=ny/\x28=nz/\du=o/\dv=oc/\dy=od/\dz=ol/\l=oo/\x34=op) && (decide (lc=ou/\cc=ov) && (decide (oy=pd) && (decide (oz=pl) && (decide (p=pn) && decide (pc=po))))))):=by
  simp only[Bool.decide_and,Bool.and_assoc]
 rw[e];clear e;generalize decide (x0=y0/\x1=y1/\x2=y2/\x3=y3/\x4=y4)=A at eS|-;generalize decide (x5=y5/\x6=y6/\x7=y7/\x8=y8/\x9=y9/\x10=ld/\cd=ll/\cl=ln/\cn=lo/\co=lp/\cp=lu/\x16=lv/\cu=ly/\cv=lz/\cy=n/\cz=nc/\d=nd/\x22=nl/\dc=nn/\dd=np/\dl=nu/\dn=nv/\dp=ny/\x28=nz/\du=o/\dv=oc/\dy=od/\dz=ol/\l=oo/\x34=op)=B at eM|-;generalize decide (lc=ou/\cc=ov)=D at eC|-;cases A<;>cases B<;>cases D<;>simp[Z5e,eS,eM,eC]
 all_goals (repeat' split)
 all_goals simp_all
def ZNt(x0:List Zc)(x1:Int)(x2:List Zk)(x3:List Zp)(x4:List Zr)(x5 x6 x7 x8 x9:Int)(cl:List Zd)(cn co cp cu cv:Int)(cy:List Zd)(cz d dc dd dl:Int)(dn:List Zd)(dp du dv dy dz:Int)(l:List Zd)(lc ld ll ln lo:Int)(lp:List Zd)(lu:Int)(cd:List Zo)(lv ly lz n cc:Int)(h0:OkL Zc.okay x0)(h2:OkL Zk.okay x2)(h3:OkL Zp.okay x3)(h4:OkL Zr.okay x4)(nc:OkL Zo.okay cd):C Z9x [.agg [.t (.lst 3 (x0.map Zc.c)),I x1,.t (.lst 4 (x2.map Zk.c)),.t (.lst 3 (x3.map Zp.c)),.t (.lst 4 (x4.map Zr.c)),I x5,I x6,I x7,I x8,I x9,.t (.lst 2 (cl.map Zd.c)),I cn,I co,I cp,I cu,I cv,.t (.lst 2 (cy.map Zd.c)),I cz,I d,I dc,I dd,I dl,.t (.lst 2 (dn.map Zd.c)),I dp,I du,I dv,I dy,I dz,.t (.lst 2 (l.map Zd.c)),I lc,I ld,I ll,I ln,I lo,.t (.lst 2 (lp.map Zd.c)),I lu,.t (.lst 8 (cd.map Zo.c)),I lv,I ly,I lz,I n],I cc] []=some (I (ZJ.sz ⟨⟨⟨x0⟩,⟨x1,x2⟩,x3,x4⟩,⟨⟨x5,x6,x7,x8,x9,cl⟩,⟨cn,co,cp,cu,cv,cy⟩,⟨cz,d,dc,dd,dl,dn⟩,⟨dp,du,dv,dy,dz,l⟩,⟨lc,ld,ll,ln,lo,lp⟩⟩,⟨lu,cd⟩,lv,ly,lz,n⟩ cc),[]):=by
 refine run ZJR rfl ?_;simp[Z5a,ZME _ _ _ _ _ _ h0 h2 h3 h4,ZMS,ZNr _ _ _ nc,ZJ.sz,Z5,sz1]
 repeat' split
 all_goals first|(simp_all;done)|grind
end
