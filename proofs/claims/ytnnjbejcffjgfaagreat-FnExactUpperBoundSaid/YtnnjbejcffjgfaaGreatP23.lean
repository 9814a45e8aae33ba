/-
  Parts of the proofs for this seat: K FA.
-/
import Derived.Test.YtnnjbejcffjgfaaGreatP5
import Derived.Test.YtnnjbejcffjgfaaGreatP7
set_option linter.unusedSimpArgs false
set_option linter.unusedVariables false
set_option maxRecDepth 100000
set_option maxHeartbeats 4000000
set_option cbv.maxSteps 9999999
namespace Go.Proofs.YtnnjbejcffjgfaaGreat
open Go.AM
noncomputable section
def Z1c:MFun:=mkF (rawF 3 Tryz.f3)
theorem Zcio:tbl 3=some Z1c:=Zb Tryz.func3
def Zbwj:MFun:=mkF (rawF 7 Tryz.f7)
theorem Zcip:tbl 7=some Zbwj:=Zb Tryz.func7
def Zbwk:MFun:=mkF (rawF 8 Tryz.f8)
theorem Zciq:tbl 8=some Zbwk:=Zb Tryz.func8
def Zbwl:MFun:=mkF (rawF 10 Tryz.f10)
theorem Zcir:tbl 10=some Zbwl:=Zb Tryz.func10
def Zbwm:MFun:=mkF (rawF 11 Tryz.f11)
theorem Zcis:tbl 11=some Zbwm:=Zb Tryz.func11
def Zbwn:MFun:=mkF (rawF 13 Tryz.f13)
theorem Zcit:tbl 13=some Zbwn:=Zb Tryz.func13
def Zbwo:MFun:=mkF (rawF 14 Tryz.f14)
theorem Zciu:tbl 14=some Zbwo:=Zb Tryz.func14
def Zbwp:RawF (rawF 19 Tryz.f19):={ m:=_ }
def Z1d:MCode:=cut0 Zbwp 15
def Zbch:MFun:=Zbt Zbwp 15 Z1d
theorem Zciv:tbl 19=some Zbch:=Zb Tryz.func19
def Zbwq:MFun:=mkF (rawF 29 Tryz.f29)
theorem Zciw:tbl 29=some Zbwq:=Zb Tryz.func29
def Zbwr:MFun:=mkF (rawF 30 Tryz.f30)
theorem Zcix:tbl 30=some Zbwr:=Zb Tryz.func30
def Zbws:RawF (rawF 31 Tryz.f31):={ m:=_ }
def Zlx:MCode:=cut0 Zbws 17
def Zbwt:MFun:=Zbt Zbws 17 Zlx
theorem Zciy:tbl 31=some Zbwt:=Zb Tryz.func31
def Zbwu:RawF (rawF 32 Tryz.f32):={ m:=_ }
def Zly:MCode:=cut0 Zbwu 17
def Zbwv:MFun:=Zbt Zbwu 17 Zly
theorem Zciz:tbl 32=some Zbwv:=Zb Tryz.func32
def Zbww:RawF (rawF 33 Tryz.f33):={ m:=_ }
def Zlz:MCode:=cut0 Zbww 17
def Zbwx:MFun:=Zbt Zbww 17 Zlz
theorem Zci0:tbl 33=some Zbwx:=Zb Tryz.func33
def Zbwy:MFun:=mkF (rawF 35 Tryz.f35)
theorem Zci1:tbl 35=some Zbwy:=Zb Tryz.func35
def Zbwz:MFun:=mkF (rawF 36 Tryz.f36)
theorem Zci2:tbl 36=some Zbwz:=Zb Tryz.func36
def Zbw0:RawF (rawF 37 Tryz.f37):={ m:=_ }
def Z1e:MCode:=cut0 Zbw0 9
def Zbw1:MFun:=Zbt Zbw0 9 Z1e
theorem Zci3:tbl 37=some Zbw1:=Zb Tryz.func37
def Zbw2:RawF (rawF 38 Tryz.f38):={ m:=_ }
def Z1f:MCode:=cut0 Zbw2 9
def Zbw3:MFun:=Zbt Zbw2 9 Z1f
theorem Zci4:tbl 38=some Zbw3:=Zb Tryz.func38
def Zbw4:RawF (rawF 39 Tryz.f39):={ m:=_ }
def Z1g:MCode:=cut0 Zbw4 9
def Zbw5:MFun:=Zbt Zbw4 9 Z1g
theorem Zci5:tbl 39=some Zbw5:=Zb Tryz.func39
def Zbw6:MFun:=mkF (rawF 42 Tryz.f42)
theorem Zci6:tbl 42=some Zbw6:=Zb Tryz.func42
def Zbw7:MFun:=mkF (rawF 43 Tryz.f43)
theorem Zci7:tbl 43=some Zbw7:=Zb Tryz.func43
def Zbw8:RawF (rawF 44 Tryz.f44):={ m:=_ }
def Z1h:MCode:=cut0 Zbw8 15
def Zbci:MFun:=Zbt Zbw8 15 Z1h
theorem Zci8:tbl 44=some Zbci:=Zb Tryz.func44
def Zbw9:RawF (rawF 45 Tryz.f45):={ m:=_ }
def Z1i:MCode:=cut0 Zbw9 15
def Zbcj:MFun:=Zbt Zbw9 15 Z1i
theorem Zci9:tbl 45=some Zbcj:=Zb Tryz.func45
def Zbxa:RawF (rawF 46 Tryz.f46):={ m:=_ }
def Z1j:MCode:=cut0 Zbxa 15
def Zbck:MFun:=Zbt Zbxa 15 Z1j
theorem Zcja:tbl 46=some Zbck:=Zb Tryz.func46
def Zbxb:RawF (rawF 62 Tryz.f62):={ m:=_ }
def Zl0:MCode:=cut0 Zbxb 17
def Zbxc:MFun:=Zbt Zbxb 17 Zl0
theorem Zcjb:tbl 62=some Zbxc:=Zb Tryz.func62
def Zbxd:RawF (rawF 63 Tryz.f63):={ m:=_ }
def Zl1:MCode:=cut0 Zbxd 17
def Zbxe:MFun:=Zbt Zbxd 17 Zl1
theorem Zcjc:tbl 63=some Zbxe:=Zb Tryz.func63
def Zbxf:MFun:=mkF (rawF 64 Tryz.f64)
theorem Zcjd:tbl 64=some Zbxf:=Zb Tryz.func64
def Zbxg:MFun:=mkF (rawF 65 Tryz.f65)
theorem Zcje:tbl 65=some Zbxg:=Zb Tryz.func65
def Zbxh:MFun:=mkF (rawF 66 Tryz.f66)
theorem Zcjf:tbl 66=some Zbxh:=Zb Tryz.func66
def Zbxi:RawF (rawF 72 Tryz.f72):={ m:=_ }
def Z1k:MCode:=cut0 Zbxi 9
def Zbxj:MFun:=Zbt Zbxi 9 Z1k
theorem Zcjg:tbl 72=some Zbxj:=Zb Tryz.func72
def Zbxk:RawF (rawF 73 Tryz.f73):={ m:=_ }
def Z1l:MCode:=cut0 Zbxk 9
def Zbxl:MFun:=Zbt Zbxk 9 Z1l
theorem Zcjh:tbl 73=some Zbxl:=Zb Tryz.func73
def Zbxm:MFun:=mkF (rawF 74 Tryz.f74)
theorem Zcji:tbl 74=some Zbxm:=Zb Tryz.func74
def Zbxn:MFun:=mkF (rawF 75 Tryz.f75)
theorem Zcjj:tbl 75=some Zbxn:=Zb Tryz.func75
def Zbxo:MFun:=mkF (rawF 76 Tryz.f76)
theorem Zcjk:tbl 76=some Zbxo:=Zb Tryz.func76
def Zbxp:RawF (rawF 81 Tryz.f81):={ m:=_ }
def Z1m:MCode:=cut0 Zbxp 15
def Zbcl:MFun:=Zbt Zbxp 15 Z1m
theorem Zcjl:tbl 81=some Zbcl:=Zb Tryz.func81
def Zbxq:RawF (rawF 82 Tryz.f82):={ m:=_ }
def Z1n:MCode:=cut0 Zbxq 15
def Zbcm:MFun:=Zbt Zbxq 15 Z1n
theorem Zcjm:tbl 82=some Zbcm:=Zb Tryz.func82
def Zbxr:MFun:=mkF (rawF 83 Tryz.f83)
theorem Zcjn:tbl 83=some Zbxr:=Zb Tryz.func83
def Zbxs:MFun:=mkF (rawF 84 Tryz.f84)
theorem Zcjo:tbl 84=some Zbxs:=Zb Tryz.func84
def Zbxt:MFun:=mkF (rawF 85 Tryz.f85)
theorem Zcjp:tbl 85=some Zbxt:=Zb Tryz.func85
def Zbxu:MFun:=mkF (rawF 102 Tryz.f102)
theorem Zcjq:tbl 102=some Zbxu:=Zb Tryz.func102
def Zbxv:MFun:=mkF (rawF 103 Tryz.f103)
theorem Zcjr:tbl 103=some Zbxv:=Zb Tryz.func103
def Zbxw:MFun:=mkF (rawF 104 Tryz.f104)
theorem Zcjs:tbl 104=some Zbxw:=Zb Tryz.func104
def Zbxx:MFun:=mkF (rawF 113 Tryz.f113)
theorem Zcjt:tbl 113=some Zbxx:=Zb Tryz.func113
def Zbxy:MFun:=mkF (rawF 114 Tryz.f114)
theorem Zcju:tbl 114=some Zbxy:=Zb Tryz.func114
def Zbxz:RawF (rawF 115 Tryz.f115):={ m:=_ }
def Z1o:MCode:=cut0 Zbxz 9
def Zbx0:MFun:=Zbt Zbxz 9 Z1o
theorem Zcjv:tbl 115=some Zbx0:=Zb Tryz.func115
def Zbx1:MFun:=mkF (rawF 125 Tryz.f125)
theorem Zcjw:tbl 125=some Zbx1:=Zb Tryz.func125
def Zbx2:MFun:=mkF (rawF 126 Tryz.f126)
theorem Zcjx:tbl 126=some Zbx2:=Zb Tryz.func126
def Zbx3:RawF (rawF 144 Tryz.f144):={ m:=_ }
def Zl2:MCode:=cut0 Zbx3 17
def Zbx4:MFun:=Zbt Zbx3 17 Zl2
theorem Zcjy:tbl 144=some Zbx4:=Zb Tryz.func144
def Zbx5:RawF (rawF 145 Tryz.f145):={ m:=_ }
def Zl3:MCode:=cut0 Zbx5 17
def Zbx6:MFun:=Zbt Zbx5 17 Zl3
theorem Zcjz:tbl 145=some Zbx6:=Zb Tryz.func145
def Zbx7:RawF (rawF 158 Tryz.f158):={ m:=_ }
def Z1p:MCode:=cut0 Zbx7 9
def Zbx8:MFun:=Zbt Zbx7 9 Z1p
theorem Zcj0:tbl 158=some Zbx8:=Zb Tryz.func158
def Zbx9:RawF (rawF 159 Tryz.f159):={ m:=_ }
def Z1q:MCode:=cut0 Zbx9 9
def Zbya:MFun:=Zbt Zbx9 9 Z1q
theorem Zcj1:tbl 159=some Zbya:=Zb Tryz.func159
def Zbyb:RawF (rawF 177 Tryz.f177):={ m:=_ }
def Z1r:MCode:=cut0 Zbyb 15
def Zbcn:MFun:=Zbt Zbyb 15 Z1r
theorem Zcj2:tbl 177=some Zbcn:=Zb Tryz.func177
def Zbyc:RawF (rawF 178 Tryz.f178):={ m:=_ }
def Z1s:MCode:=cut0 Zbyc 15
def Zbco:MFun:=Zbt Zbyc 15 Z1s
theorem Zcj3:tbl 178=some Zbco:=Zb Tryz.func178
def Zbyd:MFun:=mkF (rawF 193 Tryz.f193)
theorem Zcj4:tbl 193=some Zbyd:=Zb Tryz.func193
def Zbye:MFun:=mkF (rawF 202 Tryz.f202)
theorem Zcj5:tbl 202=some Zbye:=Zb Tryz.func202
def Zbyf:MFun:=mkF (rawF 222 Tryz.f222)
theorem Zcj6:tbl 222=some Zbyf:=Zb Tryz.func222
theorem l_toIntS(xs:List Int)(h:SmA xs)(fr:List Fr):∀i,i<=xs.length->EvL C fr [0,3,4] Z1o ⟨[(0,L 1 (xs.map ic)),(3,.own 0),(4,I i)],[[]],[.arr Zbv 1 true (fill ic [.int .i64 0] xs i)]⟩ =
  EvX C fr (.x 0) ⟨[(0,L 1 (xs.map ic)),(3,.own 0),(4,I xs.length),(11,Bo false)],[[]],[.arr Zbv 1 true (xs.map ic)]⟩:=by
 have hl:xs.length<=4294967296:=h;refine down xs.length ?_ ?_
 .rw[Ze Z1o.eq_1];simp[Zil]
 .intro i hi ih;rw[Ze Z1o.eq_1,<-ih];have h1:=Zin (f:=ic) (z:=[.int .i64 0]) hi;have h3:=Zim (f:=ic) (z:=[.int .i64 0]) (Yb6 hi);have h4:IntKind.wrap .i64 ((i:Int)+1)=(i:Int)+1:=Z8 (by omega) (by omega);simp at h1;simp[hi,h3,h4,h1]
theorem Zvf(xs:List Int)(h:SmA xs):C Zb17 [L 1 (xs.map ic)] []=some (.own 0,[.arr Zbv 1 true (xs.map ic)]):=by
 refine run Zcjv rfl ?_;have hl:xs.length<=4294967296:=h;have h1:∀b,b<=4096->xs.length*b<=room:=λb hb=>Y0 (Ybz hl hb) (by decide)
 have h2:(xs.length:Int)<=140737488355328:=by omega
 have h3:=λfr=>l_toIntS xs h fr 0 (Ya _)
 simp[Zik]at h3;simp[Zbx0,h1,h2,h3]
theorem l_eqIntS(xs ys:List Int)(h:SmA xs)(hl:ys.length=xs.length)(fr:List Fr):∀i,i<=xs.length->EvL C fr [0,1,5] Z1d ⟨[(0,L 1 (xs.map ic)),(1,L 1 (ys.map ic)),(5,I i)],[[]],[]⟩ =
  if xs.drop i=ys.drop i then EvX C fr (.x 0) ⟨[(0,L 1 (xs.map ic)),(1,L 1 (ys.map ic)),(5,I xs.length),(14,Bo false)],[[]],[]⟩else EvX C fr .r ⟨[(4,Bo false)],[[]],[]⟩:=by
 have hm:xs.length<=4294967296:=h;refine down xs.length ?_ ?_
 .rw[Ze Z1d.eq_1];simp[hl,Ybe]
 .intro i hi ih;have hi2:i<ys.length:=by omega
  have h4:IntKind.wrap .i64 ((i:Int)+1)=(i:Int)+1:=Z8 (by omega) (by omega);rw[Ze Z1d.eq_1];simp +decide[hi,hi2,h4];simp at ih;simp only[Zio hi hi2,ih];split<;>first|(simp_all;done)|grind
theorem Zvg(xs ys:List Int)(h:SmA xs):C Zb07 [L 1 (xs.map ic),L 1 (ys.map ic)] []=some (Bo (decide (xs=ys)),[]):=by
 refine run Zciv rfl ?_;by_cases hl:ys.length=xs.length
 .have h3:=λfr=>l_eqIntS xs ys h hl fr 0 (Ya _)
  simp at h3;simp[Zbch,h3,hl];split<;>simp_all
 .have h1:xs≠ys:=λh=>hl (by rw[h])
  have h2:¬((xs.length:Int)=ys.length):=by omega
  simp[Zbch,h1,h2]
@[simp] theorem Z1t(es:List (List T))(c:Int):C Zb14 [L 1 es,I c] []=some (I (sz1 es.length c),[]):=by
 refine run Zcjs rfl ?_;simp[Zbxw,sz1];split<;>simp_all
theorem Zcj7(xs:List (List Int))(h:SmL SmA xs)(fr:List Fr):∀i,i<=xs.length->EvL C fr [0,3,4] Z1p ⟨[(0,L 1 (xs.map isc)),(3,.own 0),(4,I i)],[[]],[.arr Zqc 1 true (fill isc [.lst 1 []] xs i)]⟩ =
  EvX C fr (.x 0) ⟨[(0,L 1 (xs.map isc)),(3,.own 0),(4,I xs.length),(11,Bo false)],[[]],[.arr Zqc 1 true (xs.map isc)]⟩:=by
 have hl:xs.length<=4294967296:=h.1;refine down xs.length ?_ ?_
 .rw[Ze Z1p.eq_1];simp[Zil]
 .intro i hi ih;rw[Ze Z1p.eq_1,<-ih];have h1:=Zin (f:=isc) (z:=[.lst 1 []]) hi;have h3:=Zim (f:=isc) (z:=[.lst 1 []]) (Yb6 hi);have h4:IntKind.wrap .i64 ((i:Int)+1)=(i:Int)+1:=Z8 (by omega) (by omega);simp at h1;simp[hi,Zvf _ (h.2 _ (Yb hi)),h3,h4,h1]
theorem Zbyg(xs:List (List Int))(h:SmL SmA xs):C Zb2c [L 1 (xs.map isc)] []=some (.own 0,[.arr Zqc 1 true (xs.map isc)]):=by
 refine run Zcj0 rfl ?_;have hl:xs.length<=4294967296:=h.1;have h1:∀b,b<=4096->xs.length*b<=room:=λb hb=>Y0 (Ybz hl hb) (by decide)
 have h2:(xs.length:Int)<=140737488355328:=by omega
 have h3:=λfr=>Zcj7 xs h fr 0 (Ya _)
 simp[Zik]at h3;simp[Zbx8,h1,h2,h3]
theorem Zcj8(xs ys:List (List Int))(h:SmL SmA xs)(hl:ys.length=xs.length)(fr:List Fr):∀i,i<=xs.length->EvL C fr [0,1,5] Z1r ⟨[(0,L 1 (xs.map isc)),(1,L 1 (ys.map isc)),(5,I i)],[[]],[]⟩ =
  if xs.drop i=ys.drop i then EvX C fr (.x 0) ⟨[(0,L 1 (xs.map isc)),(1,L 1 (ys.map isc)),(5,I xs.length),(14,Bo false)],[[]],[]⟩else EvX C fr .r ⟨[(4,Bo false)],[[]],[]⟩:=by
 have hm:xs.length<=4294967296:=h.1;refine down xs.length ?_ ?_
 .rw[Ze Z1r.eq_1];simp[hl,Ybe]
 .intro i hi ih;have hi2:i<ys.length:=by omega
  have h4:IntKind.wrap .i64 ((i:Int)+1)=(i:Int)+1:=Z8 (by omega) (by omega);rw[Ze Z1r.eq_1];simp +decide[hi,hi2,Zvg _ _ (h.2 _ (Yb hi)),h4];simp at ih;simp only[Zio hi hi2,ih];split<;>first|(simp_all;done)|grind
theorem Zbyh(xs ys:List (List Int))(h:SmL SmA xs):C Zb2e [L 1 (xs.map isc),L 1 (ys.map isc)] []=some (Bo (decide (xs=ys)),[]):=by
 refine run Zcj2 rfl ?_;by_cases hl:ys.length=xs.length
 .have h3:=λfr=>Zcj8 xs ys h hl fr 0 (Ya _)
  simp at h3;simp[Zbcn,h3,hl];split<;>simp_all
 .have h1:xs≠ys:=λh=>hl (by rw[h])
  have h2:¬((xs.length:Int)=ys.length):=by omega
  simp[Zbcn,h1,h2]
theorem Zcj9(xs:List (List Int))(h:OkL (OkL OkI) xs)(fr:List Fr):∀i,i<=xs.length->∀left:Int,
  (EvL C fr [0,1,5] Zl2 ⟨[(0,L 1 (xs.map isc)),(1,I left),(5,I i)],[[]],[]⟩=EvX C fr .r ⟨[(4,I (-1))],[[]],[]⟩/\Zbj szI (xs.drop i) left=-1)\/
  EvL C fr [0,1,5] Zl2 ⟨[(0,L 1 (xs.map isc)),(1,I left),(5,I i)],[[]],[]⟩=EvX C fr (.x 0) ⟨[(0,L 1 (xs.map isc)),(1,I (Zbj szI (xs.drop i) left)),(5,I xs.length),(15,Bo false)],[[]],[]⟩:=by
 have hm:maxLen<=9223372036854775807:=by decide
 have hl:=h.1;refine down xs.length ?_ ?_
 .intro left;right;rw[Ze Zl2.eq_1];simp[Ybe,Zbj]
 .intro i hi ih left;have h4:IntKind.wrap .i64 ((i:Int)+1)=(i:Int)+1:=Z8 (by omega) (by omega);have e:EvL C fr [0,1,5] Zl2 ⟨[(0,L 1 (xs.map isc)),(1,I left),(5,I i)],[[]],[]⟩=if szI xs[i] left<0 then EvX C fr .r ⟨[(4,I (-1))],[[]],[]⟩else EvL C fr [0,1,5] Zl2 ⟨[(0,L 1 (xs.map isc)),(1,I (szI xs[i] left)),(5,I ((i+1:Nat):Int))],[[]],[]⟩:=by
   rw[Ze Zl2.eq_1];simp[hi,Z1t,h4]
  rw[e,Yc hi,Zbj];split
  .exact .inl ⟨rfl,rfl⟩
  .exact ih _
theorem Zbyi(xs:List (List Int))(c:Int)(h:OkL (OkL OkI) xs):C Zb2a [L 1 (xs.map isc),I c] []=some (I (szL szI xs c),[]):=by
 refine run Zcjy rfl ?_;have h3:=λfr l=>Zcj9 xs h fr 0 (Ya _) l
 simp at h3;simp[Zbx4,szL,Z2,sz1];split
 .simp_all
 .rcases h3 [.blk 0,.seq _,.fin _ _] (IntKind.wrap .i64 (c-xs.length))with⟨h5,h6⟩|h5
  .rw[h5];simp[h6]
  .rw[h5];simp
theorem Zcka(x0:ByteArray)(x1:Int)(x2:List (List Int))(h2:SmL SmA x2):C Zb15 [.agg [.t (.str x0),I x1,.t (tII x2)]] []=some (.agg [.t (.str x0),I x1,.own 0],[.arr Zqc 1 true (x2.map isc)]):=by
 refine run Zcjt rfl ?_;simp[Zbxx,Zbyg _ h2]
theorem Zckb(x0:ByteArray)(x1:Int)(x2:List (List Int))(y0:ByteArray)(y1:Int)(y2:List (List Int))(h2:SmL SmA x2):C Zb18 [.agg [.t (.str x0),I x1,.t (tII x2)],.agg [.t (.str y0),I y1,.t (tII y2)]] []=some (Bo (decide (x0=y0/\x1=y1/\x2=y2)),[]):=by
 refine run Zcjw rfl ?_;simp[Zbx1,Zbyh _ _ h2]
 repeat' split
 all_goals first|(simp_all;done)|grind
theorem Zckc(x0:ByteArray)(x1:Int)(x2:List (List Int))(c:Int)(h2:OkL (OkL OkI) x2):C Zb12 [.agg [.t (.str x0),I x1,.t (tII x2)],I c] []=some (I (Zc.sz ⟨x0,x1,x2⟩ c),[]):=by
 refine run Zcjq rfl ?_;simp[Zbxu,Zbyi _ _ h2,Zc.sz,Z2,sz1]
 repeat' split
 all_goals first|(simp_all;done)|grind
theorem Zckd(xs:List Zc)(h:SmL Zc.Zr xs)(fr:List Fr):∀i,i<=xs.length->EvL C fr [0,3,4] Z1k ⟨[(0,L 3 (xs.map Zc.c)),(3,.own 0),(4,I i)],[[]],[.arr Zqe 3 true (fill Zc.c [.str ⟨#[]⟩,.int .i64 0,.lst 1 []] xs i)]⟩ =
  EvX C fr (.x 0) ⟨[(0,L 3 (xs.map Zc.c)),(3,.own 0),(4,I xs.length),(11,Bo false)],[[]],[.arr Zqe 3 true (xs.map Zc.c)]⟩:=by
 have hl:xs.length<=4294967296:=h.1;refine down xs.length ?_ ?_
 .rw[Ze Z1k.eq_1];simp[Zil]
 .intro i hi ih;rw[Ze Z1k.eq_1,<-ih];have h1:=Zin (f:=Zc.c) (z:=[.str ⟨#[]⟩,.int .i64 0,.lst 1 []]) hi;have h3:=Zim (f:=Zc.c) (z:=[.str ⟨#[]⟩,.int .i64 0,.lst 1 []]) (Yb6 hi);have h4:IntKind.wrap .i64 ((i:Int)+1)=(i:Int)+1:=Z8 (by omega) (by omega);simp at h1;simp[hi,Zcka _ _ _ (h.2 _ (Yb hi)).2,h3,h4,h1]
theorem Zcke(xs:List Zc)(h:SmL Zc.Zr xs):C Zb1s [L 3 (xs.map Zc.c)] []=some (.own 0,[.arr Zqe 3 true (xs.map Zc.c)]):=by
 refine run Zcjg rfl ?_;have hl:xs.length<=4294967296:=h.1;have h1:∀b,b<=4096->xs.length*b<=room:=λb hb=>Y0 (Ybz hl hb) (by decide)
 have h2:(xs.length:Int)<=140737488355328:=by omega
 have h3:=λfr=>Zckd xs h fr 0 (Ya _)
 simp[Zik]at h3;simp[Zbxj,h1,h2,h3]
theorem Zckf(xs ys:List Zc)(h:SmL Zc.Zr xs)(hl:ys.length=xs.length)(fr:List Fr):∀i,i<=xs.length->EvL C fr [0,1,5] Z1m ⟨[(0,L 3 (xs.map Zc.c)),(1,L 3 (ys.map Zc.c)),(5,I i)],[[]],[]⟩ =
  if xs.drop i=ys.drop i then EvX C fr (.x 0) ⟨[(0,L 3 (xs.map Zc.c)),(1,L 3 (ys.map Zc.c)),(5,I xs.length),(14,Bo false)],[[]],[]⟩else EvX C fr .r ⟨[(4,Bo false)],[[]],[]⟩:=by
 have hm:xs.length<=4294967296:=h.1;refine down xs.length ?_ ?_
 .rw[Ze Z1m.eq_1];simp[hl,Ybe]
 .intro i hi ih;have hi2:i<ys.length:=by omega
  have h4:IntKind.wrap .i64 ((i:Int)+1)=(i:Int)+1:=Z8 (by omega) (by omega);rw[Ze Z1m.eq_1];simp +decide[hi,hi2,Zckb _ _ _ _ _ _ (h.2 _ (Yb hi)).2,h4];simp at ih;simp only[Zio hi hi2,ih,Zc.ext_iff];split<;>first|(simp_all;done)|grind
theorem Zckg(xs ys:List Zc)(h:SmL Zc.Zr xs):C Zb1x [L 3 (xs.map Zc.c),L 3 (ys.map Zc.c)] []=some (Bo (decide (xs=ys)),[]):=by
 refine run Zcjl rfl ?_;by_cases hl:ys.length=xs.length
 .have h3:=λfr=>Zckf xs ys h hl fr 0 (Ya _)
  simp at h3;simp[Zbcl,h3,hl];split<;>simp_all
 .have h1:xs≠ys:=λh=>hl (by rw[h])
  have h2:¬((xs.length:Int)=ys.length):=by omega
  simp[Zbcl,h1,h2]
theorem Zckh(xs:List Zc)(h:OkL Zc.okay xs)(fr:List Fr):∀i,i<=xs.length->∀left:Int,
  (EvL C fr [0,1,5] Zl0 ⟨[(0,L 3 (xs.map Zc.c)),(1,I left),(5,I i)],[[]],[]⟩=EvX C fr .r ⟨[(4,I (-1))],[[]],[]⟩/\Zbj Zc.sz (xs.drop i) left=-1)\/
  EvL C fr [0,1,5] Zl0 ⟨[(0,L 3 (xs.map Zc.c)),(1,I left),(5,I i)],[[]],[]⟩=EvX C fr (.x 0) ⟨[(0,L 3 (xs.map Zc.c)),(1,I (Zbj Zc.sz (xs.drop i) left)),(5,I xs.length),(15,Bo false)],[[]],[]⟩:=by
 have hm:maxLen<=9223372036854775807:=by decide
 have hl:=h.1;refine down xs.length ?_ ?_
 .intro left;right;rw[Ze Zl0.eq_1];simp[Ybe,Zbj]
 .intro i hi ih left;have h4:IntKind.wrap .i64 ((i:Int)+1)=(i:Int)+1:=Z8 (by omega) (by omega);have e:EvL C fr [0,1,5] Zl0 ⟨[(0,L 3 (xs.map Zc.c)),(1,I left),(5,I i)],[[]],[]⟩=if Zc.sz xs[i] left<0 then EvX C fr .r ⟨[(4,I (-1))],[[]],[]⟩else EvL C fr [0,1,5] Zl0 ⟨[(0,L 3 (xs.map Zc.c)),(1,I (Zc.sz xs[i] left)),(5,I ((i+1:Nat):Int))],[[]],[]⟩:=by
   rw[Ze Zl0.eq_1];simp[hi,Zckc _ _ _ _ (h.2 _ (Yb hi)).2.2,h4]
  rw[e,Yc hi,Zbj];split
  .exact .inl ⟨rfl,rfl⟩
  .exact ih _
theorem Zcki(xs:List Zc)(cc:Int)(h:OkL Zc.okay xs):C Zb1n [L 3 (xs.map Zc.c),I cc] []=some (I (szL Zc.sz xs cc),[]):=by
 refine run Zcjb rfl ?_;have h3:=λfr l=>Zckh xs h fr 0 (Ya _) l
 simp at h3;simp[Zbxc,szL,Z2,sz1];split
 .simp_all
 .rcases h3 [.blk 0,.seq _,.fin _ _] (IntKind.wrap .i64 (cc-xs.length))with⟨h5,h6⟩|h5
  .rw[h5];simp[h6]
  .rw[h5];simp
theorem Zckj(x0:List Zc)(h0:SmL Zc.Zr x0):C Zb1d [.agg [.t (.lst 3 (x0.map Zc.c))]] []=some (.agg [.own 0],[.arr Zqe 3 true (x0.map Zc.c)]):=by
 refine run Zci1 rfl ?_;simp[Zbwy,Zcke _ h0]
theorem Zckk(x0 y0:List Zc)(h0:SmL Zc.Zr x0):C Zb1i [.agg [.t (.lst 3 (x0.map Zc.c))],.agg [.t (.lst 3 (y0.map Zc.c))]] []=some (Bo (decide (x0=y0)),[]):=by
 refine run Zci6 rfl ?_;simp[Zbw6,Zckg _ _ h0]
 repeat' split
 all_goals first|(simp_all;done)|grind
theorem Zckl(x0:List Zc)(cc:Int)(h0:OkL Zc.okay x0):C Zb08 [.agg [.t (.lst 3 (x0.map Zc.c))],I cc] []=some (I (Zh.sz ⟨x0⟩ cc),[]):=by
 refine run Zciw rfl ?_;simp[Zbwq,Zcki _ _ h0,Zh.sz,Z2,sz1]
 repeat' split
 all_goals first|(simp_all;done)|grind
theorem c_toAtom(x0:ByteArray)(x1:List Int)(h1:SmA x1):C Zb1w [.agg [.t (.str x0),.t (tI x1)]] []=some (.agg [.t (.str x0),.own 0],[.arr Zbv 1 true (x1.map ic)]):=by
 refine run Zcjk rfl ?_;simp[Zbxo,Zvf _ h1]
theorem c_eqAtom(x0:ByteArray)(x1:List Int)(y0:ByteArray)(y1:List Int)(h1:SmA x1):C Zb11 [.agg [.t (.str x0),.t (tI x1)],.agg [.t (.str y0),.t (tI y1)]] []=some (Bo (decide (x0=y0/\x1=y1)),[]):=by
 refine run Zcjp rfl ?_;simp[Zbxt,Zvg _ _ h1]
 repeat' split
 all_goals first|(simp_all;done)|grind
theorem c_szAtom(x0:ByteArray)(x1:List Int)(c:Int) :C Zb1r [.agg [.t (.str x0),.t (tI x1)],I c] []=some (I (Atom.sz ⟨x0,x1⟩ c),[]):=by
 refine run Zcjf rfl ?_;simp[Zbxh,Z1t,Atom.sz,Z2,sz1]
 repeat' split
 all_goals first|(simp_all;done)|grind
theorem Zckm(xs:List Atom)(h:SmL Atom.Zr xs)(fr:List Fr):∀i,i<=xs.length->EvL C fr [0,3,4] Z1g ⟨[(0,L 2 (xs.map Atom.c)),(3,.own 0),(4,I i)],[[]],[.arr Zwk 2 true (fill Atom.c [.str ⟨#[]⟩,.lst 1 []] xs i)]⟩ =
  EvX C fr (.x 0) ⟨[(0,L 2 (xs.map Atom.c)),(3,.own 0),(4,I xs.length),(11,Bo false)],[[]],[.arr Zwk 2 true (xs.map Atom.c)]⟩:=by
 have hl:xs.length<=4294967296:=h.1;refine down xs.length ?_ ?_
 .rw[Ze Z1g.eq_1];simp[Zil]
 .intro i hi ih;rw[Ze Z1g.eq_1,<-ih];have h1:=Zin (f:=Atom.c) (z:=[.str ⟨#[]⟩,.lst 1 []]) hi;have h3:=Zim (f:=Atom.c) (z:=[.str ⟨#[]⟩,.lst 1 []]) (Yb6 hi);have h4:IntKind.wrap .i64 ((i:Int)+1)=(i:Int)+1:=Z8 (by omega) (by omega);simp at h1;simp[hi,c_toAtom _ _ (h.2 _ (Yb hi)).2,h3,h4,h1]
theorem Zckn(xs:List Atom)(h:SmL Atom.Zr xs):C Zb1h [L 2 (xs.map Atom.c)] []=some (.own 0,[.arr Zwk 2 true (xs.map Atom.c)]):=by
 refine run Zci5 rfl ?_;have hl:xs.length<=4294967296:=h.1;have h1:∀b,b<=4096->xs.length*b<=room:=λb hb=>Y0 (Ybz hl hb) (by decide)
 have h2:(xs.length:Int)<=140737488355328:=by omega
 have h3:=λfr=>Zckm xs h fr 0 (Ya _)
 simp[Zik]at h3;simp[Zbw5,h1,h2,h3]
theorem Zcko(xs ys:List Atom)(h:SmL Atom.Zr xs)(hl:ys.length=xs.length)(fr:List Fr):∀i,i<=xs.length->EvL C fr [0,1,5] Z1j ⟨[(0,L 2 (xs.map Atom.c)),(1,L 2 (ys.map Atom.c)),(5,I i)],[[]],[]⟩ =
  if xs.drop i=ys.drop i then EvX C fr (.x 0) ⟨[(0,L 2 (xs.map Atom.c)),(1,L 2 (ys.map Atom.c)),(5,I xs.length),(14,Bo false)],[[]],[]⟩else EvX C fr .r ⟨[(4,Bo false)],[[]],[]⟩:=by
 have hm:xs.length<=4294967296:=h.1;refine down xs.length ?_ ?_
 .rw[Ze Z1j.eq_1];simp[hl,Ybe]
 .intro i hi ih;have hi2:i<ys.length:=by omega
  have h4:IntKind.wrap .i64 ((i:Int)+1)=(i:Int)+1:=Z8 (by omega) (by omega);rw[Ze Z1j.eq_1];simp +decide[hi,hi2,c_eqAtom _ _ _ _ (h.2 _ (Yb hi)).2,h4];simp at ih;simp only[Zio hi hi2,ih,Atom.ext_iff];split<;>first|(simp_all;done)|grind
theorem Zckp(xs ys:List Atom)(h:SmL Atom.Zr xs):C Zb1m [L 2 (xs.map Atom.c),L 2 (ys.map Atom.c)] []=some (Bo (decide (xs=ys)),[]):=by
 refine run Zcja rfl ?_;by_cases hl:ys.length=xs.length
 .have h3:=λfr=>Zcko xs ys h hl fr 0 (Ya _)
  simp at h3;simp[Zbck,h3,hl];split<;>simp_all
 .have h1:xs≠ys:=λh=>hl (by rw[h])
  have h2:¬((xs.length:Int)=ys.length):=by omega
  simp[Zbck,h1,h2]
theorem Zckq(xs:List Atom)(h:OkL Atom.okay xs)(fr:List Fr):∀i,i<=xs.length->∀left:Int,
  (EvL C fr [0,1,5] Zlz ⟨[(0,L 2 (xs.map Atom.c)),(1,I left),(5,I i)],[[]],[]⟩=EvX C fr .r ⟨[(4,I (-1))],[[]],[]⟩/\Zbj Atom.sz (xs.drop i) left=-1)\/
  EvL C fr [0,1,5] Zlz ⟨[(0,L 2 (xs.map Atom.c)),(1,I left),(5,I i)],[[]],[]⟩=EvX C fr (.x 0) ⟨[(0,L 2 (xs.map Atom.c)),(1,I (Zbj Atom.sz (xs.drop i) left)),(5,I xs.length),(15,Bo false)],[[]],[]⟩:=by
 have hm:maxLen<=9223372036854775807:=by decide
 have hl:=h.1;refine down xs.length ?_ ?_
 .intro left;right;rw[Ze Zlz.eq_1];simp[Ybe,Zbj]
 .intro i hi ih left;have h4:IntKind.wrap .i64 ((i:Int)+1)=(i:Int)+1:=Z8 (by omega) (by omega);have e:EvL C fr [0,1,5] Zlz ⟨[(0,L 2 (xs.map Atom.c)),(1,I left),(5,I i)],[[]],[]⟩=if Atom.sz xs[i] left<0 then EvX C fr .r ⟨[(4,I (-1))],[[]],[]⟩else EvL C fr [0,1,5] Zlz ⟨[(0,L 2 (xs.map Atom.c)),(1,I (Atom.sz xs[i] left)),(5,I ((i+1:Nat):Int))],[[]],[]⟩:=by
   rw[Ze Zlz.eq_1];simp[hi,c_szAtom,h4]
  rw[e,Yc hi,Zbj];split
  .exact .inl ⟨rfl,rfl⟩
  .exact ih _
theorem Zckr(xs:List Atom)(cc:Int)(h:OkL Atom.okay xs):C Zb1c [L 2 (xs.map Atom.c),I cc] []=some (I (szL Atom.sz xs cc),[]):=by
 refine run Zci0 rfl ?_;have h3:=λfr l=>Zckq xs h fr 0 (Ya _) l
 simp at h3;simp[Zbwx,szL,Z2,sz1];split
 .simp_all
 .rcases h3 [.blk 0,.seq _,.fin _ _] (IntKind.wrap .i64 (cc-xs.length))with⟨h5,h6⟩|h5
  .rw[h5];simp[h6]
  .rw[h5];simp
theorem Zcks(x0:Int)(x1:List Atom)(h1:SmL Atom.Zr x1):C Zb04 [.agg [I x0,.t (.lst 2 (x1.map Atom.c))]] []=some (.agg [I x0,.own 0],[.arr Zwk 2 true (x1.map Atom.c)]):=by
 refine run Zcis rfl ?_;simp[Zbwm,Zckn _ h1]
theorem Zckt(x0:Int)(x1:List Atom)(y0:Int)(y1:List Atom)(h1:SmL Atom.Zr x1):C Zb06 [.agg [I x0,.t (.lst 2 (x1.map Atom.c))],.agg [I y0,.t (.lst 2 (y1.map Atom.c))]] []=some (Bo (decide (x0=y0/\x1=y1)),[]):=by
 refine run Zciu rfl ?_;simp[Zbwo,Zckp _ _ h1]
 repeat' split
 all_goals first|(simp_all;done)|grind
theorem Zcku(x0:Int)(x1:List Atom)(cc:Int)(h1:OkL Atom.okay x1):C Zb02 [.agg [I x0,.t (.lst 2 (x1.map Atom.c))],I cc] []=some (I (Zg.sz ⟨x0,x1⟩ cc),[]):=by
 refine run Zciq rfl ?_;simp[Zbwk,Zckr _ _ h1,Zg.sz,Z2,sz1]
 repeat' split
 all_goals first|(simp_all;done)|grind
theorem Zckv(x0:ByteArray)(x1:List Int)(x2:Int)(h1:SmA x1):C Zb1u [.agg [.t (.str x0),.t (tI x1),I x2]] []=some (.agg [.t (.str x0),.own 0,I x2],[.arr Zbv 1 true (x1.map ic)]):=by
 refine run Zcji rfl ?_;simp[Zbxm,Zvf _ h1]
theorem Zckw(x0:ByteArray)(x1:List Int)(x2:Int)(y0:ByteArray)(y1:List Int)(y2:Int)(h1:SmA x1):C Zb1z [.agg [.t (.str x0),.t (tI x1),I x2],.agg [.t (.str y0),.t (tI y1),I y2]] []=some (Bo (decide (x0=y0/\x1=y1/\x2=y2)),[]):=by
 refine run Zcjn rfl ?_;simp[Zbxr,Zvg _ _ h1]
 repeat' split
 all_goals first|(simp_all;done)|grind
theorem Zckx(x0:ByteArray)(x1:List Int)(x2 c:Int) :C Zb1p [.agg [.t (.str x0),.t (tI x1),I x2],I c] []=some (I (Zm.sz ⟨x0,x1,x2⟩ c),[]):=by
 refine run Zcjd rfl ?_;simp[Zbxf,Z1t,Zm.sz,Z2,sz1]
 repeat' split
 all_goals first|(simp_all;done)|grind
theorem Zcky(x0:ByteArray)(x1:Int)(x2:ByteArray)(x3:Int) :C Zb1v [.agg [.t (.str x0),I x1,.t (.str x2),I x3]] []=some (.agg [.t (.str x0),I x1,.t (.str x2),I x3],[]):=by
 refine run Zcjj rfl ?_;simp[Zbxn]
theorem Zckz(x0:ByteArray)(x1:Int)(x2:ByteArray)(x3:Int)(y0:ByteArray)(y1:Int)(y2:ByteArray)(y3:Int) :C Zb10 [.agg [.t (.str x0),I x1,.t (.str x2),I x3],.agg [.t (.str y0),I y1,.t (.str y2),I y3]] []=some (Bo (decide (x0=y0/\x1=y1/\x2=y2/\x3=y3)),[]):=by
 refine run Zcjo rfl ?_;simp[Zbxs]
 repeat' split
 all_goals first|(simp_all;done)|grind
theorem Zck0(x0:ByteArray)(x1:Int)(x2:ByteArray)(x3 c:Int) :C Zb1q [.agg [.t (.str x0),I x1,.t (.str x2),I x3],I c] []=some (I (Zi.sz ⟨x0,x1,x2,x3⟩ c),[]):=by
 refine run Zcje rfl ?_;simp[Zbxg,Zi.sz,Z2,sz1]
 repeat' split
 all_goals first|(simp_all;done)|grind
theorem Zck1(x0:List Int)(x1:List (List Int))(x2:List Int)(h0:SmA x0)(h1:SmL SmA x1)(h2:SmA x2):C Zb2h [.agg [.t (tI x0),.t (tII x1),.t (tI x2)]] []=some (.agg [.own 0,.own 1,.own 2],[.arr Zbv 1 true (x0.map ic),.arr Zqc 1 true (x1.map isc),.arr Zbv 1 true (x2.map ic)]):=by
 refine run Zcj5 rfl ?_;simp[Zbye,Zvf _ h0,Zbyg _ h1,Zvf _ h2]
theorem Zck2(x0:List Int)(x1:List (List Int))(x2 y0:List Int)(y1:List (List Int))(y2:List Int)(h0:SmA x0)(h1:SmL SmA x1)(h2:SmA x2):C Zb2i [.agg [.t (tI x0),.t (tII x1),.t (tI x2)],.agg [.t (tI y0),.t (tII y1),.t (tI y2)]] []=some (Bo (decide (x0=y0/\x1=y1/\x2=y2)),[]):=by
 refine run Zcj6 rfl ?_;simp[Zbyf,Zvg _ _ h0,Zbyh _ _ h1,Zvg _ _ h2]
 repeat' split
 all_goals first|(simp_all;done)|grind
theorem Zck3(x0:List Int)(x1:List (List Int))(x2:List Int)(c:Int)(h1:OkL (OkL OkI) x1):C Zb2g [.agg [.t (tI x0),.t (tII x1),.t (tI x2)],I c] []=some (I (Zf.sz ⟨x0,x1,x2⟩ c),[]):=by
 refine run Zcj4 rfl ?_;simp[Zbyd,Z1t,Zbyi _ _ h1,Zf.sz,Z2,sz1]
 repeat' split
 all_goals first|(simp_all;done)|grind
theorem Zck4(xs:List Zf)(h:SmL Zf.Zr xs)(fr:List Fr):∀i,i<=xs.length->EvL C fr [0,3,4] Z1q ⟨[(0,L 3 (xs.map Zf.c)),(3,.own 0),(4,I i)],[[]],[.arr Zwl 3 true (fill Zf.c [.lst 1 [],.lst 1 [],.lst 1 []] xs i)]⟩ =
  EvX C fr (.x 0) ⟨[(0,L 3 (xs.map Zf.c)),(3,.own 0),(4,I xs.length),(11,Bo false)],[[]],[.arr Zwl 3 true (xs.map Zf.c)]⟩:=by
 have hl:xs.length<=4294967296:=h.1;refine down xs.length ?_ ?_
 .rw[Ze Z1q.eq_1];simp[Zil]
 .intro i hi ih;rw[Ze Z1q.eq_1,<-ih];have h1:=Zin (f:=Zf.c) (z:=[.lst 1 [],.lst 1 [],.lst 1 []]) hi;have h3:=Zim (f:=Zf.c) (z:=[.lst 1 [],.lst 1 [],.lst 1 []]) (Yb6 hi);have h4:IntKind.wrap .i64 ((i:Int)+1)=(i:Int)+1:=Z8 (by omega) (by omega);simp at h1;simp[hi,Zck1 _ _ _ (h.2 _ (Yb hi)).1 (h.2 _ (Yb hi)).2.1 (h.2 _ (Yb hi)).2.2,h3,h4,h1]
theorem Zck5(xs:List Zf)(h:SmL Zf.Zr xs):C Zb2d [L 3 (xs.map Zf.c)] []=some (.own 0,[.arr Zwl 3 true (xs.map Zf.c)]):=by
 refine run Zcj1 rfl ?_;have hl:xs.length<=4294967296:=h.1;have h1:∀b,b<=4096->xs.length*b<=room:=λb hb=>Y0 (Ybz hl hb) (by decide)
 have h2:(xs.length:Int)<=140737488355328:=by omega
 have h3:=λfr=>Zck4 xs h fr 0 (Ya _)
 simp[Zik]at h3;simp[Zbya,h1,h2,h3]
theorem Zck6(xs ys:List Zf)(h:SmL Zf.Zr xs)(hl:ys.length=xs.length)(fr:List Fr):∀i,i<=xs.length->EvL C fr [0,1,5] Z1s ⟨[(0,L 3 (xs.map Zf.c)),(1,L 3 (ys.map Zf.c)),(5,I i)],[[]],[]⟩ =
  if xs.drop i=ys.drop i then EvX C fr (.x 0) ⟨[(0,L 3 (xs.map Zf.c)),(1,L 3 (ys.map Zf.c)),(5,I xs.length),(14,Bo false)],[[]],[]⟩else EvX C fr .r ⟨[(4,Bo false)],[[]],[]⟩:=by
 have hm:xs.length<=4294967296:=h.1;refine down xs.length ?_ ?_
 .rw[Ze Z1s.eq_1];simp[hl,Ybe]
 .intro i hi ih;have hi2:i<ys.length:=by omega
  have h4:IntKind.wrap .i64 ((i:Int)+1)=(i:Int)+1:=Z8 (by omega) (by omega);rw[Ze Z1s.eq_1];simp +decide[hi,hi2,Zck2 _ _ _ _ _ _ (h.2 _ (Yb hi)).1 (h.2 _ (Yb hi)).2.1 (h.2 _ (Yb hi)).2.2,h4];simp at ih;simp only[Zio hi hi2,ih,Zf.ext_iff];split<;>first|(simp_all;done)|grind
theorem Zck7(xs ys:List Zf)(h:SmL Zf.Zr xs):C Zb2f [L 3 (xs.map Zf.c),L 3 (ys.map Zf.c)] []=some (Bo (decide (xs=ys)),[]):=by
 refine run Zcj3 rfl ?_;by_cases hl:ys.length=xs.length
 .have h3:=λfr=>Zck6 xs ys h hl fr 0 (Ya _)
  simp at h3;simp[Zbco,h3,hl];split<;>simp_all
 .have h1:xs≠ys:=λh=>hl (by rw[h])
  have h2:¬((xs.length:Int)=ys.length):=by omega
  simp[Zbco,h1,h2]
theorem Zck8(xs:List Zf)(h:OkL Zf.okay xs)(fr:List Fr):∀i,i<=xs.length->∀left:Int,
  (EvL C fr [0,1,5] Zl3 ⟨[(0,L 3 (xs.map Zf.c)),(1,I left),(5,I i)],[[]],[]⟩=EvX C fr .r ⟨[(4,I (-1))],[[]],[]⟩/\Zbj Zf.sz (xs.drop i) left=-1)\/
  EvL C fr [0,1,5] Zl3 ⟨[(0,L 3 (xs.map Zf.c)),(1,I left),(5,I i)],[[]],[]⟩=EvX C fr (.x 0) ⟨[(0,L 3 (xs.map Zf.c)),(1,I (Zbj Zf.sz (xs.drop i) left)),(5,I xs.length),(15,Bo false)],[[]],[]⟩:=by
 have hm:maxLen<=9223372036854775807:=by decide
 have hl:=h.1;refine down xs.length ?_ ?_
 .intro left;right;rw[Ze Zl3.eq_1];simp[Ybe,Zbj]
 .intro i hi ih left;have h4:IntKind.wrap .i64 ((i:Int)+1)=(i:Int)+1:=Z8 (by omega) (by omega);have e:EvL C fr [0,1,5] Zl3 ⟨[(0,L 3 (xs.map Zf.c)),(1,I left),(5,I i)],[[]],[]⟩=if Zf.sz xs[i] left<0 then EvX C fr .r ⟨[(4,I (-1))],[[]],[]⟩else EvL C fr [0,1,5] Zl3 ⟨[(0,L 3 (xs.map Zf.c)),(1,I (Zf.sz xs[i] left)),(5,I ((i+1:Nat):Int))],[[]],[]⟩:=by
   rw[Ze Zl3.eq_1];simp[hi,Zck3 _ _ _ _ (h.2 _ (Yb hi)).2.1,h4]
  rw[e,Yc hi,Zbj];split
  .exact .inl ⟨rfl,rfl⟩
  .exact ih _
theorem Zck9(xs:List Zf)(cc:Int)(h:OkL Zf.okay xs):C Zb2b [L 3 (xs.map Zf.c),I cc] []=some (I (szL Zf.sz xs cc),[]):=by
 refine run Zcjz rfl ?_;have h3:=λfr l=>Zck8 xs h fr 0 (Ya _) l
 simp at h3;simp[Zbx6,szL,Z2,sz1];split
 .simp_all
 .rcases h3 [.blk 0,.seq _,.fin _ _] (IntKind.wrap .i64 (cc-xs.length))with⟨h5,h6⟩|h5
  .rw[h5];simp[h6]
  .rw[h5];simp
theorem Zcla(x0:ByteArray)(x1 x2:Int)(x3:List Zf)(h3:SmL Zf.Zr x3):C Zb16 [.agg [.t (.str x0),I x1,I x2,.t (.lst 3 (x3.map Zf.c))]] []=some (.agg [.t (.str x0),I x1,I x2,.own 0],[.arr Zwl 3 true (x3.map Zf.c)]):=by
 refine run Zcju rfl ?_;simp[Zbxy,Zck5 _ h3]
theorem Zclb(x0:ByteArray)(x1 x2:Int)(x3:List Zf)(y0:ByteArray)(y1 y2:Int)(y3:List Zf)(h3:SmL Zf.Zr x3):C Zb19 [.agg [.t (.str x0),I x1,I x2,.t (.lst 3 (x3.map Zf.c))],.agg [.t (.str y0),I y1,I y2,.t (.lst 3 (y3.map Zf.c))]] []=some (Bo (decide (x0=y0/\x1=y1/\x2=y2/\x3=y3)),[]):=by
 refine run Zcjx rfl ?_;simp[Zbx2,Zck7 _ _ h3]
 repeat' split
 all_goals first|(simp_all;done)|grind
theorem Zclc(x0:ByteArray)(x1 x2:Int)(x3:List Zf)(cc:Int)(h3:OkL Zf.okay x3):C Zb13 [.agg [.t (.str x0),I x1,I x2,.t (.lst 3 (x3.map Zf.c))],I cc] []=some (I (Zd.sz ⟨x0,x1,x2,x3⟩ cc),[]):=by
 refine run Zcjr rfl ?_;simp[Zbxv,Zck9 _ _ h3,Zd.sz,Z2,sz1]
 repeat' split
 all_goals first|(simp_all;done)|grind
theorem Zcld(xs:List Zd)(h:SmL Zd.Zr xs)(fr:List Fr):∀i,i<=xs.length->EvL C fr [0,3,4] Z1l ⟨[(0,L 4 (xs.map Zd.c)),(3,.own 0),(4,I i)],[[]],[.arr Zqd 4 true (fill Zd.c [.str ⟨#[]⟩,.int .i64 0,.int .i64 0,.lst 3 []] xs i)]⟩ =
  EvX C fr (.x 0) ⟨[(0,L 4 (xs.map Zd.c)),(3,.own 0),(4,I xs.length),(11,Bo false)],[[]],[.arr Zqd 4 true (xs.map Zd.c)]⟩:=by
 have hl:xs.length<=4294967296:=h.1;refine down xs.length ?_ ?_
 .rw[Ze Z1l.eq_1];simp[Zil]
 .intro i hi ih;rw[Ze Z1l.eq_1,<-ih];have h1:=Zin (f:=Zd.c) (z:=[.str ⟨#[]⟩,.int .i64 0,.int .i64 0,.lst 3 []]) hi;have h3:=Zim (f:=Zd.c) (z:=[.str ⟨#[]⟩,.int .i64 0,.int .i64 0,.lst 3 []]) (Yb6 hi);have h4:IntKind.wrap .i64 ((i:Int)+1)=(i:Int)+1:=Z8 (by omega) (by omega);simp at h1;simp[hi,Zcla _ _ _ _ (h.2 _ (Yb hi)).2,h3,h4,h1]
theorem Zcle(xs:List Zd)(h:SmL Zd.Zr xs):C Zb1t [L 4 (xs.map Zd.c)] []=some (.own 0,[.arr Zqd 4 true (xs.map Zd.c)]):=by
 refine run Zcjh rfl ?_;have hl:xs.length<=4294967296:=h.1;have h1:∀b,b<=4096->xs.length*b<=room:=λb hb=>Y0 (Ybz hl hb) (by decide)
 have h2:(xs.length:Int)<=140737488355328:=by omega
 have h3:=λfr=>Zcld xs h fr 0 (Ya _)
 simp[Zik]at h3;simp[Zbxl,h1,h2,h3]
theorem Zclf(xs ys:List Zd)(h:SmL Zd.Zr xs)(hl:ys.length=xs.length)(fr:List Fr):∀i,i<=xs.length->EvL C fr [0,1,5] Z1n ⟨[(0,L 4 (xs.map Zd.c)),(1,L 4 (ys.map Zd.c)),(5,I i)],[[]],[]⟩ =
  if xs.drop i=ys.drop i then EvX C fr (.x 0) ⟨[(0,L 4 (xs.map Zd.c)),(1,L 4 (ys.map Zd.c)),(5,I xs.length),(14,Bo false)],[[]],[]⟩else EvX C fr .r ⟨[(4,Bo false)],[[]],[]⟩:=by
 have hm:xs.length<=4294967296:=h.1;refine down xs.length ?_ ?_
 .rw[Ze Z1n.eq_1];simp[hl,Ybe]
 .intro i hi ih;have hi2:i<ys.length:=by omega
  have h4:IntKind.wrap .i64 ((i:Int)+1)=(i:Int)+1:=Z8 (by omega) (by omega);rw[Ze Z1n.eq_1];simp +decide[hi,hi2,Zclb _ _ _ _ _ _ _ _ (h.2 _ (Yb hi)).2,h4];simp at ih;simp only[Zio hi hi2,ih,Zd.ext_iff];split<;>first|(simp_all;done)|grind
theorem Zclg(xs ys:List Zd)(h:SmL Zd.Zr xs):C Zb1y [L 4 (xs.map Zd.c),L 4 (ys.map Zd.c)] []=some (Bo (decide (xs=ys)),[]):=by
 refine run Zcjm rfl ?_;by_cases hl:ys.length=xs.length
 .have h3:=λfr=>Zclf xs ys h hl fr 0 (Ya _)
  simp at h3;simp[Zbcm,h3,hl];split<;>simp_all
 .have h1:xs≠ys:=λh=>hl (by rw[h])
  have h2:¬((xs.length:Int)=ys.length):=by omega
  simp[Zbcm,h1,h2]
theorem Zclh(xs:List Zd)(h:OkL Zd.okay xs)(fr:List Fr):∀i,i<=xs.length->∀left:Int,
  (EvL C fr [0,1,5] Zl1 ⟨[(0,L 4 (xs.map Zd.c)),(1,I left),(5,I i)],[[]],[]⟩=EvX C fr .r ⟨[(4,I (-1))],[[]],[]⟩/\Zbj Zd.sz (xs.drop i) left=-1)\/
  EvL C fr [0,1,5] Zl1 ⟨[(0,L 4 (xs.map Zd.c)),(1,I left),(5,I i)],[[]],[]⟩=EvX C fr (.x 0) ⟨[(0,L 4 (xs.map Zd.c)),(1,I (Zbj Zd.sz (xs.drop i) left)),(5,I xs.length),(15,Bo false)],[[]],[]⟩:=by
 have hm:maxLen<=9223372036854775807:=by decide
 have hl:=h.1;refine down xs.length ?_ ?_
 .intro left;right;rw[Ze Zl1.eq_1];simp[Ybe,Zbj]
 .intro i hi ih left;have h4:IntKind.wrap .i64 ((i:Int)+1)=(i:Int)+1:=Z8 (by omega) (by omega);have e:EvL C fr [0,1,5] Zl1 ⟨[(0,L 4 (xs.map Zd.c)),(1,I left),(5,I i)],[[]],[]⟩=if Zd.sz xs[i] left<0 then EvX C fr .r ⟨[(4,I (-1))],[[]],[]⟩else EvL C fr [0,1,5] Zl1 ⟨[(0,L 4 (xs.map Zd.c)),(1,I (Zd.sz xs[i] left)),(5,I ((i+1:Nat):Int))],[[]],[]⟩:=by
   rw[Ze Zl1.eq_1];simp[hi,Zclc _ _ _ _ _ (h.2 _ (Yb hi)).2.2.2,h4]
  rw[e,Yc hi,Zbj];split
  .exact .inl ⟨rfl,rfl⟩
  .exact ih _
theorem Zcli(xs:List Zd)(cc:Int)(h:OkL Zd.okay xs):C Zb1o [L 4 (xs.map Zd.c),I cc] []=some (I (szL Zd.sz xs cc),[]):=by
 refine run Zcjc rfl ?_;have h3:=λfr l=>Zclh xs h fr 0 (Ya _) l
 simp at h3;simp[Zbxe,szL,Z2,sz1];split
 .simp_all
 .rcases h3 [.blk 0,.seq _,.fin _ _] (IntKind.wrap .i64 (cc-xs.length))with⟨h5,h6⟩|h5
  .rw[h5];simp[h6]
  .rw[h5];simp
theorem Zclj(x0:Int)(x1:List Zd)(h1:SmL Zd.Zr x1):C Zb1e [.agg [I x0,.t (.lst 4 (x1.map Zd.c))]] []=some (.agg [I x0,.own 0],[.arr Zqd 4 true (x1.map Zd.c)]):=by
 refine run Zci2 rfl ?_;simp[Zbwz,Zcle _ h1]
theorem Zclk(x0:Int)(x1:List Zd)(y0:Int)(y1:List Zd)(h1:SmL Zd.Zr x1):C Zb1j [.agg [I x0,.t (.lst 4 (x1.map Zd.c))],.agg [I y0,.t (.lst 4 (y1.map Zd.c))]] []=some (Bo (decide (x0=y0/\x1=y1)),[]):=by
 refine run Zci7 rfl ?_;simp[Zbw7,Zclg _ _ h1]
 repeat' split
 all_goals first|(simp_all;done)|grind
theorem Zcll(x0:Int)(x1:List Zd)(cc:Int)(h1:OkL Zd.okay x1):C Zb09 [.agg [I x0,.t (.lst 4 (x1.map Zd.c))],I cc] []=some (I (Zn.sz ⟨x0,x1⟩ cc),[]):=by
 refine run Zcix rfl ?_;simp[Zbwr,Zcli _ _ h1,Zn.sz,Z2,sz1]
 repeat' split
 all_goals first|(simp_all;done)|grind
theorem Zclm(xs:List Zm)(h:SmL Zm.Zr xs)(fr:List Fr):∀i,i<=xs.length->EvL C fr [0,3,4] Z1e ⟨[(0,L 3 (xs.map Zm.c)),(3,.own 0),(4,I i)],[[]],[.arr Zwi 3 true (fill Zm.c [.str ⟨#[]⟩,.lst 1 [],.int .i64 0] xs i)]⟩ =
  EvX C fr (.x 0) ⟨[(0,L 3 (xs.map Zm.c)),(3,.own 0),(4,I xs.length),(11,Bo false)],[[]],[.arr Zwi 3 true (xs.map Zm.c)]⟩:=by
 have hl:xs.length<=4294967296:=h.1;refine down xs.length ?_ ?_
 .rw[Ze Z1e.eq_1];simp[Zil]
 .intro i hi ih;rw[Ze Z1e.eq_1,<-ih];have h1:=Zin (f:=Zm.c) (z:=[.str ⟨#[]⟩,.lst 1 [],.int .i64 0]) hi;have h3:=Zim (f:=Zm.c) (z:=[.str ⟨#[]⟩,.lst 1 [],.int .i64 0]) (Yb6 hi);have h4:IntKind.wrap .i64 ((i:Int)+1)=(i:Int)+1:=Z8 (by omega) (by omega);simp at h1;simp[hi,Zckv _ _ _ (h.2 _ (Yb hi)).2,h3,h4,h1]
theorem Zcln(xs:List Zm)(h:SmL Zm.Zr xs):C Zb1f [L 3 (xs.map Zm.c)] []=some (.own 0,[.arr Zwi 3 true (xs.map Zm.c)]):=by
 refine run Zci3 rfl ?_;have hl:xs.length<=4294967296:=h.1;have h1:∀b,b<=4096->xs.length*b<=room:=λb hb=>Y0 (Ybz hl hb) (by decide)
 have h2:(xs.length:Int)<=140737488355328:=by omega
 have h3:=λfr=>Zclm xs h fr 0 (Ya _)
 simp[Zik]at h3;simp[Zbw1,h1,h2,h3]
theorem Zclo(xs ys:List Zm)(h:SmL Zm.Zr xs)(hl:ys.length=xs.length)(fr:List Fr):∀i,i<=xs.length->EvL C fr [0,1,5] Z1h ⟨[(0,L 3 (xs.map Zm.c)),(1,L 3 (ys.map Zm.c)),(5,I i)],[[]],[]⟩ =
  if xs.drop i=ys.drop i then EvX C fr (.x 0) ⟨[(0,L 3 (xs.map Zm.c)),(1,L 3 (ys.map Zm.c)),(5,I xs.length),(14,Bo false)],[[]],[]⟩else EvX C fr .r ⟨[(4,Bo false)],[[]],[]⟩:=by
 have hm:xs.length<=4294967296:=h.1;refine down xs.length ?_ ?_
 .rw[Ze Z1h.eq_1];simp[hl,Ybe]
 .intro i hi ih;have hi2:i<ys.length:=by omega
  have h4:IntKind.wrap .i64 ((i:Int)+1)=(i:Int)+1:=Z8 (by omega) (by omega);rw[Ze Z1h.eq_1];simp +decide[hi,hi2,Zckw _ _ _ _ _ _ (h.2 _ (Yb hi)).2,h4];simp at ih;simp only[Zio hi hi2,ih,Zm.ext_iff];split<;>first|(simp_all;done)|grind
theorem Zclp(xs ys:List Zm)(h:SmL Zm.Zr xs):C Zb1k [L 3 (xs.map Zm.c),L 3 (ys.map Zm.c)] []=some (Bo (decide (xs=ys)),[]):=by
 refine run Zci8 rfl ?_;by_cases hl:ys.length=xs.length
 .have h3:=λfr=>Zclo xs ys h hl fr 0 (Ya _)
  simp at h3;simp[Zbci,h3,hl];split<;>simp_all
 .have h1:xs≠ys:=λh=>hl (by rw[h])
  have h2:¬((xs.length:Int)=ys.length):=by omega
  simp[Zbci,h1,h2]
theorem Zclq(xs:List Zm)(h:OkL Zm.okay xs)(fr:List Fr):∀i,i<=xs.length->∀left:Int,
  (EvL C fr [0,1,5] Zlx ⟨[(0,L 3 (xs.map Zm.c)),(1,I left),(5,I i)],[[]],[]⟩=EvX C fr .r ⟨[(4,I (-1))],[[]],[]⟩/\Zbj Zm.sz (xs.drop i) left=-1)\/
  EvL C fr [0,1,5] Zlx ⟨[(0,L 3 (xs.map Zm.c)),(1,I left),(5,I i)],[[]],[]⟩=EvX C fr (.x 0) ⟨[(0,L 3 (xs.map Zm.c)),(1,I (Zbj Zm.sz (xs.drop i) left)),(5,I xs.length),(15,Bo false)],[[]],[]⟩:=by
 have hm:maxLen<=9223372036854775807:=by decide
 have hl:=h.1;refine down xs.length ?_ ?_
 .intro left;right;rw[Ze Zlx.eq_1];simp[Ybe,Zbj]
 .intro i hi ih left;have h4:IntKind.wrap .i64 ((i:Int)+1)=(i:Int)+1:=Z8 (by omega) (by omega);have e:EvL C fr [0,1,5] Zlx ⟨[(0,L 3 (xs.map Zm.c)),(1,I left),(5,I i)],[[]],[]⟩=if Zm.sz xs[i] left<0 then EvX C fr .r ⟨[(4,I (-1))],[[]],[]⟩else EvL C fr [0,1,5] Zlx ⟨[(0,L 3 (xs.map Zm.c)),(1,I (Zm.sz xs[i] left)),(5,I ((i+1:Nat):Int))],[[]],[]⟩:=by
   rw[Ze Zlx.eq_1];simp[hi,Zckx,h4]
  rw[e,Yc hi,Zbj];split
  .exact .inl ⟨rfl,rfl⟩
  .exact ih _
theorem Zclr(xs:List Zm)(cc:Int)(h:OkL Zm.okay xs):C Zb1a [L 3 (xs.map Zm.c),I cc] []=some (I (szL Zm.sz xs cc),[]):=by
 refine run Zciy rfl ?_;have h3:=λfr l=>Zclq xs h fr 0 (Ya _) l
 simp at h3;simp[Zbwt,szL,Z2,sz1];split
 .simp_all
 .rcases h3 [.blk 0,.seq _,.fin _ _] (IntKind.wrap .i64 (cc-xs.length))with⟨h5,h6⟩|h5
  .rw[h5];simp[h6]
  .rw[h5];simp
theorem Zcls(xs:List Zi)(h:SmL Zi.Zr xs)(fr:List Fr):∀i,i<=xs.length->EvL C fr [0,3,4] Z1f ⟨[(0,L 4 (xs.map Zi.c)),(3,.own 0),(4,I i)],[[]],[.arr Zwj 4 true (fill Zi.c [.str ⟨#[]⟩,.int .i64 0,.str ⟨#[]⟩,.int .i64 0] xs i)]⟩ =
  EvX C fr (.x 0) ⟨[(0,L 4 (xs.map Zi.c)),(3,.own 0),(4,I xs.length),(11,Bo false)],[[]],[.arr Zwj 4 true (xs.map Zi.c)]⟩:=by
 have hl:xs.length<=4294967296:=h.1;refine down xs.length ?_ ?_
 .rw[Ze Z1f.eq_1];simp[Zil]
 .intro i hi ih;rw[Ze Z1f.eq_1,<-ih];have h1:=Zin (f:=Zi.c) (z:=[.str ⟨#[]⟩,.int .i64 0,.str ⟨#[]⟩,.int .i64 0]) hi;have h3:=Zim (f:=Zi.c) (z:=[.str ⟨#[]⟩,.int .i64 0,.str ⟨#[]⟩,.int .i64 0]) (Yb6 hi);have h4:IntKind.wrap .i64 ((i:Int)+1)=(i:Int)+1:=Z8 (by omega) (by omega);simp at h1;simp[hi,Zcky _ _ _ _ ,h3,h4,h1]
theorem Zclt(xs:List Zi)(h:SmL Zi.Zr xs):C Zb1g [L 4 (xs.map Zi.c)] []=some (.own 0,[.arr Zwj 4 true (xs.map Zi.c)]):=by
 refine run Zci4 rfl ?_;have hl:xs.length<=4294967296:=h.1;have h1:∀b,b<=4096->xs.length*b<=room:=λb hb=>Y0 (Ybz hl hb) (by decide)
 have h2:(xs.length:Int)<=140737488355328:=by omega
 have h3:=λfr=>Zcls xs h fr 0 (Ya _)
 simp[Zik]at h3;simp[Zbw3,h1,h2,h3]
theorem Zclu(xs ys:List Zi)(h:SmL Zi.Zr xs)(hl:ys.length=xs.length)(fr:List Fr):∀i,i<=xs.length->EvL C fr [0,1,5] Z1i ⟨[(0,L 4 (xs.map Zi.c)),(1,L 4 (ys.map Zi.c)),(5,I i)],[[]],[]⟩ =
  if xs.drop i=ys.drop i then EvX C fr (.x 0) ⟨[(0,L 4 (xs.map Zi.c)),(1,L 4 (ys.map Zi.c)),(5,I xs.length),(14,Bo false)],[[]],[]⟩else EvX C fr .r ⟨[(4,Bo false)],[[]],[]⟩:=by
 have hm:xs.length<=4294967296:=h.1;refine down xs.length ?_ ?_
 .rw[Ze Z1i.eq_1];simp[hl,Ybe]
 .intro i hi ih;have hi2:i<ys.length:=by omega
  have h4:IntKind.wrap .i64 ((i:Int)+1)=(i:Int)+1:=Z8 (by omega) (by omega);rw[Ze Z1i.eq_1];simp +decide[hi,hi2,Zckz _ _ _ _ _ _ _ _ ,h4];simp at ih;simp only[Zio hi hi2,ih,Zi.ext_iff];split<;>first|(simp_all;done)|grind
theorem Zclv(xs ys:List Zi)(h:SmL Zi.Zr xs):C Zb1l [L 4 (xs.map Zi.c),L 4 (ys.map Zi.c)] []=some (Bo (decide (xs=ys)),[]):=by
 refine run Zci9 rfl ?_;by_cases hl:ys.length=xs.length
 .have h3:=λfr=>Zclu xs ys h hl fr 0 (Ya _)
  simp at h3;simp[Zbcj,h3,hl];split<;>simp_all
 .have h1:xs≠ys:=λh=>hl (by rw[h])
  have h2:¬((xs.length:Int)=ys.length):=by omega
  simp[Zbcj,h1,h2]
theorem Zclw(xs:List Zi)(h:OkL Zi.okay xs)(fr:List Fr):∀i,i<=xs.length->∀left:Int,
  (EvL C fr [0,1,5] Zly ⟨[(0,L 4 (xs.map Zi.c)),(1,I left),(5,I i)],[[]],[]⟩=EvX C fr .r ⟨[(4,I (-1))],[[]],[]⟩/\Zbj Zi.sz (xs.drop i) left=-1)\/
  EvL C fr [0,1,5] Zly ⟨[(0,L 4 (xs.map Zi.c)),(1,I left),(5,I i)],[[]],[]⟩=EvX C fr (.x 0) ⟨[(0,L 4 (xs.map Zi.c)),(1,I (Zbj Zi.sz (xs.drop i) left)),(5,I xs.length),(15,Bo false)],[[]],[]⟩:=by
 have hm:maxLen<=9223372036854775807:=by decide
 have hl:=h.1;refine down xs.length ?_ ?_
 .intro left;right;rw[Ze Zly.eq_1];simp[Ybe,Zbj]
 .intro i hi ih left;have h4:IntKind.wrap .i64 ((i:Int)+1)=(i:Int)+1:=Z8 (by omega) (by omega);have e:EvL C fr [0,1,5] Zly ⟨[(0,L 4 (xs.map Zi.c)),(1,I left),(5,I i)],[[]],[]⟩=if Zi.sz xs[i] left<0 then EvX C fr .r ⟨[(4,I (-1))],[[]],[]⟩else EvL C fr [0,1,5] Zly ⟨[(0,L 4 (xs.map Zi.c)),(1,I (Zi.sz xs[i] left)),(5,I ((i+1:Nat):Int))],[[]],[]⟩:=by
   rw[Ze Zly.eq_1];simp[hi,Zck0,h4]
  rw[e,Yc hi,Zbj];split
  .exact .inl ⟨rfl,rfl⟩
  .exact ih _
theorem Zclx(xs:List Zi)(cc:Int)(h:OkL Zi.okay xs):C Zb1b [L 4 (xs.map Zi.c),I cc] []=some (I (szL Zi.sz xs cc),[]):=by
 refine run Zciz rfl ?_;have h3:=λfr l=>Zclw xs h fr 0 (Ya _) l
 simp at h3;simp[Zbwv,szL,Z2,sz1];split
 .simp_all
 .rcases h3 [.blk 0,.seq _,.fin _ _] (IntKind.wrap .i64 (cc-xs.length))with⟨h5,h6⟩|h5
  .rw[h5];simp[h6]
  .rw[h5];simp
theorem Zcly(x0:List Zc)(x1:Int)(x2:List Zd)(x3:List Zm)(x4:List Zi)(h0:SmL Zc.Zr x0)(h2:SmL Zd.Zr x2)(h3:SmL Zm.Zr x3)(h4:SmL Zi.Zr x4):C Zb03 [.agg [.t (.lst 3 (x0.map Zc.c)),I x1,.t (.lst 4 (x2.map Zd.c)),.t (.lst 3 (x3.map Zm.c)),.t (.lst 4 (x4.map Zi.c))]] []=some (.agg [.own 0,I x1,.own 1,.own 2,.own 3],[.arr Zqe 3 true (x0.map Zc.c),.arr Zqd 4 true (x2.map Zd.c),.arr Zwi 3 true (x3.map Zm.c),.arr Zwj 4 true (x4.map Zi.c)]):=by
 refine run Zcir rfl ?_;simp[Zbwl,Zckj _ h0,Zclj _ _ h2,Zcln _ h3,Zclt _ h4]
theorem Zclz(x0:List Zc)(x1:Int)(x2:List Zd)(x3:List Zm)(x4:List Zi)(y0:List Zc)(y1:Int)(y2:List Zd)(y3:List Zm)(y4:List Zi)(h0:SmL Zc.Zr x0)(h2:SmL Zd.Zr x2)(h3:SmL Zm.Zr x3)(h4:SmL Zi.Zr x4):C Zb05 [.agg [.t (.lst 3 (x0.map Zc.c)),I x1,.t (.lst 4 (x2.map Zd.c)),.t (.lst 3 (x3.map Zm.c)),.t (.lst 4 (x4.map Zi.c))],.agg [.t (.lst 3 (y0.map Zc.c)),I y1,.t (.lst 4 (y2.map Zd.c)),.t (.lst 3 (y3.map Zm.c)),.t (.lst 4 (y4.map Zi.c))]] []=some (Bo (decide (x0=y0/\x1=y1/\x2=y2/\x3=y3/\x4=y4)),[]):=by
 refine run Zcit rfl ?_;simp[Zbwn,Zckk _ _ h0,Zclk _ _ _ _ h2,Zclp _ _ h3,Zclv _ _ h4]
 repeat' split
 all_goals first|(simp_all;done)|grind
theorem Zcl0(x0:List Zc)(x1:Int)(x2:List Zd)(x3:List Zm)(x4:List Zi)(cc:Int)(h0:OkL Zc.okay x0)(h2:OkL Zd.okay x2)(h3:OkL Zm.okay x3)(h4:OkL Zi.okay x4):C Zb01 [.agg [.t (.lst 3 (x0.map Zc.c)),I x1,.t (.lst 4 (x2.map Zd.c)),.t (.lst 3 (x3.map Zm.c)),.t (.lst 4 (x4.map Zi.c))],I cc] []=some (I (Zj.sz ⟨⟨x0⟩,⟨x1,x2⟩,x3,x4⟩ cc),[]):=by
 refine run Zcip rfl ?_;simp[Zbwj,Zckl _ _ h0,Zcll _ _ _ h2,Zclr _ _ h3,Zclx _ _ h4,Zj.sz,Z2,sz1]
 repeat' split
 all_goals first|(simp_all;done)|grind
end
end Go.Proofs.YtnnjbejcffjgfaaGreat
