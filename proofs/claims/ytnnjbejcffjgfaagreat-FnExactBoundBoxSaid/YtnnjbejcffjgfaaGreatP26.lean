/-
  Parts of the proofs for this seat: K FA.
-/
import Derived.Test.YtnnjbejcffjgfaaGreatP5
import Derived.Test.YtnnjbejcffjgfaaGreatP7
set_option linter.unusedSectionVars false
set_option linter.unusedSimpArgs false
set_option linter.unusedVariables false
set_option maxRecDepth 100000
set_option maxHeartbeats 4000000
set_option cbv.maxSteps 9999999
namespace Go.Proofs.YtnnjbejcffjgfaaGreat
open Go.AM
noncomputable section
def Zy4:MFun:=mkF (rawF 6 Tryz.f6)
theorem Zcw2:tbl 6=some Zy4:=Zb Tryz.func6
def Zb7y:MFun:=mkF (rawF 7 Tryz.f7)
theorem Zcw3:tbl 7=some Zb7y:=Zb Tryz.func7
def Zb7z:MFun:=mkF (rawF 8 Tryz.f8)
theorem Zcw4:tbl 8=some Zb7z:=Zb Tryz.func8
def Zb70:MFun:=mkF (rawF 10 Tryz.f10)
theorem Zcw5:tbl 10=some Zb70:=Zb Tryz.func10
def Zb71:MFun:=mkF (rawF 11 Tryz.f11)
theorem Zcw6:tbl 11=some Zb71:=Zb Tryz.func11
def Zb72:MFun:=mkF (rawF 13 Tryz.f13)
theorem Zcw7:tbl 13=some Zb72:=Zb Tryz.func13
def Zb73:MFun:=mkF (rawF 14 Tryz.f14)
theorem Zcw8:tbl 14=some Zb73:=Zb Tryz.func14
def Zb74:RawF (rawF 19 Tryz.f19):={ m:=_ }
def Zy5:MCode:=cut0 Zb74 15
def Z6x:MFun:=Zbb Zb74 15 Zy5
theorem Zb75:tbl 19=some Z6x:=Zb Tryz.func19
def Zb76:MFun:=mkF (rawF 20 Tryz.f20)
theorem Zcw9:tbl 20=some Zb76:=Zb Tryz.func20
def Zb77:MFun:=mkF (rawF 21 Tryz.f21)
theorem Zcxa:tbl 21=some Zb77:=Zb Tryz.func21
def Zb78:RawF (rawF 22 Tryz.f22):={ m:=_ }
def Zsc:MCode:=cut0 Zb78 7
def Z6y:MFun:=Zbb Zb78 7 Zsc
theorem Zblc:tbl 22=some Z6y:=Zb Tryz.func22
def Zb79:RawF (rawF 23 Tryz.f23):={ m:=_ }
def Zy6:MCode:=cut0 Zb79 7
def Zbld:MFun:=Zbb Zb79 7 Zy6
theorem Zb8a:tbl 23=some Zbld:=Zb Tryz.func23
def Zble:MFun:=mkF (rawF 26 Tryz.f26)
theorem Zb8b:tbl 26=some Zble:=Zb Tryz.func26
def Zblf:MFun:=mkF (rawF 27 Tryz.f27)
theorem Zb8c:tbl 27=some Zblf:=Zb Tryz.func27
def Zblg:MFun:=mkF (rawF 28 Tryz.f28)
theorem Zb8d:tbl 28=some Zblg:=Zb Tryz.func28
def Zb8e:MFun:=mkF (rawF 29 Tryz.f29)
theorem Zcxb:tbl 29=some Zb8e:=Zb Tryz.func29
def Zb8f:MFun:=mkF (rawF 30 Tryz.f30)
theorem Zcxc:tbl 30=some Zb8f:=Zb Tryz.func30
def Zb8g:RawF (rawF 31 Tryz.f31):={ m:=_ }
def Zn7:MCode:=cut0 Zb8g 17
def Zb8h:MFun:=Zbb Zb8g 17 Zn7
theorem Zcxd:tbl 31=some Zb8h:=Zb Tryz.func31
def Zb8i:RawF (rawF 32 Tryz.f32):={ m:=_ }
def Zn8:MCode:=cut0 Zb8i 17
def Zb8j:MFun:=Zbb Zb8i 17 Zn8
theorem Zcxe:tbl 32=some Zb8j:=Zb Tryz.func32
def Zb8k:RawF (rawF 33 Tryz.f33):={ m:=_ }
def Zn9:MCode:=cut0 Zb8k 17
def Zb8l:MFun:=Zbb Zb8k 17 Zn9
theorem Zcxf:tbl 33=some Zb8l:=Zb Tryz.func33
def Zb8m:MFun:=mkF (rawF 35 Tryz.f35)
theorem Zcxg:tbl 35=some Zb8m:=Zb Tryz.func35
def Zb8n:MFun:=mkF (rawF 36 Tryz.f36)
theorem Zcxh:tbl 36=some Zb8n:=Zb Tryz.func36
def Zb8o:RawF (rawF 37 Tryz.f37):={ m:=_ }
def Z6z:MCode:=cut0 Zb8o 9
def Zb8p:MFun:=Zbb Zb8o 9 Z6z
theorem Zcxi:tbl 37=some Zb8p:=Zb Tryz.func37
def Zb8q:RawF (rawF 38 Tryz.f38):={ m:=_ }
def Z60:MCode:=cut0 Zb8q 9
def Zb8r:MFun:=Zbb Zb8q 9 Z60
theorem Zcxj:tbl 38=some Zb8r:=Zb Tryz.func38
def Zb8s:RawF (rawF 39 Tryz.f39):={ m:=_ }
def Z61:MCode:=cut0 Zb8s 9
def Zb8t:MFun:=Zbb Zb8s 9 Z61
theorem Zcxk:tbl 39=some Zb8t:=Zb Tryz.func39
def Zb8u:MFun:=mkF (rawF 42 Tryz.f42)
theorem Zcxl:tbl 42=some Zb8u:=Zb Tryz.func42
def Zb8v:MFun:=mkF (rawF 43 Tryz.f43)
theorem Zcxm:tbl 43=some Zb8v:=Zb Tryz.func43
def Zb8w:RawF (rawF 44 Tryz.f44):={ m:=_ }
def Z62:MCode:=cut0 Zb8w 15
def Zblh:MFun:=Zbb Zb8w 15 Z62
theorem Zcxn:tbl 44=some Zblh:=Zb Tryz.func44
def Zb8x:RawF (rawF 45 Tryz.f45):={ m:=_ }
def Z63:MCode:=cut0 Zb8x 15
def Zbli:MFun:=Zbb Zb8x 15 Z63
theorem Zcxo:tbl 45=some Zbli:=Zb Tryz.func45
def Zb8y:RawF (rawF 46 Tryz.f46):={ m:=_ }
def Z64:MCode:=cut0 Zb8y 15
def Zblj:MFun:=Zbb Zb8y 15 Z64
theorem Zcxp:tbl 46=some Zblj:=Zb Tryz.func46
def Zb8z:MFun:=mkF (rawF 52 Tryz.f52)
theorem Zcxq:tbl 52=some Zb8z:=Zb Tryz.func52
def Zb80:MFun:=mkF (rawF 53 Tryz.f53)
theorem Zcxr:tbl 53=some Zb80:=Zb Tryz.func53
def Zb81:RawF (rawF 54 Tryz.f54):={ m:=_ }
def Z65:MCode:=cut0 Zb81 7
def Zb82:MFun:=Zbb Zb81 7 Z65
theorem Zcxs:tbl 54=some Zb82:=Zb Tryz.func54
def Zb83:RawF (rawF 55 Tryz.f55):={ m:=_ }
def Z66:MCode:=cut0 Zb83 7
def Zb84:MFun:=Zbb Zb83 7 Z66
theorem Zcxt:tbl 55=some Zb84:=Zb Tryz.func55
def Zb85:RawF (rawF 56 Tryz.f56):={ m:=_ }
def Z67:MCode:=cut0 Zb85 7
def Zb86:MFun:=Zbb Zb85 7 Z67
theorem Zcxu:tbl 56=some Zb86:=Zb Tryz.func56
def Zb87:RawF (rawF 62 Tryz.f62):={ m:=_ }
def Zoa:MCode:=cut0 Zb87 17
def Zb88:MFun:=Zbb Zb87 17 Zoa
theorem Zcxv:tbl 62=some Zb88:=Zb Tryz.func62
def Zb89:RawF (rawF 63 Tryz.f63):={ m:=_ }
def Zob:MCode:=cut0 Zb89 17
def Zb9a:MFun:=Zbb Zb89 17 Zob
theorem Zcxw:tbl 63=some Zb9a:=Zb Tryz.func63
def Zb9b:MFun:=mkF (rawF 64 Tryz.f64)
theorem Zcxx:tbl 64=some Zb9b:=Zb Tryz.func64
def Zb9c:MFun:=mkF (rawF 65 Tryz.f65)
theorem Zcxy:tbl 65=some Zb9c:=Zb Tryz.func65
def Zb9d:MFun:=mkF (rawF 66 Tryz.f66)
theorem Zcxz:tbl 66=some Zb9d:=Zb Tryz.func66
def Zb9e:RawF (rawF 72 Tryz.f72):={ m:=_ }
def Z68:MCode:=cut0 Zb9e 9
def Zb9f:MFun:=Zbb Zb9e 9 Z68
theorem Zcx0:tbl 72=some Zb9f:=Zb Tryz.func72
def Zb9g:RawF (rawF 73 Tryz.f73):={ m:=_ }
def Z69:MCode:=cut0 Zb9g 9
def Zb9h:MFun:=Zbb Zb9g 9 Z69
theorem Zcx1:tbl 73=some Zb9h:=Zb Tryz.func73
def Zb9i:MFun:=mkF (rawF 74 Tryz.f74)
theorem Zcx2:tbl 74=some Zb9i:=Zb Tryz.func74
def Zb9j:MFun:=mkF (rawF 75 Tryz.f75)
theorem Zcx3:tbl 75=some Zb9j:=Zb Tryz.func75
def Zb9k:MFun:=mkF (rawF 76 Tryz.f76)
theorem Zcx4:tbl 76=some Zb9k:=Zb Tryz.func76
def Zb9l:RawF (rawF 81 Tryz.f81):={ m:=_ }
def Z7a:MCode:=cut0 Zb9l 15
def Zblk:MFun:=Zbb Zb9l 15 Z7a
theorem Zcx5:tbl 81=some Zblk:=Zb Tryz.func81
def Zb9m:RawF (rawF 82 Tryz.f82):={ m:=_ }
def Z7b:MCode:=cut0 Zb9m 15
def Zbll:MFun:=Zbb Zb9m 15 Z7b
theorem Zcx6:tbl 82=some Zbll:=Zb Tryz.func82
def Zb9n:MFun:=mkF (rawF 83 Tryz.f83)
theorem Zcx7:tbl 83=some Zb9n:=Zb Tryz.func83
def Zb9o:MFun:=mkF (rawF 84 Tryz.f84)
theorem Zcx8:tbl 84=some Zb9o:=Zb Tryz.func84
def Zb9p:MFun:=mkF (rawF 85 Tryz.f85)
theorem Zcx9:tbl 85=some Zb9p:=Zb Tryz.func85
def Zb9q:RawF (rawF 94 Tryz.f94):={ m:=_ }
def Z7c:MCode:=cut0 Zb9q 7
def Zb9r:MFun:=Zbb Zb9q 7 Z7c
theorem Zcya:tbl 94=some Zb9r:=Zb Tryz.func94
def Zb9s:RawF (rawF 95 Tryz.f95):={ m:=_ }
def Z7d:MCode:=cut0 Zb9s 7
def Zb9t:MFun:=Zbb Zb9s 7 Z7d
theorem Zcyb:tbl 95=some Zb9t:=Zb Tryz.func95
def Zb9u:RawF (rawF 96 Tryz.f96):={ m:=_ }
def Zy7:MCode:=cut0 Zb9u 15
def Zblm:MFun:=Zbb Zb9u 15 Zy7
theorem Zb9v:tbl 96=some Zblm:=Zb Tryz.func96
def Zb9w:MFun:=mkF (rawF 102 Tryz.f102)
theorem Zcyc:tbl 102=some Zb9w:=Zb Tryz.func102
def Zb9x:MFun:=mkF (rawF 103 Tryz.f103)
theorem Zcyd:tbl 103=some Zb9x:=Zb Tryz.func103
def Zb9y:MFun:=mkF (rawF 104 Tryz.f104)
theorem Zcye:tbl 104=some Zb9y:=Zb Tryz.func104
def Zb9z:MFun:=mkF (rawF 113 Tryz.f113)
theorem Zcyf:tbl 113=some Zb9z:=Zb Tryz.func113
def Zb90:MFun:=mkF (rawF 114 Tryz.f114)
theorem Zcyg:tbl 114=some Zb90:=Zb Tryz.func114
def Zb91:RawF (rawF 115 Tryz.f115):={ m:=_ }
def Z7e:MCode:=cut0 Zb91 9
def Zb92:MFun:=Zbb Zb91 9 Z7e
theorem Zcyh:tbl 115=some Zb92:=Zb Tryz.func115
def Zb93:MFun:=mkF (rawF 125 Tryz.f125)
theorem Zcyi:tbl 125=some Zb93:=Zb Tryz.func125
def Zb94:MFun:=mkF (rawF 126 Tryz.f126)
theorem Zcyj:tbl 126=some Zb94:=Zb Tryz.func126
def Zb95:RawF (rawF 138 Tryz.f138):={ m:=_ }
def Zy8:MCode:=cut0 Zb95 7
def Zbln:MFun:=Zbb Zb95 7 Zy8
theorem Zb96:tbl 138=some Zbln:=Zb Tryz.func138
def Zb97:RawF (rawF 139 Tryz.f139):={ m:=_ }
def Zy9:MCode:=cut0 Zb97 7
def Zblo:MFun:=Zbb Zb97 7 Zy9
theorem Zb98:tbl 139=some Zblo:=Zb Tryz.func139
def Zb99:RawF (rawF 144 Tryz.f144):={ m:=_ }
def Zoc:MCode:=cut0 Zb99 17
def Zcaa:MFun:=Zbb Zb99 17 Zoc
theorem Zcyk:tbl 144=some Zcaa:=Zb Tryz.func144
def Zcab:RawF (rawF 145 Tryz.f145):={ m:=_ }
def Zod:MCode:=cut0 Zcab 17
def Zcac:MFun:=Zbb Zcab 17 Zod
theorem Zcyl:tbl 145=some Zcac:=Zb Tryz.func145
def Zcad:RawF (rawF 158 Tryz.f158):={ m:=_ }
def Z7f:MCode:=cut0 Zcad 9
def Zcae:MFun:=Zbb Zcad 9 Z7f
theorem Zcym:tbl 158=some Zcae:=Zb Tryz.func158
def Zcaf:RawF (rawF 159 Tryz.f159):={ m:=_ }
def Z7g:MCode:=cut0 Zcaf 9
def Zcag:MFun:=Zbb Zcaf 9 Z7g
theorem Zcyn:tbl 159=some Zcag:=Zb Tryz.func159
def Zcah:RawF (rawF 177 Tryz.f177):={ m:=_ }
def Z7h:MCode:=cut0 Zcah 15
def Zblp:MFun:=Zbb Zcah 15 Z7h
theorem Zcyo:tbl 177=some Zblp:=Zb Tryz.func177
def Zcai:RawF (rawF 178 Tryz.f178):={ m:=_ }
def Z7i:MCode:=cut0 Zcai 15
def Zblq:MFun:=Zbb Zcai 15 Z7i
theorem Zcyp:tbl 178=some Zblq:=Zb Tryz.func178
def Zcaj:MFun:=mkF (rawF 193 Tryz.f193)
theorem Zcyq:tbl 193=some Zcaj:=Zb Tryz.func193
def Zcak:MFun:=mkF (rawF 202 Tryz.f202)
theorem Zcyr:tbl 202=some Zcak:=Zb Tryz.func202
def Zcal:MFun:=mkF (rawF 222 Tryz.f222)
theorem Zcys:tbl 222=some Zcal:=Zb Tryz.func222
theorem l_toIntS(xs:List Int)(h:SmA xs)(fr:List Fr):∀i,i<=xs.length->EvL C fr [0,3,4] Z7e ⟨[(0,L 1 (xs.map ic)),(3,.own 0),(4,I i)],[[]],[.arr Zbc 1 true (fill ic [.int .i64 0] xs i)]⟩ =
  EvX C fr (.x 0) ⟨[(0,L 1 (xs.map ic)),(3,.own 0),(4,I xs.length),(11,Bo false)],[[]],[.arr Zbc 1 true (xs.map ic)]⟩:=by
 have hl:xs.length<=4294967296:=h;refine down xs.length ?_ ?_
 .rw[Zd Z7e.eq_1];simp[Zjy]
 .intro i hi ih;rw[Zd Z7e.eq_1,<-ih];have h1:=Zj0 (f:=ic) (z:=[.int .i64 0]) hi;have h3:=Zjz (f:=ic) (z:=[.int .i64 0]) (Yb9 hi);have h4:IntKind.wrap .i64 ((i:Int)+1)=(i:Int)+1:=Zw (by omega) (by omega);simp at h1;simp[hi,h3,h4,h1]
theorem Zza(xs:List Int)(h:SmA xs):C Zces [L 1 (xs.map ic)] []=some (.own 0,[.arr Zbc 1 true (xs.map ic)]):=by
 refine run Zcyh rfl ?_;have hl:xs.length<=4294967296:=h;have h1:∀b,b<=4096->xs.length*b<=room:=λb hb=>Y2 (Yb3 hl hb) (by decide)
 have h2:(xs.length:Int)<=140737488355328:=by omega
 have h3:=λfr=>l_toIntS xs h fr 0 (Ya _)
 simp[Zjx]at h3;simp[Zb92,h1,h2,h3]
theorem l_eqIntS(xs ys:List Int)(h:SmA xs)(hl:ys.length=xs.length)(fr:List Fr):∀i,i<=xs.length->EvL C fr [0,1,5] Zy5 ⟨[(0,L 1 (xs.map ic)),(1,L 1 (ys.map ic)),(5,I i)],[[]],[]⟩ =
  if xs.drop i=ys.drop i then EvX C fr (.x 0) ⟨[(0,L 1 (xs.map ic)),(1,L 1 (ys.map ic)),(5,I xs.length),(14,Bo false)],[[]],[]⟩else EvX C fr .r ⟨[(4,Bo false)],[[]],[]⟩:=by
 have hm:xs.length<=4294967296:=h;refine down xs.length ?_ ?_
 .rw[Zd Zy5.eq_1];simp[hl,Ybd]
 .intro i hi ih;have hi2:i<ys.length:=by omega
  have h4:IntKind.wrap .i64 ((i:Int)+1)=(i:Int)+1:=Zw (by omega) (by omega);rw[Zd Zy5.eq_1];simp +decide[hi,hi2,h4];simp at ih;simp only[Zj1 hi hi2,ih];split<;>first|(simp_all;done)|grind
theorem Zoe(xs ys:List Int)(h:SmA xs):C Zbo9 [L 1 (xs.map ic),L 1 (ys.map ic)] []=some (Bo (decide (xs=ys)),[]):=by
 refine run Zb75 rfl ?_;by_cases hl:ys.length=xs.length
 .have h3:=λfr=>l_eqIntS xs ys h hl fr 0 (Ya _)
  simp at h3;simp[Z6x,h3,hl];split<;>simp_all
 .have h1:xs≠ys:=λh=>hl (by rw[h])
  have h2:¬((xs.length:Int)=ys.length):=by omega
  simp[Z6x,h1,h2]
@[simp] theorem Z7j(es:List (List T))(c:Int):C Zcep [L 1 es,I c] []=some (I (sz1 es.length c),[]):=by
 refine run Zcye rfl ?_;simp[Zb9y,sz1];split<;>simp_all
theorem Zcyt(xs:List (List Int))(h:SmL SmA xs)(fr:List Fr):∀i,i<=xs.length->EvL C fr [0,3,4] Z7f ⟨[(0,L 1 (xs.map isc)),(3,.own 0),(4,I i)],[[]],[.arr Zs9 1 true (fill isc [.lst 1 []] xs i)]⟩ =
  EvX C fr (.x 0) ⟨[(0,L 1 (xs.map isc)),(3,.own 0),(4,I xs.length),(11,Bo false)],[[]],[.arr Zs9 1 true (xs.map isc)]⟩:=by
 have hl:xs.length<=4294967296:=h.1;refine down xs.length ?_ ?_
 .rw[Zd Z7f.eq_1];simp[Zjy]
 .intro i hi ih;rw[Zd Z7f.eq_1,<-ih];have h1:=Zj0 (f:=isc) (z:=[.lst 1 []]) hi;have h3:=Zjz (f:=isc) (z:=[.lst 1 []]) (Yb9 hi);have h4:IntKind.wrap .i64 ((i:Int)+1)=(i:Int)+1:=Zw (by omega) (by omega);simp at h1;simp[hi,Zza _ (h.2 _ (Yb hi)),h3,h4,h1]
theorem Zcam(xs:List (List Int))(h:SmL SmA xs):C Zcex [L 1 (xs.map isc)] []=some (.own 0,[.arr Zs9 1 true (xs.map isc)]):=by
 refine run Zcym rfl ?_;have hl:xs.length<=4294967296:=h.1;have h1:∀b,b<=4096->xs.length*b<=room:=λb hb=>Y2 (Yb3 hl hb) (by decide)
 have h2:(xs.length:Int)<=140737488355328:=by omega
 have h3:=λfr=>Zcyt xs h fr 0 (Ya _)
 simp[Zjx]at h3;simp[Zcae,h1,h2,h3]
theorem Zcyu(xs ys:List (List Int))(h:SmL SmA xs)(hl:ys.length=xs.length)(fr:List Fr):∀i,i<=xs.length->EvL C fr [0,1,5] Z7h ⟨[(0,L 1 (xs.map isc)),(1,L 1 (ys.map isc)),(5,I i)],[[]],[]⟩ =
  if xs.drop i=ys.drop i then EvX C fr (.x 0) ⟨[(0,L 1 (xs.map isc)),(1,L 1 (ys.map isc)),(5,I xs.length),(14,Bo false)],[[]],[]⟩else EvX C fr .r ⟨[(4,Bo false)],[[]],[]⟩:=by
 have hm:xs.length<=4294967296:=h.1;refine down xs.length ?_ ?_
 .rw[Zd Z7h.eq_1];simp[hl,Ybd]
 .intro i hi ih;have hi2:i<ys.length:=by omega
  have h4:IntKind.wrap .i64 ((i:Int)+1)=(i:Int)+1:=Zw (by omega) (by omega);rw[Zd Z7h.eq_1];simp +decide[hi,hi2,Zoe _ _ (h.2 _ (Yb hi)),h4];simp at ih;simp only[Zj1 hi hi2,ih];split<;>first|(simp_all;done)|grind
theorem Zcan(xs ys:List (List Int))(h:SmL SmA xs):C Zcez [L 1 (xs.map isc),L 1 (ys.map isc)] []=some (Bo (decide (xs=ys)),[]):=by
 refine run Zcyo rfl ?_;by_cases hl:ys.length=xs.length
 .have h3:=λfr=>Zcyu xs ys h hl fr 0 (Ya _)
  simp at h3;simp[Zblp,h3,hl];split<;>simp_all
 .have h1:xs≠ys:=λh=>hl (by rw[h])
  have h2:¬((xs.length:Int)=ys.length):=by omega
  simp[Zblp,h1,h2]
theorem Zcyv(xs:List (List Int))(h:OkL (OkL OkI) xs)(fr:List Fr):∀i,i<=xs.length->∀left:Int,
  (EvL C fr [0,1,5] Zoc ⟨[(0,L 1 (xs.map isc)),(1,I left),(5,I i)],[[]],[]⟩=EvX C fr .r ⟨[(4,I (-1))],[[]],[]⟩/\Zbi szI (xs.drop i) left=-1)\/
  EvL C fr [0,1,5] Zoc ⟨[(0,L 1 (xs.map isc)),(1,I left),(5,I i)],[[]],[]⟩=EvX C fr (.x 0) ⟨[(0,L 1 (xs.map isc)),(1,I (Zbi szI (xs.drop i) left)),(5,I xs.length),(15,Bo false)],[[]],[]⟩:=by
 have hm:maxLen<=9223372036854775807:=by decide
 have hl:=h.1;refine down xs.length ?_ ?_
 .intro left;right;rw[Zd Zoc.eq_1];simp[Ybd,Zbi]
 .intro i hi ih left;have h4:IntKind.wrap .i64 ((i:Int)+1)=(i:Int)+1:=Zw (by omega) (by omega);have e:EvL C fr [0,1,5] Zoc ⟨[(0,L 1 (xs.map isc)),(1,I left),(5,I i)],[[]],[]⟩=if szI xs[i] left<0 then EvX C fr .r ⟨[(4,I (-1))],[[]],[]⟩else EvL C fr [0,1,5] Zoc ⟨[(0,L 1 (xs.map isc)),(1,I (szI xs[i] left)),(5,I ((i+1:Nat):Int))],[[]],[]⟩:=by
   rw[Zd Zoc.eq_1];simp[hi,Z7j,h4]
  rw[e,Yd hi,Zbi];split
  .exact .inl ⟨rfl,rfl⟩
  .exact ih _
theorem Zcao(xs:List (List Int))(c:Int)(h:OkL (OkL OkI) xs):C Zcev [L 1 (xs.map isc),I c] []=some (I (szL szI xs c),[]):=by
 refine run Zcyk rfl ?_;have h3:=λfr l=>Zcyv xs h fr 0 (Ya _) l
 simp at h3;simp[Zcaa,szL,Zz,sz1];split
 .simp_all
 .rcases h3 [.blk 0,.seq _,.fin _ _] (IntKind.wrap .i64 (c-xs.length))with⟨h5,h6⟩|h5
  .rw[h5];simp[h6]
  .rw[h5];simp
theorem Zcyw(x0:ByteArray)(x1:Int)(x2:List (List Int))(h2:SmL SmA x2):C Zceq [.agg [.t (.str x0),I x1,.t (tII x2)]] []=some (.agg [.t (.str x0),I x1,.own 0],[.arr Zs9 1 true (x2.map isc)]):=by
 refine run Zcyf rfl ?_;simp[Zb9z,Zcam _ h2]
theorem Zcyx(x0:ByteArray)(x1:Int)(x2:List (List Int))(y0:ByteArray)(y1:Int)(y2:List (List Int))(h2:SmL SmA x2):C Zcet [.agg [.t (.str x0),I x1,.t (tII x2)],.agg [.t (.str y0),I y1,.t (tII y2)]] []=some (Bo (decide (x0=y0/\x1=y1/\x2=y2)),[]):=by
 refine run Zcyi rfl ?_;simp[Zb93,Zcan _ _ h2]
 repeat' split
 all_goals first|(simp_all;done)|grind
theorem Zcyy(x0:ByteArray)(x1:Int)(x2:List (List Int))(c:Int)(h2:OkL (OkL OkI) x2):C Zcen [.agg [.t (.str x0),I x1,.t (tII x2)],I c] []=some (I (Ze.sz ⟨x0,x1,x2⟩ c),[]):=by
 refine run Zcyc rfl ?_;simp[Zb9w,Zcao _ _ h2,Ze.sz,Zz,sz1]
 repeat' split
 all_goals first|(simp_all;done)|grind
theorem Zcyz(xs:List Ze)(h:SmL Ze.Zq xs)(fr:List Fr):∀i,i<=xs.length->EvL C fr [0,3,4] Z68 ⟨[(0,L 3 (xs.map Ze.c)),(3,.own 0),(4,I i)],[[]],[.arr Ztb 3 true (fill Ze.c [.str ⟨#[]⟩,.int .i64 0,.lst 1 []] xs i)]⟩ =
  EvX C fr (.x 0) ⟨[(0,L 3 (xs.map Ze.c)),(3,.own 0),(4,I xs.length),(11,Bo false)],[[]],[.arr Ztb 3 true (xs.map Ze.c)]⟩:=by
 have hl:xs.length<=4294967296:=h.1;refine down xs.length ?_ ?_
 .rw[Zd Z68.eq_1];simp[Zjy]
 .intro i hi ih;rw[Zd Z68.eq_1,<-ih];have h1:=Zj0 (f:=Ze.c) (z:=[.str ⟨#[]⟩,.int .i64 0,.lst 1 []]) hi;have h3:=Zjz (f:=Ze.c) (z:=[.str ⟨#[]⟩,.int .i64 0,.lst 1 []]) (Yb9 hi);have h4:IntKind.wrap .i64 ((i:Int)+1)=(i:Int)+1:=Zw (by omega) (by omega);simp at h1;simp[hi,Zcyw _ _ _ (h.2 _ (Yb hi)).2,h3,h4,h1]
theorem Zcy0(xs:List Ze)(h:SmL Ze.Zq xs):C Zceb [L 3 (xs.map Ze.c)] []=some (.own 0,[.arr Ztb 3 true (xs.map Ze.c)]):=by
 refine run Zcx0 rfl ?_;have hl:xs.length<=4294967296:=h.1;have h1:∀b,b<=4096->xs.length*b<=room:=λb hb=>Y2 (Yb3 hl hb) (by decide)
 have h2:(xs.length:Int)<=140737488355328:=by omega
 have h3:=λfr=>Zcyz xs h fr 0 (Ya _)
 simp[Zjx]at h3;simp[Zb9f,h1,h2,h3]
theorem Zcy1(xs ys:List Ze)(h:SmL Ze.Zq xs)(hl:ys.length=xs.length)(fr:List Fr):∀i,i<=xs.length->EvL C fr [0,1,5] Z7a ⟨[(0,L 3 (xs.map Ze.c)),(1,L 3 (ys.map Ze.c)),(5,I i)],[[]],[]⟩ =
  if xs.drop i=ys.drop i then EvX C fr (.x 0) ⟨[(0,L 3 (xs.map Ze.c)),(1,L 3 (ys.map Ze.c)),(5,I xs.length),(14,Bo false)],[[]],[]⟩else EvX C fr .r ⟨[(4,Bo false)],[[]],[]⟩:=by
 have hm:xs.length<=4294967296:=h.1;refine down xs.length ?_ ?_
 .rw[Zd Z7a.eq_1];simp[hl,Ybd]
 .intro i hi ih;have hi2:i<ys.length:=by omega
  have h4:IntKind.wrap .i64 ((i:Int)+1)=(i:Int)+1:=Zw (by omega) (by omega);rw[Zd Z7a.eq_1];simp +decide[hi,hi2,Zcyx _ _ _ _ _ _ (h.2 _ (Yb hi)).2,h4];simp at ih;simp only[Zj1 hi hi2,ih,Ze.ext_iff];split<;>first|(simp_all;done)|grind
theorem Zcy2(xs ys:List Ze)(h:SmL Ze.Zq xs):C Zceg [L 3 (xs.map Ze.c),L 3 (ys.map Ze.c)] []=some (Bo (decide (xs=ys)),[]):=by
 refine run Zcx5 rfl ?_;by_cases hl:ys.length=xs.length
 .have h3:=λfr=>Zcy1 xs ys h hl fr 0 (Ya _)
  simp at h3;simp[Zblk,h3,hl];split<;>simp_all
 .have h1:xs≠ys:=λh=>hl (by rw[h])
  have h2:¬((xs.length:Int)=ys.length):=by omega
  simp[Zblk,h1,h2]
theorem Zcy3(xs:List Ze)(h:OkL Ze.okay xs)(fr:List Fr):∀i,i<=xs.length->∀left:Int,
  (EvL C fr [0,1,5] Zoa ⟨[(0,L 3 (xs.map Ze.c)),(1,I left),(5,I i)],[[]],[]⟩=EvX C fr .r ⟨[(4,I (-1))],[[]],[]⟩/\Zbi Ze.sz (xs.drop i) left=-1)\/
  EvL C fr [0,1,5] Zoa ⟨[(0,L 3 (xs.map Ze.c)),(1,I left),(5,I i)],[[]],[]⟩=EvX C fr (.x 0) ⟨[(0,L 3 (xs.map Ze.c)),(1,I (Zbi Ze.sz (xs.drop i) left)),(5,I xs.length),(15,Bo false)],[[]],[]⟩:=by
 have hm:maxLen<=9223372036854775807:=by decide
 have hl:=h.1;refine down xs.length ?_ ?_
 .intro left;right;rw[Zd Zoa.eq_1];simp[Ybd,Zbi]
 .intro i hi ih left;have h4:IntKind.wrap .i64 ((i:Int)+1)=(i:Int)+1:=Zw (by omega) (by omega);have e:EvL C fr [0,1,5] Zoa ⟨[(0,L 3 (xs.map Ze.c)),(1,I left),(5,I i)],[[]],[]⟩=if Ze.sz xs[i] left<0 then EvX C fr .r ⟨[(4,I (-1))],[[]],[]⟩else EvL C fr [0,1,5] Zoa ⟨[(0,L 3 (xs.map Ze.c)),(1,I (Ze.sz xs[i] left)),(5,I ((i+1:Nat):Int))],[[]],[]⟩:=by
   rw[Zd Zoa.eq_1];simp[hi,Zcyy _ _ _ _ (h.2 _ (Yb hi)).2.2,h4]
  rw[e,Yd hi,Zbi];split
  .exact .inl ⟨rfl,rfl⟩
  .exact ih _
theorem Zcy4(xs:List Ze)(cc:Int)(h:OkL Ze.okay xs):C Zcd6 [L 3 (xs.map Ze.c),I cc] []=some (I (szL Ze.sz xs cc),[]):=by
 refine run Zcxv rfl ?_;have h3:=λfr l=>Zcy3 xs h fr 0 (Ya _) l
 simp at h3;simp[Zb88,szL,Zz,sz1];split
 .simp_all
 .rcases h3 [.blk 0,.seq _,.fin _ _] (IntKind.wrap .i64 (cc-xs.length))with⟨h5,h6⟩|h5
  .rw[h5];simp[h6]
  .rw[h5];simp
theorem Zcy5(x0:List Ze)(h0:SmL Ze.Zq x0):C Zcdr [.agg [.t (.lst 3 (x0.map Ze.c))]] []=some (.agg [.own 0],[.arr Ztb 3 true (x0.map Ze.c)]):=by
 refine run Zcxg rfl ?_;simp[Zb8m,Zcy0 _ h0]
theorem Zcy6(x0 y0:List Ze)(h0:SmL Ze.Zq x0):C Zcdw [.agg [.t (.lst 3 (x0.map Ze.c))],.agg [.t (.lst 3 (y0.map Ze.c))]] []=some (Bo (decide (x0=y0)),[]):=by
 refine run Zcxl rfl ?_;simp[Zb8u,Zcy2 _ _ h0]
 repeat' split
 all_goals first|(simp_all;done)|grind
theorem Zcy7(x0:List Ze)(cc:Int)(h0:OkL Ze.okay x0):C Zcdm [.agg [.t (.lst 3 (x0.map Ze.c))],I cc] []=some (I (Zi.sz ⟨x0⟩ cc),[]):=by
 refine run Zcxb rfl ?_;simp[Zb8e,Zcy4 _ _ h0,Zi.sz,Zz,sz1]
 repeat' split
 all_goals first|(simp_all;done)|grind
theorem c_toAtom(x0:ByteArray)(x1:List Int)(h1:SmA x1):C Zcef [.agg [.t (.str x0),.t (tI x1)]] []=some (.agg [.t (.str x0),.own 0],[.arr Zbc 1 true (x1.map ic)]):=by
 refine run Zcx4 rfl ?_;simp[Zb9k,Zza _ h1]
theorem c_eqAtom(x0:ByteArray)(x1:List Int)(y0:ByteArray)(y1:List Int)(h1:SmA x1):C Zcek [.agg [.t (.str x0),.t (tI x1)],.agg [.t (.str y0),.t (tI y1)]] []=some (Bo (decide (x0=y0/\x1=y1)),[]):=by
 refine run Zcx9 rfl ?_;simp[Zb9p,Zoe _ _ h1]
 repeat' split
 all_goals first|(simp_all;done)|grind
theorem c_szAtom(x0:ByteArray)(x1:List Int)(c:Int) :C Zcea [.agg [.t (.str x0),.t (tI x1)],I c] []=some (I (Atom.sz ⟨x0,x1⟩ c),[]):=by
 refine run Zcxz rfl ?_;simp[Zb9d,Z7j,Atom.sz,Zz,sz1]
 repeat' split
 all_goals first|(simp_all;done)|grind
theorem Zcy8(xs:List Atom)(h:SmL Atom.Zq xs)(fr:List Fr):∀i,i<=xs.length->EvL C fr [0,3,4] Z61 ⟨[(0,L 2 (xs.map Atom.c)),(3,.own 0),(4,I i)],[[]],[.arr Z0r 2 true (fill Atom.c [.str ⟨#[]⟩,.lst 1 []] xs i)]⟩ =
  EvX C fr (.x 0) ⟨[(0,L 2 (xs.map Atom.c)),(3,.own 0),(4,I xs.length),(11,Bo false)],[[]],[.arr Z0r 2 true (xs.map Atom.c)]⟩:=by
 have hl:xs.length<=4294967296:=h.1;refine down xs.length ?_ ?_
 .rw[Zd Z61.eq_1];simp[Zjy]
 .intro i hi ih;rw[Zd Z61.eq_1,<-ih];have h1:=Zj0 (f:=Atom.c) (z:=[.str ⟨#[]⟩,.lst 1 []]) hi;have h3:=Zjz (f:=Atom.c) (z:=[.str ⟨#[]⟩,.lst 1 []]) (Yb9 hi);have h4:IntKind.wrap .i64 ((i:Int)+1)=(i:Int)+1:=Zw (by omega) (by omega);simp at h1;simp[hi,c_toAtom _ _ (h.2 _ (Yb hi)).2,h3,h4,h1]
theorem Zcy9(xs:List Atom)(h:SmL Atom.Zq xs):C Zcdv [L 2 (xs.map Atom.c)] []=some (.own 0,[.arr Z0r 2 true (xs.map Atom.c)]):=by
 refine run Zcxk rfl ?_;have hl:xs.length<=4294967296:=h.1;have h1:∀b,b<=4096->xs.length*b<=room:=λb hb=>Y2 (Yb3 hl hb) (by decide)
 have h2:(xs.length:Int)<=140737488355328:=by omega
 have h3:=λfr=>Zcy8 xs h fr 0 (Ya _)
 simp[Zjx]at h3;simp[Zb8t,h1,h2,h3]
theorem Zcza(xs ys:List Atom)(h:SmL Atom.Zq xs)(hl:ys.length=xs.length)(fr:List Fr):∀i,i<=xs.length->EvL C fr [0,1,5] Z64 ⟨[(0,L 2 (xs.map Atom.c)),(1,L 2 (ys.map Atom.c)),(5,I i)],[[]],[]⟩ =
  if xs.drop i=ys.drop i then EvX C fr (.x 0) ⟨[(0,L 2 (xs.map Atom.c)),(1,L 2 (ys.map Atom.c)),(5,I xs.length),(14,Bo false)],[[]],[]⟩else EvX C fr .r ⟨[(4,Bo false)],[[]],[]⟩:=by
 have hm:xs.length<=4294967296:=h.1;refine down xs.length ?_ ?_
 .rw[Zd Z64.eq_1];simp[hl,Ybd]
 .intro i hi ih;have hi2:i<ys.length:=by omega
  have h4:IntKind.wrap .i64 ((i:Int)+1)=(i:Int)+1:=Zw (by omega) (by omega);rw[Zd Z64.eq_1];simp +decide[hi,hi2,c_eqAtom _ _ _ _ (h.2 _ (Yb hi)).2,h4];simp at ih;simp only[Zj1 hi hi2,ih,Atom.ext_iff];split<;>first|(simp_all;done)|grind
theorem Zczb(xs ys:List Atom)(h:SmL Atom.Zq xs):C Zcd0 [L 2 (xs.map Atom.c),L 2 (ys.map Atom.c)] []=some (Bo (decide (xs=ys)),[]):=by
 refine run Zcxp rfl ?_;by_cases hl:ys.length=xs.length
 .have h3:=λfr=>Zcza xs ys h hl fr 0 (Ya _)
  simp at h3;simp[Zblj,h3,hl];split<;>simp_all
 .have h1:xs≠ys:=λh=>hl (by rw[h])
  have h2:¬((xs.length:Int)=ys.length):=by omega
  simp[Zblj,h1,h2]
theorem Zczc(xs:List Atom)(h:OkL Atom.okay xs)(fr:List Fr):∀i,i<=xs.length->∀left:Int,
  (EvL C fr [0,1,5] Zn9 ⟨[(0,L 2 (xs.map Atom.c)),(1,I left),(5,I i)],[[]],[]⟩=EvX C fr .r ⟨[(4,I (-1))],[[]],[]⟩/\Zbi Atom.sz (xs.drop i) left=-1)\/
  EvL C fr [0,1,5] Zn9 ⟨[(0,L 2 (xs.map Atom.c)),(1,I left),(5,I i)],[[]],[]⟩=EvX C fr (.x 0) ⟨[(0,L 2 (xs.map Atom.c)),(1,I (Zbi Atom.sz (xs.drop i) left)),(5,I xs.length),(15,Bo false)],[[]],[]⟩:=by
 have hm:maxLen<=9223372036854775807:=by decide
 have hl:=h.1;refine down xs.length ?_ ?_
 .intro left;right;rw[Zd Zn9.eq_1];simp[Ybd,Zbi]
 .intro i hi ih left;have h4:IntKind.wrap .i64 ((i:Int)+1)=(i:Int)+1:=Zw (by omega) (by omega);have e:EvL C fr [0,1,5] Zn9 ⟨[(0,L 2 (xs.map Atom.c)),(1,I left),(5,I i)],[[]],[]⟩=if Atom.sz xs[i] left<0 then EvX C fr .r ⟨[(4,I (-1))],[[]],[]⟩else EvL C fr [0,1,5] Zn9 ⟨[(0,L 2 (xs.map Atom.c)),(1,I (Atom.sz xs[i] left)),(5,I ((i+1:Nat):Int))],[[]],[]⟩:=by
   rw[Zd Zn9.eq_1];simp[hi,c_szAtom,h4]
  rw[e,Yd hi,Zbi];split
  .exact .inl ⟨rfl,rfl⟩
  .exact ih _
theorem Zczd(xs:List Atom)(cc:Int)(h:OkL Atom.okay xs):C Zcdq [L 2 (xs.map Atom.c),I cc] []=some (I (szL Atom.sz xs cc),[]):=by
 refine run Zcxf rfl ?_;have h3:=λfr l=>Zczc xs h fr 0 (Ya _) l
 simp at h3;simp[Zb8l,szL,Zz,sz1];split
 .simp_all
 .rcases h3 [.blk 0,.seq _,.fin _ _] (IntKind.wrap .i64 (cc-xs.length))with⟨h5,h6⟩|h5
  .rw[h5];simp[h6]
  .rw[h5];simp
theorem Zcze(x0:Int)(x1:List Atom)(h1:SmL Atom.Zq x1):C Zcdh [.agg [I x0,.t (.lst 2 (x1.map Atom.c))]] []=some (.agg [I x0,.own 0],[.arr Z0r 2 true (x1.map Atom.c)]):=by
 refine run Zcw6 rfl ?_;simp[Zb71,Zcy9 _ h1]
theorem Zczf(x0:Int)(x1:List Atom)(y0:Int)(y1:List Atom)(h1:SmL Atom.Zq x1):C Zcdj [.agg [I x0,.t (.lst 2 (x1.map Atom.c))],.agg [I y0,.t (.lst 2 (y1.map Atom.c))]] []=some (Bo (decide (x0=y0/\x1=y1)),[]):=by
 refine run Zcw8 rfl ?_;simp[Zb73,Zczb _ _ h1]
 repeat' split
 all_goals first|(simp_all;done)|grind
theorem Zczg(x0:Int)(x1:List Atom)(cc:Int)(h1:OkL Atom.okay x1):C Zcdf [.agg [I x0,.t (.lst 2 (x1.map Atom.c))],I cc] []=some (I (Zc.sz ⟨x0,x1⟩ cc),[]):=by
 refine run Zcw4 rfl ?_;simp[Zb7z,Zczd _ _ h1,Zc.sz,Zz,sz1]
 repeat' split
 all_goals first|(simp_all;done)|grind
theorem Zczh(x0:ByteArray)(x1:List Int)(x2:Int)(h1:SmA x1):C Zced [.agg [.t (.str x0),.t (tI x1),I x2]] []=some (.agg [.t (.str x0),.own 0,I x2],[.arr Zbc 1 true (x1.map ic)]):=by
 refine run Zcx2 rfl ?_;simp[Zb9i,Zza _ h1]
theorem Zczi(x0:ByteArray)(x1:List Int)(x2:Int)(y0:ByteArray)(y1:List Int)(y2:Int)(h1:SmA x1):C Zcei [.agg [.t (.str x0),.t (tI x1),I x2],.agg [.t (.str y0),.t (tI y1),I y2]] []=some (Bo (decide (x0=y0/\x1=y1/\x2=y2)),[]):=by
 refine run Zcx7 rfl ?_;simp[Zb9n,Zoe _ _ h1]
 repeat' split
 all_goals first|(simp_all;done)|grind
theorem Zczj(x0:ByteArray)(x1:List Int)(x2 c:Int) :C Zcd8 [.agg [.t (.str x0),.t (tI x1),I x2],I c] []=some (I (Zk.sz ⟨x0,x1,x2⟩ c),[]):=by
 refine run Zcxx rfl ?_;simp[Zb9b,Z7j,Zk.sz,Zz,sz1]
 repeat' split
 all_goals first|(simp_all;done)|grind
theorem Zczk(x0:ByteArray)(x1:Int)(x2:ByteArray)(x3:Int) :C Zcee [.agg [.t (.str x0),I x1,.t (.str x2),I x3]] []=some (.agg [.t (.str x0),I x1,.t (.str x2),I x3],[]):=by
 refine run Zcx3 rfl ?_;simp[Zb9j]
theorem Zczl(x0:ByteArray)(x1:Int)(x2:ByteArray)(x3:Int)(y0:ByteArray)(y1:Int)(y2:ByteArray)(y3:Int) :C Zcej [.agg [.t (.str x0),I x1,.t (.str x2),I x3],.agg [.t (.str y0),I y1,.t (.str y2),I y3]] []=some (Bo (decide (x0=y0/\x1=y1/\x2=y2/\x3=y3)),[]):=by
 refine run Zcx8 rfl ?_;simp[Zb9o]
 repeat' split
 all_goals first|(simp_all;done)|grind
theorem Zczm(x0:ByteArray)(x1:Int)(x2:ByteArray)(x3 c:Int) :C Zcd9 [.agg [.t (.str x0),I x1,.t (.str x2),I x3],I c] []=some (I (Zj.sz ⟨x0,x1,x2,x3⟩ c),[]):=by
 refine run Zcxy rfl ?_;simp[Zb9c,Zj.sz,Zz,sz1]
 repeat' split
 all_goals first|(simp_all;done)|grind
theorem Zczn(x0:List Int)(x1:List (List Int))(x2:List Int)(h0:SmA x0)(h1:SmL SmA x1)(h2:SmA x2):C Zce2 [.agg [.t (tI x0),.t (tII x1),.t (tI x2)]] []=some (.agg [.own 0,.own 1,.own 2],[.arr Zbc 1 true (x0.map ic),.arr Zs9 1 true (x1.map isc),.arr Zbc 1 true (x2.map ic)]):=by
 refine run Zcyr rfl ?_;simp[Zcak,Zza _ h0,Zcam _ h1,Zza _ h2]
theorem Zczo(x0:List Int)(x1:List (List Int))(x2 y0:List Int)(y1:List (List Int))(y2:List Int)(h0:SmA x0)(h1:SmL SmA x1)(h2:SmA x2):C Zce3 [.agg [.t (tI x0),.t (tII x1),.t (tI x2)],.agg [.t (tI y0),.t (tII y1),.t (tI y2)]] []=some (Bo (decide (x0=y0/\x1=y1/\x2=y2)),[]):=by
 refine run Zcys rfl ?_;simp[Zcal,Zoe _ _ h0,Zcan _ _ h1,Zoe _ _ h2]
 repeat' split
 all_goals first|(simp_all;done)|grind
theorem Zczp(x0:List Int)(x1:List (List Int))(x2:List Int)(c:Int)(h1:OkL (OkL OkI) x1):C Zce1 [.agg [.t (tI x0),.t (tII x1),.t (tI x2)],I c] []=some (I (Zg.sz ⟨x0,x1,x2⟩ c),[]):=by
 refine run Zcyq rfl ?_;simp[Zcaj,Z7j,Zcao _ _ h1,Zg.sz,Zz,sz1]
 repeat' split
 all_goals first|(simp_all;done)|grind
theorem Zczq(xs:List Zg)(h:SmL Zg.Zq xs)(fr:List Fr):∀i,i<=xs.length->EvL C fr [0,3,4] Z7g ⟨[(0,L 3 (xs.map Zg.c)),(3,.own 0),(4,I i)],[[]],[.arr Z0s 3 true (fill Zg.c [.lst 1 [],.lst 1 [],.lst 1 []] xs i)]⟩ =
  EvX C fr (.x 0) ⟨[(0,L 3 (xs.map Zg.c)),(3,.own 0),(4,I xs.length),(11,Bo false)],[[]],[.arr Z0s 3 true (xs.map Zg.c)]⟩:=by
 have hl:xs.length<=4294967296:=h.1;refine down xs.length ?_ ?_
 .rw[Zd Z7g.eq_1];simp[Zjy]
 .intro i hi ih;rw[Zd Z7g.eq_1,<-ih];have h1:=Zj0 (f:=Zg.c) (z:=[.lst 1 [],.lst 1 [],.lst 1 []]) hi;have h3:=Zjz (f:=Zg.c) (z:=[.lst 1 [],.lst 1 [],.lst 1 []]) (Yb9 hi);have h4:IntKind.wrap .i64 ((i:Int)+1)=(i:Int)+1:=Zw (by omega) (by omega);simp at h1;simp[hi,Zczn _ _ _ (h.2 _ (Yb hi)).1 (h.2 _ (Yb hi)).2.1 (h.2 _ (Yb hi)).2.2,h3,h4,h1]
theorem Zczr(xs:List Zg)(h:SmL Zg.Zq xs):C Zcey [L 3 (xs.map Zg.c)] []=some (.own 0,[.arr Z0s 3 true (xs.map Zg.c)]):=by
 refine run Zcyn rfl ?_;have hl:xs.length<=4294967296:=h.1;have h1:∀b,b<=4096->xs.length*b<=room:=λb hb=>Y2 (Yb3 hl hb) (by decide)
 have h2:(xs.length:Int)<=140737488355328:=by omega
 have h3:=λfr=>Zczq xs h fr 0 (Ya _)
 simp[Zjx]at h3;simp[Zcag,h1,h2,h3]
theorem Zczs(xs ys:List Zg)(h:SmL Zg.Zq xs)(hl:ys.length=xs.length)(fr:List Fr):∀i,i<=xs.length->EvL C fr [0,1,5] Z7i ⟨[(0,L 3 (xs.map Zg.c)),(1,L 3 (ys.map Zg.c)),(5,I i)],[[]],[]⟩ =
  if xs.drop i=ys.drop i then EvX C fr (.x 0) ⟨[(0,L 3 (xs.map Zg.c)),(1,L 3 (ys.map Zg.c)),(5,I xs.length),(14,Bo false)],[[]],[]⟩else EvX C fr .r ⟨[(4,Bo false)],[[]],[]⟩:=by
 have hm:xs.length<=4294967296:=h.1;refine down xs.length ?_ ?_
 .rw[Zd Z7i.eq_1];simp[hl,Ybd]
 .intro i hi ih;have hi2:i<ys.length:=by omega
  have h4:IntKind.wrap .i64 ((i:Int)+1)=(i:Int)+1:=Zw (by omega) (by omega);rw[Zd Z7i.eq_1];simp +decide[hi,hi2,Zczo _ _ _ _ _ _ (h.2 _ (Yb hi)).1 (h.2 _ (Yb hi)).2.1 (h.2 _ (Yb hi)).2.2,h4];simp at ih;simp only[Zj1 hi hi2,ih,Zg.ext_iff];split<;>first|(simp_all;done)|grind
theorem Zczt(xs ys:List Zg)(h:SmL Zg.Zq xs):C Zce0 [L 3 (xs.map Zg.c),L 3 (ys.map Zg.c)] []=some (Bo (decide (xs=ys)),[]):=by
 refine run Zcyp rfl ?_;by_cases hl:ys.length=xs.length
 .have h3:=λfr=>Zczs xs ys h hl fr 0 (Ya _)
  simp at h3;simp[Zblq,h3,hl];split<;>simp_all
 .have h1:xs≠ys:=λh=>hl (by rw[h])
  have h2:¬((xs.length:Int)=ys.length):=by omega
  simp[Zblq,h1,h2]
theorem Zczu(xs:List Zg)(h:OkL Zg.okay xs)(fr:List Fr):∀i,i<=xs.length->∀left:Int,
  (EvL C fr [0,1,5] Zod ⟨[(0,L 3 (xs.map Zg.c)),(1,I left),(5,I i)],[[]],[]⟩=EvX C fr .r ⟨[(4,I (-1))],[[]],[]⟩/\Zbi Zg.sz (xs.drop i) left=-1)\/
  EvL C fr [0,1,5] Zod ⟨[(0,L 3 (xs.map Zg.c)),(1,I left),(5,I i)],[[]],[]⟩=EvX C fr (.x 0) ⟨[(0,L 3 (xs.map Zg.c)),(1,I (Zbi Zg.sz (xs.drop i) left)),(5,I xs.length),(15,Bo false)],[[]],[]⟩:=by
 have hm:maxLen<=9223372036854775807:=by decide
 have hl:=h.1;refine down xs.length ?_ ?_
 .intro left;right;rw[Zd Zod.eq_1];simp[Ybd,Zbi]
 .intro i hi ih left;have h4:IntKind.wrap .i64 ((i:Int)+1)=(i:Int)+1:=Zw (by omega) (by omega);have e:EvL C fr [0,1,5] Zod ⟨[(0,L 3 (xs.map Zg.c)),(1,I left),(5,I i)],[[]],[]⟩=if Zg.sz xs[i] left<0 then EvX C fr .r ⟨[(4,I (-1))],[[]],[]⟩else EvL C fr [0,1,5] Zod ⟨[(0,L 3 (xs.map Zg.c)),(1,I (Zg.sz xs[i] left)),(5,I ((i+1:Nat):Int))],[[]],[]⟩:=by
   rw[Zd Zod.eq_1];simp[hi,Zczp _ _ _ _ (h.2 _ (Yb hi)).2.1,h4]
  rw[e,Yd hi,Zbi];split
  .exact .inl ⟨rfl,rfl⟩
  .exact ih _
theorem Zczv(xs:List Zg)(cc:Int)(h:OkL Zg.okay xs):C Zcew [L 3 (xs.map Zg.c),I cc] []=some (I (szL Zg.sz xs cc),[]):=by
 refine run Zcyl rfl ?_;have h3:=λfr l=>Zczu xs h fr 0 (Ya _) l
 simp at h3;simp[Zcac,szL,Zz,sz1];split
 .simp_all
 .rcases h3 [.blk 0,.seq _,.fin _ _] (IntKind.wrap .i64 (cc-xs.length))with⟨h5,h6⟩|h5
  .rw[h5];simp[h6]
  .rw[h5];simp
theorem Zczw(x0:ByteArray)(x1 x2:Int)(x3:List Zg)(h3:SmL Zg.Zq x3):C Zcer [.agg [.t (.str x0),I x1,I x2,.t (.lst 3 (x3.map Zg.c))]] []=some (.agg [.t (.str x0),I x1,I x2,.own 0],[.arr Z0s 3 true (x3.map Zg.c)]):=by
 refine run Zcyg rfl ?_;simp[Zb90,Zczr _ h3]
theorem Zczx(x0:ByteArray)(x1 x2:Int)(x3:List Zg)(y0:ByteArray)(y1 y2:Int)(y3:List Zg)(h3:SmL Zg.Zq x3):C Zceu [.agg [.t (.str x0),I x1,I x2,.t (.lst 3 (x3.map Zg.c))],.agg [.t (.str y0),I y1,I y2,.t (.lst 3 (y3.map Zg.c))]] []=some (Bo (decide (x0=y0/\x1=y1/\x2=y2/\x3=y3)),[]):=by
 refine run Zcyj rfl ?_;simp[Zb94,Zczt _ _ h3]
 repeat' split
 all_goals first|(simp_all;done)|grind
theorem Zczy(x0:ByteArray)(x1 x2:Int)(x3:List Zg)(cc:Int)(h3:OkL Zg.okay x3):C Zceo [.agg [.t (.str x0),I x1,I x2,.t (.lst 3 (x3.map Zg.c))],I cc] []=some (I (Zf.sz ⟨x0,x1,x2,x3⟩ cc),[]):=by
 refine run Zcyd rfl ?_;simp[Zb9x,Zczv _ _ h3,Zf.sz,Zz,sz1]
 repeat' split
 all_goals first|(simp_all;done)|grind
theorem Zczz(xs:List Zf)(h:SmL Zf.Zq xs)(fr:List Fr):∀i,i<=xs.length->EvL C fr [0,3,4] Z69 ⟨[(0,L 4 (xs.map Zf.c)),(3,.own 0),(4,I i)],[[]],[.arr Zta 4 true (fill Zf.c [.str ⟨#[]⟩,.int .i64 0,.int .i64 0,.lst 3 []] xs i)]⟩ =
  EvX C fr (.x 0) ⟨[(0,L 4 (xs.map Zf.c)),(3,.own 0),(4,I xs.length),(11,Bo false)],[[]],[.arr Zta 4 true (xs.map Zf.c)]⟩:=by
 have hl:xs.length<=4294967296:=h.1;refine down xs.length ?_ ?_
 .rw[Zd Z69.eq_1];simp[Zjy]
 .intro i hi ih;rw[Zd Z69.eq_1,<-ih];have h1:=Zj0 (f:=Zf.c) (z:=[.str ⟨#[]⟩,.int .i64 0,.int .i64 0,.lst 3 []]) hi;have h3:=Zjz (f:=Zf.c) (z:=[.str ⟨#[]⟩,.int .i64 0,.int .i64 0,.lst 3 []]) (Yb9 hi);have h4:IntKind.wrap .i64 ((i:Int)+1)=(i:Int)+1:=Zw (by omega) (by omega);simp at h1;simp[hi,Zczw _ _ _ _ (h.2 _ (Yb hi)).2,h3,h4,h1]
theorem Zcz0(xs:List Zf)(h:SmL Zf.Zq xs):C Zcec [L 4 (xs.map Zf.c)] []=some (.own 0,[.arr Zta 4 true (xs.map Zf.c)]):=by
 refine run Zcx1 rfl ?_;have hl:xs.length<=4294967296:=h.1;have h1:∀b,b<=4096->xs.length*b<=room:=λb hb=>Y2 (Yb3 hl hb) (by decide)
 have h2:(xs.length:Int)<=140737488355328:=by omega
 have h3:=λfr=>Zczz xs h fr 0 (Ya _)
 simp[Zjx]at h3;simp[Zb9h,h1,h2,h3]
theorem Zcz1(xs ys:List Zf)(h:SmL Zf.Zq xs)(hl:ys.length=xs.length)(fr:List Fr):∀i,i<=xs.length->EvL C fr [0,1,5] Z7b ⟨[(0,L 4 (xs.map Zf.c)),(1,L 4 (ys.map Zf.c)),(5,I i)],[[]],[]⟩ =
  if xs.drop i=ys.drop i then EvX C fr (.x 0) ⟨[(0,L 4 (xs.map Zf.c)),(1,L 4 (ys.map Zf.c)),(5,I xs.length),(14,Bo false)],[[]],[]⟩else EvX C fr .r ⟨[(4,Bo false)],[[]],[]⟩:=by
 have hm:xs.length<=4294967296:=h.1;refine down xs.length ?_ ?_
 .rw[Zd Z7b.eq_1];simp[hl,Ybd]
 .intro i hi ih;have hi2:i<ys.length:=by omega
  have h4:IntKind.wrap .i64 ((i:Int)+1)=(i:Int)+1:=Zw (by omega) (by omega);rw[Zd Z7b.eq_1];simp +decide[hi,hi2,Zczx _ _ _ _ _ _ _ _ (h.2 _ (Yb hi)).2,h4];simp at ih;simp only[Zj1 hi hi2,ih,Zf.ext_iff];split<;>first|(simp_all;done)|grind
theorem Zcz2(xs ys:List Zf)(h:SmL Zf.Zq xs):C Zceh [L 4 (xs.map Zf.c),L 4 (ys.map Zf.c)] []=some (Bo (decide (xs=ys)),[]):=by
 refine run Zcx6 rfl ?_;by_cases hl:ys.length=xs.length
 .have h3:=λfr=>Zcz1 xs ys h hl fr 0 (Ya _)
  simp at h3;simp[Zbll,h3,hl];split<;>simp_all
 .have h1:xs≠ys:=λh=>hl (by rw[h])
  have h2:¬((xs.length:Int)=ys.length):=by omega
  simp[Zbll,h1,h2]
theorem Zcz3(xs:List Zf)(h:OkL Zf.okay xs)(fr:List Fr):∀i,i<=xs.length->∀left:Int,
  (EvL C fr [0,1,5] Zob ⟨[(0,L 4 (xs.map Zf.c)),(1,I left),(5,I i)],[[]],[]⟩=EvX C fr .r ⟨[(4,I (-1))],[[]],[]⟩/\Zbi Zf.sz (xs.drop i) left=-1)\/
  EvL C fr [0,1,5] Zob ⟨[(0,L 4 (xs.map Zf.c)),(1,I left),(5,I i)],[[]],[]⟩=EvX C fr (.x 0) ⟨[(0,L 4 (xs.map Zf.c)),(1,I (Zbi Zf.sz (xs.drop i) left)),(5,I xs.length),(15,Bo false)],[[]],[]⟩:=by
 have hm:maxLen<=9223372036854775807:=by decide
 have hl:=h.1;refine down xs.length ?_ ?_
 .intro left;right;rw[Zd Zob.eq_1];simp[Ybd,Zbi]
 .intro i hi ih left;have h4:IntKind.wrap .i64 ((i:Int)+1)=(i:Int)+1:=Zw (by omega) (by omega);have e:EvL C fr [0,1,5] Zob ⟨[(0,L 4 (xs.map Zf.c)),(1,I left),(5,I i)],[[]],[]⟩=if Zf.sz xs[i] left<0 then EvX C fr .r ⟨[(4,I (-1))],[[]],[]⟩else EvL C fr [0,1,5] Zob ⟨[(0,L 4 (xs.map Zf.c)),(1,I (Zf.sz xs[i] left)),(5,I ((i+1:Nat):Int))],[[]],[]⟩:=by
   rw[Zd Zob.eq_1];simp[hi,Zczy _ _ _ _ _ (h.2 _ (Yb hi)).2.2.2,h4]
  rw[e,Yd hi,Zbi];split
  .exact .inl ⟨rfl,rfl⟩
  .exact ih _
theorem Zcz4(xs:List Zf)(cc:Int)(h:OkL Zf.okay xs):C Zcd7 [L 4 (xs.map Zf.c),I cc] []=some (I (szL Zf.sz xs cc),[]):=by
 refine run Zcxw rfl ?_;have h3:=λfr l=>Zcz3 xs h fr 0 (Ya _) l
 simp at h3;simp[Zb9a,szL,Zz,sz1];split
 .simp_all
 .rcases h3 [.blk 0,.seq _,.fin _ _] (IntKind.wrap .i64 (cc-xs.length))with⟨h5,h6⟩|h5
  .rw[h5];simp[h6]
  .rw[h5];simp
theorem Zcz5(x0:Int)(x1:List Zf)(h1:SmL Zf.Zq x1):C Zcds [.agg [I x0,.t (.lst 4 (x1.map Zf.c))]] []=some (.agg [I x0,.own 0],[.arr Zta 4 true (x1.map Zf.c)]):=by
 refine run Zcxh rfl ?_;simp[Zb8n,Zcz0 _ h1]
theorem Zcz6(x0:Int)(x1:List Zf)(y0:Int)(y1:List Zf)(h1:SmL Zf.Zq x1):C Zcdx [.agg [I x0,.t (.lst 4 (x1.map Zf.c))],.agg [I y0,.t (.lst 4 (y1.map Zf.c))]] []=some (Bo (decide (x0=y0/\x1=y1)),[]):=by
 refine run Zcxm rfl ?_;simp[Zb8v,Zcz2 _ _ h1]
 repeat' split
 all_goals first|(simp_all;done)|grind
theorem Zcz7(x0:Int)(x1:List Zf)(cc:Int)(h1:OkL Zf.okay x1):C Zcdn [.agg [I x0,.t (.lst 4 (x1.map Zf.c))],I cc] []=some (I (Zl.sz ⟨x0,x1⟩ cc),[]):=by
 refine run Zcxc rfl ?_;simp[Zb8f,Zcz4 _ _ h1,Zl.sz,Zz,sz1]
 repeat' split
 all_goals first|(simp_all;done)|grind
theorem Zcz8(xs:List Zk)(h:SmL Zk.Zq xs)(fr:List Fr):∀i,i<=xs.length->EvL C fr [0,3,4] Z6z ⟨[(0,L 3 (xs.map Zk.c)),(3,.own 0),(4,I i)],[[]],[.arr Z0p 3 true (fill Zk.c [.str ⟨#[]⟩,.lst 1 [],.int .i64 0] xs i)]⟩ =
  EvX C fr (.x 0) ⟨[(0,L 3 (xs.map Zk.c)),(3,.own 0),(4,I xs.length),(11,Bo false)],[[]],[.arr Z0p 3 true (xs.map Zk.c)]⟩:=by
 have hl:xs.length<=4294967296:=h.1;refine down xs.length ?_ ?_
 .rw[Zd Z6z.eq_1];simp[Zjy]
 .intro i hi ih;rw[Zd Z6z.eq_1,<-ih];have h1:=Zj0 (f:=Zk.c) (z:=[.str ⟨#[]⟩,.lst 1 [],.int .i64 0]) hi;have h3:=Zjz (f:=Zk.c) (z:=[.str ⟨#[]⟩,.lst 1 [],.int .i64 0]) (Yb9 hi);have h4:IntKind.wrap .i64 ((i:Int)+1)=(i:Int)+1:=Zw (by omega) (by omega);simp at h1;simp[hi,Zczh _ _ _ (h.2 _ (Yb hi)).2,h3,h4,h1]
theorem Zcz9(xs:List Zk)(h:SmL Zk.Zq xs):C Zcdt [L 3 (xs.map Zk.c)] []=some (.own 0,[.arr Z0p 3 true (xs.map Zk.c)]):=by
 refine run Zcxi rfl ?_;have hl:xs.length<=4294967296:=h.1;have h1:∀b,b<=4096->xs.length*b<=room:=λb hb=>Y2 (Yb3 hl hb) (by decide)
 have h2:(xs.length:Int)<=140737488355328:=by omega
 have h3:=λfr=>Zcz8 xs h fr 0 (Ya _)
 simp[Zjx]at h3;simp[Zb8p,h1,h2,h3]
theorem Zc0a(xs ys:List Zk)(h:SmL Zk.Zq xs)(hl:ys.length=xs.length)(fr:List Fr):∀i,i<=xs.length->EvL C fr [0,1,5] Z62 ⟨[(0,L 3 (xs.map Zk.c)),(1,L 3 (ys.map Zk.c)),(5,I i)],[[]],[]⟩ =
  if xs.drop i=ys.drop i then EvX C fr (.x 0) ⟨[(0,L 3 (xs.map Zk.c)),(1,L 3 (ys.map Zk.c)),(5,I xs.length),(14,Bo false)],[[]],[]⟩else EvX C fr .r ⟨[(4,Bo false)],[[]],[]⟩:=by
 have hm:xs.length<=4294967296:=h.1;refine down xs.length ?_ ?_
 .rw[Zd Z62.eq_1];simp[hl,Ybd]
 .intro i hi ih;have hi2:i<ys.length:=by omega
  have h4:IntKind.wrap .i64 ((i:Int)+1)=(i:Int)+1:=Zw (by omega) (by omega);rw[Zd Z62.eq_1];simp +decide[hi,hi2,Zczi _ _ _ _ _ _ (h.2 _ (Yb hi)).2,h4];simp at ih;simp only[Zj1 hi hi2,ih,Zk.ext_iff];split<;>first|(simp_all;done)|grind
theorem Zc0b(xs ys:List Zk)(h:SmL Zk.Zq xs):C Zcdy [L 3 (xs.map Zk.c),L 3 (ys.map Zk.c)] []=some (Bo (decide (xs=ys)),[]):=by
 refine run Zcxn rfl ?_;by_cases hl:ys.length=xs.length
 .have h3:=λfr=>Zc0a xs ys h hl fr 0 (Ya _)
  simp at h3;simp[Zblh,h3,hl];split<;>simp_all
 .have h1:xs≠ys:=λh=>hl (by rw[h])
  have h2:¬((xs.length:Int)=ys.length):=by omega
  simp[Zblh,h1,h2]
theorem Zc0c(xs:List Zk)(h:OkL Zk.okay xs)(fr:List Fr):∀i,i<=xs.length->∀left:Int,
  (EvL C fr [0,1,5] Zn7 ⟨[(0,L 3 (xs.map Zk.c)),(1,I left),(5,I i)],[[]],[]⟩=EvX C fr .r ⟨[(4,I (-1))],[[]],[]⟩/\Zbi Zk.sz (xs.drop i) left=-1)\/
  EvL C fr [0,1,5] Zn7 ⟨[(0,L 3 (xs.map Zk.c)),(1,I left),(5,I i)],[[]],[]⟩=EvX C fr (.x 0) ⟨[(0,L 3 (xs.map Zk.c)),(1,I (Zbi Zk.sz (xs.drop i) left)),(5,I xs.length),(15,Bo false)],[[]],[]⟩:=by
 have hm:maxLen<=9223372036854775807:=by decide
 have hl:=h.1;refine down xs.length ?_ ?_
 .intro left;right;rw[Zd Zn7.eq_1];simp[Ybd,Zbi]
 .intro i hi ih left;have h4:IntKind.wrap .i64 ((i:Int)+1)=(i:Int)+1:=Zw (by omega) (by omega);have e:EvL C fr [0,1,5] Zn7 ⟨[(0,L 3 (xs.map Zk.c)),(1,I left),(5,I i)],[[]],[]⟩=if Zk.sz xs[i] left<0 then EvX C fr .r ⟨[(4,I (-1))],[[]],[]⟩else EvL C fr [0,1,5] Zn7 ⟨[(0,L 3 (xs.map Zk.c)),(1,I (Zk.sz xs[i] left)),(5,I ((i+1:Nat):Int))],[[]],[]⟩:=by
   rw[Zd Zn7.eq_1];simp[hi,Zczj,h4]
  rw[e,Yd hi,Zbi];split
  .exact .inl ⟨rfl,rfl⟩
  .exact ih _
theorem Zc0d(xs:List Zk)(cc:Int)(h:OkL Zk.okay xs):C Zcdo [L 3 (xs.map Zk.c),I cc] []=some (I (szL Zk.sz xs cc),[]):=by
 refine run Zcxd rfl ?_;have h3:=λfr l=>Zc0c xs h fr 0 (Ya _) l
 simp at h3;simp[Zb8h,szL,Zz,sz1];split
 .simp_all
 .rcases h3 [.blk 0,.seq _,.fin _ _] (IntKind.wrap .i64 (cc-xs.length))with⟨h5,h6⟩|h5
  .rw[h5];simp[h6]
  .rw[h5];simp
theorem Zc0e(xs:List Zj)(h:SmL Zj.Zq xs)(fr:List Fr):∀i,i<=xs.length->EvL C fr [0,3,4] Z60 ⟨[(0,L 4 (xs.map Zj.c)),(3,.own 0),(4,I i)],[[]],[.arr Z0q 4 true (fill Zj.c [.str ⟨#[]⟩,.int .i64 0,.str ⟨#[]⟩,.int .i64 0] xs i)]⟩ =
  EvX C fr (.x 0) ⟨[(0,L 4 (xs.map Zj.c)),(3,.own 0),(4,I xs.length),(11,Bo false)],[[]],[.arr Z0q 4 true (xs.map Zj.c)]⟩:=by
 have hl:xs.length<=4294967296:=h.1;refine down xs.length ?_ ?_
 .rw[Zd Z60.eq_1];simp[Zjy]
 .intro i hi ih;rw[Zd Z60.eq_1,<-ih];have h1:=Zj0 (f:=Zj.c) (z:=[.str ⟨#[]⟩,.int .i64 0,.str ⟨#[]⟩,.int .i64 0]) hi;have h3:=Zjz (f:=Zj.c) (z:=[.str ⟨#[]⟩,.int .i64 0,.str ⟨#[]⟩,.int .i64 0]) (Yb9 hi);have h4:IntKind.wrap .i64 ((i:Int)+1)=(i:Int)+1:=Zw (by omega) (by omega);simp at h1;simp[hi,Zczk _ _ _ _ ,h3,h4,h1]
theorem Zc0f(xs:List Zj)(h:SmL Zj.Zq xs):C Zcdu [L 4 (xs.map Zj.c)] []=some (.own 0,[.arr Z0q 4 true (xs.map Zj.c)]):=by
 refine run Zcxj rfl ?_;have hl:xs.length<=4294967296:=h.1;have h1:∀b,b<=4096->xs.length*b<=room:=λb hb=>Y2 (Yb3 hl hb) (by decide)
 have h2:(xs.length:Int)<=140737488355328:=by omega
 have h3:=λfr=>Zc0e xs h fr 0 (Ya _)
 simp[Zjx]at h3;simp[Zb8r,h1,h2,h3]
theorem Zc0g(xs ys:List Zj)(h:SmL Zj.Zq xs)(hl:ys.length=xs.length)(fr:List Fr):∀i,i<=xs.length->EvL C fr [0,1,5] Z63 ⟨[(0,L 4 (xs.map Zj.c)),(1,L 4 (ys.map Zj.c)),(5,I i)],[[]],[]⟩ =
  if xs.drop i=ys.drop i then EvX C fr (.x 0) ⟨[(0,L 4 (xs.map Zj.c)),(1,L 4 (ys.map Zj.c)),(5,I xs.length),(14,Bo false)],[[]],[]⟩else EvX C fr .r ⟨[(4,Bo false)],[[]],[]⟩:=by
 have hm:xs.length<=4294967296:=h.1;refine down xs.length ?_ ?_
 .rw[Zd Z63.eq_1];simp[hl,Ybd]
 .intro i hi ih;have hi2:i<ys.length:=by omega
  have h4:IntKind.wrap .i64 ((i:Int)+1)=(i:Int)+1:=Zw (by omega) (by omega);rw[Zd Z63.eq_1];simp +decide[hi,hi2,Zczl _ _ _ _ _ _ _ _ ,h4];simp at ih;simp only[Zj1 hi hi2,ih,Zj.ext_iff];split<;>first|(simp_all;done)|grind
theorem Zc0h(xs ys:List Zj)(h:SmL Zj.Zq xs):C Zcdz [L 4 (xs.map Zj.c),L 4 (ys.map Zj.c)] []=some (Bo (decide (xs=ys)),[]):=by
 refine run Zcxo rfl ?_;by_cases hl:ys.length=xs.length
 .have h3:=λfr=>Zc0g xs ys h hl fr 0 (Ya _)
  simp at h3;simp[Zbli,h3,hl];split<;>simp_all
 .have h1:xs≠ys:=λh=>hl (by rw[h])
  have h2:¬((xs.length:Int)=ys.length):=by omega
  simp[Zbli,h1,h2]
theorem Zc0i(xs:List Zj)(h:OkL Zj.okay xs)(fr:List Fr):∀i,i<=xs.length->∀left:Int,
  (EvL C fr [0,1,5] Zn8 ⟨[(0,L 4 (xs.map Zj.c)),(1,I left),(5,I i)],[[]],[]⟩=EvX C fr .r ⟨[(4,I (-1))],[[]],[]⟩/\Zbi Zj.sz (xs.drop i) left=-1)\/
  EvL C fr [0,1,5] Zn8 ⟨[(0,L 4 (xs.map Zj.c)),(1,I left),(5,I i)],[[]],[]⟩=EvX C fr (.x 0) ⟨[(0,L 4 (xs.map Zj.c)),(1,I (Zbi Zj.sz (xs.drop i) left)),(5,I xs.length),(15,Bo false)],[[]],[]⟩:=by
 have hm:maxLen<=9223372036854775807:=by decide
 have hl:=h.1;refine down xs.length ?_ ?_
 .intro left;right;rw[Zd Zn8.eq_1];simp[Ybd,Zbi]
 .intro i hi ih left;have h4:IntKind.wrap .i64 ((i:Int)+1)=(i:Int)+1:=Zw (by omega) (by omega);have e:EvL C fr [0,1,5] Zn8 ⟨[(0,L 4 (xs.map Zj.c)),(1,I left),(5,I i)],[[]],[]⟩=if Zj.sz xs[i] left<0 then EvX C fr .r ⟨[(4,I (-1))],[[]],[]⟩else EvL C fr [0,1,5] Zn8 ⟨[(0,L 4 (xs.map Zj.c)),(1,I (Zj.sz xs[i] left)),(5,I ((i+1:Nat):Int))],[[]],[]⟩:=by
   rw[Zd Zn8.eq_1];simp[hi,Zczm,h4]
  rw[e,Yd hi,Zbi];split
  .exact .inl ⟨rfl,rfl⟩
  .exact ih _
theorem Zc0j(xs:List Zj)(cc:Int)(h:OkL Zj.okay xs):C Zcdp [L 4 (xs.map Zj.c),I cc] []=some (I (szL Zj.sz xs cc),[]):=by
 refine run Zcxe rfl ?_;have h3:=λfr l=>Zc0i xs h fr 0 (Ya _) l
 simp at h3;simp[Zb8j,szL,Zz,sz1];split
 .simp_all
 .rcases h3 [.blk 0,.seq _,.fin _ _] (IntKind.wrap .i64 (cc-xs.length))with⟨h5,h6⟩|h5
  .rw[h5];simp[h6]
  .rw[h5];simp
theorem Zc0k(x0:List Ze)(x1:Int)(x2:List Zf)(x3:List Zk)(x4:List Zj)(h0:SmL Ze.Zq x0)(h2:SmL Zf.Zq x2)(h3:SmL Zk.Zq x3)(h4:SmL Zj.Zq x4):C Zcdg [.agg [.t (.lst 3 (x0.map Ze.c)),I x1,.t (.lst 4 (x2.map Zf.c)),.t (.lst 3 (x3.map Zk.c)),.t (.lst 4 (x4.map Zj.c))]] []=some (.agg [.own 0,I x1,.own 1,.own 2,.own 3],[.arr Ztb 3 true (x0.map Ze.c),.arr Zta 4 true (x2.map Zf.c),.arr Z0p 3 true (x3.map Zk.c),.arr Z0q 4 true (x4.map Zj.c)]):=by
 refine run Zcw5 rfl ?_;simp[Zb70,Zcy5 _ h0,Zcz5 _ _ h2,Zcz9 _ h3,Zc0f _ h4]
theorem Zc0l(x0:List Ze)(x1:Int)(x2:List Zf)(x3:List Zk)(x4:List Zj)(y0:List Ze)(y1:Int)(y2:List Zf)(y3:List Zk)(y4:List Zj)(h0:SmL Ze.Zq x0)(h2:SmL Zf.Zq x2)(h3:SmL Zk.Zq x3)(h4:SmL Zj.Zq x4):C Zcdi [.agg [.t (.lst 3 (x0.map Ze.c)),I x1,.t (.lst 4 (x2.map Zf.c)),.t (.lst 3 (x3.map Zk.c)),.t (.lst 4 (x4.map Zj.c))],.agg [.t (.lst 3 (y0.map Ze.c)),I y1,.t (.lst 4 (y2.map Zf.c)),.t (.lst 3 (y3.map Zk.c)),.t (.lst 4 (y4.map Zj.c))]] []=some (Bo (decide (x0=y0/\x1=y1/\x2=y2/\x3=y3/\x4=y4)),[]):=by
 refine run Zcw7 rfl ?_;simp[Zb72,Zcy6 _ _ h0,Zcz6 _ _ _ _ h2,Zc0b _ _ h3,Zc0h _ _ h4]
 repeat' split
 all_goals first|(simp_all;done)|grind
theorem Zc0m(x0:List Ze)(x1:Int)(x2:List Zf)(x3:List Zk)(x4:List Zj)(cc:Int)(h0:OkL Ze.okay x0)(h2:OkL Zf.okay x2)(h3:OkL Zk.okay x3)(h4:OkL Zj.okay x4):C Zcde [.agg [.t (.lst 3 (x0.map Ze.c)),I x1,.t (.lst 4 (x2.map Zf.c)),.t (.lst 3 (x3.map Zk.c)),.t (.lst 4 (x4.map Zj.c))],I cc] []=some (I (Zh.sz ⟨⟨x0⟩,⟨x1,x2⟩,x3,x4⟩ cc),[]):=by
 refine run Zcw3 rfl ?_;simp[Zb7y,Zcy7 _ _ h0,Zcz7 _ _ _ h2,Zc0d _ _ h3,Zc0j _ _ h4,Zh.sz,Zz,sz1]
 repeat' split
 all_goals first|(simp_all;done)|grind
theorem c_eqBox(x0 x1 y0 y1:List Int)(h0:SmA x0)(h1:SmA x1):C Zbpb [.agg [.t (tI x0),.t (tI x1)],.agg [.t (tI y0),.t (tI y1)]] []=some (Bo (decide (x0=y0/\x1=y1)),[]):=by
 refine run Zb8b rfl ?_;simp[Zble,Zoe _ _ h0,Zoe _ _ h1]
 repeat' split
 all_goals first|(simp_all;done)|grind
end
end Go.Proofs.YtnnjbejcffjgfaaGreat
