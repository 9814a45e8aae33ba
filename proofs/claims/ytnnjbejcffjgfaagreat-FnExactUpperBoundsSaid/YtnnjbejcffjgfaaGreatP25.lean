/-
  Parts of the proofs for this seat: K FA.
-/
import Derived.Test.YtnnjbejcffjgfaaGreatP5
import Derived.Test.YtnnjbejcffjgfaaGreatP7
set_option linter.unusedSectionVars false
set_option linter.unusedSimpArgs false
set_option linter.unusedVariables false
set_option maxRecDepth 100000
set_option maxHeartbeats 4000000
set_option cbv.maxSteps 9999999
namespace Go.Proofs.YtnnjbejcffjgfaaGreat
open Go.AM
noncomputable section
def Z61:MFun:=mkF (rawF 4 Tryz.f4)
theorem Zcxj:tbl 4=some Z61:=Zc Tryz.func4
def Zy7:MFun:=mkF (rawF 5 Tryz.f5)
theorem Zcxk:tbl 5=some Zy7:=Zc Tryz.func5
def Zy8:MFun:=mkF (rawF 6 Tryz.f6)
theorem Zcxl:tbl 6=some Zy8:=Zc Tryz.func6
def Zb8c:MFun:=mkF (rawF 7 Tryz.f7)
theorem Zcxm:tbl 7=some Zb8c:=Zc Tryz.func7
def Zb8d:MFun:=mkF (rawF 8 Tryz.f8)
theorem Zcxn:tbl 8=some Zb8d:=Zc Tryz.func8
def Zb8e:MFun:=mkF (rawF 10 Tryz.f10)
theorem Zcxo:tbl 10=some Zb8e:=Zc Tryz.func10
def Zb8f:MFun:=mkF (rawF 11 Tryz.f11)
theorem Zcxp:tbl 11=some Zb8f:=Zc Tryz.func11
def Zb8g:MFun:=mkF (rawF 13 Tryz.f13)
theorem Zcxq:tbl 13=some Zb8g:=Zc Tryz.func13
def Zb8h:MFun:=mkF (rawF 14 Tryz.f14)
theorem Zcxr:tbl 14=some Zb8h:=Zc Tryz.func14
def Zb8i:RawF (rawF 19 Tryz.f19):={ m:=_ }
def Zsh:MCode:=cut0 Zb8i 15
def Zy9:MFun:=Zbb Zb8i 15 Zsh
theorem Zbli:tbl 19=some Zy9:=Zc Tryz.func19
def Zb8j:MFun:=mkF (rawF 20 Tryz.f20)
theorem Zcxs:tbl 20=some Zb8j:=Zc Tryz.func20
def Zb8k:MFun:=mkF (rawF 21 Tryz.f21)
theorem Zcxt:tbl 21=some Zb8k:=Zc Tryz.func21
def Zb8l:RawF (rawF 22 Tryz.f22):={ m:=_ }
def Zsi:MCode:=cut0 Zb8l 7
def Z62:MFun:=Zbb Zb8l 7 Zsi
theorem Zblj:tbl 22=some Z62:=Zc Tryz.func22
def Zb8m:RawF (rawF 23 Tryz.f23):={ m:=_ }
def Zza:MCode:=cut0 Zb8m 7
def Zblk:MFun:=Zbb Zb8m 7 Zza
theorem Zb8n:tbl 23=some Zblk:=Zc Tryz.func23
def Zbll:MFun:=mkF (rawF 26 Tryz.f26)
theorem Zb8o:tbl 26=some Zbll:=Zc Tryz.func26
def Zblm:MFun:=mkF (rawF 27 Tryz.f27)
theorem Zb8p:tbl 27=some Zblm:=Zc Tryz.func27
def Zbln:MFun:=mkF (rawF 28 Tryz.f28)
theorem Zb8q:tbl 28=some Zbln:=Zc Tryz.func28
def Zb8r:MFun:=mkF (rawF 29 Tryz.f29)
theorem Zcxu:tbl 29=some Zb8r:=Zc Tryz.func29
def Zb8s:MFun:=mkF (rawF 30 Tryz.f30)
theorem Zcxv:tbl 30=some Zb8s:=Zc Tryz.func30
def Zb8t:RawF (rawF 31 Tryz.f31):={ m:=_ }
def Zn8:MCode:=cut0 Zb8t 17
def Zb8u:MFun:=Zbb Zb8t 17 Zn8
theorem Zcxw:tbl 31=some Zb8u:=Zc Tryz.func31
def Zb8v:RawF (rawF 32 Tryz.f32):={ m:=_ }
def Zn9:MCode:=cut0 Zb8v 17
def Zb8w:MFun:=Zbb Zb8v 17 Zn9
theorem Zcxx:tbl 32=some Zb8w:=Zc Tryz.func32
def Zb8x:RawF (rawF 33 Tryz.f33):={ m:=_ }
def Zoa:MCode:=cut0 Zb8x 17
def Zb8y:MFun:=Zbb Zb8x 17 Zoa
theorem Zcxy:tbl 33=some Zb8y:=Zc Tryz.func33
def Zb8z:MFun:=mkF (rawF 35 Tryz.f35)
theorem Zcxz:tbl 35=some Zb8z:=Zc Tryz.func35
def Zb80:MFun:=mkF (rawF 36 Tryz.f36)
theorem Zcx0:tbl 36=some Zb80:=Zc Tryz.func36
def Zb81:RawF (rawF 37 Tryz.f37):={ m:=_ }
def Z63:MCode:=cut0 Zb81 9
def Zb82:MFun:=Zbb Zb81 9 Z63
theorem Zcx1:tbl 37=some Zb82:=Zc Tryz.func37
def Zb83:RawF (rawF 38 Tryz.f38):={ m:=_ }
def Z64:MCode:=cut0 Zb83 9
def Zb84:MFun:=Zbb Zb83 9 Z64
theorem Zcx2:tbl 38=some Zb84:=Zc Tryz.func38
def Zb85:RawF (rawF 39 Tryz.f39):={ m:=_ }
def Z65:MCode:=cut0 Zb85 9
def Zb86:MFun:=Zbb Zb85 9 Z65
theorem Zcx3:tbl 39=some Zb86:=Zc Tryz.func39
def Zb87:MFun:=mkF (rawF 42 Tryz.f42)
theorem Zcx4:tbl 42=some Zb87:=Zc Tryz.func42
def Zb88:MFun:=mkF (rawF 43 Tryz.f43)
theorem Zcx5:tbl 43=some Zb88:=Zc Tryz.func43
def Zb89:RawF (rawF 44 Tryz.f44):={ m:=_ }
def Z66:MCode:=cut0 Zb89 15
def Zblo:MFun:=Zbb Zb89 15 Z66
theorem Zcx6:tbl 44=some Zblo:=Zc Tryz.func44
def Zb9a:RawF (rawF 45 Tryz.f45):={ m:=_ }
def Z67:MCode:=cut0 Zb9a 15
def Zblp:MFun:=Zbb Zb9a 15 Z67
theorem Zcx7:tbl 45=some Zblp:=Zc Tryz.func45
def Zb9b:RawF (rawF 46 Tryz.f46):={ m:=_ }
def Z68:MCode:=cut0 Zb9b 15
def Zblq:MFun:=Zbb Zb9b 15 Z68
theorem Zcx8:tbl 46=some Zblq:=Zc Tryz.func46
def Zb9c:MFun:=mkF (rawF 52 Tryz.f52)
theorem Zcx9:tbl 52=some Zb9c:=Zc Tryz.func52
def Zb9d:MFun:=mkF (rawF 53 Tryz.f53)
theorem Zcya:tbl 53=some Zb9d:=Zc Tryz.func53
def Zb9e:RawF (rawF 54 Tryz.f54):={ m:=_ }
def Z69:MCode:=cut0 Zb9e 7
def Zb9f:MFun:=Zbb Zb9e 7 Z69
theorem Zcyb:tbl 54=some Zb9f:=Zc Tryz.func54
def Zb9g:RawF (rawF 55 Tryz.f55):={ m:=_ }
def Z7a:MCode:=cut0 Zb9g 7
def Zb9h:MFun:=Zbb Zb9g 7 Z7a
theorem Zcyc:tbl 55=some Zb9h:=Zc Tryz.func55
def Zb9i:RawF (rawF 56 Tryz.f56):={ m:=_ }
def Z7b:MCode:=cut0 Zb9i 7
def Zb9j:MFun:=Zbb Zb9i 7 Z7b
theorem Zcyd:tbl 56=some Zb9j:=Zc Tryz.func56
def Zb9k:RawF (rawF 62 Tryz.f62):={ m:=_ }
def Zob:MCode:=cut0 Zb9k 17
def Zb9l:MFun:=Zbb Zb9k 17 Zob
theorem Zcye:tbl 62=some Zb9l:=Zc Tryz.func62
def Zb9m:RawF (rawF 63 Tryz.f63):={ m:=_ }
def Zoc:MCode:=cut0 Zb9m 17
def Zb9n:MFun:=Zbb Zb9m 17 Zoc
theorem Zcyf:tbl 63=some Zb9n:=Zc Tryz.func63
def Zb9o:MFun:=mkF (rawF 64 Tryz.f64)
theorem Zcyg:tbl 64=some Zb9o:=Zc Tryz.func64
def Zb9p:MFun:=mkF (rawF 65 Tryz.f65)
theorem Zcyh:tbl 65=some Zb9p:=Zc Tryz.func65
def Zb9q:MFun:=mkF (rawF 66 Tryz.f66)
theorem Zcyi:tbl 66=some Zb9q:=Zc Tryz.func66
def Zb9r:RawF (rawF 72 Tryz.f72):={ m:=_ }
def Z7c:MCode:=cut0 Zb9r 9
def Zb9s:MFun:=Zbb Zb9r 9 Z7c
theorem Zcyj:tbl 72=some Zb9s:=Zc Tryz.func72
def Zb9t:RawF (rawF 73 Tryz.f73):={ m:=_ }
def Z7d:MCode:=cut0 Zb9t 9
def Zb9u:MFun:=Zbb Zb9t 9 Z7d
theorem Zcyk:tbl 73=some Zb9u:=Zc Tryz.func73
def Zb9v:MFun:=mkF (rawF 74 Tryz.f74)
theorem Zcyl:tbl 74=some Zb9v:=Zc Tryz.func74
def Zb9w:MFun:=mkF (rawF 75 Tryz.f75)
theorem Zcym:tbl 75=some Zb9w:=Zc Tryz.func75
def Zb9x:MFun:=mkF (rawF 76 Tryz.f76)
theorem Zcyn:tbl 76=some Zb9x:=Zc Tryz.func76
def Zb9y:RawF (rawF 81 Tryz.f81):={ m:=_ }
def Z7e:MCode:=cut0 Zb9y 15
def Zblr:MFun:=Zbb Zb9y 15 Z7e
theorem Zcyo:tbl 81=some Zblr:=Zc Tryz.func81
def Zb9z:RawF (rawF 82 Tryz.f82):={ m:=_ }
def Z7f:MCode:=cut0 Zb9z 15
def Zbls:MFun:=Zbb Zb9z 15 Z7f
theorem Zcyp:tbl 82=some Zbls:=Zc Tryz.func82
def Zb90:MFun:=mkF (rawF 83 Tryz.f83)
theorem Zcyq:tbl 83=some Zb90:=Zc Tryz.func83
def Zb91:MFun:=mkF (rawF 84 Tryz.f84)
theorem Zcyr:tbl 84=some Zb91:=Zc Tryz.func84
def Zb92:MFun:=mkF (rawF 85 Tryz.f85)
theorem Zcys:tbl 85=some Zb92:=Zc Tryz.func85
def Zb93:RawF (rawF 94 Tryz.f94):={ m:=_ }
def Z7g:MCode:=cut0 Zb93 7
def Zb94:MFun:=Zbb Zb93 7 Z7g
theorem Zcyt:tbl 94=some Zb94:=Zc Tryz.func94
def Zb95:RawF (rawF 95 Tryz.f95):={ m:=_ }
def Z7h:MCode:=cut0 Zb95 7
def Zb96:MFun:=Zbb Zb95 7 Z7h
theorem Zcyu:tbl 95=some Zb96:=Zc Tryz.func95
def Zb97:RawF (rawF 96 Tryz.f96):={ m:=_ }
def Zzb:MCode:=cut0 Zb97 15
def Zblt:MFun:=Zbb Zb97 15 Zzb
theorem Zb98:tbl 96=some Zblt:=Zc Tryz.func96
def Zb99:MFun:=mkF (rawF 102 Tryz.f102)
theorem Zcyv:tbl 102=some Zb99:=Zc Tryz.func102
def Zcaa:MFun:=mkF (rawF 103 Tryz.f103)
theorem Zcyw:tbl 103=some Zcaa:=Zc Tryz.func103
def Zcab:MFun:=mkF (rawF 104 Tryz.f104)
theorem Zcyx:tbl 104=some Zcab:=Zc Tryz.func104
def Zcac:MFun:=mkF (rawF 113 Tryz.f113)
theorem Zcyy:tbl 113=some Zcac:=Zc Tryz.func113
def Zcad:MFun:=mkF (rawF 114 Tryz.f114)
theorem Zcyz:tbl 114=some Zcad:=Zc Tryz.func114
def Zcae:RawF (rawF 115 Tryz.f115):={ m:=_ }
def Z7i:MCode:=cut0 Zcae 9
def Zcaf:MFun:=Zbb Zcae 9 Z7i
theorem Zcy0:tbl 115=some Zcaf:=Zc Tryz.func115
def Zcag:MFun:=mkF (rawF 125 Tryz.f125)
theorem Zcy1:tbl 125=some Zcag:=Zc Tryz.func125
def Zcah:MFun:=mkF (rawF 126 Tryz.f126)
theorem Zcy2:tbl 126=some Zcah:=Zc Tryz.func126
def Zcai:RawF (rawF 138 Tryz.f138):={ m:=_ }
def Zzc:MCode:=cut0 Zcai 7
def Zblu:MFun:=Zbb Zcai 7 Zzc
theorem Zcaj:tbl 138=some Zblu:=Zc Tryz.func138
def Zcak:RawF (rawF 139 Tryz.f139):={ m:=_ }
def Zzd:MCode:=cut0 Zcak 7
def Zblv:MFun:=Zbb Zcak 7 Zzd
theorem Zcal:tbl 139=some Zblv:=Zc Tryz.func139
def Zcam:RawF (rawF 144 Tryz.f144):={ m:=_ }
def Zod:MCode:=cut0 Zcam 17
def Zcan:MFun:=Zbb Zcam 17 Zod
theorem Zcy3:tbl 144=some Zcan:=Zc Tryz.func144
def Zcao:RawF (rawF 145 Tryz.f145):={ m:=_ }
def Zoe:MCode:=cut0 Zcao 17
def Zcap:MFun:=Zbb Zcao 17 Zoe
theorem Zcy4:tbl 145=some Zcap:=Zc Tryz.func145
def Zcaq:RawF (rawF 158 Tryz.f158):={ m:=_ }
def Z7j:MCode:=cut0 Zcaq 9
def Zcar:MFun:=Zbb Zcaq 9 Z7j
theorem Zcy5:tbl 158=some Zcar:=Zc Tryz.func158
def Zcas:RawF (rawF 159 Tryz.f159):={ m:=_ }
def Z7k:MCode:=cut0 Zcas 9
def Zcat:MFun:=Zbb Zcas 9 Z7k
theorem Zcy6:tbl 159=some Zcat:=Zc Tryz.func159
def Zcau:RawF (rawF 177 Tryz.f177):={ m:=_ }
def Z7l:MCode:=cut0 Zcau 15
def Zblw:MFun:=Zbb Zcau 15 Z7l
theorem Zcy7:tbl 177=some Zblw:=Zc Tryz.func177
def Zcav:RawF (rawF 178 Tryz.f178):={ m:=_ }
def Z7m:MCode:=cut0 Zcav 15
def Zblx:MFun:=Zbb Zcav 15 Z7m
theorem Zcy8:tbl 178=some Zblx:=Zc Tryz.func178
def Zcaw:MFun:=mkF (rawF 193 Tryz.f193)
theorem Zcy9:tbl 193=some Zcaw:=Zc Tryz.func193
def Zcax:MFun:=mkF (rawF 202 Tryz.f202)
theorem Zcza:tbl 202=some Zcax:=Zc Tryz.func202
def Zcay:MFun:=mkF (rawF 222 Tryz.f222)
theorem Zczb:tbl 222=some Zcay:=Zc Tryz.func222
theorem l_toIntS(xs:List Int)(h:SmA xs)(fr:List Fr):∀i,i<=xs.length->EvL C fr [0,3,4] Z7i ⟨[(0,L 1 (xs.map ic)),(3,.own 0),(4,I i)],[[]],[.arr Zbc 1 true (fill ic [.int .i64 0] xs i)]⟩ =
  EvX C fr (.x 0) ⟨[(0,L 1 (xs.map ic)),(3,.own 0),(4,I xs.length),(11,Bo false)],[[]],[.arr Zbc 1 true (xs.map ic)]⟩:=by
 have hl:xs.length<=4294967296:=h;refine down xs.length ?_ ?_
 .rw[Zd Z7i.eq_1];simp[Zj3]
 .intro i hi ih;rw[Zd Z7i.eq_1,<-ih];have h1:=Zj5 (f:=ic) (z:=[.int .i64 0]) hi;have h3:=Zj4 (f:=ic) (z:=[.int .i64 0]) (Yb9 hi);have h4:IntKind.wrap .i64 ((i:Int)+1)=(i:Int)+1:=Zw (by omega) (by omega);simp at h1;simp[hi,h3,h4,h1]
theorem Zze(xs:List Int)(h:SmA xs):C Zcfi [L 1 (xs.map ic)] []=some (.own 0,[.arr Zbc 1 true (xs.map ic)]):=by
 refine run Zcy0 rfl ?_;have hl:xs.length<=4294967296:=h;have h1:∀b,b<=4096->xs.length*b<=room:=λb hb=>Y2 (Yb3 hl hb) (by decide)
 have h2:(xs.length:Int)<=140737488355328:=by omega
 have h3:=λfr=>l_toIntS xs h fr 0 (Ya _)
 simp[Zj2]at h3;simp[Zcaf,h1,h2,h3]
theorem l_eqIntS(xs ys:List Int)(h:SmA xs)(hl:ys.length=xs.length)(fr:List Fr):∀i,i<=xs.length->EvL C fr [0,1,5] Zsh ⟨[(0,L 1 (xs.map ic)),(1,L 1 (ys.map ic)),(5,I i)],[[]],[]⟩ =
  if xs.drop i=ys.drop i then EvX C fr (.x 0) ⟨[(0,L 1 (xs.map ic)),(1,L 1 (ys.map ic)),(5,I xs.length),(14,Bo false)],[[]],[]⟩else EvX C fr .r ⟨[(4,Bo false)],[[]],[]⟩:=by
 have hm:xs.length<=4294967296:=h;refine down xs.length ?_ ?_
 .rw[Zd Zsh.eq_1];simp[hl,Ybd]
 .intro i hi ih;have hi2:i<ys.length:=by omega
  have h4:IntKind.wrap .i64 ((i:Int)+1)=(i:Int)+1:=Zw (by omega) (by omega);rw[Zd Zsh.eq_1];simp +decide[hi,hi2,h4];simp at ih;simp only[Zj6 hi hi2,ih];split<;>first|(simp_all;done)|grind
theorem Zlx(xs ys:List Int)(h:SmA xs):C Z83 [L 1 (xs.map ic),L 1 (ys.map ic)] []=some (Bo (decide (xs=ys)),[]):=by
 refine run Zbli rfl ?_;by_cases hl:ys.length=xs.length
 .have h3:=λfr=>l_eqIntS xs ys h hl fr 0 (Ya _)
  simp at h3;simp[Zy9,h3,hl];split<;>simp_all
 .have h1:xs≠ys:=λh=>hl (by rw[h])
  have h2:¬((xs.length:Int)=ys.length):=by omega
  simp[Zy9,h1,h2]
@[simp] theorem Z7n(es:List (List T))(c:Int):C Zcff [L 1 es,I c] []=some (I (sz1 es.length c),[]):=by
 refine run Zcyx rfl ?_;simp[Zcab,sz1];split<;>simp_all
theorem Zczc(xs:List (List Int))(h:SmL SmA xs)(fr:List Fr):∀i,i<=xs.length->EvL C fr [0,3,4] Z7j ⟨[(0,L 1 (xs.map isc)),(3,.own 0),(4,I i)],[[]],[.arr Ztf 1 true (fill isc [.lst 1 []] xs i)]⟩ =
  EvX C fr (.x 0) ⟨[(0,L 1 (xs.map isc)),(3,.own 0),(4,I xs.length),(11,Bo false)],[[]],[.arr Ztf 1 true (xs.map isc)]⟩:=by
 have hl:xs.length<=4294967296:=h.1;refine down xs.length ?_ ?_
 .rw[Zd Z7j.eq_1];simp[Zj3]
 .intro i hi ih;rw[Zd Z7j.eq_1,<-ih];have h1:=Zj5 (f:=isc) (z:=[.lst 1 []]) hi;have h3:=Zj4 (f:=isc) (z:=[.lst 1 []]) (Yb9 hi);have h4:IntKind.wrap .i64 ((i:Int)+1)=(i:Int)+1:=Zw (by omega) (by omega);simp at h1;simp[hi,Zze _ (h.2 _ (Yb hi)),h3,h4,h1]
theorem Zcaz(xs:List (List Int))(h:SmL SmA xs):C Zcfn [L 1 (xs.map isc)] []=some (.own 0,[.arr Ztf 1 true (xs.map isc)]):=by
 refine run Zcy5 rfl ?_;have hl:xs.length<=4294967296:=h.1;have h1:∀b,b<=4096->xs.length*b<=room:=λb hb=>Y2 (Yb3 hl hb) (by decide)
 have h2:(xs.length:Int)<=140737488355328:=by omega
 have h3:=λfr=>Zczc xs h fr 0 (Ya _)
 simp[Zj2]at h3;simp[Zcar,h1,h2,h3]
theorem Zczd(xs ys:List (List Int))(h:SmL SmA xs)(hl:ys.length=xs.length)(fr:List Fr):∀i,i<=xs.length->EvL C fr [0,1,5] Z7l ⟨[(0,L 1 (xs.map isc)),(1,L 1 (ys.map isc)),(5,I i)],[[]],[]⟩ =
  if xs.drop i=ys.drop i then EvX C fr (.x 0) ⟨[(0,L 1 (xs.map isc)),(1,L 1 (ys.map isc)),(5,I xs.length),(14,Bo false)],[[]],[]⟩else EvX C fr .r ⟨[(4,Bo false)],[[]],[]⟩:=by
 have hm:xs.length<=4294967296:=h.1;refine down xs.length ?_ ?_
 .rw[Zd Z7l.eq_1];simp[hl,Ybd]
 .intro i hi ih;have hi2:i<ys.length:=by omega
  have h4:IntKind.wrap .i64 ((i:Int)+1)=(i:Int)+1:=Zw (by omega) (by omega);rw[Zd Z7l.eq_1];simp +decide[hi,hi2,Zlx _ _ (h.2 _ (Yb hi)),h4];simp at ih;simp only[Zj6 hi hi2,ih];split<;>first|(simp_all;done)|grind
theorem Zca0(xs ys:List (List Int))(h:SmL SmA xs):C Zcfp [L 1 (xs.map isc),L 1 (ys.map isc)] []=some (Bo (decide (xs=ys)),[]):=by
 refine run Zcy7 rfl ?_;by_cases hl:ys.length=xs.length
 .have h3:=λfr=>Zczd xs ys h hl fr 0 (Ya _)
  simp at h3;simp[Zblw,h3,hl];split<;>simp_all
 .have h1:xs≠ys:=λh=>hl (by rw[h])
  have h2:¬((xs.length:Int)=ys.length):=by omega
  simp[Zblw,h1,h2]
theorem Zcze(xs:List (List Int))(h:OkL (OkL OkI) xs)(fr:List Fr):∀i,i<=xs.length->∀left:Int,
  (EvL C fr [0,1,5] Zod ⟨[(0,L 1 (xs.map isc)),(1,I left),(5,I i)],[[]],[]⟩=EvX C fr .r ⟨[(4,I (-1))],[[]],[]⟩/\Zbi szI (xs.drop i) left=-1)\/
  EvL C fr [0,1,5] Zod ⟨[(0,L 1 (xs.map isc)),(1,I left),(5,I i)],[[]],[]⟩=EvX C fr (.x 0) ⟨[(0,L 1 (xs.map isc)),(1,I (Zbi szI (xs.drop i) left)),(5,I xs.length),(15,Bo false)],[[]],[]⟩:=by
 have hm:maxLen<=9223372036854775807:=by decide
 have hl:=h.1;refine down xs.length ?_ ?_
 .intro left;right;rw[Zd Zod.eq_1];simp[Ybd,Zbi]
 .intro i hi ih left;have h4:IntKind.wrap .i64 ((i:Int)+1)=(i:Int)+1:=Zw (by omega) (by omega);have e:EvL C fr [0,1,5] Zod ⟨[(0,L 1 (xs.map isc)),(1,I left),(5,I i)],[[]],[]⟩=if szI xs[i] left<0 then EvX C fr .r ⟨[(4,I (-1))],[[]],[]⟩else EvL C fr [0,1,5] Zod ⟨[(0,L 1 (xs.map isc)),(1,I (szI xs[i] left)),(5,I ((i+1:Nat):Int))],[[]],[]⟩:=by
   rw[Zd Zod.eq_1];simp[hi,Z7n,h4]
  rw[e,Yd hi,Zbi];split
  .exact .inl ⟨rfl,rfl⟩
  .exact ih _
theorem Zca1(xs:List (List Int))(c:Int)(h:OkL (OkL OkI) xs):C Zcfl [L 1 (xs.map isc),I c] []=some (I (szL szI xs c),[]):=by
 refine run Zcy3 rfl ?_;have h3:=λfr l=>Zcze xs h fr 0 (Ya _) l
 simp at h3;simp[Zcan,szL,Zz,sz1];split
 .simp_all
 .rcases h3 [.blk 0,.seq _,.fin _ _] (IntKind.wrap .i64 (c-xs.length))with⟨h5,h6⟩|h5
  .rw[h5];simp[h6]
  .rw[h5];simp
theorem Zczf(x0:ByteArray)(x1:Int)(x2:List (List Int))(h2:SmL SmA x2):C Zcfg [.agg [.t (.str x0),I x1,.t (tII x2)]] []=some (.agg [.t (.str x0),I x1,.own 0],[.arr Ztf 1 true (x2.map isc)]):=by
 refine run Zcyy rfl ?_;simp[Zcac,Zcaz _ h2]
theorem Zczg(x0:ByteArray)(x1:Int)(x2:List (List Int))(y0:ByteArray)(y1:Int)(y2:List (List Int))(h2:SmL SmA x2):C Zcfj [.agg [.t (.str x0),I x1,.t (tII x2)],.agg [.t (.str y0),I y1,.t (tII y2)]] []=some (Bo (decide (x0=y0/\x1=y1/\x2=y2)),[]):=by
 refine run Zcy1 rfl ?_;simp[Zcag,Zca0 _ _ h2]
 repeat' split
 all_goals first|(simp_all;done)|grind
theorem Zczh(x0:ByteArray)(x1:Int)(x2:List (List Int))(c:Int)(h2:OkL (OkL OkI) x2):C Zcfd [.agg [.t (.str x0),I x1,.t (tII x2)],I c] []=some (I (Ze.sz ⟨x0,x1,x2⟩ c),[]):=by
 refine run Zcyv rfl ?_;simp[Zb99,Zca1 _ _ h2,Ze.sz,Zz,sz1]
 repeat' split
 all_goals first|(simp_all;done)|grind
theorem Zczi(xs:List Ze)(h:SmL Ze.Zq xs)(fr:List Fr):∀i,i<=xs.length->EvL C fr [0,3,4] Z7c ⟨[(0,L 3 (xs.map Ze.c)),(3,.own 0),(4,I i)],[[]],[.arr Zth 3 true (fill Ze.c [.str ⟨#[]⟩,.int .i64 0,.lst 1 []] xs i)]⟩ =
  EvX C fr (.x 0) ⟨[(0,L 3 (xs.map Ze.c)),(3,.own 0),(4,I xs.length),(11,Bo false)],[[]],[.arr Zth 3 true (xs.map Ze.c)]⟩:=by
 have hl:xs.length<=4294967296:=h.1;refine down xs.length ?_ ?_
 .rw[Zd Z7c.eq_1];simp[Zj3]
 .intro i hi ih;rw[Zd Z7c.eq_1,<-ih];have h1:=Zj5 (f:=Ze.c) (z:=[.str ⟨#[]⟩,.int .i64 0,.lst 1 []]) hi;have h3:=Zj4 (f:=Ze.c) (z:=[.str ⟨#[]⟩,.int .i64 0,.lst 1 []]) (Yb9 hi);have h4:IntKind.wrap .i64 ((i:Int)+1)=(i:Int)+1:=Zw (by omega) (by omega);simp at h1;simp[hi,Zczf _ _ _ (h.2 _ (Yb hi)).2,h3,h4,h1]
theorem Zczj(xs:List Ze)(h:SmL Ze.Zq xs):C Zce1 [L 3 (xs.map Ze.c)] []=some (.own 0,[.arr Zth 3 true (xs.map Ze.c)]):=by
 refine run Zcyj rfl ?_;have hl:xs.length<=4294967296:=h.1;have h1:∀b,b<=4096->xs.length*b<=room:=λb hb=>Y2 (Yb3 hl hb) (by decide)
 have h2:(xs.length:Int)<=140737488355328:=by omega
 have h3:=λfr=>Zczi xs h fr 0 (Ya _)
 simp[Zj2]at h3;simp[Zb9s,h1,h2,h3]
theorem Zczk(xs ys:List Ze)(h:SmL Ze.Zq xs)(hl:ys.length=xs.length)(fr:List Fr):∀i,i<=xs.length->EvL C fr [0,1,5] Z7e ⟨[(0,L 3 (xs.map Ze.c)),(1,L 3 (ys.map Ze.c)),(5,I i)],[[]],[]⟩ =
  if xs.drop i=ys.drop i then EvX C fr (.x 0) ⟨[(0,L 3 (xs.map Ze.c)),(1,L 3 (ys.map Ze.c)),(5,I xs.length),(14,Bo false)],[[]],[]⟩else EvX C fr .r ⟨[(4,Bo false)],[[]],[]⟩:=by
 have hm:xs.length<=4294967296:=h.1;refine down xs.length ?_ ?_
 .rw[Zd Z7e.eq_1];simp[hl,Ybd]
 .intro i hi ih;have hi2:i<ys.length:=by omega
  have h4:IntKind.wrap .i64 ((i:Int)+1)=(i:Int)+1:=Zw (by omega) (by omega);rw[Zd Z7e.eq_1];simp +decide[hi,hi2,Zczg _ _ _ _ _ _ (h.2 _ (Yb hi)).2,h4];simp at ih;simp only[Zj6 hi hi2,ih,Ze.ext_iff];split<;>first|(simp_all;done)|grind
theorem Zczl(xs ys:List Ze)(h:SmL Ze.Zq xs):C Zce6 [L 3 (xs.map Ze.c),L 3 (ys.map Ze.c)] []=some (Bo (decide (xs=ys)),[]):=by
 refine run Zcyo rfl ?_;by_cases hl:ys.length=xs.length
 .have h3:=λfr=>Zczk xs ys h hl fr 0 (Ya _)
  simp at h3;simp[Zblr,h3,hl];split<;>simp_all
 .have h1:xs≠ys:=λh=>hl (by rw[h])
  have h2:¬((xs.length:Int)=ys.length):=by omega
  simp[Zblr,h1,h2]
theorem Zczm(xs:List Ze)(h:OkL Ze.okay xs)(fr:List Fr):∀i,i<=xs.length->∀left:Int,
  (EvL C fr [0,1,5] Zob ⟨[(0,L 3 (xs.map Ze.c)),(1,I left),(5,I i)],[[]],[]⟩=EvX C fr .r ⟨[(4,I (-1))],[[]],[]⟩/\Zbi Ze.sz (xs.drop i) left=-1)\/
  EvL C fr [0,1,5] Zob ⟨[(0,L 3 (xs.map Ze.c)),(1,I left),(5,I i)],[[]],[]⟩=EvX C fr (.x 0) ⟨[(0,L 3 (xs.map Ze.c)),(1,I (Zbi Ze.sz (xs.drop i) left)),(5,I xs.length),(15,Bo false)],[[]],[]⟩:=by
 have hm:maxLen<=9223372036854775807:=by decide
 have hl:=h.1;refine down xs.length ?_ ?_
 .intro left;right;rw[Zd Zob.eq_1];simp[Ybd,Zbi]
 .intro i hi ih left;have h4:IntKind.wrap .i64 ((i:Int)+1)=(i:Int)+1:=Zw (by omega) (by omega);have e:EvL C fr [0,1,5] Zob ⟨[(0,L 3 (xs.map Ze.c)),(1,I left),(5,I i)],[[]],[]⟩=if Ze.sz xs[i] left<0 then EvX C fr .r ⟨[(4,I (-1))],[[]],[]⟩else EvL C fr [0,1,5] Zob ⟨[(0,L 3 (xs.map Ze.c)),(1,I (Ze.sz xs[i] left)),(5,I ((i+1:Nat):Int))],[[]],[]⟩:=by
   rw[Zd Zob.eq_1];simp[hi,Zczh _ _ _ _ (h.2 _ (Yb hi)).2.2,h4]
  rw[e,Yd hi,Zbi];split
  .exact .inl ⟨rfl,rfl⟩
  .exact ih _
theorem Zczn(xs:List Ze)(cc:Int)(h:OkL Ze.okay xs):C Zcew [L 3 (xs.map Ze.c),I cc] []=some (I (szL Ze.sz xs cc),[]):=by
 refine run Zcye rfl ?_;have h3:=λfr l=>Zczm xs h fr 0 (Ya _) l
 simp at h3;simp[Zb9l,szL,Zz,sz1];split
 .simp_all
 .rcases h3 [.blk 0,.seq _,.fin _ _] (IntKind.wrap .i64 (cc-xs.length))with⟨h5,h6⟩|h5
  .rw[h5];simp[h6]
  .rw[h5];simp
theorem Zczo(x0:List Ze)(h0:SmL Ze.Zq x0):C Zceh [.agg [.t (.lst 3 (x0.map Ze.c))]] []=some (.agg [.own 0],[.arr Zth 3 true (x0.map Ze.c)]):=by
 refine run Zcxz rfl ?_;simp[Zb8z,Zczj _ h0]
theorem Zczp(x0 y0:List Ze)(h0:SmL Ze.Zq x0):C Zcem [.agg [.t (.lst 3 (x0.map Ze.c))],.agg [.t (.lst 3 (y0.map Ze.c))]] []=some (Bo (decide (x0=y0)),[]):=by
 refine run Zcx4 rfl ?_;simp[Zb87,Zczl _ _ h0]
 repeat' split
 all_goals first|(simp_all;done)|grind
theorem Zczq(x0:List Ze)(cc:Int)(h0:OkL Ze.okay x0):C Zcec [.agg [.t (.lst 3 (x0.map Ze.c))],I cc] []=some (I (Zi.sz ⟨x0⟩ cc),[]):=by
 refine run Zcxu rfl ?_;simp[Zb8r,Zczn _ _ h0,Zi.sz,Zz,sz1]
 repeat' split
 all_goals first|(simp_all;done)|grind
theorem c_toAtom(x0:ByteArray)(x1:List Int)(h1:SmA x1):C Zce5 [.agg [.t (.str x0),.t (tI x1)]] []=some (.agg [.t (.str x0),.own 0],[.arr Zbc 1 true (x1.map ic)]):=by
 refine run Zcyn rfl ?_;simp[Zb9x,Zze _ h1]
theorem c_eqAtom(x0:ByteArray)(x1:List Int)(y0:ByteArray)(y1:List Int)(h1:SmA x1):C Zcfa [.agg [.t (.str x0),.t (tI x1)],.agg [.t (.str y0),.t (tI y1)]] []=some (Bo (decide (x0=y0/\x1=y1)),[]):=by
 refine run Zcys rfl ?_;simp[Zb92,Zlx _ _ h1]
 repeat' split
 all_goals first|(simp_all;done)|grind
theorem c_szAtom(x0:ByteArray)(x1:List Int)(c:Int) :C Zce0 [.agg [.t (.str x0),.t (tI x1)],I c] []=some (I (Atom.sz ⟨x0,x1⟩ c),[]):=by
 refine run Zcyi rfl ?_;simp[Zb9q,Z7n,Atom.sz,Zz,sz1]
 repeat' split
 all_goals first|(simp_all;done)|grind
theorem Zczr(xs:List Atom)(h:SmL Atom.Zq xs)(fr:List Fr):∀i,i<=xs.length->EvL C fr [0,3,4] Z65 ⟨[(0,L 2 (xs.map Atom.c)),(3,.own 0),(4,I i)],[[]],[.arr Z0v 2 true (fill Atom.c [.str ⟨#[]⟩,.lst 1 []] xs i)]⟩ =
  EvX C fr (.x 0) ⟨[(0,L 2 (xs.map Atom.c)),(3,.own 0),(4,I xs.length),(11,Bo false)],[[]],[.arr Z0v 2 true (xs.map Atom.c)]⟩:=by
 have hl:xs.length<=4294967296:=h.1;refine down xs.length ?_ ?_
 .rw[Zd Z65.eq_1];simp[Zj3]
 .intro i hi ih;rw[Zd Z65.eq_1,<-ih];have h1:=Zj5 (f:=Atom.c) (z:=[.str ⟨#[]⟩,.lst 1 []]) hi;have h3:=Zj4 (f:=Atom.c) (z:=[.str ⟨#[]⟩,.lst 1 []]) (Yb9 hi);have h4:IntKind.wrap .i64 ((i:Int)+1)=(i:Int)+1:=Zw (by omega) (by omega);simp at h1;simp[hi,c_toAtom _ _ (h.2 _ (Yb hi)).2,h3,h4,h1]
theorem Zczs(xs:List Atom)(h:SmL Atom.Zq xs):C Zcel [L 2 (xs.map Atom.c)] []=some (.own 0,[.arr Z0v 2 true (xs.map Atom.c)]):=by
 refine run Zcx3 rfl ?_;have hl:xs.length<=4294967296:=h.1;have h1:∀b,b<=4096->xs.length*b<=room:=λb hb=>Y2 (Yb3 hl hb) (by decide)
 have h2:(xs.length:Int)<=140737488355328:=by omega
 have h3:=λfr=>Zczr xs h fr 0 (Ya _)
 simp[Zj2]at h3;simp[Zb86,h1,h2,h3]
theorem Zczt(xs ys:List Atom)(h:SmL Atom.Zq xs)(hl:ys.length=xs.length)(fr:List Fr):∀i,i<=xs.length->EvL C fr [0,1,5] Z68 ⟨[(0,L 2 (xs.map Atom.c)),(1,L 2 (ys.map Atom.c)),(5,I i)],[[]],[]⟩ =
  if xs.drop i=ys.drop i then EvX C fr (.x 0) ⟨[(0,L 2 (xs.map Atom.c)),(1,L 2 (ys.map Atom.c)),(5,I xs.length),(14,Bo false)],[[]],[]⟩else EvX C fr .r ⟨[(4,Bo false)],[[]],[]⟩:=by
 have hm:xs.length<=4294967296:=h.1;refine down xs.length ?_ ?_
 .rw[Zd Z68.eq_1];simp[hl,Ybd]
 .intro i hi ih;have hi2:i<ys.length:=by omega
  have h4:IntKind.wrap .i64 ((i:Int)+1)=(i:Int)+1:=Zw (by omega) (by omega);rw[Zd Z68.eq_1];simp +decide[hi,hi2,c_eqAtom _ _ _ _ (h.2 _ (Yb hi)).2,h4];simp at ih;simp only[Zj6 hi hi2,ih,Atom.ext_iff];split<;>first|(simp_all;done)|grind
theorem Zczu(xs ys:List Atom)(h:SmL Atom.Zq xs):C Zceq [L 2 (xs.map Atom.c),L 2 (ys.map Atom.c)] []=some (Bo (decide (xs=ys)),[]):=by
 refine run Zcx8 rfl ?_;by_cases hl:ys.length=xs.length
 .have h3:=λfr=>Zczt xs ys h hl fr 0 (Ya _)
  simp at h3;simp[Zblq,h3,hl];split<;>simp_all
 .have h1:xs≠ys:=λh=>hl (by rw[h])
  have h2:¬((xs.length:Int)=ys.length):=by omega
  simp[Zblq,h1,h2]
theorem Zczv(xs:List Atom)(h:OkL Atom.okay xs)(fr:List Fr):∀i,i<=xs.length->∀left:Int,
  (EvL C fr [0,1,5] Zoa ⟨[(0,L 2 (xs.map Atom.c)),(1,I left),(5,I i)],[[]],[]⟩=EvX C fr .r ⟨[(4,I (-1))],[[]],[]⟩/\Zbi Atom.sz (xs.drop i) left=-1)\/
  EvL C fr [0,1,5] Zoa ⟨[(0,L 2 (xs.map Atom.c)),(1,I left),(5,I i)],[[]],[]⟩=EvX C fr (.x 0) ⟨[(0,L 2 (xs.map Atom.c)),(1,I (Zbi Atom.sz (xs.drop i) left)),(5,I xs.length),(15,Bo false)],[[]],[]⟩:=by
 have hm:maxLen<=9223372036854775807:=by decide
 have hl:=h.1;refine down xs.length ?_ ?_
 .intro left;right;rw[Zd Zoa.eq_1];simp[Ybd,Zbi]
 .intro i hi ih left;have h4:IntKind.wrap .i64 ((i:Int)+1)=(i:Int)+1:=Zw (by omega) (by omega);have e:EvL C fr [0,1,5] Zoa ⟨[(0,L 2 (xs.map Atom.c)),(1,I left),(5,I i)],[[]],[]⟩=if Atom.sz xs[i] left<0 then EvX C fr .r ⟨[(4,I (-1))],[[]],[]⟩else EvL C fr [0,1,5] Zoa ⟨[(0,L 2 (xs.map Atom.c)),(1,I (Atom.sz xs[i] left)),(5,I ((i+1:Nat):Int))],[[]],[]⟩:=by
   rw[Zd Zoa.eq_1];simp[hi,c_szAtom,h4]
  rw[e,Yd hi,Zbi];split
  .exact .inl ⟨rfl,rfl⟩
  .exact ih _
theorem Zczw(xs:List Atom)(cc:Int)(h:OkL Atom.okay xs):C Zceg [L 2 (xs.map Atom.c),I cc] []=some (I (szL Atom.sz xs cc),[]):=by
 refine run Zcxy rfl ?_;have h3:=λfr l=>Zczv xs h fr 0 (Ya _) l
 simp at h3;simp[Zb8y,szL,Zz,sz1];split
 .simp_all
 .rcases h3 [.blk 0,.seq _,.fin _ _] (IntKind.wrap .i64 (cc-xs.length))with⟨h5,h6⟩|h5
  .rw[h5];simp[h6]
  .rw[h5];simp
theorem Zbly(x0:Int)(x1:List Atom)(h1:SmL Atom.Zq x1):C Zcd7 [.agg [I x0,.t (.lst 2 (x1.map Atom.c))]] []=some (.agg [I x0,.own 0],[.arr Z0v 2 true (x1.map Atom.c)]):=by
 refine run Zcxp rfl ?_;simp[Zb8f,Zczs _ h1]
theorem Zblz(x0:Int)(x1:List Atom)(y0:Int)(y1:List Atom)(h1:SmL Atom.Zq x1):C Zcd9 [.agg [I x0,.t (.lst 2 (x1.map Atom.c))],.agg [I y0,.t (.lst 2 (y1.map Atom.c))]] []=some (Bo (decide (x0=y0/\x1=y1)),[]):=by
 refine run Zcxr rfl ?_;simp[Zb8h,Zczu _ _ h1]
 repeat' split
 all_goals first|(simp_all;done)|grind
theorem Zbl0(x0:Int)(x1:List Atom)(cc:Int)(h1:OkL Atom.okay x1):C Zcd5 [.agg [I x0,.t (.lst 2 (x1.map Atom.c))],I cc] []=some (I (Zb.sz ⟨x0,x1⟩ cc),[]):=by
 refine run Zcxn rfl ?_;simp[Zb8d,Zczw _ _ h1,Zb.sz,Zz,sz1]
 repeat' split
 all_goals first|(simp_all;done)|grind
theorem Zczx(x0:ByteArray)(x1:List Int)(x2:Int)(h1:SmA x1):C Zce3 [.agg [.t (.str x0),.t (tI x1),I x2]] []=some (.agg [.t (.str x0),.own 0,I x2],[.arr Zbc 1 true (x1.map ic)]):=by
 refine run Zcyl rfl ?_;simp[Zb9v,Zze _ h1]
theorem Zczy(x0:ByteArray)(x1:List Int)(x2:Int)(y0:ByteArray)(y1:List Int)(y2:Int)(h1:SmA x1):C Zce8 [.agg [.t (.str x0),.t (tI x1),I x2],.agg [.t (.str y0),.t (tI y1),I y2]] []=some (Bo (decide (x0=y0/\x1=y1/\x2=y2)),[]):=by
 refine run Zcyq rfl ?_;simp[Zb90,Zlx _ _ h1]
 repeat' split
 all_goals first|(simp_all;done)|grind
theorem Zczz(x0:ByteArray)(x1:List Int)(x2 c:Int) :C Zcey [.agg [.t (.str x0),.t (tI x1),I x2],I c] []=some (I (Zk.sz ⟨x0,x1,x2⟩ c),[]):=by
 refine run Zcyg rfl ?_;simp[Zb9o,Z7n,Zk.sz,Zz,sz1]
 repeat' split
 all_goals first|(simp_all;done)|grind
theorem Zcz0(x0:ByteArray)(x1:Int)(x2:ByteArray)(x3:Int) :C Zce4 [.agg [.t (.str x0),I x1,.t (.str x2),I x3]] []=some (.agg [.t (.str x0),I x1,.t (.str x2),I x3],[]):=by
 refine run Zcym rfl ?_;simp[Zb9w]
theorem Zcz1(x0:ByteArray)(x1:Int)(x2:ByteArray)(x3:Int)(y0:ByteArray)(y1:Int)(y2:ByteArray)(y3:Int) :C Zce9 [.agg [.t (.str x0),I x1,.t (.str x2),I x3],.agg [.t (.str y0),I y1,.t (.str y2),I y3]] []=some (Bo (decide (x0=y0/\x1=y1/\x2=y2/\x3=y3)),[]):=by
 refine run Zcyr rfl ?_;simp[Zb91]
 repeat' split
 all_goals first|(simp_all;done)|grind
theorem Zcz2(x0:ByteArray)(x1:Int)(x2:ByteArray)(x3 c:Int) :C Zcez [.agg [.t (.str x0),I x1,.t (.str x2),I x3],I c] []=some (I (Zj.sz ⟨x0,x1,x2,x3⟩ c),[]):=by
 refine run Zcyh rfl ?_;simp[Zb9p,Zj.sz,Zz,sz1]
 repeat' split
 all_goals first|(simp_all;done)|grind
theorem Zcz3(x0:List Int)(x1:List (List Int))(x2:List Int)(h0:SmA x0)(h1:SmL SmA x1)(h2:SmA x2):C Zcfs [.agg [.t (tI x0),.t (tII x1),.t (tI x2)]] []=some (.agg [.own 0,.own 1,.own 2],[.arr Zbc 1 true (x0.map ic),.arr Ztf 1 true (x1.map isc),.arr Zbc 1 true (x2.map ic)]):=by
 refine run Zcza rfl ?_;simp[Zcax,Zze _ h0,Zcaz _ h1,Zze _ h2]
theorem Zcz4(x0:List Int)(x1:List (List Int))(x2 y0:List Int)(y1:List (List Int))(y2:List Int)(h0:SmA x0)(h1:SmL SmA x1)(h2:SmA x2):C Zcft [.agg [.t (tI x0),.t (tII x1),.t (tI x2)],.agg [.t (tI y0),.t (tII y1),.t (tI y2)]] []=some (Bo (decide (x0=y0/\x1=y1/\x2=y2)),[]):=by
 refine run Zczb rfl ?_;simp[Zcay,Zlx _ _ h0,Zca0 _ _ h1,Zlx _ _ h2]
 repeat' split
 all_goals first|(simp_all;done)|grind
theorem Zcz5(x0:List Int)(x1:List (List Int))(x2:List Int)(c:Int)(h1:OkL (OkL OkI) x1):C Zcfr [.agg [.t (tI x0),.t (tII x1),.t (tI x2)],I c] []=some (I (Zh.sz ⟨x0,x1,x2⟩ c),[]):=by
 refine run Zcy9 rfl ?_;simp[Zcaw,Z7n,Zca1 _ _ h1,Zh.sz,Zz,sz1]
 repeat' split
 all_goals first|(simp_all;done)|grind
theorem Zcz6(xs:List Zh)(h:SmL Zh.Zq xs)(fr:List Fr):∀i,i<=xs.length->EvL C fr [0,3,4] Z7k ⟨[(0,L 3 (xs.map Zh.c)),(3,.own 0),(4,I i)],[[]],[.arr Z0w 3 true (fill Zh.c [.lst 1 [],.lst 1 [],.lst 1 []] xs i)]⟩ =
  EvX C fr (.x 0) ⟨[(0,L 3 (xs.map Zh.c)),(3,.own 0),(4,I xs.length),(11,Bo false)],[[]],[.arr Z0w 3 true (xs.map Zh.c)]⟩:=by
 have hl:xs.length<=4294967296:=h.1;refine down xs.length ?_ ?_
 .rw[Zd Z7k.eq_1];simp[Zj3]
 .intro i hi ih;rw[Zd Z7k.eq_1,<-ih];have h1:=Zj5 (f:=Zh.c) (z:=[.lst 1 [],.lst 1 [],.lst 1 []]) hi;have h3:=Zj4 (f:=Zh.c) (z:=[.lst 1 [],.lst 1 [],.lst 1 []]) (Yb9 hi);have h4:IntKind.wrap .i64 ((i:Int)+1)=(i:Int)+1:=Zw (by omega) (by omega);simp at h1;simp[hi,Zcz3 _ _ _ (h.2 _ (Yb hi)).1 (h.2 _ (Yb hi)).2.1 (h.2 _ (Yb hi)).2.2,h3,h4,h1]
theorem Zcz7(xs:List Zh)(h:SmL Zh.Zq xs):C Zcfo [L 3 (xs.map Zh.c)] []=some (.own 0,[.arr Z0w 3 true (xs.map Zh.c)]):=by
 refine run Zcy6 rfl ?_;have hl:xs.length<=4294967296:=h.1;have h1:∀b,b<=4096->xs.length*b<=room:=λb hb=>Y2 (Yb3 hl hb) (by decide)
 have h2:(xs.length:Int)<=140737488355328:=by omega
 have h3:=λfr=>Zcz6 xs h fr 0 (Ya _)
 simp[Zj2]at h3;simp[Zcat,h1,h2,h3]
theorem Zcz8(xs ys:List Zh)(h:SmL Zh.Zq xs)(hl:ys.length=xs.length)(fr:List Fr):∀i,i<=xs.length->EvL C fr [0,1,5] Z7m ⟨[(0,L 3 (xs.map Zh.c)),(1,L 3 (ys.map Zh.c)),(5,I i)],[[]],[]⟩ =
  if xs.drop i=ys.drop i then EvX C fr (.x 0) ⟨[(0,L 3 (xs.map Zh.c)),(1,L 3 (ys.map Zh.c)),(5,I xs.length),(14,Bo false)],[[]],[]⟩else EvX C fr .r ⟨[(4,Bo false)],[[]],[]⟩:=by
 have hm:xs.length<=4294967296:=h.1;refine down xs.length ?_ ?_
 .rw[Zd Z7m.eq_1];simp[hl,Ybd]
 .intro i hi ih;have hi2:i<ys.length:=by omega
  have h4:IntKind.wrap .i64 ((i:Int)+1)=(i:Int)+1:=Zw (by omega) (by omega);rw[Zd Z7m.eq_1];simp +decide[hi,hi2,Zcz4 _ _ _ _ _ _ (h.2 _ (Yb hi)).1 (h.2 _ (Yb hi)).2.1 (h.2 _ (Yb hi)).2.2,h4];simp at ih;simp only[Zj6 hi hi2,ih,Zh.ext_iff];split<;>first|(simp_all;done)|grind
theorem Zcz9(xs ys:List Zh)(h:SmL Zh.Zq xs):C Zcfq [L 3 (xs.map Zh.c),L 3 (ys.map Zh.c)] []=some (Bo (decide (xs=ys)),[]):=by
 refine run Zcy8 rfl ?_;by_cases hl:ys.length=xs.length
 .have h3:=λfr=>Zcz8 xs ys h hl fr 0 (Ya _)
  simp at h3;simp[Zblx,h3,hl];split<;>simp_all
 .have h1:xs≠ys:=λh=>hl (by rw[h])
  have h2:¬((xs.length:Int)=ys.length):=by omega
  simp[Zblx,h1,h2]
theorem Zc0a(xs:List Zh)(h:OkL Zh.okay xs)(fr:List Fr):∀i,i<=xs.length->∀left:Int,
  (EvL C fr [0,1,5] Zoe ⟨[(0,L 3 (xs.map Zh.c)),(1,I left),(5,I i)],[[]],[]⟩=EvX C fr .r ⟨[(4,I (-1))],[[]],[]⟩/\Zbi Zh.sz (xs.drop i) left=-1)\/
  EvL C fr [0,1,5] Zoe ⟨[(0,L 3 (xs.map Zh.c)),(1,I left),(5,I i)],[[]],[]⟩=EvX C fr (.x 0) ⟨[(0,L 3 (xs.map Zh.c)),(1,I (Zbi Zh.sz (xs.drop i) left)),(5,I xs.length),(15,Bo false)],[[]],[]⟩:=by
 have hm:maxLen<=9223372036854775807:=by decide
 have hl:=h.1;refine down xs.length ?_ ?_
 .intro left;right;rw[Zd Zoe.eq_1];simp[Ybd,Zbi]
 .intro i hi ih left;have h4:IntKind.wrap .i64 ((i:Int)+1)=(i:Int)+1:=Zw (by omega) (by omega);have e:EvL C fr [0,1,5] Zoe ⟨[(0,L 3 (xs.map Zh.c)),(1,I left),(5,I i)],[[]],[]⟩=if Zh.sz xs[i] left<0 then EvX C fr .r ⟨[(4,I (-1))],[[]],[]⟩else EvL C fr [0,1,5] Zoe ⟨[(0,L 3 (xs.map Zh.c)),(1,I (Zh.sz xs[i] left)),(5,I ((i+1:Nat):Int))],[[]],[]⟩:=by
   rw[Zd Zoe.eq_1];simp[hi,Zcz5 _ _ _ _ (h.2 _ (Yb hi)).2.1,h4]
  rw[e,Yd hi,Zbi];split
  .exact .inl ⟨rfl,rfl⟩
  .exact ih _
theorem Zc0b(xs:List Zh)(cc:Int)(h:OkL Zh.okay xs):C Zcfm [L 3 (xs.map Zh.c),I cc] []=some (I (szL Zh.sz xs cc),[]):=by
 refine run Zcy4 rfl ?_;have h3:=λfr l=>Zc0a xs h fr 0 (Ya _) l
 simp at h3;simp[Zcap,szL,Zz,sz1];split
 .simp_all
 .rcases h3 [.blk 0,.seq _,.fin _ _] (IntKind.wrap .i64 (cc-xs.length))with⟨h5,h6⟩|h5
  .rw[h5];simp[h6]
  .rw[h5];simp
theorem Zc0c(x0:ByteArray)(x1 x2:Int)(x3:List Zh)(h3:SmL Zh.Zq x3):C Zcfh [.agg [.t (.str x0),I x1,I x2,.t (.lst 3 (x3.map Zh.c))]] []=some (.agg [.t (.str x0),I x1,I x2,.own 0],[.arr Z0w 3 true (x3.map Zh.c)]):=by
 refine run Zcyz rfl ?_;simp[Zcad,Zcz7 _ h3]
theorem Zc0d(x0:ByteArray)(x1 x2:Int)(x3:List Zh)(y0:ByteArray)(y1 y2:Int)(y3:List Zh)(h3:SmL Zh.Zq x3):C Zcfk [.agg [.t (.str x0),I x1,I x2,.t (.lst 3 (x3.map Zh.c))],.agg [.t (.str y0),I y1,I y2,.t (.lst 3 (y3.map Zh.c))]] []=some (Bo (decide (x0=y0/\x1=y1/\x2=y2/\x3=y3)),[]):=by
 refine run Zcy2 rfl ?_;simp[Zcah,Zcz9 _ _ h3]
 repeat' split
 all_goals first|(simp_all;done)|grind
theorem Zc0e(x0:ByteArray)(x1 x2:Int)(x3:List Zh)(cc:Int)(h3:OkL Zh.okay x3):C Zcfe [.agg [.t (.str x0),I x1,I x2,.t (.lst 3 (x3.map Zh.c))],I cc] []=some (I (Zg.sz ⟨x0,x1,x2,x3⟩ cc),[]):=by
 refine run Zcyw rfl ?_;simp[Zcaa,Zc0b _ _ h3,Zg.sz,Zz,sz1]
 repeat' split
 all_goals first|(simp_all;done)|grind
theorem Zc0f(xs:List Zg)(h:SmL Zg.Zq xs)(fr:List Fr):∀i,i<=xs.length->EvL C fr [0,3,4] Z7d ⟨[(0,L 4 (xs.map Zg.c)),(3,.own 0),(4,I i)],[[]],[.arr Ztg 4 true (fill Zg.c [.str ⟨#[]⟩,.int .i64 0,.int .i64 0,.lst 3 []] xs i)]⟩ =
  EvX C fr (.x 0) ⟨[(0,L 4 (xs.map Zg.c)),(3,.own 0),(4,I xs.length),(11,Bo false)],[[]],[.arr Ztg 4 true (xs.map Zg.c)]⟩:=by
 have hl:xs.length<=4294967296:=h.1;refine down xs.length ?_ ?_
 .rw[Zd Z7d.eq_1];simp[Zj3]
 .intro i hi ih;rw[Zd Z7d.eq_1,<-ih];have h1:=Zj5 (f:=Zg.c) (z:=[.str ⟨#[]⟩,.int .i64 0,.int .i64 0,.lst 3 []]) hi;have h3:=Zj4 (f:=Zg.c) (z:=[.str ⟨#[]⟩,.int .i64 0,.int .i64 0,.lst 3 []]) (Yb9 hi);have h4:IntKind.wrap .i64 ((i:Int)+1)=(i:Int)+1:=Zw (by omega) (by omega);simp at h1;simp[hi,Zc0c _ _ _ _ (h.2 _ (Yb hi)).2,h3,h4,h1]
theorem Zc0g(xs:List Zg)(h:SmL Zg.Zq xs):C Zce2 [L 4 (xs.map Zg.c)] []=some (.own 0,[.arr Ztg 4 true (xs.map Zg.c)]):=by
 refine run Zcyk rfl ?_;have hl:xs.length<=4294967296:=h.1;have h1:∀b,b<=4096->xs.length*b<=room:=λb hb=>Y2 (Yb3 hl hb) (by decide)
 have h2:(xs.length:Int)<=140737488355328:=by omega
 have h3:=λfr=>Zc0f xs h fr 0 (Ya _)
 simp[Zj2]at h3;simp[Zb9u,h1,h2,h3]
theorem Zc0h(xs ys:List Zg)(h:SmL Zg.Zq xs)(hl:ys.length=xs.length)(fr:List Fr):∀i,i<=xs.length->EvL C fr [0,1,5] Z7f ⟨[(0,L 4 (xs.map Zg.c)),(1,L 4 (ys.map Zg.c)),(5,I i)],[[]],[]⟩ =
  if xs.drop i=ys.drop i then EvX C fr (.x 0) ⟨[(0,L 4 (xs.map Zg.c)),(1,L 4 (ys.map Zg.c)),(5,I xs.length),(14,Bo false)],[[]],[]⟩else EvX C fr .r ⟨[(4,Bo false)],[[]],[]⟩:=by
 have hm:xs.length<=4294967296:=h.1;refine down xs.length ?_ ?_
 .rw[Zd Z7f.eq_1];simp[hl,Ybd]
 .intro i hi ih;have hi2:i<ys.length:=by omega
  have h4:IntKind.wrap .i64 ((i:Int)+1)=(i:Int)+1:=Zw (by omega) (by omega);rw[Zd Z7f.eq_1];simp +decide[hi,hi2,Zc0d _ _ _ _ _ _ _ _ (h.2 _ (Yb hi)).2,h4];simp at ih;simp only[Zj6 hi hi2,ih,Zg.ext_iff];split<;>first|(simp_all;done)|grind
theorem Zc0i(xs ys:List Zg)(h:SmL Zg.Zq xs):C Zce7 [L 4 (xs.map Zg.c),L 4 (ys.map Zg.c)] []=some (Bo (decide (xs=ys)),[]):=by
 refine run Zcyp rfl ?_;by_cases hl:ys.length=xs.length
 .have h3:=λfr=>Zc0h xs ys h hl fr 0 (Ya _)
  simp at h3;simp[Zbls,h3,hl];split<;>simp_all
 .have h1:xs≠ys:=λh=>hl (by rw[h])
  have h2:¬((xs.length:Int)=ys.length):=by omega
  simp[Zbls,h1,h2]
theorem Zc0j(xs:List Zg)(h:OkL Zg.okay xs)(fr:List Fr):∀i,i<=xs.length->∀left:Int,
  (EvL C fr [0,1,5] Zoc ⟨[(0,L 4 (xs.map Zg.c)),(1,I left),(5,I i)],[[]],[]⟩=EvX C fr .r ⟨[(4,I (-1))],[[]],[]⟩/\Zbi Zg.sz (xs.drop i) left=-1)\/
  EvL C fr [0,1,5] Zoc ⟨[(0,L 4 (xs.map Zg.c)),(1,I left),(5,I i)],[[]],[]⟩=EvX C fr (.x 0) ⟨[(0,L 4 (xs.map Zg.c)),(1,I (Zbi Zg.sz (xs.drop i) left)),(5,I xs.length),(15,Bo false)],[[]],[]⟩:=by
 have hm:maxLen<=9223372036854775807:=by decide
 have hl:=h.1;refine down xs.length ?_ ?_
 .intro left;right;rw[Zd Zoc.eq_1];simp[Ybd,Zbi]
 .intro i hi ih left;have h4:IntKind.wrap .i64 ((i:Int)+1)=(i:Int)+1:=Zw (by omega) (by omega);have e:EvL C fr [0,1,5] Zoc ⟨[(0,L 4 (xs.map Zg.c)),(1,I left),(5,I i)],[[]],[]⟩=if Zg.sz xs[i] left<0 then EvX C fr .r ⟨[(4,I (-1))],[[]],[]⟩else EvL C fr [0,1,5] Zoc ⟨[(0,L 4 (xs.map Zg.c)),(1,I (Zg.sz xs[i] left)),(5,I ((i+1:Nat):Int))],[[]],[]⟩:=by
   rw[Zd Zoc.eq_1];simp[hi,Zc0e _ _ _ _ _ (h.2 _ (Yb hi)).2.2.2,h4]
  rw[e,Yd hi,Zbi];split
  .exact .inl ⟨rfl,rfl⟩
  .exact ih _
theorem Zc0k(xs:List Zg)(cc:Int)(h:OkL Zg.okay xs):C Zcex [L 4 (xs.map Zg.c),I cc] []=some (I (szL Zg.sz xs cc),[]):=by
 refine run Zcyf rfl ?_;have h3:=λfr l=>Zc0j xs h fr 0 (Ya _) l
 simp at h3;simp[Zb9n,szL,Zz,sz1];split
 .simp_all
 .rcases h3 [.blk 0,.seq _,.fin _ _] (IntKind.wrap .i64 (cc-xs.length))with⟨h5,h6⟩|h5
  .rw[h5];simp[h6]
  .rw[h5];simp
theorem Zc0l(x0:Int)(x1:List Zg)(h1:SmL Zg.Zq x1):C Zcei [.agg [I x0,.t (.lst 4 (x1.map Zg.c))]] []=some (.agg [I x0,.own 0],[.arr Ztg 4 true (x1.map Zg.c)]):=by
 refine run Zcx0 rfl ?_;simp[Zb80,Zc0g _ h1]
theorem Zc0m(x0:Int)(x1:List Zg)(y0:Int)(y1:List Zg)(h1:SmL Zg.Zq x1):C Zcen [.agg [I x0,.t (.lst 4 (x1.map Zg.c))],.agg [I y0,.t (.lst 4 (y1.map Zg.c))]] []=some (Bo (decide (x0=y0/\x1=y1)),[]):=by
 refine run Zcx5 rfl ?_;simp[Zb88,Zc0i _ _ h1]
 repeat' split
 all_goals first|(simp_all;done)|grind
theorem Zc0n(x0:Int)(x1:List Zg)(cc:Int)(h1:OkL Zg.okay x1):C Zced [.agg [I x0,.t (.lst 4 (x1.map Zg.c))],I cc] []=some (I (Zl.sz ⟨x0,x1⟩ cc),[]):=by
 refine run Zcxv rfl ?_;simp[Zb8s,Zc0k _ _ h1,Zl.sz,Zz,sz1]
 repeat' split
 all_goals first|(simp_all;done)|grind
theorem Zc0o(xs:List Zk)(h:SmL Zk.Zq xs)(fr:List Fr):∀i,i<=xs.length->EvL C fr [0,3,4] Z63 ⟨[(0,L 3 (xs.map Zk.c)),(3,.own 0),(4,I i)],[[]],[.arr Z0t 3 true (fill Zk.c [.str ⟨#[]⟩,.lst 1 [],.int .i64 0] xs i)]⟩ =
  EvX C fr (.x 0) ⟨[(0,L 3 (xs.map Zk.c)),(3,.own 0),(4,I xs.length),(11,Bo false)],[[]],[.arr Z0t 3 true (xs.map Zk.c)]⟩:=by
 have hl:xs.length<=4294967296:=h.1;refine down xs.length ?_ ?_
 .rw[Zd Z63.eq_1];simp[Zj3]
 .intro i hi ih;rw[Zd Z63.eq_1,<-ih];have h1:=Zj5 (f:=Zk.c) (z:=[.str ⟨#[]⟩,.lst 1 [],.int .i64 0]) hi;have h3:=Zj4 (f:=Zk.c) (z:=[.str ⟨#[]⟩,.lst 1 [],.int .i64 0]) (Yb9 hi);have h4:IntKind.wrap .i64 ((i:Int)+1)=(i:Int)+1:=Zw (by omega) (by omega);simp at h1;simp[hi,Zczx _ _ _ (h.2 _ (Yb hi)).2,h3,h4,h1]
theorem Zc0p(xs:List Zk)(h:SmL Zk.Zq xs):C Zcej [L 3 (xs.map Zk.c)] []=some (.own 0,[.arr Z0t 3 true (xs.map Zk.c)]):=by
 refine run Zcx1 rfl ?_;have hl:xs.length<=4294967296:=h.1;have h1:∀b,b<=4096->xs.length*b<=room:=λb hb=>Y2 (Yb3 hl hb) (by decide)
 have h2:(xs.length:Int)<=140737488355328:=by omega
 have h3:=λfr=>Zc0o xs h fr 0 (Ya _)
 simp[Zj2]at h3;simp[Zb82,h1,h2,h3]
theorem Zc0q(xs ys:List Zk)(h:SmL Zk.Zq xs)(hl:ys.length=xs.length)(fr:List Fr):∀i,i<=xs.length->EvL C fr [0,1,5] Z66 ⟨[(0,L 3 (xs.map Zk.c)),(1,L 3 (ys.map Zk.c)),(5,I i)],[[]],[]⟩ =
  if xs.drop i=ys.drop i then EvX C fr (.x 0) ⟨[(0,L 3 (xs.map Zk.c)),(1,L 3 (ys.map Zk.c)),(5,I xs.length),(14,Bo false)],[[]],[]⟩else EvX C fr .r ⟨[(4,Bo false)],[[]],[]⟩:=by
 have hm:xs.length<=4294967296:=h.1;refine down xs.length ?_ ?_
 .rw[Zd Z66.eq_1];simp[hl,Ybd]
 .intro i hi ih;have hi2:i<ys.length:=by omega
  have h4:IntKind.wrap .i64 ((i:Int)+1)=(i:Int)+1:=Zw (by omega) (by omega);rw[Zd Z66.eq_1];simp +decide[hi,hi2,Zczy _ _ _ _ _ _ (h.2 _ (Yb hi)).2,h4];simp at ih;simp only[Zj6 hi hi2,ih,Zk.ext_iff];split<;>first|(simp_all;done)|grind
theorem Zc0r(xs ys:List Zk)(h:SmL Zk.Zq xs):C Zceo [L 3 (xs.map Zk.c),L 3 (ys.map Zk.c)] []=some (Bo (decide (xs=ys)),[]):=by
 refine run Zcx6 rfl ?_;by_cases hl:ys.length=xs.length
 .have h3:=λfr=>Zc0q xs ys h hl fr 0 (Ya _)
  simp at h3;simp[Zblo,h3,hl];split<;>simp_all
 .have h1:xs≠ys:=λh=>hl (by rw[h])
  have h2:¬((xs.length:Int)=ys.length):=by omega
  simp[Zblo,h1,h2]
theorem Zc0s(xs:List Zk)(h:OkL Zk.okay xs)(fr:List Fr):∀i,i<=xs.length->∀left:Int,
  (EvL C fr [0,1,5] Zn8 ⟨[(0,L 3 (xs.map Zk.c)),(1,I left),(5,I i)],[[]],[]⟩=EvX C fr .r ⟨[(4,I (-1))],[[]],[]⟩/\Zbi Zk.sz (xs.drop i) left=-1)\/
  EvL C fr [0,1,5] Zn8 ⟨[(0,L 3 (xs.map Zk.c)),(1,I left),(5,I i)],[[]],[]⟩=EvX C fr (.x 0) ⟨[(0,L 3 (xs.map Zk.c)),(1,I (Zbi Zk.sz (xs.drop i) left)),(5,I xs.length),(15,Bo false)],[[]],[]⟩:=by
 have hm:maxLen<=9223372036854775807:=by decide
 have hl:=h.1;refine down xs.length ?_ ?_
 .intro left;right;rw[Zd Zn8.eq_1];simp[Ybd,Zbi]
 .intro i hi ih left;have h4:IntKind.wrap .i64 ((i:Int)+1)=(i:Int)+1:=Zw (by omega) (by omega);have e:EvL C fr [0,1,5] Zn8 ⟨[(0,L 3 (xs.map Zk.c)),(1,I left),(5,I i)],[[]],[]⟩=if Zk.sz xs[i] left<0 then EvX C fr .r ⟨[(4,I (-1))],[[]],[]⟩else EvL C fr [0,1,5] Zn8 ⟨[(0,L 3 (xs.map Zk.c)),(1,I (Zk.sz xs[i] left)),(5,I ((i+1:Nat):Int))],[[]],[]⟩:=by
   rw[Zd Zn8.eq_1];simp[hi,Zczz,h4]
  rw[e,Yd hi,Zbi];split
  .exact .inl ⟨rfl,rfl⟩
  .exact ih _
theorem Zc0t(xs:List Zk)(cc:Int)(h:OkL Zk.okay xs):C Zcee [L 3 (xs.map Zk.c),I cc] []=some (I (szL Zk.sz xs cc),[]):=by
 refine run Zcxw rfl ?_;have h3:=λfr l=>Zc0s xs h fr 0 (Ya _) l
 simp at h3;simp[Zb8u,szL,Zz,sz1];split
 .simp_all
 .rcases h3 [.blk 0,.seq _,.fin _ _] (IntKind.wrap .i64 (cc-xs.length))with⟨h5,h6⟩|h5
  .rw[h5];simp[h6]
  .rw[h5];simp
theorem Zc0u(xs:List Zj)(h:SmL Zj.Zq xs)(fr:List Fr):∀i,i<=xs.length->EvL C fr [0,3,4] Z64 ⟨[(0,L 4 (xs.map Zj.c)),(3,.own 0),(4,I i)],[[]],[.arr Z0u 4 true (fill Zj.c [.str ⟨#[]⟩,.int .i64 0,.str ⟨#[]⟩,.int .i64 0] xs i)]⟩ =
  EvX C fr (.x 0) ⟨[(0,L 4 (xs.map Zj.c)),(3,.own 0),(4,I xs.length),(11,Bo false)],[[]],[.arr Z0u 4 true (xs.map Zj.c)]⟩:=by
 have hl:xs.length<=4294967296:=h.1;refine down xs.length ?_ ?_
 .rw[Zd Z64.eq_1];simp[Zj3]
 .intro i hi ih;rw[Zd Z64.eq_1,<-ih];have h1:=Zj5 (f:=Zj.c) (z:=[.str ⟨#[]⟩,.int .i64 0,.str ⟨#[]⟩,.int .i64 0]) hi;have h3:=Zj4 (f:=Zj.c) (z:=[.str ⟨#[]⟩,.int .i64 0,.str ⟨#[]⟩,.int .i64 0]) (Yb9 hi);have h4:IntKind.wrap .i64 ((i:Int)+1)=(i:Int)+1:=Zw (by omega) (by omega);simp at h1;simp[hi,Zcz0 _ _ _ _ ,h3,h4,h1]
theorem Zc0v(xs:List Zj)(h:SmL Zj.Zq xs):C Zcek [L 4 (xs.map Zj.c)] []=some (.own 0,[.arr Z0u 4 true (xs.map Zj.c)]):=by
 refine run Zcx2 rfl ?_;have hl:xs.length<=4294967296:=h.1;have h1:∀b,b<=4096->xs.length*b<=room:=λb hb=>Y2 (Yb3 hl hb) (by decide)
 have h2:(xs.length:Int)<=140737488355328:=by omega
 have h3:=λfr=>Zc0u xs h fr 0 (Ya _)
 simp[Zj2]at h3;simp[Zb84,h1,h2,h3]
theorem Zc0w(xs ys:List Zj)(h:SmL Zj.Zq xs)(hl:ys.length=xs.length)(fr:List Fr):∀i,i<=xs.length->EvL C fr [0,1,5] Z67 ⟨[(0,L 4 (xs.map Zj.c)),(1,L 4 (ys.map Zj.c)),(5,I i)],[[]],[]⟩ =
  if xs.drop i=ys.drop i then EvX C fr (.x 0) ⟨[(0,L 4 (xs.map Zj.c)),(1,L 4 (ys.map Zj.c)),(5,I xs.length),(14,Bo false)],[[]],[]⟩else EvX C fr .r ⟨[(4,Bo false)],[[]],[]⟩:=by
 have hm:xs.length<=4294967296:=h.1;refine down xs.length ?_ ?_
 .rw[Zd Z67.eq_1];simp[hl,Ybd]
 .intro i hi ih;have hi2:i<ys.length:=by omega
  have h4:IntKind.wrap .i64 ((i:Int)+1)=(i:Int)+1:=Zw (by omega) (by omega);rw[Zd Z67.eq_1];simp +decide[hi,hi2,Zcz1 _ _ _ _ _ _ _ _ ,h4];simp at ih;simp only[Zj6 hi hi2,ih,Zj.ext_iff];split<;>first|(simp_all;done)|grind
theorem Zc0x(xs ys:List Zj)(h:SmL Zj.Zq xs):C Zcep [L 4 (xs.map Zj.c),L 4 (ys.map Zj.c)] []=some (Bo (decide (xs=ys)),[]):=by
 refine run Zcx7 rfl ?_;by_cases hl:ys.length=xs.length
 .have h3:=λfr=>Zc0w xs ys h hl fr 0 (Ya _)
  simp at h3;simp[Zblp,h3,hl];split<;>simp_all
 .have h1:xs≠ys:=λh=>hl (by rw[h])
  have h2:¬((xs.length:Int)=ys.length):=by omega
  simp[Zblp,h1,h2]
theorem Zc0y(xs:List Zj)(h:OkL Zj.okay xs)(fr:List Fr):∀i,i<=xs.length->∀left:Int,
  (EvL C fr [0,1,5] Zn9 ⟨[(0,L 4 (xs.map Zj.c)),(1,I left),(5,I i)],[[]],[]⟩=EvX C fr .r ⟨[(4,I (-1))],[[]],[]⟩/\Zbi Zj.sz (xs.drop i) left=-1)\/
  EvL C fr [0,1,5] Zn9 ⟨[(0,L 4 (xs.map Zj.c)),(1,I left),(5,I i)],[[]],[]⟩=EvX C fr (.x 0) ⟨[(0,L 4 (xs.map Zj.c)),(1,I (Zbi Zj.sz (xs.drop i) left)),(5,I xs.length),(15,Bo false)],[[]],[]⟩:=by
 have hm:maxLen<=9223372036854775807:=by decide
 have hl:=h.1;refine down xs.length ?_ ?_
 .intro left;right;rw[Zd Zn9.eq_1];simp[Ybd,Zbi]
 .intro i hi ih left;have h4:IntKind.wrap .i64 ((i:Int)+1)=(i:Int)+1:=Zw (by omega) (by omega);have e:EvL C fr [0,1,5] Zn9 ⟨[(0,L 4 (xs.map Zj.c)),(1,I left),(5,I i)],[[]],[]⟩=if Zj.sz xs[i] left<0 then EvX C fr .r ⟨[(4,I (-1))],[[]],[]⟩else EvL C fr [0,1,5] Zn9 ⟨[(0,L 4 (xs.map Zj.c)),(1,I (Zj.sz xs[i] left)),(5,I ((i+1:Nat):Int))],[[]],[]⟩:=by
   rw[Zd Zn9.eq_1];simp[hi,Zcz2,h4]
  rw[e,Yd hi,Zbi];split
  .exact .inl ⟨rfl,rfl⟩
  .exact ih _
theorem Zc0z(xs:List Zj)(cc:Int)(h:OkL Zj.okay xs):C Zcef [L 4 (xs.map Zj.c),I cc] []=some (I (szL Zj.sz xs cc),[]):=by
 refine run Zcxx rfl ?_;have h3:=λfr l=>Zc0y xs h fr 0 (Ya _) l
 simp at h3;simp[Zb8w,szL,Zz,sz1];split
 .simp_all
 .rcases h3 [.blk 0,.seq _,.fin _ _] (IntKind.wrap .i64 (cc-xs.length))with⟨h5,h6⟩|h5
  .rw[h5];simp[h6]
  .rw[h5];simp
theorem Zbl1(x0:List Ze)(x1:Int)(x2:List Zg)(x3:List Zk)(x4:List Zj)(h0:SmL Ze.Zq x0)(h2:SmL Zg.Zq x2)(h3:SmL Zk.Zq x3)(h4:SmL Zj.Zq x4):C Zcd6 [.agg [.t (.lst 3 (x0.map Ze.c)),I x1,.t (.lst 4 (x2.map Zg.c)),.t (.lst 3 (x3.map Zk.c)),.t (.lst 4 (x4.map Zj.c))]] []=some (.agg [.own 0,I x1,.own 1,.own 2,.own 3],[.arr Zth 3 true (x0.map Ze.c),.arr Ztg 4 true (x2.map Zg.c),.arr Z0t 3 true (x3.map Zk.c),.arr Z0u 4 true (x4.map Zj.c)]):=by
 refine run Zcxo rfl ?_;simp[Zb8e,Zczo _ h0,Zc0l _ _ h2,Zc0p _ h3,Zc0v _ h4]
theorem Zbl2(x0:List Ze)(x1:Int)(x2:List Zg)(x3:List Zk)(x4:List Zj)(y0:List Ze)(y1:Int)(y2:List Zg)(y3:List Zk)(y4:List Zj)(h0:SmL Ze.Zq x0)(h2:SmL Zg.Zq x2)(h3:SmL Zk.Zq x3)(h4:SmL Zj.Zq x4):C Zcd8 [.agg [.t (.lst 3 (x0.map Ze.c)),I x1,.t (.lst 4 (x2.map Zg.c)),.t (.lst 3 (x3.map Zk.c)),.t (.lst 4 (x4.map Zj.c))],.agg [.t (.lst 3 (y0.map Ze.c)),I y1,.t (.lst 4 (y2.map Zg.c)),.t (.lst 3 (y3.map Zk.c)),.t (.lst 4 (y4.map Zj.c))]] []=some (Bo (decide (x0=y0/\x1=y1/\x2=y2/\x3=y3/\x4=y4)),[]):=by
 refine run Zcxq rfl ?_;simp[Zb8g,Zczp _ _ h0,Zc0m _ _ _ _ h2,Zc0r _ _ h3,Zc0x _ _ h4]
 repeat' split
 all_goals first|(simp_all;done)|grind
theorem Zbl3(x0:List Ze)(x1:Int)(x2:List Zg)(x3:List Zk)(x4:List Zj)(cc:Int)(h0:OkL Ze.okay x0)(h2:OkL Zg.okay x2)(h3:OkL Zk.okay x3)(h4:OkL Zj.okay x4):C Zcd4 [.agg [.t (.lst 3 (x0.map Ze.c)),I x1,.t (.lst 4 (x2.map Zg.c)),.t (.lst 3 (x3.map Zk.c)),.t (.lst 4 (x4.map Zj.c))],I cc] []=some (I (Zf.sz ⟨⟨x0⟩,⟨x1,x2⟩,x3,x4⟩ cc),[]):=by
 refine run Zcxm rfl ?_;simp[Zb8c,Zczq _ _ h0,Zc0n _ _ _ h2,Zc0t _ _ h3,Zc0z _ _ h4,Zf.sz,Zz,sz1]
 repeat' split
 all_goals first|(simp_all;done)|grind
theorem c_eqBox(x0 x1 y0 y1:List Int)(h0:SmA x0)(h1:SmA x1):C Zbpr [.agg [.t (tI x0),.t (tI x1)],.agg [.t (tI y0),.t (tI y1)]] []=some (Bo (decide (x0=y0/\x1=y1)),[]):=by
 refine run Zb8o rfl ?_;simp[Zbll,Zlx _ _ h0,Zlx _ _ h1]
 repeat' split
 all_goals first|(simp_all;done)|grind
end
end Go.Proofs.YtnnjbejcffjgfaaGreat
