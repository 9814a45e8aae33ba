/-
  Parts of the proofs for this seat: T3 T4 T5.
-/
import Derived.Test.YtnnjbejcffjgfaaGreatP8
import Derived.Test.YtnnjbejcffjgfaaGreatP9
import Derived.Test.YtnnjbejcffjgfaaGreatP10
set_option linter.unusedSimpArgs false
set_option linter.unusedVariables false
set_option maxRecDepth 100000
set_option maxHeartbeats 4000000
namespace Go.Proofs.YtnnjbejcffjgfaaGreat
open Go.AM
theorem Zb43:tbl 320=some Zbjj:=Zb Tryz.func320
theorem Zb44:tbl 321=some Zbjk:=Zb Tryz.func321
theorem Zb45:tbl 292=some Zbjl:=Zb Tryz.func292
theorem Zb46:tbl 343=some Zbjm:=Zb Tryz.func343
theorem Zb47:tbl 344=some Zbjn:=Zb Tryz.func344
theorem Zb48:tbl 323=some Zbjo:=Zb Tryz.func323
theorem Zb49:tbl 322=some Zbjq:=Zb Tryz.func322
theorem Zb5a:tbl 290=some Zbjt:=Zb Tryz.func290
theorem Zb5b:tbl 256=some Zbjw:=Zb Tryz.func256
theorem Zb5c:tbl 218=some Zbjx:=Zb Tryz.func218
theorem Zb5d:tbl 175=some Zbjy:=Zb Tryz.func175
theorem Zb5e:tbl 220=some Zbj0:=Zb Tryz.func220
theorem Zb5f:tbl 221=some Zbj1:=Zb Tryz.func221
theorem Zb5g:tbl 176=some Zbj2:=Zb Tryz.func176
theorem Zb5h:tbl 124=some Zbj3:=Zb Tryz.func124
theorem Zb5i:tbl 80=some Zbj6:=Zb Tryz.func80
theorem Zb5j:tbl 41=some Zbj8:=Zb Tryz.func41
theorem Zb5k:tbl 12=some Zbj9:=Zb Tryz.func12
theorem Zb5l:tbl 131=some Zbka:=Zb Tryz.func131
theorem Zb5m:tbl 88=some Zbkb:=Zb Tryz.func88
theorem Zb5n:tbl 258=some Zbkc:=Zb Tryz.func258
theorem Zb5o:tbl 195=some Zbkd:=Zb Tryz.func195
theorem Zbns:tbl 223=some Z6v:=Zb Tryz.func223
theorem Zb5p:tbl 179=some Zbke:=Zb Tryz.func179
theorem Zb5q:tbl 259=some Zbkg:=Zb Tryz.func259
theorem Zb5r:tbl 224=some Zbkh:=Zb Tryz.func224
theorem Zbnt:tbl 260=some Z62:=Zb Tryz.func260
theorem Zb5s:tbl 261=some Zbki:=Zb Tryz.func261
theorem Zbnu:tbl 262=some Z66:=Zb Tryz.func262
theorem Zb5t:tbl 225=some Zbkm:=Zb Tryz.func225
theorem Zb5u:tbl 180=some Zbkn:=Zb Tryz.func180
theorem Zb5v:tbl 127=some Zbko:=Zb Tryz.func127
theorem Zbnv:tbl 128=some Z7e:=Zb Tryz.func128
theorem Zb5w:tbl 184=some Zbkp:=Zb Tryz.func184
theorem Zb5x:tbl 130=some Zbkq:=Zb Tryz.func130
theorem Zb5y:tbl 132=some Zbkr:=Zb Tryz.func132
theorem Zb5z:tbl 226=some Zbks:=Zb Tryz.func226
theorem Zb50:tbl 227=some Zbkt:=Zb Tryz.func227
theorem Zb51:tbl 182=some Zbku:=Zb Tryz.func182
theorem Zb52:tbl 228=some Zbkv:=Zb Tryz.func228
theorem Zb53:tbl 229=some Zbkw:=Zb Tryz.func229
theorem Zb54:tbl 183=some Zbkx:=Zb Tryz.func183
theorem Zb55:tbl 129=some Zbky:=Zb Tryz.func129
theorem Zb56:tbl 181=some Zbkz:=Zb Tryz.func181
theorem Zb57:tbl 86=some Zbk0:=Zb Tryz.func86
theorem Zb58:tbl 89=some Zbk1:=Zb Tryz.func89
theorem Zb59:tbl 87=some Zbk2:=Zb Tryz.func87
theorem Zb6a:tbl 48=some Zbk3:=Zb Tryz.func48
theorem Zb6b:tbl 47=some Zbk4:=Zb Tryz.func47
theorem Zb6c:tbl 234=some Zbk5:=Zb Tryz.func234
theorem Zb6d:tbl 197=some Zbk6:=Zb Tryz.func197
theorem Zb6e:tbl 152=some Zbk8:=Zb Tryz.func152
theorem Zb6f:tbl 194=some Zbk9:=Zb Tryz.func194
theorem Zb6g:tbl 146=some Zbla:=Zb Tryz.func146
theorem Zb6h:tbl 105=some Zblb:=Zb Tryz.func105
theorem Zb6i:tbl 67=some Zbld:=Zb Tryz.func67
theorem Zb6j:tbl 149=some Zble:=Zb Tryz.func149
theorem Zb6k:tbl 148=some Zblg:=Zb Tryz.func148
theorem Zb6l:tbl 110=some Zbli:=Zb Tryz.func110
theorem Zb6m:tbl 196=some Zblj:=Zb Tryz.func196
theorem Zb6n:tbl 147=some Zblk:=Zb Tryz.func147
theorem Zb6o:tbl 106=some Zblm:=Zb Tryz.func106
theorem Zb6p:tbl 68=some Zbln:=Zb Tryz.func68
theorem Zb6q:tbl 69=some Zblp:=Zb Tryz.func69
theorem Zb6r:tbl 90=some Zblq:=Zb Tryz.func90
theorem Zb6s:tbl 150=some Zblr:=Zb Tryz.func150
theorem Zb6t:tbl 107=some Zblt:=Zb Tryz.func107
theorem Zb6u:tbl 109=some Zblu:=Zb Tryz.func109
theorem Zb6v:tbl 151=some Zblv:=Zb Tryz.func151
theorem Zb6w:tbl 108=some Zblw:=Zb Tryz.func108
theorem Zb6x:tbl 70=some Zblx:=Zb Tryz.func70
theorem Zb6y:tbl 293=some Zblz:=Zb Tryz.func293
theorem Zb6z:tbl 294=some Zbl1:=Zb Tryz.func294
theorem Zb60:tbl 296=some Zbl2:=Zb Tryz.func296
theorem Zb61:tbl 295=some Zbl3:=Zb Tryz.func295
theorem Zb62:tbl 265=some Zbl4:=Zb Tryz.func265
theorem Zb63:tbl 235=some Zbl6:=Zb Tryz.func235
theorem Zb64:tbl 269=some Zbl8:=Zb Tryz.func269
theorem Zb65:tbl 237=some Zbl9:=Zb Tryz.func237
theorem Zb66:tbl 266=some Zbmc:=Zb Tryz.func266
theorem Zb67:tbl 267=some Zbme:=Zb Tryz.func267
theorem Zb68:tbl 268=some Zbmf:=Zb Tryz.func268
theorem Zb69:tbl 236=some Z9k:=Zb Tryz.func236
theorem Zb7a:tbl 198=some Zbmg:=Zb Tryz.func198
theorem Zb7b:tbl 240=some Zbmh:=Zb Tryz.func240
theorem Zb7c:tbl 238=some Zbmi:=Zb Tryz.func238
theorem Zb7d:tbl 201=some Zbmk:=Zb Tryz.func201
theorem Zb7e:tbl 200=some Zbml:=Zb Tryz.func200
theorem Zb7f:tbl 154=some Zbmm:=Zb Tryz.func154
theorem Zb7g:tbl 297=some Zbmn:=Zb Tryz.func297
theorem Zb7h:tbl 270=some Zbmo:=Zb Tryz.func270
theorem Zb7i:tbl 239=some Zbmq:=Zb Tryz.func239
theorem Zb7j:tbl 298=some Zbmt:=Zb Tryz.func298
theorem Zb7k:tbl 271=some Zbmu:=Zb Tryz.func271
theorem Zb7l:tbl 272=some Zbmv:=Zb Tryz.func272
theorem Zb7m:tbl 241=some Zbmx:=Zb Tryz.func241
theorem Zb7n:tbl 274=some Zbmy:=Zb Tryz.func274
theorem Zb7o:tbl 299=some Zbmz:=Zb Tryz.func299
theorem Zb7p:tbl 273=some Zbm0:=Zb Tryz.func273
theorem Zb7q:tbl 275=some Zbm1:=Zb Tryz.func275
theorem Zb7r:tbl 242=some Zbm5:=Zb Tryz.func242
theorem Zb7s:tbl 199=some Zbm8:=Zb Tryz.func199
theorem Zb7t:tbl 153=some Zbnb:=Zb Tryz.func153
theorem Zb7u:tbl 111=some Zbnc:=Zb Tryz.func111
theorem Zb7v:tbl 156=some Zbnf:=Zb Tryz.func156
theorem Zb7w:tbl 155=some Zbng:=Zb Tryz.func155
theorem Zb7x:tbl 157=some Zbnh:=Zb Tryz.func157
theorem Zb7y:tbl 112=some Zbni:=Zb Tryz.func112
theorem Zb7z:tbl 71=some Zbnj:=Zb Tryz.func71
theorem Zb70:tbl 34=some Zbnm:=Zb Tryz.func34
theorem Zb71:tbl 9=some Zbnn:=Zb Tryz.func9
theorem Zb72:tbl 141=some Zbno:=Zb Tryz.func141
theorem Zb73:tbl 98=some Zbnp:=Zb Tryz.func98
end Go.Proofs.YtnnjbejcffjgfaaGreat
