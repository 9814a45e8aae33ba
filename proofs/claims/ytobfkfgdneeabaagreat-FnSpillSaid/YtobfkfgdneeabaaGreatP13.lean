/-
  Parts of the proofs for this seat: T1 T2.
-/
import Derived.Test.YtobfkfgdneeabaaGreatP9
import Derived.Test.YtobfkfgdneeabaaGreatP10
import Derived.Test.YtobfkfgdneeabaaGreatP11
import Derived.Test.YtobfkfgdneeabaaGreatP12
set_option linter.all false
set_option maxRecDepth 100000
set_option maxHeartbeats 4000000
namespace Go.Proofs.YtobfkfgdneeabaaGreat
open Go.AM
def ZI5:Ad 4=some Z6k:=Zh Tryz.func4
def ZI6:Ad 47=some Z6l:=Zh Tryz.func47
def ZI7:Ad 109=some Z6o:=Zh Tryz.func109
def ZI8:Ad 56=some Z6p:=Zh Tryz.func56
def ZI9:Ad 53=some Z6q:=Zh Tryz.func53
def ZIA:Ad 90=some Z6r:=Zh Tryz.func90
def ZIB:Ad 55=some Z6s:=Zh Tryz.func55
def ZIC:Ad 91=some Z6v:=Zh Tryz.func91
def ZID:Ad 48=some Z6w:=Zh Tryz.func48
def ZIE:Ad 154=some Z60:=Zh Tryz.func154
def ZIF:Ad 86=some Z61:=Zh Tryz.func86
def ZIG:Ad 158=some Z62:=Zh Tryz.func158
def ZIH:Ad 92=some Z63:=Zh Tryz.func92
def ZII:Ad 93=some Z67:=Zh Tryz.func93
def ZCe:Ad 127=some Zth:=Zh Tryz.func127
def ZCf:Ad 32=some Zti:=Zh Tryz.func32
def ZIJ:Ad 203=some Z68:=Zh Tryz.func203
def ZIK:Ad 183=some Z69:=Zh Tryz.func183
def ZIL:Ad 129=some Z6A:=Zh Tryz.func129
def ZIM:Ad 130=some Z6B:=Zh Tryz.func130
def ZIN:Ad 66=some Z6C:=Zh Tryz.func66
def ZIO:Ad 206=some Z6D:=Zh Tryz.func206
def ZCg:Ad 128=some Zt9:=Zh Tryz.func128
def ZIP:Ad 159=some Z6E:=Zh Tryz.func159
def ZIQ:Ad 207=some Z6F:=Zh Tryz.func207
def ZIR:Ad 160=some Z6G:=Zh Tryz.func160
def ZIS:Ad 94=some Z6H:=Zh Tryz.func94
def ZCh:Ad 161=some ZtJ:=Zh Tryz.func161
def ZIT:Ad 95=some Z6L:=Zh Tryz.func95
def ZIU:Ad 162=some Z6M:=Zh Tryz.func162
def ZIV:Ad 163=some Z6N:=Zh Tryz.func163
def ZIW:Ad 96=some Z6O:=Zh Tryz.func96
def ZIX:Ad 258=some Z6Q:=Zh Tryz.func258
def ZIY:Ad 228=some Z6R:=Zh Tryz.func228
def ZIZ:Ad 229=some Z6T:=Zh Tryz.func229
def ZJa:Ad 208=some Z6U:=Zh Tryz.func208
def ZJb:Ad 164=some Z6V:=Zh Tryz.func164
def ZJc:Ad 165=some Z6W:=Zh Tryz.func165
def ZJd:Ad 166=some Z6X:=Zh Tryz.func166
def ZJe:Ad 167=some Z6Y:=Zh Tryz.func167
def ZJf:Ad 97=some Z6Z:=Zh Tryz.func97
def ZJg:Ad 49=some Z7c:=Zh Tryz.func49
def ZJh:Ad 169=some Z7d:=Zh Tryz.func169
def Z1U:Ad 65=some ZnT:=Zh Tryz.func65
def ZJi:Ad 171=some Z7f:=Zh Tryz.func171
def ZJj:Ad 170=some Z7g:=Zh Tryz.func170
def ZJk:Ad 209=some Z7h:=Zh Tryz.func209
def ZJl:Ad 99=some Z7i:=Zh Tryz.func99
def ZJm:Ad 168=some Z7j:=Zh Tryz.func168
def ZJn:Ad 98=some Z7m:=Zh Tryz.func98
def ZJo:Ad 31=some Z7n:=Zh Tryz.func31
def ZJp:Ad 155=some Z7o:=Zh Tryz.func155
def ZJq:Ad 134=some Z7p:=Zh Tryz.func134
def ZJr:Ad 204=some Z7r:=Zh Tryz.func204
def ZJs:Ad 156=some Z7s:=Zh Tryz.func156
def ZJt:Ad 87=some Z7t:=Zh Tryz.func87
def ZJu:Ad 50=some Z7w:=Zh Tryz.func50
def ZJv:Ad 100=some Z7y:=Zh Tryz.func100
def ZJw:Ad 101=some Z70:=Zh Tryz.func101
def ZJx:Ad 102=some Z71:=Zh Tryz.func102
def ZJy:Ad 103=some Z72:=Zh Tryz.func103
def ZJz:Ad 210=some Z74:=Zh Tryz.func210
def ZJ0:Ad 172=some Z75:=Zh Tryz.func172
def ZJ1:Ad 104=some Z77:=Zh Tryz.func104
def ZJ2:Ad 133=some Z78:=Zh Tryz.func133
def ZJ3:Ad 70=some Z7A:=Zh Tryz.func70
def ZJ4:Ad 38=some Z7B:=Zh Tryz.func38
def ZJ5:Ad 105=some Z7C:=Zh Tryz.func105
def ZJ6:Ad 106=some Z7D:=Zh Tryz.func106
def ZJ7:Ad 51=some Z7G:=Zh Tryz.func51
def ZJ8:Ad 259=some Z7H:=Zh Tryz.func259
def ZJ9:Ad 230=some Z7I:=Zh Tryz.func230
def ZJA:Ad 211=some Z7J:=Zh Tryz.func211
def ZJB:Ad 28=some Z7K:=Zh Tryz.func28
def ZJC:Ad 173=some Z7L:=Zh Tryz.func173
def ZJD:Ad 197=some Z7M:=Zh Tryz.func197
def ZJE:Ad 260=some Z7N:=Zh Tryz.func260
def ZJF:Ad 231=some Z7P:=Zh Tryz.func231
def ZJG:Ad 212=some Z7Q:=Zh Tryz.func212
def ZJH:Ad 290=some Z7R:=Zh Tryz.func290
def ZJI:Ad 279=some Z7S:=Zh Tryz.func279
def ZJJ:Ad 261=some Z7T:=Zh Tryz.func261
def ZJK:Ad 262=some Z7U:=Zh Tryz.func262
def ZJL:Ad 232=some Z7V:=Zh Tryz.func232
def ZJM:Ad 213=some Z7W:=Zh Tryz.func213
def ZJN:Ad 174=some Z7Y:=Zh Tryz.func174
def ZJO:Ad 107=some Z8a:=Zh Tryz.func107
def ZJP:Ad 233=some Z8c:=Zh Tryz.func233
def ZJQ:Ad 266=some Z8e:=Zh Tryz.func266
def ZJR:Ad 291=some Z8f:=Zh Tryz.func291
def ZJS:Ad 280=some Z8g:=Zh Tryz.func280
def ZJT:Ad 263=some Z8i:=Zh Tryz.func263
def ZJU:Ad 234=some Z8j:=Zh Tryz.func234
def ZJV:Ad 265=some Z8k:=Zh Tryz.func265
def ZJW:Ad 281=some Z8l:=Zh Tryz.func281
def ZJX:Ad 264=some Z8m:=Zh Tryz.func264
def ZJY:Ad 235=some Z8n:=Zh Tryz.func235
def ZJZ:Ad 315=some Z8p:=Zh Tryz.func315
def ZKa:Ad 316=some Z8r:=Zh Tryz.func316
def ZKb:Ad 318=some Z8s:=Zh Tryz.func318
def ZKc:Ad 317=some Z8t:=Zh Tryz.func317
def ZKd:Ad 304=some Z8u:=Zh Tryz.func304
def ZKe:Ad 296=some Z8w:=Zh Tryz.func296
