/-
  Parts of the proofs for this seat: T1 T2.
-/
import Derived.Test.YthpdbpfamhcgiaaGreatP9
import Derived.Test.YthpdbpfamhcgiaaGreatP10
import Derived.Test.YthpdbpfamhcgiaaGreatP11
import Derived.Test.YthpdbpfamhcgiaaGreatP12
set_option linter.all false
set_option maxRecDepth 100000
set_option maxHeartbeats 4000000
namespace Go.Proofs.YthpdbpfamhcgiaaGreat
open Go.AM
noncomputable def ZzK(cc:YA)(c i:Int):Rs:=lp C [.blk 0,.seq ZjV,.fin 0 [.tmp 2]] [1,3] ZjU [.ptr 0 0,I i] [.box [.t (.str cc),I c,.t .nil]]
noncomputable def Zlz(cc:YA)(c:Int)(cd:V6)(i:Int):Rs:=lp C [.blk 0,.seq ZjY,.fin 0 [.tmp 4]] [1,2,5] ZjX [Zw cd,.ptr 0 0,I i] [.box [.t (.str cc),I c,.t .nil]]
def ZGM:tbl 162=some Z35:=Zh Tryz.func162
def ZGN:tbl 251=some Z36:=Zh Tryz.func251
def ZGO:tbl 261=some Z37:=Zh Tryz.func261
def ZGP:tbl 200=some Z38:=Zh Tryz.func200
def ZGQ:tbl 331=some Z39:=Zh Tryz.func331
def ZGR:tbl 252=some Z3A:=Zh Tryz.func252
def ZGS:tbl 158=some ZmQ:=Zh Tryz.func158
def ZGT:tbl 283=some Z3B:=Zh Tryz.func283
def ZGU:tbl 364=some Z3C:=Zh Tryz.func364
def ZGV:tbl 302=some Z3D:=Zh Tryz.func302
def ZGW:tbl 320=some Z3E:=Zh Tryz.func320
def ZGX:tbl 242=some Z3F:=Zh Tryz.func242
def ZGY:tbl 155=some Z3G:=Zh Tryz.func155
def ZGZ:tbl 334=some Z3H:=Zh Tryz.func334
def ZHa:tbl 374=some Z3J:=Zh Tryz.func374
def ZHb:tbl 350=some Z3K:=Zh Tryz.func350
def ZHc:tbl 284=some Z3M:=Zh Tryz.func284
def ZHd:tbl 243=some Z3N:=Zh Tryz.func243
def ZHe:tbl 244=some Z3O:=Zh Tryz.func244
def ZHf:tbl 153=some Z3P:=Zh Tryz.func153
def ZHg:tbl 245=some Z3Q:=Zh Tryz.func245
def ZHh:tbl 321=some Z3S:=Zh Tryz.func321
def ZHi:tbl 246=some Z3U:=Zh Tryz.func246
def ZHj:tbl 154=some Z3V:=Zh Tryz.func154
def ZHk:tbl 205=some Z3W:=Zh Tryz.func205
def ZHl:tbl 375=some Z3X:=Zh Tryz.func375
def ZHm:tbl 322=some Z3Y:=Zh Tryz.func322
def ZHn:tbl 324=some Z3Z:=Zh Tryz.func324
def ZHo:tbl 192=some Z4a:=Zh Tryz.func192
def ZHp:tbl 282=some Z4b:=Zh Tryz.func282
def ZHq:tbl 299=some Z4d:=Zh Tryz.func299
def ZHr:tbl 325=some Z4e:=Zh Tryz.func325
def ZHs:tbl 323=some Z4g:=Zh Tryz.func323
def ZHt:tbl 247=some Z4h:=Zh Tryz.func247
def ZHu:tbl 156=some Z4i:=Zh Tryz.func156
def ZHv:tbl 71=some Z4j:=Zh Tryz.func71
def ZHw:tbl 358=some Z4k:=Zh Tryz.func358
def ZHx:tbl 459=some Z4l:=Zh Tryz.func459
def ZHy:tbl 448=some Z4m:=Zh Tryz.func448
def ZHz:tbl 412=some Z4n:=Zh Tryz.func412
def ZH0:tbl 361=some Z4o:=Zh Tryz.func361
def ZH1:tbl 384=some Z4p:=Zh Tryz.func384
def ZH2:tbl 332=some Z4q:=Zh Tryz.func332
def ZH3:tbl 255=some Z4r:=Zh Tryz.func255
def ZH4:tbl 416=some Z4t:=Zh Tryz.func416
def ZH5:tbl 376=some Z4u:=Zh Tryz.func376
def ZH6:tbl 410=some Z4v:=Zh Tryz.func410
def ZH7:tbl 336=some Z4w:=Zh Tryz.func336
def Z8D:tbl 333=some ZsA:=Zh Tryz.func333
def Z8E:tbl 301=some ZsB:=Zh Tryz.func301
def ZH8:tbl 164=some Z4x:=Zh Tryz.func164
def ZH9:tbl 377=some Z4z:=Zh Tryz.func377
def ZHA:tbl 326=some Z40:=Zh Tryz.func326
def ZHB:tbl 248=some Z42:=Zh Tryz.func248
def ZHC:tbl 260=some Z43:=Zh Tryz.func260
def ZHD:tbl 259=some Z44:=Zh Tryz.func259
def ZHE:tbl 165=some Z45:=Zh Tryz.func165
def ZHF:tbl 379=some Z46:=Zh Tryz.func379
def ZHG:tbl 378=some Z47:=Zh Tryz.func378
def ZHH:tbl 328=some Z48:=Zh Tryz.func328
def ZHI:tbl 327=some Z49:=Zh Tryz.func327
def ZHJ:tbl 249=some Z4A:=Zh Tryz.func249
def ZHK:tbl 254=some Z4B:=Zh Tryz.func254
def ZHL:tbl 253=some Z4C:=Zh Tryz.func253
def ZHM:tbl 256=some Z4D:=Zh Tryz.func256
def ZHN:tbl 159=some Z4E:=Zh Tryz.func159
def ZHO:tbl 380=some Z4F:=Zh Tryz.func380
def ZHP:tbl 381=some Z4J:=Zh Tryz.func381
def ZHQ:tbl 329=some Z4L:=Zh Tryz.func329
def ZHR:tbl 382=some Z4M:=Zh Tryz.func382
def ZHS:tbl 383=some Z4O:=Zh Tryz.func383
def ZHT:tbl 330=some Z4S:=Zh Tryz.func330
def ZHU:tbl 250=some Z4T:=Zh Tryz.func250
def ZHV:tbl 157=some Z4U:=Zh Tryz.func157
def ZHW:tbl 72=some Z4V:=Zh Tryz.func72
def ZHX:tbl 73=some Z4W:=Zh Tryz.func73
def ZHY:tbl 257=some Z4X:=Zh Tryz.func257
def ZHZ:tbl 160=some Z4Z:=Zh Tryz.func160
def ZIa:tbl 74=some Z5a:=Zh Tryz.func74
def ZIb:tbl 161=some Z5b:=Zh Tryz.func161
def ZIc:tbl 258=some Z5c:=Zh Tryz.func258
def ZId:tbl 168=some Z5d:=Zh Tryz.func168
def ZIe:tbl 163=some Z5g:=Zh Tryz.func163
def ZIf:tbl 75=some Z5h:=Zh Tryz.func75
def ZIg:tbl 76=some Z5i:=Zh Tryz.func76
def ZIh:tbl 77=some Z5j:=Zh Tryz.func77
def ZIi:tbl 100=some Z5k:=Zh Tryz.func100
def ZIj:tbl 166=some Z5l:=Zh Tryz.func166
def ZIk:tbl 78=some Z5m:=Zh Tryz.func78
def ZIl:tbl 285=some Z5n:=Zh Tryz.func285
def ZIm:tbl 359=some Z5p:=Zh Tryz.func359
def ZIn:tbl 300=some Z5q:=Zh Tryz.func300
def ZIo:tbl 353=some Z5r:=Zh Tryz.func353
def ZIp:tbl 439=some Z5s:=Zh Tryz.func439
def ZIq:tbl 467=some Z5u:=Zh Tryz.func467
