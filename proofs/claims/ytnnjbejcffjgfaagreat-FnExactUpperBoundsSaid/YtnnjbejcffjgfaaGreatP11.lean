/-
  Parts of the proofs for this seat: T1 T2.
-/
import Derived.Test.YtnnjbejcffjgfaaGreatP8
import Derived.Test.YtnnjbejcffjgfaaGreatP9
import Derived.Test.YtnnjbejcffjgfaaGreatP10
set_option linter.unusedSectionVars false
set_option linter.unusedSimpArgs false
set_option linter.unusedVariables false
set_option maxRecDepth 100000
set_option maxHeartbeats 4000000
namespace Go.Proofs.YtnnjbejcffjgfaaGreat
open Go.AM
theorem Zcfu:tbl 79=some Zbpu:=Zc Tryz.func79
theorem Zcfv:tbl 243=some Zbpv:=Zc Tryz.func243
theorem Zcfw:tbl 134=some Zbpw:=Zc Tryz.func134
theorem Zcfx:tbl 338=some Zbpx:=Zc Tryz.func338
theorem Zcfy:tbl 324=some Zbpy:=Zc Tryz.func324
theorem Zcfz:tbl 300=some Zbpz:=Zc Tryz.func300
theorem Zcf0:tbl 276=some Zbp0:=Zc Tryz.func276
theorem Zcf1:tbl 244=some Zbp1:=Zc Tryz.func244
theorem Zcf2:tbl 203=some Zbp2:=Zc Tryz.func203
theorem Zcf3:tbl 160=some Zbp3:=Zc Tryz.func160
theorem Zcf4:tbl 245=some Zbp5:=Zc Tryz.func245
theorem Zcf5:tbl 204=some Zbp6:=Zc Tryz.func204
theorem Zcf6:tbl 246=some Zbp7:=Zc Tryz.func246
theorem Zcf7:tbl 247=some Zbp8:=Zc Tryz.func247
theorem Zcf8:tbl 191=some Zbp9:=Zc Tryz.func191
theorem Zcf9:tbl 212=some Zbqa:=Zc Tryz.func212
theorem Zcga:tbl 248=some Zbqb:=Zc Tryz.func248
theorem Zcgb:tbl 249=some Zbqc:=Zc Tryz.func249
theorem Zcgc:tbl 205=some Zbqe:=Zc Tryz.func205
theorem Zcgd:tbl 161=some Zbqf:=Zc Tryz.func161
theorem Zcge:tbl 116=some Zbqh:=Zc Tryz.func116
theorem Zbys:tbl 162=some Zbad:=Zc Tryz.func162
theorem Zbyt:tbl 117=some Zbag:=Zc Tryz.func117
theorem Zcgf:tbl 167=some Zbqi:=Zc Tryz.func167
theorem Zcgg:tbl 166=some Zbqj:=Zc Tryz.func166
theorem Zcgh:tbl 168=some Zbqk:=Zc Tryz.func168
theorem Zcgi:tbl 119=some Zbql:=Zc Tryz.func119
theorem Zcgj:tbl 185=some Zbqm:=Zc Tryz.func185
theorem Zcgk:tbl 135=some Zbqn:=Zc Tryz.func135
theorem Zcgl:tbl 208=some Zbqo:=Zc Tryz.func208
theorem Zcgm:tbl 209=some Zbqs:=Zc Tryz.func209
theorem Zcgn:tbl 164=some Zbqu:=Zc Tryz.func164
theorem Zcgo:tbl 210=some Zbqv:=Zc Tryz.func210
theorem Zcgp:tbl 211=some Zbqx:=Zc Tryz.func211
theorem Zcgq:tbl 165=some Zbq1:=Zc Tryz.func165
theorem Zcgr:tbl 118=some Zbq2:=Zc Tryz.func118
theorem Zcgs:tbl 281=some Zbq3:=Zc Tryz.func281
theorem Zcgt:tbl 280=some Zbq4:=Zc Tryz.func280
theorem Zcgu:tbl 250=some Zbq5:=Zc Tryz.func250
theorem Zcgv:tbl 207=some Zbq6:=Zc Tryz.func207
theorem Zcgw:tbl 206=some Zbq7:=Zc Tryz.func206
theorem Zcgx:tbl 163=some Zbq8:=Zc Tryz.func163
theorem Zcgy:tbl 77=some Zbq9:=Zc Tryz.func77
theorem Zcgz:tbl 186=some Zbra:=Zc Tryz.func186
theorem Zcg0:tbl 136=some Zbrb:=Zc Tryz.func136
theorem Zcg1:tbl 92=some Z1g:=Zc Tryz.func92
theorem Zcg2:tbl 78=some Zbrc:=Zc Tryz.func78
theorem Zcg3:tbl 50=some Zbrd:=Zc Tryz.func50
theorem Zcg4:tbl 40=some Zbre:=Zc Tryz.func40
theorem Zcg5:tbl 122=some Zbrg:=Zc Tryz.func122
theorem Zcg6:tbl 215=some Zbrk:=Zc Tryz.func215
theorem Zcg7:tbl 232=some Zbrl:=Zc Tryz.func232
theorem Zcg8:tbl 233=some Zbrm:=Zc Tryz.func233
theorem Zcg9:tbl 192=some Zbrn:=Zc Tryz.func192
theorem Zcha:tbl 143=some Zbro:=Zc Tryz.func143
theorem Zchb:tbl 120=some Zbrp:=Zc Tryz.func120
theorem Zchc:tbl 187=some Zbrr:=Zc Tryz.func187
theorem Zchd:tbl 172=some Zbrt:=Zc Tryz.func172
theorem Zche:tbl 254=some Zbrw:=Zc Tryz.func254
theorem Zchf:tbl 216=some Zbrx:=Zc Tryz.func216
theorem Zchg:tbl 171=some Zbrz:=Zc Tryz.func171
theorem Zchh:tbl 253=some Zbr0:=Zc Tryz.func253
theorem Zchi:tbl 213=some Zbr1:=Zc Tryz.func213
theorem Zchj:tbl 169=some Zbr3:=Zc Tryz.func169
theorem Zchk:tbl 121=some Zbr5:=Zc Tryz.func121
theorem Zchl:tbl 99=some Zbr6:=Zc Tryz.func99
theorem Zchm:tbl 214=some Zbr7:=Zc Tryz.func214
theorem Zchn:tbl 188=some Zbr9:=Zc Tryz.func188
theorem Zcho:tbl 170=some Zbsd:=Zc Tryz.func170
theorem Zchp:tbl 217=some Zbse:=Zc Tryz.func217
theorem Zchq:tbl 173=some Zbsf:=Zc Tryz.func173
theorem Zchr:tbl 123=some Zbsg:=Zc Tryz.func123
theorem Zchs:tbl 174=some Zbsh:=Zc Tryz.func174
theorem Zcht:tbl 339=some Zbsk:=Zc Tryz.func339
theorem Zchu:tbl 340=some Zbsm:=Zc Tryz.func340
theorem Zchv:tbl 313=some Zbsn:=Zc Tryz.func313
theorem Zchw:tbl 284=some Zbso:=Zc Tryz.func284
theorem Zchx:tbl 316=some Zbsr:=Zc Tryz.func316
theorem Zchy:tbl 286=some Zbss:=Zc Tryz.func286
theorem Zchz:tbl 341=some Zbsv:=Zc Tryz.func341
theorem Zch0:tbl 314=some Zbsx:=Zc Tryz.func314
theorem Zch1:tbl 315=some Zbsy:=Zc Tryz.func315
theorem Zch2:tbl 285=some Zbcy:=Zc Tryz.func285
theorem Zch3:tbl 255=some Zbs0:=Zc Tryz.func255
theorem Zch4:tbl 317=some Zbs1:=Zc Tryz.func317
theorem Zch5:tbl 291=some Zbs2:=Zc Tryz.func291
theorem Zch6:tbl 287=some Zbs3:=Zc Tryz.func287
theorem Zch7:tbl 288=some Zbs6:=Zc Tryz.func288
theorem Zch8:tbl 257=some Zbs7:=Zc Tryz.func257
theorem Zch9:tbl 219=some Zbs8:=Zc Tryz.func219
theorem Zcia:tbl 342=some Zbtb:=Zc Tryz.func342
theorem Zcib:tbl 318=some Zbtc:=Zc Tryz.func318
theorem Zcic:tbl 319=some Zbtd:=Zc Tryz.func319
theorem Zcid:tbl 289=some Zbtf:=Zc Tryz.func289
end Go.Proofs.YtnnjbejcffjgfaaGreat
