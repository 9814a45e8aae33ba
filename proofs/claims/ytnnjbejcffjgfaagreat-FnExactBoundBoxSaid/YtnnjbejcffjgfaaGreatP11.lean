/-
  Parts of the proofs for this seat: T1 T2.
-/
import Derived.Test.YtnnjbejcffjgfaaGreatP8
import Derived.Test.YtnnjbejcffjgfaaGreatP9
import Derived.Test.YtnnjbejcffjgfaaGreatP10
set_option linter.unusedSectionVars false
set_option linter.unusedSimpArgs false
set_option linter.unusedVariables false
set_option maxRecDepth 100000
set_option maxHeartbeats 4000000
namespace Go.Proofs.YtnnjbejcffjgfaaGreat
open Go.AM
theorem Zce4:tbl 79=some Zbpe:=Zb Tryz.func79
theorem Zce5:tbl 243=some Zbpf:=Zb Tryz.func243
theorem Zce6:tbl 134=some Zbpg:=Zb Tryz.func134
theorem Zce7:tbl 338=some Zbph:=Zb Tryz.func338
theorem Zce8:tbl 324=some Zbpi:=Zb Tryz.func324
theorem Zce9:tbl 300=some Zbpj:=Zb Tryz.func300
theorem Zcfa:tbl 276=some Zbpk:=Zb Tryz.func276
theorem Zcfb:tbl 244=some Zbpl:=Zb Tryz.func244
theorem Zcfc:tbl 203=some Zbpm:=Zb Tryz.func203
theorem Zcfd:tbl 160=some Zbpn:=Zb Tryz.func160
theorem Zcfe:tbl 245=some Zbpp:=Zb Tryz.func245
theorem Zcff:tbl 204=some Zbpq:=Zb Tryz.func204
theorem Zcfg:tbl 246=some Zbpr:=Zb Tryz.func246
theorem Zcfh:tbl 247=some Zbps:=Zb Tryz.func247
theorem Zcfi:tbl 191=some Zbpt:=Zb Tryz.func191
theorem Zcfj:tbl 212=some Zbpu:=Zb Tryz.func212
theorem Zcfk:tbl 248=some Zbpv:=Zb Tryz.func248
theorem Zcfl:tbl 249=some Zbpw:=Zb Tryz.func249
theorem Zcfm:tbl 205=some Zbpy:=Zb Tryz.func205
theorem Zcfn:tbl 161=some Zbpz:=Zb Tryz.func161
theorem Zcfo:tbl 116=some Zbp1:=Zb Tryz.func116
theorem Zbya:tbl 162=some Z92:=Zb Tryz.func162
theorem Zbyb:tbl 117=some Z95:=Zb Tryz.func117
theorem Zcfp:tbl 167=some Zbp2:=Zb Tryz.func167
theorem Zcfq:tbl 166=some Zbp3:=Zb Tryz.func166
theorem Zcfr:tbl 168=some Zbp4:=Zb Tryz.func168
theorem Zcfs:tbl 119=some Zbp5:=Zb Tryz.func119
theorem Zcft:tbl 185=some Zbp6:=Zb Tryz.func185
theorem Zcfu:tbl 135=some Zbp7:=Zb Tryz.func135
theorem Zcfv:tbl 208=some Zbp8:=Zb Tryz.func208
theorem Zcfw:tbl 209=some Zbqc:=Zb Tryz.func209
theorem Zcfx:tbl 164=some Zbqe:=Zb Tryz.func164
theorem Zcfy:tbl 210=some Zbqf:=Zb Tryz.func210
theorem Zcfz:tbl 211=some Zbqh:=Zb Tryz.func211
theorem Zcf0:tbl 165=some Zbql:=Zb Tryz.func165
theorem Zcf1:tbl 118=some Zbqm:=Zb Tryz.func118
theorem Zcf2:tbl 281=some Zbqn:=Zb Tryz.func281
theorem Zcf3:tbl 280=some Zbqo:=Zb Tryz.func280
theorem Zcf4:tbl 250=some Zbqp:=Zb Tryz.func250
theorem Zcf5:tbl 207=some Zbqq:=Zb Tryz.func207
theorem Zcf6:tbl 206=some Zbqr:=Zb Tryz.func206
theorem Zcf7:tbl 163=some Zbqs:=Zb Tryz.func163
theorem Zcf8:tbl 77=some Zbqt:=Zb Tryz.func77
theorem Zcf9:tbl 186=some Zbqu:=Zb Tryz.func186
theorem Zcga:tbl 136=some Zbqv:=Zb Tryz.func136
theorem Zcgb:tbl 92=some Z1c:=Zb Tryz.func92
theorem Zcgc:tbl 78=some Zbqw:=Zb Tryz.func78
theorem Zcgd:tbl 50=some Zbqx:=Zb Tryz.func50
theorem Zcge:tbl 40=some Zbqy:=Zb Tryz.func40
theorem Zcgf:tbl 122=some Zbq0:=Zb Tryz.func122
theorem Zcgg:tbl 215=some Zbq4:=Zb Tryz.func215
theorem Zcgh:tbl 232=some Zbq5:=Zb Tryz.func232
theorem Zcgi:tbl 233=some Zbq6:=Zb Tryz.func233
theorem Zcgj:tbl 192=some Zbq7:=Zb Tryz.func192
theorem Zcgk:tbl 143=some Zbq8:=Zb Tryz.func143
theorem Zcgl:tbl 120=some Zbq9:=Zb Tryz.func120
theorem Zcgm:tbl 187=some Zbrb:=Zb Tryz.func187
theorem Zcgn:tbl 172=some Zbrd:=Zb Tryz.func172
theorem Zcgo:tbl 254=some Zbrg:=Zb Tryz.func254
theorem Zcgp:tbl 216=some Zbrh:=Zb Tryz.func216
theorem Zcgq:tbl 171=some Zbrj:=Zb Tryz.func171
theorem Zcgr:tbl 253=some Zbrk:=Zb Tryz.func253
theorem Zcgs:tbl 213=some Zbrl:=Zb Tryz.func213
theorem Zcgt:tbl 169=some Zbrn:=Zb Tryz.func169
theorem Zcgu:tbl 121=some Zbrp:=Zb Tryz.func121
theorem Zcgv:tbl 99=some Zbrq:=Zb Tryz.func99
theorem Zcgw:tbl 214=some Zbrr:=Zb Tryz.func214
theorem Zcgx:tbl 188=some Zbrt:=Zb Tryz.func188
theorem Zcgy:tbl 170=some Zbrx:=Zb Tryz.func170
theorem Zcgz:tbl 217=some Zbry:=Zb Tryz.func217
theorem Zcg0:tbl 173=some Zbrz:=Zb Tryz.func173
theorem Zcg1:tbl 123=some Zbr0:=Zb Tryz.func123
theorem Zcg2:tbl 174=some Zbr1:=Zb Tryz.func174
theorem Zcg3:tbl 339=some Zbr4:=Zb Tryz.func339
theorem Zcg4:tbl 340=some Zbr6:=Zb Tryz.func340
theorem Zcg5:tbl 313=some Zbr7:=Zb Tryz.func313
theorem Zcg6:tbl 284=some Zbr8:=Zb Tryz.func284
theorem Zcg7:tbl 316=some Zbsb:=Zb Tryz.func316
theorem Zcg8:tbl 286=some Zbsc:=Zb Tryz.func286
theorem Zcg9:tbl 341=some Zbsf:=Zb Tryz.func341
theorem Zcha:tbl 314=some Zbsh:=Zb Tryz.func314
theorem Zchb:tbl 315=some Zbsi:=Zb Tryz.func315
theorem Zchc:tbl 285=some Zbcn:=Zb Tryz.func285
theorem Zchd:tbl 255=some Zbsk:=Zb Tryz.func255
theorem Zche:tbl 317=some Zbsl:=Zb Tryz.func317
theorem Zchf:tbl 291=some Zbsm:=Zb Tryz.func291
theorem Zchg:tbl 287=some Zbsn:=Zb Tryz.func287
theorem Zchh:tbl 288=some Zbsq:=Zb Tryz.func288
theorem Zchi:tbl 257=some Zbsr:=Zb Tryz.func257
theorem Zchj:tbl 219=some Zbss:=Zb Tryz.func219
theorem Zchk:tbl 342=some Zbsv:=Zb Tryz.func342
theorem Zchl:tbl 318=some Zbsw:=Zb Tryz.func318
theorem Zchm:tbl 319=some Zbsx:=Zb Tryz.func319
theorem Zchn:tbl 289=some Zbsz:=Zb Tryz.func289
end Go.Proofs.YtnnjbejcffjgfaaGreat
