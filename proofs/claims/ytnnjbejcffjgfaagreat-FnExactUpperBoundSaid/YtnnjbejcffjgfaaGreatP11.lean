/-
  Parts of the proofs for this seat: T1 T2.
-/
import Derived.Test.YtnnjbejcffjgfaaGreatP8
import Derived.Test.YtnnjbejcffjgfaaGreatP9
import Derived.Test.YtnnjbejcffjgfaaGreatP10
set_option linter.unusedSimpArgs false
set_option linter.unusedVariables false
set_option maxRecDepth 100000
set_option maxHeartbeats 4000000
namespace Go.Proofs.YtnnjbejcffjgfaaGreat
open Go.AM
theorem Zb2j:tbl 79=some Zbf0:=Zb Tryz.func79
theorem Zb2k:tbl 243=some Zbf1:=Zb Tryz.func243
theorem Zb2l:tbl 134=some Zbf2:=Zb Tryz.func134
theorem Zb2m:tbl 338=some Zbf3:=Zb Tryz.func338
theorem Zb2n:tbl 324=some Zbf4:=Zb Tryz.func324
theorem Zb2o:tbl 300=some Zbf5:=Zb Tryz.func300
theorem Zb2p:tbl 276=some Zbf6:=Zb Tryz.func276
theorem Zb2q:tbl 244=some Zbf7:=Zb Tryz.func244
theorem Zb2r:tbl 203=some Zbf8:=Zb Tryz.func203
theorem Zb2s:tbl 160=some Zbf9:=Zb Tryz.func160
theorem Zb2t:tbl 245=some Zbgb:=Zb Tryz.func245
theorem Zb2u:tbl 204=some Zbgc:=Zb Tryz.func204
theorem Zb2v:tbl 246=some Zbgd:=Zb Tryz.func246
theorem Zb2w:tbl 247=some Zbge:=Zb Tryz.func247
theorem Zb2x:tbl 191=some Zbgf:=Zb Tryz.func191
theorem Zb2y:tbl 212=some Zbgg:=Zb Tryz.func212
theorem Zb2z:tbl 248=some Zbgh:=Zb Tryz.func248
theorem Zb20:tbl 249=some Zbgi:=Zb Tryz.func249
theorem Zb21:tbl 205=some Zbgk:=Zb Tryz.func205
theorem Zb22:tbl 161=some Zbgl:=Zb Tryz.func161
theorem Zb23:tbl 116=some Zbgn:=Zb Tryz.func116
theorem Zbnq:tbl 162=some Z3y:=Zb Tryz.func162
theorem Zbnr:tbl 117=some Z31:=Zb Tryz.func117
theorem Zb24:tbl 167=some Zbgo:=Zb Tryz.func167
theorem Zb25:tbl 166=some Zbgp:=Zb Tryz.func166
theorem Zb26:tbl 168=some Zbgq:=Zb Tryz.func168
theorem Zb27:tbl 119=some Zbgr:=Zb Tryz.func119
theorem Zb28:tbl 185=some Zbgs:=Zb Tryz.func185
theorem Zb29:tbl 135=some Zbgt:=Zb Tryz.func135
theorem Zb3a:tbl 208=some Zbgu:=Zb Tryz.func208
theorem Zb3b:tbl 209=some Zbgy:=Zb Tryz.func209
theorem Zb3c:tbl 164=some Zbg0:=Zb Tryz.func164
theorem Zb3d:tbl 210=some Zbg1:=Zb Tryz.func210
theorem Zb3e:tbl 211=some Zbg3:=Zb Tryz.func211
theorem Zb3f:tbl 165=some Zbg7:=Zb Tryz.func165
theorem Zb3g:tbl 118=some Zbg8:=Zb Tryz.func118
theorem Zb3h:tbl 281=some Zbg9:=Zb Tryz.func281
theorem Zb3i:tbl 280=some Zbha:=Zb Tryz.func280
theorem Zb3j:tbl 250=some Zbhb:=Zb Tryz.func250
theorem Zb3k:tbl 207=some Zbhc:=Zb Tryz.func207
theorem Zb3l:tbl 206=some Zbhd:=Zb Tryz.func206
theorem Zb3m:tbl 163=some Zbhe:=Zb Tryz.func163
theorem Zb3n:tbl 77=some Zbhf:=Zb Tryz.func77
theorem Zb3o:tbl 186=some Zbhg:=Zb Tryz.func186
theorem Zb3p:tbl 136=some Zbhh:=Zb Tryz.func136
theorem Zb3q:tbl 92=some Zw5:=Zb Tryz.func92
theorem Zb3r:tbl 78=some Zbhi:=Zb Tryz.func78
theorem Zb3s:tbl 50=some Zbhj:=Zb Tryz.func50
theorem Zb3t:tbl 40=some Zbhk:=Zb Tryz.func40
theorem Zb3u:tbl 122=some Zbhm:=Zb Tryz.func122
theorem Zb3v:tbl 215=some Zbhp:=Zb Tryz.func215
theorem Zb3w:tbl 232=some Zbhq:=Zb Tryz.func232
theorem Zb3x:tbl 233=some Zbhr:=Zb Tryz.func233
theorem Zb3y:tbl 192=some Zbhs:=Zb Tryz.func192
theorem Zb3z:tbl 143=some Zbht:=Zb Tryz.func143
theorem Zb30:tbl 120=some Zbhu:=Zb Tryz.func120
theorem Zb31:tbl 187=some Zbhw:=Zb Tryz.func187
theorem Zb32:tbl 172=some Zbhy:=Zb Tryz.func172
theorem Zb33:tbl 254=some Zbh0:=Zb Tryz.func254
theorem Zb34:tbl 216=some Zbh1:=Zb Tryz.func216
theorem Zb35:tbl 171=some Zbh3:=Zb Tryz.func171
theorem Zb36:tbl 253=some Zbh4:=Zb Tryz.func253
theorem Zb37:tbl 213=some Zbh5:=Zb Tryz.func213
theorem Zb38:tbl 169=some Zbh7:=Zb Tryz.func169
theorem Zb39:tbl 121=some Zbh9:=Zb Tryz.func121
theorem Zb4a:tbl 99=some Zbia:=Zb Tryz.func99
theorem Zb4b:tbl 214=some Zbib:=Zb Tryz.func214
theorem Zb4c:tbl 188=some Zbid:=Zb Tryz.func188
theorem Zb4d:tbl 170=some Zbih:=Zb Tryz.func170
theorem Zb4e:tbl 217=some Zbii:=Zb Tryz.func217
theorem Zb4f:tbl 173=some Zbij:=Zb Tryz.func173
theorem Zb4g:tbl 123=some Zbik:=Zb Tryz.func123
theorem Zb4h:tbl 174=some Zbil:=Zb Tryz.func174
theorem Zb4i:tbl 339=some Zbio:=Zb Tryz.func339
theorem Zb4j:tbl 340=some Zbiq:=Zb Tryz.func340
theorem Zb4k:tbl 313=some Zbir:=Zb Tryz.func313
theorem Zb4l:tbl 284=some Zbis:=Zb Tryz.func284
theorem Zb4m:tbl 316=some Zbiv:=Zb Tryz.func316
theorem Zb4n:tbl 286=some Zbiw:=Zb Tryz.func286
theorem Zb4o:tbl 341=some Zbiz:=Zb Tryz.func341
theorem Zb4p:tbl 314=some Zbi1:=Zb Tryz.func314
theorem Zb4q:tbl 315=some Zbi2:=Zb Tryz.func315
theorem Zb4r:tbl 285=some Z53:=Zb Tryz.func285
theorem Zb4s:tbl 255=some Zbi4:=Zb Tryz.func255
theorem Zb4t:tbl 317=some Zbi5:=Zb Tryz.func317
theorem Zb4u:tbl 291=some Zbi6:=Zb Tryz.func291
theorem Zb4v:tbl 287=some Zbi7:=Zb Tryz.func287
theorem Zb4w:tbl 288=some Zbja:=Zb Tryz.func288
theorem Zb4x:tbl 257=some Zbjb:=Zb Tryz.func257
theorem Zb4y:tbl 219=some Zbjc:=Zb Tryz.func219
theorem Zb4z:tbl 342=some Zbje:=Zb Tryz.func342
theorem Zb40:tbl 318=some Zbjf:=Zb Tryz.func318
theorem Zb41:tbl 319=some Zbjg:=Zb Tryz.func319
theorem Zb42:tbl 289=some Zbji:=Zb Tryz.func289
end Go.Proofs.YtnnjbejcffjgfaaGreat
