/-
  Parts of the proofs for this seat: T1 T2 T3 T4 G1 G2 G3 G4 G5 G6 G7 G8 G9 G10 G11.
-/
import Derived.Test.YtdioodopdlpinaaGreatP9
set_option linter.unusedSimpArgs false
set_option linter.unusedVariables false
set_option maxRecDepth 100000
set_option maxHeartbeats 4000000
namespace Go.Proofs.YtdioodopdlpinaaGreat
open Go.AM
theorem Zbw4:tbl 19=some Zbce:=Zd Tryz.func19
theorem Zbw5:tbl 188=some Zbcf:=Zd Tryz.func188
theorem Zbw6:tbl 189=some Zbcg:=Zd Tryz.func189
theorem Zbw7:tbl 296=some Zbch:=Zd Tryz.func296
theorem Zbw8:tbl 282=some Zbci:=Zd Tryz.func282
theorem Zbw9:tbl 259=some Zbcj:=Zd Tryz.func259
theorem Zbxa:tbl 228=some Zbck:=Zd Tryz.func228
theorem Zbxb:tbl 190=some Zbcl:=Zd Tryz.func190
theorem Zbxc:tbl 132=some Zbcm:=Zd Tryz.func132
theorem Zbxd:tbl 81=some Zbcn:=Zd Tryz.func81
theorem Zbxe:tbl 191=some Zbcp:=Zd Tryz.func191
theorem Zbxf:tbl 133=some Zbcq:=Zd Tryz.func133
theorem Zbxg:tbl 192=some Zbcr:=Zd Tryz.func192
theorem Zbxh:tbl 193=some Zbcs:=Zd Tryz.func193
theorem Zbxi:tbl 142=some Zbct:=Zd Tryz.func142
theorem Zbxj:tbl 229=some Zbcu:=Zd Tryz.func229
theorem Zbxk:tbl 194=some Zbcv:=Zd Tryz.func194
theorem Zbxl:tbl 195=some Zbcw:=Zd Tryz.func195
theorem Zbxm:tbl 134=some Zbcy:=Zd Tryz.func134
theorem Zbxn:tbl 82=some Zbcz:=Zd Tryz.func82
theorem Zbxo:tbl 43=some Zbc1:=Zd Tryz.func43
theorem Zbie:tbl 83=some Z2k:=Zd Tryz.func83
theorem Zbif:tbl 44=some Z2n:=Zd Tryz.func44
theorem Zbxp:tbl 236=some Zbc2:=Zd Tryz.func236
theorem Zbxq:tbl 235=some Zbc3:=Zd Tryz.func235
theorem Zbxr:tbl 237=some Zbc4:=Zd Tryz.func237
theorem Zbxs:tbl 197=some Zbc5:=Zd Tryz.func197
theorem Zbxt:tbl 238=some Zbc6:=Zd Tryz.func238
theorem Zbxu:tbl 198=some Zbc7:=Zd Tryz.func198
theorem Zbxv:tbl 137=some Zbc8:=Zd Tryz.func137
theorem Zbxw:tbl 138=some Zbdc:=Zd Tryz.func138
theorem Zbxx:tbl 85=some Zbde:=Zd Tryz.func85
theorem Zbxy:tbl 139=some Zbdf:=Zd Tryz.func139
theorem Zbxz:tbl 140=some Zbdh:=Zd Tryz.func140
theorem Zbx0:tbl 86=some Zbdl:=Zd Tryz.func86
theorem Zbx1:tbl 45=some Zbdm:=Zd Tryz.func45
theorem Zbx2:tbl 234=some Zbdn:=Zd Tryz.func234
theorem Zbx3:tbl 233=some Zbdo:=Zd Tryz.func233
theorem Zbx4:tbl 196=some Zbdp:=Zd Tryz.func196
theorem Zbx5:tbl 136=some Zbdq:=Zd Tryz.func136
theorem Zbx6:tbl 135=some Zbdr:=Zd Tryz.func135
theorem Zbx7:tbl 84=some Zbds:=Zd Tryz.func84
theorem Zbx8:tbl 20=some Zbdt:=Zd Tryz.func20
theorem Zbx9:tbl 87=some Zbdu:=Zd Tryz.func87
theorem Zbya:tbl 141=some Zbdv:=Zd Tryz.func141
theorem Zbyb:tbl 88=some Zbdw:=Zd Tryz.func88
theorem Zbyc:tbl 90=some Zbdx:=Zd Tryz.func90
theorem Zbyd:tbl 144=some Zbdy:=Zd Tryz.func144
theorem Zbye:tbl 143=some Zbd0:=Zd Tryz.func143
theorem Zbyf:tbl 91=some Zbd1:=Zd Tryz.func91
theorem Zbyg:tbl 89=some Zbd3:=Zd Tryz.func89
theorem Zbyh:tbl 46=some Zbd4:=Zd Tryz.func46
theorem Zbyi:tbl 21=some Zbd5:=Zd Tryz.func21
theorem Zbyj:tbl 272=some Zbd6:=Zd Tryz.func272
theorem Zbyk:tbl 241=some Zbd7:=Zd Tryz.func241
theorem Zbyl:tbl 201=some Zws:=Zd Tryz.func201
theorem Zbym:tbl 247=some Zbd8:=Zd Tryz.func247
theorem Zbyn:tbl 273=some Zbd9:=Zd Tryz.func273
theorem Zbyo:tbl 242=some Zbea:=Zd Tryz.func242
theorem Zbyp:tbl 147=some Zbeb:=Zd Tryz.func147
theorem Zbyq:tbl 202=some Zbec:=Zd Tryz.func202
theorem Zbyr:tbl 275=some Zbed:=Zd Tryz.func275
theorem Zbys:tbl 276=some Zbef:=Zd Tryz.func276
theorem Zbyt:tbl 274=some Zbeg:=Zd Tryz.func274
theorem Zbyu:tbl 243=some Zbei:=Zd Tryz.func243
theorem Zbyv:tbl 203=some Zbej:=Zd Tryz.func203
theorem Zbyw:tbl 145=some Zbek:=Zd Tryz.func145
theorem Zbyx:tbl 204=some Zbel:=Zd Tryz.func204
theorem Zbyy:tbl 244=some Zben:=Zd Tryz.func244
theorem Zbyz:tbl 205=some Zbeo:=Zd Tryz.func205
theorem Zby0:tbl 146=some Zbep:=Zd Tryz.func146
theorem Zby1:tbl 92=some Zbeq:=Zd Tryz.func92
theorem Zby2:tbl 207=some Zber:=Zd Tryz.func207
theorem Zby3:tbl 277=some Zbes:=Zd Tryz.func277
theorem Zby4:tbl 278=some Zbet:=Zd Tryz.func278
theorem Zby5:tbl 245=some Zbev:=Zd Tryz.func245
theorem Zby6:tbl 246=some Zbew:=Zd Tryz.func246
theorem Zby7:tbl 206=some Z38:=Zd Tryz.func206
theorem Zby8:tbl 148=some Zbey:=Zd Tryz.func148
theorem Zby9:tbl 299=some Zbe0:=Zd Tryz.func299
theorem Zbza:tbl 300=some Zbe2:=Zd Tryz.func300
theorem Zbzb:tbl 302=some Zbe3:=Zd Tryz.func302
theorem Zbzc:tbl 301=some Zd7:=Zd Tryz.func301
theorem Zbzd:tbl 303=some Zbe5:=Zd Tryz.func303
theorem Zbig:tbl 297=some Z4g:=Zd Tryz.func297
theorem Zbze:tbl 298=some Zbe6:=Zd Tryz.func298
theorem Zbzf:tbl 304=some Zbe7:=Zd Tryz.func304
theorem Zbzg:tbl 307=some Zbe8:=Zd Tryz.func307
theorem Zbzh:tbl 312=some Zbe9:=Zd Tryz.func312
theorem Zbzi:tbl 305=some Zbfd:=Zd Tryz.func305
theorem Zbzj:tbl 313=some Zbfe:=Zd Tryz.func313
theorem Zbzk:tbl 306=some Zbff:=Zd Tryz.func306
theorem Zbzl:tbl 280=some Zw1:=Zd Tryz.func280
theorem Zbzm:tbl 279=some Zbfi:=Zd Tryz.func279
theorem Zbzn:tbl 248=some Zbfj:=Zd Tryz.func248
theorem Zbzo:tbl 208=some Zbfk:=Zd Tryz.func208
theorem Zbzp:tbl 149=some Zbfm:=Zd Tryz.func149
theorem Zbzq:tbl 93=some Zbfn:=Zd Tryz.func93
theorem Zbzr:tbl 47=some Zbfo:=Zd Tryz.func47
theorem Zbzs:tbl 49=some Zbfp:=Zd Tryz.func49
theorem Zbzt:tbl 94=some Zbfq:=Zd Tryz.func94
theorem Zbzu:tbl 48=some Zbfr:=Zd Tryz.func48
theorem Zbzv:tbl 22=some Zbfs:=Zd Tryz.func22
theorem Zbzw:tbl 7=some Zbft:=Zd Tryz.func7
theorem Zbzx:tbl 161=some Zbfu:=Zd Tryz.func161
theorem Zbzy:tbl 15=some Zbfv:=Zd Tryz.func15
theorem Zbzz:tbl 162=some Zbfw:=Zd Tryz.func162
theorem Zbz0:tbl 109=some Zbfx:=Zd Tryz.func109
theorem Zbih:tbl 106=some Z42:=Zd Tryz.func106
theorem Zbz1:tbl 62=some Zbfy:=Zd Tryz.func62
theorem Zbz2:tbl 163=some Zbf0:=Zd Tryz.func163
theorem Zbz3:tbl 107=some Zbf1:=Zd Tryz.func107
theorem Zbii:tbl 164=some Z49:=Zd Tryz.func164
theorem Zbz4:tbl 165=some Zbf2:=Zd Tryz.func165
theorem Zbz5:tbl 166=some Zbf6:=Zd Tryz.func166
theorem Zbz6:tbl 108=some Zbf8:=Zd Tryz.func108
theorem Zbz7:tbl 63=some Zbf9:=Zd Tryz.func63
theorem Zbz8:tbl 32=some Zbga:=Zd Tryz.func32
theorem Zbij:tbl 33=some Z5l:=Zd Tryz.func33
theorem Zbz9:tbl 217=some Zbgb:=Zd Tryz.func217
theorem Zb0a:tbl 167=some Zbgc:=Zd Tryz.func167
theorem Zb0b:tbl 168=some Zbgd:=Zd Tryz.func168
theorem Zb0c:tbl 110=some Zbge:=Zd Tryz.func110
theorem Zb0d:tbl 111=some Zbgf:=Zd Tryz.func111
theorem Zb0e:tbl 65=some Zbgg:=Zd Tryz.func65
theorem Zb0f:tbl 112=some Zbgh:=Zd Tryz.func112
theorem Zb0g:tbl 113=some Zbgi:=Zd Tryz.func113
theorem Zb0h:tbl 66=some Zbgj:=Zd Tryz.func66
theorem Zb0i:tbl 34=some Zbgk:=Zd Tryz.func34
theorem Zb0j:tbl 64=some Zbgl:=Zd Tryz.func64
theorem Zb0k:tbl 12=some Zbgm:=Zd Tryz.func12
theorem Zb0l:tbl 67=some Zbgn:=Zd Tryz.func67
theorem Zb0m:tbl 114=some Zbgo:=Zd Tryz.func114
theorem Zb0n:tbl 68=some Zbgp:=Zd Tryz.func68
theorem Zb0o:tbl 170=some Zbgq:=Zd Tryz.func170
theorem Zb0p:tbl 169=some Zbgs:=Zd Tryz.func169
theorem Zb0q:tbl 115=some Zbgt:=Zd Tryz.func115
theorem Zb0r:tbl 69=some Zbgu:=Zd Tryz.func69
theorem Zb0s:tbl 70=some Zbgv:=Zd Tryz.func70
theorem Zb0t:tbl 35=some Zbgw:=Zd Tryz.func35
theorem Zb0u:tbl 13=some Zbgx:=Zd Tryz.func13
theorem Zb0v:tbl 118=some Zbgy:=Zd Tryz.func118
theorem Zb0w:tbl 72=some Zbgz:=Zd Tryz.func72
theorem Zb0x:tbl 116=some Zbg0:=Zd Tryz.func116
theorem Zb0y:tbl 218=some Zbg1:=Zd Tryz.func218
theorem Zb0z:tbl 171=some Zbg3:=Zd Tryz.func171
theorem Zb00:tbl 117=some Zbg4:=Zd Tryz.func117
theorem Zb01:tbl 71=some Zbg5:=Zd Tryz.func71
theorem Zb02:tbl 172=some Zbg6:=Zd Tryz.func172
theorem Zb03:tbl 173=some Zbg7:=Zd Tryz.func173
theorem Zb04:tbl 119=some Zbg8:=Zd Tryz.func119
theorem Zb05:tbl 252=some Zbg9:=Zd Tryz.func252
theorem Zb06:tbl 219=some Zbhb:=Zd Tryz.func219
theorem Zb07:tbl 174=some Zbhc:=Zd Tryz.func174
theorem Zb08:tbl 120=some Zbhd:=Zd Tryz.func120
theorem Zb09:tbl 73=some Zbhe:=Zd Tryz.func73
theorem Zb1a:tbl 179=some Zbhg:=Zd Tryz.func179
theorem Zb1b:tbl 180=some Zbhi:=Zd Tryz.func180
theorem Zb1c:tbl 255=some Zbhk:=Zd Tryz.func255
theorem Zb1d:tbl 223=some Zbhl:=Zd Tryz.func223
theorem Zb1e:tbl 181=some Zbhn:=Zd Tryz.func181
theorem Zb1f:tbl 123=some Zbho:=Zd Tryz.func123
theorem Zb1g:tbl 124=some Zbhp:=Zd Tryz.func124
theorem Zb1h:tbl 176=some Zbhr:=Zd Tryz.func176
theorem Zb1i:tbl 177=some Zbhs:=Zd Tryz.func177
theorem Zb1j:tbl 175=some Zbhu:=Zd Tryz.func175
theorem Zb1k:tbl 253=some Zbhv:=Zd Tryz.func253
theorem Zbik:tbl 220=some Z69:=Zd Tryz.func220
theorem Zb1l:tbl 221=some Zbhw:=Zd Tryz.func221
theorem Zb1m:tbl 254=some Zbhx:=Zd Tryz.func254
theorem Zb1n:tbl 222=some Zbhy:=Zd Tryz.func222
theorem Zb1o:tbl 178=some Zbh1:=Zd Tryz.func178
theorem Zb1p:tbl 122=some Zbh3:=Zd Tryz.func122
theorem Zb1q:tbl 121=some Zbh4:=Zd Tryz.func121
theorem Zb1r:tbl 256=some Zbh5:=Zd Tryz.func256
theorem Zb1s:tbl 257=some Zbh6:=Zd Tryz.func257
theorem Zb1t:tbl 224=some Zbh7:=Zd Tryz.func224
theorem Zb1u:tbl 182=some Zbh8:=Zd Tryz.func182
theorem Zb1v:tbl 125=some Zbh9:=Zd Tryz.func125
theorem Zb1w:tbl 74=some Zbia:=Zd Tryz.func74
theorem Zb1x:tbl 36=some Zbib:=Zd Tryz.func36
theorem Zb1y:tbl 14=some Zbic:=Zd Tryz.func14
theorem Zb1z:tbl 5=some Zbid:=Zd Tryz.func5
theorem Zdg:((((∀⦃a a1 a2 r⦄,Im (Zba a a1 a2=some r) (if a1<=a then(some (Bo (decide (a<=a2)),[])=some r)else(some (Bo false,[])=some r)))/\
 (∀⦃cn c x x1 x2 r⦄,Im (Zqx cn c x x1 x2=some r) (if x2<x1 then(0<=x2/\(∃e1,x[x2.toNat]?=some e1/\(∃v1,Zba e1 0 9=some (Bo v1,[])/\(if v1=true then(Zqx cn c x x1 (w (x2+1))=some r)else(some (Bo false,[])=some r)))))else(some (Bo (decide ((cn.length:Int)=c)),[])=some r))))/\
 ((∀⦃a a1 r⦄,Im (Zv2 a a1=some r) (Zqx a a1 a (a.length:Int) 0=some r))/\
 (∀⦃a r⦄,Im (Zm6 a=some r) (if(a.size:Int)=1 then(∃b1,a[0]?=some b1/\(if 97<=(b1.toNat:Int)then(some (Bo (decide ((b1.toNat:Int)<=122)),[])=some r)else(some (Bo false,[])=some r)))else(some (Bo false,[])=some r)))))/\
 (((∀⦃a r⦄,Im (Zv3 a=some r) (some (Bo (!(decide (a=a))),[])=some r))/\
 (∀⦃a a1 r⦄,Im (Zv4 a a1=some r) (∃v,Zv3 a=some (Bo v,[])/\(∃v1,Zv3 a1=some (Bo v1,[])/\(if v=true then(if v1=true then(some (I 0,[])=some r)else(some (I (-1),[])=some r))else(if v1=true then(some (I 1,[])=some r)else(if a<a1 then(some (I (-1),[])=some r)else(if a1<a then(some (I 1,[])=some r)else(some (I 0,[])=some r)))))))))/\
 ((∀⦃s1 s2 x x1 x2 r⦄,Im (Zqy s1 s2 x x1 x2=some r) (if x2<x1 then(0<=x2/\(∃e1,x[x2.toNat]?=some e1/\(if(s2.length:Int)<=x2 then(some (I 1,[])=some r)else(∃e2,s2[x2.toNat]?=some e2/\(∃v2,Zv4 e1 e2=some (I v2,[])/\(if v2=0 then(Zqy s1 s2 x x1 (w (x2+1))=some r)else(some (I v2,[])=some r)))))))else(if(s1.length:Int)<(s2.length:Int)then(some (I (-1),[])=some r)else(some (I 0,[])=some r))))/\
 ((∀⦃a a1 r⦄,Im (Z1t a a1=some r) (Zqy a a1 a (a.length:Int) 0=some r))/\
 (∀⦃a a1 r⦄,Im (Zv5 a a1=some r) (∃v,Z1t a a1=some (I v,[])/\(some (I v,[])=some r)))))))/\
 ((((∀⦃cl i r⦄,Im (Zqz cl i=some r) (if i<(cl.length:Int)then(0<=(w (i-1))/\(∃e1,cl[(w (i-1)).toNat]?=some e1/\(0<=i/\(∃e2,cl[i.toNat]?=some e2/\(∃v2,Zv5 e1 e2=some (I v2,[])/\(if 0<=v2 then(some (Bo false,[])=some r)else(Zqz cl (w (i+1))=some r)))))))else(some (Bo true,[])=some r)))/\
 (∀⦃a r⦄,Im (Zv6 a=some r) (Zqz a 1=some r)))/\
 ((∀⦃t x x1 x2 r⦄,Im (Zq0 t x x1 x2=some r) (if x2<x1 then(0<=x2/\(∃e1,x[x2.toNat]?=some e1/\(∃v1,Zv2 e1 t.Arity=some (Bo v1,[])/\(if v1=true then(Zq0 t x x1 (w (x2+1))=some r)else(some (Bo false,[])=some r)))))else(∃v2,Zm6 t.Name=some (Bo v2,[])/\(if v2=true then(∃v3,Zba t.Arity 1 3=some (Bo v3,[])/\(if v3=true then(if(t.Rows.length:Int)<=8 then(∃v4,Zv6 t.Rows=some (Bo v4,[])/\(some (Bo v4,[])=some r))else(some (Bo false,[])=some r))else(some (Bo false,[])=some r)))else(some (Bo false,[])=some r)))))/\
 (∀⦃a r⦄,Im (Zjb a=some r) (Zq0 a a.Rows (a.Rows.length:Int) 0=some r))))/\
 (((∀⦃db x x1 x2 r⦄,Im (Zm8 db x x1 x2=some r) (if x2<x1 then(0<=x2/\(∃e1,x[x2.toNat]?=some e1/\(∃v1,Zjb e1=some (Bo v1,[])/\(if v1=true then(if 0<x2 then(0<=(w (x2-1))/\(∃e3,db.Tables[(w (x2-1)).toNat]?=some e3/\(if(Op.bytesLess e3.Name.toList e1.Name.toList)=true then(Zm8 db x x1 (w (x2+1))=some r)else(some (Bo false,[])=some r))))else(Zm8 db x x1 (w (x2+1))=some r))else(some (Bo false,[])=some r)))))else(some (Bo (decide ((db.Tables.length:Int)<=6)),[])=some r)))/\
 (∀⦃a r⦄,Im (Zm7 a=some r) (Zm8 a a.Tables (a.Tables.length:Int) 0=some r)))/\
 ((∀⦃cc cd i r⦄,Im (Zq1 cc cd i=some r) (¬i<0/\(if(shrI cd i)=0 then(some (.own 0,[.arr 3 1 true (cc.map ic)])=some r)else(if(andI (shrI cd i) 1)=1 then(cc.length+1<=68719476736/\(Zq1 (cc++[i]) cd (w (i+1))=some r))else(Zq1 cc cd (w (i+1))=some r)))))/\
 ((∀⦃a r⦄,Im (Zgr a=some r) (Zq1 ([]:List Int) a 0=some r))/\
 (∀⦃cc c cd r⦄,Im (Zjc cc c cd=some r) (¬c<0/\(if cd<(shlI 1 c)then(∃(v:List Int),Zgr cd=some (.own 0,[.arr 3 1 true (v.map ic)])/\(cc.length+1<=68719476736/\(Zjc (cc++[v]) c (w (cd+1))=some r)))else(some (.own 0,[.arr 90 1 true (cc.map isc)])=some r)))))))):=by
 and_intros
 all_goals intros
 all_goals unfold Im
 all_goals try simp only[Zba,Zqx,Zv2,Zm6,Zv3,Zv4,Zqy,Z1t,Zv5,Zqz,Zv6,Zq0,Zjb,Zm8,Zm7,Zq1,Zgr,Zjc,Zh.c_def,mpl,dfs]
 all_goals try simp only[itb]
 all_goals try simp only[itf,gS,kk]
 all_goals repeat' first|refine exI λ_=>?_|refine anJ λ_ _=>?_|refine anI λ_=>?_|refine orE2 ?_ ?_|exact False.elim
 all_goals (intro h;first|refine run Zbw4 rfl ?_|rw[Zi Z1p.eq_1]|refine run Zbw5 rfl ?_|refine run Zbw6 rfl ?_|refine run Zbw7 rfl ?_|refine run Zbw8 rfl ?_|rw[Zi Z1r.eq_1]|refine run Zbw9 rfl ?_|refine run Zbxa rfl ?_|rw[Zi Z1u.eq_1]|refine run Zbxb rfl ?_|rw[Zi Z1w.eq_1]|refine run Zbxc rfl ?_|rw[Zi Z1y.eq_1]|refine run Zbxd rfl ?_|rw[Zi Z10.eq_1]|refine run Zbxe rfl ?_|rw[Zi Z12.eq_1])
 all_goals (refine Yb ?_ h;clear h;simp +decide[*,kk,tI,tII,Zbce,Z1q,Zbcf,Zbcg,Zbch,Zbci,Z1s,Zbcj,Zbck,Z1v,Zbcl,Z1x,Zbcm,Z1z,Zbcn,Z11,Zbco,Zbcp,Z13])
abbrev Zb10:=Zdg.1.1.1.1
abbrev Zbil:=Zdg.1.1.1.2
abbrev Zb11:=Zdg.1.1.2.1
abbrev Zb12:=Zdg.1.1.2.2
abbrev Zbim:=Zdg.1.2.1.1
abbrev Zb13:=Zdg.1.2.1.2
abbrev Zbin:=Zdg.1.2.2.1
abbrev Zb14:=Zdg.1.2.2.2.1
abbrev Zb15:=Zdg.1.2.2.2.2
abbrev Z7r:=Zdg.2.1.1.1
abbrev Zb16:=Zdg.2.1.1.2
abbrev Zbio:=Zdg.2.1.2.1
abbrev Zb17:=Zdg.2.1.2.2
abbrev Zbip:=Zdg.2.2.1.1
abbrev Zb18:=Zdg.2.2.1.2
abbrev Zlu:=Zdg.2.2.2.1
abbrev Zlv:=Zdg.2.2.2.2.1
abbrev Zbiq:=Zdg.2.2.2.2.2
theorem Ze5:(((∀⦃a r⦄,Im (Zm9 a=some r) (∃v,Zba a 1 3=some (Bo v,[])/\(if v=true then(Zjc ([]:List (List Int)) a 1=some r)else(some (.t .nil,[])=some r))))/\
 ((∀⦃cd cn x x1 x2 r⦄,Im (Znb cd cn x x1 x2=some r) (if x2<x1 then(0<=x2/\(∃e1,x[x2.toNat]?=some e1/\(∃v1,Zba e1 0 (w (cn-1))=some (Bo v1,[])/\(if v1=true then(if 0<x2 then(0<=(w (x2-1))/\(∃e3,cd[(w (x2-1)).toNat]?=some e3/\(if e1<=e3 then(some (Bo false,[])=some r)else(Znb cd cn x x1 (w (x2+1))=some r))))else(Znb cd cn x x1 (w (x2+1))=some r))else(some (Bo false,[])=some r)))))else(some (Bo true,[])=some r)))/\
 (∀⦃a a1 r⦄,Im (Zna a a1=some r) (Znb a a1 a (a.length:Int) 0=some r))))/\
 (((∀⦃cl co x x1 x2 r⦄,Im (Zq2 cl co x x1 x2=some r) (if x2<x1 then(0<=x2/\(∃e1,x[x2.toNat]?=some e1/\(∃v1,Zba e1 0 (w ((co.length:Int)-1))=some (Bo v1,[])/\(if v1=true then(0<=e1/\(∃e3,co[e1.toNat]?=some e3/\(cl.length+1<=68719476736/\(Zq2 (cl++[e3]) co x x1 (w (x2+1))=some r))))else(some (.tup [.t .nil,Bo false],[])=some r)))))else(some (.tup [.own 0,Bo true],[.arr 3 1 true (cl.map ic)])=some r)))/\
 (∀⦃a a1 r⦄,Im (Zeo a a1=some r) (Zq2 ([]:List Int) a a1 (a1.length:Int) 0=some r)))/\
 ((∀⦃a r⦄,Im (Znc a=some r) (a.length<=68719476736/\(some (.own 0,[.arr 3 1 true (a.map ic)])=some r)))/\
 (∀⦃cl x x1 x2 r⦄,Im (Zq3 cl x x1 x2=some r) (if x2<x1 then(0<=x2/\(∃e1,x[x2.toNat]?=some e1/\(∃(v1:List Int),Znc e1=some (.own 0,[.arr 3 1 true (v1.map ic)])/\(cl.length+1<=68719476736/\(Zq3 (cl++[v1]) x x1 (w (x2+1))=some r)))))else(some (.own 0,[.arr 90 1 true (cl.map isc)])=some r))))))/\
 (((∀⦃a r⦄,Im (Znd a=some r) (Zq3 ([]:List (List Int)) a (a.length:Int) 0=some r))/\
 ((∀⦃a r⦄,Im (Zq4 a=some r) (∃(v:List (List Int)),Znd a=some (.own 0,[.arr 90 1 true (v.map isc)])/\(∃(v1:List (List Int)),Z2a v=some (.tup [],[.arr 90 1 true (v1.map isc)])/\(∃(v2:List (List Int)),Z2b v1=some (.own 1,[.dead,.arr 90 1 true (v2.map isc)])/\(some (.own 0,[.arr 90 1 true (v2.map isc)])=some r)))))/\
 (∀⦃s1 s2 x x1 r⦄,Im (Zq5 s1 s2 x x1=some r) (if x1<x then(0<=x1/\(∃e1,s1[x1.toNat]?=some e1/\(∃e2,s2[x1.toNat]?=some e2/\(if e1=e2 then(Zq5 s1 s2 x (w (x1+1))=some r)else(some (Bo false,[])=some r)))))else(some (Bo true,[])=some r)))))/\
 (((∀⦃a a1 r⦄,Im (Zh0 a a1=some r) (if(a.length:Int)=(a1.length:Int)then(Zq5 a a1 (a.length:Int) 0=some r)else(some (Bo false,[])=some r)))/\
 (∀⦃all cc c x x1 r⦄,Im (Zkp all cc c x x1=some r) (if x1<x then(0<=x1/\(∃e1,cc[x1.toNat]?=some e1/\(Zne all cc c x1 e1 x x1 (all.length:Int) 0=some r)))else(some (.tup [.own 0,.own 1],[.arr 90 1 true (cc.map isc),.arr 3 1 true (c.map ic)])=some r))))/\
 ((∀⦃all cc c i g x x1 x2 x3 r⦄,Im (Zne all cc c i g x x1 x2 x3=some r) (if x3<x2 then(0<=x3/\(∃e1,all[x3.toNat]?=some e1/\(∃v1,Zh0 g e1=some (Bo v1,[])/\(if v1=true then(0<=i/\(∃e3,c[i.toNat]?=some e3/\(Zne all cc (c.set i.toNat (w (e3+1))) i g x x1 x2 (w (x3+1))=some r)))else(Zne all cc c i g x x1 x2 (w (x3+1))=some r)))))else(Zkp all cc c x (w (x1+1))=some r)))/\
 (∀⦃a a1 r⦄,Im (Zjd a a1=some r) (∃v,Zjb a=some (Bo v,[])/\(if v=true then(∃v1,Zna a1 a.Arity=some (Bo v1,[])/\(if v1=true then(Zh1 ([]:List (List Int)) a1 a.Rows (a.Rows.length:Int) 0=some r)else(some (.tup [.t .nil,.t .nil],[])=some r)))else(some (.tup [.t .nil,.t .nil],[])=some r))))))):=by
 and_intros
 all_goals intros
 all_goals unfold Im
 all_goals try simp only[Zm9,Znb,Zna,Zq2,Zeo,Znc,Zq3,Znd,Zq4,Zq5,Zh0,Zkp,Zne,Zjd,Zba,Z2a,Z2b,Zjb,Zh.c_def,Zjc,Zh1,mpl,dfs]
 all_goals try simp only[itb]
 all_goals try simp only[itf,gS,kk]
 all_goals repeat' first|refine exI λ_=>?_|refine anJ λ_ _=>?_|refine anI λ_=>?_|refine orE2 ?_ ?_|exact False.elim
 all_goals (intro h;first|refine run Zbxf rfl ?_|rw[Zi Z14.eq_1]|refine run Zbxg rfl ?_|rw[Zi Z16.eq_1]|refine run Zbxh rfl ?_|refine run Zbxi rfl ?_|rw[Zi Z18.eq_1]|refine run Zbxj rfl ?_|refine run Zbxk rfl ?_|rw[Zi Z2c.eq_1]|refine run Zbxl rfl ?_|rw[Zi Zv7.eq_1]|rw[Zi Z2f.eq_1]|refine run Zbxm rfl ?_)
 all_goals (refine Yb ?_ h;clear h;simp +decide[*,kk,tI,tII,Zbcq,Z15,Zbcr,Z17,Zbcs,Zbct,Z19,Zbcu,Zbcv,Z2d,Zbcw,Zv8,Zbcx,Z2g,Zbcy])
abbrev Zb19:=Ze5.1.1.1
abbrev Zbir:=Ze5.1.1.2.1
abbrev Zb2a:=Ze5.1.1.2.2
abbrev Zbis:=Ze5.1.2.1.1
abbrev Zb2b:=Ze5.1.2.1.2
abbrev Zb2c:=Ze5.1.2.2.1
abbrev Zbit:=Ze5.1.2.2.2
abbrev Zb2d:=Ze5.2.1.1
abbrev Zb2e:=Ze5.2.1.2.1
abbrev Zbiu:=Ze5.2.1.2.2
abbrev Zb2f:=Ze5.2.2.1.1
abbrev Zbiv:=Ze5.2.2.1.2
abbrev Zbiw:=Ze5.2.2.2.1
abbrev Zb2g:=Ze5.2.2.2.2
theorem Zbix{all:List (List Int)}{c:List Int}{x:List (List Int)}{x1 x2:Int}{r:AV×List Blk}(h:(if x2<x1 then(0<=x2/\(∃(e1:List Int),x[x2.toNat]?=some e1/\((Zeo e1 c=some (.tup [.t .nil,Bo false],[])/\(all.length+1<=68719476736/\(Zh1 (all++[[]]) c x x1 (w (x2+1))=some r)))\/(∃(v:List Int),Zeo e1 c=some (.tup [.own 0,Bo true],[.arr 3 1 true (v.map ic)])/\(all.length+1<=68719476736/\(Zh1 (all++[v]) c x x1 (w (x2+1))=some r))))))else(∃(v1:List (List Int)),Zq4 all=some (.own 0,[.arr 90 1 true (v1.map isc)])/\(0<=(v1.length:Int)/\((v1.length:Int)<=(v1.length:Int)/\((v1.length:Int).toNat*8<=room/\((v1.length:Int)<=140737488355328/\(Zkp all v1 (List.replicate ((v1.length:Int)).toNat 0) (v1.length:Int) 0=some r)))))))):Zh1 all c x x1 x2=some r:=by
 unfold Zh1;rw[Zi Z2e.eq_1];by_cases q1:x2<x1
 .rw[if_pos q1]at h;obtain⟨q2,h⟩:=h;obtain⟨e1,q3,h⟩:=h;have gq3:=Zcd q3;have kq3:=Zcf q3;rcases h with h|h
  .obtain⟨q4,h⟩:=h;unfold Zeo at q4
   try simp at q4
   obtain⟨q5,h⟩:=h;have rq5:=Zdz (b:=24) q5 (by omega);have sq5:=Zd0 q5
   try simp[*]at rq5
   try simp[*]at sq5
   refine Yb ?_ h;clear h;simp +decide[*,tI,tII,Zh1]
  .obtain⟨v,q6,h⟩:=h;unfold Zeo at q6
   try simp at q6
   obtain⟨q7,h⟩:=h;have rq7:=Zdz (b:=24) q7 (by omega);have sq7:=Zd0 q7
   try simp[*]at rq7
   try simp[*]at sq7
   refine Yb ?_ h;clear h;simp +decide[*,tI,tII,Zh1]
 .rw[if_neg q1]at h;obtain⟨v1,q8,h⟩:=h;unfold Zq4 at q8
  try simp at q8
  obtain⟨q9,h⟩:=h;have zq9:=q9;try simp at zq9
  obtain⟨q10,h⟩:=h;have zq10:=q10;try simp at zq10
  obtain⟨q11,h⟩:=h;have zq11:=q11;try simp at zq11
  obtain⟨q12,h⟩:=h;have zq12:=q12;try simp at zq12
  refine Yb ?_ h;clear h;simp +decide[*,tI,tII,Zkp,Z2h]
theorem Zdh:((((∀⦃t cv cu cn cp co cc x x1 x2 r⦄,Im (Z2i t cv cu cn cp co cc x x1 x2=some r) (if x2<x1 then(0<=x2/\(∃e1,x[x2.toNat]?=some e1/\((Zjd t e1=some (.tup [.t .nil,.t .nil],[])/\(Zkr t cv cu cn cp co cc false ([(⟨e1,[],[]⟩:Zo)]) x x1 (w (x2+1))=some r))\/(∃(v6:List (List Int)) (v7:List Int),Zjd t e1=some (.tup [.own 0,.own 1],[.arr 90 1 true (v6.map isc),.arr 3 1 true (v7.map ic)])/\(Zkr t cv cu cn cp co cc false ([(⟨e1,v6,v7⟩:Zo)]) x x1 (w (x2+1))=some r)))))else(some (.agg [.t (.str cp),I co,I cc,.t .nil],[])=some r)))/\
 (∀⦃t cv cu cn cp co cc fr x x1 x2 x3 r⦄,Im (Zkr t cv cu cn cp co cc fr x x1 x2 x3=some r) (if x3<x2 then(0<=x3/\(∃e1,x1[x3.toNat]?=some e1/\((Zjd t e1=some (.tup [.t .nil,.t .nil],[])/\(x.length+1<=68719476736/\(Zkr t cv cu cn cp co cc false (x++[(⟨e1,[],[]⟩:Zo)]) x1 x2 (w (x3+1))=some r)))\/(∃(v6:List (List Int)) (v7:List Int),Zjd t e1=some (.tup [.own 0,.own 1],[.arr 90 1 true (v6.map isc),.arr 3 1 true (v7.map ic)])/\(x.length+1<=68719476736/\(Zkr t cv cu cn cp co cc false (x++[(⟨e1,v6,v7⟩:Zo)]) x1 x2 (w (x3+1))=some r))))))else(some (.agg [.t (.str cp),I co,I cc,.own 0],[.arr 195 3 fr (x.map Zo.c)])=some r))))/\
 ((∀⦃a r⦄,Im (Zkq a=some r) (∃v1,Zjb a=some (Bo v1,[])/\(if v1=true then((Zm9 a.Arity=some (.t .nil,[])/\(Zbc0 a ⟨#[]⟩ 0 0 a.Name a.Arity (a.Rows.length:Int) 0 0=some r))\/(∃(v6:List (List Int)),Zm9 a.Arity=some (.own 0,[.arr 90 1 true (v6.map isc)])/\(Z2i a ⟨#[]⟩ 0 0 a.Name a.Arity (a.Rows.length:Int) v6 (v6.length:Int) 0=some r)))else(some (.agg [.t (.str ⟨#[]⟩),I 0,I 0,.t .nil],[])=some r))))/\
 (∀⦃cl cd x x1 x2 r⦄,Im (Z2j cl cd x x1 x2=some r) (if x2<x1 then(0<=x2/\(∃e1,x[x2.toNat]?=some e1/\((∃v3 v4 v5,Zkq e1=some (.agg [.t (.str v3),I v4,I v5,.t .nil],[])/\(Zks cl cd true ([(⟨v3,v4,v5,[]⟩:Zk)]) x x1 (w (x2+1))=some r))\/(∃v6,∃(v7:List Zo),∃v8,∃v9,∃v10,Zkq e1=some (.agg [.t (.str v8),I v9,I v10,.own 0],[.arr 195 3 v6 (v7.map Zo.c)])/\(Zks cl cd v6 ([(⟨v8,v9,v10,v7⟩:Zk)]) x x1 (w (x2+1))=some r)))))else(some (.tup [.agg [I cd,.t .nil],Bo true],[])=some r)))))/\
 (((∀⦃cl cd fr x x1 x2 x3 r⦄,Im (Zks cl cd fr x x1 x2 x3=some r) (if x3<x2 then(0<=x3/\(∃e1,x1[x3.toNat]?=some e1/\((∃v3 v4 v5,Zkq e1=some (.agg [.t (.str v3),I v4,I v5,.t .nil],[])/\(x.length+1<=68719476736/\(Zks cl cd fr (x++[(⟨v3,v4,v5,[]⟩:Zk)]) x1 x2 (w (x3+1))=some r)))\/(∃v6,∃(v7:List Zo),∃v8,∃v9,∃v10,Zkq e1=some (.agg [.t (.str v8),I v9,I v10,.own 0],[.arr 195 3 v6 (v7.map Zo.c)])/\(x.length+1<=68719476736/\(Zks cl cd (fr && v6) (x++[(⟨v8,v9,v10,v7⟩:Zk)]) x1 x2 (w (x3+1))=some r))))))else(some (.tup [.agg [I cd,.own 0],Bo true],[.arr 143 4 fr (x.map Zk.c)])=some r)))/\
 (∀⦃a a1 r⦄,Im (Znf a a1=some r) (∃v1,Zm7 a=some (Bo v1,[])/\(if v1=true then(∃v3,Zba a1 1 999=some (Bo v3,[])/\(if v3=true then(Z2j 0 a1 a.Tables (a.Tables.length:Int) 0=some r)else(some (.tup [.agg [I 0,.t .nil],Bo false],[])=some r)))else(some (.tup [.agg [I 0,.t .nil],Bo false],[])=some r)))))/\
 ((∀⦃s2 x x1 r⦄,Im (Z2m s2 x x1=some r) (if x1<x then False else(some (Bo true,[])=some r)))/\
 ((∀⦃a r⦄,Im (Z2l a=some r) (if 0=(a.length:Int)then(Z2m a 0 0=some r)else(some (Bo false,[])=some r)))/\
 (∀⦃cl a r⦄,Im (Zra cl a=some r) (if cl=a.Version then(∃v1,Z2l a.Tables=some (Bo v1,[])/\(some (Bo v1,[])=some r))else(some (Bo false,[])=some r)))))))/\
 ((((∀⦃a a1 r⦄,Im (Z2o a a1=some r) (some (Bo (decide (a.Name=a1)),[])=some r))/\
 (∀⦃s f x x1 r⦄,Im (Zrb s f x x1=some r) (if x1<x then(0<=x1/\(∃e1,s[x1.toNat]?=some e1/\(∃v3,Z2o e1 f=some (Bo v3,[])/\(if v3=true then(some (I x1,[])=some r)else(Zrb s f x (w (x1+1))=some r)))))else(some (I (-1),[])=some r))))/\
 ((∀⦃a a1 r⦄,Im (Z2r a a1=some r) (Zrb a a1 (a.length:Int) 0=some r))/\
 (∀⦃a r⦄,Im (Z2s a=some r) (∃(v1:List (List Int)),Znd a.Rows=some (.own 0,[.arr 90 1 true (v1.map isc)])/\(some (.agg [.t (.str a.Name),I a.Arity,.own 0],[.arr 90 1 true (v1.map isc)])=some r)))))/\
 (((∀⦃a a1 r⦄,Im (Zc4 a a1=some r) (∃v1,Z2r a.Tables a1=some (I v1,[])/\(if v1<0 then(some (.tup [.agg [.t (.str ⟨#[]⟩),I 0,.t .nil],Bo false],[])=some r)else(∃v3,Zm7 a=some (Bo v3,[])/\(if v3=true then(0<=v1/\(∃e3,a.Tables[v1.toNat]?=some e3/\(∃(v11:List (List Int)),∃v12,∃v13,Z2s e3=some (.agg [.t (.str v12),I v13,.own 0],[.arr 90 1 true (v11.map isc)])/\(some (.tup [.agg [.t (.str v12),I v13,.own 0],Bo true],[.arr 90 1 true (v11.map isc)])=some r))))else(some (.tup [.agg [.t (.str ⟨#[]⟩),I 0,.t .nil],Bo false],[])=some r))))))/\
 (∀⦃s v x x1 r⦄,Im (Zrc s v x x1=some r) (if x1<x then(0<=x1/\(∃e1,s[x1.toNat]?=some e1/\(if v=e1 then(some (I x1,[])=some r)else(Zrc s v x (w (x1+1))=some r))))else(some (I (-1),[])=some r))))/\
 ((∀⦃a a1 r⦄,Im (Zwb a a1=some r) (Zrc a a1 (a.length:Int) 0=some r))/\
 ((∀⦃a a1 r⦄,Im (Zfj a a1=some r) (∃v1,Zwb a a1=some (I v1,[])/\(some (Bo (decide (0<=v1)),[])=some r)))/\
 (∀⦃a a1 r⦄,Im (Zng a a1=some r) ((∃v1 v2,Zc4 a a1.Name=some (.tup [.agg [.t (.str v1),I v2,.t .nil],Bo false],[])/\(some (Bo false,[])=some r))\/(∃(v3:List (List Int)),∃v4,∃v5,Zc4 a a1.Name=some (.tup [.agg [.t (.str v4),I v5,.own 0],Bo true],[.arr 90 1 true (v3.map isc)])/\(∃v6,Zna a1.From v5=some (Bo v6,[])/\(if v6=true then(∃v11,Zba a1.To 0 (w (v5-1))=some (Bo v11,[])/\(if v11=true then(∃v14,Zfj a1.From a1.To=some (Bo v14,[])/\(some (Bo (!v14),[])=some r))else(some (Bo false,[])=some r)))else(some (Bo false,[])=some r)))))))))):=by
 and_intros
 all_goals intros
 all_goals unfold Im
 all_goals try simp only[Z2i,Zkr,Zkq,Z2j,Zks,Znf,Z2m,Z2l,Zra,Z2o,Zrb,Z2r,Z2s,Zc4,Zrc,Zwb,Zfj,Zng,Zjd,Zh.c_def,Zjb,Zm9,Zm7,Zba,Zm.c_def,Zk.c_def,Znd,Zna,Zbc0,mpl,dfs]
 all_goals try simp only[itb]
 all_goals try simp only[itf,gS,kk]
 all_goals repeat' first|refine exI λ_=>?_|refine anJ λ_ _=>?_|refine anI λ_=>?_|refine orE2 ?_ ?_|exact False.elim
 all_goals (intro h;first|rw[Zi Zq6.eq_1]|refine run Zbxn rfl ?_|rw[Zi Zv9.eq_1]|refine run Zbxo rfl ?_|rw[Zi Zq8.eq_1]|refine run Zbie rfl ?_|refine run Zbif rfl ?_|refine run Zbxp rfl ?_|rw[Zi Z2p.eq_1]|refine run Zbxq rfl ?_|refine run Zbxr rfl ?_|refine run Zbxs rfl ?_|rw[Zi Z2t.eq_1]|refine run Zbxt rfl ?_|refine run Zbxu rfl ?_|refine run Zbxv rfl ?_)
 all_goals (refine Yb ?_ h;clear h;simp +decide[*,kk,tI,tII,Zq7,Zbcz,Zwa,Zbc1,Zq9,Z2k,Z2n,Zbc2,Z2q,Zbc3,Zbc4,Zbc5,Z2u,Zbc6,Zbc7,Zbc8])
abbrev Zb2h:=Zdh.1.1.1.1
abbrev Zbiy:=Zdh.1.1.1.2
abbrev Zb2i:=Zdh.1.1.2.1
abbrev Zb2j:=Zdh.1.1.2.2
abbrev Zbiz:=Zdh.1.2.1.1
abbrev Zb2k:=Zdh.1.2.1.2
abbrev Zb2l:=Zdh.1.2.2.1
abbrev Zb2m:=Zdh.1.2.2.2.1
abbrev Zb2n:=Zdh.1.2.2.2.2
abbrev Zb2o:=Zdh.2.1.1.1
abbrev Zbi0:=Zdh.2.1.1.2
abbrev Zb2p:=Zdh.2.1.2.1
abbrev Zb2q:=Zdh.2.1.2.2
abbrev Zb2r:=Zdh.2.2.1.1
abbrev Zbi1:=Zdh.2.2.1.2
abbrev Zb2s:=Zdh.2.2.2.1
abbrev Zb2t:=Zdh.2.2.2.2.1
abbrev Zb2u:=Zdh.2.2.2.2.2
theorem Zd2:((((∀⦃f t x x1 x2 r⦄,Im (Znh f t x x1 x2=some r) (if x2<x1 then(0<=x2/\(∃e1,x[x2.toNat]?=some e1/\(x2.toNat<=t.Rows.length/\(Zep f t x2 e1 x x1 x2 (t.Rows.take x2.toNat) ((t.Rows.take x2.toNat).length:Int) 0=some r))))else(some (.t .nil,[])=some r)))/\
 (∀⦃f t k y x x1 x2 x3 x4 x5 r⦄,Im (Zep f t k y x x1 x2 x3 x4 x5=some r) (if x5<x4 then(0<=x5/\(∃e1,x3[x5.toNat]?=some e1/\((Zeo e1 f.From=some (.tup [.t .nil,Bo false],[])/\((Zeo y f.From=some (.tup [.t .nil,Bo false],[])/\(∃v7,Zbc9=some (Bo v7,[])/\(if v7=true then(0<=f.To/\(∃e5,e1[f.To.toNat]?=some e5/\(∃e6,y[f.To.toNat]?=some e6/\(if e5=e6 then(Zep f t k y x x1 x2 x3 x4 (w (x5+1))=some r)else(some (.own 0,[.arr 3 1 true (([x5,k]).map ic)])=some r)))))else(Zep f t k y x x1 x2 x3 x4 (w (x5+1))=some r))))\/(∃(v16:List Int),Zeo y f.From=some (.tup [.own 0,Bo true],[.arr 3 1 true (v16.map ic)])/\(∃v19,Zbda v16=some (Bo v19,[])/\(if v19=true then(0<=f.To/\(∃e9,e1[f.To.toNat]?=some e9/\(∃e10,y[f.To.toNat]?=some e10/\(if e9=e10 then(Zep f t k y x x1 x2 x3 x4 (w (x5+1))=some r)else(some (.own 0,[.arr 3 1 true (([x5,k]).map ic)])=some r)))))else(Zep f t k y x x1 x2 x3 x4 (w (x5+1))=some r))))))\/(∃(v20:List Int),Zeo e1 f.From=some (.tup [.own 0,Bo true],[.arr 3 1 true (v20.map ic)])/\((Zeo y f.From=some (.tup [.t .nil,Bo false],[])/\(∃v21,Zbdb v20=some (Bo v21,[])/\(if v21=true then(0<=f.To/\(∃e14,e1[f.To.toNat]?=some e14/\(∃e15,y[f.To.toNat]?=some e15/\(if e14=e15 then(Zep f t k y x x1 x2 x3 x4 (w (x5+1))=some r)else(some (.own 0,[.arr 3 1 true (([x5,k]).map ic)])=some r)))))else(Zep f t k y x x1 x2 x3 x4 (w (x5+1))=some r))))\/(∃(v22:List Int),Zeo y f.From=some (.tup [.own 0,Bo true],[.arr 3 1 true (v22.map ic)])/\(∃v23,Zh0 v20 v22=some (Bo v23,[])/\(if v23=true then(0<=f.To/\(∃e18,e1[f.To.toNat]?=some e18/\(∃e19,y[f.To.toNat]?=some e19/\(if e18=e19 then(Zep f t k y x x1 x2 x3 x4 (w (x5+1))=some r)else(some (.own 0,[.arr 3 1 true (([x5,k]).map ic)])=some r)))))else(Zep f t k y x x1 x2 x3 x4 (w (x5+1))=some r)))))))))else(Znh f t x x1 (w (x2+1))=some r))))/\
 ((∀⦃a a1 r⦄,Im (Zrf a a1=some r) (∃v,Zng a a1=some (Bo v,[])/\(if v=true then((∃v2 v3,Zc4 a a1.Name=some (.tup [.agg [.t (.str v2),I v3,.t .nil],Bo false],[])/\(Zbdd a1 v2 v3 0 0=some r))\/(∃(v4:List (List Int)),∃v5,∃v6,Zc4 a a1.Name=some (.tup [.agg [.t (.str v5),I v6,.own 0],Bo true],[.arr 90 1 true (v4.map isc)])/\(Znh a1 (⟨v5,v6,v4⟩:Zh) v4 (v4.length:Int) 0=some r)))else(some (.t .nil,[])=some r))))/\
 (∀⦃a a1 r⦄,Im (Zwc a a1=some r) (∃v,Zng a a1=some (Bo v,[])/\(if v=true then((Zrf a a1=some (.t .nil,[])/\(some (Bo true,[])=some r))\/(∃(v4:List Int),Zrf a a1=some (.own 0,[.arr 3 1 true (v4.map ic)])/\(some (Bo (decide ((v4.length:Int)=0)),[])=some r)))else(some (Bo false,[])=some r))))))/\
 (((∀⦃a a1 r⦄,Im (Zrg a a1=some r) ((∃v v1,Zc4 a a1.Name=some (.tup [.agg [.t (.str v),I v1,.t .nil],Bo false],[])/\((∃v2 v3,Zc4 a a1.Into=some (.tup [.agg [.t (.str v2),I v3,.t .nil],Bo false],[])/\(some (Bo false,[])=some r))\/(∃(v4:List (List Int)),∃v5,∃v6,Zc4 a a1.Into=some (.tup [.agg [.t (.str v5),I v6,.own 0],Bo true],[.arr 90 1 true (v4.map isc)])/\(some (Bo false,[])=some r))))\/(∃(v7:List (List Int)),∃v8,∃v9,Zc4 a a1.Name=some (.tup [.agg [.t (.str v8),I v9,.own 0],Bo true],[.arr 90 1 true (v7.map isc)])/\((∃v10 v11,Zc4 a a1.Into=some (.tup [.agg [.t (.str v10),I v11,.t .nil],Bo false],[])/\(some (Bo false,[])=some r))\/(∃(v13:List (List Int)),∃v14,∃v15,Zc4 a a1.Into=some (.tup [.agg [.t (.str v14),I v15,.own 0],Bo true],[.arr 90 1 true (v13.map isc)])/\(∃v16,Zba a1.Column 0 (w (v9-1))=some (Bo v16,[])/\(if v16=true then(∃v19,Zba a1.IntoColumn 0 (w (v15-1))=some (Bo v19,[])/\(some (Bo v19,[])=some r))else(some (Bo false,[])=some r))))))))/\
 (∀⦃x co cn x1 cd x2 x3 x4 r⦄,Im (Zri x co cn x1 cd x2 x3 x4=some r) (if x4<x3 then(0<=x4/\(∃e1,x2[x4.toNat]?=some e1/\(0<=x.IntoColumn/\(∃e2,e1[x.IntoColumn.toNat]?=some e2/\(cd.length+1<=68719476736/\(Zri x co cn x1 (cd++[e2]) x2 x3 (w (x4+1))=some r))))))else(Znk x cd ([]:List Int) x1 (x1.length:Int) 0=some r))))/\
 ((∀⦃x cd cl x1 x2 x3 r⦄,Im (Znk x cd cl x1 x2 x3=some r) (if x3<x2 then(0<=x3/\(∃e1,x1[x3.toNat]?=some e1/\(0<=x.Column/\(∃e2,e1[x.Column.toNat]?=some e2/\(∃v4,Zfj cd e2=some (Bo v4,[])/\(if v4=true then(Znk x cd cl x1 x2 (w (x3+1))=some r)else(cl.length+1<=68719476736/\(Znk x cd (cl++[e2]) x1 x2 (w (x3+1))=some r))))))))else(∃(v7:List Int),Zwd cl=some (.tup [],[.arr 3 1 true (v7.map ic)])/\(∃(v10:List Int),Zwe v7=some (.own 1,[.dead,.arr 3 1 true (v10.map ic)])/\(some (.own 0,[.arr 3 1 true (v10.map ic)])=some r)))))/\
 (∀⦃a a1 r⦄,Im (Zrh a a1=some r) (∃v,Zrg a a1=some (Bo v,[])/\(if v=true then((∃v2 v3,Zc4 a a1.Name=some (.tup [.agg [.t (.str v2),I v3,.t .nil],Bo false],[])/\((∃v4 v5,Zc4 a a1.Into=some (.tup [.agg [.t (.str v4),I v5,.t .nil],Bo false],[])/\(Zbdi a1 v2 v3 ([]:List Int) 0 0=some r))\/(∃(v7:List (List Int)),∃v8,∃v9,Zc4 a a1.Into=some (.tup [.agg [.t (.str v8),I v9,.own 0],Bo true],[.arr 90 1 true (v7.map isc)])/\(Zbdj a1 v2 v3 ([]:List Int) v7 (v7.length:Int) 0=some r))))\/(∃(v10:List (List Int)),∃v11,∃v12,Zc4 a a1.Name=some (.tup [.agg [.t (.str v11),I v12,.own 0],Bo true],[.arr 90 1 true (v10.map isc)])/\((∃v13 v14,Zc4 a a1.Into=some (.tup [.agg [.t (.str v13),I v14,.t .nil],Bo false],[])/\(Zbdk a1 v11 v12 v10 ([]:List Int) 0 0=some r))\/(∃(v16:List (List Int)),∃v17,∃v18,Zc4 a a1.Into=some (.tup [.agg [.t (.str v17),I v18,.own 0],Bo true],[.arr 90 1 true (v16.map isc)])/\(Zri a1 v11 v12 v10 ([]:List Int) v16 (v16.length:Int) 0=some r)))))else(some (.t .nil,[])=some r)))))))/\
 ((((∀⦃a a1 r⦄,Im (Zwf a a1=some r) (∃v,Zrg a a1=some (Bo v,[])/\(if v=true then((Zrh a a1=some (.t .nil,[])/\(some (Bo true,[])=some r))\/(∃(v4:List Int),Zrh a a1=some (.own 0,[.arr 3 1 true (v4.map ic)])/\(some (Bo (decide ((v4.length:Int)=0)),[])=some r)))else(some (Bo false,[])=some r))))/\
 (∀⦃db cc c x x1 x2 r⦄,Im (Zrj db cc c x x1 x2=some r) (if x2<x1 then(0<=x2/\(∃e1,x[x2.toNat]?=some e1/\(∃v2,Zwc db e1=some (Bo v2,[])/\(if v2=true then(Zrj db cc c x x1 (w (x2+1))=some r)else(some (Bo false,[])=some r)))))else(Zrk db cc c c (c.length:Int) 0=some r))))/\
 ((∀⦃db cc c x x1 x2 r⦄,Im (Zrk db cc c x x1 x2=some r) (if x2<x1 then(0<=x2/\(∃e1,x[x2.toNat]?=some e1/\(∃v2,Zwf db e1=some (Bo v2,[])/\(if v2=true then(Zrk db cc c x x1 (w (x2+1))=some r)else(some (Bo false,[])=some r)))))else(if(cc.length:Int)<=8 then(some (Bo (decide ((c.length:Int)<=8)),[])=some r)else(some (Bo false,[])=some r))))/\
 (∀⦃a a1 a2 r⦄,Im (Znl a a1 a2=some r) (Zrj a a1 a2 a1 (a1.length:Int) 0=some r))))/\
 (((∀⦃a a1 r⦄,Im (Z23 a a1=some r) (∃v,Zh0 a a1=some (Bo v,[])/\(some (Bo v,[])=some r)))/\
 (∀⦃s2 x x1 x2 r⦄,Im (Zrl s2 x x1 x2=some r) (if x2<x1 then(0<=x2/\(∃e1,x[x2.toNat]?=some e1/\(∃e2,s2[x2.toNat]?=some e2/\(∃v4,Z23 e1 e2=some (Bo v4,[])/\(if v4=true then(Zrl s2 x x1 (w (x2+1))=some r)else(some (Bo false,[])=some r))))))else(some (Bo true,[])=some r))))/\
 ((∀⦃a a1 r⦄,Im (Z26 a a1=some r) (if(a.length:Int)=(a1.length:Int)then(Zrl a1 a (a.length:Int) 0=some r)else(some (Bo false,[])=some r)))/\
 ((∀⦃a a1 r⦄,Im (Zwg a a1=some r) (∃v,Z26 a a1=some (Bo v,[])/\(some (Bo v,[])=some r)))/\
 (∀⦃a a1 r⦄,Im (Zrm a a1=some r) (∃v,Zh0 a.Columns a1.Columns=some (Bo v,[])/\(if v=true then(∃v2,Zwg a.Values a1.Values=some (Bo v2,[])/\(if v2=true then(∃v4,Zh0 a.Counts a1.Counts=some (Bo v4,[])/\(some (Bo v4,[])=some r))else(some (Bo false,[])=some r)))else(some (Bo false,[])=some r)))))))):=by
 and_intros
 all_goals intros
 all_goals unfold Im
 all_goals try simp only[Znh,Zep,Zrf,Zwc,Zrg,Zri,Znk,Zrh,Zwf,Zrj,Zrk,Znl,Z23,Zrl,Z26,Zwg,Zrm,Zeo,Zbc9,Zbda,Zbdb,Zh0,Zng,Zc4,Zm.c_def,Zn.c_def,Zba,Zfj,Zwd,Zwe,Zl.c_def,Zbdd,Zbdi,Zbdj,Zbdk,mpl,dfs]
 all_goals try simp only[itb]
 all_goals try simp only[itf,gS,kk]
 all_goals repeat' first|refine exI λ_=>?_|refine anJ λ_ _=>?_|refine anI λ_=>?_|refine orE2 ?_ ?_|exact False.elim
 all_goals (intro h;first|rw[Zi Zrd.eq_1]|rw[Zi Z2v.eq_1]|refine run Zbxw rfl ?_|refine run Zbxx rfl ?_|refine run Zbxy rfl ?_|rw[Zi Zni.eq_1]|rw[Zi Z2x.eq_1]|refine run Zbxz rfl ?_|refine run Zbx0 rfl ?_|rw[Zi Z2z.eq_1]|rw[Zi Z20.eq_1]|refine run Zbx1 rfl ?_|refine run Zbx2 rfl ?_|rw[Zi Z24.eq_1]|refine run Zbx3 rfl ?_|refine run Zbx4 rfl ?_|refine run Zbx5 rfl ?_)
 all_goals (refine Yb ?_ h;clear h;simp +decide[*,kk,tI,tII,Zre,Z2w,Zbdc,Zbde,Zbdf,Znj,Zbdg,Z2y,Zbdh,Zbdl,Z22,Z21,Zbdm,Zbdn,Z25,Zbdo,Zbdp,Zbdq])
abbrev Zbi2:=Zd2.1.1.1.1
abbrev Zbi3:=Zd2.1.1.1.2
abbrev Zb2v:=Zd2.1.1.2.1
abbrev Zb2w:=Zd2.1.1.2.2
abbrev Zb2x:=Zd2.1.2.1.1
abbrev Zbi4:=Zd2.1.2.1.2
abbrev Zbi5:=Zd2.1.2.2.1
abbrev Zb2y:=Zd2.1.2.2.2
abbrev Zb2z:=Zd2.2.1.1.1
abbrev Zbi6:=Zd2.2.1.1.2
abbrev Zbi7:=Zd2.2.1.2.1
abbrev Zb20:=Zd2.2.1.2.2
abbrev Zb21:=Zd2.2.2.1.1
abbrev Zbi8:=Zd2.2.2.1.2
abbrev Zb22:=Zd2.2.2.2.1
abbrev Zb23:=Zd2.2.2.2.2.1
abbrev Zb24:=Zd2.2.2.2.2.2
theorem Zdi:((((∀⦃s2 x x1 x2 r⦄,Im (Zrn s2 x x1 x2=some r) (if x2<x1 then(0<=x2/\(∃e1,x[x2.toNat]?=some e1/\(∃e2,s2[x2.toNat]?=some e2/\(∃v3,Zrm e1 e2=some (Bo v3,[])/\(if v3=true then(Zrn s2 x x1 (w (x2+1))=some r)else(some (Bo false,[])=some r))))))else(some (Bo true,[])=some r)))/\
 (∀⦃a a1 r⦄,Im (Z29 a a1=some r) (if(a.length:Int)=(a1.length:Int)then(Zrn a1 a (a.length:Int) 0=some r)else(some (Bo false,[])=some r))))/\
 ((∀⦃a a1 r⦄,Im (Zwh a a1=some r) (if a.Name=a1.Name then(if a.Arity=a1.Arity then(if a.RowCount=a1.RowCount then(∃v,Z29 a.Groups a1.Groups=some (Bo v,[])/\(some (Bo v,[])=some r))else(some (Bo false,[])=some r))else(some (Bo false,[])=some r))else(some (Bo false,[])=some r)))/\
 (∀⦃s2 x x1 x2 r⦄,Im (Zro s2 x x1 x2=some r) (if x2<x1 then(0<=x2/\(∃e1,x[x2.toNat]?=some e1/\(∃e2,s2[x2.toNat]?=some e2/\(∃v3,Zwh e1 e2=some (Bo v3,[])/\(if v3=true then(Zro s2 x x1 (w (x2+1))=some r)else(some (Bo false,[])=some r))))))else(some (Bo true,[])=some r)))))/\
 (((∀⦃a a1 r⦄,Im (Z3a a a1=some r) (if(a.length:Int)=(a1.length:Int)then(Zro a1 a (a.length:Int) 0=some r)else(some (Bo false,[])=some r)))/\
 (∀⦃a a1 r⦄,Im (Zwi a a1=some r) (if a.Version=a1.Version then(∃v,Z3a a.Tables a1.Tables=some (Bo v,[])/\(some (Bo v,[])=some r))else(some (Bo false,[])=some r))))/\
 ((∀⦃a r⦄,Im (Zrp a=some r) ((∃v v1,Znf a.Zm a.Zv.Version=some (.tup [.agg [I v,.t .nil],Bo v1],[])/\(if v1=true then(∃v2,Zra v a.Zv=some (Bo v2,[])/\(if v2=true then(∃v3,Znl a.Zm a.Dependencies a.Inclusions=some (Bo v3,[])/\(some (Bo v3,[])=some r))else(some (Bo false,[])=some r)))else(some (Bo false,[])=some r)))\/(∃v4,∃(v5:List Zk),∃v6,Znf a.Zm a.Zv.Version=some (.tup [.agg [I v6,.own 0],Bo true],[.arr 143 4 v4 (v5.map Zk.c)])/\(∃v7,Zwi (⟨v6,v5⟩:Zv) a.Zv=some (Bo v7,[])/\(if v7=true then(∃v8,Znl a.Zm a.Dependencies a.Inclusions=some (Bo v8,[])/\(some (Bo v8,[])=some r))else(some (Bo false,[])=some r))))))/\
 ((∀⦃x r⦄,Im (Zhe x=some r) (some (.bsl 1 5,[.box (x.c.map .t),.box [.ptr 0 0,.ptr 0 6,.ptr 0 12,.ptr 0 18,.ptr 0 24]])=some r))/\
 (∀⦃x r⦄,Im (Zwj x=some r) (some (.bsl 1 5,[.box (x.c.map .t),.box [.ptr 0 0,.ptr 0 1,.ptr 0 2,.ptr 0 3,.ptr 0 4]])=some r))))))/\
 ((((∀⦃o x x1 x2 r⦄,Im (Zje o x x1 x2=some r) (if x2<x1 then(0<=x2/\(∃e1,x[x2.toNat]?=some e1/\(∃v2,Zba e1.Add (-99) 99=some (Bo v2,[])/\(if v2=true then(∃v3,Zba e1.From 1 8192=some (Bo v3,[])/\(if v3=true then(if 0<x2 then(0<=(w (x2-1))/\(∃e4,o.Steps[(w (x2-1)).toNat]?=some e4/\(if e1.From<=e4.From then(some (Bo false,[])=some r)else(Zje o x x1 (w (x2+1))=some r))))else(Zje o x x1 (w (x2+1))=some r))else(some (Bo false,[])=some r)))else(some (Bo false,[])=some r)))))else(some (Bo (decide ((o.Steps.length:Int)<=4)),[])=some r)))/\
 (∀⦃a r⦄,Im (Zct a=some r) (Zwj a=some (.bsl 1 5,[.box (a.c.map .t),.box [.ptr 0 0,.ptr 0 1,.ptr 0 2,.ptr 0 3,.ptr 0 4]])/\(Ze1 a 5 0=some r))))/\
 ((∀⦃cc a r⦄,Im (Znm cc a=some r) (if a<=7 then(Zkt cc a 0=some r)else(some (.own 0,[.arr 90 1 true (cc.map isc)])=some r)))/\
 (∀⦃cc a b r⦄,Im (Zkt cc a b=some r) (if b<=7 then(Znn cc a b 0=some r)else(Znm cc (w (a+1))=some r)))))/\
 (((∀⦃cc a b c r⦄,Im (Znn cc a b c=some r) (if c<=7 then(cc.length+1<=68719476736/\(Znn (cc++[[a,b,c]]) a b (w (c+1))=some r))else(Zkt cc a (w (b+1))=some r)))/\
 (∀⦃r⦄,Im (Zeq=some r) (Znm ([]:List (List Int)) 0=some r)))/\
 ((∀⦃a r⦄,Im (Zh2 a=some r) (∃v,Zba a 0 7=some (Bo v,[])/\(if v=true then(if a=0 then(some (I 0,[])=some r)else(¬(w (2*(w (a-1))))<0/\(some (I (shlI 1 (w (2*(w (a-1))))),[])=some r)))else(some (I (-1),[])=some r))))/\
 ((∀⦃cl cd n x x1 x2 r⦄,Im (Zno cl cd n x x1 x2=some r) (if x2<x1 then(0<=x2/\(∃e1,x[x2.toNat]?=some e1/\(if e1.From<=(w (cl+cd))then(Zno cl cd (w (n+e1.Add)) x x1 (w (x2+1))=some r)else(Zno cl cd n x x1 (w (x2+1))=some r))))else(some (I n,[])=some r)))/\
 (∀⦃a a1 a2 a3 r⦄,Im (Zku a a1 a2 a3=some r) (Zno a1 a2 (w ((w ((w ((w (a.Fixed+(w (a.Zr*a1))))+(w (a.Zs*a2))))+(w (a.Zu*a3))))+(w ((w (a.Zt*a1))*a2)))) a.Steps (a.Steps.length:Int) 0=some r)))))):=by
 and_intros
 all_goals intros
 all_goals unfold Im
 all_goals try simp only[Zrn,Z29,Zwh,Zro,Z3a,Zwi,Zrp,Zhe,Zwj,Zje,Zct,Znm,Zkt,Znn,Zeq,Zh2,Zno,Zku,Zrm,Zo.c_def,Zk.c_def,Znf,Zra,Znl,Zv.c_def,Zm.c_def,Zn.c_def,Zl.c_def,Zba,Zq.c_def,Ze1,mpl,dfs]
 all_goals try simp only[itb]
 all_goals try simp only[itf,gS,kk]
 all_goals repeat' first|refine exI λ_=>?_|refine anJ λ_ _=>?_|refine anI λ_=>?_|refine orE2 ?_ ?_|exact False.elim
 all_goals (intro h;first|rw[Zi Z27.eq_1]|refine run Zbx6 rfl ?_|refine run Zbx7 rfl ?_|rw[Zi Zq8.eq_1]|refine run Zbie rfl ?_|refine run Zbif rfl ?_|refine run Zbx8 rfl ?_|refine runM Zbx9 rfl ?_|refine runM Zbya rfl ?_|rw[Zi Z3c.eq_1]|refine run Zbyb rfl ?_|rw[Zi Zrq.eq_1]|rw[Zi Zwk.eq_1]|rw[Zi Z3f.eq_1]|refine run Zbyc rfl ?_|refine run Zbyd rfl ?_|rw[Zi Z3h.eq_1]|refine run Zbye rfl ?_)
 all_goals (refine Yb ?_ h;clear h;simp +decide[*,kk,tI,tII,Z28,Zbdr,Zbds,Zq9,Z2k,Z2n,Zbdt,Zbdu,Zbdv,Z3d,Zbdw,Zrr,Zwl,Z3g,Zbdx,Zbdy,Zbdz,Z3i,Zbd0])
abbrev Zbi9:=Zdi.1.1.1.1
abbrev Zb25:=Zdi.1.1.1.2
abbrev Zb26:=Zdi.1.1.2.1
abbrev Zbja:=Zdi.1.1.2.2
abbrev Zb27:=Zdi.1.2.1.1
abbrev Zb28:=Zdi.1.2.1.2
abbrev Zb29:=Zdi.1.2.2.1
abbrev Zbjb:=Zdi.1.2.2.2.1
abbrev Zb3a:=Zdi.1.2.2.2.2
abbrev Zbjc:=Zdi.2.1.1.1
abbrev Zb3b:=Zdi.2.1.1.2
abbrev Zbjd:=Zdi.2.1.2.1
abbrev Zbje:=Zdi.2.1.2.2
abbrev Zbjf:=Zdi.2.2.1.1
abbrev Zb3c:=Zdi.2.2.1.2
abbrev Zb3d:=Zdi.2.2.2.1
abbrev Zbjg:=Zdi.2.2.2.2.1
abbrev Zb3e:=Zdi.2.2.2.2.2
theorem Zym:((∀⦃a a1 r⦄,Im (Zgs a a1=some r) (∃e1,a1[0]?=some e1/\(∃v1,Zh2 e1=some (I v1,[])/\(∃e3,a1[1]?=some e3/\(∃v2,Zh2 e3=some (I v2,[])/\(∃e5,a1[2]?=some e5/\(∃v4,Zh2 e5=some (I v4,[])/\(∃v5,Zku a v1 v2 v4=some (I v5,[])/\(some (I v5,[])=some r)))))))))/\
 (∀⦃o x x1 x2 r⦄,Im (Zjf o x x1 x2=some r) (if x2<x1 then(0<=x2/\(∃e1,x[x2.toNat]?=some e1/\(Zfz o x e1 x1 x2 (e1.length:Int) 0=some r)))else(some (.tup [.t .nil,.t .nil,Bo false],[])=some r))))/\
 ((∀⦃o x t x1 x2 x3 x4 r⦄,Im (Zfz o x t x1 x2 x3 x4=some r) (if x4<x3 then(0<=x4/\(∃e1,t[x4.toNat]?=some e1/\(if e1=7 then(Zfz o x t x1 x2 x3 (w (x4+1))=some r)else(∃(v1:List Int),Znc t=some (.own 0,[.arr 3 1 true (v1.map ic)])/\(∃e3,v1[x4.toNat]?=some e3/\(∃v2,Zgs o (v1.set x4.toNat (w (e3+1)))=some (I v2,[])/\(∃v3,Zgs o t=some (I v3,[])/\(if v2<v3 then(some (.tup [L 1 (t.map ic),.own 0,Bo true],[.arr 3 1 true ((v1.set x4.toNat (w (e3+1))).map ic)])=some r)else(Zfz o x t x1 x2 x3 (w (x4+1))=some r)))))))))else(Zjf o x x1 (w (x2+1))=some r)))/\
 (∀⦃a r⦄,Im (Zcn a=some r) (∃v,Zct a=some (Bo v,[])/\(if v=true then(∃(v1:List (List Int)),Zeq=some (.own 0,[.arr 90 1 true (v1.map isc)])/\(Zjf a v1 (v1.length:Int) 0=some r))else(some (.tup [.t .nil,.t .nil,Bo false],[])=some r))))):=by
 and_intros
 all_goals intros
 all_goals unfold Im
 all_goals try simp only[Zgs,Zjf,Zfz,Zcn,Zh2,Zku,Zq.c_def,Znc,Zct,Zeq,mpl,dfs]
 all_goals try simp only[itb]
 all_goals try simp only[itf,gS,kk]
 all_goals repeat' first|refine exI λ_=>?_|refine anJ λ_ _=>?_|refine anI λ_=>?_|refine orE2 ?_ ?_|exact False.elim
 all_goals (intro h;first|refine run Zbyf rfl ?_|rw[Zi Zwm.eq_1]|rw[Zi Z3j.eq_1]|refine run Zbyg rfl ?_)
 all_goals (refine Yb ?_ h;clear h;simp +decide[*,kk,tI,tII,Zbd1,Zwn,Zbd2,Z3k,Zbd3])
abbrev Zb3f:=Zym.1.1
abbrev Zbjh:=Zym.1.2
abbrev Z7s:=Zym.2.1
abbrev Zb3g:=Zym.2.2
theorem Zpk{o:Zq}{x x1:Int}{r:AV×List Blk}(h:(if x1<x then(if x1=0 then(∃(v:Bool),Zba o.Fixed (-99) 99=some (Bo v,[])/\(if v=true then(Ze1 o x (w (x1+1))=some r)else(some (Bo false,[])=some r)))else(if x1=1 then(∃(v1:Bool),Zba o.Zr (-99) 99=some (Bo v1,[])/\(if v1=true then(Ze1 o x (w (x1+1))=some r)else(some (Bo false,[])=some r)))else(if x1=2 then(∃(v2:Bool),Zba o.Zs (-99) 99=some (Bo v2,[])/\(if v2=true then(Ze1 o x (w (x1+1))=some r)else(some (Bo false,[])=some r)))else(if x1=3 then(∃(v3:Bool),Zba o.Zu (-99) 99=some (Bo v3,[])/\(if v3=true then(Ze1 o x (w (x1+1))=some r)else(some (Bo false,[])=some r)))else(if x1=4 then(∃(v4:Bool),Zba o.Zt (-99) 99=some (Bo v4,[])/\(if v4=true then(Ze1 o x (w (x1+1))=some r)else(some (Bo false,[])=some r)))else False)))))else(Zje o o.Steps (o.Steps.length:Int) 0=some r))):Ze1 o x x1=some r:=by
 unfold Ze1;rw[Zi Z3b.eq_1];by_cases q1:x1<x
 .rw[if_pos q1]at h;by_cases q2:x1=0
  .rw[if_pos q2]at h;subst q2;obtain⟨v,q3,h⟩:=h;unfold Zba at q3
   try simp at q3
   by_cases q4:v=true
   .rw[if_pos q4]at h;refine Yb ?_ h;clear h;simp +decide[*,tI,tII,Ze1]
   .rw[if_neg q4]at h;refine Yb ?_ h;clear h;simp +decide[*,tI,tII]
  .rw[if_neg q2]at h;replace q2:=eq_false q2;by_cases q5:x1=1
   .rw[if_pos q5]at h;subst q5;obtain⟨v1,q6,h⟩:=h;unfold Zba at q6
    try simp at q6
    by_cases q7:v1=true
    .rw[if_pos q7]at h;refine Yb ?_ h;clear h;simp +decide[*,tI,tII,Ze1]
    .rw[if_neg q7]at h;refine Yb ?_ h;clear h;simp +decide[*,tI,tII]
   .rw[if_neg q5]at h;replace q5:=eq_false q5;by_cases q8:x1=2
    .rw[if_pos q8]at h;subst q8;obtain⟨v2,q9,h⟩:=h;unfold Zba at q9
     try simp at q9
     by_cases q10:v2=true
     .rw[if_pos q10]at h;refine Yb ?_ h;clear h;simp +decide[*,tI,tII,Ze1]
     .rw[if_neg q10]at h;refine Yb ?_ h;clear h;simp +decide[*,tI,tII]
    .rw[if_neg q8]at h;replace q8:=eq_false q8;by_cases q11:x1=3
     .rw[if_pos q11]at h;subst q11;obtain⟨v3,q12,h⟩:=h;unfold Zba at q12
      try simp at q12
      by_cases q13:v3=true
      .rw[if_pos q13]at h;refine Yb ?_ h;clear h;simp +decide[*,tI,tII,Ze1]
      .rw[if_neg q13]at h;refine Yb ?_ h;clear h;simp +decide[*,tI,tII]
     .rw[if_neg q11]at h;replace q11:=eq_false q11;by_cases q14:x1=4
      .rw[if_pos q14]at h;subst q14;obtain⟨v4,q15,h⟩:=h;unfold Zba at q15
       try simp at q15
       by_cases q16:v4=true
       .rw[if_pos q16]at h;refine Yb ?_ h;clear h;simp +decide[*,tI,tII,Ze1]
       .rw[if_neg q16]at h;refine Yb ?_ h;clear h;simp +decide[*,tI,tII]
      .rw[if_neg q14]at h;replace q14:=eq_false q14;cases h
 .rw[if_neg q1]at h;refine Yb ?_ h;clear h;simp +decide[*,tI,tII,Zje,Z3e]
theorem Zpl{x:Zb}{x1 x2:Int}{r:AV×List Blk}(h:(if x2<x1 then(if x2=0 then(∃(v:Bool),Zct x.Scan=some (Bo v,[])/\(if v=true then((Zcn x.Scan=some (.tup [.t .nil,.t .nil,Bo false],[])/\(∃(v1:List (List Int)),Zeq=some (.own 0,[.arr 90 1 true (v1.map isc)])/\(Zji x v1 (w (1+x2)) x1 x2 (v1.length:Int) 0=some r)))\/(∃(v2:List Int) (v3:List Int),Zcn x.Scan=some (.tup [L 1 (v3.map ic),.own 0,Bo true],[.arr 3 1 true (v2.map ic)])/\(some (.tup [I (w (1+x2)),L 1 (v3.map ic),.own 0],[.arr 3 1 true (v2.map ic)])=some r)))else(some (.tup [I (w (1+x2)),.t .nil,.t .nil],[])=some r)))else(if x2=1 then(∃(v4:Bool),Zct x.Sort_=some (Bo v4,[])/\(if v4=true then((Zcn x.Sort_=some (.tup [.t .nil,.t .nil,Bo false],[])/\(∃(v5:List (List Int)),Zeq=some (.own 0,[.arr 90 1 true (v5.map isc)])/\(Zjj x v5 (w (1+x2)) x1 x2 (v5.length:Int) 0=some r)))\/(∃(v6:List Int) (v7:List Int),Zcn x.Sort_=some (.tup [L 1 (v7.map ic),.own 0,Bo true],[.arr 3 1 true (v6.map ic)])/\(some (.tup [I (w (1+x2)),L 1 (v7.map ic),.own 0],[.arr 3 1 true (v6.map ic)])=some r)))else(some (.tup [I (w (1+x2)),.t .nil,.t .nil],[])=some r)))else(if x2=2 then(∃(v8:Bool),Zct x.Hash=some (Bo v8,[])/\(if v8=true then((Zcn x.Hash=some (.tup [.t .nil,.t .nil,Bo false],[])/\(∃(v9:List (List Int)),Zeq=some (.own 0,[.arr 90 1 true (v9.map isc)])/\(Zjk x v9 (w (1+x2)) x1 x2 (v9.length:Int) 0=some r)))\/(∃(v10:List Int) (v11:List Int),Zcn x.Hash=some (.tup [L 1 (v11.map ic),.own 0,Bo true],[.arr 3 1 true (v10.map ic)])/\(some (.tup [I (w (1+x2)),L 1 (v11.map ic),.own 0],[.arr 3 1 true (v10.map ic)])=some r)))else(some (.tup [I (w (1+x2)),.t .nil,.t .nil],[])=some r)))else(if x2=3 then(∃(v12:Bool),Zct x.Merge=some (Bo v12,[])/\(if v12=true then((Zcn x.Merge=some (.tup [.t .nil,.t .nil,Bo false],[])/\(∃(v13:List (List Int)),Zeq=some (.own 0,[.arr 90 1 true (v13.map isc)])/\(Zjl x v13 (w (1+x2)) x1 x2 (v13.length:Int) 0=some r)))\/(∃(v14:List Int) (v15:List Int),Zcn x.Merge=some (.tup [L 1 (v15.map ic),.own 0,Bo true],[.arr 3 1 true (v14.map ic)])/\(some (.tup [I (w (1+x2)),L 1 (v15.map ic),.own 0],[.arr 3 1 true (v14.map ic)])=some r)))else(some (.tup [I (w (1+x2)),.t .nil,.t .nil],[])=some r)))else(if x2=4 then(∃(v16:Bool),Zct x.Nested=some (Bo v16,[])/\(if v16=true then((Zcn x.Nested=some (.tup [.t .nil,.t .nil,Bo false],[])/\(∃(v17:List (List Int)),Zeq=some (.own 0,[.arr 90 1 true (v17.map isc)])/\(Zjm x v17 (w (1+x2)) x1 x2 (v17.length:Int) 0=some r)))\/(∃(v18:List Int) (v19:List Int),Zcn x.Nested=some (.tup [L 1 (v19.map ic),.own 0,Bo true],[.arr 3 1 true (v18.map ic)])/\(some (.tup [I (w (1+x2)),L 1 (v19.map ic),.own 0],[.arr 3 1 true (v18.map ic)])=some r)))else(some (.tup [I (w (1+x2)),.t .nil,.t .nil],[])=some r)))else False)))))else(some (.tup [I 0,.t .nil,.t .nil],[])=some r))):Zb4 x x1 x2=some r:=by
 unfold Zb4;rw[Zi Zjg.eq_1];by_cases q1:x2<x1
 .rw[if_pos q1]at h;by_cases q2:x2=0
  .rw[if_pos q2]at h;subst q2;obtain⟨v,q3,h⟩:=h;unfold Zct at q3
   try simp at q3
   by_cases q4:v=true
   .rw[if_pos q4]at h;rcases h with h|h
    .obtain⟨q5,h⟩:=h;unfold Zcn at q5
     try simp at q5
     obtain⟨v1,q6,h⟩:=h;unfold Zeq at q6
     try simp at q6
     refine Yb ?_ h;clear h;simp +decide[*,tI,tII,Zji]
    .obtain⟨v2,v3,q7,h⟩:=h;unfold Zcn at q7
     try simp at q7
     refine Yb ?_ h;clear h;simp +decide[*,tI,tII]
   .rw[if_neg q4]at h;refine Yb ?_ h;clear h;simp +decide[*,tI,tII]
  .rw[if_neg q2]at h;replace q2:=eq_false q2;by_cases q8:x2=1
   .rw[if_pos q8]at h;subst q8;obtain⟨v4,q9,h⟩:=h;unfold Zct at q9
    try simp at q9
    by_cases q10:v4=true
    .rw[if_pos q10]at h;rcases h with h|h
     .obtain⟨q11,h⟩:=h;unfold Zcn at q11
      try simp at q11
      obtain⟨v5,q12,h⟩:=h;unfold Zeq at q12
      try simp at q12
      refine Yb ?_ h;clear h;simp +decide[*,tI,tII,Zjj]
     .obtain⟨v6,v7,q13,h⟩:=h;unfold Zcn at q13
      try simp at q13
      refine Yb ?_ h;clear h;simp +decide[*,tI,tII]
    .rw[if_neg q10]at h;refine Yb ?_ h;clear h;simp +decide[*,tI,tII]
   .rw[if_neg q8]at h;replace q8:=eq_false q8;by_cases q14:x2=2
    .rw[if_pos q14]at h;subst q14;obtain⟨v8,q15,h⟩:=h;unfold Zct at q15
     try simp at q15
     by_cases q16:v8=true
     .rw[if_pos q16]at h;rcases h with h|h
      .obtain⟨q17,h⟩:=h;unfold Zcn at q17
       try simp at q17
       obtain⟨v9,q18,h⟩:=h;unfold Zeq at q18
       try simp at q18
       refine Yb ?_ h;clear h;simp +decide[*,tI,tII,Zjk]
      .obtain⟨v10,v11,q19,h⟩:=h;unfold Zcn at q19
       try simp at q19
       refine Yb ?_ h;clear h;simp +decide[*,tI,tII]
     .rw[if_neg q16]at h;refine Yb ?_ h;clear h;simp +decide[*,tI,tII]
    .rw[if_neg q14]at h;replace q14:=eq_false q14;by_cases q20:x2=3
     .rw[if_pos q20]at h;subst q20;obtain⟨v12,q21,h⟩:=h;unfold Zct at q21
      try simp at q21
      by_cases q22:v12=true
      .rw[if_pos q22]at h;rcases h with h|h
       .obtain⟨q23,h⟩:=h;unfold Zcn at q23
        try simp at q23
        obtain⟨v13,q24,h⟩:=h;unfold Zeq at q24
        try simp at q24
        refine Yb ?_ h;clear h;simp +decide[*,tI,tII,Zjl]
       .obtain⟨v14,v15,q25,h⟩:=h;unfold Zcn at q25
        try simp at q25
        refine Yb ?_ h;clear h;simp +decide[*,tI,tII]
      .rw[if_neg q22]at h;refine Yb ?_ h;clear h;simp +decide[*,tI,tII]
     .rw[if_neg q20]at h;replace q20:=eq_false q20;by_cases q26:x2=4
      .rw[if_pos q26]at h;subst q26;obtain⟨v16,q27,h⟩:=h;unfold Zct at q27
       try simp at q27
       by_cases q28:v16=true
       .rw[if_pos q28]at h;rcases h with h|h
        .obtain⟨q29,h⟩:=h;unfold Zcn at q29
         try simp at q29
         obtain⟨v17,q30,h⟩:=h;unfold Zeq at q30
         try simp at q30
         refine Yb ?_ h;clear h;simp +decide[*,tI,tII,Zjm]
        .obtain⟨v18,v19,q31,h⟩:=h;unfold Zcn at q31
         try simp at q31
         refine Yb ?_ h;clear h;simp +decide[*,tI,tII]
       .rw[if_neg q28]at h;refine Yb ?_ h;clear h;simp +decide[*,tI,tII]
      .rw[if_neg q26]at h;replace q26:=eq_false q26;cases h
 .rw[if_neg q1]at h;refine Yb ?_ h;clear h;simp +decide[*,tI,tII,Zjh]
theorem Zd9:((((∀⦃o x cc x1 x2 x3 x4 r⦄,Im (Zji o x cc x1 x2 x3 x4=some r) (if x4<x3 then(0<=x4/\(∃e1,x[x4.toNat]?=some e1/\(∃v4,Zgs o.Scan e1=some (I v4,[])/\(if v4<1 then(some (.tup [I cc,L 1 (e1.map ic),.t .nil],[])=some r)else(Zji o x cc x1 x2 x3 (w (x4+1))=some r)))))else(Zb4 o x1 (w (x2+1))=some r)))/\
 (∀⦃o x cc x1 x2 x3 x4 r⦄,Im (Zjj o x cc x1 x2 x3 x4=some r) (if x4<x3 then(0<=x4/\(∃e1,x[x4.toNat]?=some e1/\(∃v4,Zgs o.Sort_ e1=some (I v4,[])/\(if v4<1 then(some (.tup [I cc,L 1 (e1.map ic),.t .nil],[])=some r)else(Zjj o x cc x1 x2 x3 (w (x4+1))=some r)))))else(Zb4 o x1 (w (x2+1))=some r))))/\
 ((∀⦃o x cc x1 x2 x3 x4 r⦄,Im (Zjk o x cc x1 x2 x3 x4=some r) (if x4<x3 then(0<=x4/\(∃e1,x[x4.toNat]?=some e1/\(∃v4,Zgs o.Hash e1=some (I v4,[])/\(if v4<1 then(some (.tup [I cc,L 1 (e1.map ic),.t .nil],[])=some r)else(Zjk o x cc x1 x2 x3 (w (x4+1))=some r)))))else(Zb4 o x1 (w (x2+1))=some r)))/\
 (∀⦃o x cc x1 x2 x3 x4 r⦄,Im (Zjl o x cc x1 x2 x3 x4=some r) (if x4<x3 then(0<=x4/\(∃e1,x[x4.toNat]?=some e1/\(∃v4,Zgs o.Merge e1=some (I v4,[])/\(if v4<1 then(some (.tup [I cc,L 1 (e1.map ic),.t .nil],[])=some r)else(Zjl o x cc x1 x2 x3 (w (x4+1))=some r)))))else(Zb4 o x1 (w (x2+1))=some r)))))/\
 (((∀⦃o x cc x1 x2 x3 x4 r⦄,Im (Zjm o x cc x1 x2 x3 x4=some r) (if x4<x3 then(0<=x4/\(∃e1,x[x4.toNat]?=some e1/\(∃v4,Zgs o.Nested e1=some (I v4,[])/\(if v4<1 then(some (.tup [I cc,L 1 (e1.map ic),.t .nil],[])=some r)else(Zjm o x cc x1 x2 x3 (w (x4+1))=some r)))))else(Zb4 o x1 (w (x2+1))=some r)))/\
 (∀⦃a r⦄,Im (Znp a=some r) (Zhe a=some (.bsl 1 5,[.box (a.c.map .t),.box [.ptr 0 0,.ptr 0 6,.ptr 0 12,.ptr 0 18,.ptr 0 24]])/\(Zb4 a 5 0=some r))))/\
 ((∀⦃a r⦄,Im (Zh3 a=some r) ((∃(v1:List Int),∃v2,∃(v3:List Int),Znp a=some (.tup [I v2,L 1 (v3.map ic),.own 0],[.arr 3 1 true (v1.map ic)])/\(some (Bo (decide (v2=0)),[])=some r))\/(∃v4,Znp a=some (.tup [I v4,.t .nil,.t .nil],[])/\(some (Bo (decide (v4=0)),[])=some r))\/(∃v5,∃(v6:List Int),Znp a=some (.tup [I v5,L 1 (v6.map ic),.t .nil],[])/\(some (Bo (decide (v5=0)),[])=some r))))/\
 (∀⦃s v x x1 r⦄,Im (Zrs s v x x1=some r) (if x1<x then(0<=x1/\(∃e1,s[x1.toNat]?=some e1/\(if v=e1 then(some (I x1,[])=some r)else(Zrs s v x (w (x1+1))=some r))))else(some (I (-1),[])=some r))))))/\
 ((((∀⦃a a1 r⦄,Im (Zwo a a1=some r) (Zrs a a1 (a.length:Int) 0=some r))/\
 (∀⦃a a1 r⦄,Im (Zwp a a1=some r) (∃v1,Zwo a a1=some (I v1,[])/\(some (Bo (decide (0<=v1)),[])=some r))))/\
 ((∀⦃q cd x x1 x2 r⦄,Im (Zkx q cd x x1 x2=some r) (if x2<x1 then(0<=x2/\(∃e1,x[x2.toNat]?=some e1/\(∃v4,Zm6 e1.Name=some (Bo v4,[])/\(if v4=true then(∃v5,Zba (e1.Vars.length:Int) 1 3=some (Bo v5,[])/\(if v5=true then(Zrt q cd e1 x x1 x2 e1.Vars (e1.Vars.length:Int) 0=some r)else(some (Bo false,[])=some r)))else(some (Bo false,[])=some r)))))else(∃v7,Zwp cd false=some (Bo v7,[])/\(some (Bo (!v7),[])=some r))))/\
 (∀⦃q cd a x x1 x2 x3 x4 x5 r⦄,Im (Zrt q cd a x x1 x2 x3 x4 x5=some r) (if x5<x4 then(0<=x5/\(∃e1,x3[x5.toNat]?=some e1/\(∃v4,Zba e1 0 (w (q.Zg-1))=some (Bo v4,[])/\(if v4=true then(x5.toNat<=a.Vars.length/\(∃v5,Zfj (a.Vars.take x5.toNat) e1=some (Bo v5,[])/\(if v5=true then(some (Bo false,[])=some r)else(0<=e1/\(∃e4,cd[e1.toNat]?=some e4/\(Zrt q (cd.set e1.toNat true) a x x1 x2 x3 x4 (w (x5+1))=some r))))))else(some (Bo false,[])=some r)))))else(Zkx q cd x x1 (w (x2+1))=some r)))))/\
 (((∀⦃cl x x1 x2 r⦄,Im (Zru cl x x1 x2=some r) (if x2<x1 then(0<=x2/\(∃e1,x[x2.toNat]?=some e1/\(∃v4,Zba e1 0 7=some (Bo v4,[])/\(if v4=true then(Zru cl x x1 (w (x2+1))=some r)else(some (Bo false,[])=some r)))))else(some (Bo (decide ((cl.length:Int)<=16)),[])=some r)))/\
 (∀⦃a r⦄,Im (Zjn a=some r) (Zru a a (a.length:Int) 0=some r)))/\
 ((∀⦃a b x x1 r⦄,Im (Zrw a b x x1=some r) (if x1<x then(0<=x1/\(∃e1,a[x1.toNat]?=some e1/\(∃e2,b[x1.toNat]?=some e2/\(if e1<e2 then(some (Bo false,[])=some r)else(Zrw a b x (w (x1+1))=some r)))))else(some (Bo true,[])=some r)))/\
 (∀⦃a a1 r⦄,Im (Zrv a a1=some r) (if(a.length:Int)=(a1.length:Int)then(Zrw a a1 (a.length:Int) 0=some r)else(some (Bo false,[])=some r)))))):=by
 and_intros
 all_goals intros
 all_goals unfold Im
 all_goals try simp only[Zji,Zjj,Zjk,Zjl,Zjm,Znp,Zh3,Zrs,Zwo,Zwp,Zkx,Zrt,Zru,Zjn,Zrw,Zrv,Zgs,Zq.c_def,Zhe,Zb.c_def,Zm6,Zba,Zfj,Zb4,mpl,dfs]
 all_goals try simp only[itb]
 all_goals try simp only[itf,gS,kk]
 all_goals repeat' first|refine exI λ_=>?_|refine anJ λ_ _=>?_|refine anI λ_=>?_|refine orE2 ?_ ?_|exact False.elim
 all_goals (intro h;first|rw[Zi Zkv.eq_1]|refine run Zbyh rfl ?_|refine run Zbyi rfl ?_|rw[Zi Z3l.eq_1]|refine run Zbyj rfl ?_|refine run Zbyk rfl ?_|rw[Zi Zwq.eq_1]|rw[Zi Z3n.eq_1]|rw[Zi Z3p.eq_1]|refine run Zbym rfl ?_|rw[Zi Z3r.eq_1]|refine run Zbyn rfl ?_)
 all_goals (refine Yb ?_ h;clear h;simp +decide[*,kk,tI,tII,Zkw,Zbd4,Zbd5,Z3m,Zbd6,Zbd7,Zwr,Z3o,Z3q,Zbd8,Z3s,Zbd9])
abbrev Zbji:=Zd9.1.1.1.1
abbrev Zbjj:=Zd9.1.1.1.2
abbrev Zbjk:=Zd9.1.1.2.1
abbrev Zbjl:=Zd9.1.1.2.2
abbrev Zbjm:=Zd9.1.2.1.1
abbrev Zb3h:=Zd9.1.2.1.2
abbrev Zb3i:=Zd9.1.2.2.1
abbrev Zbjn:=Zd9.1.2.2.2
abbrev Zb3j:=Zd9.2.1.1.1
abbrev Zb3k:=Zd9.2.1.1.2
abbrev Zbjo:=Zd9.2.1.2.1
abbrev Zbjp:=Zd9.2.1.2.2
abbrev Zbjq:=Zd9.2.2.1.1
abbrev Zb3l:=Zd9.2.2.1.2
abbrev Zbjr:=Zd9.2.2.2.1
abbrev Zb3m:=Zd9.2.2.2.2
theorem Zb3n{a:Ze}{r:AV×List Blk}(h:(∃(v:Bool),Zba a.Zg 1 4=some (Bo v,[])/\(if v=true then(∃(v1:Bool),Zba (a.Atoms.length:Int) 1 4=some (Bo v1,[])/\(if v1=true then(0<=a.Zg/\(a.Zg.toNat*1<=room/\(a.Zg<=140737488355328/\(Zkx a (List.replicate (a.Zg).toNat false) a.Atoms (a.Atoms.length:Int) 0=some r))))else(some (Bo false,[])=some r)))else(some (Bo false,[])=some r)))):Zhf a=some r:=by
 unfold Zhf;refine run Zbyl rfl ?_;obtain⟨v,q1,h⟩:=h;unfold Zba at q1
 try simp at q1
 by_cases q2:v=true
 .rw[if_pos q2]at h;obtain⟨v1,q3,h⟩:=h;unfold Zba at q3
  try simp at q3
  by_cases q4:v1=true
  .rw[if_pos q4]at h;obtain⟨q5,h⟩:=h;obtain⟨q6,h⟩:=h;have zq6:=q6;try simp at zq6
   obtain⟨q7,h⟩:=h;refine Yb ?_ h;clear h;simp +decide[*,Zws,tI,tII,Zkx]
  .rw[if_neg q4]at h;refine Yb ?_ h;clear h;simp +decide[*,Zws,tI,tII]
 .rw[if_neg q2]at h;refine Yb ?_ h;clear h;simp +decide[*,Zws,tI,tII]
theorem Zdj:((((∀⦃a r⦄,Im (Zwt a=some r) (∃v1,Zjn a.Low=some (Bo v1,[])/\(if v1=true then(∃v2,Zjn a.High=some (Bo v2,[])/\(if v2=true then(if 0<(a.Low.length:Int)then(∃v4,Zrv a.High a.Low=some (Bo v4,[])/\(some (Bo v4,[])=some r))else(some (Bo false,[])=some r))else(some (Bo false,[])=some r)))else(some (Bo false,[])=some r))))/\
 (∀⦃a r⦄,Im (Zer a=some r) (∃v1,Zhf a=some (Bo v1,[])/\(if v1=true then(¬(a.Atoms.length:Int)<0/\(some (I (w ((shlI 1 (a.Atoms.length:Int))-1)),[])=some r))else(some (I 0,[])=some r)))))/\
 ((∀⦃a a1 r⦄,Im (Zwu a a1=some r) (∃v1,Zwt a1=some (Bo v1,[])/\(if v1=true then(∃v2,Zer a=some (I v2,[])/\(some (Bo (decide ((a1.Low.length:Int)=(w (v2+1)))),[])=some r))else(some (Bo false,[])=some r))))/\
 (∀⦃q cl cd v r⦄,Im (Zky q cl cd v=some r) (if v<q.Zg then(Znq q cl cd v q.Atoms (q.Atoms.length:Int) 0=some r)else(some (.own 0,[.arr 3 1 true (cl.map ic)])=some r)))))/\
 (((∀⦃q cl cd v x x1 x2 r⦄,Im (Znq q cl cd v x x1 x2=some r) (if x2<x1 then(0<=x2/\(∃e1,x[x2.toNat]?=some e1/\(¬x2<0/\(if(andI (shrI cd x2) 1)=1 then(∃v2,Zfj e1.Vars v=some (Bo v2,[])/\(if v2=true then(cl.length+1<=68719476736/\(Zky q (cl++[v]) cd (w (v+1))=some r))else(Znq q cl cd v x x1 (w (x2+1))=some r)))else(Znq q cl cd v x x1 (w (x2+1))=some r)))))else(Zky q cl cd (w (v+1))=some r)))/\
 (∀⦃a a1 r⦄,Im (Zh4 a a1=some r) (Zky a ([]:List Int) a1 0=some r)))/\
 ((∀⦃cl b x x1 x2 r⦄,Im (Znr cl b x x1 x2=some r) (if x2<x1 then(0<=x2/\(∃e1,x[x2.toNat]?=some e1/\(∃v2,Zfj b e1=some (Bo v2,[])/\(if v2=true then(cl.length+1<=68719476736/\(Znr (cl++[e1]) b x x1 (w (x2+1))=some r))else(Znr cl b x x1 (w (x2+1))=some r)))))else(some (.own 0,[.arr 3 1 true (cl.map ic)])=some r)))/\
 ((∀⦃a a1 r⦄,Im (Zkz a a1=some r) (Znr ([]:List Int) a1 a (a.length:Int) 0=some r))/\
 (∀⦃a a1 a2 a3 r⦄,Im (Zns a a1 a2 a3=some r) (if a1.Kind=1 then(∃v1,Zba a1.Atom 0 (w ((a.Atoms.length:Int)-1))=some (Bo v1,[])/\(if v1=true then(if a1.Order=0 then(¬a1.Atom<0/\(0<=a1.Atom/\(∃e2,a.Atoms[a1.Atom.toNat]?=some e2/\(∃e3,e2.Vars[0]?=some e3/\(some (.tup [.agg [I (shlI 1 a1.Atom),I e3,I (-1),I (-1)],Bo true],[])=some r)))))else(some (.tup [.agg [I 0,I (-1),I (-1),I (-1)],Bo false],[])=some r))else(some (.tup [.agg [I 0,I (-1),I (-1),I (-1)],Bo false],[])=some r)))else(if a1.Atom=0 then(if a1.Kind=2 then(if(a3.length:Int)<1 then(some (.tup [.agg [I 0,I (-1),I (-1),I (-1)],Bo false],[])=some r)else(0<=(w ((a3.length:Int)-1))/\(∃e4,a3[(w ((a3.length:Int)-1)).toNat]?=some e4/\(0<=e4/\(∃e5,a2[e4.toNat]?=some e5/\(∃(v7:List Int),Zh4 a e5.Mask=some (.own 0,[.arr 3 1 true (v7.map ic)])/\(∃v8,Zfj v7 a1.Order=some (Bo v8,[])/\(if v8=true then(if e5.Order=a1.Order then(some (.tup [.agg [I 0,I (-1),I (-1),I (-1)],Bo false],[])=some r)else(some (.tup [.agg [I e5.Mask,I a1.Order,I e4,I (-1)],Bo true],[])=some r))else(some (.tup [.agg [I 0,I (-1),I (-1),I (-1)],Bo false],[])=some r)))))))))else(if(a3.length:Int)<2 then(some (.tup [.agg [I 0,I (-1),I (-1),I (-1)],Bo false],[])=some r)else(0<=(w ((a3.length:Int)-2))/\(∃e8,a3[(w ((a3.length:Int)-2)).toNat]?=some e8/\(0<=(w ((a3.length:Int)-1))/\(∃e9,a3[(w ((a3.length:Int)-1)).toNat]?=some e9/\(0<=e8/\(∃e10,a2[e8.toNat]?=some e10/\(0<=e9/\(∃e11,a2[e9.toNat]?=some e11/\(∃(v9:List Int),Zh4 a e10.Mask=some (.own 0,[.arr 3 1 true (v9.map ic)])/\(∃(v10:List Int),Zh4 a e11.Mask=some (.own 0,[.arr 3 1 true (v10.map ic)])/\(∃(v11:List Int),Zkz v9 v10=some (.own 0,[.arr 3 1 true (v11.map ic)])/\(if(andI e10.Mask e11.Mask)=0 then(if(v11.length:Int)=0 then(some (.tup [.agg [I (orI e10.Mask e11.Mask),I (-1),I e8,I e9],Bo false],[])=some r)else(if a1.Kind=3 then(some (.tup [.agg [I (orI e10.Mask e11.Mask),I (-1),I e8,I e9],Bo (decide (a1.Order=0))],[])=some r)else(if a1.Kind=5 then(some (.tup [.agg [I (orI e10.Mask e11.Mask),I e10.Order,I e8,I e9],Bo (decide (a1.Order=0))],[])=some r)else(if a1.Kind=4 then(∃v12,Zfj v11 a1.Order=some (Bo v12,[])/\(if v12=true then(if e10.Order=a1.Order then(some (.tup [.agg [I (orI e10.Mask e11.Mask),I a1.Order,I e8,I e9],Bo (decide (e11.Order=a1.Order))],[])=some r)else(some (.tup [.agg [I (orI e10.Mask e11.Mask),I a1.Order,I e8,I e9],Bo false],[])=some r))else(some (.tup [.agg [I (orI e10.Mask e11.Mask),I a1.Order,I e8,I e9],Bo false],[])=some r)))else(some (.tup [.agg [I (orI e10.Mask e11.Mask),I (-1),I e8,I e9],Bo false],[])=some r)))))else(some (.tup [.agg [I (orI e10.Mask e11.Mask),I (-1),I e8,I e9],Bo false],[])=some r)))))))))))))))else(some (.tup [.agg [I 0,I (-1),I (-1),I (-1)],Bo false],[])=some r))))))))/\
 ((((∀⦃q cn cc x x1 x2 r⦄,Im (Zk0 q cn cc x x1 x2=some r) (if x2<x1 then(0<=x2/\(∃e1,x[x2.toNat]?=some e1/\(∃(v2:Zj),∃v3,Zns q e1 cn cc=some (.tup [.agg (v2.c.map .t),Bo v3],[])/\(if v3=true then(cn.length+1<=68719476736/\(if 0<=v2.Right then(0<=(w ((cc.length:Int)-2))/\((w ((cc.length:Int)-2)).toNat<=cc.length/\((w ((cc.length:Int)-2)).toNat+1<=68719476736/\(Zk0 q (cn++[v2]) ((cc.take ((w ((cc.length:Int)-2)).toNat))++[x2]) x x1 (w (x2+1))=some r))))else(if 0<=v2.Left then(0<=(w ((cc.length:Int)-1))/\((w ((cc.length:Int)-1)).toNat<=cc.length/\((w ((cc.length:Int)-1)).toNat+1<=68719476736/\(Zk0 q (cn++[v2]) ((cc.take ((w ((cc.length:Int)-1)).toNat))++[x2]) x x1 (w (x2+1))=some r))))else(cc.length+1<=68719476736/\(Zk0 q (cn++[v2]) (cc++[x2]) x x1 (w (x2+1))=some r)))))else(some (.tup [.t .nil,Bo false],[])=some r)))))else(if(cc.length:Int)=1 then(some (.tup [.own 0,Bo true],[.arr 256 4 true (cn.map Zj.c)])=some r)else(some (.tup [.t .nil,Bo false],[])=some r))))/\
 (∀⦃a a1 r⦄,Im (Zjo a a1=some r) (∃v1,Zhf a=some (Bo v1,[])/\(if v1=true then(∃v2,Zba (a1.Steps.length:Int) 1 14=some (Bo v2,[])/\(if v2=true then(Zk0 a ([]:List Zj) ([]:List Int) a1.Steps (a1.Steps.length:Int) 0=some r)else(some (.tup [.t .nil,Bo false],[])=some r)))else(some (.tup [.t .nil,Bo false],[])=some r)))))/\
 ((∀⦃a a1 r⦄,Im (Zwx a a1=some r) ((Zjo a a1=some (.tup [.t .nil,Bo false],[])/\(some (I 0,[])=some r))\/(∃(v2:List Zj),Zjo a a1=some (.tup [.own 0,Bo true],[.arr 256 4 true (v2.map Zj.c)])/\(0<=(w ((v2.length:Int)-1))/\(∃e3,v2[(w ((v2.length:Int)-1)).toNat]?=some e3/\(some (I e3.Mask,[])=some r))))))/\
 (∀⦃a a1 r⦄,Im (Zrx a a1=some r) (∃v1,Zhf a=some (Bo v1,[])/\(if v1=true then(∃v2,Zwu a a1.Box=some (Bo v2,[])/\(if v2=true then(∃v4,Zwx a a1.Plan=some (I v4,[])/\(∃v5,Zer a=some (I v5,[])/\(if v4=v5 then(∃v6,Zba a1.Percent 100 1000=some (Bo v6,[])/\(some (Bo v6,[])=some r))else(some (Bo false,[])=some r))))else(some (Bo false,[])=some r)))else(some (Bo false,[])=some r))))))/\
 (((∀⦃a a1 r⦄,Im (Zk1 a a1=some r) (∃v1,Zhf a=some (Bo v1,[])/\(if v1=true then(¬(a.Atoms.length:Int)<0/\(∃v2,Zba a1 0 (w ((shlI 1 (a.Atoms.length:Int))-1))=some (Bo v2,[])/\(some (Bo v2,[])=some r)))else(some (Bo false,[])=some r))))/\
 (∀⦃co cd cl x x1 x2 r⦄,Im (Zk2 co cd cl x x1 x2=some r) (if x2<x1 then(0<=x2/\(∃e1,x[x2.toNat]?=some e1/\(¬x2<0/\(if(andI (shrI cd x2) 1)=0 then(∃(v2:List Int),Zkz e1.Vars co=some (.own 0,[.arr 3 1 true (v2.map ic)])/\(if 0<(v2.length:Int)then(Zk2 co cd (orI cl (shlI 1 x2)) x x1 (w (x2+1))=some r)else(Zk2 co cd cl x x1 (w (x2+1))=some r)))else(Zk2 co cd cl x x1 (w (x2+1))=some r)))))else(some (I cl,[])=some r))))/\
 ((∀⦃a a1 r⦄,Im (Zwy a a1=some r) (∃(v1:List Int),Zh4 a a1=some (.own 0,[.arr 3 1 true (v1.map ic)])/\(Zk2 v1 a1 0 a.Atoms (a.Atoms.length:Int) 0=some r)))/\
 ((∀⦃q cd cp r⦄,Im (Zry q cd cp=some r) (∃v1,Zwy q cp=some (I v1,[])/\(if(orI cp (andI v1 cd))=cp then(some (Bo (decide (cp=cd)),[])=some r)else(Zry q cd (orI cp (andI v1 cd))=some r))))/\
 (∀⦃a a1 r⦄,Im (Zhg a a1=some r) (if a1=0 then(some (Bo false,[])=some r)else(Zry a a1 (andI a1 (w (0-a1)))=some r))))))):=by
 and_intros
 all_goals intros
 all_goals unfold Im
 all_goals try simp only[Zwt,Zer,Zwu,Zky,Znq,Zh4,Znr,Zkz,Zns,Zk0,Zjo,Zwx,Zrx,Zk1,Zk2,Zwy,Zry,Zhg,Zjn,Zrv,Zhf,Ze.c_def,Box.c_def,Zfj,Zba,Zc.c_def,Zj.c_def,Plan.c_def,mpl,dfs]
 all_goals try simp only[itb]
 all_goals try simp only[itf,gS,kk]
 all_goals repeat' first|refine exI λ_=>?_|refine anJ λ_ _=>?_|refine anI λ_=>?_|refine orE2 ?_ ?_|exact False.elim
 all_goals (intro h;first|refine run Zbyo rfl ?_|refine run Zbyp rfl ?_|refine run Zbyq rfl ?_|rw[Zi Zwv.eq_1]|rw[Zi Z3t.eq_1]|refine run Zbyr rfl ?_|rw[Zi Z3v.eq_1]|refine run Zbys rfl ?_|refine run Zbyt rfl ?_|rw[Zi Z3x.eq_1]|refine run Zbyu rfl ?_|refine run Zbyv rfl ?_|refine run Zbyw rfl ?_|refine run Zbyx rfl ?_|rw[Zi Z3z.eq_1]|refine run Zbyy rfl ?_|rw[Zi Z31.eq_1]|refine run Zbyz rfl ?_)
 all_goals (refine Yb ?_ h;clear h;simp +decide[*,kk,tI,tII,Zbea,Zbeb,Zbec,Zww,Z3u,Zbed,Zbee,Z3w,Zbef,Zbeg,Zbeh,Z3y,Zbei,Zbej,Zbek,Zbel,Zbem,Z30,Zben,Zbeo])
abbrev Zb3o:=Zdj.1.1.1.1
abbrev Zb3p:=Zdj.1.1.1.2
abbrev Zb3q:=Zdj.1.1.2.1
abbrev Zbjs:=Zdj.1.1.2.2
abbrev Zbjt:=Zdj.1.2.1.1
abbrev Zb3r:=Zdj.1.2.1.2
abbrev Zbju:=Zdj.1.2.2.1
abbrev Zb3s:=Zdj.1.2.2.2.1
abbrev Zjy:=Zdj.1.2.2.2.2
abbrev Zbjv:=Zdj.2.1.1.1
abbrev Zb3t:=Zdj.2.1.1.2
abbrev Zb3u:=Zdj.2.1.2.1
abbrev Zb3v:=Zdj.2.1.2.2
abbrev Zb3w:=Zdj.2.2.1.1
abbrev Zbjw:=Zdj.2.2.1.2
abbrev Zb3x:=Zdj.2.2.2.1
abbrev Zbjx:=Zdj.2.2.2.2.1
abbrev Zbjy:=Zdj.2.2.2.2.2
theorem Zlw:((∀⦃a a1 r⦄,Im (Znt a a1=some r) (∃v,Zk1 a a1=some (Bo v,[])/\(if v=true then(∃v1,Zhg a a1=some (Bo v1,[])/\(some (Bo v1,[])=some r))else(some (Bo false,[])=some r))))/\
 ((∀⦃a a1 a2 r⦄,Im (Zrz a a1 a2=some r) (∃v,Zrx a1 a2=some (Bo v,[])/\(if v=true then(∃v1,Zer a1=some (I v1,[])/\(∃v2,Znt a1 v1=some (Bo v2,[])/\(if v2=true then(∃v3,Zh3 a=some (Bo v3,[])/\(some (Bo v3,[])=some r))else(some (Bo false,[])=some r))))else(some (Bo false,[])=some r))))/\
 (∀⦃cd c x x1 x2 r⦄,Im (Zk3 cd c x x1 x2=some r) (if x2<x1 then(0<=x2/\(∃e1,x[x2.toNat]?=some e1/\(∃v1,Zh2 e1=some (I v1,[])/\(cd.length+1<=68719476736/\(Zk3 (cd++[v1]) c x x1 (w (x2+1))=some r)))))else(∃v2,Zjn c=some (Bo v2,[])/\(if v2=true then(some (.own 0,[.arr 3 1 true (cd.map ic)])=some r)else(some (.t .nil,[])=some r)))))))/\
 (((∀⦃a r⦄,Im (Zh5 a=some r) (Zk3 ([]:List Int) a a (a.length:Int) 0=some r))/\
 (∀⦃q cc x x1 x2 r⦄,Im (Zr0 q cc x x1 x2=some r) (if x2<x1 then(0<=x2/\(∃e1,x[x2.toNat]?=some e1/\(∃v1,Zba e1 0 4096=some (Bo v1,[])/\(if v1=true then(Zr0 q cc x x1 (w (x2+1))=some r)else(some (Bo false,[])=some r)))))else(∃v2,Zhf q=some (Bo v2,[])/\(if v2=true then(∃v3,Zer q=some (I v3,[])/\(some (Bo (decide ((cc.length:Int)=(w (v3+1)))),[])=some r))else(some (Bo false,[])=some r))))))/\
 ((∀⦃a a1 r⦄,Im (Zk4 a a1=some r) (Zr0 a a1 a1 (a1.length:Int) 0=some r))/\
 (∀⦃a a1 a2 a3 r⦄,Im (Zcq a a1 a2 a3=some r) (∃v,Zct a=some (Bo v,[])/\(if v=true then(∃v1,Zba a1 0 4096=some (Bo v1,[])/\(if v1=true then(∃v2,Zba a2 0 4096=some (Bo v2,[])/\(if v2=true then(∃v3,Zba a3 0 4096=some (Bo v3,[])/\(if v3=true then(∃v4,Zku a a1 a2 a3=some (I v4,[])/\(some (I v4,[])=some r))else(some (I 0,[])=some r)))else(some (I 0,[])=some r)))else(some (I 0,[])=some r)))else(some (I 0,[])=some r)))))):=by
 and_intros
 all_goals intros
 all_goals unfold Im
 all_goals try simp only[Znt,Zrz,Zk3,Zh5,Zr0,Zk4,Zcq,Zk1,Zhg,Ze.c_def,Zrx,Zer,Zh3,Box.c_def,Zb.c_def,Zq.c_def,Plan.c_def,Region.c_def,Zh2,Zjn,Zba,Zhf,Zct,Zku,mpl,dfs]
 all_goals try simp only[itb]
 all_goals try simp only[itf,gS,kk]
 all_goals repeat' first|refine exI λ_=>?_|refine anJ λ_ _=>?_|refine anI λ_=>?_|refine orE2 ?_ ?_|exact False.elim
 all_goals (intro h;first|refine run Zby0 rfl ?_|refine run Zby1 rfl ?_|rw[Zi Z32.eq_1]|refine run Zby2 rfl ?_|rw[Zi Z34.eq_1]|refine run Zby3 rfl ?_|refine run Zby4 rfl ?_)
 all_goals (refine Yb ?_ h;clear h;simp +decide[*,kk,tI,tII,Zbep,Zbeq,Z33,Zber,Z35,Zbes,Zbet])
abbrev Zb3y:=Zlw.1.1
abbrev Zb3z:=Zlw.1.2.1
abbrev Z7t:=Zlw.1.2.2
abbrev Zbjz:=Zlw.2.1.1
abbrev Zbj0:=Zlw.2.1.2
abbrev Zb30:=Zlw.2.2.1
abbrev Zb31:=Zlw.2.2.2
theorem Zhl:(((∀⦃m cn cc cd x x1 x2 r⦄,Im (Zce m cn cc cd x x1 x2=some r) (if x2<x1 then(0<=x2/\(∃e1,x[x2.toNat]?=some e1/\(∃e2,cn[x2.toNat]?=some e2/\(0<=e2.Mask/\(∃e3,cd[e2.Mask.toNat]?=some e3/\(if 0<=e2.Left then(∃e4,cn[e2.Left.toNat]?=some e4/\(0<=e4.Mask/\(∃e5,cd[e4.Mask.toNat]?=some e5/\(if 0<=e2.Right then(∃e6,cn[e2.Right.toNat]?=some e6/\(0<=e6.Mask/\(∃e7,cd[e6.Mask.toNat]?=some e7/\(Znu m cn cc e1 cd x2 e5 e7 x x1 x2=some r))))else(Znv m cn cc e1 cd x2 e5 0 x x1 x2 false=some r)))))else(if 0<=e2.Right then(∃e8,cn[e2.Right.toNat]?=some e8/\(0<=e8.Mask/\(∃e9,cd[e8.Mask.toNat]?=some e9/\(Znu m cn cc e1 cd x2 e3 e9 x x1 x2=some r))))else(Znv m cn cc e1 cd x2 e3 0 x x1 x2 false=some r))))))))else(some (.own 0,[.arr 3 1 true (cc.map ic)])=some r)))/\
 (∀⦃a a1 a2 a3 r⦄,Im (Zk5 a a1 a2 a3=some r) ((Zjo a1 a2=some (.tup [.t .nil,Bo false],[])/\(some (.t .nil,[])=some r))\/(∃(v1:List Zj),Zjo a1 a2=some (.tup [.own 0,Bo true],[.arr 256 4 true (v1.map Zj.c)])/\(∃v2,Zk4 a1 a3=some (Bo v2,[])/\(if v2=true then(Zce a v1 ([]:List Int) a3 a2.Steps (a2.Steps.length:Int) 0=some r)else(some (.t .nil,[])=some r)))))))/\
 ((∀⦃n x x1 x2 r⦄,Im (Zr5 n x x1 x2=some r) (if x2<x1 then(0<=x2/\(∃e1,x[x2.toNat]?=some e1/\(Zr5 (w (n+e1)) x x1 (w (x2+1))=some r)))else(some (I n,[])=some r)))/\
 ((∀⦃a r⦄,Im (Zr4 a=some r) (Zr5 0 a (a.length:Int) 0=some r))/\
 (∀⦃a a1 a2 a3 r⦄,Im (Zr6 a a1 a2 a3=some r) ((∃(v:List Int),Zh5 a3=some (.own 0,[.arr 3 1 true (v.map ic)])/\(∃v1,Zh6 a a1 a2 v=some (I v1,[])/\(some (I v1,[])=some r)))\/(Zh5 a3=some (.t .nil,[])/\(∃v3,Zbex a a1 a2=some (I v3,[])/\(some (I v3,[])=some r))))))))/\
 (((∀⦃q cc cl r⦄,Im (Znw q cc cl=some r) (∃v,Zer q=some (I v,[])/\(if cl<=v then(∃v1,Zhg q cl=some (Bo v1,[])/\(if v1=true then(cc.length+1<=68719476736/\(Znw q (cc++[cl]) (w (cl+1))=some r))else(Znw q cc (w (cl+1))=some r)))else(some (.own 0,[.arr 3 1 true (cc.map ic)])=some r))))/\
 (∀⦃a r⦄,Im (Zr7 a=some r) (Znw a ([]:List Int) 1=some r)))/\
 ((∀⦃cc cl i r⦄,Im (Zny cc cl i=some r) (if i<4 then(¬i<0/\(if(andI (shrI cl i) 1)=1 then(cc.length+1<=68719476736/\(Zny (cc++[i]) cl (w (i+1))=some r))else(Zny cc cl (w (i+1))=some r)))else(some (.own 0,[.arr 3 1 true (cc.map ic)])=some r)))/\
 ((∀⦃a r⦄,Im (Znx a=some r) (∃v,Zba a 0 15=some (Bo v,[])/\(if v=true then(Zny ([]:List Int) a 0=some r)else(some (.t .nil,[])=some r))))/\
 (∀⦃a r⦄,Im (Zr8 a=some r) (some (.agg [.own 0],[.arr 287 3 true (([(⟨1,a,0⟩:Zc)]).map Zc.c)])=some r))))):=by
 and_intros
 all_goals intros
 all_goals unfold Im
 all_goals try simp only[Zce,Zk5,Zr5,Zr4,Zr6,Znw,Zr7,Zny,Znx,Zr8,Zjo,Zk4,Plan.c_def,Ze.c_def,Zh5,Zh6,Zbex,Zb.c_def,Zq.c_def,Zer,Zhg,Zba,Znu,Znv,mpl,dfs]
 all_goals try simp only[itb]
 all_goals try simp only[itf,gS,kk]
 all_goals repeat' first|refine exI λ_=>?_|refine anJ λ_ _=>?_|refine anI λ_=>?_|refine orE2 ?_ ?_|exact False.elim
 all_goals (intro h;first|rw[Zi Zr2.eq_1]|refine run Zby5 rfl ?_|rw[Zi Z36.eq_1]|refine run Zby6 rfl ?_|refine run Zby8 rfl ?_|rw[Zi Z39.eq_1]|refine run Zby9 rfl ?_|rw[Zi Z4b.eq_1]|refine run Zbza rfl ?_|refine run Zbzb rfl ?_)
 all_goals (refine Yb ?_ h;clear h;simp +decide[*,kk,tI,tII,Zbeu,Zr3,Zbev,Z37,Zbew,Zbey,Zbez,Z4a,Zbe0,Zbe1,Z4c,Zbe2,Zbe3])
abbrev Zbj1:=Zhl.1.1.1
abbrev Z7u:=Zhl.1.1.2
abbrev Zbj2:=Zhl.1.2.1
abbrev Zb32:=Zhl.1.2.2.1
abbrev Zb33:=Zhl.1.2.2.2
abbrev Zbj3:=Zhl.2.1.1
abbrev Zb34:=Zhl.2.1.2
abbrev Zbj4:=Zhl.2.2.1
abbrev Zb35:=Zhl.2.2.2.1
abbrev Zb36:=Zhl.2.2.2.2
theorem Zb37{m:Zb}{cd:List Zj}{cl:List Int}{x:Zc}{cc:List Int}{i co cn:Int}{x1:List Zc}{x2 x3:Int}{r:AV×List Blk}(h:(Zhe m=some (.bsl 1 5,[.box (m.c.map .t),.box [.ptr 0 0,.ptr 0 6,.ptr 0 12,.ptr 0 18,.ptr 0 24]])/\(if(w (x.Kind-1))=0 then(0<=i/\(∃(e2:Zj),cd[i.toNat]?=some e2/\(0<=e2.Mask/\(∃(e3:Int),cc[e2.Mask.toNat]?=some e3/\(∃(v:Int),Zcq m.Scan co cn e3=some (I v,[])/\(cl.length+1<=68719476736/\(Zce m cd (cl++[v]) cc x1 x2 (w (x3+1))=some r)))))))else(if(w (x.Kind-1))=1 then(0<=i/\(∃(e5:Zj),cd[i.toNat]?=some e5/\(0<=e5.Mask/\(∃(e6:Int),cc[e5.Mask.toNat]?=some e6/\(∃(v1:Int),Zcq m.Sort_ co cn e6=some (I v1,[])/\(cl.length+1<=68719476736/\(Zce m cd (cl++[v1]) cc x1 x2 (w (x3+1))=some r)))))))else(if(w (x.Kind-1))=2 then(0<=i/\(∃(e8:Zj),cd[i.toNat]?=some e8/\(0<=e8.Mask/\(∃(e9:Int),cc[e8.Mask.toNat]?=some e9/\(∃(v2:Int),Zcq m.Hash co cn e9=some (I v2,[])/\(cl.length+1<=68719476736/\(Zce m cd (cl++[v2]) cc x1 x2 (w (x3+1))=some r)))))))else(if(w (x.Kind-1))=3 then(0<=i/\(∃(e11:Zj),cd[i.toNat]?=some e11/\(0<=e11.Mask/\(∃(e12:Int),cc[e11.Mask.toNat]?=some e12/\(∃(v3:Int),Zcq m.Merge co cn e12=some (I v3,[])/\(cl.length+1<=68719476736/\(Zce m cd (cl++[v3]) cc x1 x2 (w (x3+1))=some r)))))))else(if(w (x.Kind-1))=4 then(0<=i/\(∃(e14:Zj),cd[i.toNat]?=some e14/\(0<=e14.Mask/\(∃(e15:Int),cc[e14.Mask.toNat]?=some e15/\(∃(v4:Int),Zcq m.Nested co cn e15=some (I v4,[])/\(cl.length+1<=68719476736/\(Zce m cd (cl++[v4]) cc x1 x2 (w (x3+1))=some r)))))))else False))))))):Znu m cd cl x cc i co cn x1 x2 x3=some r:=by
 unfold Znu;rw[Ev_eq Zr1.eq_1];obtain⟨q1,h⟩:=h;unfold Zhe at q1
 try simp at q1
 by_cases q2:(w (x.Kind-1))=0
 .rw[if_pos q2]at h;obtain⟨q3,h⟩:=h;obtain⟨e2,q4,h⟩:=h;have gq4:=Zcd q4;have kq4:=Zcf q4;obtain⟨q5,h⟩:=h;obtain⟨e3,q6,h⟩:=h;have gq6:=Zcd q6;have kq6:=Zcf q6;obtain⟨v,q7,h⟩:=h;unfold Zcq at q7
  try simp at q7
  obtain⟨q8,h⟩:=h;have rq8:=Zdz (b:=8) q8 (by omega);have sq8:=Zd0 q8
  try simp[*]at rq8
  try simp[*]at sq8
  refine Yb ?_ h;clear h;simp +decide[*,tI,tII,Zce]
 .rw[if_neg q2]at h;replace q2:=eq_false q2;by_cases q9:(w (x.Kind-1))=1
  .rw[if_pos q9]at h;obtain⟨q10,h⟩:=h;obtain⟨e5,q11,h⟩:=h;have gq11:=Zcd q11;have kq11:=Zcf q11;obtain⟨q12,h⟩:=h;obtain⟨e6,q13,h⟩:=h;have gq13:=Zcd q13;have kq13:=Zcf q13;obtain⟨v1,q14,h⟩:=h;unfold Zcq at q14
   try simp at q14
   obtain⟨q15,h⟩:=h;have rq15:=Zdz (b:=8) q15 (by omega);have sq15:=Zd0 q15
   try simp[*]at rq15
   try simp[*]at sq15
   refine Yb ?_ h;clear h;simp +decide[*,tI,tII,Zce]
  .rw[if_neg q9]at h;replace q9:=eq_false q9;by_cases q16:(w (x.Kind-1))=2
   .rw[if_pos q16]at h;obtain⟨q17,h⟩:=h;obtain⟨e8,q18,h⟩:=h;have gq18:=Zcd q18;have kq18:=Zcf q18;obtain⟨q19,h⟩:=h;obtain⟨e9,q20,h⟩:=h;have gq20:=Zcd q20;have kq20:=Zcf q20;obtain⟨v2,q21,h⟩:=h;unfold Zcq at q21
    try simp at q21
    obtain⟨q22,h⟩:=h;have rq22:=Zdz (b:=8) q22 (by omega);have sq22:=Zd0 q22
    try simp[*]at rq22
    try simp[*]at sq22
    refine Yb ?_ h;clear h;simp +decide[*,tI,tII,Zce]
   .rw[if_neg q16]at h;replace q16:=eq_false q16;by_cases q23:(w (x.Kind-1))=3
    .rw[if_pos q23]at h;obtain⟨q24,h⟩:=h;obtain⟨e11,q25,h⟩:=h;have gq25:=Zcd q25;have kq25:=Zcf q25;obtain⟨q26,h⟩:=h;obtain⟨e12,q27,h⟩:=h;have gq27:=Zcd q27;have kq27:=Zcf q27;obtain⟨v3,q28,h⟩:=h;unfold Zcq at q28
     try simp at q28
     obtain⟨q29,h⟩:=h;have rq29:=Zdz (b:=8) q29 (by omega);have sq29:=Zd0 q29
     try simp[*]at rq29
     try simp[*]at sq29
     refine Yb ?_ h;clear h;simp +decide[*,tI,tII,Zce]
    .rw[if_neg q23]at h;replace q23:=eq_false q23;by_cases q30:(w (x.Kind-1))=4
     .rw[if_pos q30]at h;obtain⟨q31,h⟩:=h;obtain⟨e14,q32,h⟩:=h;have gq32:=Zcd q32;have kq32:=Zcf q32;obtain⟨q33,h⟩:=h;obtain⟨e15,q34,h⟩:=h;have gq34:=Zcd q34;have kq34:=Zcf q34;obtain⟨v4,q35,h⟩:=h;unfold Zcq at q35
      try simp at q35
      obtain⟨q36,h⟩:=h;have rq36:=Zdz (b:=8) q36 (by omega);have sq36:=Zd0 q36
      try simp[*]at rq36
      try simp[*]at sq36
      refine Yb ?_ h;clear h;simp +decide[*,tI,tII,Zce]
     .rw[if_neg q30]at h;replace q30:=eq_false q30;cases h
theorem Zb38{m:Zb}{cd:List Zj}{cl:List Int}{x:Zc}{cc:List Int}{i co cn:Int}{x1:List Zc}{x2 x3:Int}{x4:Bool}{r:AV×List Blk}(h:(Zhe m=some (.bsl 1 5,[.box (m.c.map .t),.box [.ptr 0 0,.ptr 0 6,.ptr 0 12,.ptr 0 18,.ptr 0 24]])/\(if(w (x.Kind-1))=0 then(0<=i/\(∃(e2:Zj),cd[i.toNat]?=some e2/\(0<=e2.Mask/\(∃(e3:Int),cc[e2.Mask.toNat]?=some e3/\(∃(v:Int),Zcq m.Scan co cn e3=some (I v,[])/\(cl.length+1<=68719476736/\(Zce m cd (cl++[v]) cc x1 x2 (w (x3+1))=some r)))))))else(if(w (x.Kind-1))=1 then(0<=i/\(∃(e5:Zj),cd[i.toNat]?=some e5/\(0<=e5.Mask/\(∃(e6:Int),cc[e5.Mask.toNat]?=some e6/\(∃(v1:Int),Zcq m.Sort_ co cn e6=some (I v1,[])/\(cl.length+1<=68719476736/\(Zce m cd (cl++[v1]) cc x1 x2 (w (x3+1))=some r)))))))else(if(w (x.Kind-1))=2 then(0<=i/\(∃(e8:Zj),cd[i.toNat]?=some e8/\(0<=e8.Mask/\(∃(e9:Int),cc[e8.Mask.toNat]?=some e9/\(∃(v2:Int),Zcq m.Hash co cn e9=some (I v2,[])/\(cl.length+1<=68719476736/\(Zce m cd (cl++[v2]) cc x1 x2 (w (x3+1))=some r)))))))else(if(w (x.Kind-1))=3 then(0<=i/\(∃(e11:Zj),cd[i.toNat]?=some e11/\(0<=e11.Mask/\(∃(e12:Int),cc[e11.Mask.toNat]?=some e12/\(∃(v3:Int),Zcq m.Merge co cn e12=some (I v3,[])/\(cl.length+1<=68719476736/\(Zce m cd (cl++[v3]) cc x1 x2 (w (x3+1))=some r)))))))else(if(w (x.Kind-1))=4 then(0<=i/\(∃(e14:Zj),cd[i.toNat]?=some e14/\(0<=e14.Mask/\(∃(e15:Int),cc[e14.Mask.toNat]?=some e15/\(∃(v4:Int),Zcq m.Nested co cn e15=some (I v4,[])/\(cl.length+1<=68719476736/\(Zce m cd (cl++[v4]) cc x1 x2 (w (x3+1))=some r)))))))else False))))))):Znv m cd cl x cc i co cn x1 x2 x3 x4=some r:=by
 unfold Znv;rw[Ev_eq Zr1.eq_1];obtain⟨q1,h⟩:=h;unfold Zhe at q1
 try simp at q1
 by_cases q2:(w (x.Kind-1))=0
 .rw[if_pos q2]at h;obtain⟨q3,h⟩:=h;obtain⟨e2,q4,h⟩:=h;have gq4:=Zcd q4;have kq4:=Zcf q4;obtain⟨q5,h⟩:=h;obtain⟨e3,q6,h⟩:=h;have gq6:=Zcd q6;have kq6:=Zcf q6;obtain⟨v,q7,h⟩:=h;unfold Zcq at q7
  try simp at q7
  obtain⟨q8,h⟩:=h;have rq8:=Zdz (b:=8) q8 (by omega);have sq8:=Zd0 q8
  try simp[*]at rq8
  try simp[*]at sq8
  refine Yb ?_ h;clear h;simp +decide[*,tI,tII,Zce]
 .rw[if_neg q2]at h;replace q2:=eq_false q2;by_cases q9:(w (x.Kind-1))=1
  .rw[if_pos q9]at h;obtain⟨q10,h⟩:=h;obtain⟨e5,q11,h⟩:=h;have gq11:=Zcd q11;have kq11:=Zcf q11;obtain⟨q12,h⟩:=h;obtain⟨e6,q13,h⟩:=h;have gq13:=Zcd q13;have kq13:=Zcf q13;obtain⟨v1,q14,h⟩:=h;unfold Zcq at q14
   try simp at q14
   obtain⟨q15,h⟩:=h;have rq15:=Zdz (b:=8) q15 (by omega);have sq15:=Zd0 q15
   try simp[*]at rq15
   try simp[*]at sq15
   refine Yb ?_ h;clear h;simp +decide[*,tI,tII,Zce]
  .rw[if_neg q9]at h;replace q9:=eq_false q9;by_cases q16:(w (x.Kind-1))=2
   .rw[if_pos q16]at h;obtain⟨q17,h⟩:=h;obtain⟨e8,q18,h⟩:=h;have gq18:=Zcd q18;have kq18:=Zcf q18;obtain⟨q19,h⟩:=h;obtain⟨e9,q20,h⟩:=h;have gq20:=Zcd q20;have kq20:=Zcf q20;obtain⟨v2,q21,h⟩:=h;unfold Zcq at q21
    try simp at q21
    obtain⟨q22,h⟩:=h;have rq22:=Zdz (b:=8) q22 (by omega);have sq22:=Zd0 q22
    try simp[*]at rq22
    try simp[*]at sq22
    refine Yb ?_ h;clear h;simp +decide[*,tI,tII,Zce]
   .rw[if_neg q16]at h;replace q16:=eq_false q16;by_cases q23:(w (x.Kind-1))=3
    .rw[if_pos q23]at h;obtain⟨q24,h⟩:=h;obtain⟨e11,q25,h⟩:=h;have gq25:=Zcd q25;have kq25:=Zcf q25;obtain⟨q26,h⟩:=h;obtain⟨e12,q27,h⟩:=h;have gq27:=Zcd q27;have kq27:=Zcf q27;obtain⟨v3,q28,h⟩:=h;unfold Zcq at q28
     try simp at q28
     obtain⟨q29,h⟩:=h;have rq29:=Zdz (b:=8) q29 (by omega);have sq29:=Zd0 q29
     try simp[*]at rq29
     try simp[*]at sq29
     refine Yb ?_ h;clear h;simp +decide[*,tI,tII,Zce]
    .rw[if_neg q23]at h;replace q23:=eq_false q23;by_cases q30:(w (x.Kind-1))=4
     .rw[if_pos q30]at h;obtain⟨q31,h⟩:=h;obtain⟨e14,q32,h⟩:=h;have gq32:=Zcd q32;have kq32:=Zcf q32;obtain⟨q33,h⟩:=h;obtain⟨e15,q34,h⟩:=h;have gq34:=Zcd q34;have kq34:=Zcf q34;obtain⟨v4,q35,h⟩:=h;unfold Zcq at q35
      try simp at q35
      obtain⟨q36,h⟩:=h;have rq36:=Zdz (b:=8) q36 (by omega);have sq36:=Zd0 q36
      try simp[*]at rq36
      try simp[*]at sq36
      refine Yb ?_ h;clear h;simp +decide[*,tI,tII,Zce]
     .rw[if_neg q30]at h;replace q30:=eq_false q30;cases h
theorem Zb39{a:Zb}{a1:Ze}{a2:Plan}{a3:List Int}{r:AV×List Blk}(h:((Zk5 a a1 a2 a3=some (.t .nil,[])/\(some (I (-1),[])=some r))\/(∃(v:List Int),Zk5 a a1 a2 a3=some (.own 0,[.arr 3 1 true (v.map ic)])/\(v≠[]/\(∃(v1:Int),Zr4 v=some (I v1,[])/\(some (I v1,[])=some r)))))):Zh6 a a1 a2 a3=some r:=by
 unfold Zh6;refine run Zby7 rfl ?_;rcases h with h|h
 .obtain⟨q1,h⟩:=h;unfold Zk5 at q1
  try simp at q1
  refine Yb ?_ h;clear h;simp +decide[*,Z38,tI,tII]
 .obtain⟨v,q2,h⟩:=h;unfold Zk5 at q2
  try simp at q2
  obtain⟨q3,h⟩:=h;obtain⟨yq3,ysq3,eq3⟩:=List.exists_cons_of_ne_nil q3
  first|subst eq3|skip
  obtain⟨v1,q4,h⟩:=h;unfold Zr4 at q4
  try simp at q4
  refine Yb ?_ h;clear h;simp +decide[*,Z38,tI,tII]
theorem Zet{m:Zb}{q:Ze}{cu:List Int}{cp:Int}{cc cd cl cn co:Za}{cv cy cz d dc:Bool}{x:List Zc}{a:Int}{r:AV×List Blk}(h:(∃(v:Int),Zh6 m q (⟨x⟩:Plan) cu=some (I v,[])/\(if(w (a+1))=0 then(if cv=true then(if v<cc.Cost then(some (.tup [],[.box [I m.Scan.Fixed,I m.Scan.Zr,I m.Scan.Zs,I m.Scan.Zu,I m.Scan.Zt,L 2 (m.Scan.Steps.map Zf.c),I m.Sort_.Fixed,I m.Sort_.Zr,I m.Sort_.Zs,I m.Sort_.Zu,I m.Sort_.Zt,L 2 (m.Sort_.Steps.map Zf.c),I m.Hash.Fixed,I m.Hash.Zr,I m.Hash.Zs,I m.Hash.Zu,I m.Hash.Zt,L 2 (m.Hash.Steps.map Zf.c),I m.Merge.Fixed,I m.Merge.Zr,I m.Merge.Zs,I m.Merge.Zu,I m.Merge.Zt,L 2 (m.Merge.Steps.map Zf.c),I m.Nested.Fixed,I m.Nested.Zr,I m.Nested.Zs,I m.Nested.Zu,I m.Nested.Zt,L 2 (m.Nested.Steps.map Zf.c),I q.Zg,L 2 (q.Atoms.map Atom.c),L 1 (cu.map ic),I cp,I cp,I a,I v,L 3 (x.map Zc.c),I cd.Mask,I cd.Order,I cd.Cost,L 3 (cd.Plan.Steps.map Zc.c),I cl.Mask,I cl.Order,I cl.Cost,L 3 (cl.Plan.Steps.map Zc.c),I cn.Mask,I cn.Order,I cn.Cost,L 3 (cn.Plan.Steps.map Zc.c),I co.Mask,I co.Order,I co.Cost,L 3 (co.Plan.Steps.map Zc.c),Bo true,Bo cy,Bo cz,Bo d,Bo dc],.dead])=some r)else(some (.tup [],[boxO m q cu cp cc cd cl cn co cv cy cz d dc,.arr 287 3 true (x.map Zc.c)])=some r))else(some (.tup [],[.box [I m.Scan.Fixed,I m.Scan.Zr,I m.Scan.Zs,I m.Scan.Zu,I m.Scan.Zt,L 2 (m.Scan.Steps.map Zf.c),I m.Sort_.Fixed,I m.Sort_.Zr,I m.Sort_.Zs,I m.Sort_.Zu,I m.Sort_.Zt,L 2 (m.Sort_.Steps.map Zf.c),I m.Hash.Fixed,I m.Hash.Zr,I m.Hash.Zs,I m.Hash.Zu,I m.Hash.Zt,L 2 (m.Hash.Steps.map Zf.c),I m.Merge.Fixed,I m.Merge.Zr,I m.Merge.Zs,I m.Merge.Zu,I m.Merge.Zt,L 2 (m.Merge.Steps.map Zf.c),I m.Nested.Fixed,I m.Nested.Zr,I m.Nested.Zs,I m.Nested.Zu,I m.Nested.Zt,L 2 (m.Nested.Steps.map Zf.c),I q.Zg,L 2 (q.Atoms.map Atom.c),L 1 (cu.map ic),I cp,I cp,I a,I v,L 3 (x.map Zc.c),I cd.Mask,I cd.Order,I cd.Cost,L 3 (cd.Plan.Steps.map Zc.c),I cl.Mask,I cl.Order,I cl.Cost,L 3 (cl.Plan.Steps.map Zc.c),I cn.Mask,I cn.Order,I cn.Cost,L 3 (cn.Plan.Steps.map Zc.c),I co.Mask,I co.Order,I co.Cost,L 3 (co.Plan.Steps.map Zc.c),Bo true,Bo cy,Bo cz,Bo d,Bo dc],.dead])=some r))else(if(w (a+1))=1 then(if cy=true then(if v<cd.Cost then(some (.tup [],[.box [I m.Scan.Fixed,I m.Scan.Zr,I m.Scan.Zs,I m.Scan.Zu,I m.Scan.Zt,L 2 (m.Scan.Steps.map Zf.c),I m.Sort_.Fixed,I m.Sort_.Zr,I m.Sort_.Zs,I m.Sort_.Zu,I m.Sort_.Zt,L 2 (m.Sort_.Steps.map Zf.c),I m.Hash.Fixed,I m.Hash.Zr,I m.Hash.Zs,I m.Hash.Zu,I m.Hash.Zt,L 2 (m.Hash.Steps.map Zf.c),I m.Merge.Fixed,I m.Merge.Zr,I m.Merge.Zs,I m.Merge.Zu,I m.Merge.Zt,L 2 (m.Merge.Steps.map Zf.c),I m.Nested.Fixed,I m.Nested.Zr,I m.Nested.Zs,I m.Nested.Zu,I m.Nested.Zt,L 2 (m.Nested.Steps.map Zf.c),I q.Zg,L 2 (q.Atoms.map Atom.c),L 1 (cu.map ic),I cp,I cc.Mask,I cc.Order,I cc.Cost,L 3 (cc.Plan.Steps.map Zc.c),I cp,I a,I v,L 3 (x.map Zc.c),I cl.Mask,I cl.Order,I cl.Cost,L 3 (cl.Plan.Steps.map Zc.c),I cn.Mask,I cn.Order,I cn.Cost,L 3 (cn.Plan.Steps.map Zc.c),I co.Mask,I co.Order,I co.Cost,L 3 (co.Plan.Steps.map Zc.c),Bo cv,Bo true,Bo cz,Bo d,Bo dc],.dead])=some r)else(some (.tup [],[boxO m q cu cp cc cd cl cn co cv cy cz d dc,.arr 287 3 true (x.map Zc.c)])=some r))else(some (.tup [],[.box [I m.Scan.Fixed,I m.Scan.Zr,I m.Scan.Zs,I m.Scan.Zu,I m.Scan.Zt,L 2 (m.Scan.Steps.map Zf.c),I m.Sort_.Fixed,I m.Sort_.Zr,I m.Sort_.Zs,I m.Sort_.Zu,I m.Sort_.Zt,L 2 (m.Sort_.Steps.map Zf.c),I m.Hash.Fixed,I m.Hash.Zr,I m.Hash.Zs,I m.Hash.Zu,I m.Hash.Zt,L 2 (m.Hash.Steps.map Zf.c),I m.Merge.Fixed,I m.Merge.Zr,I m.Merge.Zs,I m.Merge.Zu,I m.Merge.Zt,L 2 (m.Merge.Steps.map Zf.c),I m.Nested.Fixed,I m.Nested.Zr,I m.Nested.Zs,I m.Nested.Zu,I m.Nested.Zt,L 2 (m.Nested.Steps.map Zf.c),I q.Zg,L 2 (q.Atoms.map Atom.c),L 1 (cu.map ic),I cp,I cc.Mask,I cc.Order,I cc.Cost,L 3 (cc.Plan.Steps.map Zc.c),I cp,I a,I v,L 3 (x.map Zc.c),I cl.Mask,I cl.Order,I cl.Cost,L 3 (cl.Plan.Steps.map Zc.c),I cn.Mask,I cn.Order,I cn.Cost,L 3 (cn.Plan.Steps.map Zc.c),I co.Mask,I co.Order,I co.Cost,L 3 (co.Plan.Steps.map Zc.c),Bo cv,Bo true,Bo cz,Bo d,Bo dc],.dead])=some r))else(if(w (a+1))=2 then(if cz=true then(if v<cl.Cost then(some (.tup [],[.box [I m.Scan.Fixed,I m.Scan.Zr,I m.Scan.Zs,I m.Scan.Zu,I m.Scan.Zt,L 2 (m.Scan.Steps.map Zf.c),I m.Sort_.Fixed,I m.Sort_.Zr,I m.Sort_.Zs,I m.Sort_.Zu,I m.Sort_.Zt,L 2 (m.Sort_.Steps.map Zf.c),I m.Hash.Fixed,I m.Hash.Zr,I m.Hash.Zs,I m.Hash.Zu,I m.Hash.Zt,L 2 (m.Hash.Steps.map Zf.c),I m.Merge.Fixed,I m.Merge.Zr,I m.Merge.Zs,I m.Merge.Zu,I m.Merge.Zt,L 2 (m.Merge.Steps.map Zf.c),I m.Nested.Fixed,I m.Nested.Zr,I m.Nested.Zs,I m.Nested.Zu,I m.Nested.Zt,L 2 (m.Nested.Steps.map Zf.c),I q.Zg,L 2 (q.Atoms.map Atom.c),L 1 (cu.map ic),I cp,I cc.Mask,I cc.Order,I cc.Cost,L 3 (cc.Plan.Steps.map Zc.c),I cd.Mask,I cd.Order,I cd.Cost,L 3 (cd.Plan.Steps.map Zc.c),I cp,I a,I v,L 3 (x.map Zc.c),I cn.Mask,I cn.Order,I cn.Cost,L 3 (cn.Plan.Steps.map Zc.c),I co.Mask,I co.Order,I co.Cost,L 3 (co.Plan.Steps.map Zc.c),Bo cv,Bo cy,Bo true,Bo d,Bo dc],.dead])=some r)else(some (.tup [],[boxO m q cu cp cc cd cl cn co cv cy cz d dc,.arr 287 3 true (x.map Zc.c)])=some r))else(some (.tup [],[.box [I m.Scan.Fixed,I m.Scan.Zr,I m.Scan.Zs,I m.Scan.Zu,I m.Scan.Zt,L 2 (m.Scan.Steps.map Zf.c),I m.Sort_.Fixed,I m.Sort_.Zr,I m.Sort_.Zs,I m.Sort_.Zu,I m.Sort_.Zt,L 2 (m.Sort_.Steps.map Zf.c),I m.Hash.Fixed,I m.Hash.Zr,I m.Hash.Zs,I m.Hash.Zu,I m.Hash.Zt,L 2 (m.Hash.Steps.map Zf.c),I m.Merge.Fixed,I m.Merge.Zr,I m.Merge.Zs,I m.Merge.Zu,I m.Merge.Zt,L 2 (m.Merge.Steps.map Zf.c),I m.Nested.Fixed,I m.Nested.Zr,I m.Nested.Zs,I m.Nested.Zu,I m.Nested.Zt,L 2 (m.Nested.Steps.map Zf.c),I q.Zg,L 2 (q.Atoms.map Atom.c),L 1 (cu.map ic),I cp,I cc.Mask,I cc.Order,I cc.Cost,L 3 (cc.Plan.Steps.map Zc.c),I cd.Mask,I cd.Order,I cd.Cost,L 3 (cd.Plan.Steps.map Zc.c),I cp,I a,I v,L 3 (x.map Zc.c),I cn.Mask,I cn.Order,I cn.Cost,L 3 (cn.Plan.Steps.map Zc.c),I co.Mask,I co.Order,I co.Cost,L 3 (co.Plan.Steps.map Zc.c),Bo cv,Bo cy,Bo true,Bo d,Bo dc],.dead])=some r))else(if(w (a+1))=3 then(if d=true then(if v<cn.Cost then(some (.tup [],[.box [I m.Scan.Fixed,I m.Scan.Zr,I m.Scan.Zs,I m.Scan.Zu,I m.Scan.Zt,L 2 (m.Scan.Steps.map Zf.c),I m.Sort_.Fixed,I m.Sort_.Zr,I m.Sort_.Zs,I m.Sort_.Zu,I m.Sort_.Zt,L 2 (m.Sort_.Steps.map Zf.c),I m.Hash.Fixed,I m.Hash.Zr,I m.Hash.Zs,I m.Hash.Zu,I m.Hash.Zt,L 2 (m.Hash.Steps.map Zf.c),I m.Merge.Fixed,I m.Merge.Zr,I m.Merge.Zs,I m.Merge.Zu,I m.Merge.Zt,L 2 (m.Merge.Steps.map Zf.c),I m.Nested.Fixed,I m.Nested.Zr,I m.Nested.Zs,I m.Nested.Zu,I m.Nested.Zt,L 2 (m.Nested.Steps.map Zf.c),I q.Zg,L 2 (q.Atoms.map Atom.c),L 1 (cu.map ic),I cp,I cc.Mask,I cc.Order,I cc.Cost,L 3 (cc.Plan.Steps.map Zc.c),I cd.Mask,I cd.Order,I cd.Cost,L 3 (cd.Plan.Steps.map Zc.c),I cl.Mask,I cl.Order,I cl.Cost,L 3 (cl.Plan.Steps.map Zc.c),I cp,I a,I v,L 3 (x.map Zc.c),I co.Mask,I co.Order,I co.Cost,L 3 (co.Plan.Steps.map Zc.c),Bo cv,Bo cy,Bo cz,Bo true,Bo dc],.dead])=some r)else(some (.tup [],[boxO m q cu cp cc cd cl cn co cv cy cz d dc,.arr 287 3 true (x.map Zc.c)])=some r))else(some (.tup [],[.box [I m.Scan.Fixed,I m.Scan.Zr,I m.Scan.Zs,I m.Scan.Zu,I m.Scan.Zt,L 2 (m.Scan.Steps.map Zf.c),I m.Sort_.Fixed,I m.Sort_.Zr,I m.Sort_.Zs,I m.Sort_.Zu,I m.Sort_.Zt,L 2 (m.Sort_.Steps.map Zf.c),I m.Hash.Fixed,I m.Hash.Zr,I m.Hash.Zs,I m.Hash.Zu,I m.Hash.Zt,L 2 (m.Hash.Steps.map Zf.c),I m.Merge.Fixed,I m.Merge.Zr,I m.Merge.Zs,I m.Merge.Zu,I m.Merge.Zt,L 2 (m.Merge.Steps.map Zf.c),I m.Nested.Fixed,I m.Nested.Zr,I m.Nested.Zs,I m.Nested.Zu,I m.Nested.Zt,L 2 (m.Nested.Steps.map Zf.c),I q.Zg,L 2 (q.Atoms.map Atom.c),L 1 (cu.map ic),I cp,I cc.Mask,I cc.Order,I cc.Cost,L 3 (cc.Plan.Steps.map Zc.c),I cd.Mask,I cd.Order,I cd.Cost,L 3 (cd.Plan.Steps.map Zc.c),I cl.Mask,I cl.Order,I cl.Cost,L 3 (cl.Plan.Steps.map Zc.c),I cp,I a,I v,L 3 (x.map Zc.c),I co.Mask,I co.Order,I co.Cost,L 3 (co.Plan.Steps.map Zc.c),Bo cv,Bo cy,Bo cz,Bo true,Bo dc],.dead])=some r))else(if(w (a+1))=4 then(if dc=true then(if v<co.Cost then(some (.tup [],[.box [I m.Scan.Fixed,I m.Scan.Zr,I m.Scan.Zs,I m.Scan.Zu,I m.Scan.Zt,L 2 (m.Scan.Steps.map Zf.c),I m.Sort_.Fixed,I m.Sort_.Zr,I m.Sort_.Zs,I m.Sort_.Zu,I m.Sort_.Zt,L 2 (m.Sort_.Steps.map Zf.c),I m.Hash.Fixed,I m.Hash.Zr,I m.Hash.Zs,I m.Hash.Zu,I m.Hash.Zt,L 2 (m.Hash.Steps.map Zf.c),I m.Merge.Fixed,I m.Merge.Zr,I m.Merge.Zs,I m.Merge.Zu,I m.Merge.Zt,L 2 (m.Merge.Steps.map Zf.c),I m.Nested.Fixed,I m.Nested.Zr,I m.Nested.Zs,I m.Nested.Zu,I m.Nested.Zt,L 2 (m.Nested.Steps.map Zf.c),I q.Zg,L 2 (q.Atoms.map Atom.c),L 1 (cu.map ic),I cp,I cc.Mask,I cc.Order,I cc.Cost,L 3 (cc.Plan.Steps.map Zc.c),I cd.Mask,I cd.Order,I cd.Cost,L 3 (cd.Plan.Steps.map Zc.c),I cl.Mask,I cl.Order,I cl.Cost,L 3 (cl.Plan.Steps.map Zc.c),I cn.Mask,I cn.Order,I cn.Cost,L 3 (cn.Plan.Steps.map Zc.c),I cp,I a,I v,L 3 (x.map Zc.c),Bo cv,Bo cy,Bo cz,Bo d,Bo true],.dead])=some r)else(some (.tup [],[boxO m q cu cp cc cd cl cn co cv cy cz d dc,.arr 287 3 true (x.map Zc.c)])=some r))else(some (.tup [],[.box [I m.Scan.Fixed,I m.Scan.Zr,I m.Scan.Zs,I m.Scan.Zu,I m.Scan.Zt,L 2 (m.Scan.Steps.map Zf.c),I m.Sort_.Fixed,I m.Sort_.Zr,I m.Sort_.Zs,I m.Sort_.Zu,I m.Sort_.Zt,L 2 (m.Sort_.Steps.map Zf.c),I m.Hash.Fixed,I m.Hash.Zr,I m.Hash.Zs,I m.Hash.Zu,I m.Hash.Zt,L 2 (m.Hash.Steps.map Zf.c),I m.Merge.Fixed,I m.Merge.Zr,I m.Merge.Zs,I m.Merge.Zu,I m.Merge.Zt,L 2 (m.Merge.Steps.map Zf.c),I m.Nested.Fixed,I m.Nested.Zr,I m.Nested.Zs,I m.Nested.Zu,I m.Nested.Zt,L 2 (m.Nested.Steps.map Zf.c),I q.Zg,L 2 (q.Atoms.map Atom.c),L 1 (cu.map ic),I cp,I cc.Mask,I cc.Order,I cc.Cost,L 3 (cc.Plan.Steps.map Zc.c),I cd.Mask,I cd.Order,I cd.Cost,L 3 (cd.Plan.Steps.map Zc.c),I cl.Mask,I cl.Order,I cl.Cost,L 3 (cl.Plan.Steps.map Zc.c),I cn.Mask,I cn.Order,I cn.Cost,L 3 (cn.Plan.Steps.map Zc.c),I cp,I a,I v,L 3 (x.map Zc.c),Bo cv,Bo cy,Bo cz,Bo d,Bo true],.dead])=some r))else False))))))):Zc8 m q cu cp cc cd cl cn co cv cy cz d dc x a=some r:=by
 unfold Zc8;refine runM Zbzc rfl ?_;obtain⟨v,q1,h⟩:=h;unfold Zh6 at q1
 try simp at q1
 by_cases q2:(w (a+1))=0
 .rw[if_pos q2]at h;by_cases q3:cv=true
  .rw[if_pos q3]at h;by_cases q4:v<cc.Cost
   .rw[if_pos q4]at h;refine Yb ?_ h;clear h;simp +decide[*,Zd7,tI,tII]
   .rw[if_neg q4]at h;refine Yb ?_ h;clear h;simp +decide[*,Zd7,tI,tII]
  .rw[if_neg q3]at h;refine Yb ?_ h;clear h;simp +decide[*,Zd7,tI,tII]
 .rw[if_neg q2]at h;replace q2:=eq_false q2;by_cases q5:(w (a+1))=1
  .rw[if_pos q5]at h;by_cases q6:cy=true
   .rw[if_pos q6]at h;by_cases q7:v<cd.Cost
    .rw[if_pos q7]at h;refine Yb ?_ h;clear h;simp +decide[*,Zd7,tI,tII]
    .rw[if_neg q7]at h;refine Yb ?_ h;clear h;simp +decide[*,Zd7,tI,tII]
   .rw[if_neg q6]at h;refine Yb ?_ h;clear h;simp +decide[*,Zd7,tI,tII]
  .rw[if_neg q5]at h;replace q5:=eq_false q5;by_cases q8:(w (a+1))=2
   .rw[if_pos q8]at h;by_cases q9:cz=true
    .rw[if_pos q9]at h;by_cases q10:v<cl.Cost
     .rw[if_pos q10]at h;refine Yb ?_ h;clear h;simp +decide[*,Zd7,tI,tII]
     .rw[if_neg q10]at h;refine Yb ?_ h;clear h;simp +decide[*,Zd7,tI,tII]
    .rw[if_neg q9]at h;refine Yb ?_ h;clear h;simp +decide[*,Zd7,tI,tII]
   .rw[if_neg q8]at h;replace q8:=eq_false q8;by_cases q11:(w (a+1))=3
    .rw[if_pos q11]at h;by_cases q12:d=true
     .rw[if_pos q12]at h;by_cases q13:v<cn.Cost
      .rw[if_pos q13]at h;refine Yb ?_ h;clear h;simp +decide[*,Zd7,tI,tII]
      .rw[if_neg q13]at h;refine Yb ?_ h;clear h;simp +decide[*,Zd7,tI,tII]
     .rw[if_neg q12]at h;refine Yb ?_ h;clear h;simp +decide[*,Zd7,tI,tII]
    .rw[if_neg q11]at h;replace q11:=eq_false q11;by_cases q14:(w (a+1))=4
     .rw[if_pos q14]at h;by_cases q15:dc=true
      .rw[if_pos q15]at h;by_cases q16:v<co.Cost
       .rw[if_pos q16]at h;refine Yb ?_ h;clear h;simp +decide[*,Zd7,tI,tII]
       .rw[if_neg q16]at h;refine Yb ?_ h;clear h;simp +decide[*,Zd7,tI,tII]
      .rw[if_neg q15]at h;refine Yb ?_ h;clear h;simp +decide[*,Zd7,tI,tII]
     .rw[if_neg q14]at h;replace q14:=eq_false q14;cases h
theorem Zbj5:(∀⦃q cc c x r⦄,Im (Zh7 q cc c x=some r) (if x<c then(if(andI x c)=x then(∃v,Zhg q x=some (Bo v,[])/\(if v=true then(∃v1,Zhg q (Zhd c x)=some (Bo v1,[])/\(if v1=true then(cc.length+1<=68719476736/\(Zh7 q (cc++[x]) c (w (x+1))=some r))else(Zh7 q cc c (w (x+1))=some r)))else(Zh7 q cc c (w (x+1))=some r)))else(Zh7 q cc c (w (x+1))=some r))else(some (.own 0,[.arr 3 1 true (cc.map ic)])=some r)))/\
 (∀⦃a a1 r⦄,Im (Zf0 a a1=some r) (∃v,Znt a a1=some (Bo v,[])/\(if v=true then(Zh7 a ([]:List Int) a1 1=some r)else(some (.t .nil,[])=some r)))):=by
 and_intros
 all_goals intros
 all_goals unfold Im
 all_goals try simp only[Zh7,Zf0,Zhg,Ze.c_def,Znt,mpl,dfs]
 all_goals try simp only[itb]
 all_goals try simp only[itf,gS,kk]
 all_goals repeat' first|refine exI λ_=>?_|refine anJ λ_ _=>?_|refine anI λ_=>?_|refine orE2 ?_ ?_|exact False.elim
 all_goals (intro h;first|rw[Zi Z4d.eq_1]|refine run Zbzd rfl ?_)
 all_goals (refine Yb ?_ h;clear h;simp +decide[*,kk,tI,tII,Zbe4,Z4e,Zbe5])
abbrev Zbj6:=Zbj5.1
abbrev Zb4a:=Zbj5.2
theorem Zhm:(((∀⦃cz cd cy cl x x1 x2 r⦄,Im (Znz cz cd cy cl x x1 x2=some r) (if x2<x1 then(0<=x2/\(∃e1,x[x2.toNat]?=some e1/\(if e1.Cost<cl.Cost then(Znz cz cd cy e1 x x1 (w (x2+1))=some r)else(Znz cz cd cy cl x x1 (w (x2+1))=some r))))else(some (.agg (cl.c.map .t),[])=some r)))/\
 (∀⦃a r⦄,Im (Zk6 a=some r) (∃e1,a[0]?=some e1/\(Znz 0 0 0 e1 a (a.length:Int) 0=some r))))/\
 ((∀⦃a r⦄,Im (Zh8 a=some r) (a.Steps.length<=68719476736/\(some (.agg [.own 0],[.arr 287 3 true (a.Steps.map Zc.c)])=some r)))/\
 ((∀⦃a a1 a2 a3 r⦄,Im (Zhh a a1 a2 a3=some r) (∃(v1:List Zc),Zh8 a=some (.agg [.own 0],[.arr 287 3 true (v1.map Zc.c)])/\(v1.length+a1.Steps.length<=68719476736/\(v1.length+a1.Steps.length+1<=68719476736/\(some (.agg [.own 0],[.arr 287 3 true (((v1++a1.Steps)++[(⟨a2,0,a3⟩:Zc)]).map Zc.c)])=some r)))))/\
 (∀⦃m q cc dp d dc dd dl dn cn co cp cu cv r⦄,Im (Zsb m q cc dp d dc dd dl dn cn co cp cu cv=some r) (Zb5 m q cc dp d dc dd dl dn cn co cp cu cv true ([]:List Za) cn co cp cu cv 0=some r)))))/\
 (((∀⦃a a1 r⦄,Im (Zh9 a a1=some r) (∃v1,Zk1 a a1=some (Bo v1,[])/\(if v1=true then(∃(v2:List Int),Zh4 a a1=some (.own 0,[.arr 3 1 true (v2.map ic)])/\(some (.own 0,[.arr 3 1 true (v2.map ic)])=some r))else(some (.t .nil,[])=some r))))/\
 (∀⦃a a1 a2 r⦄,Im (Zk7 a a1 a2=some r) ((∃(v1:List Int),Zh9 a a1=some (.own 0,[.arr 3 1 true (v1.map ic)])/\((∃(v2:List Int),Zh9 a a2=some (.own 0,[.arr 3 1 true (v2.map ic)])/\(∃(v3:List Int),Zkz v1 v2=some (.own 0,[.arr 3 1 true (v3.map ic)])/\(some (.own 0,[.arr 3 1 true (v3.map ic)])=some r)))\/(Zh9 a a2=some (.t .nil,[])/\(∃(v4:List Int),Zbfa v1=some (.own 0,[.arr 3 1 true (v4.map ic)])/\(some (.own 0,[.arr 3 1 true (v4.map ic)])=some r)))))\/(Zh9 a a1=some (.t .nil,[])/\((∃(v5:List Int),Zh9 a a2=some (.own 0,[.arr 3 1 true (v5.map ic)])/\(∃(v6:List Int),Zbfb v5=some (.own 0,[.arr 3 1 true (v6.map ic)])/\(some (.own 0,[.arr 3 1 true (v6.map ic)])=some r)))\/(Zh9 a a2=some (.t .nil,[])/\(∃(v7:List Int),Zbfc=some (.own 0,[.arr 3 1 true (v7.map ic)])/\(some (.own 0,[.arr 3 1 true (v7.map ic)])=some r))))))))/\
 ((∀⦃a a1 r⦄,Im (Zwz a a1=some r) (∃(v1:List Zc),Zh8 a=some (.agg [.own 0],[.arr 287 3 true (v1.map Zc.c)])/\(v1.length+1<=68719476736/\(some (.agg [.own 0],[.arr 287 3 true ((v1++[(⟨2,0,a1⟩:Zc)]).map Zc.c)])=some r))))/\
 ((∀⦃m q x cc v x1 x2 x3 r⦄,Im (Zn0 m q x cc v x1 x2 x3=some r) (if x3<x2 then(0<=x3/\(∃e1,x1[x3.toNat]?=some e1/\(if e1.Order=v then(∃v2,Zh6 m q (⟨x⟩:Plan) cc=some (I v2,[])/\(if e1.Cost<=v2 then(some (.agg (e1.Plan.c.map .t),[])=some r)else(Zn0 m q x cc v x1 x2 (w (x3+1))=some r)))else(Zn0 m q x cc v x1 x2 (w (x3+1))=some r))))else(some (.agg [.own 0],[.arr 287 3 true (x.map Zc.c)])=some r)))/\
 (∀⦃a a1 a2 a3 a4 r⦄,Im (Zf1 a a1 a2 a3 a4=some r) (∃(v1:Za),Zk6 a3=some (.agg (v1.c.map .t),[])/\(if v1.Order=a4 then(some (.agg (v1.Plan.c.map .t),[])=some r)else(∃(v2:List Zc),Zwz v1.Plan a4=some (.agg [.own 0],[.arr 287 3 true (v2.map Zc.c)])/\(Zn0 a a1 v2 a2 a4 a3 (a3.length:Int) 0=some r)))))))):=by
 and_intros
 all_goals intros
 all_goals unfold Im
 all_goals try simp only[Znz,Zk6,Zh8,Zhh,Zsb,Zh9,Zk7,Zwz,Zn0,Zf1,Plan.c_def,Zk1,Zh4,Ze.c_def,Zkz,Zbfa,Zbfb,Zbfc,Zh6,Zb.c_def,Zq.c_def,Za.c_def,Zb5,mpl,dfs]
 all_goals try simp only[itb]
 all_goals try simp only[itf,gS,kk]
 all_goals repeat' first|refine exI λ_=>?_|refine anJ λ_ _=>?_|refine anI λ_=>?_|refine orE2 ?_ ?_|exact False.elim
 all_goals (intro h;first|rw[Zi Zr9.eq_1]|refine run Zbig rfl ?_|refine run Zbze rfl ?_|refine run Zbzf rfl ?_|refine runM Zbzg rfl ?_|refine run Zbzh rfl ?_|refine run Zbzi rfl ?_|refine run Zbzj rfl ?_|rw[Zi Z4j.eq_1]|refine run Zbzk rfl ?_)
 all_goals (refine Yb ?_ h;clear h;simp +decide[*,kk,tI,tII,Z4f,Zsa,Z4g,Zbe6,Zbe7,Zbe8,Zbe9,Zbfd,Zbfe,Z4k,Zbff])
abbrev Zbj7:=Zhm.1.1.1
abbrev Zb4b:=Zhm.1.1.2
abbrev Zb4c:=Zhm.1.2.1
abbrev Zb4d:=Zhm.1.2.2.1
abbrev Zb4e:=Zhm.1.2.2.2
abbrev Zb4f:=Zhm.2.1.1
abbrev Zb4g:=Zhm.2.1.2
abbrev Zb4h:=Zhm.2.2.1
abbrev Zyn:=Zhm.2.2.2.1
abbrev Zbj8:=Zhm.2.2.2.2
theorem Zgv{m:Zb}{q:Ze}{cp:List Int}{dd:Int}{cc cd cl cn co:Za}{cu cv cy cz d fr:Bool}{dc:List Za}{x0 x1 x2 x3 x4:Bool}{x:Int}{r:AV×List Blk}(h:(if x<5 then(if x=0 then(if x0=true then(dc.length+1<=68719476736/\(Zb5 m q cp dd cc cd cl cn co cu cv cy cz d false (dc++[cc]) true x1 x2 x3 x4 (w (x+1))=some r))else(Zb5 m q cp dd cc cd cl cn co cu cv cy cz d fr dc false x1 x2 x3 x4 (w (x+1))=some r))else(if x=1 then(if x1=true then(dc.length+1<=68719476736/\(Zb5 m q cp dd cc cd cl cn co cu cv cy cz d false (dc++[cd]) x0 true x2 x3 x4 (w (x+1))=some r))else(Zb5 m q cp dd cc cd cl cn co cu cv cy cz d fr dc x0 false x2 x3 x4 (w (x+1))=some r))else(if x=2 then(if x2=true then(dc.length+1<=68719476736/\(Zb5 m q cp dd cc cd cl cn co cu cv cy cz d false (dc++[cl]) x0 x1 true x3 x4 (w (x+1))=some r))else(Zb5 m q cp dd cc cd cl cn co cu cv cy cz d fr dc x0 x1 false x3 x4 (w (x+1))=some r))else(if x=3 then(if x3=true then(dc.length+1<=68719476736/\(Zb5 m q cp dd cc cd cl cn co cu cv cy cz d false (dc++[cn]) x0 x1 x2 true x4 (w (x+1))=some r))else(Zb5 m q cp dd cc cd cl cn co cu cv cy cz d fr dc x0 x1 x2 false x4 (w (x+1))=some r))else(if x=4 then(if x4=true then(dc.length+1<=68719476736/\(Zb5 m q cp dd cc cd cl cn co cu cv cy cz d false (dc++[co]) x0 x1 x2 x3 true (w (x+1))=some r))else(Zb5 m q cp dd cc cd cl cn co cu cv cy cz d fr dc x0 x1 x2 x3 false (w (x+1))=some r))else False)))))else(some (.own 1,[boxO m q cp dd cc cd cl cn co cu cv cy cz d,.arr 206 4 fr (dc.map Za.c)])=some r))):Zb5 m q cp dd cc cd cl cn co cu cv cy cz d fr dc x0 x1 x2 x3 x4 x=some r:=by
 unfold Zb5;rw[Zi Z4h.eq_1];by_cases q1:x<5
 .rw[if_pos q1]at h;by_cases q2:x=0
  .rw[if_pos q2]at h;subst q2;by_cases q3:x0=true
   .rw[if_pos q3]at h;obtain⟨q4,h⟩:=h;have rq4:=Zdz (b:=48) q4 (by omega);have sq4:=Zd0 q4
    try simp[*]at rq4
    try simp[*]at sq4
    refine Yb ?_ h;clear h;simp +decide[*,tI,tII,Zb5,Zgt]
   .rw[if_neg q3]at h;refine Yb ?_ h;clear h;simp +decide[*,tI,tII,Zb5,Zgt]
  .rw[if_neg q2]at h;replace q2:=eq_false q2;by_cases q5:x=1
   .rw[if_pos q5]at h;subst q5;by_cases q6:x1=true
    .rw[if_pos q6]at h;obtain⟨q7,h⟩:=h;have rq7:=Zdz (b:=48) q7 (by omega);have sq7:=Zd0 q7
     try simp[*]at rq7
     try simp[*]at sq7
     refine Yb ?_ h;clear h;simp +decide[*,tI,tII,Zb5,Zgt]
    .rw[if_neg q6]at h;refine Yb ?_ h;clear h;simp +decide[*,tI,tII,Zb5,Zgt]
   .rw[if_neg q5]at h;replace q5:=eq_false q5;by_cases q8:x=2
    .rw[if_pos q8]at h;subst q8;by_cases q9:x2=true
     .rw[if_pos q9]at h;obtain⟨q10,h⟩:=h;have rq10:=Zdz (b:=48) q10 (by omega);have sq10:=Zd0 q10
      try simp[*]at rq10
      try simp[*]at sq10
      refine Yb ?_ h;clear h;simp +decide[*,tI,tII,Zb5,Zgt]
     .rw[if_neg q9]at h;refine Yb ?_ h;clear h;simp +decide[*,tI,tII,Zb5,Zgt]
    .rw[if_neg q8]at h;replace q8:=eq_false q8;by_cases q11:x=3
     .rw[if_pos q11]at h;subst q11;by_cases q12:x3=true
      .rw[if_pos q12]at h;obtain⟨q13,h⟩:=h;have rq13:=Zdz (b:=48) q13 (by omega);have sq13:=Zd0 q13
       try simp[*]at rq13
       try simp[*]at sq13
       refine Yb ?_ h;clear h;simp +decide[*,tI,tII,Zb5,Zgt]
      .rw[if_neg q12]at h;refine Yb ?_ h;clear h;simp +decide[*,tI,tII,Zb5,Zgt]
     .rw[if_neg q11]at h;replace q11:=eq_false q11;by_cases q14:x=4
      .rw[if_pos q14]at h;subst q14;by_cases q15:x4=true
       .rw[if_pos q15]at h;obtain⟨q16,h⟩:=h;have rq16:=Zdz (b:=48) q16 (by omega);have sq16:=Zd0 q16
        try simp[*]at rq16
        try simp[*]at sq16
        refine Yb ?_ h;clear h;simp +decide[*,tI,tII,Zb5,Zgt]
       .rw[if_neg q15]at h;refine Yb ?_ h;clear h;simp +decide[*,tI,tII,Zb5,Zgt]
      .rw[if_neg q14]at h;replace q14:=eq_false q14;cases h
 .rw[if_neg q1]at h;refine Yb ?_ h;clear h;simp +decide[*,tI,tII,Z4i]
theorem Zub:((∀⦃m q fr cd dp co x cc x1 x2 r⦄,Im (Zjp m q fr cd dp co x cc x1 x2=some r) (if x2<x1 then(0<=x2/\(∃e1,x[x2.toNat]?=some e1/\((Znx e1=some (.t .nil,[])/\((Zf0 q e1=some (.t .nil,[])/\(Zsc m q fr cd dp co m q cc e1 (⟨0,0,0,(⟨[]⟩:Plan)⟩:Za) (⟨0,0,0,(⟨[]⟩:Plan)⟩:Za) (⟨0,0,0,(⟨[]⟩:Plan)⟩:Za) (⟨0,0,0,(⟨[]⟩:Plan)⟩:Za) (⟨0,0,0,(⟨[]⟩:Plan)⟩:Za) false false false false false x cc e1 x1 x2 0 0=some r))\/(∃(v15:List Int),Zf0 q e1=some (.own 0,[.arr 3 1 true (v15.map ic)])/\(Zhi m q fr cd dp co m q cc e1 (⟨0,0,0,(⟨[]⟩:Plan)⟩:Za) (⟨0,0,0,(⟨[]⟩:Plan)⟩:Za) (⟨0,0,0,(⟨[]⟩:Plan)⟩:Za) (⟨0,0,0,(⟨[]⟩:Plan)⟩:Za) (⟨0,0,0,(⟨[]⟩:Plan)⟩:Za) false false false false false x v15 cc e1 x1 x2 (v15.length:Int) 0=some r))))\/(∃(v30:List Int),Znx e1=some (.own 0,[.arr 3 1 true (v30.map ic)])/\(if(v30.length:Int)=1 then(∃e6,v30[0]?=some e6/\(∃(v59:List Zc),Zr8 e6=some (.agg [.own 0],[.arr 287 3 true (v59.map Zc.c)])/\(0<=e6/\(∃e8,q.Atoms[e6.toNat]?=some e8/\(∃e9,e8.Vars[0]?=some e9/\((∃v102 v103 v104 v105 v106 v107 v108 v109 v110 v111 v112 v113 v114 v115,Zc8 m q cc e1 (⟨0,0,0,(⟨[]⟩:Plan)⟩:Za) (⟨0,0,0,(⟨[]⟩:Plan)⟩:Za) (⟨0,0,0,(⟨[]⟩:Plan)⟩:Za) (⟨0,0,0,(⟨[]⟩:Plan)⟩:Za) (⟨0,0,0,(⟨[]⟩:Plan)⟩:Za) false false false false false v59 e9=some (.tup [],[boxO v102 v103 v104 v105 v106 v107 v108 v109 v110 v111 v112 v113 v114 v115,.dead])/\((Zf0 q e1=some (.t .nil,[])/\(Zsc m q fr cd dp co v102 v103 v104 v105 v106 v107 v108 v109 v110 v111 v112 v113 v114 v115 x cc e1 x1 x2 0 0=some r))\/(∃(v118:List Int),Zf0 q e1=some (.own 0,[.arr 3 1 true (v118.map ic)])/\(Zhi m q fr cd dp co v102 v103 v104 v105 v106 v107 v108 v109 v110 v111 v112 v113 v114 v115 x v118 cc e1 x1 x2 (v118.length:Int) 0=some r))))\/(∃v119,∃v120,∃v121,∃v122,∃v123,∃v124,∃v125,∃v126,∃v127,∃v128,∃v129,∃v130,∃v131,∃v132,∃(v133:List Zc),Zc8 m q cc e1 (⟨0,0,0,(⟨[]⟩:Plan)⟩:Za) (⟨0,0,0,(⟨[]⟩:Plan)⟩:Za) (⟨0,0,0,(⟨[]⟩:Plan)⟩:Za) (⟨0,0,0,(⟨[]⟩:Plan)⟩:Za) (⟨0,0,0,(⟨[]⟩:Plan)⟩:Za) false false false false false v59 e9=some (.tup [],[boxO v119 v120 v121 v122 v123 v124 v125 v126 v127 v128 v129 v130 v131 v132,.arr 287 3 true (v133.map Zc.c)])/\((Zf0 q e1=some (.t .nil,[])/\(Zsc m q fr cd dp co v119 v120 v121 v122 v123 v124 v125 v126 v127 v128 v129 v130 v131 v132 x cc e1 x1 x2 0 0=some r))\/(∃(v148:List Int),Zf0 q e1=some (.own 0,[.arr 3 1 true (v148.map ic)])/\(Zhi m q fr cd dp co v119 v120 v121 v122 v123 v124 v125 v126 v127 v128 v129 v130 v131 v132 x v148 cc e1 x1 x2 (v148.length:Int) 0=some r))))))))))else((Zf0 q e1=some (.t .nil,[])/\(Zsc m q fr cd dp co m q cc e1 (⟨0,0,0,(⟨[]⟩:Plan)⟩:Za) (⟨0,0,0,(⟨[]⟩:Plan)⟩:Za) (⟨0,0,0,(⟨[]⟩:Plan)⟩:Za) (⟨0,0,0,(⟨[]⟩:Plan)⟩:Za) (⟨0,0,0,(⟨[]⟩:Plan)⟩:Za) false false false false false x cc e1 x1 x2 0 0=some r))\/(∃(v164:List Int),Zf0 q e1=some (.own 0,[.arr 3 1 true (v164.map ic)])/\(Zhi m q fr cd dp co m q cc e1 (⟨0,0,0,(⟨[]⟩:Plan)⟩:Za) (⟨0,0,0,(⟨[]⟩:Plan)⟩:Za) (⟨0,0,0,(⟨[]⟩:Plan)⟩:Za) (⟨0,0,0,(⟨[]⟩:Plan)⟩:Za) (⟨0,0,0,(⟨[]⟩:Plan)⟩:Za) false false false false false x v164 cc e1 x1 x2 (v164.length:Int) 0=some r))))))))else(Zsd dp co (co.length:Int) 0=some r)))/\
 (∀⦃m q fr cd dp co dz l cc dv cp cu cv cy cz d dc dd dl dn x x1 cl cn x2 x3 x4 x5 r⦄,Im (Zhi m q fr cd dp co dz l cc dv cp cu cv cy cz d dc dd dl dn x x1 cl cn x2 x3 x4 x5=some r) (if x5<x4 then(0<=x5/\(∃e1,x1[x5.toNat]?=some e1/\(0<=e1/\(∃e2,cd[e1.toNat]?=some e2/\(0<=(Zhd cn e1)/\(∃e3,cd[(Zhd cn e1).toNat]?=some e3/\(∃(v15:Za),Zk6 e3=some (.agg (v15.c.map .t),[])/\(∃(v30:Za),Zk6 e2=some (.agg (v30.c.map .t),[])/\(∃(v44:List Zc),Zhh v30.Plan v15.Plan 3 0=some (.agg [.own 0],[.arr 287 3 true (v44.map Zc.c)])/\((∃v59 v60 v61 v62 v63 v64 v65 v66 v67 v68 v69 v70 v71 v72,Zc8 dz l cc dv cp cu cv cy cz d dc dd dl dn v44 (-1)=some (.tup [],[boxO v59 v60 v61 v62 v63 v64 v65 v66 v67 v68 v69 v70 v71 v72,.dead])/\(Zjq m q fr cd dp co v59 v60 v61 v62 v63 v64 v65 v66 v67 v68 v69 v70 v71 v72 v15.Plan x x1 cl cn e1 e2 e3 x2 x3 x4 x5 e2 (e2.length:Int) 0=some r))\/(∃v73,∃v74,∃v75,∃v76,∃v77,∃v78,∃v79,∃v80,∃v81,∃v82,∃v83,∃v84,∃v85,∃v86,∃(v87:List Zc),Zc8 dz l cc dv cp cu cv cy cz d dc dd dl dn v44 (-1)=some (.tup [],[boxO v73 v74 v75 v76 v77 v78 v79 v80 v81 v82 v83 v84 v85 v86,.arr 287 3 true (v87.map Zc.c)])/\(Zjq m q fr cd dp co v73 v74 v75 v76 v77 v78 v79 v80 v81 v82 v83 v84 v85 v86 v15.Plan x x1 cl cn e1 e2 e3 x2 x3 x4 x5 e2 (e2.length:Int) 0=some r))))))))))))else(∃v88,∃(v89:List Za),Zsb dz l cc dv cp cu cv cy cz d dc dd dl dn=some (.own 1,[boxO dz l cc dv cp cu cv cy cz d dc dd dl dn,.arr 206 4 v88 (v89.map Za.c)])/\(0<=cn/\(∃e10,cd[cn.toNat]?=some e10/\(co.length+v89.length<=68719476736/\(Zjp m q (fr && v88) (cd.set cn.toNat v89) (dp && flat (v89.map Za.c)) (co++v89) x cl x2 (w (x3+1))=some r))))))))/\
 ((∀⦃fr co x x1 r⦄,Im (Zsd fr co x x1=some r) (if x1<x then(0<=x1/\(∃e1,co[x1.toNat]?=some e1/\(∃(v:List Zc),Zh8 e1.Plan=some (.agg [.own 0],[.arr 287 3 true (v.map Zc.c)])/\(Zsd fr (co.set x1.toNat (⟨e1.Mask,e1.Order,e1.Cost,(⟨v⟩:Plan)⟩:Za)) x (w (x1+1))=some r))))else(some (.own 0,[.arr 206 4 fr (co.map Za.c)])=some r)))/\
 ((∀⦃m q fr cd dp co dz l cc dv cp cu cv cy cz d dc dd dl dn y x x1 cl cn x2 dy du x3 x4 x5 x6 x7 x8 x9 r⦄,Im (Zjq m q fr cd dp co dz l cc dv cp cu cv cy cz d dc dd dl dn y x x1 cl cn x2 dy du x3 x4 x5 x6 x7 x8 x9=some r) (if x9<x8 then(0<=x9/\(∃e1,x7[x9.toNat]?=some e1/\(∃(v:List Zc),Zhh e1.Plan y 5 0=some (.agg [.own 0],[.arr 287 3 true (v.map Zc.c)])/\((∃v1 v2 v3 v4 v5 v6 v7 v8 v9 v10 v11 v12 v13 v14,Zc8 dz l cc dv cp cu cv cy cz d dc dd dl dn v e1.Order=some (.tup [],[boxO v1 v2 v3 v4 v5 v6 v7 v8 v9 v10 v11 v12 v13 v14,.dead])/\(Zjq m q fr cd dp co v1 v2 v3 v4 v5 v6 v7 v8 v9 v10 v11 v12 v13 v14 y x x1 cl cn x2 dy du x3 x4 x5 x6 x7 x8 (w (x9+1))=some r))\/(∃v15,∃v16,∃v17,∃v18,∃v19,∃v20,∃v21,∃v22,∃v23,∃v24,∃v25,∃v26,∃v27,∃v28,∃(v29:List Zc),Zc8 dz l cc dv cp cu cv cy cz d dc dd dl dn v e1.Order=some (.tup [],[boxO v15 v16 v17 v18 v19 v20 v21 v22 v23 v24 v25 v26 v27 v28,.arr 287 3 true (v29.map Zc.c)])/\(Zjq m q fr cd dp co v15 v16 v17 v18 v19 v20 v21 v22 v23 v24 v25 v26 v27 v28 y x x1 cl cn x2 dy du x3 x4 x5 x6 x7 x8 (w (x9+1))=some r))))))else(∃(v30:List Int),Zk7 q x2 (Zhd cn x2)=some (.own 0,[.arr 3 1 true (v30.map ic)])/\(Zfk m q fr cd dp co dz l cc dv cp cu cv cy cz d dc dd dl dn x x1 v30 cl cn dy du x3 x4 x5 x6 (v30.length:Int) 0=some r))))/\
 (∀⦃m q fr cd dp co dz l cc dv cp cu cv cy cz d dc dd dl dn x x1 x2 cl cn dy du x3 x4 x5 x6 x7 x8 r⦄,Im (Zfk m q fr cd dp co dz l cc dv cp cu cv cy cz d dc dd dl dn x x1 x2 cl cn dy du x3 x4 x5 x6 x7 x8=some r) (if x8<x7 then(0<=x8/\(∃e1,x2[x8.toNat]?=some e1/\((∃(v:Plan),Zf1 m q cl dy e1=some (.agg (v.c.map .t),[])/\((∃(v1:Plan),Zf1 m q cl du e1=some (.agg (v1.c.map .t),[])/\(∃(v15:List Zc),Zhh v v1 4 e1=some (.agg [.own 0],[.arr 287 3 true (v15.map Zc.c)])/\((∃v30 v31 v32 v33 v34 v35 v36 v37 v38 v39 v40 v41 v42 v43,Zc8 dz l cc dv cp cu cv cy cz d dc dd dl dn v15 e1=some (.tup [],[boxO v30 v31 v32 v33 v34 v35 v36 v37 v38 v39 v40 v41 v42 v43,.dead])/\(Zfk m q fr cd dp co v30 v31 v32 v33 v34 v35 v36 v37 v38 v39 v40 v41 v42 v43 x x1 x2 cl cn dy du x3 x4 x5 x6 x7 (w (x8+1))=some r))\/(∃v44,∃v45,∃v46,∃v47,∃v48,∃v49,∃v50,∃v51,∃v52,∃v53,∃v54,∃v55,∃v56,∃v57,∃(v58:List Zc),Zc8 dz l cc dv cp cu cv cy cz d dc dd dl dn v15 e1=some (.tup [],[boxO v44 v45 v46 v47 v48 v49 v50 v51 v52 v53 v54 v55 v56 v57,.arr 287 3 true (v58.map Zc.c)])/\(Zfk m q fr cd dp co v44 v45 v46 v47 v48 v49 v50 v51 v52 v53 v54 v55 v56 v57 x x1 x2 cl cn dy du x3 x4 x5 x6 x7 (w (x8+1))=some r)))))\/(∃(v59:List Zc),Zf1 m q cl du e1=some (.agg [.own 0],[.arr 287 3 true (v59.map Zc.c)])/\(∃(v73:List Zc),Zhh v (⟨v59⟩:Plan) 4 e1=some (.agg [.own 0],[.arr 287 3 true (v73.map Zc.c)])/\((∃v88 v89 v90 v91 v92 v93 v94 v95 v96 v97 v98 v99 v100 v101,Zc8 dz l cc dv cp cu cv cy cz d dc dd dl dn v73 e1=some (.tup [],[boxO v88 v89 v90 v91 v92 v93 v94 v95 v96 v97 v98 v99 v100 v101,.dead])/\(Zfk m q fr cd dp co v88 v89 v90 v91 v92 v93 v94 v95 v96 v97 v98 v99 v100 v101 x x1 x2 cl cn dy du x3 x4 x5 x6 x7 (w (x8+1))=some r))\/(∃v102,∃v103,∃v104,∃v105,∃v106,∃v107,∃v108,∃v109,∃v110,∃v111,∃v112,∃v113,∃v114,∃v115,∃(v116:List Zc),Zc8 dz l cc dv cp cu cv cy cz d dc dd dl dn v73 e1=some (.tup [],[boxO v102 v103 v104 v105 v106 v107 v108 v109 v110 v111 v112 v113 v114 v115,.arr 287 3 true (v116.map Zc.c)])/\(Zfk m q fr cd dp co v102 v103 v104 v105 v106 v107 v108 v109 v110 v111 v112 v113 v114 v115 x x1 x2 cl cn dy du x3 x4 x5 x6 x7 (w (x8+1))=some r)))))))\/(∃(v117:List Zc),Zf1 m q cl dy e1=some (.agg [.own 0],[.arr 287 3 true (v117.map Zc.c)])/\((∃(v118:Plan),Zf1 m q cl du e1=some (.agg (v118.c.map .t),[])/\(∃(v119:List Zc),Zhh (⟨v117⟩:Plan) v118 4 e1=some (.agg [.own 0],[.arr 287 3 true (v119.map Zc.c)])/\((∃v134 v135 v136 v137 v138 v139 v140 v141 v142 v143 v144 v145 v146 v147,Zc8 dz l cc dv cp cu cv cy cz d dc dd dl dn v119 e1=some (.tup [],[boxO v134 v135 v136 v137 v138 v139 v140 v141 v142 v143 v144 v145 v146 v147,.dead])/\(Zfk m q fr cd dp co v134 v135 v136 v137 v138 v139 v140 v141 v142 v143 v144 v145 v146 v147 x x1 x2 cl cn dy du x3 x4 x5 x6 x7 (w (x8+1))=some r))\/(∃v148,∃v149,∃v150,∃v151,∃v152,∃v153,∃v154,∃v155,∃v156,∃v157,∃v158,∃v159,∃v160,∃v161,∃(v162:List Zc),Zc8 dz l cc dv cp cu cv cy cz d dc dd dl dn v119 e1=some (.tup [],[boxO v148 v149 v150 v151 v152 v153 v154 v155 v156 v157 v158 v159 v160 v161,.arr 287 3 true (v162.map Zc.c)])/\(Zfk m q fr cd dp co v148 v149 v150 v151 v152 v153 v154 v155 v156 v157 v158 v159 v160 v161 x x1 x2 cl cn dy du x3 x4 x5 x6 x7 (w (x8+1))=some r)))))\/(∃(v163:List Zc),Zf1 m q cl du e1=some (.agg [.own 0],[.arr 287 3 true (v163.map Zc.c)])/\(∃(v164:List Zc),Zhh (⟨v117⟩:Plan) (⟨v163⟩:Plan) 4 e1=some (.agg [.own 0],[.arr 287 3 true (v164.map Zc.c)])/\((∃v165 v166 v167 v168 v169 v170 v171 v172 v173 v174 v175 v176 v177 v178,Zc8 dz l cc dv cp cu cv cy cz d dc dd dl dn v164 e1=some (.tup [],[boxO v165 v166 v167 v168 v169 v170 v171 v172 v173 v174 v175 v176 v177 v178,.dead])/\(Zfk m q fr cd dp co v165 v166 v167 v168 v169 v170 v171 v172 v173 v174 v175 v176 v177 v178 x x1 x2 cl cn dy du x3 x4 x5 x6 x7 (w (x8+1))=some r))\/(∃v179,∃v180,∃v181,∃v182,∃v183,∃v184,∃v185,∃v186,∃v187,∃v188,∃v189,∃v190,∃v191,∃v192,∃(v193:List Zc),Zc8 dz l cc dv cp cu cv cy cz d dc dd dl dn v164 e1=some (.tup [],[boxO v179 v180 v181 v182 v183 v184 v185 v186 v187 v188 v189 v190 v191 v192,.arr 287 3 true (v193.map Zc.c)])/\(Zfk m q fr cd dp co v179 v180 v181 v182 v183 v184 v185 v186 v187 v188 v189 v190 v191 v192 x x1 x2 cl cn dy du x3 x4 x5 x6 x7 (w (x8+1))=some r))))))))))else(Zhi m q fr cd dp co dz l cc dv cp cu cv cy cz d dc dd dl dn x x1 cl cn x3 x4 x5 (w (x6+1))=some r))))):=by
 and_intros
 all_goals intros
 all_goals unfold Im
 all_goals try simp only[Zjp,Zhi,Zsd,Zjq,Zfk,Znx,Zf0,Zr8,Zc8,Zb.c_def,Zq.c_def,Plan.c_def,Za.c_def,Zc.c_def,Ze.c_def,boxO_def,Zk6,Zhh,Zsb,Zh8,Zk7,Zf1,Zsc,mpl,dfs]
 all_goals try simp only[itb]
 all_goals try simp only[itf,gS,kk]
 all_goals repeat' first|refine exI λ_=>?_|refine anJ λ_ _=>?_|refine anI λ_=>?_|refine orE2 ?_ ?_|exact False.elim
 all_goals (intro h;first|rw[Zi Zk8.eq_1]|rw[Zi Zn1.eq_1]|rw[Zi Z4o.eq_1]|rw[Zi Z4l.eq_1]|rw[Zi Z4m.eq_1])
 all_goals (refine Yb ?_ h;clear h;simp +decide[*,kk,tI,tII,Zbfg,Zk9,Zn3,Zn2,Z4p,Z4n,Zw0])
abbrev Zbj9:=Zub.1.1
abbrev Zbka:=Zub.1.2
abbrev Zbkb:=Zub.2.1
abbrev Zbkc:=Zub.2.2.1
abbrev Zbkd:=Zub.2.2.2
theorem Zb4i{a:Zb}{a1:Ze}{a2:List Int}{r:AV×List Blk}(h:(∃(v:Bool),Zh3 a=some (Bo v,[])/\(if v=true then(∃(v1:Bool),Zk4 a1 a2=some (Bo v1,[])/\(if v1=true then(∃(v2:Int),Zer a1=some (I v2,[])/\(0<=(w (v2+1))/\((w (v2+1))<=(w (v2+1))/\((w (v2+1)).toNat*24<=room/\((w (v2+1))<=140737488355328/\(∃(v3:List Int),Zr7 a1=some (.own 0,[.arr 3 1 true (v3.map ic)])/\(Zjp a a1 true (List.replicate ((w (v2+1))).toNat ([])) true ([]:List Za) v3 a2 (v3.length:Int) 0=some r)))))))else(some (.t .nil,[])=some r)))else(some (.t .nil,[])=some r)))):Zn4 a a1 a2=some r:=by
 unfold Zn4;refine run Zbzl rfl ?_;obtain⟨v,q1,h⟩:=h;unfold Zh3 at q1
 try simp at q1
 by_cases q2:v=true
 .rw[if_pos q2]at h;obtain⟨v1,q3,h⟩:=h;unfold Zk4 at q3
  try simp at q3
  by_cases q4:v1=true
  .rw[if_pos q4]at h;obtain⟨v2,q5,h⟩:=h;unfold Zer at q5
   try simp at q5
   obtain⟨q6,h⟩:=h;obtain⟨q7,h⟩:=h;obtain⟨q8,h⟩:=h;have zq8:=q8;try simp at zq8
   obtain⟨q9,h⟩:=h;obtain⟨v3,q10,h⟩:=h;unfold Zr7 at q10
   try simp at q10
   refine Yb ?_ h;clear h;simp +decide[*,Zw1,tI,tII,Zjp]
  .rw[if_neg q4]at h;refine Yb ?_ h;clear h;simp +decide[*,Zw1,tI,tII]
 .rw[if_neg q2]at h;refine Yb ?_ h;clear h;simp +decide[*,Zw1,tI,tII]
theorem Zdk:((((∀⦃cl cc cd cn fr x x1 x2 r⦄,Im (Zn5 cl cc cd cn fr x x1 x2=some r) (if x2<x1 then(0<=x2/\(∃e1,x[x2.toNat]?=some e1/\(if e1.Cost<cn.Cost then(Zn5 cl cc cd e1 fr x x1 (w (x2+1))=some r)else(Zn5 cl cc cd cn fr x x1 (w (x2+1))=some r))))else(some (.agg (cn.c.map .t),[.arr 206 4 fr (x.map Za.c)])=some r)))/\
 (∀⦃fr x r⦄,Im (Zw2 fr x=some r) (∃e1,x[0]?=some e1/\(Zn5 0 0 0 e1 fr x (x.length:Int) 0=some r))))/\
 ((∀⦃cl cc cd fr x co x1 x2 x3 r⦄,Im (Zn6 cl cc cd fr x co x1 x2 x3=some r) (if x3<x2 then(0<=x3/\(∃e1,x1[x3.toNat]?=some e1/\(if e1.Mask=co then(x.length+1<=68719476736/\(Zn6 cl cc cd false (x++[e1]) co x1 x2 (w (x3+1))=some r))else(Zn6 cl cc cd fr x co x1 x2 (w (x3+1))=some r))))else(if(x.length:Int)=0 then(some (.tup [.agg [I 0,I 0,I 0,.t .nil],Bo false],[])=some r)else(∃(v3:Za),Zw2 fr x=some (.agg (v3.c.map .t),[.arr 206 4 fr (x.map Za.c)])/\(∃(v7:List Zc),Zh8 v3.Plan=some (.agg [.own 0],[.arr 287 3 true (v7.map Zc.c)])/\(some (.tup [.agg [I v3.Mask,I v3.Order,I v3.Cost,.own 0],Bo true],[.arr 287 3 true (v7.map Zc.c)])=some r))))))/\
 (∀⦃a a1 r⦄,Im (Zse a a1=some r) (Zn6 0 0 0 true ([]:List Za) a1 a (a.length:Int) 0=some r))))/\
 (((∀⦃a a1 a2 r⦄,Im (Zsf a a1 a2=some r) ((Zn4 a a1 a2=some (.t .nil,[])/\(∃v3,Zer a1=some (I v3,[])/\((∃v7 v8 v9,Z4q v3=some (.tup [.agg [I v7,I v8,I v9,.t .nil],Bo false],[])/\(some (.tup [.agg [I v7,I v8,I v9,.t .nil],Bo false],[])=some r))\/(∃(v10:List Zc),∃v11,∃v12,∃v13,Z4q v3=some (.tup [.agg [I v11,I v12,I v13,.own 0],Bo true],[.arr 287 3 true (v10.map Zc.c)])/\(some (.tup [.agg [I v11,I v12,I v13,.own 0],Bo true],[.arr 287 3 true (v10.map Zc.c)])=some r)))))\/(∃v14,∃(v15:List Za),Zn4 a a1 a2=some (.own 0,[.arr 206 4 v14 (v15.map Za.c)])/\(∃v16,Zer a1=some (I v16,[])/\((∃v17 v18 v19,Zse v15 v16=some (.tup [.agg [I v17,I v18,I v19,.t .nil],Bo false],[])/\(some (.tup [.agg [I v17,I v18,I v19,.t .nil],Bo false],[])=some r))\/(∃(v20:List Zc),∃v21,∃v22,∃v23,Zse v15 v16=some (.tup [.agg [I v21,I v22,I v23,.own 0],Bo true],[.arr 287 3 true (v20.map Zc.c)])/\(some (.tup [.agg [I v21,I v22,I v23,.own 0],Bo true],[.arr 287 3 true (v20.map Zc.c)])=some r)))))))/\
 (∀⦃a a1 a2 r⦄,Im (Zw3 a a1 a2=some r) ((∃v v1 v2,Zsf a a1 a2=some (.tup [.agg [I v,I v1,I v2,.t .nil],Bo false],[])/\(some (I (-1),[])=some r))\/(∃(v3:List Zc),∃v4,∃v5,∃v6,Zsf a a1 a2=some (.tup [.agg [I v4,I v5,I v6,.own 0],Bo true],[.arr 287 3 true (v3.map Zc.c)])/\(some (I v6,[])=some r)))))/\
 ((∀⦃a a1 a2 r⦄,Im (Zw4 a a1 a2=some r) ((∃(v:List Int),Zh5 a2=some (.own 0,[.arr 3 1 true (v.map ic)])/\(∃v3,Zw3 a a1 v=some (I v3,[])/\(some (I v3,[])=some r)))\/(Zh5 a2=some (.t .nil,[])/\(∃v10,Zbfl a a1=some (I v10,[])/\(some (I v10,[])=some r)))))/\
 ((∀⦃a a1 a2 r⦄,Im (Zw5 a a1 a2=some r) (∃v,Zr6 a a1 a2.Plan a2.Box.High=some (I v,[])/\(∃v3,Zw4 a a1 a2.Box.Low=some (I v3,[])/\(some (Bo (decide ((w (100*v))<=(w (a2.Percent*v3)))),[])=some r))))/\
 (∀⦃a a1 a2 r⦄,Im (Zw6 a a1 a2=some r) (∃v,Zrz a a1 a2=some (Bo v,[])/\(if v=true then(∃v3,Zw5 a a1 a2=some (Bo v3,[])/\(some (Bo v3,[])=some r))else(some (Bo false,[])=some r))))))))/\
 ((((∀⦃a a1 r⦄,Im (Z4t a a1=some r) (some (Bo (decide (a.Used=a1.Used)),[])=some r))/\
 (∀⦃s f x x1 r⦄,Im (Zsg s f x x1=some r) (if x1<x then(0<=x1/\(∃e1,s[x1.toNat]?=some e1/\(∃v3,Z4t e1 f=some (Bo v3,[])/\(if v3=true then(some (I x1,[])=some r)else(Zsg s f x (w (x1+1))=some r)))))else(some (I (-1),[])=some r))))/\
 ((∀⦃a a1 r⦄,Im (Z4w a a1=some r) (Zsg a a1 (a.length:Int) 0=some r))/\
 (∀⦃a a1 r⦄,Im (Zw7 a a1=some r) (∃v,Z4w a a1=some (I v,[])/\(some (Bo (decide (0<=v)),[])=some r)))))/\
 (((∀⦃m c x x1 x2 r⦄,Im (Zsh m c x x1 x2=some r) (if x2<x1 then(0<=x2/\(∃e1,x[x2.toNat]?=some e1/\(∃v3,Zba e1.Version 1 999=some (Bo v3,[])/\(if v3=true then(∃v7,Zba e1.Used 1 c.Clock=some (Bo v7,[])/\(if v7=true then(∃v10,Zw6 m e1.Ze e1.Region=some (Bo v10,[])/\(if v10=true then(x2.toNat<=c.Entries.length/\(∃v14,Zw7 (c.Entries.take x2.toNat) e1=some (Bo v14,[])/\(if v14=true then(some (Bo false,[])=some r)else(Zsh m c x x1 (w (x2+1))=some r))))else(some (Bo false,[])=some r)))else(some (Bo false,[])=some r)))else(some (Bo false,[])=some r)))))else(some (Bo true,[])=some r)))/\
 (∀⦃a a1 r⦄,Im (Zw8 a a1=some r) (∃v,Zba a1.Clock 0 1000000=some (Bo v,[])/\(if v=true then(if 4<(a1.Entries.length:Int)then(some (Bo false,[])=some r)else(Zsh a a1 a1.Entries (a1.Entries.length:Int) 0=some r))else(some (Bo false,[])=some r)))))/\
 ((∀⦃a r⦄,Im (Zw9 a=some r) (∃v,Zba a.Ratio 2 8=some (Bo v,[])/\(if v=true then(∃v3,Zba a.Slack 0 100=some (Bo v3,[])/\(if v3=true then(∃v7,Zba a.Queries 0 1000000=some (Bo v7,[])/\(if v7=true then(∃v10,Zba a.Spent 0 1000000000000=some (Bo v10,[])/\(if v10=true then(∃v14,Zrp a.Z3=some (Bo v14,[])/\(if v14=true then(∃v16,Zh3 a.Zb=some (Bo v16,[])/\(if v16=true then(∃v17,Zw8 a.Zb a.Cache=some (Bo v17,[])/\(some (Bo v17,[])=some r))else(some (Bo false,[])=some r)))else(some (Bo false,[])=some r)))else(some (Bo false,[])=some r)))else(some (Bo false,[])=some r)))else(some (Bo false,[])=some r)))else(some (Bo false,[])=some r))))/\
 ((∀⦃a r⦄,Im (Zia a=some r) (if(a.size:Int)=1 then(∃b1,a[0]?=some b1/\(if 97<=(b1.toNat:Int)then(some (Bo (decide ((b1.toNat:Int)<=122)),[])=some r)else(some (Bo false,[])=some r)))else(some (Bo false,[])=some r)))/\
 (∀⦃a a1 a2 r⦄,Im (Zbb a a1 a2=some r) (if a1<=a then(some (Bo (decide (a<=a2)),[])=some r)else(some (Bo false,[])=some r))))))):=by
 and_intros
 all_goals intros
 all_goals unfold Im
 all_goals try simp only[Zn5,Zw2,Zn6,Zse,Zsf,Zw3,Zw4,Zw5,Zw6,Z4t,Zsg,Z4w,Zw7,Zsh,Zw8,Zw9,Zia,Zbb,Zh8,Plan.c_def,Za.c_def,Zn4,Zer,Z4q,Zb.c_def,Zq.c_def,Ze.c_def,Zh5,Zbfl,Zr6,Zrz,Box.c_def,Region.c_def,Zp.c_def,Zba,Zrp,Zh3,Zv.c_def,Zm.c_def,Zbn.c_def,Z3.c_def,mpl,dfs]
 all_goals try simp only[itb]
 all_goals try simp only[itf,gS,kk]
 all_goals repeat' first|refine exI λ_=>?_|refine anJ λ_ _=>?_|refine anI λ_=>?_|refine orE2 ?_ ?_|exact False.elim
 all_goals (intro h;first|rw[Zi Zr9.eq_1]|refine runM Zbig rfl ?_|rw[Zi Z4r.eq_1]|refine run Zbzm rfl ?_|refine run Zbzn rfl ?_|refine run Zbzo rfl ?_|refine run Zbzp rfl ?_|refine run Zbzq rfl ?_|refine run Zbzr rfl ?_|refine run Zbzs rfl ?_|rw[Zi Z4u.eq_1]|refine run Zbzt rfl ?_|refine run Zbzu rfl ?_|rw[Zi Z4x.eq_1]|refine run Zbzv rfl ?_|refine run Zbzw rfl ?_|refine run Zbzx rfl ?_|refine run Zbzy rfl ?_)
 all_goals (refine Yb ?_ h;clear h;simp +decide[*,kk,tI,tII,Z4f,Zsa,Z4g,Zbfh,Z4s,Zbfi,Zbfj,Zbfk,Zbfm,Zbfn,Zbfo,Zbfp,Z4v,Zbfq,Zbfr,Z4y,Zbfs,Zbft,Zbfu,Zbfv])
abbrev Zbke:=Zdk.1.1.1.1
abbrev Zb4j:=Zdk.1.1.1.2
abbrev Zbkf:=Zdk.1.1.2.1
abbrev Zb4k:=Zdk.1.1.2.2
abbrev Zb4l:=Zdk.1.2.1.1
abbrev Zb4m:=Zdk.1.2.1.2
abbrev Zb4n:=Zdk.1.2.2.1
abbrev Zb4o:=Zdk.1.2.2.2.1
abbrev Zb4p:=Zdk.1.2.2.2.2
abbrev Zb4q:=Zdk.2.1.1.1
abbrev Zbkg:=Zdk.2.1.1.2
abbrev Zb4r:=Zdk.2.1.2.1
abbrev Zb4s:=Zdk.2.1.2.2
abbrev Zbkh:=Zdk.2.2.1.1
abbrev Zb4t:=Zdk.2.2.1.2
abbrev Zb4u:=Zdk.2.2.2.1
abbrev Zb4v:=Zdk.2.2.2.2.1
abbrev Zb4w:=Zdk.2.2.2.2.2
theorem Zgw:(((∀⦃cc n i r⦄,Im (Zsi cc n i=some r) (if i<(cc.length:Int)then(0<=i/\(∃e1,cc[i.toNat]?=some e1/\(∃v2,Zbb e1 0 9=some (Bo v2,[])/\(if v2=true then(Zsi cc n (w (i+1))=some r)else(some (Bo false,[])=some r)))))else(some (Bo (decide ((cc.length:Int)=n)),[])=some r)))/\
 (∀⦃a a1 r⦄,Im (Zxa a a1=some r) (Zsi a a1 0=some r)))/\
 ((∀⦃a b i r⦄,Im (Zsj a b i=some r) (if i<(a.length:Int)then(if i<(b.length:Int)then(0<=i/\(∃e1,a[i.toNat]?=some e1/\(∃e2,b[i.toNat]?=some e2/\(if e1<e2 then(some (I (-1),[])=some r)else(if e2<e1 then(some (I 1,[])=some r)else(Zsj a b (w (i+1))=some r))))))else(Zsk a b i false=some r))else(Zsk a b i false=some r)))/\
 ((∀⦃a b i x r⦄,Im (Zsk a b i x=some r) (if(a.length:Int)<(b.length:Int)then(some (I (-1),[])=some r)else(if(b.length:Int)<(a.length:Int)then(some (I 1,[])=some r)else(some (I 0,[])=some r))))/\
 (∀⦃a a1 r⦄,Im (Ze2 a a1=some r) (Zsj a a1 0=some r)))))/\
 (((∀⦃t i r⦄,Im (Zn7 t i=some r) (if i<(t.Rows.length:Int)then(0<=i/\(∃e1,t.Rows[i.toNat]?=some e1/\(∃v2,Zxa e1 t.Arity=some (Bo v2,[])/\(if v2=true then(if 0<i then(0<=(w (i-1))/\(∃e3,t.Rows[(w (i-1)).toNat]?=some e3/\(∃v3,Ze2 e3 e1=some (I v3,[])/\(if 0<=v3 then(some (Bo false,[])=some r)else(Zn7 t (w (i+1))=some r)))))else(Zn7 t (w (i+1))=some r))else(some (Bo false,[])=some r)))))else(some (Bo true,[])=some r)))/\
 ((∀⦃a r⦄,Im (Zla a=some r) (∃v1,Zia a.Name=some (Bo v1,[])/\(if v1=true then(∃v2,Zbb a.Arity 1 3=some (Bo v2,[])/\(if v2=true then(if 8<(a.Rows.length:Int)then(some (Bo false,[])=some r)else(Zn7 a 0=some r))else(some (Bo false,[])=some r)))else(some (Bo false,[])=some r))))/\
 (∀⦃d i r⦄,Im (Zn8 d i=some r) (if i<(d.Tables.length:Int)then(0<=i/\(∃e1,d.Tables[i.toNat]?=some e1/\(∃v2,Zla e1=some (Bo v2,[])/\(if v2=true then(if 0<i then(0<=(w (i-1))/\(∃e3,d.Tables[(w (i-1)).toNat]?=some e3/\(if(Op.bytesLess e3.Name.toList e1.Name.toList)=true then(Zn8 d (w (i+1))=some r)else(some (Bo false,[])=some r))))else(Zn8 d (w (i+1))=some r))else(some (Bo false,[])=some r)))))else(some (Bo (decide ((d.Tables.length:Int)<=6)),[])=some r)))))/\
 ((∀⦃a r⦄,Im (Zlb a=some r) (Zn8 a 0=some r))/\
 ((∀⦃c m v r⦄,Im (Zn9 c m v=some r) (if v<3 then(¬v<0/\(if(andI (shrI m v) 1)=1 then(c.length+1<=68719476736/\(Zn9 (c++[v]) m (w (v+1))=some r))else(Zn9 c m (w (v+1))=some r)))else(some (.own 0,[.arr 3 1 true (c.map ic)])=some r)))/\
 (∀⦃a r⦄,Im (Zfl a=some r) (Zn9 ([]:List Int) a 0=some r))))):=by
 and_intros
 all_goals intros
 all_goals unfold Im
 all_goals try simp only[Zsi,Zxa,Zsj,Ze2,Zn7,Zla,Zn8,Zlb,Zn9,Zfl,Zbb,Zia,Zh.c_def,Zsk,mpl,dfs]
 all_goals try simp only[itb]
 all_goals try simp only[itf,gS,kk]
 all_goals repeat' first|refine exI λ_=>?_|refine anJ λ_ _=>?_|refine anI λ_=>?_|refine orE2 ?_ ?_|exact False.elim
 all_goals (intro h;first|rw[Zi Z4z.eq_1]|refine run Zbzz rfl ?_|rw[Zi Z41.eq_1]|rw[Ev_eq Zxb.eq_1]|refine run Zbz0 rfl ?_|rw[Zi Zsl.eq_1]|refine run Zbih rfl ?_|rw[Zi Z43.eq_1]|refine run Zbz1 rfl ?_|rw[Zi Z45.eq_1]|refine run Zbz2 rfl ?_)
 all_goals (refine Yb ?_ h;clear h;simp +decide[*,kk,tI,tII,Z40,Zbfw,Zbfx,Zsm,Z42,Z44,Zbfy,Zbfz,Z46,Zbf0])
abbrev Zbki:=Zgw.1.1.1
abbrev Zb4x:=Zgw.1.1.2
abbrev Zbkj:=Zgw.1.2.1
abbrev Zb4y:=Zgw.1.2.2.1
abbrev Zb4z:=Zgw.1.2.2.2
abbrev Zbkk:=Zgw.2.1.1
abbrev Zb40:=Zgw.2.1.2.1
abbrev Zbkl:=Zgw.2.1.2.2
abbrev Zb41:=Zgw.2.2.1
abbrev Zlx:=Zgw.2.2.2.1
abbrev Zb42:=Zgw.2.2.2.2
end Go.Proofs.YtdioodopdlpinaaGreat
