/-
  Parts of the proofs for this seat: FA MP MQ MR NC L46 SE1 CPL.
-/
import Derived.Lib.SlicesCompact
import Derived.Test.YtooakifnnhhnhaaGreatP7
import Derived.Test.YtooakifnnhhnhaaGreatP12
import Derived.Test.YtooakifnnhhnhaaGreatP13
set_option linter.unusedSimpArgs false
set_option linter.unusedVariables false
set_option maxRecDepth 100000
set_option maxHeartbeats 4000000
namespace Go.Proofs.YtooakifnnhhnhaaGreat
open Go.AM
theorem l_toIntS(xs:List Int)(h:SmA xs)(fr:List Fr):∀i,i<=xs.length->EvL C fr [0,3,4] Zs8 ⟨[(0,L 1 (xs.map ic)),(3,.own 0),(4,I i)],[[]],[.arr Zcl 1 true (fill ic [.int .i64 0] xs i)]⟩ =
  EvX C fr (.x 0) ⟨[(0,L 1 (xs.map ic)),(3,.own 0),(4,I xs.length),(11,Bo false)],[[]],[.arr Zcl 1 true (xs.map ic)]⟩:=by
 have hl:xs.length<=4294967296:=h;refine down xs.length ?_ ?_
 .rw[Zi Zs8.eq_1];simp[Zgn]
 .intro i hi ih;rw[Zi Zs8.eq_1,<-ih];have h1:=Zgp (f:=ic) (z:=[.int .i64 0]) hi;have h3:=Zgo (f:=ic) (z:=[.int .i64 0]) (Ybw hi);have h4:IntKind.wrap .i64 ((i:Int)+1)=(i:Int)+1:=Zt (by omega) (by omega);simp at h1;simp[hi,h3,h4,h1]
theorem Zth(xs:List Int)(h:SmA xs):C Zbit [L 1 (xs.map ic)] []=some (.own 0,[.arr Zcl 1 true (xs.map ic)]):=by
 refine run Zbtm rfl ?_;have hl:xs.length<=4294967296:=h;have h1:∀b,b<=4096->xs.length*b<=room:=λb hb=>Yr (Ybv hl hb) (by decide)
 have h2:(xs.length:Int)<=140737488355328:=by omega
 have h3:=λfr=>l_toIntS xs h fr 0 (Yb _)
 simp[Zgm]at h3;simp[Zbd6,h1,h2,h3]
theorem l_eqIntS(xs ys:List Int)(h:SmA xs)(hl:ys.length=xs.length)(fr:List Fr):∀i,i<=xs.length->EvL C fr [0,1,5] Zs9 ⟨[(0,L 1 (xs.map ic)),(1,L 1 (ys.map ic)),(5,I i)],[[]],[]⟩ =
  if xs.drop i=ys.drop i then EvX C fr (.x 0) ⟨[(0,L 1 (xs.map ic)),(1,L 1 (ys.map ic)),(5,I xs.length),(14,Bo false)],[[]],[]⟩else EvX C fr .r ⟨[(4,Bo false)],[[]],[]⟩:=by
 have hm:xs.length<=4294967296:=h;refine down xs.length ?_ ?_
 .rw[Zi Zs9.eq_1];simp[hl,Ybg]
 .intro i hi ih;have hi2:i<ys.length:=by omega
  have h4:IntKind.wrap .i64 ((i:Int)+1)=(i:Int)+1:=Zt (by omega) (by omega);rw[Zi Zs9.eq_1];simp +decide[hi,hi2,h4];simp at ih;simp only[Zgq hi hi2,ih];split<;>first|(simp_all;done)|grind
theorem Zti(xs ys:List Int)(h:SmA xs):C Zbix [L 1 (xs.map ic),L 1 (ys.map ic)] []=some (Bo (decide (xs=ys)),[]):=by
 refine run Zbtq rfl ?_;by_cases hl:ys.length=xs.length
 .have h3:=λfr=>l_eqIntS xs ys h hl fr 0 (Yb _)
  simp at h3;simp[Zzu,h3,hl];split<;>simp_all
 .have h1:xs≠ys:=λh=>hl (by rw[h])
  have h2:¬((xs.length:Int)=ys.length):=by omega
  simp[Zzu,h1,h2]
@[simp] theorem Zz2(es:List (List T))(c:Int):C Zbiq [L 1 es,I c] []=some (I (sz1 es.length c),[]):=by
 refine run Zbtj rfl ?_;simp[Zbd3,sz1];split<;>simp_all
theorem Zbt4(xs:List (List Int))(h:SmL SmA xs)(fr:List Fr):∀i,i<=xs.length->EvL C fr [0,3,4] Ztb ⟨[(0,L 1 (xs.map isc)),(3,.own 0),(4,I i)],[[]],[.arr Zhp 1 true (fill isc [.lst 1 []] xs i)]⟩ =
  EvX C fr (.x 0) ⟨[(0,L 1 (xs.map isc)),(3,.own 0),(4,I xs.length),(11,Bo false)],[[]],[.arr Zhp 1 true (xs.map isc)]⟩:=by
 have hl:xs.length<=4294967296:=h.1;refine down xs.length ?_ ?_
 .rw[Zi Ztb.eq_1];simp[Zgn]
 .intro i hi ih;rw[Zi Ztb.eq_1,<-ih];have h1:=Zgp (f:=isc) (z:=[.lst 1 []]) hi;have h3:=Zgo (f:=isc) (z:=[.lst 1 []]) (Ybw hi);have h4:IntKind.wrap .i64 ((i:Int)+1)=(i:Int)+1:=Zt (by omega) (by omega);simp at h1;simp[hi,Zth _ (h.2 _ (Ya hi)),h3,h4,h1]
theorem Zbeq(xs:List (List Int))(h:SmL SmA xs):C Zbi2 [L 1 (xs.map isc)] []=some (.own 0,[.arr Zhp 1 true (xs.map isc)]):=by
 refine run Zbtv rfl ?_;have hl:xs.length<=4294967296:=h.1;have h1:∀b,b<=4096->xs.length*b<=room:=λb hb=>Yr (Ybv hl hb) (by decide)
 have h2:(xs.length:Int)<=140737488355328:=by omega
 have h3:=λfr=>Zbt4 xs h fr 0 (Yb _)
 simp[Zgm]at h3;simp[Zbej,h1,h2,h3]
theorem Zbt5(xs ys:List (List Int))(h:SmL SmA xs)(hl:ys.length=xs.length)(fr:List Fr):∀i,i<=xs.length->EvL C fr [0,1,5] Ztd ⟨[(0,L 1 (xs.map isc)),(1,L 1 (ys.map isc)),(5,I i)],[[]],[]⟩ =
  if xs.drop i=ys.drop i then EvX C fr (.x 0) ⟨[(0,L 1 (xs.map isc)),(1,L 1 (ys.map isc)),(5,I xs.length),(14,Bo false)],[[]],[]⟩else EvX C fr .r ⟨[(4,Bo false)],[[]],[]⟩:=by
 have hm:xs.length<=4294967296:=h.1;refine down xs.length ?_ ?_
 .rw[Zi Ztd.eq_1];simp[hl,Ybg]
 .intro i hi ih;have hi2:i<ys.length:=by omega
  have h4:IntKind.wrap .i64 ((i:Int)+1)=(i:Int)+1:=Zt (by omega) (by omega);rw[Zi Ztd.eq_1];simp +decide[hi,hi2,Zti _ _ (h.2 _ (Ya hi)),h4];simp at ih;simp only[Zgq hi hi2,ih];split<;>first|(simp_all;done)|grind
theorem Zber(xs ys:List (List Int))(h:SmL SmA xs):C Zbi4 [L 1 (xs.map isc),L 1 (ys.map isc)] []=some (Bo (decide (xs=ys)),[]):=by
 refine run Zbtx rfl ?_;by_cases hl:ys.length=xs.length
 .have h3:=λfr=>Zbt5 xs ys h hl fr 0 (Yb _)
  simp at h3;simp[Zz0,h3,hl];split<;>simp_all
 .have h1:xs≠ys:=λh=>hl (by rw[h])
  have h2:¬((xs.length:Int)=ys.length):=by omega
  simp[Zz0,h1,h2]
theorem Zbt6(xs:List (List Int))(h:OkL (OkL OkI) xs)(fr:List Fr):∀i,i<=xs.length->∀left:Int,
  (EvL C fr [0,1,5] Ziz ⟨[(0,L 1 (xs.map isc)),(1,I left),(5,I i)],[[]],[]⟩=EvX C fr .r ⟨[(4,I (-1))],[[]],[]⟩/\Zbh szI (xs.drop i) left=-1)\/
  EvL C fr [0,1,5] Ziz ⟨[(0,L 1 (xs.map isc)),(1,I left),(5,I i)],[[]],[]⟩=EvX C fr (.x 0) ⟨[(0,L 1 (xs.map isc)),(1,I (Zbh szI (xs.drop i) left)),(5,I xs.length),(15,Bo false)],[[]],[]⟩:=by
 have hm:maxLen<=9223372036854775807:=by decide
 have hl:=h.1;refine down xs.length ?_ ?_
 .intro left;right;rw[Zi Ziz.eq_1];simp[Ybg,Zbh]
 .intro i hi ih left;have h4:IntKind.wrap .i64 ((i:Int)+1)=(i:Int)+1:=Zt (by omega) (by omega);have e:EvL C fr [0,1,5] Ziz ⟨[(0,L 1 (xs.map isc)),(1,I left),(5,I i)],[[]],[]⟩=if szI xs[i] left<0 then EvX C fr .r ⟨[(4,I (-1))],[[]],[]⟩else EvL C fr [0,1,5] Ziz ⟨[(0,L 1 (xs.map isc)),(1,I (szI xs[i] left)),(5,I ((i+1:Nat):Int))],[[]],[]⟩:=by
   rw[Zi Ziz.eq_1];simp[hi,Zz2,h4]
  rw[e,Ye hi,Zbh];split
  .exact .inl ⟨rfl,rfl⟩
  .exact ih _
theorem Zbes(xs:List (List Int))(c:Int)(h:OkL (OkL OkI) xs):C Zbi0 [L 1 (xs.map isc),I c] []=some (I (szL szI xs c),[]):=by
 refine run Zbtt rfl ?_;have h3:=λfr l=>Zbt6 xs h fr 0 (Yb _) l
 simp at h3;simp[Zbeh,szL,Zu,sz1];split
 .simp_all
 .rcases h3 [.blk 0,.seq _,.fin _ _] (IntKind.wrap .i64 (c-xs.length))with⟨h5,h6⟩|h5
  .rw[h5];simp[h6]
  .rw[h5];simp
theorem Zbt7(x0:ByteArray)(x1:Int)(x2:List (List Int))(h2:SmL SmA x2):C Zbir [.agg [.t (.str x0),I x1,.t (tII x2)]] []=some (.agg [.t (.str x0),I x1,.own 0],[.arr Zhp 1 true (x2.map isc)]):=by
 refine run Zbtk rfl ?_;simp[Zbd4,Zbeq _ h2]
theorem Zbt8(x0:ByteArray)(x1:Int)(x2:List (List Int))(y0:ByteArray)(y1:Int)(y2:List (List Int))(h2:SmL SmA x2):C Zbiv [.agg [.t (.str x0),I x1,.t (tII x2)],.agg [.t (.str y0),I y1,.t (tII y2)]] []=some (Bo (decide (x0=y0/\x1=y1/\x2=y2)),[]):=by
 refine run Zbto rfl ?_;simp[Zbd8,Zber _ _ h2]
 repeat' split
 all_goals first|(simp_all;done)|grind
theorem Zbt9(x0:ByteArray)(x1:Int)(x2:List (List Int))(c:Int)(h2:OkL (OkL OkI) x2):C Zbio [.agg [.t (.str x0),I x1,.t (tII x2)],I c] []=some (I (Zc.sz ⟨x0,x1,x2⟩ c),[]):=by
 refine run Zbth rfl ?_;simp[Zbd1,Zbes _ _ h2,Zc.sz,Zu,sz1]
 repeat' split
 all_goals first|(simp_all;done)|grind
theorem Zbua(xs:List Zc)(h:SmL Zc.small xs)(fr:List Fr):∀i,i<=xs.length->EvL C fr [0,3,4] Zs2 ⟨[(0,L 3 (xs.map Zc.c)),(3,.own 0),(4,I i)],[[]],[.arr Zl1 3 true (fill Zc.c [.str ⟨#[]⟩,.int .i64 0,.lst 1 []] xs i)]⟩ =
  EvX C fr (.x 0) ⟨[(0,L 3 (xs.map Zc.c)),(3,.own 0),(4,I xs.length),(11,Bo false)],[[]],[.arr Zl1 3 true (xs.map Zc.c)]⟩:=by
 have hl:xs.length<=4294967296:=h.1;refine down xs.length ?_ ?_
 .rw[Zi Zs2.eq_1];simp[Zgn]
 .intro i hi ih;rw[Zi Zs2.eq_1,<-ih];have h1:=Zgp (f:=Zc.c) (z:=[.str ⟨#[]⟩,.int .i64 0,.lst 1 []]) hi;have h3:=Zgo (f:=Zc.c) (z:=[.str ⟨#[]⟩,.int .i64 0,.lst 1 []]) (Ybw hi);have h4:IntKind.wrap .i64 ((i:Int)+1)=(i:Int)+1:=Zt (by omega) (by omega);simp at h1;simp[hi,Zbt7 _ _ _ (h.2 _ (Ya hi)).2,h3,h4,h1]
theorem Zbub(xs:List Zc)(h:SmL Zc.small xs):C Zbie [L 3 (xs.map Zc.c)] []=some (.own 0,[.arr Zl1 3 true (xs.map Zc.c)]):=by
 refine run Zbs7 rfl ?_;have hl:xs.length<=4294967296:=h.1;have h1:∀b,b<=4096->xs.length*b<=room:=λb hb=>Yr (Ybv hl hb) (by decide)
 have h2:(xs.length:Int)<=140737488355328:=by omega
 have h3:=λfr=>Zbua xs h fr 0 (Yb _)
 simp[Zgm]at h3;simp[Zbdb,h1,h2,h3]
theorem Zbuc(xs ys:List Zc)(h:SmL Zc.small xs)(hl:ys.length=xs.length)(fr:List Fr):∀i,i<=xs.length->EvL C fr [0,1,5] Zoz ⟨[(0,L 3 (xs.map Zc.c)),(1,L 3 (ys.map Zc.c)),(5,I i)],[[]],[]⟩ =
  if xs.drop i=ys.drop i then EvX C fr (.x 0) ⟨[(0,L 3 (xs.map Zc.c)),(1,L 3 (ys.map Zc.c)),(5,I xs.length),(14,Bo false)],[[]],[]⟩else EvX C fr .r ⟨[(4,Bo false)],[[]],[]⟩:=by
 have hm:xs.length<=4294967296:=h.1;refine down xs.length ?_ ?_
 .rw[Zi Zoz.eq_1];simp[hl,Ybg]
 .intro i hi ih;have hi2:i<ys.length:=by omega
  have h4:IntKind.wrap .i64 ((i:Int)+1)=(i:Int)+1:=Zt (by omega) (by omega);rw[Zi Zoz.eq_1];simp +decide[hi,hi2,Zbt8 _ _ _ _ _ _ (h.2 _ (Ya hi)).2,h4];simp at ih;simp only[Zgq hi hi2,ih,Zc.ext_iff];split<;>first|(simp_all;done)|grind
theorem Zbud(xs ys:List Zc)(h:SmL Zc.small xs):C Z3t [L 3 (xs.map Zc.c),L 3 (ys.map Zc.c)] []=some (Bo (decide (xs=ys)),[]):=by
 refine run Zbdi rfl ?_;by_cases hl:ys.length=xs.length
 .have h3:=λfr=>Zbuc xs ys h hl fr 0 (Yb _)
  simp at h3;simp[Zs5,h3,hl];split<;>simp_all
 .have h1:xs≠ys:=λh=>hl (by rw[h])
  have h2:¬((xs.length:Int)=ys.length):=by omega
  simp[Zs5,h1,h2]
theorem Zbue(xs:List Zc)(h:OkL Zc.okay xs)(fr:List Fr):∀i,i<=xs.length->∀left:Int,
  (EvL C fr [0,1,5] Zix ⟨[(0,L 3 (xs.map Zc.c)),(1,I left),(5,I i)],[[]],[]⟩=EvX C fr .r ⟨[(4,I (-1))],[[]],[]⟩/\Zbh Zc.sz (xs.drop i) left=-1)\/
  EvL C fr [0,1,5] Zix ⟨[(0,L 3 (xs.map Zc.c)),(1,I left),(5,I i)],[[]],[]⟩=EvX C fr (.x 0) ⟨[(0,L 3 (xs.map Zc.c)),(1,I (Zbh Zc.sz (xs.drop i) left)),(5,I xs.length),(15,Bo false)],[[]],[]⟩:=by
 have hm:maxLen<=9223372036854775807:=by decide
 have hl:=h.1;refine down xs.length ?_ ?_
 .intro left;right;rw[Zi Zix.eq_1];simp[Ybg,Zbh]
 .intro i hi ih left;have h4:IntKind.wrap .i64 ((i:Int)+1)=(i:Int)+1:=Zt (by omega) (by omega);have e:EvL C fr [0,1,5] Zix ⟨[(0,L 3 (xs.map Zc.c)),(1,I left),(5,I i)],[[]],[]⟩=if Zc.sz xs[i] left<0 then EvX C fr .r ⟨[(4,I (-1))],[[]],[]⟩else EvL C fr [0,1,5] Zix ⟨[(0,L 3 (xs.map Zc.c)),(1,I (Zc.sz xs[i] left)),(5,I ((i+1:Nat):Int))],[[]],[]⟩:=by
   rw[Zi Zix.eq_1];simp[hi,Zbt9 _ _ _ _ (h.2 _ (Ya hi)).2.2,h4]
  rw[e,Ye hi,Zbh];split
  .exact .inl ⟨rfl,rfl⟩
  .exact ih _
theorem Zbuf(xs:List Zc)(cc:Int)(h:OkL Zc.okay xs):C Zbh9 [L 3 (xs.map Zc.c),I cc] []=some (I (szL Zc.sz xs cc),[]):=by
 refine run Zbs2 rfl ?_;have h3:=λfr l=>Zbue xs h fr 0 (Yb _) l
 simp at h3;simp[Zbc6,szL,Zu,sz1];split
 .simp_all
 .rcases h3 [.blk 0,.seq _,.fin _ _] (IntKind.wrap .i64 (cc-xs.length))with⟨h5,h6⟩|h5
  .rw[h5];simp[h6]
  .rw[h5];simp
theorem Zbug(x0:List Zc)(h0:SmL Zc.small x0):C Zbh1 [.agg [.t (.lst 3 (x0.map Zc.c))]] []=some (.agg [.own 0],[.arr Zl1 3 true (x0.map Zc.c)]):=by
 refine run Zbsu rfl ?_;simp[Zbcm,Zbub _ h0]
theorem Zbuh(x0 y0:List Zc)(h0:SmL Zc.small x0):C Z3h [.agg [.t (.lst 3 (x0.map Zc.c))],.agg [.t (.lst 3 (y0.map Zc.c))]] []=some (Bo (decide (x0=y0)),[]):=by
 refine run Zbcs rfl ?_;simp[Zza,Zbud _ _ h0]
 repeat' split
 all_goals first|(simp_all;done)|grind
theorem Zbui(x0:List Zc)(cc:Int)(h0:OkL Zc.okay x0):C Zbhw [.agg [.t (.lst 3 (x0.map Zc.c))],I cc] []=some (I (Zh.sz ⟨x0⟩ cc),[]):=by
 refine run Zbsp rfl ?_;simp[Zbch,Zbuf _ _ h0,Zh.sz,Zu,sz1]
 repeat' split
 all_goals first|(simp_all;done)|grind
theorem Zbuj(x0:ByteArray)(x1:List Int)(x2:Int)(h1:SmA x1):C Zbig [.agg [.t (.str x0),.t (tI x1),I x2]] []=some (.agg [.t (.str x0),.own 0,I x2],[.arr Zcl 1 true (x1.map ic)]):=by
 refine run Zbs9 rfl ?_;simp[Zbdd,Zth _ h1]
theorem Zbuk(x0:ByteArray)(x1:List Int)(x2:Int)(y0:ByteArray)(y1:List Int)(y2:Int)(h1:SmA x1):C Zbik [.agg [.t (.str x0),.t (tI x1),I x2],.agg [.t (.str y0),.t (tI y1),I y2]] []=some (Bo (decide (x0=y0/\x1=y1/\x2=y2)),[]):=by
 refine run Zbtd rfl ?_;simp[Zbdk,Zti _ _ h1]
 repeat' split
 all_goals first|(simp_all;done)|grind
theorem Zbul(x0:ByteArray)(x1:List Int)(x2 c:Int) :C Zbib [.agg [.t (.str x0),.t (tI x1),I x2],I c] []=some (I (Ze.sz ⟨x0,x1,x2⟩ c),[]):=by
 refine run Zbs4 rfl ?_;simp[Zbc8,Zz2,Ze.sz,Zu,sz1]
 repeat' split
 all_goals first|(simp_all;done)|grind
theorem Zbum(x0:ByteArray)(x1:Int)(x2:ByteArray)(x3:Int) :C Zbih [.agg [.t (.str x0),I x1,.t (.str x2),I x3]] []=some (.agg [.t (.str x0),I x1,.t (.str x2),I x3],[]):=by
 refine run Zbta rfl ?_;simp[Zbde]
theorem Zbun(x0:ByteArray)(x1:Int)(x2:ByteArray)(x3:Int)(y0:ByteArray)(y1:Int)(y2:ByteArray)(y3:Int) :C Zbil [.agg [.t (.str x0),I x1,.t (.str x2),I x3],.agg [.t (.str y0),I y1,.t (.str y2),I y3]] []=some (Bo (decide (x0=y0/\x1=y1/\x2=y2/\x3=y3)),[]):=by
 refine run Zbte rfl ?_;simp[Zbdl]
 repeat' split
 all_goals first|(simp_all;done)|grind
theorem Zbuo(x0:ByteArray)(x1:Int)(x2:ByteArray)(x3 c:Int) :C Zbic [.agg [.t (.str x0),I x1,.t (.str x2),I x3],I c] []=some (I (Zf.sz ⟨x0,x1,x2,x3⟩ c),[]):=by
 refine run Zbs5 rfl ?_;simp[Zbc9,Zf.sz,Zu,sz1]
 repeat' split
 all_goals first|(simp_all;done)|grind
theorem Zbup(x0:List Int)(x1:List (List Int))(x2:List Int)(h0:SmA x0)(h1:SmL SmA x1)(h2:SmA x2):C Zbi9 [.agg [.t (tI x0),.t (tII x1),.t (tI x2)]] []=some (.agg [.own 0,.own 1,.own 2],[.arr Zcl 1 true (x0.map ic),.arr Zhp 1 true (x1.map isc),.arr Zcl 1 true (x2.map ic)]):=by
 refine run Zbt2 rfl ?_;simp[Zbeo,Zth _ h0,Zbeq _ h1,Zth _ h2]
theorem Zbuq(x0:List Int)(x1:List (List Int))(x2 y0:List Int)(y1:List (List Int))(y2:List Int)(h0:SmA x0)(h1:SmL SmA x1)(h2:SmA x2):C Zbja [.agg [.t (tI x0),.t (tII x1),.t (tI x2)],.agg [.t (tI y0),.t (tII y1),.t (tI y2)]] []=some (Bo (decide (x0=y0/\x1=y1/\x2=y2)),[]):=by
 refine run Zbt3 rfl ?_;simp[Zbep,Zti _ _ h0,Zber _ _ h1,Zti _ _ h2]
 repeat' split
 all_goals first|(simp_all;done)|grind
theorem Zbur(x0:List Int)(x1:List (List Int))(x2:List Int)(c:Int)(h1:OkL (OkL OkI) x1):C Zbi8 [.agg [.t (tI x0),.t (tII x1),.t (tI x2)],I c] []=some (I (Zj.sz ⟨x0,x1,x2⟩ c),[]):=by
 refine run Zbt1 rfl ?_;simp[Zben,Zz2,Zbes _ _ h1,Zj.sz,Zu,sz1]
 repeat' split
 all_goals first|(simp_all;done)|grind
theorem Zbus(xs:List Zj)(h:SmL Zj.small xs)(fr:List Fr):∀i,i<=xs.length->EvL C fr [0,3,4] Ztc ⟨[(0,L 3 (xs.map Zj.c)),(3,.own 0),(4,I i)],[[]],[.arr Zqp 3 true (fill Zj.c [.lst 1 [],.lst 1 [],.lst 1 []] xs i)]⟩ =
  EvX C fr (.x 0) ⟨[(0,L 3 (xs.map Zj.c)),(3,.own 0),(4,I xs.length),(11,Bo false)],[[]],[.arr Zqp 3 true (xs.map Zj.c)]⟩:=by
 have hl:xs.length<=4294967296:=h.1;refine down xs.length ?_ ?_
 .rw[Zi Ztc.eq_1];simp[Zgn]
 .intro i hi ih;rw[Zi Ztc.eq_1,<-ih];have h1:=Zgp (f:=Zj.c) (z:=[.lst 1 [],.lst 1 [],.lst 1 []]) hi;have h3:=Zgo (f:=Zj.c) (z:=[.lst 1 [],.lst 1 [],.lst 1 []]) (Ybw hi);have h4:IntKind.wrap .i64 ((i:Int)+1)=(i:Int)+1:=Zt (by omega) (by omega);simp at h1;simp[hi,Zbup _ _ _ (h.2 _ (Ya hi)).1 (h.2 _ (Ya hi)).2.1 (h.2 _ (Ya hi)).2.2,h3,h4,h1]
theorem Zbut(xs:List Zj)(h:SmL Zj.small xs):C Zbi3 [L 3 (xs.map Zj.c)] []=some (.own 0,[.arr Zqp 3 true (xs.map Zj.c)]):=by
 refine run Zbtw rfl ?_;have hl:xs.length<=4294967296:=h.1;have h1:∀b,b<=4096->xs.length*b<=room:=λb hb=>Yr (Ybv hl hb) (by decide)
 have h2:(xs.length:Int)<=140737488355328:=by omega
 have h3:=λfr=>Zbus xs h fr 0 (Yb _)
 simp[Zgm]at h3;simp[Zbek,h1,h2,h3]
theorem Zbuu(xs ys:List Zj)(h:SmL Zj.small xs)(hl:ys.length=xs.length)(fr:List Fr):∀i,i<=xs.length->EvL C fr [0,1,5] Zte ⟨[(0,L 3 (xs.map Zj.c)),(1,L 3 (ys.map Zj.c)),(5,I i)],[[]],[]⟩ =
  if xs.drop i=ys.drop i then EvX C fr (.x 0) ⟨[(0,L 3 (xs.map Zj.c)),(1,L 3 (ys.map Zj.c)),(5,I xs.length),(14,Bo false)],[[]],[]⟩else EvX C fr .r ⟨[(4,Bo false)],[[]],[]⟩:=by
 have hm:xs.length<=4294967296:=h.1;refine down xs.length ?_ ?_
 .rw[Zi Zte.eq_1];simp[hl,Ybg]
 .intro i hi ih;have hi2:i<ys.length:=by omega
  have h4:IntKind.wrap .i64 ((i:Int)+1)=(i:Int)+1:=Zt (by omega) (by omega);rw[Zi Zte.eq_1];simp +decide[hi,hi2,Zbuq _ _ _ _ _ _ (h.2 _ (Ya hi)).1 (h.2 _ (Ya hi)).2.1 (h.2 _ (Ya hi)).2.2,h4];simp at ih;simp only[Zgq hi hi2,ih,Zj.ext_iff];split<;>first|(simp_all;done)|grind
theorem Zbuv(xs ys:List Zj)(h:SmL Zj.small xs):C Zbi5 [L 3 (xs.map Zj.c),L 3 (ys.map Zj.c)] []=some (Bo (decide (xs=ys)),[]):=by
 refine run Zbty rfl ?_;by_cases hl:ys.length=xs.length
 .have h3:=λfr=>Zbuu xs ys h hl fr 0 (Yb _)
  simp at h3;simp[Zz1,h3,hl];split<;>simp_all
 .have h1:xs≠ys:=λh=>hl (by rw[h])
  have h2:¬((xs.length:Int)=ys.length):=by omega
  simp[Zz1,h1,h2]
theorem Zbuw(xs:List Zj)(h:OkL Zj.okay xs)(fr:List Fr):∀i,i<=xs.length->∀left:Int,
  (EvL C fr [0,1,5] Zi0 ⟨[(0,L 3 (xs.map Zj.c)),(1,I left),(5,I i)],[[]],[]⟩=EvX C fr .r ⟨[(4,I (-1))],[[]],[]⟩/\Zbh Zj.sz (xs.drop i) left=-1)\/
  EvL C fr [0,1,5] Zi0 ⟨[(0,L 3 (xs.map Zj.c)),(1,I left),(5,I i)],[[]],[]⟩=EvX C fr (.x 0) ⟨[(0,L 3 (xs.map Zj.c)),(1,I (Zbh Zj.sz (xs.drop i) left)),(5,I xs.length),(15,Bo false)],[[]],[]⟩:=by
 have hm:maxLen<=9223372036854775807:=by decide
 have hl:=h.1;refine down xs.length ?_ ?_
 .intro left;right;rw[Zi Zi0.eq_1];simp[Ybg,Zbh]
 .intro i hi ih left;have h4:IntKind.wrap .i64 ((i:Int)+1)=(i:Int)+1:=Zt (by omega) (by omega);have e:EvL C fr [0,1,5] Zi0 ⟨[(0,L 3 (xs.map Zj.c)),(1,I left),(5,I i)],[[]],[]⟩=if Zj.sz xs[i] left<0 then EvX C fr .r ⟨[(4,I (-1))],[[]],[]⟩else EvL C fr [0,1,5] Zi0 ⟨[(0,L 3 (xs.map Zj.c)),(1,I (Zj.sz xs[i] left)),(5,I ((i+1:Nat):Int))],[[]],[]⟩:=by
   rw[Zi Zi0.eq_1];simp[hi,Zbur _ _ _ _ (h.2 _ (Ya hi)).2.1,h4]
  rw[e,Ye hi,Zbh];split
  .exact .inl ⟨rfl,rfl⟩
  .exact ih _
theorem Zbux(xs:List Zj)(cc:Int)(h:OkL Zj.okay xs):C Zbi1 [L 3 (xs.map Zj.c),I cc] []=some (I (szL Zj.sz xs cc),[]):=by
 refine run Zbtu rfl ?_;have h3:=λfr l=>Zbuw xs h fr 0 (Yb _) l
 simp at h3;simp[Zbei,szL,Zu,sz1];split
 .simp_all
 .rcases h3 [.blk 0,.seq _,.fin _ _] (IntKind.wrap .i64 (cc-xs.length))with⟨h5,h6⟩|h5
  .rw[h5];simp[h6]
  .rw[h5];simp
theorem Zbuy(x0:ByteArray)(x1 x2:Int)(x3:List Zj)(h3:SmL Zj.small x3):C Zbis [.agg [.t (.str x0),I x1,I x2,.t (.lst 3 (x3.map Zj.c))]] []=some (.agg [.t (.str x0),I x1,I x2,.own 0],[.arr Zqp 3 true (x3.map Zj.c)]):=by
 refine run Zbtl rfl ?_;simp[Zbd5,Zbut _ h3]
theorem Zbuz(x0:ByteArray)(x1 x2:Int)(x3:List Zj)(y0:ByteArray)(y1 y2:Int)(y3:List Zj)(h3:SmL Zj.small x3):C Zbiw [.agg [.t (.str x0),I x1,I x2,.t (.lst 3 (x3.map Zj.c))],.agg [.t (.str y0),I y1,I y2,.t (.lst 3 (y3.map Zj.c))]] []=some (Bo (decide (x0=y0/\x1=y1/\x2=y2/\x3=y3)),[]):=by
 refine run Zbtp rfl ?_;simp[Zbd9,Zbuv _ _ h3]
 repeat' split
 all_goals first|(simp_all;done)|grind
theorem Zbu0(x0:ByteArray)(x1 x2:Int)(x3:List Zj)(cc:Int)(h3:OkL Zj.okay x3):C Zbip [.agg [.t (.str x0),I x1,I x2,.t (.lst 3 (x3.map Zj.c))],I cc] []=some (I (Zd.sz ⟨x0,x1,x2,x3⟩ cc),[]):=by
 refine run Zbti rfl ?_;simp[Zbd2,Zbux _ _ h3,Zd.sz,Zu,sz1]
 repeat' split
 all_goals first|(simp_all;done)|grind
theorem Zbu1(xs:List Zd)(h:SmL Zd.small xs)(fr:List Fr):∀i,i<=xs.length->EvL C fr [0,3,4] Zs3 ⟨[(0,L 4 (xs.map Zd.c)),(3,.own 0),(4,I i)],[[]],[.arr Zl2 4 true (fill Zd.c [.str ⟨#[]⟩,.int .i64 0,.int .i64 0,.lst 3 []] xs i)]⟩ =
  EvX C fr (.x 0) ⟨[(0,L 4 (xs.map Zd.c)),(3,.own 0),(4,I xs.length),(11,Bo false)],[[]],[.arr Zl2 4 true (xs.map Zd.c)]⟩:=by
 have hl:xs.length<=4294967296:=h.1;refine down xs.length ?_ ?_
 .rw[Zi Zs3.eq_1];simp[Zgn]
 .intro i hi ih;rw[Zi Zs3.eq_1,<-ih];have h1:=Zgp (f:=Zd.c) (z:=[.str ⟨#[]⟩,.int .i64 0,.int .i64 0,.lst 3 []]) hi;have h3:=Zgo (f:=Zd.c) (z:=[.str ⟨#[]⟩,.int .i64 0,.int .i64 0,.lst 3 []]) (Ybw hi);have h4:IntKind.wrap .i64 ((i:Int)+1)=(i:Int)+1:=Zt (by omega) (by omega);simp at h1;simp[hi,Zbuy _ _ _ _ (h.2 _ (Ya hi)).2,h3,h4,h1]
theorem Zbu2(xs:List Zd)(h:SmL Zd.small xs):C Zbif [L 4 (xs.map Zd.c)] []=some (.own 0,[.arr Zl2 4 true (xs.map Zd.c)]):=by
 refine run Zbs8 rfl ?_;have hl:xs.length<=4294967296:=h.1;have h1:∀b,b<=4096->xs.length*b<=room:=λb hb=>Yr (Ybv hl hb) (by decide)
 have h2:(xs.length:Int)<=140737488355328:=by omega
 have h3:=λfr=>Zbu1 xs h fr 0 (Yb _)
 simp[Zgm]at h3;simp[Zbdc,h1,h2,h3]
theorem Zbu3(xs ys:List Zd)(h:SmL Zd.small xs)(hl:ys.length=xs.length)(fr:List Fr):∀i,i<=xs.length->EvL C fr [0,1,5] Zo0 ⟨[(0,L 4 (xs.map Zd.c)),(1,L 4 (ys.map Zd.c)),(5,I i)],[[]],[]⟩ =
  if xs.drop i=ys.drop i then EvX C fr (.x 0) ⟨[(0,L 4 (xs.map Zd.c)),(1,L 4 (ys.map Zd.c)),(5,I xs.length),(14,Bo false)],[[]],[]⟩else EvX C fr .r ⟨[(4,Bo false)],[[]],[]⟩:=by
 have hm:xs.length<=4294967296:=h.1;refine down xs.length ?_ ?_
 .rw[Zi Zo0.eq_1];simp[hl,Ybg]
 .intro i hi ih;have hi2:i<ys.length:=by omega
  have h4:IntKind.wrap .i64 ((i:Int)+1)=(i:Int)+1:=Zt (by omega) (by omega);rw[Zi Zo0.eq_1];simp +decide[hi,hi2,Zbuz _ _ _ _ _ _ _ _ (h.2 _ (Ya hi)).2,h4];simp at ih;simp only[Zgq hi hi2,ih,Zd.ext_iff];split<;>first|(simp_all;done)|grind
theorem Zbu4(xs ys:List Zd)(h:SmL Zd.small xs):C Z3u [L 4 (xs.map Zd.c),L 4 (ys.map Zd.c)] []=some (Bo (decide (xs=ys)),[]):=by
 refine run Zbdj rfl ?_;by_cases hl:ys.length=xs.length
 .have h3:=λfr=>Zbu3 xs ys h hl fr 0 (Yb _)
  simp at h3;simp[Zs6,h3,hl];split<;>simp_all
 .have h1:xs≠ys:=λh=>hl (by rw[h])
  have h2:¬((xs.length:Int)=ys.length):=by omega
  simp[Zs6,h1,h2]
theorem Zbu5(xs:List Zd)(h:OkL Zd.okay xs)(fr:List Fr):∀i,i<=xs.length->∀left:Int,
  (EvL C fr [0,1,5] Ziy ⟨[(0,L 4 (xs.map Zd.c)),(1,I left),(5,I i)],[[]],[]⟩=EvX C fr .r ⟨[(4,I (-1))],[[]],[]⟩/\Zbh Zd.sz (xs.drop i) left=-1)\/
  EvL C fr [0,1,5] Ziy ⟨[(0,L 4 (xs.map Zd.c)),(1,I left),(5,I i)],[[]],[]⟩=EvX C fr (.x 0) ⟨[(0,L 4 (xs.map Zd.c)),(1,I (Zbh Zd.sz (xs.drop i) left)),(5,I xs.length),(15,Bo false)],[[]],[]⟩:=by
 have hm:maxLen<=9223372036854775807:=by decide
 have hl:=h.1;refine down xs.length ?_ ?_
 .intro left;right;rw[Zi Ziy.eq_1];simp[Ybg,Zbh]
 .intro i hi ih left;have h4:IntKind.wrap .i64 ((i:Int)+1)=(i:Int)+1:=Zt (by omega) (by omega);have e:EvL C fr [0,1,5] Ziy ⟨[(0,L 4 (xs.map Zd.c)),(1,I left),(5,I i)],[[]],[]⟩=if Zd.sz xs[i] left<0 then EvX C fr .r ⟨[(4,I (-1))],[[]],[]⟩else EvL C fr [0,1,5] Ziy ⟨[(0,L 4 (xs.map Zd.c)),(1,I (Zd.sz xs[i] left)),(5,I ((i+1:Nat):Int))],[[]],[]⟩:=by
   rw[Zi Ziy.eq_1];simp[hi,Zbu0 _ _ _ _ _ (h.2 _ (Ya hi)).2.2.2,h4]
  rw[e,Ye hi,Zbh];split
  .exact .inl ⟨rfl,rfl⟩
  .exact ih _
theorem Zbu6(xs:List Zd)(cc:Int)(h:OkL Zd.okay xs):C Zbia [L 4 (xs.map Zd.c),I cc] []=some (I (szL Zd.sz xs cc),[]):=by
 refine run Zbs3 rfl ?_;have h3:=λfr l=>Zbu5 xs h fr 0 (Yb _) l
 simp at h3;simp[Zbc7,szL,Zu,sz1];split
 .simp_all
 .rcases h3 [.blk 0,.seq _,.fin _ _] (IntKind.wrap .i64 (cc-xs.length))with⟨h5,h6⟩|h5
  .rw[h5];simp[h6]
  .rw[h5];simp
theorem Zbu7(x0:Int)(x1:List Zd)(h1:SmL Zd.small x1):C Zbh2 [.agg [I x0,.t (.lst 4 (x1.map Zd.c))]] []=some (.agg [I x0,.own 0],[.arr Zl2 4 true (x1.map Zd.c)]):=by
 refine run Zbsv rfl ?_;simp[Zbcn,Zbu2 _ h1]
theorem Zbu8(x0:Int)(x1:List Zd)(y0:Int)(y1:List Zd)(h1:SmL Zd.small x1):C Z3i [.agg [I x0,.t (.lst 4 (x1.map Zd.c))],.agg [I y0,.t (.lst 4 (y1.map Zd.c))]] []=some (Bo (decide (x0=y0/\x1=y1)),[]):=by
 refine run Zbct rfl ?_;simp[Zzb,Zbu4 _ _ h1]
 repeat' split
 all_goals first|(simp_all;done)|grind
theorem Zbu9(x0:Int)(x1:List Zd)(cc:Int)(h1:OkL Zd.okay x1):C Zbhx [.agg [I x0,.t (.lst 4 (x1.map Zd.c))],I cc] []=some (I (Zl.sz ⟨x0,x1⟩ cc),[]):=by
 refine run Zbsq rfl ?_;simp[Zbci,Zbu6 _ _ h1,Zl.sz,Zu,sz1]
 repeat' split
 all_goals first|(simp_all;done)|grind
theorem Zbva(xs:List Ze)(h:SmL Ze.small xs)(fr:List Fr):∀i,i<=xs.length->EvL C fr [0,3,4] Zsy ⟨[(0,L 3 (xs.map Ze.c)),(3,.own 0),(4,I i)],[[]],[.arr Zqn 3 true (fill Ze.c [.str ⟨#[]⟩,.lst 1 [],.int .i64 0] xs i)]⟩ =
  EvX C fr (.x 0) ⟨[(0,L 3 (xs.map Ze.c)),(3,.own 0),(4,I xs.length),(11,Bo false)],[[]],[.arr Zqn 3 true (xs.map Ze.c)]⟩:=by
 have hl:xs.length<=4294967296:=h.1;refine down xs.length ?_ ?_
 .rw[Zi Zsy.eq_1];simp[Zgn]
 .intro i hi ih;rw[Zi Zsy.eq_1,<-ih];have h1:=Zgp (f:=Ze.c) (z:=[.str ⟨#[]⟩,.lst 1 [],.int .i64 0]) hi;have h3:=Zgo (f:=Ze.c) (z:=[.str ⟨#[]⟩,.lst 1 [],.int .i64 0]) (Ybw hi);have h4:IntKind.wrap .i64 ((i:Int)+1)=(i:Int)+1:=Zt (by omega) (by omega);simp at h1;simp[hi,Zbuj _ _ _ (h.2 _ (Ya hi)).2,h3,h4,h1]
theorem Zbvb(xs:List Ze)(h:SmL Ze.small xs):C Zbh3 [L 3 (xs.map Ze.c)] []=some (.own 0,[.arr Zqn 3 true (xs.map Ze.c)]):=by
 refine run Zbsw rfl ?_;have hl:xs.length<=4294967296:=h.1;have h1:∀b,b<=4096->xs.length*b<=room:=λb hb=>Yr (Ybv hl hb) (by decide)
 have h2:(xs.length:Int)<=140737488355328:=by omega
 have h3:=λfr=>Zbva xs h fr 0 (Yb _)
 simp[Zgm]at h3;simp[Zbco,h1,h2,h3]
theorem Zbvc(xs ys:List Ze)(h:SmL Ze.small xs)(hl:ys.length=xs.length)(fr:List Fr):∀i,i<=xs.length->EvL C fr [0,1,5] Zov ⟨[(0,L 3 (xs.map Ze.c)),(1,L 3 (ys.map Ze.c)),(5,I i)],[[]],[]⟩ =
  if xs.drop i=ys.drop i then EvX C fr (.x 0) ⟨[(0,L 3 (xs.map Ze.c)),(1,L 3 (ys.map Ze.c)),(5,I xs.length),(14,Bo false)],[[]],[]⟩else EvX C fr .r ⟨[(4,Bo false)],[[]],[]⟩:=by
 have hm:xs.length<=4294967296:=h.1;refine down xs.length ?_ ?_
 .rw[Zi Zov.eq_1];simp[hl,Ybg]
 .intro i hi ih;have hi2:i<ys.length:=by omega
  have h4:IntKind.wrap .i64 ((i:Int)+1)=(i:Int)+1:=Zt (by omega) (by omega);rw[Zi Zov.eq_1];simp +decide[hi,hi2,Zbuk _ _ _ _ _ _ (h.2 _ (Ya hi)).2,h4];simp at ih;simp only[Zgq hi hi2,ih,Ze.ext_iff];split<;>first|(simp_all;done)|grind
theorem Zbvd(xs ys:List Ze)(h:SmL Ze.small xs):C Z3j [L 3 (xs.map Ze.c),L 3 (ys.map Ze.c)] []=some (Bo (decide (xs=ys)),[]):=by
 refine run Zbcu rfl ?_;by_cases hl:ys.length=xs.length
 .have h3:=λfr=>Zbvc xs ys h hl fr 0 (Yb _)
  simp at h3;simp[Zs0,h3,hl];split<;>simp_all
 .have h1:xs≠ys:=λh=>hl (by rw[h])
  have h2:¬((xs.length:Int)=ys.length):=by omega
  simp[Zs0,h1,h2]
theorem Zbve(xs:List Ze)(h:OkL Ze.okay xs)(fr:List Fr):∀i,i<=xs.length->∀left:Int,
  (EvL C fr [0,1,5] Ziv ⟨[(0,L 3 (xs.map Ze.c)),(1,I left),(5,I i)],[[]],[]⟩=EvX C fr .r ⟨[(4,I (-1))],[[]],[]⟩/\Zbh Ze.sz (xs.drop i) left=-1)\/
  EvL C fr [0,1,5] Ziv ⟨[(0,L 3 (xs.map Ze.c)),(1,I left),(5,I i)],[[]],[]⟩=EvX C fr (.x 0) ⟨[(0,L 3 (xs.map Ze.c)),(1,I (Zbh Ze.sz (xs.drop i) left)),(5,I xs.length),(15,Bo false)],[[]],[]⟩:=by
 have hm:maxLen<=9223372036854775807:=by decide
 have hl:=h.1;refine down xs.length ?_ ?_
 .intro left;right;rw[Zi Ziv.eq_1];simp[Ybg,Zbh]
 .intro i hi ih left;have h4:IntKind.wrap .i64 ((i:Int)+1)=(i:Int)+1:=Zt (by omega) (by omega);have e:EvL C fr [0,1,5] Ziv ⟨[(0,L 3 (xs.map Ze.c)),(1,I left),(5,I i)],[[]],[]⟩=if Ze.sz xs[i] left<0 then EvX C fr .r ⟨[(4,I (-1))],[[]],[]⟩else EvL C fr [0,1,5] Ziv ⟨[(0,L 3 (xs.map Ze.c)),(1,I (Ze.sz xs[i] left)),(5,I ((i+1:Nat):Int))],[[]],[]⟩:=by
   rw[Zi Ziv.eq_1];simp[hi,Zbul,h4]
  rw[e,Ye hi,Zbh];split
  .exact .inl ⟨rfl,rfl⟩
  .exact ih _
theorem Zbvf(xs:List Ze)(cc:Int)(h:OkL Ze.okay xs):C Zbhy [L 3 (xs.map Ze.c),I cc] []=some (I (szL Ze.sz xs cc),[]):=by
 refine run Zbsr rfl ?_;have h3:=λfr l=>Zbve xs h fr 0 (Yb _) l
 simp at h3;simp[Zbcj,szL,Zu,sz1];split
 .simp_all
 .rcases h3 [.blk 0,.seq _,.fin _ _] (IntKind.wrap .i64 (cc-xs.length))with⟨h5,h6⟩|h5
  .rw[h5];simp[h6]
  .rw[h5];simp
theorem Zbvg(xs:List Zf)(h:SmL Zf.small xs)(fr:List Fr):∀i,i<=xs.length->EvL C fr [0,3,4] Zsz ⟨[(0,L 4 (xs.map Zf.c)),(3,.own 0),(4,I i)],[[]],[.arr Zqo 4 true (fill Zf.c [.str ⟨#[]⟩,.int .i64 0,.str ⟨#[]⟩,.int .i64 0] xs i)]⟩ =
  EvX C fr (.x 0) ⟨[(0,L 4 (xs.map Zf.c)),(3,.own 0),(4,I xs.length),(11,Bo false)],[[]],[.arr Zqo 4 true (xs.map Zf.c)]⟩:=by
 have hl:xs.length<=4294967296:=h.1;refine down xs.length ?_ ?_
 .rw[Zi Zsz.eq_1];simp[Zgn]
 .intro i hi ih;rw[Zi Zsz.eq_1,<-ih];have h1:=Zgp (f:=Zf.c) (z:=[.str ⟨#[]⟩,.int .i64 0,.str ⟨#[]⟩,.int .i64 0]) hi;have h3:=Zgo (f:=Zf.c) (z:=[.str ⟨#[]⟩,.int .i64 0,.str ⟨#[]⟩,.int .i64 0]) (Ybw hi);have h4:IntKind.wrap .i64 ((i:Int)+1)=(i:Int)+1:=Zt (by omega) (by omega);simp at h1;simp[hi,Zbum _ _ _ _ ,h3,h4,h1]
theorem Zbvh(xs:List Zf)(h:SmL Zf.small xs):C Zbh4 [L 4 (xs.map Zf.c)] []=some (.own 0,[.arr Zqo 4 true (xs.map Zf.c)]):=by
 refine run Zbsx rfl ?_;have hl:xs.length<=4294967296:=h.1;have h1:∀b,b<=4096->xs.length*b<=room:=λb hb=>Yr (Ybv hl hb) (by decide)
 have h2:(xs.length:Int)<=140737488355328:=by omega
 have h3:=λfr=>Zbvg xs h fr 0 (Yb _)
 simp[Zgm]at h3;simp[Zbcp,h1,h2,h3]
theorem Zbvi(xs ys:List Zf)(h:SmL Zf.small xs)(hl:ys.length=xs.length)(fr:List Fr):∀i,i<=xs.length->EvL C fr [0,1,5] Zow ⟨[(0,L 4 (xs.map Zf.c)),(1,L 4 (ys.map Zf.c)),(5,I i)],[[]],[]⟩ =
  if xs.drop i=ys.drop i then EvX C fr (.x 0) ⟨[(0,L 4 (xs.map Zf.c)),(1,L 4 (ys.map Zf.c)),(5,I xs.length),(14,Bo false)],[[]],[]⟩else EvX C fr .r ⟨[(4,Bo false)],[[]],[]⟩:=by
 have hm:xs.length<=4294967296:=h.1;refine down xs.length ?_ ?_
 .rw[Zi Zow.eq_1];simp[hl,Ybg]
 .intro i hi ih;have hi2:i<ys.length:=by omega
  have h4:IntKind.wrap .i64 ((i:Int)+1)=(i:Int)+1:=Zt (by omega) (by omega);rw[Zi Zow.eq_1];simp +decide[hi,hi2,Zbun _ _ _ _ _ _ _ _ ,h4];simp at ih;simp only[Zgq hi hi2,ih,Zf.ext_iff];split<;>first|(simp_all;done)|grind
theorem Zbvj(xs ys:List Zf)(h:SmL Zf.small xs):C Z3k [L 4 (xs.map Zf.c),L 4 (ys.map Zf.c)] []=some (Bo (decide (xs=ys)),[]):=by
 refine run Zbcv rfl ?_;by_cases hl:ys.length=xs.length
 .have h3:=λfr=>Zbvi xs ys h hl fr 0 (Yb _)
  simp at h3;simp[Zs1,h3,hl];split<;>simp_all
 .have h1:xs≠ys:=λh=>hl (by rw[h])
  have h2:¬((xs.length:Int)=ys.length):=by omega
  simp[Zs1,h1,h2]
theorem Zbvk(xs:List Zf)(h:OkL Zf.okay xs)(fr:List Fr):∀i,i<=xs.length->∀left:Int,
  (EvL C fr [0,1,5] Ziw ⟨[(0,L 4 (xs.map Zf.c)),(1,I left),(5,I i)],[[]],[]⟩=EvX C fr .r ⟨[(4,I (-1))],[[]],[]⟩/\Zbh Zf.sz (xs.drop i) left=-1)\/
  EvL C fr [0,1,5] Ziw ⟨[(0,L 4 (xs.map Zf.c)),(1,I left),(5,I i)],[[]],[]⟩=EvX C fr (.x 0) ⟨[(0,L 4 (xs.map Zf.c)),(1,I (Zbh Zf.sz (xs.drop i) left)),(5,I xs.length),(15,Bo false)],[[]],[]⟩:=by
 have hm:maxLen<=9223372036854775807:=by decide
 have hl:=h.1;refine down xs.length ?_ ?_
 .intro left;right;rw[Zi Ziw.eq_1];simp[Ybg,Zbh]
 .intro i hi ih left;have h4:IntKind.wrap .i64 ((i:Int)+1)=(i:Int)+1:=Zt (by omega) (by omega);have e:EvL C fr [0,1,5] Ziw ⟨[(0,L 4 (xs.map Zf.c)),(1,I left),(5,I i)],[[]],[]⟩=if Zf.sz xs[i] left<0 then EvX C fr .r ⟨[(4,I (-1))],[[]],[]⟩else EvL C fr [0,1,5] Ziw ⟨[(0,L 4 (xs.map Zf.c)),(1,I (Zf.sz xs[i] left)),(5,I ((i+1:Nat):Int))],[[]],[]⟩:=by
   rw[Zi Ziw.eq_1];simp[hi,Zbuo,h4]
  rw[e,Ye hi,Zbh];split
  .exact .inl ⟨rfl,rfl⟩
  .exact ih _
theorem Zbvl(xs:List Zf)(cc:Int)(h:OkL Zf.okay xs):C Zbhz [L 4 (xs.map Zf.c),I cc] []=some (I (szL Zf.sz xs cc),[]):=by
 refine run Zbss rfl ?_;have h3:=λfr l=>Zbvk xs h fr 0 (Yb _) l
 simp at h3;simp[Zbck,szL,Zu,sz1];split
 .simp_all
 .rcases h3 [.blk 0,.seq _,.fin _ _] (IntKind.wrap .i64 (cc-xs.length))with⟨h5,h6⟩|h5
  .rw[h5];simp[h6]
  .rw[h5];simp
theorem Zbvm(x0:List Zc)(x1:Int)(x2:List Zd)(x3:List Ze)(x4:List Zf)(h0:SmL Zc.small x0)(h2:SmL Zd.small x2)(h3:SmL Ze.small x3)(h4:SmL Zf.small x4):C Zbhu [.agg [.t (.lst 3 (x0.map Zc.c)),I x1,.t (.lst 4 (x2.map Zd.c)),.t (.lst 3 (x3.map Ze.c)),.t (.lst 4 (x4.map Zf.c))]] []=some (.agg [.own 0,I x1,.own 1,.own 2,.own 3],[.arr Zl1 3 true (x0.map Zc.c),.arr Zl2 4 true (x2.map Zd.c),.arr Zqn 3 true (x3.map Ze.c),.arr Zqo 4 true (x4.map Zf.c)]):=by
 refine run Zbsn rfl ?_;simp[Zbb8,Zbug _ h0,Zbu7 _ _ h2,Zbvb _ h3,Zbvh _ h4]
theorem Zbet(x0:List Zc)(x1:Int)(x2:List Zd)(x3:List Ze)(x4:List Zf)(y0:List Zc)(y1:Int)(y2:List Zd)(y3:List Ze)(y4:List Zf)(h0:SmL Zc.small x0)(h2:SmL Zd.small x2)(h3:SmL Ze.small x3)(h4:SmL Zf.small x4):C Z3b [.agg [.t (.lst 3 (x0.map Zc.c)),I x1,.t (.lst 4 (x2.map Zd.c)),.t (.lst 3 (x3.map Ze.c)),.t (.lst 4 (x4.map Zf.c))],.agg [.t (.lst 3 (y0.map Zc.c)),I y1,.t (.lst 4 (y2.map Zd.c)),.t (.lst 3 (y3.map Ze.c)),.t (.lst 4 (y4.map Zf.c))]] []=some (Bo (decide (x0=y0/\x1=y1/\x2=y2/\x3=y3/\x4=y4)),[]):=by
 refine run Zbcb rfl ?_;simp[Zy4,Zbuh _ _ h0,Zbu8 _ _ _ _ h2,Zbvd _ _ h3,Zbvj _ _ h4]
 repeat' split
 all_goals first|(simp_all;done)|grind
theorem Zbvn(x0:List Zc)(x1:Int)(x2:List Zd)(x3:List Ze)(x4:List Zf)(cc:Int)(h0:OkL Zc.okay x0)(h2:OkL Zd.okay x2)(h3:OkL Ze.okay x3)(h4:OkL Zf.okay x4):C Zbhs [.agg [.t (.lst 3 (x0.map Zc.c)),I x1,.t (.lst 4 (x2.map Zd.c)),.t (.lst 3 (x3.map Ze.c)),.t (.lst 4 (x4.map Zf.c))],I cc] []=some (I (Zm.sz ⟨⟨x0⟩,⟨x1,x2⟩,x3,x4⟩ cc),[]):=by
 refine run Zbsl rfl ?_;simp[Zbb6,Zbui _ _ h0,Zbu9 _ _ _ h2,Zbvf _ _ h3,Zbvl _ _ h4,Zm.sz,Zu,sz1]
 repeat' split
 all_goals first|(simp_all;done)|grind
theorem Zbvo(x0 x1:Int) :C Zbiu [.agg [I x0,I x1]] []=some (.agg [I x0,I x1],[]):=by
 refine run Zbtn rfl ?_;simp[Zbd7]
theorem Zbvp(x0 x1 y0 y1:Int) :C Zbiy [.agg [I x0,I x1],.agg [I y0,I y1]] []=some (Bo (decide (x0=y0/\x1=y1)),[]):=by
 refine run Zbtr rfl ?_;simp[Zbea]
 repeat' split
 all_goals first|(simp_all;done)|grind
theorem Zbvq(xs:List Zb)(h:SmA xs)(fr:List Fr):∀i,i<=xs.length->EvL C fr [0,3,4] Zs4 ⟨[(0,L 2 (xs.map Zb.c)),(3,.own 0),(4,I i)],[[]],[.arr Zfs 2 true (fill Zb.c [.int .i64 0,.int .i64 0] xs i)]⟩ =
  EvX C fr (.x 0) ⟨[(0,L 2 (xs.map Zb.c)),(3,.own 0),(4,I xs.length),(11,Bo false)],[[]],[.arr Zfs 2 true (xs.map Zb.c)]⟩:=by
 have hl:xs.length<=4294967296:=h;refine down xs.length ?_ ?_
 .rw[Zi Zs4.eq_1];simp[Zgn]
 .intro i hi ih;rw[Zi Zs4.eq_1,<-ih];have h1:=Zgp (f:=Zb.c) (z:=[.int .i64 0,.int .i64 0]) hi;have h3:=Zgo (f:=Zb.c) (z:=[.int .i64 0,.int .i64 0]) (Ybw hi);have h4:IntKind.wrap .i64 ((i:Int)+1)=(i:Int)+1:=Zt (by omega) (by omega);simp at h1;simp[hi,Zbvo,h3,h4,h1]
theorem Zbvr(xs:List Zb)(h:SmA xs):C Zbii [L 2 (xs.map Zb.c)] []=some (.own 0,[.arr Zfs 2 true (xs.map Zb.c)]):=by
 refine run Zbtb rfl ?_;have hl:xs.length<=4294967296:=h;have h1:∀b,b<=4096->xs.length*b<=room:=λb hb=>Yr (Ybv hl hb) (by decide)
 have h2:(xs.length:Int)<=140737488355328:=by omega
 have h3:=λfr=>Zbvq xs h fr 0 (Yb _)
 simp[Zgm]at h3;simp[Zbdf,h1,h2,h3]
theorem Zbvs(xs ys:List Zb)(h:SmA xs)(hl:ys.length=xs.length)(fr:List Fr):∀i,i<=xs.length->EvL C fr [0,1,5] Zo1 ⟨[(0,L 2 (xs.map Zb.c)),(1,L 2 (ys.map Zb.c)),(5,I i)],[[]],[]⟩ =
  if xs.drop i=ys.drop i then EvX C fr (.x 0) ⟨[(0,L 2 (xs.map Zb.c)),(1,L 2 (ys.map Zb.c)),(5,I xs.length),(14,Bo false)],[[]],[]⟩else EvX C fr .r ⟨[(4,Bo false)],[[]],[]⟩:=by
 have hm:xs.length<=4294967296:=h;refine down xs.length ?_ ?_
 .rw[Zi Zo1.eq_1];simp[hl,Ybg]
 .intro i hi ih;have hi2:i<ys.length:=by omega
  have h4:IntKind.wrap .i64 ((i:Int)+1)=(i:Int)+1:=Zt (by omega) (by omega);rw[Zi Zo1.eq_1];simp +decide[hi,hi2,Zbvp _ _ _ _ ,h4];simp at ih;simp only[Zgq hi hi2,ih,Zb.ext_iff];split<;>first|(simp_all;done)|grind
theorem Zbvt(xs ys:List Zb)(h:SmA xs):C Z3v [L 2 (xs.map Zb.c),L 2 (ys.map Zb.c)] []=some (Bo (decide (xs=ys)),[]):=by
 refine run Zbdm rfl ?_;by_cases hl:ys.length=xs.length
 .have h3:=λfr=>Zbvs xs ys h hl fr 0 (Yb _)
  simp at h3;simp[Zs7,h3,hl];split<;>simp_all
 .have h1:xs≠ys:=λh=>hl (by rw[h])
  have h2:¬((xs.length:Int)=ys.length):=by omega
  simp[Zs7,h1,h2]
@[simp] theorem Zbvu(es:List (List T))(c:Int):C Zbid [L 2 es,I c] []=some (I (sz1 es.length c),[]):=by
 refine run Zbs6 rfl ?_;simp[Zbda,sz1];split<;>simp_all
theorem Zpe(x0 x1 x2 x3 x4:Int)(x5:List Zb)(h5:SmA x5):C Zbh5 [.agg [I x0,I x1,I x2,I x3,I x4,.t (.lst 2 (x5.map Zb.c))]] []=some (.agg [I x0,I x1,I x2,I x3,I x4,.own 0],[.arr Zfs 2 true (x5.map Zb.c)]):=by
 refine run Zbsy rfl ?_;simp[Zbcq,Zbvr _ h5]
theorem Zpf(x0 x1 x2 x3 x4:Int)(x5:List Zb)(y0 y1 y2 y3 y4:Int)(y5:List Zb)(h5:SmA x5):C Z3l [.agg [I x0,I x1,I x2,I x3,I x4,.t (.lst 2 (x5.map Zb.c))],.agg [I y0,I y1,I y2,I y3,I y4,.t (.lst 2 (y5.map Zb.c))]] []=some (Bo (decide (x0=y0/\x1=y1/\x2=y2/\x3=y3/\x4=y4/\x5=y5)),[]):=by
 refine run Zbcw rfl ?_;simp[Zzc,Zbvt _ _ h5]
 repeat' split
 all_goals first|(simp_all;done)|grind
theorem Zbvv(x0 x1 x2 x3 x4:Int)(x5:List Zb)(cc:Int) :C Zbh0 [.agg [I x0,I x1,I x2,I x3,I x4,.t (.lst 2 (x5.map Zb.c))],I cc] []=some (I (Zn.sz ⟨x0,x1,x2,x3,x4,x5⟩ cc),[]):=by
 refine run Zbst rfl ?_;simp[Zbcl,Zbvu,Zn.sz,Zu,sz1]
 repeat' split
 all_goals first|(simp_all;done)|grind
theorem Zbvw(x0 x1 x2 x3 x4:Int)(x5:List Zb)(x6 x7 x8 x9 cc:Int)(x11:List Zb)(cd cl cn co cp:Int)(x17:List Zb)(cu cv cy cz d:Int)(x23:List Zb)(dc dd dl dn dp:Int)(x29:List Zb)(h5:SmA x5)(du:SmA x11)(dv:SmA x17)(dy:SmA x23)(dz:SmA x29):C Zbhv [.agg [I x0,I x1,I x2,I x3,I x4,.t (.lst 2 (x5.map Zb.c)),I x6,I x7,I x8,I x9,I cc,.t (.lst 2 (x11.map Zb.c)),I cd,I cl,I cn,I co,I cp,.t (.lst 2 (x17.map Zb.c)),I cu,I cv,I cy,I cz,I d,.t (.lst 2 (x23.map Zb.c)),I dc,I dd,I dl,I dn,I dp,.t (.lst 2 (x29.map Zb.c))]] []=some (.agg [I x0,I x1,I x2,I x3,I x4,.own 0,I x6,I x7,I x8,I x9,I cc,.own 1,I cd,I cl,I cn,I co,I cp,.own 2,I cu,I cv,I cy,I cz,I d,.own 3,I dc,I dd,I dl,I dn,I dp,.own 4],[.arr Zfs 2 true (x5.map Zb.c),.arr Zfs 2 true (x11.map Zb.c),.arr Zfs 2 true (x17.map Zb.c),.arr Zfs 2 true (x23.map Zb.c),.arr Zfs 2 true (x29.map Zb.c)]):=by
 refine run Zbso rfl ?_;simp[Zbb9,Zpe _ _ _ _ _ _ h5,Zpe _ _ _ _ _ _ du,Zpe _ _ _ _ _ _ dv,Zpe _ _ _ _ _ _ dy,Zpe _ _ _ _ _ _ dz]
theorem Zbeu(x0 x1 x2 x3 x4:Int)(x5:List Zb)(x6 x7 x8 x9 cc:Int)(x11:List Zb)(cd cl cn co cp:Int)(x17:List Zb)(cu cv cy cz d:Int)(x23:List Zb)(dc dd dl dn dp:Int)(x29:List Zb)(y0 y1 y2 y3 y4:Int)(y5:List Zb)(y6 y7 y8 y9 du:Int)(dv:List Zb)(dy dz l lc ld:Int)(ll:List Zb)(ln lo lp lu lv:Int)(ly:List Zb)(lz n nc nd nl:Int)(nn:List Zb)(h5:SmA x5)(np:SmA x11)(nu:SmA x17)(nv:SmA x23)(ny:SmA x29):C Z3c [.agg [I x0,I x1,I x2,I x3,I x4,.t (.lst 2 (x5.map Zb.c)),I x6,I x7,I x8,I x9,I cc,.t (.lst 2 (x11.map Zb.c)),I cd,I cl,I cn,I co,I cp,.t (.lst 2 (x17.map Zb.c)),I cu,I cv,I cy,I cz,I d,.t (.lst 2 (x23.map Zb.c)),I dc,I dd,I dl,I dn,I dp,.t (.lst 2 (x29.map Zb.c))],.agg [I y0,I y1,I y2,I y3,I y4,.t (.lst 2 (y5.map Zb.c)),I y6,I y7,I y8,I y9,I du,.t (.lst 2 (dv.map Zb.c)),I dy,I dz,I l,I lc,I ld,.t (.lst 2 (ll.map Zb.c)),I ln,I lo,I lp,I lu,I lv,.t (.lst 2 (ly.map Zb.c)),I lz,I n,I nc,I nd,I nl,.t (.lst 2 (nn.map Zb.c))]] []=some (Bo (decide (x0=y0/\x1=y1/\x2=y2/\x3=y3/\x4=y4/\x5=y5/\x6=y6/\x7=y7/\x8=y8/\x9=y9/\cc=du/\x11=dv/\cd=dy/\cl=dz/\cn=l/\co=lc/\cp=ld/\x17=ll/\cu=ln/\cv=lo/\cy=lp/\cz=lu/\d=lv/\x23=ly/\dc=lz/\dd=n/\dl=nc/\dn=nd/\dp=nl/\x29=nn)),[]):=by
 refine run Zbcc rfl ?_;simp[Zy5,Zpf _ _ _ _ _ _ _ _ _ _ _ _ h5,Zpf _ _ _ _ _ _ _ _ _ _ _ _ np,Zpf _ _ _ _ _ _ _ _ _ _ _ _ nu,Zpf _ _ _ _ _ _ _ _ _ _ _ _ nv,Zpf _ _ _ _ _ _ _ _ _ _ _ _ ny]
 repeat' split
 all_goals first|(simp_all;done)|grind
theorem Zbvx(x0 x1 x2 x3 x4:Int)(x5:List Zb)(x6 x7 x8 x9 cd:Int)(cl:List Zb)(cn co cp cu cv:Int)(cy:List Zb)(cz d dc dd dl:Int)(dn:List Zb)(dp du dv dy dz:Int)(l:List Zb)(cc:Int) :C Zbht [.agg [I x0,I x1,I x2,I x3,I x4,.t (.lst 2 (x5.map Zb.c)),I x6,I x7,I x8,I x9,I cd,.t (.lst 2 (cl.map Zb.c)),I cn,I co,I cp,I cu,I cv,.t (.lst 2 (cy.map Zb.c)),I cz,I d,I dc,I dd,I dl,.t (.lst 2 (dn.map Zb.c)),I dp,I du,I dv,I dy,I dz,.t (.lst 2 (l.map Zb.c))],I cc] []=some (I (Za.sz ⟨⟨x0,x1,x2,x3,x4,x5⟩,⟨x6,x7,x8,x9,cd,cl⟩,⟨cn,co,cp,cu,cv,cy⟩,⟨cz,d,dc,dd,dl,dn⟩,⟨dp,du,dv,dy,dz,l⟩⟩ cc),[]):=by
 refine run Zbsm rfl ?_;simp[Zbb7,Zbvv,Za.sz,Zu,sz1]
 repeat' split
 all_goals first|(simp_all;done)|grind
def mkL{α:Type}(f:α->Int->α)(n:α->Nat):List α->Int->List α
 |[],_=>[]
 |x::xs,k=>f x k::mkL f n xs (k+(n x:Int))
def cnL{α:Type}(n:α->Nat):List α->Nat
 |[]=>0
 |x::xs=>n x+cnL n xs
def mkI(xs:List Int)(k:Int):List Int:=mkL (λ_ k=>k) (λ_=>1) xs k
theorem Zbev(x:Int)(xs:List Int)(k:Int):mkI (x::xs) k=k::mkI xs (k+1):=rfl
theorem Zbvy(e:Nat)(fr:List Fr):∀(xs d:List Int) (k:Int),0<=k->k+(xs.length:Int)<=4611686018427387904->d.length+xs.length<=4294967296->EvL C fr [0,1,5] Zo5 ⟨[(0,.own 0),(1,I k),(5,I d.length)],[[(0,.own 0)]],[.xarr e 1 ((d++xs).map ic)]⟩ =
  EvX C fr (.x 0) ⟨[(0,.own 0),(1,I (k+xs.length)),(5,I (d.length+xs.length)),(9,Bo false)],[[(0,.own 0)]],[.xarr e 1 ((d++mkI xs k).map ic)]⟩:=by
 intro xs
 induction xs with
 |nil =>
  intro d k h1 h2 h3;rw[Zi Zo5.eq_1]
  simp[mkI,mkL]
 |cons x xs ih =>
  intro d k h1 h2 h3;simp only[Yn]at h2 h3;have ih':=ih (d++[k]) (k+1) (by omega) (by omega) (by simp;omega);rw[Zi Zo5.eq_1];have g1:IntKind.wrap .i64 ((d.length:Int)+1)=(d.length:Int)+1:=Zt (by omega) (by omega);have g2:IntKind.wrap .i64 (k+1)=k+1:=Zt (by omega) (by omega);have g3:(d.length:Int)<(d.length:Int)+((xs.length:Int)+1):=by omega
  have g4:k+1+(xs.length:Int)=k+((xs.length:Int)+1):=by omega
  have g5:(d.length:Int)+1+(xs.length:Int)=(d.length:Int)+((xs.length:Int)+1):=by omega
  simp[g4,g5]at ih';simp[g1,g2,g3,ih',Zbev]
theorem Zbvz(e:Nat)(xs:List Int)(k:Int)(h1:0<=k)(h2:k+(xs.length:Int)<=4611686018427387904)(h3:SmA xs):C Zqk [.own 0,I k] [.xarr e 1 (xs.map ic)]=some (I (k+xs.length),[.xarr e 1 ((mkI xs k).map ic)]):=by
 refine runM Zbdq rfl ?_;have h4:=λfr=>Zbvy e fr xs [] k h1 h2 (by have:xs.length<=4294967296:=h3;simp;omega)
 simp at h4;simp[Zzn,h4]
theorem Zbv0(n:Nat)(k:Int):C Zqk [.t (.lst n []),I k] []=some (I k,[]):=by
 refine run Zbdq rfl ?_;simp[Zzn,Zi Zo5.eq_1]
theorem Zbv1(fr:List Fr):∀(xs d:List Int) (k:Int),0<=k->k+(xs.length:Int)<=4611686018427387904->d.length+xs.length<=4294967296->EvL C fr [0,1,5] Zta ⟨[(0,L 1 ((d++mkI xs k).map ic)),(1,I k),(5,I d.length)],[[]],[]⟩ =
  EvX C fr (.x 0) ⟨[(0,L 1 ((d++mkI xs k).map ic)),(1,I (k+xs.length)),(5,I (d.length+xs.length)),(9,Bo false)],[[]],[]⟩:=by
 intro xs
 induction xs with
 |nil =>
  intro d k h1 h2 h3;rw[Zi Zta.eq_1]
  simp[mkI,mkL]
 |cons x xs ih =>
  intro d k h1 h2 h3;simp only[Yn]at h2 h3;have ih':=ih (d++[k]) (k+1) (by omega) (by omega) (by simp;omega);rw[Zi Zta.eq_1];have g1:IntKind.wrap .i64 ((d.length:Int)+1)=(d.length:Int)+1:=Zt (by omega) (by omega);have g2:IntKind.wrap .i64 (k+1)=k+1:=Zt (by omega) (by omega);have g3:(d.length:Int)<(d.length:Int)+(((mkI xs (k+1)).length:Int)+1):=by omega
  have g4:k+1+(xs.length:Int)=k+((xs.length:Int)+1):=by omega
  have g5:(d.length:Int)+1+(xs.length:Int)=(d.length:Int)+((xs.length:Int)+1):=by omega
  simp[g4,g5]at ih';simp[g1,g2,g3,ih',Zbev]
theorem strB_one(x:Int):(strB [x]).size=1:=by simp[strB];rfl
theorem Zbv2(fr:List Fr):∀(n:Nat) (k:Int) (out:ByteArray),k.toNat<=n->(out.size:Int)+k<=4611686018427387904->0<=k->∃s,s.size<=out.size+n/\EvL C fr [0,3] Zo4 ⟨[(0,I k),(3,.t (.str out))],[[]],[]⟩=EvX C fr (.x 0) ⟨[(0,I 0),(3,.t (.str s)),(7,Bo false)],[[]],[]⟩:=by
 intro n
 induction n with
 |zero =>
  intro k out h1 h2 h3
  have:k=0:=by omega
  subst this;rw[Zi Zo4.eq_1]
  exact⟨out,by simp⟩
 |succ n ih =>
  intro k out h1 h2 h3;by_cases h0:k=0
  .subst h0;rw[Zi Zo4.eq_1];exact⟨out,by simp⟩
  have hk:0<k:=by omega
  have e:k.tdiv 10=k / 10:=Int.tdiv_eq_ediv_of_nonneg h3;have e2:IntKind.wrap .i64 (k / 10)=k / 10:=Zt (by omega) (by omega);generalize hx:IntKind.wrap .u8 (IntKind.wrap .i64 (48+k.tmod 10))=x;have s1:=strB_one x;have c:1+out.size<=9223372036854775807:=by omega
  obtain⟨s,hs,hr⟩:=ih (k / 10) (strB [x]++out) (by omega) (by rw[ByteArray.size_append,s1];omega) (by omega);rw[ByteArray.size_append,s1]at hs;refine⟨s,by omega,?_⟩;rw[Zi Zo4.eq_1];simp[hk,hx,s1,c,e,e2,hr]
theorem Zbv3(k:Int)(h1:0<=k)(h2:k<=4000000000000000000):∃s,C Zuq [I k] []=some (.t (.str s),[]):=by
 by_cases h0:k=0
 .subst h0;refine⟨⟨#[109,48]⟩,run Zbdp rfl ?_⟩;simp[Zzm]
 .have h3:¬k<=0:=by omega
  obtain⟨s,hs,hr⟩:=Zbv2 [.blk 0,.seq (.seq (.reg [⟨some 18,none,.mov (.s 3)⟩,⟨some 19,none,.bin .add (.c (.t (.str ⟨#[109]⟩))) (.s 18)⟩,⟨some 2,none,.mov (.s 19)⟩] [2]) .ret),.fin 0 [.tmp 2]] k.toNat k ⟨#[]⟩ (Yh _) (by simp[ByteArray.size];omega) h1;have c:(⟨#[109]⟩:ByteArray).size+s.size<=9223372036854775807:=by
   have:(⟨#[]⟩:ByteArray).size=0:=rfl
   have:(⟨#[109]⟩:ByteArray).size=1:=rfl
   omega
  refine⟨⟨#[109]⟩++s,run Zbdp rfl ?_⟩;simp at hr;simp[Zzm,h3,hr,c]
noncomputable def Zg8(k:Int):ByteArray:=match C Zuq [I k] []with
 |some (.t (.str s),[])=>s
 |_=>⟨#[]⟩
theorem Zfn(k:Int)(h1:0<=k)(h2:k<=4000000000000000000):C Zuq [I k] []=some (.t (.str (Zg8 k)),[]):=by
 obtain⟨s,h⟩:=Zbv3 k h1 h2
 have:Zg8 k=s:=by unfold Zg8;rw[h]
 rw[this,h]
theorem Ztj(xs:List Int)(k:Int)(h1:0<=k)(h2:k+(xs.length:Int)<=4000000000000000000)(h3:SmA xs):C Zbiz [L 1 ((mkI xs k).map ic),I k] []=some (I (k+xs.length),[]):=by
 refine run Zbts rfl ?_;have h4:=λfr=>Zbv1 fr xs [] k h1 (by omega) (by have:xs.length<=4294967296:=h3;simp;omega)
 simp at h4;simp[Zbef,h4]
theorem Ztk(xs:List Int)(k:Int)(h1:0<=k)(h2:k+(xs.length:Int)<=4000000000000000000)(h3:SmA xs):(xs.map ic=[]/\(mkI xs (k)).map ic=[]/\C Zqk [.t (.lst 1 []),I k] []=some (I (k+(xs.length:Int)),[]))\/∃y ys,xs.map ic=y::ys/\True/\C Zqk [.own 0,I k] [.xarr unk 1 (y::ys)]=some (I (k+(xs.length:Int)),[.xarr unk 1 ((mkI xs (k)).map ic)]):=by
 have c:=Zbvz unk xs k h1 (by omega) h3
 cases xs with
 |nil=>exact .inl ⟨rfl,rfl,by have:=Zbv0 1 k;simpa[mkI,mkL]using this⟩
 |cons y ys=>exact .inr ⟨_,_,rfl,trivial,c⟩
def Zg9(a:List Int)(k:Int):List Int:=mkI a k
def Zc7(a:List Int):Nat:=a.length
def Zc8(xs:List (List Int))(k:Int):List (List Int):=mkL Zg9 Zc7 xs k
def Z4(xs:List (List Int)):Nat:=cnL Zc7 xs
theorem Zbew(x:List Int)(xs:List (List Int))(k:Int):Zc8 (x::xs) k=Zg9 x k::Zc8 xs (k+(Zc7 x:Int)):=rfl
theorem Zbv4(e:Nat)(fr:List Fr):∀(xs d:List (List Int)) (k:Int),0<=k->k+(Z4 xs:Int)<=4000000000000000000->d.length+xs.length<=4294967296->(∀x∈xs,SmA x)->EvL C fr [0,1,5] Zo9 ⟨[(0,.own 0),(1,I k),(5,I d.length)],[[(0,.own 0)]],[.xarr e 1 ((d++xs).map isc)]⟩ =
  EvX C fr (.x 0) ⟨[(0,.own 0),(1,I (k+Z4 xs)),(5,I (d.length+xs.length)),(9,Bo false)],[[(0,.own 0)]],[.xarr e 1 ((d++Zc8 xs k).map isc)]⟩:=by
 intro xs
 induction xs with
 |nil =>
  intro d k h1 h2 h3 h4;rw[Zi Zo9.eq_1]
  simp[Zc8,Z4,cnL,mkL]
 |cons x xs ih =>
  intro d k h1 h2 h3 h4;have hx:=h4 x (by simp);have e0:Z4 (x::xs)=Zc7 x+Z4 xs:=rfl;rw[e0]at h2;simp only[Yn]at h3;have e1:Zc7 x=x.length:=rfl;have eK:k+(Zc7 x:Int)=k+(x.length:Int):=by omega
  have eL:k+(Z4 (x::xs):Int)=k+(x.length:Int)+(Z4 xs:Int):=by omega
  have ih':=ih (d++[Zg9 x k]) (k+(x.length:Int)) (by omega) (by omega) (by simp;omega) (λy hy=>h4 y (by simp[hy]));rw[Zi Zo9.eq_1,eL,Zbew,eK];have g1:IntKind.wrap .i64 ((d.length:Int)+1)=(d.length:Int)+1:=Zt (by omega) (by omega);have g3:(d.length:Int)<(d.length:Int)+((xs.length:Int)+1):=by omega
  have g5:(d.length:Int)+1+(xs.length:Int)=(d.length:Int)+((xs.length:Int)+1):=by omega
  have m0:=Ztk x (k) (by omega) (by omega) hx;rcases m0 with⟨r0,s0,m0⟩|⟨y0,ys0,r0,s0,m0⟩
  all_goals (simp[g5,Zg9,tI,r0,s0]at ih';simp[g1,g3,m0,r0,s0,ih',Zg9,tI])
theorem Zbv5(e:Nat)(xs:List (List Int))(k:Int)(h1:0<=k)(h2:k+(Z4 xs:Int)<=4000000000000000000)(h3:SmL SmA xs):C Zql [.own 0,I k] [.xarr e 1 (xs.map isc)]=some (I (k+Z4 xs),[.xarr e 1 ((Zc8 xs k).map isc)]):=by
 refine runM Zbeb rfl ?_;have h4:=λfr=>Zbv4 e fr xs [] k h1 h2 (by have:xs.length<=4294967296:=h3.1;simp;omega) h3.2
 simp at h4;simp[Zzv,h4]
theorem Zbv6(n:Nat)(k:Int):C Zql [.t (.lst n []),I k] []=some (I k,[]):=by
 refine run Zbeb rfl ?_;simp[Zzv,Zi Zo9.eq_1]
theorem Zbex(xs:List (List Int))(k:Int)(h1:0<=k)(h2:k+(Z4 xs:Int)<=4000000000000000000)(h3:SmL SmA xs):(xs.map isc=[]/\(Zc8 xs (k)).map isc=[]/\C Zql [.t (.lst 1 []),I k] []=some (I (k+(Z4 xs:Int)),[]))\/∃y ys,xs.map isc=y::ys/\True/\C Zql [.own 0,I k] [.xarr unk 1 (y::ys)]=some (I (k+(Z4 xs:Int)),[.xarr unk 1 ((Zc8 xs (k)).map isc)]):=by
 have c:=Zbv5 unk xs k h1 h2 h3
 cases xs with
 |nil=>exact .inl ⟨rfl,rfl,by have:=Zbv6 1 k;simpa[Zc8,Z4,cnL,mkL]using this⟩
 |cons y ys=>exact .inr ⟨_,_,rfl,trivial,c⟩
def Zlb(a:Atom):Nat:=1+a.Vars.length
def Zlc(xs:List Atom):Nat:=cnL Zlb xs
def Zbv7(a:Zb3):Nat:=1+1+1
def Zi1(xs:List Zb3):Nat:=cnL Zbv7 xs
def Zld(a:Zbs):Nat:=1+Zlc a.Zbj.Atoms+Zi1 a.Region.Plan.Steps+a.Region.Box.Low.length+a.Region.Box.High.length+1+1+1
def Zpg(xs:List Zbs):Nat:=cnL Zld xs
theorem Zbv8(k:Int):C Zbim [.t .nil,I k] []=some (I k,[]):=by
 refine run Zbtf rfl ?_;simp[Zbdt,Zi Zbds.eq_1]
theorem Zbv9(k:Int):C Zbin [.t .nil,I k] []=some (I k,[]):=by
 refine run Zbtg rfl ?_;simp[Zbd0,Zi Zbdz.eq_1]
noncomputable def Zha(a:Zb)(k:Int):Zb:=⟨k,k+1⟩
def Zf8(a:Zb):Nat:=1+1
noncomputable def Zbl(xs:List Zb)(k:Int):List Zb:=mkL Zha Zf8 xs k
def Zk(xs:List Zb):Nat:=cnL Zf8 xs
theorem Zbey(x:Zb)(xs:List Zb)(k:Int):Zbl (x::xs) k=Zha x k::Zbl xs (k+(Zf8 x:Int)):=rfl
theorem Zbwa(e:Nat)(fr:List Fr):∀(xs d:List Zb) (k:Int),0<=k->k+(Zk xs:Int)<=4000000000000000000->d.length+xs.length<=4294967296->(∀x∈xs,x.small)->EvL C fr [0,1,5] Zo6 ⟨[(0,.own 0),(1,I k),(5,I d.length)],[[(0,.own 0)]],[.xarr e 2 ((d++xs).map Zb.c)]⟩ =
  EvX C fr (.x 0) ⟨[(0,.own 0),(1,I (k+Zk xs)),(5,I (d.length+xs.length)),(9,Bo false)],[[(0,.own 0)]],[.xarr e 2 ((d++Zbl xs k).map Zb.c)]⟩:=by
 intro xs
 induction xs with
 |nil =>
  intro d k h1 h2 h3 h4;rw[Zi Zo6.eq_1]
  simp[Zbl,Zk,cnL,mkL]
 |cons x xs ih =>
  intro d k h1 h2 h3 h4;have hx:=h4 x (by simp);have e0:Zk (x::xs)=Zf8 x+Zk xs:=rfl;rw[e0]at h2;simp only[Yn]at h3;rcases x with⟨x0,x1⟩;have e1:Zf8 ⟨x0,x1⟩=1+1:=rfl;have eK:k+(Zf8 ⟨x0,x1⟩:Int)=k+1+1:=by omega
  have eL:k+(Zk (⟨x0,x1⟩::xs):Int)=k+1+1+(Zk xs:Int):=by omega
  have ih':=ih (d++[Zha ⟨x0,x1⟩ k]) (k+1+1) (by omega) (by omega) (by simp;omega) (λy hy=>h4 y (by simp[hy]));rw[Zi Zo6.eq_1,eL,Zbey,eK];have g1:IntKind.wrap .i64 ((d.length:Int)+1)=(d.length:Int)+1:=Zt (by omega) (by omega);have g3:(d.length:Int)<(d.length:Int)+((xs.length:Int)+1):=by omega
  have g5:(d.length:Int)+1+(xs.length:Int)=(d.length:Int)+((xs.length:Int)+1):=by omega
  have w0:IntKind.wrap .i64 (k+1)=k+1:=Zt (by omega) (by omega);have w1:IntKind.wrap .i64 (k+1+1)=k+1+1:=Zt (by omega) (by omega)
  (simp[g5,Zha,tI]at ih';simp[g1,g3,w0,w1,ih',Zha,tI])
theorem Zbwb(e:Nat)(xs:List Zb)(k:Int)(h1:0<=k)(h2:k+(Zk xs:Int)<=4000000000000000000)(h3:SmA xs):C Z3y [.own 0,I k] [.xarr e 2 (xs.map Zb.c)]=some (I (k+Zk xs),[.xarr e 2 ((Zbl xs k).map Zb.c)]):=by
 refine runM Zbdr rfl ?_;have h4:=λfr=>Zbwa e fr xs [] k h1 h2 (by have:xs.length<=4294967296:=h3;simp;omega) (λ_ _=>trivial)
 simp at h4;simp[Zzo,h4]
theorem Zbwc(k:Int):C Z3y [.t .nil,I k] []=some (I k,[]):=by
 refine run Zbdr rfl ?_;simp[Zzo,Zi Zo6.eq_1]
theorem Zbwd(fr:List Fr):∀(xs d:List Zb) (k:Int),0<=k->k+(Zk xs:Int)<=4000000000000000000->d.length+xs.length<=4294967296->(∀x∈xs,x.small)->EvL C fr [0,1,5] Zpd ⟨[(0,L 2 ((d++Zbl xs k).map Zb.c)),(1,I k),(5,I d.length)],[[]],[]⟩ =
  EvX C fr (.x 0) ⟨[(0,L 2 ((d++Zbl xs k).map Zb.c)),(1,I (k+Zk xs)),(5,I (d.length+xs.length)),(9,Bo false)],[[]],[]⟩:=by
 intro xs
 induction xs with
 |nil =>
  intro d k h1 h2 h3 h4;rw[Zi Zpd.eq_1]
  simp[Zbl,Zk,cnL,mkL]
 |cons x xs ih =>
  intro d k h1 h2 h3 h4;have hx:=h4 x (by simp);have e0:Zk (x::xs)=Zf8 x+Zk xs:=rfl;rw[e0]at h2;simp only[Yn]at h3;rcases x with⟨x0,x1⟩;have e1:Zf8 ⟨x0,x1⟩=1+1:=rfl;have eK:k+(Zf8 ⟨x0,x1⟩:Int)=k+1+1:=by omega
  have eL:k+(Zk (⟨x0,x1⟩::xs):Int)=k+1+1+(Zk xs:Int):=by omega
  have ih':=ih (d++[Zha ⟨x0,x1⟩ k]) (k+1+1) (by omega) (by omega) (by simp;omega) (λy hy=>h4 y (by simp[hy]));rw[Zi Zpd.eq_1,eL,Zbey,eK];have g1:IntKind.wrap .i64 ((d.length:Int)+1)=(d.length:Int)+1:=Zt (by omega) (by omega);have g3:(d.length:Int)<(d.length:Int)+(((Zbl xs (k+1+1)).length:Int)+1):=by omega
  have g5:(d.length:Int)+1+(xs.length:Int)=(d.length:Int)+((xs.length:Int)+1):=by omega
  have w0:IntKind.wrap .i64 (k+1)=k+1:=Zt (by omega) (by omega);have w1:IntKind.wrap .i64 (k+1+1)=k+1+1:=Zt (by omega) (by omega);simp[g5,Zha,tI]at ih';simp +decide[g1,g3,w0,w1,ih',Zha,tI]
theorem Zbwe(xs:List Zb)(k:Int)(h1:0<=k)(h2:k+(Zk xs:Int)<=4000000000000000000)(h3:SmA xs):C Z36 [L 2 ((Zbl xs k).map Zb.c),I k] []=some (I (k+Zk xs),[]):=by
 refine run Zbeg rfl ?_;have h4:=λfr=>Zbwd fr xs [] k h1 h2 (by have:xs.length<=4294967296:=h3;simp;omega) (λ_ _=>trivial)
 simp at h4;simp[Zzz,h4]
theorem Zbwf(k:Int):C Z36 [.t .nil,I k] []=some (I k,[]):=by
 refine run Zbeg rfl ?_;simp[Zzz,Zi Zpd.eq_1]
noncomputable def Zhb(a:Ze)(k:Int):Ze:=⟨Zg8 (k),mkI a.From (k+1),k+1+(a.From.length:Int)⟩
def Zdo(a:Ze):Nat:=1+a.From.length+1
noncomputable def Zdp(xs:List Ze)(k:Int):List Ze:=mkL Zhb Zdo xs k
def Z1(xs:List Ze):Nat:=cnL Zdo xs
theorem Zbez(x:Ze)(xs:List Ze)(k:Int):Zdp (x::xs) k=Zhb x k::Zdp xs (k+(Zdo x:Int)):=rfl
theorem Zbwg(e:Nat)(fr:List Fr):∀(xs d:List Ze) (k:Int),0<=k->k+(Z1 xs:Int)<=4000000000000000000->d.length+xs.length<=4294967296->(∀x∈xs,x.small)->EvL C fr [0,1,5] Zox ⟨[(0,.own 0),(1,I k),(5,I d.length)],[[(0,.own 0)]],[.xarr e 3 ((d++xs).map Ze.c)]⟩ =
  EvX C fr (.x 0) ⟨[(0,.own 0),(1,I (k+Z1 xs)),(5,I (d.length+xs.length)),(9,Bo false)],[[(0,.own 0)]],[.xarr e 3 ((d++Zdp xs k).map Ze.c)]⟩:=by
 intro xs
 induction xs with
 |nil =>
  intro d k h1 h2 h3 h4;rw[Zi Zox.eq_1]
  simp[Zdp,Z1,cnL,mkL]
 |cons x xs ih =>
  intro d k h1 h2 h3 h4;have hx:=h4 x (by simp);have e0:Z1 (x::xs)=Zdo x+Z1 xs:=rfl;rw[e0]at h2;simp only[Yn]at h3;rcases x with⟨x0,x1,x2⟩;have e1:Zdo ⟨x0,x1,x2⟩=1+x1.length+1:=rfl;have eK:k+(Zdo ⟨x0,x1,x2⟩:Int)=k+1+(x1.length:Int)+1:=by omega
  have eL:k+(Z1 (⟨x0,x1,x2⟩::xs):Int)=k+1+(x1.length:Int)+1+(Z1 xs:Int):=by omega
  have ih':=ih (d++[Zhb ⟨x0,x1,x2⟩ k]) (k+1+(x1.length:Int)+1) (by omega) (by omega) (by simp;omega) (λy hy=>h4 y (by simp[hy]));rw[Zi Zox.eq_1,eL,Zbez,eK];have g1:IntKind.wrap .i64 ((d.length:Int)+1)=(d.length:Int)+1:=Zt (by omega) (by omega);have g3:(d.length:Int)<(d.length:Int)+((xs.length:Int)+1):=by omega
  have g5:(d.length:Int)+1+(xs.length:Int)=(d.length:Int)+((xs.length:Int)+1):=by omega
  have w0:IntKind.wrap .i64 (k+1)=k+1:=Zt (by omega) (by omega);have w1:IntKind.wrap .i64 (k+1+(x1.length:Int)+1)=k+1+(x1.length:Int)+1:=Zt (by omega) (by omega);have t0:=Zfn (k) (by omega) (by omega);have m0:=Ztk x1 (k+1) (by omega) (by omega) (by first|exact hx|exact hx.1|exact hx.2|exact hx.2.1|exact hx.2.2|exact hx.2.2.1|exact hx.2.2.2|exact hx.2.2.2.1|exact hx.2.2.2.2|exact hx.2.2.2.2.1|exact hx.2.2.2.2.2);rcases m0 with⟨r0,s0,m0⟩|⟨y0,ys0,r0,s0,m0⟩
  all_goals (simp[g5,Zhb,tI,r0,s0]at ih';simp[g1,g3,w0,w1,t0,m0,r0,s0,ih',Zhb,tI])
theorem Zbwh(e:Nat)(xs:List Ze)(k:Int)(h1:0<=k)(h2:k+(Z1 xs:Int)<=4000000000000000000)(h3:SmL Ze.small xs):C Z3o [.own 0,I k] [.xarr e 3 (xs.map Ze.c)]=some (I (k+Z1 xs),[.xarr e 3 ((Zdp xs k).map Ze.c)]):=by
 refine runM Zbcz rfl ?_;have h4:=λfr=>Zbwg e fr xs [] k h1 h2 (by have:xs.length<=4294967296:=h3.1;simp;omega) h3.2
 simp at h4;simp[Zzf,h4]
theorem Zbwi(k:Int):C Z3o [.t .nil,I k] []=some (I k,[]):=by
 refine run Zbcz rfl ?_;simp[Zzf,Zi Zox.eq_1]
theorem Zbwj(fr:List Fr):∀(xs d:List Ze) (k:Int),0<=k->k+(Z1 xs:Int)<=4000000000000000000->d.length+xs.length<=4294967296->(∀x∈xs,x.small)->EvL C fr [0,1,5] Zo7 ⟨[(0,L 3 ((d++Zdp xs k).map Ze.c)),(1,I k),(5,I d.length)],[[]],[]⟩ =
  EvX C fr (.x 0) ⟨[(0,L 3 ((d++Zdp xs k).map Ze.c)),(1,I (k+Z1 xs)),(5,I (d.length+xs.length)),(9,Bo false)],[[]],[]⟩:=by
 intro xs
 induction xs with
 |nil =>
  intro d k h1 h2 h3 h4;rw[Zi Zo7.eq_1]
  simp[Zdp,Z1,cnL,mkL]
 |cons x xs ih =>
  intro d k h1 h2 h3 h4;have hx:=h4 x (by simp);have e0:Z1 (x::xs)=Zdo x+Z1 xs:=rfl;rw[e0]at h2;simp only[Yn]at h3;rcases x with⟨x0,x1,x2⟩;have e1:Zdo ⟨x0,x1,x2⟩=1+x1.length+1:=rfl;have eK:k+(Zdo ⟨x0,x1,x2⟩:Int)=k+1+(x1.length:Int)+1:=by omega
  have eL:k+(Z1 (⟨x0,x1,x2⟩::xs):Int)=k+1+(x1.length:Int)+1+(Z1 xs:Int):=by omega
  have ih':=ih (d++[Zhb ⟨x0,x1,x2⟩ k]) (k+1+(x1.length:Int)+1) (by omega) (by omega) (by simp;omega) (λy hy=>h4 y (by simp[hy]));rw[Zi Zo7.eq_1,eL,Zbez,eK];have g1:IntKind.wrap .i64 ((d.length:Int)+1)=(d.length:Int)+1:=Zt (by omega) (by omega);have g3:(d.length:Int)<(d.length:Int)+(((Zdp xs (k+1+(x1.length:Int)+1)).length:Int)+1):=by omega
  have g5:(d.length:Int)+1+(xs.length:Int)=(d.length:Int)+((xs.length:Int)+1):=by omega
  have w0:IntKind.wrap .i64 (k+1)=k+1:=Zt (by omega) (by omega);have w1:IntKind.wrap .i64 (k+1+(x1.length:Int)+1)=k+1+(x1.length:Int)+1:=Zt (by omega) (by omega);have t0:=Zfn (k) (by omega) (by omega);have m0:=Ztj x1 (k+1) (by omega) (by omega) (by first|exact hx|exact hx.1|exact hx.2|exact hx.2.1|exact hx.2.2|exact hx.2.2.1|exact hx.2.2.2|exact hx.2.2.2.1|exact hx.2.2.2.2|exact hx.2.2.2.2.1|exact hx.2.2.2.2.2);have z0:¬(k+1+(x1.length:Int)<0):=by omega
  simp[g5,Zhb,tI]at ih';simp +decide[g1,g3,w0,w1,t0,m0,z0,ih',Zhb,tI]
theorem Zbwk(xs:List Ze)(k:Int)(h1:0<=k)(h2:k+(Z1 xs:Int)<=4000000000000000000)(h3:SmL Ze.small xs):C Z31 [L 3 ((Zdp xs k).map Ze.c),I k] []=some (I (k+Z1 xs),[]):=by
 refine run Zbdw rfl ?_;have h4:=λfr=>Zbwj fr xs [] k h1 h2 (by have:xs.length<=4294967296:=h3.1;simp;omega) h3.2
 simp at h4;simp[Zzr,h4]
theorem Zbwl(k:Int):C Z31 [.t .nil,I k] []=some (I k,[]):=by
 refine run Zbdw rfl ?_;simp[Zzr,Zi Zo7.eq_1]
noncomputable def Zhc(a:Zj)(k:Int):Zj:=⟨mkI a.Columns (k),Zc8 a.Values (k+(a.Columns.length:Int)),mkI a.Counts (k+(a.Columns.length:Int)+(Z4 a.Values:Int))⟩
def Zd4(a:Zj):Nat:=a.Columns.length+Z4 a.Values+a.Counts.length
noncomputable def Zdq(xs:List Zj)(k:Int):List Zj:=mkL Zhc Zd4 xs k
def Zbf(xs:List Zj):Nat:=cnL Zd4 xs
theorem Zbe0(x:Zj)(xs:List Zj)(k:Int):Zdq (x::xs) k=Zhc x k::Zdq xs (k+(Zd4 x:Int)):=rfl
theorem Zbwm(e:Nat)(fr:List Fr):∀(xs d:List Zj) (k:Int),0<=k->k+(Zbf xs:Int)<=4000000000000000000->d.length+xs.length<=4294967296->(∀x∈xs,x.small)->EvL C fr [0,1,5] Zpa ⟨[(0,.own 0),(1,I k),(5,I d.length)],[[(0,.own 0)]],[.xarr e 3 ((d++xs).map Zj.c)]⟩ =
  EvX C fr (.x 0) ⟨[(0,.own 0),(1,I (k+Zbf xs)),(5,I (d.length+xs.length)),(9,Bo false)],[[(0,.own 0)]],[.xarr e 3 ((d++Zdq xs k).map Zj.c)]⟩:=by
 intro xs
 induction xs with
 |nil =>
  intro d k h1 h2 h3 h4;rw[Zi Zpa.eq_1]
  simp[Zdq,Zbf,cnL,mkL]
 |cons x xs ih =>
  intro d k h1 h2 h3 h4;have hx:=h4 x (by simp);have e0:Zbf (x::xs)=Zd4 x+Zbf xs:=rfl;rw[e0]at h2;simp only[Yn]at h3;rcases x with⟨x0,x1,x2⟩;have e1:Zd4 ⟨x0,x1,x2⟩=x0.length+Z4 x1+x2.length:=rfl;have eK:k+(Zd4 ⟨x0,x1,x2⟩:Int)=k+(x0.length:Int)+(Z4 x1:Int)+(x2.length:Int):=by omega
  have eL:k+(Zbf (⟨x0,x1,x2⟩::xs):Int)=k+(x0.length:Int)+(Z4 x1:Int)+(x2.length:Int)+(Zbf xs:Int):=by omega
  have ih':=ih (d++[Zhc ⟨x0,x1,x2⟩ k]) (k+(x0.length:Int)+(Z4 x1:Int)+(x2.length:Int)) (by omega) (by omega) (by simp;omega) (λy hy=>h4 y (by simp[hy]));rw[Zi Zpa.eq_1,eL,Zbe0,eK];have g1:IntKind.wrap .i64 ((d.length:Int)+1)=(d.length:Int)+1:=Zt (by omega) (by omega);have g3:(d.length:Int)<(d.length:Int)+((xs.length:Int)+1):=by omega
  have g5:(d.length:Int)+1+(xs.length:Int)=(d.length:Int)+((xs.length:Int)+1):=by omega
  have m0:=Ztk x0 (k) (by omega) (by omega) (by first|exact hx|exact hx.1|exact hx.2|exact hx.2.1|exact hx.2.2|exact hx.2.2.1|exact hx.2.2.2|exact hx.2.2.2.1|exact hx.2.2.2.2|exact hx.2.2.2.2.1|exact hx.2.2.2.2.2);have m1:=Zbex x1 (k+(x0.length:Int)) (by omega) (by omega) (by first|exact hx|exact hx.1|exact hx.2|exact hx.2.1|exact hx.2.2|exact hx.2.2.1|exact hx.2.2.2|exact hx.2.2.2.1|exact hx.2.2.2.2|exact hx.2.2.2.2.1|exact hx.2.2.2.2.2);have m2:=Ztk x2 (k+(x0.length:Int)+(Z4 x1:Int)) (by omega) (by omega) (by first|exact hx|exact hx.1|exact hx.2|exact hx.2.1|exact hx.2.2|exact hx.2.2.1|exact hx.2.2.2|exact hx.2.2.2.1|exact hx.2.2.2.2|exact hx.2.2.2.2.1|exact hx.2.2.2.2.2);rcases m0 with⟨r0,s0,m0⟩|⟨y0,ys0,r0,s0,m0⟩
  all_goals rcases m1 with⟨r1,s1,m1⟩|⟨y1,ys1,r1,s1,m1⟩
  all_goals rcases m2 with⟨r2,s2,m2⟩|⟨y2,ys2,r2,s2,m2⟩
  all_goals (simp[g5,Zhc,tI,tII,r0,s0,r1,s1,r2,s2]at ih';simp[g1,g3,m0,r0,s0,m1,r1,s1,m2,r2,s2,ih',Zhc,tI,tII])
theorem Zbwn(e:Nat)(xs:List Zj)(k:Int)(h1:0<=k)(h2:k+(Zbf xs:Int)<=4000000000000000000)(h3:SmL Zj.small xs):C Zqm [.own 0,I k] [.xarr e 3 (xs.map Zj.c)]=some (I (k+Zbf xs),[.xarr e 3 ((Zdq xs k).map Zj.c)]):=by
 refine runM Zbec rfl ?_;have h4:=λfr=>Zbwm e fr xs [] k h1 h2 (by have:xs.length<=4294967296:=h3.1;simp;omega) h3.2
 simp at h4;simp[Zzw,h4]
theorem Zbwo(n:Nat)(k:Int):C Zqm [.t (.lst n []),I k] []=some (I k,[]):=by
 refine run Zbec rfl ?_;simp[Zzw,Zi Zpa.eq_1]
theorem Zbwp(xs:List Zj)(k:Int)(h1:0<=k)(h2:k+(Zbf xs:Int)<=4000000000000000000)(h3:SmL Zj.small xs):(xs.map Zj.c=[]/\(Zdq xs (k)).map Zj.c=[]/\C Zqm [.t (.lst 3 []),I k] []=some (I (k+(Zbf xs:Int)),[]))\/∃y ys,xs.map Zj.c=y::ys/\True/\C Zqm [.own 0,I k] [.xarr unk 3 (y::ys)]=some (I (k+(Zbf xs:Int)),[.xarr unk 3 ((Zdq xs (k)).map Zj.c)]):=by
 have c:=Zbwn unk xs k h1 h2 h3
 cases xs with
 |nil=>exact .inl ⟨rfl,rfl,by have:=Zbwo 3 k;simpa[Zdq,Zbf,cnL,mkL]using this⟩
 |cons y ys=>exact .inr ⟨_,_,rfl,trivial,c⟩
theorem Zbwq(fr:List Fr):∀(xs d:List (List Int)) (k:Int),0<=k->k+(Z4 xs:Int)<=4000000000000000000->d.length+xs.length<=4294967296->(∀x∈xs,SmA x)->EvL C fr [0,1,5] Ztf ⟨[(0,L 1 ((d++Zc8 xs k).map isc)),(1,I k),(5,I d.length)],[[]],[]⟩ =
  EvX C fr (.x 0) ⟨[(0,L 1 ((d++Zc8 xs k).map isc)),(1,I (k+Z4 xs)),(5,I (d.length+xs.length)),(9,Bo false)],[[]],[]⟩:=by
 intro xs
 induction xs with
 |nil =>
  intro d k h1 h2 h3 h4;rw[Zi Ztf.eq_1]
  simp[Zc8,Z4,cnL,mkL]
 |cons x xs ih =>
  intro d k h1 h2 h3 h4;have hx:=h4 x (by simp);have e0:Z4 (x::xs)=Zc7 x+Z4 xs:=rfl;rw[e0]at h2;simp only[Yn]at h3;have e1:Zc7 x=x.length:=rfl;have eK:k+(Zc7 x:Int)=k+(x.length:Int):=by omega
  have eL:k+(Z4 (x::xs):Int)=k+(x.length:Int)+(Z4 xs:Int):=by omega
  have ih':=ih (d++[Zg9 x k]) (k+(x.length:Int)) (by omega) (by omega) (by simp;omega) (λy hy=>h4 y (by simp[hy]));rw[Zi Ztf.eq_1,eL,Zbew,eK];have g1:IntKind.wrap .i64 ((d.length:Int)+1)=(d.length:Int)+1:=Zt (by omega) (by omega);have g3:(d.length:Int)<(d.length:Int)+(((Zc8 xs (k+(x.length:Int))).length:Int)+1):=by omega
  have g5:(d.length:Int)+1+(xs.length:Int)=(d.length:Int)+((xs.length:Int)+1):=by omega
  have m0:=Ztj x (k) (by omega) (by omega) hx;have z0:¬(k+(x.length:Int)<0):=by omega
  simp[g5,Zg9,tI]at ih';simp +decide[g1,g3,m0,z0,ih',Zg9,tI]
theorem Zbe1(xs:List (List Int))(k:Int)(h1:0<=k)(h2:k+(Z4 xs:Int)<=4000000000000000000)(h3:SmL SmA xs):C Zbi6 [L 1 ((Zc8 xs k).map isc),I k] []=some (I (k+Z4 xs),[]):=by
 refine run Zbtz rfl ?_;have h4:=λfr=>Zbwq fr xs [] k h1 h2 (by have:xs.length<=4294967296:=h3.1;simp;omega) h3.2
 simp at h4;simp[Zbel,h4]
theorem Zbwr(fr:List Fr):∀(xs d:List Zj) (k:Int),0<=k->k+(Zbf xs:Int)<=4000000000000000000->d.length+xs.length<=4294967296->(∀x∈xs,x.small)->EvL C fr [0,1,5] Ztg ⟨[(0,L 3 ((d++Zdq xs k).map Zj.c)),(1,I k),(5,I d.length)],[[]],[]⟩ =
  EvX C fr (.x 0) ⟨[(0,L 3 ((d++Zdq xs k).map Zj.c)),(1,I (k+Zbf xs)),(5,I (d.length+xs.length)),(9,Bo false)],[[]],[]⟩:=by
 intro xs
 induction xs with
 |nil =>
  intro d k h1 h2 h3 h4;rw[Zi Ztg.eq_1]
  simp[Zdq,Zbf,cnL,mkL]
 |cons x xs ih =>
  intro d k h1 h2 h3 h4;have hx:=h4 x (by simp);have e0:Zbf (x::xs)=Zd4 x+Zbf xs:=rfl;rw[e0]at h2;simp only[Yn]at h3;rcases x with⟨x0,x1,x2⟩;have e1:Zd4 ⟨x0,x1,x2⟩=x0.length+Z4 x1+x2.length:=rfl;have eK:k+(Zd4 ⟨x0,x1,x2⟩:Int)=k+(x0.length:Int)+(Z4 x1:Int)+(x2.length:Int):=by omega
  have eL:k+(Zbf (⟨x0,x1,x2⟩::xs):Int)=k+(x0.length:Int)+(Z4 x1:Int)+(x2.length:Int)+(Zbf xs:Int):=by omega
  have ih':=ih (d++[Zhc ⟨x0,x1,x2⟩ k]) (k+(x0.length:Int)+(Z4 x1:Int)+(x2.length:Int)) (by omega) (by omega) (by simp;omega) (λy hy=>h4 y (by simp[hy]));rw[Zi Ztg.eq_1,eL,Zbe0,eK];have g1:IntKind.wrap .i64 ((d.length:Int)+1)=(d.length:Int)+1:=Zt (by omega) (by omega);have g3:(d.length:Int)<(d.length:Int)+(((Zdq xs (k+(x0.length:Int)+(Z4 x1:Int)+(x2.length:Int))).length:Int)+1):=by omega
  have g5:(d.length:Int)+1+(xs.length:Int)=(d.length:Int)+((xs.length:Int)+1):=by omega
  have m0:=Ztj x0 (k) (by omega) (by omega) (by first|exact hx|exact hx.1|exact hx.2|exact hx.2.1|exact hx.2.2|exact hx.2.2.1|exact hx.2.2.2|exact hx.2.2.2.1|exact hx.2.2.2.2|exact hx.2.2.2.2.1|exact hx.2.2.2.2.2);have z0:¬(k+(x0.length:Int)<0):=by omega
  have m1:=Zbe1 x1 (k+(x0.length:Int)) (by omega) (by omega) (by first|exact hx|exact hx.1|exact hx.2|exact hx.2.1|exact hx.2.2|exact hx.2.2.1|exact hx.2.2.2|exact hx.2.2.2.1|exact hx.2.2.2.2|exact hx.2.2.2.2.1|exact hx.2.2.2.2.2);have z1:¬(k+(x0.length:Int)+(Z4 x1:Int)<0):=by omega
  have m2:=Ztj x2 (k+(x0.length:Int)+(Z4 x1:Int)) (by omega) (by omega) (by first|exact hx|exact hx.1|exact hx.2|exact hx.2.1|exact hx.2.2|exact hx.2.2.1|exact hx.2.2.2|exact hx.2.2.2.1|exact hx.2.2.2.2|exact hx.2.2.2.2.1|exact hx.2.2.2.2.2);have z2:¬(k+(x0.length:Int)+(Z4 x1:Int)+(x2.length:Int)<0):=by omega
  simp[g5,Zhc,tI,tII]at ih';simp +decide[g1,g3,m0,z0,m1,z1,m2,z2,ih',Zhc,tI,tII]
theorem Zbws(xs:List Zj)(k:Int)(h1:0<=k)(h2:k+(Zbf xs:Int)<=4000000000000000000)(h3:SmL Zj.small xs):C Zbi7 [L 3 ((Zdq xs k).map Zj.c),I k] []=some (I (k+Zbf xs),[]):=by
 refine run Zbt0 rfl ?_;have h4:=λfr=>Zbwr fr xs [] k h1 h2 (by have:xs.length<=4294967296:=h3.1;simp;omega) h3.2
 simp at h4;simp[Zbem,h4]
noncomputable def Zhd(a:Zf)(k:Int):Zf:=⟨Zg8 (k),k+1,Zg8 (k+1+1),k+1+1+1⟩
def Zdr(a:Zf):Nat:=1+1+1+1
noncomputable def Zds(xs:List Zf)(k:Int):List Zf:=mkL Zhd Zdr xs k
def Z5(xs:List Zf):Nat:=cnL Zdr xs
theorem Zbe2(x:Zf)(xs:List Zf)(k:Int):Zds (x::xs) k=Zhd x k::Zds xs (k+(Zdr x:Int)):=rfl
theorem Zbwt(e:Nat)(fr:List Fr):∀(xs d:List Zf) (k:Int),0<=k->k+(Z5 xs:Int)<=4000000000000000000->d.length+xs.length<=4294967296->(∀x∈xs,x.small)->EvL C fr [0,1,5] Zoy ⟨[(0,.own 0),(1,I k),(5,I d.length)],[[(0,.own 0)]],[.xarr e 4 ((d++xs).map Zf.c)]⟩ =
  EvX C fr (.x 0) ⟨[(0,.own 0),(1,I (k+Z5 xs)),(5,I (d.length+xs.length)),(9,Bo false)],[[(0,.own 0)]],[.xarr e 4 ((d++Zds xs k).map Zf.c)]⟩:=by
 intro xs
 induction xs with
 |nil =>
  intro d k h1 h2 h3 h4;rw[Zi Zoy.eq_1]
  simp[Zds,Z5,cnL,mkL]
 |cons x xs ih =>
  intro d k h1 h2 h3 h4;have hx:=h4 x (by simp);have e0:Z5 (x::xs)=Zdr x+Z5 xs:=rfl;rw[e0]at h2;simp only[Yn]at h3;rcases x with⟨x0,x1,x2,x3⟩;have e1:Zdr ⟨x0,x1,x2,x3⟩=1+1+1+1:=rfl;have eK:k+(Zdr ⟨x0,x1,x2,x3⟩:Int)=k+1+1+1+1:=by omega
  have eL:k+(Z5 (⟨x0,x1,x2,x3⟩::xs):Int)=k+1+1+1+1+(Z5 xs:Int):=by omega
  have ih':=ih (d++[Zhd ⟨x0,x1,x2,x3⟩ k]) (k+1+1+1+1) (by omega) (by omega) (by simp;omega) (λy hy=>h4 y (by simp[hy]));rw[Zi Zoy.eq_1,eL,Zbe2,eK];have g1:IntKind.wrap .i64 ((d.length:Int)+1)=(d.length:Int)+1:=Zt (by omega) (by omega);have g3:(d.length:Int)<(d.length:Int)+((xs.length:Int)+1):=by omega
  have g5:(d.length:Int)+1+(xs.length:Int)=(d.length:Int)+((xs.length:Int)+1):=by omega
  have w0:IntKind.wrap .i64 (k+1)=k+1:=Zt (by omega) (by omega);have w1:IntKind.wrap .i64 (k+1+1)=k+1+1:=Zt (by omega) (by omega);have w2:IntKind.wrap .i64 (k+1+1+1)=k+1+1+1:=Zt (by omega) (by omega);have w3:IntKind.wrap .i64 (k+1+1+1+1)=k+1+1+1+1:=Zt (by omega) (by omega);have t0:=Zfn (k) (by omega) (by omega);have t1:=Zfn (k+1+1) (by omega) (by omega)
  (simp[g5,Zhd,tI]at ih';simp[g1,g3,w0,w1,w2,w3,t0,t1,ih',Zhd,tI])
theorem Zbwu(e:Nat)(xs:List Zf)(k:Int)(h1:0<=k)(h2:k+(Z5 xs:Int)<=4000000000000000000)(h3:SmL Zf.small xs):C Z3p [.own 0,I k] [.xarr e 4 (xs.map Zf.c)]=some (I (k+Z5 xs),[.xarr e 4 ((Zds xs k).map Zf.c)]):=by
 refine runM Zbc0 rfl ?_;have h4:=λfr=>Zbwt e fr xs [] k h1 h2 (by have:xs.length<=4294967296:=h3.1;simp;omega) h3.2
 simp at h4;simp[Zzg,h4]
theorem Zbwv(k:Int):C Z3p [.t .nil,I k] []=some (I k,[]):=by
 refine run Zbc0 rfl ?_;simp[Zzg,Zi Zoy.eq_1]
theorem Zbww(fr:List Fr):∀(xs d:List Zf) (k:Int),0<=k->k+(Z5 xs:Int)<=4000000000000000000->d.length+xs.length<=4294967296->(∀x∈xs,x.small)->EvL C fr [0,1,5] Zo8 ⟨[(0,L 4 ((d++Zds xs k).map Zf.c)),(1,I k),(5,I d.length)],[[]],[]⟩ =
  EvX C fr (.x 0) ⟨[(0,L 4 ((d++Zds xs k).map Zf.c)),(1,I (k+Z5 xs)),(5,I (d.length+xs.length)),(9,Bo false)],[[]],[]⟩:=by
 intro xs
 induction xs with
 |nil =>
  intro d k h1 h2 h3 h4;rw[Zi Zo8.eq_1]
  simp[Zds,Z5,cnL,mkL]
 |cons x xs ih =>
  intro d k h1 h2 h3 h4;have hx:=h4 x (by simp);have e0:Z5 (x::xs)=Zdr x+Z5 xs:=rfl;rw[e0]at h2;simp only[Yn]at h3;rcases x with⟨x0,x1,x2,x3⟩;have e1:Zdr ⟨x0,x1,x2,x3⟩=1+1+1+1:=rfl;have eK:k+(Zdr ⟨x0,x1,x2,x3⟩:Int)=k+1+1+1+1:=by omega
  have eL:k+(Z5 (⟨x0,x1,x2,x3⟩::xs):Int)=k+1+1+1+1+(Z5 xs:Int):=by omega
  have ih':=ih (d++[Zhd ⟨x0,x1,x2,x3⟩ k]) (k+1+1+1+1) (by omega) (by omega) (by simp;omega) (λy hy=>h4 y (by simp[hy]));rw[Zi Zo8.eq_1,eL,Zbe2,eK];have g1:IntKind.wrap .i64 ((d.length:Int)+1)=(d.length:Int)+1:=Zt (by omega) (by omega);have g3:(d.length:Int)<(d.length:Int)+(((Zds xs (k+1+1+1+1)).length:Int)+1):=by omega
  have g5:(d.length:Int)+1+(xs.length:Int)=(d.length:Int)+((xs.length:Int)+1):=by omega
  have w0:IntKind.wrap .i64 (k+1)=k+1:=Zt (by omega) (by omega);have w1:IntKind.wrap .i64 (k+1+1)=k+1+1:=Zt (by omega) (by omega);have w2:IntKind.wrap .i64 (k+1+1+1)=k+1+1+1:=Zt (by omega) (by omega);have w3:IntKind.wrap .i64 (k+1+1+1+1)=k+1+1+1+1:=Zt (by omega) (by omega);have t0:=Zfn (k) (by omega) (by omega);have t1:=Zfn (k+1+1) (by omega) (by omega);simp[g5,Zhd,tI]at ih';simp +decide[g1,g3,w0,w1,w2,w3,t0,t1,ih',Zhd,tI]
theorem Zbwx(xs:List Zf)(k:Int)(h1:0<=k)(h2:k+(Z5 xs:Int)<=4000000000000000000)(h3:SmL Zf.small xs):C Z32 [L 4 ((Zds xs k).map Zf.c),I k] []=some (I (k+Z5 xs),[]):=by
 refine run Zbdx rfl ?_;have h4:=λfr=>Zbww fr xs [] k h1 h2 (by have:xs.length<=4294967296:=h3.1;simp;omega) h3.2
 simp at h4;simp[Zzs,h4]
theorem Zbwy(k:Int):C Z32 [.t .nil,I k] []=some (I k,[]):=by
 refine run Zbdx rfl ?_;simp[Zzs,Zi Zo8.eq_1]
noncomputable def Zhe(a:Zc)(k:Int):Zc:=⟨Zg8 (k),k+1,Zc8 a.Rows (k+1+1)⟩
def Zc9(a:Zc):Nat:=1+1+Z4 a.Rows
noncomputable def Zcu(xs:List Zc)(k:Int):List Zc:=mkL Zhe Zc9 xs k
def Zx(xs:List Zc):Nat:=cnL Zc9 xs
theorem Zbe3(x:Zc)(xs:List Zc)(k:Int):Zcu (x::xs) k=Zhe x k::Zcu xs (k+(Zc9 x:Int)):=rfl
theorem Zbwz(e:Nat)(fr:List Fr):∀(xs d:List Zc) (k:Int),0<=k->k+(Zx xs:Int)<=4000000000000000000->d.length+xs.length<=4294967296->(∀x∈xs,x.small)->EvL C fr [0,1,5] Zo2 ⟨[(0,.own 0),(1,I k),(5,I d.length)],[[(0,.own 0)]],[.xarr e 3 ((d++xs).map Zc.c)]⟩ =
  EvX C fr (.x 0) ⟨[(0,.own 0),(1,I (k+Zx xs)),(5,I (d.length+xs.length)),(9,Bo false)],[[(0,.own 0)]],[.xarr e 3 ((d++Zcu xs k).map Zc.c)]⟩:=by
 intro xs
 induction xs with
 |nil =>
  intro d k h1 h2 h3 h4;rw[Zi Zo2.eq_1]
  simp[Zcu,Zx,cnL,mkL]
 |cons x xs ih =>
  intro d k h1 h2 h3 h4;have hx:=h4 x (by simp);have e0:Zx (x::xs)=Zc9 x+Zx xs:=rfl;rw[e0]at h2;simp only[Yn]at h3;rcases x with⟨x0,x1,x2⟩;have e1:Zc9 ⟨x0,x1,x2⟩=1+1+Z4 x2:=rfl;have eK:k+(Zc9 ⟨x0,x1,x2⟩:Int)=k+1+1+(Z4 x2:Int):=by omega
  have eL:k+(Zx (⟨x0,x1,x2⟩::xs):Int)=k+1+1+(Z4 x2:Int)+(Zx xs:Int):=by omega
  have ih':=ih (d++[Zhe ⟨x0,x1,x2⟩ k]) (k+1+1+(Z4 x2:Int)) (by omega) (by omega) (by simp;omega) (λy hy=>h4 y (by simp[hy]));rw[Zi Zo2.eq_1,eL,Zbe3,eK];have g1:IntKind.wrap .i64 ((d.length:Int)+1)=(d.length:Int)+1:=Zt (by omega) (by omega);have g3:(d.length:Int)<(d.length:Int)+((xs.length:Int)+1):=by omega
  have g5:(d.length:Int)+1+(xs.length:Int)=(d.length:Int)+((xs.length:Int)+1):=by omega
  have w0:IntKind.wrap .i64 (k+1)=k+1:=Zt (by omega) (by omega);have w1:IntKind.wrap .i64 (k+1+1)=k+1+1:=Zt (by omega) (by omega);have t0:=Zfn (k) (by omega) (by omega);have m0:=Zbex x2 (k+1+1) (by omega) (by omega) (by first|exact hx|exact hx.1|exact hx.2|exact hx.2.1|exact hx.2.2|exact hx.2.2.1|exact hx.2.2.2|exact hx.2.2.2.1|exact hx.2.2.2.2|exact hx.2.2.2.2.1|exact hx.2.2.2.2.2);rcases m0 with⟨r0,s0,m0⟩|⟨y0,ys0,r0,s0,m0⟩
  all_goals (simp[g5,Zhe,tI,tII,r0,s0]at ih';simp[g1,g3,w0,w1,t0,m0,r0,s0,ih',Zhe,tI,tII])
theorem Zbw0(e:Nat)(xs:List Zc)(k:Int)(h1:0<=k)(h2:k+(Zx xs:Int)<=4000000000000000000)(h3:SmL Zc.small xs):C Z3w [.own 0,I k] [.xarr e 3 (xs.map Zc.c)]=some (I (k+Zx xs),[.xarr e 3 ((Zcu xs k).map Zc.c)]):=by
 refine runM Zbdn rfl ?_;have h4:=λfr=>Zbwz e fr xs [] k h1 h2 (by have:xs.length<=4294967296:=h3.1;simp;omega) h3.2
 simp at h4;simp[Zzk,h4]
theorem Zbw1(k:Int):C Z3w [.t .nil,I k] []=some (I k,[]):=by
 refine run Zbdn rfl ?_;simp[Zzk,Zi Zo2.eq_1]
theorem Zbw2(fr:List Fr):∀(xs d:List Zc) (k:Int),0<=k->k+(Zx xs:Int)<=4000000000000000000->d.length+xs.length<=4294967296->(∀x∈xs,x.small)->EvL C fr [0,1,5] Zpb ⟨[(0,L 3 ((d++Zcu xs k).map Zc.c)),(1,I k),(5,I d.length)],[[]],[]⟩ =
  EvX C fr (.x 0) ⟨[(0,L 3 ((d++Zcu xs k).map Zc.c)),(1,I (k+Zx xs)),(5,I (d.length+xs.length)),(9,Bo false)],[[]],[]⟩:=by
 intro xs
 induction xs with
 |nil =>
  intro d k h1 h2 h3 h4;rw[Zi Zpb.eq_1]
  simp[Zcu,Zx,cnL,mkL]
 |cons x xs ih =>
  intro d k h1 h2 h3 h4;have hx:=h4 x (by simp);have e0:Zx (x::xs)=Zc9 x+Zx xs:=rfl;rw[e0]at h2;simp only[Yn]at h3;rcases x with⟨x0,x1,x2⟩;have e1:Zc9 ⟨x0,x1,x2⟩=1+1+Z4 x2:=rfl;have eK:k+(Zc9 ⟨x0,x1,x2⟩:Int)=k+1+1+(Z4 x2:Int):=by omega
  have eL:k+(Zx (⟨x0,x1,x2⟩::xs):Int)=k+1+1+(Z4 x2:Int)+(Zx xs:Int):=by omega
  have ih':=ih (d++[Zhe ⟨x0,x1,x2⟩ k]) (k+1+1+(Z4 x2:Int)) (by omega) (by omega) (by simp;omega) (λy hy=>h4 y (by simp[hy]));rw[Zi Zpb.eq_1,eL,Zbe3,eK];have g1:IntKind.wrap .i64 ((d.length:Int)+1)=(d.length:Int)+1:=Zt (by omega) (by omega);have g3:(d.length:Int)<(d.length:Int)+(((Zcu xs (k+1+1+(Z4 x2:Int))).length:Int)+1):=by omega
  have g5:(d.length:Int)+1+(xs.length:Int)=(d.length:Int)+((xs.length:Int)+1):=by omega
  have w0:IntKind.wrap .i64 (k+1)=k+1:=Zt (by omega) (by omega);have w1:IntKind.wrap .i64 (k+1+1)=k+1+1:=Zt (by omega) (by omega);have t0:=Zfn (k) (by omega) (by omega);have m0:=Zbe1 x2 (k+1+1) (by omega) (by omega) (by first|exact hx|exact hx.1|exact hx.2|exact hx.2.1|exact hx.2.2|exact hx.2.2.1|exact hx.2.2.2|exact hx.2.2.2.1|exact hx.2.2.2.2|exact hx.2.2.2.2.1|exact hx.2.2.2.2.2);have z0:¬(k+1+1+(Z4 x2:Int)<0):=by omega
  simp[g5,Zhe,tI,tII]at ih';simp +decide[g1,g3,w0,w1,t0,m0,z0,ih',Zhe,tI,tII]
theorem Zbw3(xs:List Zc)(k:Int)(h1:0<=k)(h2:k+(Zx xs:Int)<=4000000000000000000)(h3:SmL Zc.small xs):C Z34 [L 3 ((Zcu xs k).map Zc.c),I k] []=some (I (k+Zx xs),[]):=by
 refine run Zbed rfl ?_;have h4:=λfr=>Zbw2 fr xs [] k h1 h2 (by have:xs.length<=4294967296:=h3.1;simp;omega) h3.2
 simp at h4;simp[Zzx,h4]
theorem Zbw4(k:Int):C Z34 [.t .nil,I k] []=some (I k,[]):=by
 refine run Zbed rfl ?_;simp[Zzx,Zi Zpb.eq_1]
noncomputable def Zhf(a:Zd)(k:Int):Zd:=⟨Zg8 (k),k+1,k+1+1,Zdq a.Groups (k+1+1+1)⟩
def Zda(a:Zd):Nat:=1+1+1+Zbf a.Groups
noncomputable def Zcv(xs:List Zd)(k:Int):List Zd:=mkL Zhf Zda xs k
def Zy(xs:List Zd):Nat:=cnL Zda xs
theorem Zbe4(x:Zd)(xs:List Zd)(k:Int):Zcv (x::xs) k=Zhf x k::Zcv xs (k+(Zda x:Int)):=rfl
theorem Zbw5(e:Nat)(fr:List Fr):∀(xs d:List Zd) (k:Int),0<=k->k+(Zy xs:Int)<=4000000000000000000->d.length+xs.length<=4294967296->(∀x∈xs,x.small)->EvL C fr [0,1,5] Zo3 ⟨[(0,.own 0),(1,I k),(5,I d.length)],[[(0,.own 0)]],[.xarr e 4 ((d++xs).map Zd.c)]⟩ =
  EvX C fr (.x 0) ⟨[(0,.own 0),(1,I (k+Zy xs)),(5,I (d.length+xs.length)),(9,Bo false)],[[(0,.own 0)]],[.xarr e 4 ((d++Zcv xs k).map Zd.c)]⟩:=by
 intro xs
 induction xs with
 |nil =>
  intro d k h1 h2 h3 h4;rw[Zi Zo3.eq_1]
  simp[Zcv,Zy,cnL,mkL]
 |cons x xs ih =>
  intro d k h1 h2 h3 h4;have hx:=h4 x (by simp);have e0:Zy (x::xs)=Zda x+Zy xs:=rfl;rw[e0]at h2;simp only[Yn]at h3;rcases x with⟨x0,x1,x2,x3⟩;have e1:Zda ⟨x0,x1,x2,x3⟩=1+1+1+Zbf x3:=rfl;have eK:k+(Zda ⟨x0,x1,x2,x3⟩:Int)=k+1+1+1+(Zbf x3:Int):=by omega
  have eL:k+(Zy (⟨x0,x1,x2,x3⟩::xs):Int)=k+1+1+1+(Zbf x3:Int)+(Zy xs:Int):=by omega
  have ih':=ih (d++[Zhf ⟨x0,x1,x2,x3⟩ k]) (k+1+1+1+(Zbf x3:Int)) (by omega) (by omega) (by simp;omega) (λy hy=>h4 y (by simp[hy]));rw[Zi Zo3.eq_1,eL,Zbe4,eK];have g1:IntKind.wrap .i64 ((d.length:Int)+1)=(d.length:Int)+1:=Zt (by omega) (by omega);have g3:(d.length:Int)<(d.length:Int)+((xs.length:Int)+1):=by omega
  have g5:(d.length:Int)+1+(xs.length:Int)=(d.length:Int)+((xs.length:Int)+1):=by omega
  have w0:IntKind.wrap .i64 (k+1)=k+1:=Zt (by omega) (by omega);have w1:IntKind.wrap .i64 (k+1+1)=k+1+1:=Zt (by omega) (by omega);have w2:IntKind.wrap .i64 (k+1+1+1)=k+1+1+1:=Zt (by omega) (by omega);have t0:=Zfn (k) (by omega) (by omega);have m0:=Zbwp x3 (k+1+1+1) (by omega) (by omega) (by first|exact hx|exact hx.1|exact hx.2|exact hx.2.1|exact hx.2.2|exact hx.2.2.1|exact hx.2.2.2|exact hx.2.2.2.1|exact hx.2.2.2.2|exact hx.2.2.2.2.1|exact hx.2.2.2.2.2);rcases m0 with⟨r0,s0,m0⟩|⟨y0,ys0,r0,s0,m0⟩
  all_goals (simp[g5,Zhf,tI,r0,s0]at ih';simp[g1,g3,w0,w1,w2,t0,m0,r0,s0,ih',Zhf,tI])
theorem Zbw6(e:Nat)(xs:List Zd)(k:Int)(h1:0<=k)(h2:k+(Zy xs:Int)<=4000000000000000000)(h3:SmL Zd.small xs):C Z3x [.own 0,I k] [.xarr e 4 (xs.map Zd.c)]=some (I (k+Zy xs),[.xarr e 4 ((Zcv xs k).map Zd.c)]):=by
 refine runM Zbdo rfl ?_;have h4:=λfr=>Zbw5 e fr xs [] k h1 h2 (by have:xs.length<=4294967296:=h3.1;simp;omega) h3.2
 simp at h4;simp[Zzl,h4]
theorem Zbw7(k:Int):C Z3x [.t .nil,I k] []=some (I k,[]):=by
 refine run Zbdo rfl ?_;simp[Zzl,Zi Zo3.eq_1]
theorem Zbw8(fr:List Fr):∀(xs d:List Zd) (k:Int),0<=k->k+(Zy xs:Int)<=4000000000000000000->d.length+xs.length<=4294967296->(∀x∈xs,x.small)->EvL C fr [0,1,5] Zpc ⟨[(0,L 4 ((d++Zcv xs k).map Zd.c)),(1,I k),(5,I d.length)],[[]],[]⟩ =
  EvX C fr (.x 0) ⟨[(0,L 4 ((d++Zcv xs k).map Zd.c)),(1,I (k+Zy xs)),(5,I (d.length+xs.length)),(9,Bo false)],[[]],[]⟩:=by
 intro xs
 induction xs with
 |nil =>
  intro d k h1 h2 h3 h4;rw[Zi Zpc.eq_1]
  simp[Zcv,Zy,cnL,mkL]
 |cons x xs ih =>
  intro d k h1 h2 h3 h4;have hx:=h4 x (by simp);have e0:Zy (x::xs)=Zda x+Zy xs:=rfl;rw[e0]at h2;simp only[Yn]at h3;rcases x with⟨x0,x1,x2,x3⟩;have e1:Zda ⟨x0,x1,x2,x3⟩=1+1+1+Zbf x3:=rfl;have eK:k+(Zda ⟨x0,x1,x2,x3⟩:Int)=k+1+1+1+(Zbf x3:Int):=by omega
  have eL:k+(Zy (⟨x0,x1,x2,x3⟩::xs):Int)=k+1+1+1+(Zbf x3:Int)+(Zy xs:Int):=by omega
  have ih':=ih (d++[Zhf ⟨x0,x1,x2,x3⟩ k]) (k+1+1+1+(Zbf x3:Int)) (by omega) (by omega) (by simp;omega) (λy hy=>h4 y (by simp[hy]));rw[Zi Zpc.eq_1,eL,Zbe4,eK];have g1:IntKind.wrap .i64 ((d.length:Int)+1)=(d.length:Int)+1:=Zt (by omega) (by omega);have g3:(d.length:Int)<(d.length:Int)+(((Zcv xs (k+1+1+1+(Zbf x3:Int))).length:Int)+1):=by omega
  have g5:(d.length:Int)+1+(xs.length:Int)=(d.length:Int)+((xs.length:Int)+1):=by omega
  have w0:IntKind.wrap .i64 (k+1)=k+1:=Zt (by omega) (by omega);have w1:IntKind.wrap .i64 (k+1+1)=k+1+1:=Zt (by omega) (by omega);have w2:IntKind.wrap .i64 (k+1+1+1)=k+1+1+1:=Zt (by omega) (by omega);have t0:=Zfn (k) (by omega) (by omega);have m0:=Zbws x3 (k+1+1+1) (by omega) (by omega) (by first|exact hx|exact hx.1|exact hx.2|exact hx.2.1|exact hx.2.2|exact hx.2.2.1|exact hx.2.2.2|exact hx.2.2.2.1|exact hx.2.2.2.2|exact hx.2.2.2.2.1|exact hx.2.2.2.2.2);have z0:¬(k+1+1+1+(Zbf x3:Int)<0):=by omega
  simp[g5,Zhf,tI]at ih';simp +decide[g1,g3,w0,w1,w2,t0,m0,z0,ih',Zhf,tI]
theorem Zbw9(xs:List Zd)(k:Int)(h1:0<=k)(h2:k+(Zy xs:Int)<=4000000000000000000)(h3:SmL Zd.small xs):C Z35 [L 4 ((Zcv xs k).map Zd.c),I k] []=some (I (k+Zy xs),[]):=by
 refine run Zbee rfl ?_;have h4:=λfr=>Zbw8 fr xs [] k h1 h2 (by have:xs.length<=4294967296:=h3.1;simp;omega) h3.2
 simp at h4;simp[Zzy,h4]
theorem Zbxa(k:Int):C Z35 [.t .nil,I k] []=some (I k,[]):=by
 refine run Zbee rfl ?_;simp[Zzy,Zi Zpc.eq_1]
theorem Zbxb(e0:Nat)(x0:Int)(x1:List Zd)(k:Int)(h1:0<=k)(h2:k+(Zy x1:Int)<=4000000000000000000)(cc:SmL Zd.small x1):C Z3n [.agg [I x0,.own 0],I k] [.xarr e0 4 (x1.map Zd.c)]=some (I (k+(Zy x1:Int)),[.xarr e0 4 ((Zcv x1 (k)).map Zd.c)]):=by
 refine runM Zbcy rfl ?_;have m0:=Zbw6 e0 x1 (k) (by omega) (by omega) cc;simp[Zze,m0]
theorem Zbxc(x0 k:Int):C Z3n [.agg [I x0,.t .nil],I k] []=some (I k,[]):=by
 refine run Zbcy rfl ?_;simp[Zze,Zbw7]
theorem Zbxd(x0:Int)(x1:List Zd)(k:Int)(h1:0<=k)(h2:k+(Zy x1:Int)<=4000000000000000000)(cc:SmL Zd.small x1):C Z30 [.agg [I x0,.t (.lst 4 ((Zcv x1 (k)).map Zd.c))],I k] []=some (I (k+(Zy x1:Int)),[]):=by
 refine run Zbdv rfl ?_;have m0:=Zbw9 x1 (k) (by omega) (by omega) cc;have z0:¬(k+(Zy x1:Int)<0):=by omega
 simp[Zzq,tI,m0,z0]
theorem Zbxe(x0 k:Int)(h1:0<=k):C Z30 [.agg [I x0,.t .nil],I k] []=some (I k,[]):=by
 refine run Zbdv rfl ?_;have z:¬(k<0):=by omega
 simp[Zzq,z,h1,Zbxa]
theorem Zbxf(e0:Nat)(x0:List Zc)(k:Int)(h1:0<=k)(h2:k+(Zx x0:Int)<=4000000000000000000)(cc:SmL Zc.small x0):C Z3m [.agg [.own 0],I k] [.xarr e0 3 (x0.map Zc.c)]=some (I (k+(Zx x0:Int)),[.xarr e0 3 ((Zcu x0 (k)).map Zc.c)]):=by
 refine runM Zbcx rfl ?_;have m0:=Zbw0 e0 x0 (k) (by omega) (by omega) cc;simp[Zzd,m0]
theorem Zbxg  (k:Int):C Z3m [.agg [.t .nil],I k] []=some (I k,[]):=by
 refine run Zbcx rfl ?_;simp[Zzd,Zbw1]
theorem Zbxh(x0:List Zc)(k:Int)(h1:0<=k)(h2:k+(Zx x0:Int)<=4000000000000000000)(cc:SmL Zc.small x0):C Z3z [.agg [.t (.lst 3 ((Zcu x0 (k)).map Zc.c))],I k] []=some (I (k+(Zx x0:Int)),[]):=by
 refine run Zbdu rfl ?_;have m0:=Zbw3 x0 (k) (by omega) (by omega) cc;have z0:¬(k+(Zx x0:Int)<0):=by omega
 simp[Zzp,tI,m0,z0]
theorem Zbxi  (k:Int)(h1:0<=k):C Z3z [.agg [.t .nil],I k] []=some (I k,[]):=by
 refine run Zbdu rfl ?_;have z:¬(k<0):=by omega
 simp[Zzp,z,h1,Zbw4]
theorem Zph(e0:Nat)(x0 x1 x2 x3 x4:Int)(x5:List Zb)(k:Int)(h1:0<=k)(h2:k+(Zk x5:Int)<=4000000000000000000)(cc:SmA x5):C Z3q [.agg [I x0,I x1,I x2,I x3,I x4,.own 0],I k] [.xarr e0 2 (x5.map Zb.c)]=some (I (k+(Zk x5:Int)),[.xarr e0 2 ((Zbl x5 (k)).map Zb.c)]):=by
 refine runM Zbc1 rfl ?_;have m0:=Zbwb e0 x5 (k) (by omega) (by omega) cc;simp[Zzh,m0]
theorem Zbxj(x0 x1 x2 x3 x4 k:Int):C Z3q [.agg [I x0,I x1,I x2,I x3,I x4,.t .nil],I k] []=some (I k,[]):=by
 refine run Zbc1 rfl ?_;simp[Zzh,Zbwc]
theorem Zpi(x0 x1 x2 x3 x4:Int)(x5:List Zb)(k:Int)(h1:0<=k)(h2:k+(Zk x5:Int)<=4000000000000000000)(cc:SmA x5):C Z33 [.agg [I x0,I x1,I x2,I x3,I x4,.t (.lst 2 ((Zbl x5 (k)).map Zb.c))],I k] []=some (I (k+(Zk x5:Int)),[]):=by
 refine run Zbdy rfl ?_;have m0:=Zbwe x5 (k) (by omega) (by omega) cc;have z0:¬(k+(Zk x5:Int)<0):=by omega
 simp[Zzt,tI,m0,z0]
theorem Zbxk(x0 x1 x2 x3 x4 k:Int)(h1:0<=k):C Z33 [.agg [I x0,I x1,I x2,I x3,I x4,.t .nil],I k] []=some (I k,[]):=by
 refine run Zbdy rfl ?_;have z:¬(k<0):=by omega
 simp[Zzt,z,h1,Zbwf]
theorem Zbe5(e0 e1 e2 e3 e4:Nat)(x0 x1 x2 x3 x4:Int)(x5:List Zb)(x6 x7 x8 x9 cc:Int)(x11:List Zb)(cd cl cn co cp:Int)(x17:List Zb)(cu cv cy cz d:Int)(x23:List Zb)(dc dd dl dn dp:Int)(x29:List Zb)(k:Int)(h1:0<=k)(h2:k+(Zk x5:Int)+(Zk x11:Int)+(Zk x17:Int)+(Zk x23:Int)+(Zk x29:Int)<=4000000000000000000)(l:SmA x5)(du:SmA x11)(dv:SmA x17)(dy:SmA x23)(dz:SmA x29):C Z3e [.agg [I x0,I x1,I x2,I x3,I x4,.own 0,I x6,I x7,I x8,I x9,I cc,.own 1,I cd,I cl,I cn,I co,I cp,.own 2,I cu,I cv,I cy,I cz,I d,.own 3,I dc,I dd,I dl,I dn,I dp,.own 4],I k] [.xarr e0 2 (x5.map Zb.c),.xarr e1 2 (x11.map Zb.c),.xarr e2 2 (x17.map Zb.c),.xarr e3 2 (x23.map Zb.c),.xarr e4 2 (x29.map Zb.c)]=some (I (k+(Zk x5:Int)+(Zk x11:Int)+(Zk x17:Int)+(Zk x23:Int)+(Zk x29:Int)),[.xarr e0 2 ((Zbl x5 (k)).map Zb.c),.xarr e1 2 ((Zbl x11 (k+(Zk x5:Int))).map Zb.c),.xarr e2 2 ((Zbl x17 (k+(Zk x5:Int)+(Zk x11:Int))).map Zb.c),.xarr e3 2 ((Zbl x23 (k+(Zk x5:Int)+(Zk x11:Int)+(Zk x17:Int))).map Zb.c),.xarr e4 2 ((Zbl x29 (k+(Zk x5:Int)+(Zk x11:Int)+(Zk x17:Int)+(Zk x23:Int))).map Zb.c)]):=by
 refine runM Zbce rfl ?_;have m0:=Zph e0 x0 x1 x2 x3 x4 x5 (k) (by omega) (by omega) l;have m1:=Zph e1 x6 x7 x8 x9 cc x11 (k+(Zk x5:Int)) (by omega) (by omega) du;have m2:=Zph e2 cd cl cn co cp x17 (k+(Zk x5:Int)+(Zk x11:Int)) (by omega) (by omega) dv;have m3:=Zph e3 cu cv cy cz d x23 (k+(Zk x5:Int)+(Zk x11:Int)+(Zk x17:Int)) (by omega) (by omega) dy;have m4:=Zph e4 dc dd dl dn dp x29 (k+(Zk x5:Int)+(Zk x11:Int)+(Zk x17:Int)+(Zk x23:Int)) (by omega) (by omega) dz;simp[Zy7,m0,m1,m2,m3,m4]
theorem Zbxl(x0 x1 x2 x3 x4 x6 x7 x8 x9 c cc cd cl cn co cp cu cv cy cz d dc dd dl dn k:Int):C Z3e [.agg [I x0,I x1,I x2,I x3,I x4,.t .nil,I x6,I x7,I x8,I x9,I c,.t .nil,I cc,I cd,I cl,I cn,I co,.t .nil,I cp,I cu,I cv,I cy,I cz,.t .nil,I d,I dc,I dd,I dl,I dn,.t .nil],I k] []=some (I k,[]):=by
 refine run Zbce rfl ?_;simp[Zy7,Zbxj]
theorem Zbxm(x0 x1 x2 x3 x4:Int)(x5:List Zb)(x6 x7 x8 x9 cc:Int)(x11:List Zb)(cd cl cn co cp:Int)(x17:List Zb)(cu cv cy cz d:Int)(x23:List Zb)(dc dd dl dn dp:Int)(x29:List Zb)(k:Int)(h1:0<=k)(h2:k+(Zk x5:Int)+(Zk x11:Int)+(Zk x17:Int)+(Zk x23:Int)+(Zk x29:Int)<=4000000000000000000)(l:SmA x5)(du:SmA x11)(dv:SmA x17)(dy:SmA x23)(dz:SmA x29):C Z3s [.agg [I x0,I x1,I x2,I x3,I x4,.t (.lst 2 ((Zbl x5 (k)).map Zb.c)),I x6,I x7,I x8,I x9,I cc,.t (.lst 2 ((Zbl x11 (k+(Zk x5:Int))).map Zb.c)),I cd,I cl,I cn,I co,I cp,.t (.lst 2 ((Zbl x17 (k+(Zk x5:Int)+(Zk x11:Int))).map Zb.c)),I cu,I cv,I cy,I cz,I d,.t (.lst 2 ((Zbl x23 (k+(Zk x5:Int)+(Zk x11:Int)+(Zk x17:Int))).map Zb.c)),I dc,I dd,I dl,I dn,I dp,.t (.lst 2 ((Zbl x29 (k+(Zk x5:Int)+(Zk x11:Int)+(Zk x17:Int)+(Zk x23:Int))).map Zb.c))],I k] []=some (I (k+(Zk x5:Int)+(Zk x11:Int)+(Zk x17:Int)+(Zk x23:Int)+(Zk x29:Int)),[]):=by
 refine run Zbc4 rfl ?_;have m0:=Zpi x0 x1 x2 x3 x4 x5 (k) (by omega) (by omega) l;have z0:¬(k+(Zk x5:Int)<0):=by omega
 have m1:=Zpi x6 x7 x8 x9 cc x11 (k+(Zk x5:Int)) (by omega) (by omega) du;have z1:¬(k+(Zk x5:Int)+(Zk x11:Int)<0):=by omega
 have m2:=Zpi cd cl cn co cp x17 (k+(Zk x5:Int)+(Zk x11:Int)) (by omega) (by omega) dv;have z2:¬(k+(Zk x5:Int)+(Zk x11:Int)+(Zk x17:Int)<0):=by omega
 have m3:=Zpi cu cv cy cz d x23 (k+(Zk x5:Int)+(Zk x11:Int)+(Zk x17:Int)) (by omega) (by omega) dy;have z3:¬(k+(Zk x5:Int)+(Zk x11:Int)+(Zk x17:Int)+(Zk x23:Int)<0):=by omega
 have m4:=Zpi dc dd dl dn dp x29 (k+(Zk x5:Int)+(Zk x11:Int)+(Zk x17:Int)+(Zk x23:Int)) (by omega) (by omega) dz;have z4:¬(k+(Zk x5:Int)+(Zk x11:Int)+(Zk x17:Int)+(Zk x23:Int)+(Zk x29:Int)<0):=by omega
 simp[Zzj,tI,m0,z0,m1,z1,m2,z2,m3,z3,m4,z4]
theorem Zbxn(x0 x1 x2 x3 x4 x6 x7 x8 x9 c cc cd cl cn co cp cu cv cy cz d dc dd dl dn k:Int)(h1:0<=k):C Z3s [.agg [I x0,I x1,I x2,I x3,I x4,.t .nil,I x6,I x7,I x8,I x9,I c,.t .nil,I cc,I cd,I cl,I cn,I co,.t .nil,I cp,I cu,I cv,I cy,I cz,.t .nil,I d,I dc,I dd,I dl,I dn,.t .nil],I k] []=some (I k,[]):=by
 refine run Zbc4 rfl ?_;have z:¬(k<0):=by omega
 simp[Zzj,z,h1,Zbxk]
theorem Zbe6(x0 k:Int):C Zbh7 [.agg [I x0,.t .nil],I k] []=some (I k,[]):=by
 refine run Zbs0 rfl ?_;simp[Zbc2,Zbv8]
theorem Zbe7(x0 k:Int)(h1:0<=k):C Zbh8 [.agg [I x0,.t .nil],I k] []=some (I k,[]):=by
 refine run Zbs1 rfl ?_;have z:¬(k<0):=by omega
 simp[Zbc5,z,h1,Zbv9]
theorem Zbe8(e0 e1 e2 e3:Nat)(x0:List Zc)(x1:Int)(x2:List Zd)(x3:List Ze)(x4:List Zf)(k:Int)(h1:0<=k)(h2:k+(Zx x0:Int)+(Zy x2:Int)+(Z1 x3:Int)+(Z5 x4:Int)<=4000000000000000000)(cc:SmL Zc.small x0)(cd:SmL Zd.small x2)(cl:SmL Ze.small x3)(cn:SmL Zf.small x4):C Z3d [.agg [.own 0,I x1,.own 1,.own 2,.own 3],I k] [.xarr e0 3 (x0.map Zc.c),.xarr e1 4 (x2.map Zd.c),.xarr e2 3 (x3.map Ze.c),.xarr e3 4 (x4.map Zf.c)]=some (I (k+(Zx x0:Int)+(Zy x2:Int)+(Z1 x3:Int)+(Z5 x4:Int)),[.xarr e0 3 ((Zcu x0 (k)).map Zc.c),.xarr e1 4 ((Zcv x2 (k+(Zx x0:Int))).map Zd.c),.xarr e2 3 ((Zdp x3 (k+(Zx x0:Int)+(Zy x2:Int))).map Ze.c),.xarr e3 4 ((Zds x4 (k+(Zx x0:Int)+(Zy x2:Int)+(Z1 x3:Int))).map Zf.c)]):=by
 refine runM Zbcd rfl ?_;have m0:=Zbxf e0 x0 (k) (by omega) (by omega) cc;have m1:=Zbxb e1 x1 x2 (k+(Zx x0:Int)) (by omega) (by omega) cd;have m2:=Zbwh e2 x3 (k+(Zx x0:Int)+(Zy x2:Int)) (by omega) (by omega) cl;have m3:=Zbwu e3 x4 (k+(Zx x0:Int)+(Zy x2:Int)+(Z1 x3:Int)) (by omega) (by omega) cn;simp[Zy6,m0,m1,m2,m3]
theorem Zbxo(x1 k:Int):C Z3d [.agg [.t .nil,I x1,.t .nil,.t .nil,.t .nil],I k] []=some (I k,[]):=by
 refine run Zbcd rfl ?_;simp[Zy6,Zbxg,Zbxc,Zbwi,Zbwv]
theorem Zbxp(x0:List Zc)(x1:Int)(x2:List Zd)(x3:List Ze)(x4:List Zf)(k:Int)(h1:0<=k)(h2:k+(Zx x0:Int)+(Zy x2:Int)+(Z1 x3:Int)+(Z5 x4:Int)<=4000000000000000000)(cc:SmL Zc.small x0)(cd:SmL Zd.small x2)(cl:SmL Ze.small x3)(cn:SmL Zf.small x4):C Z3r [.agg [.t (.lst 3 ((Zcu x0 (k)).map Zc.c)),I x1,.t (.lst 4 ((Zcv x2 (k+(Zx x0:Int))).map Zd.c)),.t (.lst 3 ((Zdp x3 (k+(Zx x0:Int)+(Zy x2:Int))).map Ze.c)),.t (.lst 4 ((Zds x4 (k+(Zx x0:Int)+(Zy x2:Int)+(Z1 x3:Int))).map Zf.c))],I k] []=some (I (k+(Zx x0:Int)+(Zy x2:Int)+(Z1 x3:Int)+(Z5 x4:Int)),[]):=by
 refine run Zbc3 rfl ?_;have m0:=Zbxh x0 (k) (by omega) (by omega) cc;have z0:¬(k+(Zx x0:Int)<0):=by omega
 have m1:=Zbxd x1 x2 (k+(Zx x0:Int)) (by omega) (by omega) cd;have z1:¬(k+(Zx x0:Int)+(Zy x2:Int)<0):=by omega
 have m2:=Zbwk x3 (k+(Zx x0:Int)+(Zy x2:Int)) (by omega) (by omega) cl;have z2:¬(k+(Zx x0:Int)+(Zy x2:Int)+(Z1 x3:Int)<0):=by omega
 have m3:=Zbwx x4 (k+(Zx x0:Int)+(Zy x2:Int)+(Z1 x3:Int)) (by omega) (by omega) cn;have z3:¬(k+(Zx x0:Int)+(Zy x2:Int)+(Z1 x3:Int)+(Z5 x4:Int)<0):=by omega
 simp[Zzi,tI,m0,z0,m1,z1,m2,z2,m3,z3]
theorem Zbxq(x1 k:Int)(h1:0<=k):C Z3r [.agg [.t .nil,I x1,.t .nil,.t .nil,.t .nil],I k] []=some (I k,[]):=by
 refine run Zbc3 rfl ?_;have z:¬(k<0):=by omega
 simp[Zzi,z,h1,Zbxi,Zbxe,Zbwl,Zbwy]
theorem Zbxr(x1 x5 x6 x7 x8 x9 c cc cd cl cn co cp cu cv cy cz d dc dd dl dn dp du dv dy dz l lc ld ll k:Int):C Z3f [.agg [.t .nil,I x1,.t .nil,.t .nil,.t .nil,I x5,I x6,I x7,I x8,I x9,.t .nil,I c,I cc,I cd,I cl,I cn,.t .nil,I co,I cp,I cu,I cv,I cy,.t .nil,I cz,I d,I dc,I dd,I dl,.t .nil,I dn,I dp,I du,I dv,I dy,.t .nil,I dz,.t .nil,I l,I lc,I ld,I ll],I k] []=some (I k,[]):=by
 refine run Zbcf rfl ?_;simp[Zy8,Zbxo,Zbxl,Zbe6]
theorem Zbxs(x1 x5 x6 x7 x8 x9 c cc cd cl cn co cp cu cv cy cz d dc dd dl dn dp du dv dy dz l lc ld ll k:Int)(h1:0<=k):C Z3g [.agg [.t .nil,I x1,.t .nil,.t .nil,.t .nil,I x5,I x6,I x7,I x8,I x9,.t .nil,I c,I cc,I cd,I cl,I cn,.t .nil,I co,I cp,I cu,I cv,I cy,.t .nil,I cz,I d,I dc,I dd,I dl,.t .nil,I dn,I dp,I du,I dv,I dy,.t .nil,I dz,.t .nil,I l,I lc,I ld,I ll],I k] []=some (I k,[]):=by
 refine run Zbcg rfl ?_;have z:¬(k<0):=by omega
 simp[Zy9,z,h1,Zbxq,Zbxn,Zbe7]
theorem Zcw{n:Nat}{left:Int}(hn:n<=maxLen)(h0:0<=left)(h1:left<=1048576)(h:0<=sz1 n left):sz1 n left<=left/\(n:Int)<=left-sz1 n left:=by
 unfold maxLen at hn;have hw:IntKind.wrap .i64 (left-n)=left-n:=Zt (by omega) (by omega);unfold sz1 at h|-;rw[hw]at h|-;split at h
 .omega
 .rename_i hx;rw[if_neg hx];omega
theorem Zbe9{α:Type}{f:α->Int->Int}{n:α->Nat}{M:Int}:∀(xs:List α) (c:Int),(∀x∈xs,∀l,0<=l->l<=M->0<=f x l->f x l<=l/\(n x:Int)<=16+16*(l-f x l))->0<=c->c<=M->0<=Zbh f xs c->Zbh f xs c<=c/\(cnL n xs:Int)<=16*(xs.length:Int)+16*(c-Zbh f xs c)
 |[],c,_,_,_,h=>by simp[Zbh,cnL]
 |x::xs,c,hf,h0,h1,h=>by
  unfold Zbh at h|-;split at h
  .omega
  .rename_i hx;rw[if_neg hx];obtain⟨h2,h3⟩:=hf x (by simp) c h0 h1 (by omega);obtain⟨h4,h5⟩:=Zbe9 xs (f x c) (λy hy=>hf y (by simp[hy])) (by omega) (by omega) h;have e:cnL n (x::xs)=n x+cnL n xs:=rfl;rw[e,Yn];omega
theorem Zf9{α:Type}{f:α->Int->Int}{n:α->Nat}{xs:List α}{left:Int}(hn:xs.length<=maxLen)(hf:∀x∈xs,∀l,0<=l->l<=1048576->0<=f x l->f x l<=l/\(n x:Int)<=16+16*(l-f x l))(h0:0<=left)(h1:left<=1048576)(h:0<=szL f xs left) :
  szL f xs left<=left/\(cnL n xs:Int)<=16*(left-szL f xs left):=by
 unfold szL Zu at h|-;split at h
 .omega
 .rename_i hx;rw[if_neg hx];have a:=Zcw hn h0 h1 (by omega);have b:=Zbe9 xs _ hf (by omega) (by omega) h;omega
theorem Zz3{α:Type}{n:α->Nat}{c:Nat}(h:∀x,n x=c):∀xs:List α,cnL n xs=c*xs.length
 |[]=>rfl
 |x::xs=>by
  have e:cnL n (x::xs)=n x+cnL n xs:=rfl;rw[e,h,Zz3 h xs,Yn,Nat.mul_succ,Nat.add_comm]
theorem Zbfa(x:List Int)(l:Int)(hx:x.length<=maxLen)(h0:0<=l)(h1:l<=1048576)(h:0<=szI x l):szI x l<=l/\(Zc7 x:Int)<=16+16*(l-szI x l):=by
 have a:=Zcw hx h0 h1 h;unfold Zc7;have e:szI x l=sz1 x.length l:=rfl;rw[e];omega
def Zz4(x:Zc):Nat:=Z4 x.Rows
theorem Zc.ct(x:Zc)(l:Int)(hx:x.okay)(h0:0<=l)(h1:l<=1048576)(h:0<=x.sz l):x.sz l<=l/\(Zz4 x:Int)<=16*(l-x.sz l):=by
 unfold Zc.sz at h|-;simp only[Zu]at h|-;split at h
 .omega
 rename_i q0;rw[if_neg q0];have s0:=Zcw hx.1 h0 h1 (Yc.1 q0);split at h
 .omega
 rename_i q1;rw[if_neg q1];have s1:=Zf9 (f:=szI) (n:=Zc7) hx.2.2.1 (λy hy l a b c=>Zbfa y l (hx.2.2.2 y hy).1 a b c) (by omega) (by omega) (Yc.1 q1);refine⟨by omega,?_⟩;unfold Zz4;have v0:Z4 x.Rows=cnL Zc7 x.Rows:=rfl;omega
theorem Zbxt(x:Zc)(l:Int)(hx:x.okay)(h0:0<=l)(h1:l<=1048576)(h:0<=x.sz l):x.sz l<=l/\(Zc9 x:Int)<=16+16*(l-x.sz l):=by
 have a:=Zc.ct x l hx h0 h1 h;unfold Zz4 at a;unfold Zc9;omega
def Zz5(x:Zh):Nat:=Zx x.Tables
theorem Zh.ct(x:Zh)(l:Int)(hx:x.okay)(h0:0<=l)(h1:l<=1048576)(h:0<=x.sz l):x.sz l<=l/\(Zz5 x:Int)<=16*(l-x.sz l):=by
 unfold Zh.sz at h|-;simp only[Zu]at h|-;split at h
 .omega
 rename_i q0;rw[if_neg q0];have s0:=Zf9 (n:=Zc9) hx.1 (λy hy l a b c=>Zbxt y l (hx.2 y hy) a b c) h0 h1 (Yc.1 q0);refine⟨by omega,?_⟩;unfold Zz5;have v0:Zx x.Tables=cnL Zc9 x.Tables:=rfl;omega
def Zz6(x:Atom):Nat:=x.Vars.length
theorem Atom.ct(x:Atom)(l:Int)(hx:x.okay)(h0:0<=l)(h1:l<=1048576)(h:0<=x.sz l):x.sz l<=l/\(Zz6 x:Int)<=16*(l-x.sz l):=by
 unfold Atom.sz at h|-;simp only[Zu]at h|-;split at h
 .omega
 rename_i q0;rw[if_neg q0];have s0:=Zcw hx.1 h0 h1 (Yc.1 q0);split at h
 .omega
 rename_i q1;rw[if_neg q1];have s1:=Zcw hx.2.1 (by omega) (by omega) (Yc.1 q1);refine⟨by omega,?_⟩;unfold Zz6;omega
theorem Zbxu(x:Atom)(l:Int)(hx:x.okay)(h0:0<=l)(h1:l<=1048576)(h:0<=x.sz l):x.sz l<=l/\(Zlb x:Int)<=16+16*(l-x.sz l):=by
 have a:=Atom.ct x l hx h0 h1 h;unfold Zz6 at a;unfold Zlb;omega
def Zz7(x:Zbj):Nat:=Zlc x.Atoms
theorem Zbj.ct(x:Zbj)(l:Int)(hx:x.okay)(h0:0<=l)(h1:l<=1048576)(h:0<=x.sz l):x.sz l<=l/\(Zz7 x:Int)<=16*(l-x.sz l):=by
 unfold Zbj.sz at h|-;simp only[Zu]at h|-;split at h
 .omega
 rename_i q0;rw[if_neg q0];have s0:=Zf9 (n:=Zlb) hx.2.1 (λy hy l a b c=>Zbxu y l (hx.2.2 y hy) a b c) h0 h1 (Yc.1 q0);refine⟨by omega,?_⟩;unfold Zz7;have v0:Zlc x.Atoms=cnL Zlb x.Atoms:=rfl;omega
def Zz8(x:Ze):Nat:=x.From.length
theorem Ze.ct(x:Ze)(l:Int)(hx:x.okay)(h0:0<=l)(h1:l<=1048576)(h:0<=x.sz l):x.sz l<=l/\(Zz8 x:Int)<=16*(l-x.sz l):=by
 unfold Ze.sz at h|-;simp only[Zu]at h|-;split at h
 .omega
 rename_i q0;rw[if_neg q0];have s0:=Zcw hx.1 h0 h1 (Yc.1 q0);split at h
 .omega
 rename_i q1;rw[if_neg q1];have s1:=Zcw hx.2.1.1 (by omega) (by omega) (Yc.1 q1);refine⟨by omega,?_⟩;unfold Zz8;omega
theorem Zbxv(x:Ze)(l:Int)(hx:x.okay)(h0:0<=l)(h1:l<=1048576)(h:0<=x.sz l):x.sz l<=l/\(Zdo x:Int)<=16+16*(l-x.sz l):=by
 have a:=Ze.ct x l hx h0 h1 h;unfold Zz8 at a;unfold Zdo;omega
def Zz9(x:Zf):Nat:=0
theorem Zf.ct(x:Zf)(l:Int)(hx:x.okay)(h0:0<=l)(h1:l<=1048576)(h:0<=x.sz l):x.sz l<=l/\(Zz9 x:Int)<=16*(l-x.sz l):=by
 unfold Zf.sz at h|-;simp only[Zu]at h|-;split at h
 .omega
 rename_i q0;rw[if_neg q0];have s0:=Zcw hx.1 h0 h1 (Yc.1 q0);split at h
 .omega
 rename_i q1;rw[if_neg q1];have s1:=Zcw hx.2.2.1 (by omega) (by omega) (Yc.1 q1);refine⟨by omega,?_⟩;unfold Zz9;omega
theorem Zbxw(x:Zf)(l:Int)(hx:x.okay)(h0:0<=l)(h1:l<=1048576)(h:0<=x.sz l):x.sz l<=l/\(Zdr x:Int)<=16+16*(l-x.sz l):=by
 have a:=Zf.ct x l hx h0 h1 h;unfold Zz9 at a;unfold Zdr;omega
def Z0a(x:Zj):Nat:=x.Columns.length+Z4 x.Values+x.Counts.length
theorem Zj.ct(x:Zj)(l:Int)(hx:x.okay)(h0:0<=l)(h1:l<=1048576)(h:0<=x.sz l):x.sz l<=l/\(Z0a x:Int)<=16*(l-x.sz l):=by
 unfold Zj.sz at h|-;simp only[Zu]at h|-;split at h
 .omega
 rename_i q0;rw[if_neg q0];have s0:=Zcw hx.1.1 h0 h1 (Yc.1 q0);split at h
 .omega
 rename_i q1;rw[if_neg q1];have s1:=Zf9 (f:=szI) (n:=Zc7) hx.2.1.1 (λy hy l a b c=>Zbfa y l (hx.2.1.2 y hy).1 a b c) (by omega) (by omega) (Yc.1 q1);split at h
 .omega
 rename_i q2;rw[if_neg q2];have s2:=Zcw hx.2.2.1 (by omega) (by omega) (Yc.1 q2);refine⟨by omega,?_⟩;unfold Z0a;have v0:Z4 x.Values=cnL Zc7 x.Values:=rfl;omega
theorem Zbxx(x:Zj)(l:Int)(hx:x.okay)(h0:0<=l)(h1:l<=1048576)(h:0<=x.sz l):x.sz l<=l/\(Zd4 x:Int)<=16+16*(l-x.sz l):=by
 have a:=Zj.ct x l hx h0 h1 h;unfold Z0a at a;unfold Zd4;omega
def Z0b(x:Zd):Nat:=Zbf x.Groups
theorem Zd.ct(x:Zd)(l:Int)(hx:x.okay)(h0:0<=l)(h1:l<=1048576)(h:0<=x.sz l):x.sz l<=l/\(Z0b x:Int)<=16*(l-x.sz l):=by
 unfold Zd.sz at h|-;simp only[Zu]at h|-;split at h
 .omega
 rename_i q0;rw[if_neg q0];have s0:=Zcw hx.1 h0 h1 (Yc.1 q0);split at h
 .omega
 rename_i q1;rw[if_neg q1];have s1:=Zf9 (n:=Zd4) hx.2.2.2.1 (λy hy l a b c=>Zbxx y l (hx.2.2.2.2 y hy) a b c) (by omega) (by omega) (Yc.1 q1);refine⟨by omega,?_⟩;unfold Z0b;have v0:Zbf x.Groups=cnL Zd4 x.Groups:=rfl;omega
theorem Zbxy(x:Zd)(l:Int)(hx:x.okay)(h0:0<=l)(h1:l<=1048576)(h:0<=x.sz l):x.sz l<=l/\(Zda x:Int)<=16+16*(l-x.sz l):=by
 have a:=Zd.ct x l hx h0 h1 h;unfold Z0b at a;unfold Zda;omega
def Z0c(x:Zl):Nat:=Zy x.Tables
theorem Zl.ct(x:Zl)(l:Int)(hx:x.okay)(h0:0<=l)(h1:l<=1048576)(h:0<=x.sz l):x.sz l<=l/\(Z0c x:Int)<=16*(l-x.sz l):=by
 unfold Zl.sz at h|-;simp only[Zu]at h|-;split at h
 .omega
 rename_i q0;rw[if_neg q0];have s0:=Zf9 (n:=Zda) hx.2.1 (λy hy l a b c=>Zbxy y l (hx.2.2 y hy) a b c) h0 h1 (Yc.1 q0);refine⟨by omega,?_⟩;unfold Z0c;have v0:Zy x.Tables=cnL Zda x.Tables:=rfl;omega
def Ztl(x:Zm):Nat:=Zx x.Zh.Tables+Zy x.Zl.Tables+Z1 x.Dependencies+Z5 x.Inclusions
theorem Zm.ct(x:Zm)(l:Int)(hx:x.okay)(h0:0<=l)(h1:l<=1048576)(h:0<=x.sz l):x.sz l<=l/\(Ztl x:Int)<=16*(l-x.sz l):=by
 unfold Zm.sz at h|-;simp only[Zu]at h|-;split at h
 .omega
 rename_i q0;rw[if_neg q0];have s0:=Zh.ct x.Zh _ hx.1 h0 h1 (Yc.1 q0);split at h
 .omega
 rename_i q1;rw[if_neg q1];have s1:=Zl.ct x.Zl _ ⟨hx.2.1,hx.2.2.1⟩ (by omega) (by omega) (Yc.1 q1);split at h
 .omega
 rename_i q2;rw[if_neg q2];have s2:=Zf9 (n:=Zdo) hx.2.2.2.1.1 (λy hy l a b c=>Zbxv y l (hx.2.2.2.1.2 y hy) a b c) (by omega) (by omega) (Yc.1 q2);split at h
 .omega
 rename_i q3;rw[if_neg q3];have s3:=Zf9 (n:=Zdr) hx.2.2.2.2.1 (λy hy l a b c=>Zbxw y l (hx.2.2.2.2.2 y hy) a b c) (by omega) (by omega) (Yc.1 q3);refine⟨by omega,?_⟩;unfold Ztl;have v0:Zz5 x.Zh=Zx x.Zh.Tables:=rfl;have v1:Z0c x.Zl=Zy x.Zl.Tables:=rfl;have v2:Zx x.Zh.Tables=cnL Zc9 x.Zh.Tables:=rfl;have v3:Zy x.Zl.Tables=cnL Zda x.Zl.Tables:=rfl;have v4:Z1 x.Dependencies=cnL Zdo x.Dependencies:=rfl;have v5:Z5 x.Inclusions=cnL Zdr x.Inclusions:=rfl;omega
def nt_Box(x:Box):Nat:=x.Low.length+x.High.length
theorem Box.ct(x:Box)(l:Int)(hx:x.okay)(h0:0<=l)(h1:l<=1048576)(h:0<=x.sz l):x.sz l<=l/\(nt_Box x:Int)<=16*(l-x.sz l):=by
 unfold Box.sz at h|-;simp only[Zu]at h|-;split at h
 .omega
 rename_i q0;rw[if_neg q0];have s0:=Zcw hx.1.1 h0 h1 (Yc.1 q0);split at h
 .omega
 rename_i q1;rw[if_neg q1];have s1:=Zcw hx.2.1 (by omega) (by omega) (Yc.1 q1);refine⟨by omega,?_⟩;unfold nt_Box;omega
theorem Ze7(xs:List Zb):Zk xs=2*xs.length:=Zz3 (λ_=>rfl) xs
def Zi2(x:Zn):Nat:=Zk x.Steps
theorem Zn.ct(x:Zn)(l:Int)(hx:x.okay)(h0:0<=l)(h1:l<=1048576)(h:0<=x.sz l):x.sz l<=l/\(Zi2 x:Int)<=16*(l-x.sz l):=by
 unfold Zn.sz at h|-;simp only[Zu]at h|-;split at h
 .omega
 rename_i q0;rw[if_neg q0];have s0:=Zcw hx.2.2.2.2.2.1 h0 h1 (Yc.1 q0);refine⟨by omega,?_⟩;unfold Zi2;have v0:=Ze7 x.Steps;omega
def Ztm(x:Za):Nat:=Zk x.Scan.Steps+Zk x.Sort_.Steps+Zk x.Hash.Steps+Zk x.Merge.Steps+Zk x.Nested.Steps
theorem Za.ct(x:Za)(l:Int)(hx:x.okay)(h0:0<=l)(h1:l<=1048576)(h:0<=x.sz l):x.sz l<=l/\(Ztm x:Int)<=16*(l-x.sz l):=by
 unfold Za.sz at h|-;simp only[Zu]at h|-;split at h
 .omega
 rename_i q0;rw[if_neg q0];have s0:=Zn.ct x.Scan _ ⟨hx.1,hx.2.1,hx.2.2.1,hx.2.2.2.1,hx.2.2.2.2.1,hx.2.2.2.2.2.1⟩ h0 h1 (Yc.1 q0);split at h
 .omega
 rename_i q1;rw[if_neg q1];have s1:=Zn.ct x.Sort_ _ ⟨hx.2.2.2.2.2.2.1,hx.2.2.2.2.2.2.2.1,hx.2.2.2.2.2.2.2.2.1,hx.2.2.2.2.2.2.2.2.2.1,hx.2.2.2.2.2.2.2.2.2.2.1,hx.2.2.2.2.2.2.2.2.2.2.2.1⟩ (by omega) (by omega) (Yc.1 q1);split at h
 .omega
 rename_i q2;rw[if_neg q2];have s2:=Zn.ct x.Hash _ ⟨hx.2.2.2.2.2.2.2.2.2.2.2.2.1,hx.2.2.2.2.2.2.2.2.2.2.2.2.2.1,hx.2.2.2.2.2.2.2.2.2.2.2.2.2.2.1,hx.2.2.2.2.2.2.2.2.2.2.2.2.2.2.2.1,hx.2.2.2.2.2.2.2.2.2.2.2.2.2.2.2.2.1,hx.2.2.2.2.2.2.2.2.2.2.2.2.2.2.2.2.2.1⟩ (by omega) (by omega) (Yc.1 q2);split at h
 .omega
 rename_i q3;rw[if_neg q3];have s3:=Zn.ct x.Merge _ ⟨hx.2.2.2.2.2.2.2.2.2.2.2.2.2.2.2.2.2.2.1,hx.2.2.2.2.2.2.2.2.2.2.2.2.2.2.2.2.2.2.2.1,hx.2.2.2.2.2.2.2.2.2.2.2.2.2.2.2.2.2.2.2.2.1,hx.2.2.2.2.2.2.2.2.2.2.2.2.2.2.2.2.2.2.2.2.2.1,hx.2.2.2.2.2.2.2.2.2.2.2.2.2.2.2.2.2.2.2.2.2.2.1,hx.2.2.2.2.2.2.2.2.2.2.2.2.2.2.2.2.2.2.2.2.2.2.2.1⟩ (by omega) (by omega) (Yc.1 q3);split at h
 .omega
 rename_i q4;rw[if_neg q4];have s4:=Zn.ct x.Nested _ ⟨hx.2.2.2.2.2.2.2.2.2.2.2.2.2.2.2.2.2.2.2.2.2.2.2.2.1,hx.2.2.2.2.2.2.2.2.2.2.2.2.2.2.2.2.2.2.2.2.2.2.2.2.2.1,hx.2.2.2.2.2.2.2.2.2.2.2.2.2.2.2.2.2.2.2.2.2.2.2.2.2.2.1,hx.2.2.2.2.2.2.2.2.2.2.2.2.2.2.2.2.2.2.2.2.2.2.2.2.2.2.2.1,hx.2.2.2.2.2.2.2.2.2.2.2.2.2.2.2.2.2.2.2.2.2.2.2.2.2.2.2.2.1,hx.2.2.2.2.2.2.2.2.2.2.2.2.2.2.2.2.2.2.2.2.2.2.2.2.2.2.2.2.2⟩ (by omega) (by omega) (Yc.1 q4);refine⟨by omega,?_⟩;unfold Ztm;have v0:Zi2 x.Scan=Zk x.Scan.Steps:=rfl;have v1:Zi2 x.Sort_=Zk x.Sort_.Steps:=rfl;have v2:Zi2 x.Hash=Zk x.Hash.Steps:=rfl;have v3:Zi2 x.Merge=Zk x.Merge.Steps:=rfl;have v4:Zi2 x.Nested=Zk x.Nested.Steps:=rfl;have v5:=Ze7 x.Scan.Steps;have v6:=Ze7 x.Sort_.Steps;have v7:=Ze7 x.Hash.Steps;have v8:=Ze7 x.Merge.Steps;have v9:=Ze7 x.Nested.Steps;omega
theorem Z0d(xs:List Zb3):Zi1 xs=3*xs.length:=Zz3 (λ_=>rfl) xs
def Z0e(x:Plan):Nat:=Zi1 x.Steps
theorem Plan.ct(x:Plan)(l:Int)(hx:x.okay)(h0:0<=l)(h1:l<=1048576)(h:0<=x.sz l):x.sz l<=l/\(Z0e x:Int)<=16*(l-x.sz l):=by
 unfold Plan.sz at h|-;simp only[Zu]at h|-;split at h
 .omega
 rename_i q0;rw[if_neg q0];have s0:=Zcw hx.1 h0 h1 (Yc.1 q0);refine⟨by omega,?_⟩;unfold Z0e;have v0:=Z0d x.Steps;omega
def Z0f(x:Region):Nat:=Zi1 x.Plan.Steps+x.Box.Low.length+x.Box.High.length
theorem Region.ct(x:Region)(l:Int)(hx:x.okay)(h0:0<=l)(h1:l<=1048576)(h:0<=x.sz l):x.sz l<=l/\(Z0f x:Int)<=16*(l-x.sz l):=by
 unfold Region.sz at h|-;simp only[Zu]at h|-;split at h
 .omega
 rename_i q0;rw[if_neg q0];have s0:=Plan.ct x.Plan _ hx.1 h0 h1 (Yc.1 q0);split at h
 .omega
 rename_i q1;rw[if_neg q1];have s1:=Box.ct x.Box _ ⟨hx.2.1,hx.2.2.1⟩ (by omega) (by omega) (Yc.1 q1);refine⟨by omega,?_⟩;unfold Z0f;have v0:Z0e x.Plan=Zi1 x.Plan.Steps:=rfl;have v1:nt_Box x.Box=x.Box.Low.length+x.Box.High.length:=rfl;have v2:=Z0d x.Plan.Steps;omega
def Z0g(x:Zbs):Nat:=Zlc x.Zbj.Atoms+Zi1 x.Region.Plan.Steps+x.Region.Box.Low.length+x.Region.Box.High.length
theorem Zbs.ct(x:Zbs)(l:Int)(hx:x.okay)(h0:0<=l)(h1:l<=1048576)(h:0<=x.sz l):x.sz l<=l/\(Z0g x:Int)<=16*(l-x.sz l):=by
 unfold Zbs.sz at h|-;simp only[Zu]at h|-;split at h
 .omega
 rename_i q0;rw[if_neg q0];have s0:=Zbj.ct x.Zbj _ ⟨hx.1,hx.2.1⟩ h0 h1 (Yc.1 q0);split at h
 .omega
 rename_i q1;rw[if_neg q1];have s1:=Region.ct x.Region _ ⟨hx.2.2.1,hx.2.2.2.1,hx.2.2.2.2.1,hx.2.2.2.2.2.1⟩ (by omega) (by omega) (Yc.1 q1);refine⟨by omega,?_⟩;unfold Z0g;have v0:Zz7 x.Zbj=Zlc x.Zbj.Atoms:=rfl;have v1:Z0f x.Region=Zi1 x.Region.Plan.Steps+x.Region.Box.Low.length+x.Region.Box.High.length:=rfl;have v2:Zlc x.Zbj.Atoms=cnL Zlb x.Zbj.Atoms:=rfl;have v3:=Z0d x.Region.Plan.Steps;omega
theorem Zbxz(x:Zbs)(l:Int)(hx:x.okay)(h0:0<=l)(h1:l<=1048576)(h:0<=x.sz l):x.sz l<=l/\(Zld x:Int)<=16+16*(l-x.sz l):=by
 have a:=Zbs.ct x l hx h0 h1 h;unfold Z0g at a;unfold Zld;omega
def Z0h(x:Zcj):Nat:=Zpg x.Entries
theorem Zcj.ct(x:Zcj)(l:Int)(hx:x.okay)(h0:0<=l)(h1:l<=1048576)(h:0<=x.sz l):x.sz l<=l/\(Z0h x:Int)<=16*(l-x.sz l):=by
 unfold Zcj.sz at h|-;simp only[Zu]at h|-;split at h
 .omega
 rename_i q0;rw[if_neg q0];have s0:=Zf9 (n:=Zld) hx.2.1 (λy hy l a b c=>Zbxz y l (hx.2.2 y hy) a b c) h0 h1 (Yc.1 q0);refine⟨by omega,?_⟩;unfold Z0h;have v0:Zpg x.Entries=cnL Zld x.Entries:=rfl;omega
def Zbfb(x:Zdf):Nat:=Zx x.Zm.Zh.Tables+Zy x.Zm.Zl.Tables+Z1 x.Zm.Dependencies+Z5 x.Zm.Inclusions+Zk x.Za.Scan.Steps+Zk x.Za.Sort_.Steps+Zk x.Za.Hash.Steps+Zk x.Za.Merge.Steps+Zk x.Za.Nested.Steps+Zpg x.Cache.Entries
theorem Zdf.ct(x:Zdf)(l:Int)(hx:x.okay)(h0:0<=l)(h1:l<=1048576)(h:0<=x.sz l):x.sz l<=l/\(Zbfb x:Int)<=16*(l-x.sz l):=by
 unfold Zdf.sz at h|-;simp only[Zu]at h|-;split at h
 .omega
 rename_i q0;rw[if_neg q0];have s0:=Zm.ct x.Zm _ ⟨hx.1,hx.2.1,hx.2.2.1,hx.2.2.2.1,hx.2.2.2.2.1⟩ h0 h1 (Yc.1 q0);split at h
 .omega
 rename_i q1;rw[if_neg q1];have s1:=Za.ct x.Za _ ⟨hx.2.2.2.2.2.1,hx.2.2.2.2.2.2.1,hx.2.2.2.2.2.2.2.1,hx.2.2.2.2.2.2.2.2.1,hx.2.2.2.2.2.2.2.2.2.1,hx.2.2.2.2.2.2.2.2.2.2.1,hx.2.2.2.2.2.2.2.2.2.2.2.1,hx.2.2.2.2.2.2.2.2.2.2.2.2.1,hx.2.2.2.2.2.2.2.2.2.2.2.2.2.1,hx.2.2.2.2.2.2.2.2.2.2.2.2.2.2.1,hx.2.2.2.2.2.2.2.2.2.2.2.2.2.2.2.1,hx.2.2.2.2.2.2.2.2.2.2.2.2.2.2.2.2.1,hx.2.2.2.2.2.2.2.2.2.2.2.2.2.2.2.2.2.1,hx.2.2.2.2.2.2.2.2.2.2.2.2.2.2.2.2.2.2.1,hx.2.2.2.2.2.2.2.2.2.2.2.2.2.2.2.2.2.2.2.1,hx.2.2.2.2.2.2.2.2.2.2.2.2.2.2.2.2.2.2.2.2.1,hx.2.2.2.2.2.2.2.2.2.2.2.2.2.2.2.2.2.2.2.2.2.1,hx.2.2.2.2.2.2.2.2.2.2.2.2.2.2.2.2.2.2.2.2.2.2.1,hx.2.2.2.2.2.2.2.2.2.2.2.2.2.2.2.2.2.2.2.2.2.2.2.1,hx.2.2.2.2.2.2.2.2.2.2.2.2.2.2.2.2.2.2.2.2.2.2.2.2.1,hx.2.2.2.2.2.2.2.2.2.2.2.2.2.2.2.2.2.2.2.2.2.2.2.2.2.1,hx.2.2.2.2.2.2.2.2.2.2.2.2.2.2.2.2.2.2.2.2.2.2.2.2.2.2.1,hx.2.2.2.2.2.2.2.2.2.2.2.2.2.2.2.2.2.2.2.2.2.2.2.2.2.2.2.1,hx.2.2.2.2.2.2.2.2.2.2.2.2.2.2.2.2.2.2.2.2.2.2.2.2.2.2.2.2.1,hx.2.2.2.2.2.2.2.2.2.2.2.2.2.2.2.2.2.2.2.2.2.2.2.2.2.2.2.2.2.1,hx.2.2.2.2.2.2.2.2.2.2.2.2.2.2.2.2.2.2.2.2.2.2.2.2.2.2.2.2.2.2.1,hx.2.2.2.2.2.2.2.2.2.2.2.2.2.2.2.2.2.2.2.2.2.2.2.2.2.2.2.2.2.2.2.1,hx.2.2.2.2.2.2.2.2.2.2.2.2.2.2.2.2.2.2.2.2.2.2.2.2.2.2.2.2.2.2.2.2.1,hx.2.2.2.2.2.2.2.2.2.2.2.2.2.2.2.2.2.2.2.2.2.2.2.2.2.2.2.2.2.2.2.2.2.1,hx.2.2.2.2.2.2.2.2.2.2.2.2.2.2.2.2.2.2.2.2.2.2.2.2.2.2.2.2.2.2.2.2.2.2.1⟩ (by omega) (by omega) (Yc.1 q1);split at h
 .omega
 rename_i q2;rw[if_neg q2];have s2:=Zcj.ct x.Cache _ ⟨hx.2.2.2.2.2.2.2.2.2.2.2.2.2.2.2.2.2.2.2.2.2.2.2.2.2.2.2.2.2.2.2.2.2.2.2.1,hx.2.2.2.2.2.2.2.2.2.2.2.2.2.2.2.2.2.2.2.2.2.2.2.2.2.2.2.2.2.2.2.2.2.2.2.2.1⟩ (by omega) (by omega) (Yc.1 q2);refine⟨by omega,?_⟩;unfold Zbfb;have v0:Ztl x.Zm=Zx x.Zm.Zh.Tables+Zy x.Zm.Zl.Tables+Z1 x.Zm.Dependencies+Z5 x.Zm.Inclusions:=rfl;have v1:Ztm x.Za=Zk x.Za.Scan.Steps+Zk x.Za.Sort_.Steps+Zk x.Za.Hash.Steps+Zk x.Za.Merge.Steps+Zk x.Za.Nested.Steps:=rfl;have v2:Z0h x.Cache=Zpg x.Cache.Entries:=rfl;have v3:Zx x.Zm.Zh.Tables=cnL Zc9 x.Zm.Zh.Tables:=rfl;have v4:Zy x.Zm.Zl.Tables=cnL Zda x.Zm.Zl.Tables:=rfl;have v5:Z1 x.Zm.Dependencies=cnL Zdo x.Zm.Dependencies:=rfl;have v6:Z5 x.Zm.Inclusions=cnL Zdr x.Zm.Inclusions:=rfl;have v7:=Ze7 x.Za.Scan.Steps;have v8:=Ze7 x.Za.Sort_.Steps;have v9:=Ze7 x.Za.Hash.Steps;have v10:=Ze7 x.Za.Merge.Steps;have v11:=Ze7 x.Za.Nested.Steps;have v12:Zpg x.Cache.Entries=cnL Zld x.Cache.Entries:=rfl;omega
theorem Zbx0:C Z3t [.t .nil,.t .nil] []=some (Bo true,[]):=by
 refine run Zbdi rfl ?_;simp[Zs5,Zi Zoz.eq_1]
theorem Zbx1:C Z3u [.t .nil,.t .nil] []=some (Bo true,[]):=by
 refine run Zbdj rfl ?_;simp[Zs6,Zi Zo0.eq_1]
theorem Zbx2:C Z3j [.t .nil,.t .nil] []=some (Bo true,[]):=by
 refine run Zbcu rfl ?_;simp[Zs0,Zi Zov.eq_1]
theorem Zbx3:C Z3k [.t .nil,.t .nil] []=some (Bo true,[]):=by
 refine run Zbcv rfl ?_;simp[Zs1,Zi Zow.eq_1]
theorem Zbx4:C Z3v [.t .nil,.t .nil] []=some (Bo true,[]):=by
 refine run Zbdm rfl ?_;simp[Zs7,Zi Zo1.eq_1]
theorem Zbx5:C Zbij [.t .nil,.t .nil] []=some (Bo true,[]):=by
 refine run Zbtc rfl ?_;simp[Zbdh,Zi Zbdg.eq_1]
theorem Zbx6:C Z3h [.agg [.t .nil],.agg [.t .nil]] []=some (Bo true,[]):=by
 refine run Zbcs rfl ?_;simp[Zza,Zbx0]
theorem Zbx7(v:Int):C Z3i [.agg [I v,.t .nil],.agg [I v,.t .nil]] []=some (Bo true,[]):=by
 refine run Zbct rfl ?_;simp[Zzb,Zbx1]
theorem Zbx8(v:Int):C Z3b [.agg [.t .nil,I v,.t .nil,.t .nil,.t .nil],.agg [.t .nil,I v,.t .nil,.t .nil,.t .nil]] []=some (Bo true,[]):=by
 refine run Zbcb rfl ?_;simp[Zy4,Zbx6,Zbx7,Zbx2,Zbx3]
theorem Zbx9:C Z3l [.agg [I 0,I 0,I 0,I 0,I 0,.t .nil],.agg [I 0,I 0,I 0,I 0,I 0,.t .nil]] []=some (Bo true,[]):=by
 refine run Zbcw rfl ?_;simp[Zzc,Zbx4]
theorem Zbya:C Z3c [.agg [I 0,I 0,I 0,I 0,I 0,.t .nil,I 0,I 0,I 0,I 0,I 0,.t .nil,I 0,I 0,I 0,I 0,I 0,.t .nil,I 0,I 0,I 0,I 0,I 0,.t .nil,I 0,I 0,I 0,I 0,I 0,.t .nil],.agg [I 0,I 0,I 0,I 0,I 0,.t .nil,I 0,I 0,I 0,I 0,I 0,.t .nil,I 0,I 0,I 0,I 0,I 0,.t .nil,I 0,I 0,I 0,I 0,I 0,.t .nil,I 0,I 0,I 0,I 0,I 0,.t .nil]] []=some (Bo true,[]):=by
 refine run Zbcc rfl ?_;simp[Zy5,Zbx9]
theorem Zbfc(x:Int):C Zbh6 [.agg [I x,.t .nil],.agg [I x,.t .nil]] []=some (Bo true,[]):=by
 refine run Zbsz rfl ?_;simp[Zbcr,Zbx5]
theorem Zbyb:C Z3a [.agg [.t .nil,I 0,.t .nil,.t .nil,.t .nil,I 0,I 0,I 0,I 0,I 0,.t .nil,I 0,I 0,I 0,I 0,I 0,.t .nil,I 0,I 0,I 0,I 0,I 0,.t .nil,I 0,I 0,I 0,I 0,I 0,.t .nil,I 0,I 0,I 0,I 0,I 0,.t .nil,I 0,.t .nil,I 0,I 0,I 0,I 0],.agg [.t .nil,I 0,.t .nil,.t .nil,.t .nil,I 0,I 0,I 0,I 0,I 0,.t .nil,I 0,I 0,I 0,I 0,I 0,.t .nil,I 0,I 0,I 0,I 0,I 0,.t .nil,I 0,I 0,I 0,I 0,I 0,.t .nil,I 0,I 0,I 0,I 0,I 0,.t .nil,I 0,.t .nil,I 0,I 0,I 0,I 0]] []=some (Bo true,[]):=by
 refine run Zbca rfl ?_;simp[Zy3,Zbx8,Zbya,Zbfc]
theorem c_eqSes(s:Zm)(m:Za)(k r l q p:Int)(g0:SmL Zc.small s.Zh.Tables)(g2:SmL Zd.small s.Zl.Tables)(g3:SmL Ze.small s.Dependencies)(g4:SmL Zf.small s.Inclusions)(h1:SmA m.Scan.Steps)(h2:SmA m.Sort_.Steps)(h3:SmA m.Hash.Steps)(h4:SmA m.Merge.Steps)(h5:SmA m.Nested.Steps):C Z3a [.agg [L 3 (s.Zh.Tables.map Zc.c),I s.Zl.Version,L 4 (s.Zl.Tables.map Zd.c),L 3 (s.Dependencies.map Ze.c),L 4 (s.Inclusions.map Zf.c),I m.Scan.Fixed,I m.Scan.Zo,I m.Scan.Zp,I m.Scan.Zq,I m.Scan.Zr,L 2 (m.Scan.Steps.map Zb.c),I m.Sort_.Fixed,I m.Sort_.Zo,I m.Sort_.Zp,I m.Sort_.Zq,I m.Sort_.Zr,L 2 (m.Sort_.Steps.map Zb.c),I m.Hash.Fixed,I m.Hash.Zo,I m.Hash.Zp,I m.Hash.Zq,I m.Hash.Zr,L 2 (m.Hash.Steps.map Zb.c),I m.Merge.Fixed,I m.Merge.Zo,I m.Merge.Zp,I m.Merge.Zq,I m.Merge.Zr,L 2 (m.Merge.Steps.map Zb.c),I m.Nested.Fixed,I m.Nested.Zo,I m.Nested.Zp,I m.Nested.Zq,I m.Nested.Zr,L 2 (m.Nested.Steps.map Zb.c),I k,.t .nil,I r,I l,I q,I p],.agg [L 3 (s.Zh.Tables.map Zc.c),I s.Zl.Version,L 4 (s.Zl.Tables.map Zd.c),L 3 (s.Dependencies.map Ze.c),L 4 (s.Inclusions.map Zf.c),I m.Scan.Fixed,I m.Scan.Zo,I m.Scan.Zp,I m.Scan.Zq,I m.Scan.Zr,L 2 (m.Scan.Steps.map Zb.c),I m.Sort_.Fixed,I m.Sort_.Zo,I m.Sort_.Zp,I m.Sort_.Zq,I m.Sort_.Zr,L 2 (m.Sort_.Steps.map Zb.c),I m.Hash.Fixed,I m.Hash.Zo,I m.Hash.Zp,I m.Hash.Zq,I m.Hash.Zr,L 2 (m.Hash.Steps.map Zb.c),I m.Merge.Fixed,I m.Merge.Zo,I m.Merge.Zp,I m.Merge.Zq,I m.Merge.Zr,L 2 (m.Merge.Steps.map Zb.c),I m.Nested.Fixed,I m.Nested.Zo,I m.Nested.Zp,I m.Nested.Zq,I m.Nested.Zr,L 2 (m.Nested.Steps.map Zb.c),I k,.t .nil,I r,I l,I q,I p]] []=some (Bo true,[]):=by
 refine run Zbca rfl ?_;have eS:=Zbet s.Zh.Tables s.Zl.Version s.Zl.Tables s.Dependencies s.Inclusions s.Zh.Tables s.Zl.Version s.Zl.Tables s.Dependencies s.Inclusions g0 g2 g3 g4;have eM:=Zbeu m.Scan.Fixed m.Scan.Zo m.Scan.Zp m.Scan.Zq m.Scan.Zr m.Scan.Steps m.Sort_.Fixed m.Sort_.Zo m.Sort_.Zp m.Sort_.Zq m.Sort_.Zr m.Sort_.Steps m.Hash.Fixed m.Hash.Zo m.Hash.Zp m.Hash.Zq m.Hash.Zr m.Hash.Steps m.Merge.Fixed m.Merge.Zo m.Merge.Zp m.Merge.Zq m.Merge.Zr m.Merge.Steps m.Nested.Fixed m.Nested.Zo m.Nested.Zp m.Nested.Zq m.Nested.Zr m.Nested.Steps m.Scan.Fixed m.Scan.Zo m.Scan.Zp m.Scan.Zq m.Scan.Zr m.Scan.Steps m.Sort_.Fixed m.Sort_.Zo m.Sort_.Zp m.Sort_.Zq m.Sort_.Zr m.Sort_.Steps m.Hash.Fixed m.Hash.Zo m.Hash.Zp m.Hash.Zq m.Hash.Zr m.Hash.Steps m.Merge.Fixed m.Merge.Zo m.Merge.Zp m.Merge.Zq m.Merge.Zr m.Merge.Steps m.Nested.Fixed m.Nested.Zo m.Nested.Zp m.Nested.Zq m.Nested.Zr m.Nested.Steps h1 h2 h3 h4 h5;simp at eS eM;simp[Zy3,eS,eM,Zbfc]
theorem Zbyc(e0 e1 e2 e3 e4 e5 e6 e7 e8:Nat)(x0:List Zc)(x1:Int)(x2:List Zd)(x3:List Ze)(x4:List Zf)(x5 x6 x7 x8 x9:Int)(x10:List Zb)(cc cd cl cn co:Int)(x16:List Zb)(cp cu cv cy cz:Int)(x22:List Zb)(d dc dd dl dn:Int)(x28:List Zb)(dp du dv dy dz:Int)(x34:List Zb)(l lz n nc nd k:Int)(h1:0<=k)(h2:k+(Zx x0:Int)+(Zy x2:Int)+(Z1 x3:Int)+(Z5 x4:Int)+(Zk x10:Int)+(Zk x16:Int)+(Zk x22:Int)+(Zk x28:Int)+(Zk x34:Int)<=4000000000000000000)(lp:SmL Zc.small x0)(lu:SmL Zd.small x2)(lv:SmL Ze.small x3)(ly:SmL Zf.small x4)(lc:SmA x10)(ld:SmA x16)(ll:SmA x22)(ln:SmA x28)(lo:SmA x34):C Z3f [.agg [.own 0,I x1,.own 1,.own 2,.own 3,I x5,I x6,I x7,I x8,I x9,.own 4,I cc,I cd,I cl,I cn,I co,.own 5,I cp,I cu,I cv,I cy,I cz,.own 6,I d,I dc,I dd,I dl,I dn,.own 7,I dp,I du,I dv,I dy,I dz,.own 8,I l,.t .nil,I lz,I n,I nc,I nd],I k] [.xarr e0 3 (x0.map Zc.c),.xarr e1 4 (x2.map Zd.c),.xarr e2 3 (x3.map Ze.c),.xarr e3 4 (x4.map Zf.c),.xarr e4 2 (x10.map Zb.c),.xarr e5 2 (x16.map Zb.c),.xarr e6 2 (x22.map Zb.c),.xarr e7 2 (x28.map Zb.c),.xarr e8 2 (x34.map Zb.c)]=some (I (k+(Zx x0:Int)+(Zy x2:Int)+(Z1 x3:Int)+(Z5 x4:Int)+(Zk x10:Int)+(Zk x16:Int)+(Zk x22:Int)+(Zk x28:Int)+(Zk x34:Int)),[.xarr e0 3 ((Zcu x0 (k)).map Zc.c),.xarr e1 4 ((Zcv x2 (k+(Zx x0:Int))).map Zd.c),.xarr e2 3 ((Zdp x3 (k+(Zx x0:Int)+(Zy x2:Int))).map Ze.c),.xarr e3 4 ((Zds x4 (k+(Zx x0:Int)+(Zy x2:Int)+(Z1 x3:Int))).map Zf.c),.xarr e4 2 ((Zbl x10 (k+(Zx x0:Int)+(Zy x2:Int)+(Z1 x3:Int)+(Z5 x4:Int))).map Zb.c),.xarr e5 2 ((Zbl x16 (k+(Zx x0:Int)+(Zy x2:Int)+(Z1 x3:Int)+(Z5 x4:Int)+(Zk x10:Int))).map Zb.c),.xarr e6 2 ((Zbl x22 (k+(Zx x0:Int)+(Zy x2:Int)+(Z1 x3:Int)+(Z5 x4:Int)+(Zk x10:Int)+(Zk x16:Int))).map Zb.c),.xarr e7 2 ((Zbl x28 (k+(Zx x0:Int)+(Zy x2:Int)+(Z1 x3:Int)+(Z5 x4:Int)+(Zk x10:Int)+(Zk x16:Int)+(Zk x22:Int))).map Zb.c),.xarr e8 2 ((Zbl x34 (k+(Zx x0:Int)+(Zy x2:Int)+(Z1 x3:Int)+(Z5 x4:Int)+(Zk x10:Int)+(Zk x16:Int)+(Zk x22:Int)+(Zk x28:Int))).map Zb.c)]):=by
 refine runM Zbcf rfl ?_;have m0:=Zbe8 e0 e1 e2 e3 x0 x1 x2 x3 x4 (k) (by omega) (by omega) lp lu lv ly;have m1:=Zbe5 e4 e5 e6 e7 e8 x5 x6 x7 x8 x9 x10 cc cd cl cn co x16 cp cu cv cy cz x22 d dc dd dl dn x28 dp du dv dy dz x34 (k+(Zx x0:Int)+(Zy x2:Int)+(Z1 x3:Int)+(Z5 x4:Int)) (by omega) (by omega) lc ld ll ln lo;have m2:=Zbe6 l (k+(Zx x0:Int)+(Zy x2:Int)+(Z1 x3:Int)+(Z5 x4:Int)+(Zk x10:Int)+(Zk x16:Int)+(Zk x22:Int)+(Zk x28:Int)+(Zk x34:Int));have hr:List.range 9=[0,1,2,3,4,5,6,7,8]:=rfl;simp[Zy8,m0,m1,m2,hr]
theorem Zbyd(x0:List Zc)(x1:Int)(x2:List Zd)(x3:List Ze)(x4:List Zf)(x5 x6 x7 x8 x9:Int)(x10:List Zb)(cc cd cl cn co:Int)(x16:List Zb)(cp cu cv cy cz:Int)(x22:List Zb)(d dc dd dl dn:Int)(x28:List Zb)(dp du dv dy dz:Int)(x34:List Zb)(l lz n nc nd k:Int)(h1:0<=k)(h2:k+(Zx x0:Int)+(Zy x2:Int)+(Z1 x3:Int)+(Z5 x4:Int)+(Zk x10:Int)+(Zk x16:Int)+(Zk x22:Int)+(Zk x28:Int)+(Zk x34:Int)<=4000000000000000000)(lp:SmL Zc.small x0)(lu:SmL Zd.small x2)(lv:SmL Ze.small x3)(ly:SmL Zf.small x4)(lc:SmA x10)(ld:SmA x16)(ll:SmA x22)(ln:SmA x28)(lo:SmA x34):C Z3g [.agg [.t (.lst 3 ((Zcu x0 (k)).map Zc.c)),I x1,.t (.lst 4 ((Zcv x2 (k+(Zx x0:Int))).map Zd.c)),.t (.lst 3 ((Zdp x3 (k+(Zx x0:Int)+(Zy x2:Int))).map Ze.c)),.t (.lst 4 ((Zds x4 (k+(Zx x0:Int)+(Zy x2:Int)+(Z1 x3:Int))).map Zf.c)),I x5,I x6,I x7,I x8,I x9,.t (.lst 2 ((Zbl x10 (k+(Zx x0:Int)+(Zy x2:Int)+(Z1 x3:Int)+(Z5 x4:Int))).map Zb.c)),I cc,I cd,I cl,I cn,I co,.t (.lst 2 ((Zbl x16 (k+(Zx x0:Int)+(Zy x2:Int)+(Z1 x3:Int)+(Z5 x4:Int)+(Zk x10:Int))).map Zb.c)),I cp,I cu,I cv,I cy,I cz,.t (.lst 2 ((Zbl x22 (k+(Zx x0:Int)+(Zy x2:Int)+(Z1 x3:Int)+(Z5 x4:Int)+(Zk x10:Int)+(Zk x16:Int))).map Zb.c)),I d,I dc,I dd,I dl,I dn,.t (.lst 2 ((Zbl x28 (k+(Zx x0:Int)+(Zy x2:Int)+(Z1 x3:Int)+(Z5 x4:Int)+(Zk x10:Int)+(Zk x16:Int)+(Zk x22:Int))).map Zb.c)),I dp,I du,I dv,I dy,I dz,.t (.lst 2 ((Zbl x34 (k+(Zx x0:Int)+(Zy x2:Int)+(Z1 x3:Int)+(Z5 x4:Int)+(Zk x10:Int)+(Zk x16:Int)+(Zk x22:Int)+(Zk x28:Int))).map Zb.c)),I l,.t .nil,I lz,I n,I nc,I nd],I k] []=some (I (k+(Zx x0:Int)+(Zy x2:Int)+(Z1 x3:Int)+(Z5 x4:Int)+(Zk x10:Int)+(Zk x16:Int)+(Zk x22:Int)+(Zk x28:Int)+(Zk x34:Int)),[]):=by
 refine run Zbcg rfl ?_;have m0:=Zbxp x0 x1 x2 x3 x4 (k) (by omega) (by omega) lp lu lv ly;have z0:¬(k+(Zx x0:Int)+(Zy x2:Int)+(Z1 x3:Int)+(Z5 x4:Int)<0):=by omega
 have m1:=Zbxm x5 x6 x7 x8 x9 x10 cc cd cl cn co x16 cp cu cv cy cz x22 d dc dd dl dn x28 dp du dv dy dz x34 (k+(Zx x0:Int)+(Zy x2:Int)+(Z1 x3:Int)+(Z5 x4:Int)) (by omega) (by omega) lc ld ll ln lo;have z1:¬(k+(Zx x0:Int)+(Zy x2:Int)+(Z1 x3:Int)+(Z5 x4:Int)+(Zk x10:Int)+(Zk x16:Int)+(Zk x22:Int)+(Zk x28:Int)+(Zk x34:Int)<0):=by omega
 have m2:=Zbe7 l (k+(Zx x0:Int)+(Zy x2:Int)+(Z1 x3:Int)+(Z5 x4:Int)+(Zk x10:Int)+(Zk x16:Int)+(Zk x22:Int)+(Zk x28:Int)+(Zk x34:Int)) (by omega);have z2:¬(k+(Zx x0:Int)+(Zy x2:Int)+(Z1 x3:Int)+(Z5 x4:Int)+(Zk x10:Int)+(Zk x16:Int)+(Zk x22:Int)+(Zk x28:Int)+(Zk x34:Int)<0):=by omega
 simp[Zy9,tI,m0,z0,m1,z1,m2,z2]
theorem Zbfq(s:Zm)(m:Za)(r l:Int)(hs:s.okay)(hm:m.okay)(hr:OkI r)(hl:OkI l):C Zbhr [.agg (s.c.map .t),.agg (m.c.map .t),I r,I l] []=some (Bo true,[]):=by
 refine run Zbsk rfl ?_;have e1:=λl=>Zbvn s.Zh.Tables s.Zl.Version s.Zl.Tables s.Dependencies s.Inclusions l (hs.1) (hs.2.2.1) (hs.2.2.2.1) (hs.2.2.2.2)
 by_cases h1:Zm.sz s (1048576)<0
 .simp[Zou,e1,h1]
 obtain⟨b1,g1⟩:=Zm.sz_ok s _ hs (by omega) (by omega) (by omega:0<=Zm.sz s (1048576));have u1:=(Zm.ct s _ hs (by omega) (by omega) (by omega:0<=Zm.sz s (1048576))).2;unfold Ztl at u1;have e2:=λl=>Zbvx m.Scan.Fixed m.Scan.Zo m.Scan.Zp m.Scan.Zq m.Scan.Zr m.Scan.Steps m.Sort_.Fixed m.Sort_.Zo m.Sort_.Zp m.Sort_.Zq m.Sort_.Zr m.Sort_.Steps m.Hash.Fixed m.Hash.Zo m.Hash.Zp m.Hash.Zq m.Hash.Zr m.Hash.Steps m.Merge.Fixed m.Merge.Zo m.Merge.Zp m.Merge.Zq m.Merge.Zr m.Merge.Steps m.Nested.Fixed m.Nested.Zo m.Nested.Zp m.Nested.Zq m.Nested.Zr m.Nested.Steps l
 by_cases h2:Za.sz m (Zm.sz s (1048576))<0
 .simp[Zou,e1,h1,e2,h2]
 obtain⟨b2,g2⟩:=Za.sz_ok m _ hm (by omega) (by omega) (by omega:0<=Za.sz m (Zm.sz s (1048576)));have u2:=(Za.ct m _ hm (by omega) (by omega) (by omega:0<=Za.sz m (Zm.sz s (1048576)))).2;unfold Ztm at u2;have t1:=Zbvm s.Zh.Tables s.Zl.Version s.Zl.Tables s.Dependencies s.Inclusions (g1.1) (g1.2.1) (g1.2.2.1) (g1.2.2.2);have q1:=λy0 y1 y2 y3 y4=>Zbet s.Zh.Tables s.Zl.Version s.Zl.Tables s.Dependencies s.Inclusions y0 y1 y2 y3 y4 (g1.1) (g1.2.1) (g1.2.2.1) (g1.2.2.2)
 have t2:=Zbvw m.Scan.Fixed m.Scan.Zo m.Scan.Zp m.Scan.Zq m.Scan.Zr m.Scan.Steps m.Sort_.Fixed m.Sort_.Zo m.Sort_.Zp m.Sort_.Zq m.Sort_.Zr m.Sort_.Steps m.Hash.Fixed m.Hash.Zo m.Hash.Zp m.Hash.Zq m.Hash.Zr m.Hash.Steps m.Merge.Fixed m.Merge.Zo m.Merge.Zp m.Merge.Zq m.Merge.Zr m.Merge.Steps m.Nested.Fixed m.Nested.Zo m.Nested.Zp m.Nested.Zq m.Nested.Zr m.Nested.Steps (g2.1) (g2.2.1) (g2.2.2.1) (g2.2.2.2.1) (g2.2.2.2.2);have q2:=λy0 y1 y2 y3 y4 y5 y6 y7 y8 y9 y10 y11 y12 y13 y14 y15 y16 y17 y18 y19 y20 y21 y22 y23 y24 y25 y26 y27 y28 y29=>Zbeu m.Scan.Fixed m.Scan.Zo m.Scan.Zp m.Scan.Zq m.Scan.Zr m.Scan.Steps m.Sort_.Fixed m.Sort_.Zo m.Sort_.Zp m.Sort_.Zq m.Sort_.Zr m.Sort_.Steps m.Hash.Fixed m.Hash.Zo m.Hash.Zp m.Hash.Zq m.Hash.Zr m.Hash.Steps m.Merge.Fixed m.Merge.Zo m.Merge.Zp m.Merge.Zq m.Merge.Zr m.Merge.Steps m.Nested.Fixed m.Nested.Zo m.Nested.Zp m.Nested.Zq m.Nested.Zr m.Nested.Steps y0 y1 y2 y3 y4 y5 y6 y7 y8 y9 y10 y11 y12 y13 y14 y15 y16 y17 y18 y19 y20 y21 y22 y23 y24 y25 y26 y27 y28 y29 (g2.1) (g2.2.1) (g2.2.2.1) (g2.2.2.2.1) (g2.2.2.2.2)
 have m1:=λa0 a1 a2 a3=>Zbe8 a0 a1 a2 a3 s.Zh.Tables s.Zl.Version s.Zl.Tables s.Dependencies s.Inclusions (1) (by omega) (by omega) (g1.1) (g1.2.1) (g1.2.2.1) (g1.2.2.2)
 have m2:=λa0 a1 a2 a3 a4=>Zbe5 a0 a1 a2 a3 a4 m.Scan.Fixed m.Scan.Zo m.Scan.Zp m.Scan.Zq m.Scan.Zr m.Scan.Steps m.Sort_.Fixed m.Sort_.Zo m.Sort_.Zp m.Sort_.Zq m.Sort_.Zr m.Sort_.Steps m.Hash.Fixed m.Hash.Zo m.Hash.Zp m.Hash.Zq m.Hash.Zr m.Hash.Steps m.Merge.Fixed m.Merge.Zo m.Merge.Zp m.Merge.Zq m.Merge.Zr m.Merge.Steps m.Nested.Fixed m.Nested.Zo m.Nested.Zp m.Nested.Zq m.Nested.Zr m.Nested.Steps (1+(Zx s.Zh.Tables:Int)+(Zy s.Zl.Tables:Int)+(Z1 s.Dependencies:Int)+(Z5 s.Inclusions:Int)) (by omega) (by omega) (g2.1) (g2.2.1) (g2.2.2.1) (g2.2.2.2.1) (g2.2.2.2.2)
 have zk:¬(1+(Zx s.Zh.Tables:Int)+(Zy s.Zl.Tables:Int)+(Z1 s.Dependencies:Int)+(Z5 s.Inclusions:Int)+(Zk m.Scan.Steps:Int)+(Zk m.Sort_.Steps:Int)+(Zk m.Hash.Steps:Int)+(Zk m.Merge.Steps:Int)+(Zk m.Nested.Steps:Int)<0):=by omega
 have nm:LeM m:=⟨by have:=g2.1;omega,by have:=g2.2.1;omega,by have:=g2.2.2.1;omega,by have:=g2.2.2.2.1;omega,by have:=g2.2.2.2.2;omega⟩;have nd:LfD s.Zh:=⟨by have:=g1.1.1;omega,λt ht=>⟨by have:=(g1.1.2 t ht).2.1;omega,λr hr=>by have:=(g1.1.2 t ht).2.2 r hr;omega⟩⟩;have nk:LeK s.Zl:=⟨by have:=g1.2.1.1;omega,λx hx=>⟨by have:=(g1.2.1.2 x hx).2.1;omega,λy hy=>have k:=(g1.2.1.2 x hx).2.2 y hy;⟨by have:=k.1;omega,⟨by have:=k.2.1.1;omega,λr hr=>by have:=k.2.1.2 r hr;omega⟩,by have:=k.2.2;omega⟩⟩⟩;have nf:LfF s.Dependencies:=⟨by have:=g1.2.2.1.1;omega,λx hx=>by have:=(g1.2.2.1.2 x hx).2;omega⟩;have nx:Lf s.Inclusions:=by have:=g1.2.2.2.1;omega
 have nM:LfM m:=⟨by have:=g2.1;omega,by have:=g2.2.1;omega,by have:=g2.2.2.1;omega,by have:=g2.2.2.2.1;omega,by have:=g2.2.2.2.2;omega⟩;have s0:=Zbsj s m r l ⟨nd,nk,nf,nx⟩ nM;have s1:=Zbsi s m r l ⟨nd,nk,nf,nx⟩ nM;unfold Zsf at s0;unfold Zrj at s1;simp only[Zm.c_def,Za.c_def,tI,tII,Yl,Yck]at s0 s1;unfold newF at s0 s1;by_cases ok:Zg7 s m 0 r l 0 0=true
 .rw[if_pos ok]at s0 s1;simp at s0 s1;have v1:=c_eqSes s m 0 r l 0 0 (g1.1) (g1.2.1) (g1.2.2.1) (g1.2.2.2) (g2.1) (g2.2.1) (g2.2.2.1) (g2.2.2.2.1) (g2.2.2.2.2);have v2:=λa0 a1 a2 a3 a4 a5 a6 a7 a8=>Zbyc a0 a1 a2 a3 a4 a5 a6 a7 a8 s.Zh.Tables s.Zl.Version s.Zl.Tables s.Dependencies s.Inclusions m.Scan.Fixed m.Scan.Zo m.Scan.Zp m.Scan.Zq m.Scan.Zr m.Scan.Steps m.Sort_.Fixed m.Sort_.Zo m.Sort_.Zp m.Sort_.Zq m.Sort_.Zr m.Sort_.Steps m.Hash.Fixed m.Hash.Zo m.Hash.Zp m.Hash.Zq m.Hash.Zr m.Hash.Steps m.Merge.Fixed m.Merge.Zo m.Merge.Zp m.Merge.Zq m.Merge.Zr m.Merge.Steps m.Nested.Fixed m.Nested.Zo m.Nested.Zp m.Nested.Zq m.Nested.Zr m.Nested.Steps 0 r l 0 0 1 (by omega) (by omega) (g1.1) (g1.2.1) (g1.2.2.1) (g1.2.2.2) (g2.1) (g2.2.1) (g2.2.2.1) (g2.2.2.2.1) (g2.2.2.2.2)
  have v3:=Zbyd s.Zh.Tables s.Zl.Version s.Zl.Tables s.Dependencies s.Inclusions m.Scan.Fixed m.Scan.Zo m.Scan.Zp m.Scan.Zq m.Scan.Zr m.Scan.Steps m.Sort_.Fixed m.Sort_.Zo m.Sort_.Zp m.Sort_.Zq m.Sort_.Zr m.Sort_.Steps m.Hash.Fixed m.Hash.Zo m.Hash.Zp m.Hash.Zq m.Hash.Zr m.Hash.Steps m.Merge.Fixed m.Merge.Zo m.Merge.Zp m.Merge.Zq m.Merge.Zr m.Merge.Steps m.Nested.Fixed m.Nested.Zo m.Nested.Zp m.Nested.Zq m.Nested.Zr m.Nested.Steps 0 r l 0 0 1 (by omega) (by omega) (g1.1) (g1.2.1) (g1.2.2.1) (g1.2.2.2) (g2.1) (g2.2.1) (g2.2.2.1) (g2.2.2.2.1) (g2.2.2.2.2);have z2:¬(1+(Zx s.Zh.Tables:Int)+(Zy s.Zl.Tables:Int)+(Z1 s.Dependencies:Int)+(Z5 s.Inclusions:Int)+(Zk m.Scan.Steps:Int)+(Zk m.Sort_.Steps:Int)+(Zk m.Hash.Steps:Int)+(Zk m.Merge.Steps:Int)+(Zk m.Nested.Steps:Int)<0):=by omega
  simp at v1 v2 v3;simp +decide[Zou,e1,h1,e2,h2,t1,q1,t2,q2,m1,m2,zk,s0,s1,v1,v2,v3,z2]
 .rw[if_neg ok]at s0 s1;simp +decide[Zou,e1,h1,e2,h2,t1,q1,t2,q2,m1,m2,zk,s0,s1,Zbyb,Zbxr,Zbxs]
end Go.Proofs.YtooakifnnhhnhaaGreat
namespace Go.Proofs.YtooakifnnhhnhaaGreat
open Go.RowKit Go.Lib
theorem dropEq{a b:List Int}{k:Nat}(h1:k<a.length)(h2:k<b.length):decide (a.drop k=b.drop k)=(decide (a[k]=b[k]) && decide (a.drop (k+1)=b.drop (k+1))):=by
 rw[Bool.eq_iff_iff];simp only[Bool.and_eq_true,decide_eq_true_eq];rw[List.drop_eq_getElem_cons h1,List.drop_eq_getElem_cons h2,List.cons.injEq]
theorem eq_walk(v1 v2:Value)(a b:List Int)(w:World)(h1:Zf4 w v1 a)(h2:Zf4 w v2 b)(c:a.length<2305843009213693952)(cc:b.length<2305843009213693952) :
  Calls Tryz.prog 247 #[v1,v2] w λe w'=>e=.returned (.bool (decide (a=b)))/\∃q,w'=w.drewN q:=by
 obtain⟨p1,c1,rfl,r1⟩:=h1;obtain⟨p2,c2,rfl,r2⟩:=h2;have mixed:Tryz.prog.follows Departure.mixedOrders=true:=by kernel_rfl
 by_cases hlen:a.length=b.length
 .obtain⟨n,hna⟩:∃n:Nat,a.length=n:=⟨_,rfl⟩;have hnb:b.length=n:=by omega
  rw[hna,hnb];have HN:Aside (a.length=n/\b.length=n):=⟨hna,hnb⟩;have hln:n<2305843009213693952:=by omega
  clear hna hnb hlen c cc;generalize hR:decide (a=b)=R;have HR:Aside (decide (a.drop 0=b.drop 0)=R):=hR;clear hR
  go_enter Tryz.func247,Tryz.ntmps247
  go_wp2
  go_loopg [5,13] n (λgg _ s13 wr=>∃kk q:Nat,kk<=n/\n-kk<=gg/\s13=.int .i64 kk/\wr=w.drewN q/\Aside (a.length=n/\b.length=n)/\Aside (decide (a.drop kk=b.drop kk)=R))
  case atStart=>exact⟨0,0,Nat.zero_le _,by omega,rfl,rfl,HN,HR⟩
  case round =>
   obtain⟨kk,q,hkk,hg,rfl,rfl,A,B⟩:=hrel;have hA:=A.out;obtain⟨hA1,hA2⟩:=hA;by_cases hltn:kk<n
   .have hltz:(kk:Int)<(n:Int):=by omega
    have hlta:kk<a.length:=by omega
    have hlt:kk<b.length:=by omega
    obtain⟨g1,o1,rfl,d1⟩:=r1 kk hlta;obtain⟨g2,o2,rfl,d2⟩:=r2 kk hlt;have S:Aside (decide (a.drop kk=b.drop kk)=(decide (a[kk]=b[kk]) && decide (a.drop (kk+1)=b.drop (kk+1)))):=by
     exact dropEq hlta hlt
    clear r1 r2 hA1 hA2;generalize a[kk]=x at d1 S;generalize b[kk]=y at d2 S;by_cases hz:x=y
    .subst hz
     go_wp2_with fail
     go_region_o
     go_wp2
     go_roundg (n-(kk+1))
     case measure=>omega
     case rel =>
      refine⟨kk+1,q+1,by omega,by omega,by go_num,rfl,A,(show Aside _ from ?_)⟩;have:=S.out;rw[B.out]at this;show decide (a.drop (kk+1)=b.drop (kk+1))=R;simpa using this.symm
    .have hr:R=false:=by rw[<-B.out,S.out];simp[hz]
     go_wp2_with fail
     go_region_o
     go_wp2
     go_ret
     exact⟨by subst hr;rfl,q+1,rfl⟩
   .have hltz:¬(kk:Int)<(n:Int):=by omega
    have hr:R=true:=by
     rw[<-B.out,show b.drop kk=[]from List.drop_of_length_le (by omega),show a.drop kk=[]from List.drop_of_length_le (by omega)];simp
    clear r1 r2 hA1 hA2
    go_wp2
    go_ret
    exact⟨by subst hr;rfl,q,rfl⟩
 .have hne:decide (a=b)=false:=by
   rw[decide_eq_false_iff_not];intro e;exact hlen (by rw[e])
  have hlz:¬(a.length:Int)=(b.length:Int):=by omega
  rw[hne];clear hne r1 r2
  go_enter Tryz.func247,Tryz.ntmps247
  go_wp2
  go_ret
  exact⟨rfl,0,rfl⟩
theorem eqf_walk(v1 v2:Value)(a b:List Int)(w:World)(h1:Zf4 w v1 a)(h2:Zf4 w v2 b)(c:a.length<2305843009213693952)(cc:b.length<2305843009213693952) :
  Calls Tryz.prog 273 #[v1,v2] w λe w'=>e=.returned (.bool (decide (a=b)))/\∃q,w'=w.drewN q:=by
 have hc:=eq_walk v1 v2 a b w h1 h2 c cc;generalize decide (a=b)=R at hc|-;obtain⟨p1,c1,rfl,r1⟩:=h1;obtain⟨p2,c2,rfl,r2⟩:=h2;clear r1 r2
 go_enter Tryz.func273,Tryz.ntmps273
 go_wp2_with (refine hc.mono ?_;rintro e w' ⟨rfl,q,rfl⟩)
 go_ret
 exact⟨rfl,q,rfl⟩
end Go.Proofs.YtooakifnnhhnhaaGreat
namespace Go.Proofs.YtooakifnnhhnhaaGreat
open Go.Sort
section
variable{α β:Type}[Inhabited α][DecidableEq β](f:α->β)
def nbk(p:α):List α->List α
 |[]=>[]
 |x::l=>if f x=f p then nbk x l else x::nbk x l
def nb:List α->List α
 |[]=>[]
 |x::l=>x::nbk f x l
omit [Inhabited α] in
theorem Zbfd:∀(l:List α) (p y:α),nbk f p (l++[y])=nbk f p l++if f y=f (l.getLastD p)then[]else[y]
 |[],p,y=>by by_cases h:f y=f p<;>simp[nbk,h]
 |x::l,p,y=>by
  rw[List.cons_append,nbk,nbk,Zbfd l x y,List.getLastD_cons];split<;>rfl
omit [Inhabited α] in
theorem nb_snoc:∀(l:List α) (p y:α),l≠[]->nb f (l++[y])=nb f l++if f y=f (l.getLastD p)then[]else[y]
 |[],p,y,h=>absurd rfl h
 |x::l,p,y,_=>by
  rw[List.cons_append,nb,nb,Zbfd,List.getLastD_cons];rfl
omit [Inhabited α] in
theorem Z0i:∀(l:List α) (p:α),(nbk f p l).Sublist l
 |[],p=>.slnil
 |x::l,p=>by
  rw[nbk];split
  .exact(Z0i l x).cons _
  .exact(Z0i l x).cons_cons _
omit [Inhabited α] in
theorem nb_sub:∀l:List α,(nb f l).Sublist l
 |[]=>.slnil
 |x::l=>(Z0i f l x).cons_cons _
theorem Ztn{l:List α}{m:Nat}(h0:0<m)(h:m<l.length):nb f (l.take (m+1))=nb f (l.take m)++if f l[m]! = f l[m-1]! then[]else[l[m]!]:=by
 have hl:(l.take m).getLastD default=l[m-1]:=by
  rw[List.getLastD_eq_getLast?,List.getLast?_take,if_neg (by omega),List.getElem?_eq_getElem (show m-1<l.length by omega)];rfl
 rw[List.take_succ_eq_append_getElem h,nb_snoc f _ default _ (by intro e;have:=congrArg List.length e;rw[List.length_take,List.length_nil]at this;omega),hl,getElem!_pos l m h,getElem!_pos l (m-1) (by omega)]
structure CInv (d:Array α) (m k:Nat) (e:Array α):Prop where
 len:(nb f (d.toList.take m)).length=k
 lt:k<m
 row:e.toList=nb f (d.toList.take m)++d.toList.drop k
omit [Inhabited α] in
theorem CInv.size{d e:Array α}{m k:Nat}(I:CInv f d m k e)(hm:m<=d.size):e.size=d.size:=by
 have h1:=I.lt;rw[<-Array.length_toList,I.row,List.length_append,I.len,List.length_drop,Array.length_toList];omega
theorem CInv.read{d e:Array α}{m k:Nat}(I:CInv f d m k e)(hm:m<=d.size){j:Nat}(hj:k<=j)(hd:j<d.size):e[j]! = d[j]!:=by
 have hs:=I.size f hm;have h:=I.len;have h2:e.toList[j]?=d.toList[j]?:=by
  rw[I.row,List.getElem?_append_right (by omega),List.getElem?_drop,h];congr 1;omega
 rw[getElem!_pos e j (by omega),getElem!_pos d j hd];rw[Array.getElem?_toList,Array.getElem?_toList,Array.getElem?_eq_getElem (by omega),Array.getElem?_eq_getElem hd]at h2;exact Option.some.inj h2
theorem Zhg(d:Array α)(j:Nat):d.toList[j]! = d[j]!:=by simp[Array.getElem!_eq_getD,Array.getD_eq_getD_getElem?]
theorem CInv.start{d:Array α}{k:Nat}(h0:0<k)(hk:k<d.size)(ha:nb f (d.toList.take k)=d.toList.take k)(he:f d[k]! = f d[k-1]!):CInv f d (k+1) k d:=by
 have h:=Ztn f h0 (show k<d.toList.length from hk);rw[Zhg,Zhg,if_pos he,List.append_nil,ha]at h;refine⟨?_,Nat.lt_succ_self _,?_⟩
 .rw[h,List.length_take,Array.length_toList];omega
 .rw[h,List.take_append_drop]
theorem CInv.skip{d e:Array α}{m k:Nat}(I:CInv f d m k e)(hm:m<d.size)(he:f d[m]! = f d[m-1]!):CInv f d (m+1) k e:=by
 have hl:=I.lt;have h:=Ztn f (show 0<m by omega) (show m<d.toList.length from hm);rw[Zhg,Zhg,if_pos he,List.append_nil]at h;exact⟨by rw[h];exact I.len,by omega,by rw[h];exact I.row⟩
theorem CInv.keep{d e:Array α}{m k:Nat}(I:CInv f d m k e)(hm:m<d.size)(he:¬f d[m]! = f d[m-1]!):CInv f d (m+1) (k+1) (e.setIfInBounds k d[m]!):=by
 have hl:=I.lt;have hn:=I.len;have h:=Ztn f (show 0<m by omega) (show m<d.toList.length from hm);rw[Zhg,Zhg,if_neg he]at h;refine⟨by rw[h,List.length_append,hn];rfl,by omega,?_⟩;rw[Array.toList_setIfInBounds,I.row,h,List.set_append_right _ _ (by omega),hn,Nat.sub_self,List.drop_eq_getElem_cons (show k<d.toList.length by rw[Array.length_toList];omega),List.set_cons_zero];simp
omit [Inhabited α] in
theorem CInv.fill{d e:Array α}{k:Nat}(I:CInv f d d.size k e)(z:α):(Lib.lay e k (List.replicate (d.size-k) z)).toList=nb f d.toList++List.replicate (d.size-k) z:=by
 have hs:=I.size f (Nat.le_refl _);have hl:=I.lt;have hr:=I.row;have hn:=I.len;rw[show d.toList.take d.size=d.toList from List.take_of_length_le (by simp)]at hr hn;apply List.ext_getElem?;intro j;rw[Array.getElem?_toList,Lib.lay_get? _ _ _ _ (by simp;omega),List.length_replicate];by_cases h1:j<k
 .rw[if_neg (by omega),List.getElem?_append_left (by omega),<-Array.getElem?_toList,hr,List.getElem?_append_left (by omega)]
 .rw[List.getElem?_append_right (by omega),hn];by_cases h2:j<d.size
  .rw[if_pos (by omega)]
  .rw[if_neg (by omega),Array.getElem?_eq_none (by omega),List.getElem?_eq_none (by simp;omega)]
theorem nb_next{d:Array α}{k:Nat}(h0:0<k)(hk:k<d.size)(ha:nb f (d.toList.take k)=d.toList.take k)(he:¬f d[k]! = f d[k-1]!):nb f (d.toList.take (k+1))=d.toList.take (k+1):=by
 have h:=Ztn f h0 (show k<d.toList.length from hk);rw[Zhg,Zhg,if_neg he,ha]at h;rw[h,List.take_succ_eq_append_getElem (show k<d.toList.length from hk)];simp[getElem!_pos,hk]
omit [Inhabited α] in
theorem nb_one{d:Array α}(h:d.size<=1):nb f d.toList=d.toList:=by
 obtain⟨l⟩:=d
 match l with
 |[]=>rfl
 |[a]=>rfl
 |a::b::l=>simp at h
omit [Inhabited α] in
theorem nb_one1(d:Array α):nb f (d.toList.take 1)=d.toList.take 1:=by
 obtain⟨l⟩:=d
 cases l with
 |nil=>rfl
 |cons a l=>simp[nb,nbk]
end
theorem nb_cpt{α:Type}(f:α->List Int):∀l:List α,(nb f l).map f=cptR (l.map f)
 |[]=>rfl
 |[a]=>rfl
 |a::b::l=>by
  have ih:=nb_cpt f (b::l);rw[nb]at ih;rw[nb,nbk,List.map_cons,List.map_cons,List.map_cons,cptR];rw[List.map_cons,List.map_cons]at ih;by_cases e:f b=f a
  .rw[if_pos e,if_pos e.symm,<-ih,e]
  .rw[if_neg e,if_neg (λh=>e h.symm),<-ih];rfl
end Go.Proofs.YtooakifnnhhnhaaGreat
