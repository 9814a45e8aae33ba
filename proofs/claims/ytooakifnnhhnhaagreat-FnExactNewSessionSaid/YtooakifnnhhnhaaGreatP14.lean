/-
  Parts of the proofs for this seat: FA MP MQ MR NC L46 SE1 CPL.
-/
import Derived.Lib.SlicesCompact
import Derived.Test.YtooakifnnhhnhaaGreatP7
import Derived.Test.YtooakifnnhhnhaaGreatP12
import Derived.Test.YtooakifnnhhnhaaGreatP13
set_option linter.unusedSimpArgs false
set_option linter.unusedVariables false
set_option maxRecDepth 100000
set_option maxHeartbeats 4000000
namespace Go.Proofs.YtooakifnnhhnhaaGreat
open Go.AM
theorem l_toIntS(xs:List Int)(h:SmA xs)(fr:List Fr):∀i,i<=xs.length->EvL C fr [0,3,4] Zs6 ⟨[(0,L 1 (xs.map ic)),(3,.own 0),(4,I i)],[[]],[.arr Zcg 1 true (fill ic [.int .i64 0] xs i)]⟩ =
  EvX C fr (.x 0) ⟨[(0,L 1 (xs.map ic)),(3,.own 0),(4,I xs.length),(11,Bo false)],[[]],[.arr Zcg 1 true (xs.map ic)]⟩:=by
 have hl:xs.length<=4294967296:=h;refine down xs.length ?_ ?_
 .rw[Zi Zs6.eq_1];simp[Zgk]
 .intro i hi ih;rw[Zi Zs6.eq_1,<-ih];have h1:=Zgm (f:=ic) (z:=[.int .i64 0]) hi;have h3:=Zgl (f:=ic) (z:=[.int .i64 0]) (Ybw hi);have h4:IntKind.wrap .i64 ((i:Int)+1)=(i:Int)+1:=Zs (by omega) (by omega);simp at h1;simp[hi,h3,h4,h1]
theorem Ztf(xs:List Int)(h:SmA xs):C Zbif [L 1 (xs.map ic)] []=some (.own 0,[.arr Zcg 1 true (xs.map ic)]):=by
 refine run Zbs8 rfl ?_;have hl:xs.length<=4294967296:=h;have h1:∀b,b<=4096->xs.length*b<=room:=λb hb=>Yr (Ybv hl hb) (by decide)
 have h2:(xs.length:Int)<=140737488355328:=by omega
 have h3:=λfr=>l_toIntS xs h fr 0 (Yb _)
 simp[Zgj]at h3;simp[Zbdr,h1,h2,h3]
theorem l_eqIntS(xs ys:List Int)(h:SmA xs)(hl:ys.length=xs.length)(fr:List Fr):∀i,i<=xs.length->EvL C fr [0,1,5] Zs7 ⟨[(0,L 1 (xs.map ic)),(1,L 1 (ys.map ic)),(5,I i)],[[]],[]⟩ =
  if xs.drop i=ys.drop i then EvX C fr (.x 0) ⟨[(0,L 1 (xs.map ic)),(1,L 1 (ys.map ic)),(5,I xs.length),(14,Bo false)],[[]],[]⟩else EvX C fr .r ⟨[(4,Bo false)],[[]],[]⟩:=by
 have hm:xs.length<=4294967296:=h;refine down xs.length ?_ ?_
 .rw[Zi Zs7.eq_1];simp[hl,Ybg]
 .intro i hi ih;have hi2:i<ys.length:=by omega
  have h4:IntKind.wrap .i64 ((i:Int)+1)=(i:Int)+1:=Zs (by omega) (by omega);rw[Zi Zs7.eq_1];simp +decide[hi,hi2,h4];simp at ih;simp only[Zgn hi hi2,ih];split<;>first|(simp_all;done)|grind
theorem Ztg(xs ys:List Int)(h:SmA xs):C Zbij [L 1 (xs.map ic),L 1 (ys.map ic)] []=some (Bo (decide (xs=ys)),[]):=by
 refine run Zbtc rfl ?_;by_cases hl:ys.length=xs.length
 .have h3:=λfr=>l_eqIntS xs ys h hl fr 0 (Yb _)
  simp at h3;simp[Zzs,h3,hl];split<;>simp_all
 .have h1:xs≠ys:=λh=>hl (by rw[h])
  have h2:¬((xs.length:Int)=ys.length):=by omega
  simp[Zzs,h1,h2]
@[simp] theorem Zz0(es:List (List T))(c:Int):C Zbic [L 1 es,I c] []=some (I (sz1 es.length c),[]):=by
 refine run Zbs5 rfl ?_;simp[Zbdo,sz1];split<;>simp_all
theorem Zbtq(xs:List (List Int))(h:SmL SmA xs)(fr:List Fr):∀i,i<=xs.length->EvL C fr [0,3,4] Zs9 ⟨[(0,L 1 (xs.map isc)),(3,.own 0),(4,I i)],[[]],[.arr Zhp 1 true (fill isc [.lst 1 []] xs i)]⟩ =
  EvX C fr (.x 0) ⟨[(0,L 1 (xs.map isc)),(3,.own 0),(4,I xs.length),(11,Bo false)],[[]],[.arr Zhp 1 true (xs.map isc)]⟩:=by
 have hl:xs.length<=4294967296:=h.1;refine down xs.length ?_ ?_
 .rw[Zi Zs9.eq_1];simp[Zgk]
 .intro i hi ih;rw[Zi Zs9.eq_1,<-ih];have h1:=Zgm (f:=isc) (z:=[.lst 1 []]) hi;have h3:=Zgl (f:=isc) (z:=[.lst 1 []]) (Ybw hi);have h4:IntKind.wrap .i64 ((i:Int)+1)=(i:Int)+1:=Zs (by omega) (by omega);simp at h1;simp[hi,Ztf _ (h.2 _ (Ya hi)),h3,h4,h1]
theorem Zbeb(xs:List (List Int))(h:SmL SmA xs):C Zbio [L 1 (xs.map isc)] []=some (.own 0,[.arr Zhp 1 true (xs.map isc)]):=by
 refine run Zbth rfl ?_;have hl:xs.length<=4294967296:=h.1;have h1:∀b,b<=4096->xs.length*b<=room:=λb hb=>Yr (Ybv hl hb) (by decide)
 have h2:(xs.length:Int)<=140737488355328:=by omega
 have h3:=λfr=>Zbtq xs h fr 0 (Yb _)
 simp[Zgj]at h3;simp[Zbd4,h1,h2,h3]
theorem Zbtr(xs ys:List (List Int))(h:SmL SmA xs)(hl:ys.length=xs.length)(fr:List Fr):∀i,i<=xs.length->EvL C fr [0,1,5] Ztb ⟨[(0,L 1 (xs.map isc)),(1,L 1 (ys.map isc)),(5,I i)],[[]],[]⟩ =
  if xs.drop i=ys.drop i then EvX C fr (.x 0) ⟨[(0,L 1 (xs.map isc)),(1,L 1 (ys.map isc)),(5,I xs.length),(14,Bo false)],[[]],[]⟩else EvX C fr .r ⟨[(4,Bo false)],[[]],[]⟩:=by
 have hm:xs.length<=4294967296:=h.1;refine down xs.length ?_ ?_
 .rw[Zi Ztb.eq_1];simp[hl,Ybg]
 .intro i hi ih;have hi2:i<ys.length:=by omega
  have h4:IntKind.wrap .i64 ((i:Int)+1)=(i:Int)+1:=Zs (by omega) (by omega);rw[Zi Ztb.eq_1];simp +decide[hi,hi2,Ztg _ _ (h.2 _ (Ya hi)),h4];simp at ih;simp only[Zgn hi hi2,ih];split<;>first|(simp_all;done)|grind
theorem Zbec(xs ys:List (List Int))(h:SmL SmA xs):C Zbiq [L 1 (xs.map isc),L 1 (ys.map isc)] []=some (Bo (decide (xs=ys)),[]):=by
 refine run Zbtj rfl ?_;by_cases hl:ys.length=xs.length
 .have h3:=λfr=>Zbtr xs ys h hl fr 0 (Yb _)
  simp at h3;simp[Zzy,h3,hl];split<;>simp_all
 .have h1:xs≠ys:=λh=>hl (by rw[h])
  have h2:¬((xs.length:Int)=ys.length):=by omega
  simp[Zzy,h1,h2]
theorem Zbts(xs:List (List Int))(h:OkL (OkL OkI) xs)(fr:List Fr):∀i,i<=xs.length->∀left:Int,
  (EvL C fr [0,1,5] Ziz ⟨[(0,L 1 (xs.map isc)),(1,I left),(5,I i)],[[]],[]⟩=EvX C fr .r ⟨[(4,I (-1))],[[]],[]⟩/\Zba szI (xs.drop i) left=-1)\/
  EvL C fr [0,1,5] Ziz ⟨[(0,L 1 (xs.map isc)),(1,I left),(5,I i)],[[]],[]⟩=EvX C fr (.x 0) ⟨[(0,L 1 (xs.map isc)),(1,I (Zba szI (xs.drop i) left)),(5,I xs.length),(15,Bo false)],[[]],[]⟩:=by
 have hm:maxLen<=9223372036854775807:=by decide
 have hl:=h.1;refine down xs.length ?_ ?_
 .intro left;right;rw[Zi Ziz.eq_1];simp[Ybg,Zba]
 .intro i hi ih left;have h4:IntKind.wrap .i64 ((i:Int)+1)=(i:Int)+1:=Zs (by omega) (by omega);have e:EvL C fr [0,1,5] Ziz ⟨[(0,L 1 (xs.map isc)),(1,I left),(5,I i)],[[]],[]⟩=if szI xs[i] left<0 then EvX C fr .r ⟨[(4,I (-1))],[[]],[]⟩else EvL C fr [0,1,5] Ziz ⟨[(0,L 1 (xs.map isc)),(1,I (szI xs[i] left)),(5,I ((i+1:Nat):Int))],[[]],[]⟩:=by
   rw[Zi Ziz.eq_1];simp[hi,Zz0,h4]
  rw[e,Ye hi,Zba];split
  .exact .inl ⟨rfl,rfl⟩
  .exact ih _
theorem Zbed(xs:List (List Int))(c:Int)(h:OkL (OkL OkI) xs):C Zbim [L 1 (xs.map isc),I c] []=some (I (szL szI xs c),[]):=by
 refine run Zbtf rfl ?_;have h3:=λfr l=>Zbts xs h fr 0 (Yb _) l
 simp at h3;simp[Zbd2,szL,Zt,sz1];split
 .simp_all
 .rcases h3 [.blk 0,.seq _,.fin _ _] (IntKind.wrap .i64 (c-xs.length))with⟨h5,h6⟩|h5
  .rw[h5];simp[h6]
  .rw[h5];simp
theorem Zbtt(x0:ByteArray)(x1:Int)(x2:List (List Int))(h2:SmL SmA x2):C Zbid [.agg [.t (.str x0),I x1,.t (tII x2)]] []=some (.agg [.t (.str x0),I x1,.own 0],[.arr Zhp 1 true (x2.map isc)]):=by
 refine run Zbs6 rfl ?_;simp[Zbdp,Zbeb _ h2]
theorem Zbtu(x0:ByteArray)(x1:Int)(x2:List (List Int))(y0:ByteArray)(y1:Int)(y2:List (List Int))(h2:SmL SmA x2):C Zbih [.agg [.t (.str x0),I x1,.t (tII x2)],.agg [.t (.str y0),I y1,.t (tII y2)]] []=some (Bo (decide (x0=y0/\x1=y1/\x2=y2)),[]):=by
 refine run Zbta rfl ?_;simp[Zbdt,Zbec _ _ h2]
 repeat' split
 all_goals first|(simp_all;done)|grind
theorem Zbtv(x0:ByteArray)(x1:Int)(x2:List (List Int))(c:Int)(h2:OkL (OkL OkI) x2):C Zbia [.agg [.t (.str x0),I x1,.t (tII x2)],I c] []=some (I (Zc.sz ⟨x0,x1,x2⟩ c),[]):=by
 refine run Zbs3 rfl ?_;simp[Zbdm,Zbed _ _ h2,Zc.sz,Zt,sz1]
 repeat' split
 all_goals first|(simp_all;done)|grind
theorem Zbtw(xs:List Zc)(h:SmL Zc.small xs)(fr:List Fr):∀i,i<=xs.length->EvL C fr [0,3,4] Zs0 ⟨[(0,L 3 (xs.map Zc.c)),(3,.own 0),(4,I i)],[[]],[.arr Zly 3 true (fill Zc.c [.str ⟨#[]⟩,.int .i64 0,.lst 1 []] xs i)]⟩ =
  EvX C fr (.x 0) ⟨[(0,L 3 (xs.map Zc.c)),(3,.own 0),(4,I xs.length),(11,Bo false)],[[]],[.arr Zly 3 true (xs.map Zc.c)]⟩:=by
 have hl:xs.length<=4294967296:=h.1;refine down xs.length ?_ ?_
 .rw[Zi Zs0.eq_1];simp[Zgk]
 .intro i hi ih;rw[Zi Zs0.eq_1,<-ih];have h1:=Zgm (f:=Zc.c) (z:=[.str ⟨#[]⟩,.int .i64 0,.lst 1 []]) hi;have h3:=Zgl (f:=Zc.c) (z:=[.str ⟨#[]⟩,.int .i64 0,.lst 1 []]) (Ybw hi);have h4:IntKind.wrap .i64 ((i:Int)+1)=(i:Int)+1:=Zs (by omega) (by omega);simp at h1;simp[hi,Zbtt _ _ _ (h.2 _ (Ya hi)).2,h3,h4,h1]
theorem Zbtx(xs:List Zc)(h:SmL Zc.small xs):C Zbh0 [L 3 (xs.map Zc.c)] []=some (.own 0,[.arr Zly 3 true (xs.map Zc.c)]):=by
 refine run Zbst rfl ?_;have hl:xs.length<=4294967296:=h.1;have h1:∀b,b<=4096->xs.length*b<=room:=λb hb=>Yr (Ybv hl hb) (by decide)
 have h2:(xs.length:Int)<=140737488355328:=by omega
 have h3:=λfr=>Zbtw xs h fr 0 (Yb _)
 simp[Zgj]at h3;simp[Zbcw,h1,h2,h3]
theorem Zbty(xs ys:List Zc)(h:SmL Zc.small xs)(hl:ys.length=xs.length)(fr:List Fr):∀i,i<=xs.length->EvL C fr [0,1,5] Zow ⟨[(0,L 3 (xs.map Zc.c)),(1,L 3 (ys.map Zc.c)),(5,I i)],[[]],[]⟩ =
  if xs.drop i=ys.drop i then EvX C fr (.x 0) ⟨[(0,L 3 (xs.map Zc.c)),(1,L 3 (ys.map Zc.c)),(5,I xs.length),(14,Bo false)],[[]],[]⟩else EvX C fr .r ⟨[(4,Bo false)],[[]],[]⟩:=by
 have hm:xs.length<=4294967296:=h.1;refine down xs.length ?_ ?_
 .rw[Zi Zow.eq_1];simp[hl,Ybg]
 .intro i hi ih;have hi2:i<ys.length:=by omega
  have h4:IntKind.wrap .i64 ((i:Int)+1)=(i:Int)+1:=Zs (by omega) (by omega);rw[Zi Zow.eq_1];simp +decide[hi,hi2,Zbtu _ _ _ _ _ _ (h.2 _ (Ya hi)).2,h4];simp at ih;simp only[Zgn hi hi2,ih,Zc.ext_iff];split<;>first|(simp_all;done)|grind
theorem Zbtz(xs ys:List Zc)(h:SmL Zc.small xs):C Z3e [L 3 (xs.map Zc.c),L 3 (ys.map Zc.c)] []=some (Bo (decide (xs=ys)),[]):=by
 refine run Zbc3 rfl ?_;by_cases hl:ys.length=xs.length
 .have h3:=λfr=>Zbty xs ys h hl fr 0 (Yb _)
  simp at h3;simp[Zs3,h3,hl];split<;>simp_all
 .have h1:xs≠ys:=λh=>hl (by rw[h])
  have h2:¬((xs.length:Int)=ys.length):=by omega
  simp[Zs3,h1,h2]
theorem Zbt0(xs:List Zc)(h:OkL Zc.okay xs)(fr:List Fr):∀i,i<=xs.length->∀left:Int,
  (EvL C fr [0,1,5] Zix ⟨[(0,L 3 (xs.map Zc.c)),(1,I left),(5,I i)],[[]],[]⟩=EvX C fr .r ⟨[(4,I (-1))],[[]],[]⟩/\Zba Zc.sz (xs.drop i) left=-1)\/
  EvL C fr [0,1,5] Zix ⟨[(0,L 3 (xs.map Zc.c)),(1,I left),(5,I i)],[[]],[]⟩=EvX C fr (.x 0) ⟨[(0,L 3 (xs.map Zc.c)),(1,I (Zba Zc.sz (xs.drop i) left)),(5,I xs.length),(15,Bo false)],[[]],[]⟩:=by
 have hm:maxLen<=9223372036854775807:=by decide
 have hl:=h.1;refine down xs.length ?_ ?_
 .intro left;right;rw[Zi Zix.eq_1];simp[Ybg,Zba]
 .intro i hi ih left;have h4:IntKind.wrap .i64 ((i:Int)+1)=(i:Int)+1:=Zs (by omega) (by omega);have e:EvL C fr [0,1,5] Zix ⟨[(0,L 3 (xs.map Zc.c)),(1,I left),(5,I i)],[[]],[]⟩=if Zc.sz xs[i] left<0 then EvX C fr .r ⟨[(4,I (-1))],[[]],[]⟩else EvL C fr [0,1,5] Zix ⟨[(0,L 3 (xs.map Zc.c)),(1,I (Zc.sz xs[i] left)),(5,I ((i+1:Nat):Int))],[[]],[]⟩:=by
   rw[Zi Zix.eq_1];simp[hi,Zbtv _ _ _ _ (h.2 _ (Ya hi)).2.2,h4]
  rw[e,Ye hi,Zba];split
  .exact .inl ⟨rfl,rfl⟩
  .exact ih _
theorem Zbt1(xs:List Zc)(cc:Int)(h:OkL Zc.okay xs):C Zbhv [L 3 (xs.map Zc.c),I cc] []=some (I (szL Zc.sz xs cc),[]):=by
 refine run Zbso rfl ?_;have h3:=λfr l=>Zbt0 xs h fr 0 (Yb _) l
 simp at h3;simp[Zbcr,szL,Zt,sz1];split
 .simp_all
 .rcases h3 [.blk 0,.seq _,.fin _ _] (IntKind.wrap .i64 (cc-xs.length))with⟨h5,h6⟩|h5
  .rw[h5];simp[h6]
  .rw[h5];simp
theorem Zbt2(x0:List Zc)(h0:SmL Zc.small x0):C Zbhn [.agg [.t (.lst 3 (x0.map Zc.c))]] []=some (.agg [.own 0],[.arr Zly 3 true (x0.map Zc.c)]):=by
 refine run Zbsg rfl ?_;simp[Zbb7,Zbtx _ h0]
theorem Zbt3(x0 y0:List Zc)(h0:SmL Zc.small x0):C Z22 [.agg [.t (.lst 3 (x0.map Zc.c))],.agg [.t (.lst 3 (y0.map Zc.c))]] []=some (Bo (decide (x0=y0)),[]):=by
 refine run Zbcd rfl ?_;simp[Zy8,Zbtz _ _ h0]
 repeat' split
 all_goals first|(simp_all;done)|grind
theorem Zbt4(x0:List Zc)(cc:Int)(h0:OkL Zc.okay x0):C Zbhi [.agg [.t (.lst 3 (x0.map Zc.c))],I cc] []=some (I (Zh.sz ⟨x0⟩ cc),[]):=by
 refine run Zbsb rfl ?_;simp[Zbb2,Zbt1 _ _ h0,Zh.sz,Zt,sz1]
 repeat' split
 all_goals first|(simp_all;done)|grind
theorem Zbt5(x0:ByteArray)(x1:List Int)(x2:Int)(h1:SmA x1):C Zbh2 [.agg [.t (.str x0),.t (tI x1),I x2]] []=some (.agg [.t (.str x0),.own 0,I x2],[.arr Zcg 1 true (x1.map ic)]):=by
 refine run Zbsv rfl ?_;simp[Zbcy,Ztf _ h1]
theorem Zbt6(x0:ByteArray)(x1:List Int)(x2:Int)(y0:ByteArray)(y1:List Int)(y2:Int)(h1:SmA x1):C Zbh6 [.agg [.t (.str x0),.t (tI x1),I x2],.agg [.t (.str y0),.t (tI y1),I y2]] []=some (Bo (decide (x0=y0/\x1=y1/\x2=y2)),[]):=by
 refine run Zbsz rfl ?_;simp[Zbc5,Ztg _ _ h1]
 repeat' split
 all_goals first|(simp_all;done)|grind
theorem Zbt7(x0:ByteArray)(x1:List Int)(x2 c:Int) :C Zbhx [.agg [.t (.str x0),.t (tI x1),I x2],I c] []=some (I (Ze.sz ⟨x0,x1,x2⟩ c),[]):=by
 refine run Zbsq rfl ?_;simp[Zbct,Zz0,Ze.sz,Zt,sz1]
 repeat' split
 all_goals first|(simp_all;done)|grind
theorem Zbt8(x0:ByteArray)(x1:Int)(x2:ByteArray)(x3:Int) :C Zbh3 [.agg [.t (.str x0),I x1,.t (.str x2),I x3]] []=some (.agg [.t (.str x0),I x1,.t (.str x2),I x3],[]):=by
 refine run Zbsw rfl ?_;simp[Zbcz]
theorem Zbt9(x0:ByteArray)(x1:Int)(x2:ByteArray)(x3:Int)(y0:ByteArray)(y1:Int)(y2:ByteArray)(y3:Int) :C Zbh7 [.agg [.t (.str x0),I x1,.t (.str x2),I x3],.agg [.t (.str y0),I y1,.t (.str y2),I y3]] []=some (Bo (decide (x0=y0/\x1=y1/\x2=y2/\x3=y3)),[]):=by
 refine run Zbs0 rfl ?_;simp[Zbc6]
 repeat' split
 all_goals first|(simp_all;done)|grind
theorem Zbua(x0:ByteArray)(x1:Int)(x2:ByteArray)(x3 c:Int) :C Zbhy [.agg [.t (.str x0),I x1,.t (.str x2),I x3],I c] []=some (I (Zf.sz ⟨x0,x1,x2,x3⟩ c),[]):=by
 refine run Zbsr rfl ?_;simp[Zbcu,Zf.sz,Zt,sz1]
 repeat' split
 all_goals first|(simp_all;done)|grind
theorem Zbub(x0:List Int)(x1:List (List Int))(x2:List Int)(h0:SmA x0)(h1:SmL SmA x1)(h2:SmA x2):C Zbiv [.agg [.t (tI x0),.t (tII x1),.t (tI x2)]] []=some (.agg [.own 0,.own 1,.own 2],[.arr Zcg 1 true (x0.map ic),.arr Zhp 1 true (x1.map isc),.arr Zcg 1 true (x2.map ic)]):=by
 refine run Zbto rfl ?_;simp[Zbd9,Ztf _ h0,Zbeb _ h1,Ztf _ h2]
theorem Zbuc(x0:List Int)(x1:List (List Int))(x2 y0:List Int)(y1:List (List Int))(y2:List Int)(h0:SmA x0)(h1:SmL SmA x1)(h2:SmA x2):C Zbiw [.agg [.t (tI x0),.t (tII x1),.t (tI x2)],.agg [.t (tI y0),.t (tII y1),.t (tI y2)]] []=some (Bo (decide (x0=y0/\x1=y1/\x2=y2)),[]):=by
 refine run Zbtp rfl ?_;simp[Zbea,Ztg _ _ h0,Zbec _ _ h1,Ztg _ _ h2]
 repeat' split
 all_goals first|(simp_all;done)|grind
theorem Zbud(x0:List Int)(x1:List (List Int))(x2:List Int)(c:Int)(h1:OkL (OkL OkI) x1):C Zbiu [.agg [.t (tI x0),.t (tII x1),.t (tI x2)],I c] []=some (I (Zj.sz ⟨x0,x1,x2⟩ c),[]):=by
 refine run Zbtn rfl ?_;simp[Zbd8,Zz0,Zbed _ _ h1,Zj.sz,Zt,sz1]
 repeat' split
 all_goals first|(simp_all;done)|grind
theorem Zbue(xs:List Zj)(h:SmL Zj.small xs)(fr:List Fr):∀i,i<=xs.length->EvL C fr [0,3,4] Zta ⟨[(0,L 3 (xs.map Zj.c)),(3,.own 0),(4,I i)],[[]],[.arr Zqn 3 true (fill Zj.c [.lst 1 [],.lst 1 [],.lst 1 []] xs i)]⟩ =
  EvX C fr (.x 0) ⟨[(0,L 3 (xs.map Zj.c)),(3,.own 0),(4,I xs.length),(11,Bo false)],[[]],[.arr Zqn 3 true (xs.map Zj.c)]⟩:=by
 have hl:xs.length<=4294967296:=h.1;refine down xs.length ?_ ?_
 .rw[Zi Zta.eq_1];simp[Zgk]
 .intro i hi ih;rw[Zi Zta.eq_1,<-ih];have h1:=Zgm (f:=Zj.c) (z:=[.lst 1 [],.lst 1 [],.lst 1 []]) hi;have h3:=Zgl (f:=Zj.c) (z:=[.lst 1 [],.lst 1 [],.lst 1 []]) (Ybw hi);have h4:IntKind.wrap .i64 ((i:Int)+1)=(i:Int)+1:=Zs (by omega) (by omega);simp at h1;simp[hi,Zbub _ _ _ (h.2 _ (Ya hi)).1 (h.2 _ (Ya hi)).2.1 (h.2 _ (Ya hi)).2.2,h3,h4,h1]
theorem Zbuf(xs:List Zj)(h:SmL Zj.small xs):C Zbip [L 3 (xs.map Zj.c)] []=some (.own 0,[.arr Zqn 3 true (xs.map Zj.c)]):=by
 refine run Zbti rfl ?_;have hl:xs.length<=4294967296:=h.1;have h1:∀b,b<=4096->xs.length*b<=room:=λb hb=>Yr (Ybv hl hb) (by decide)
 have h2:(xs.length:Int)<=140737488355328:=by omega
 have h3:=λfr=>Zbue xs h fr 0 (Yb _)
 simp[Zgj]at h3;simp[Zbd5,h1,h2,h3]
theorem Zbug(xs ys:List Zj)(h:SmL Zj.small xs)(hl:ys.length=xs.length)(fr:List Fr):∀i,i<=xs.length->EvL C fr [0,1,5] Ztc ⟨[(0,L 3 (xs.map Zj.c)),(1,L 3 (ys.map Zj.c)),(5,I i)],[[]],[]⟩ =
  if xs.drop i=ys.drop i then EvX C fr (.x 0) ⟨[(0,L 3 (xs.map Zj.c)),(1,L 3 (ys.map Zj.c)),(5,I xs.length),(14,Bo false)],[[]],[]⟩else EvX C fr .r ⟨[(4,Bo false)],[[]],[]⟩:=by
 have hm:xs.length<=4294967296:=h.1;refine down xs.length ?_ ?_
 .rw[Zi Ztc.eq_1];simp[hl,Ybg]
 .intro i hi ih;have hi2:i<ys.length:=by omega
  have h4:IntKind.wrap .i64 ((i:Int)+1)=(i:Int)+1:=Zs (by omega) (by omega);rw[Zi Ztc.eq_1];simp +decide[hi,hi2,Zbuc _ _ _ _ _ _ (h.2 _ (Ya hi)).1 (h.2 _ (Ya hi)).2.1 (h.2 _ (Ya hi)).2.2,h4];simp at ih;simp only[Zgn hi hi2,ih,Zj.ext_iff];split<;>first|(simp_all;done)|grind
theorem Zbuh(xs ys:List Zj)(h:SmL Zj.small xs):C Zbir [L 3 (xs.map Zj.c),L 3 (ys.map Zj.c)] []=some (Bo (decide (xs=ys)),[]):=by
 refine run Zbtk rfl ?_;by_cases hl:ys.length=xs.length
 .have h3:=λfr=>Zbug xs ys h hl fr 0 (Yb _)
  simp at h3;simp[Zzz,h3,hl];split<;>simp_all
 .have h1:xs≠ys:=λh=>hl (by rw[h])
  have h2:¬((xs.length:Int)=ys.length):=by omega
  simp[Zzz,h1,h2]
theorem Zbui(xs:List Zj)(h:OkL Zj.okay xs)(fr:List Fr):∀i,i<=xs.length->∀left:Int,
  (EvL C fr [0,1,5] Zi0 ⟨[(0,L 3 (xs.map Zj.c)),(1,I left),(5,I i)],[[]],[]⟩=EvX C fr .r ⟨[(4,I (-1))],[[]],[]⟩/\Zba Zj.sz (xs.drop i) left=-1)\/
  EvL C fr [0,1,5] Zi0 ⟨[(0,L 3 (xs.map Zj.c)),(1,I left),(5,I i)],[[]],[]⟩=EvX C fr (.x 0) ⟨[(0,L 3 (xs.map Zj.c)),(1,I (Zba Zj.sz (xs.drop i) left)),(5,I xs.length),(15,Bo false)],[[]],[]⟩:=by
 have hm:maxLen<=9223372036854775807:=by decide
 have hl:=h.1;refine down xs.length ?_ ?_
 .intro left;right;rw[Zi Zi0.eq_1];simp[Ybg,Zba]
 .intro i hi ih left;have h4:IntKind.wrap .i64 ((i:Int)+1)=(i:Int)+1:=Zs (by omega) (by omega);have e:EvL C fr [0,1,5] Zi0 ⟨[(0,L 3 (xs.map Zj.c)),(1,I left),(5,I i)],[[]],[]⟩=if Zj.sz xs[i] left<0 then EvX C fr .r ⟨[(4,I (-1))],[[]],[]⟩else EvL C fr [0,1,5] Zi0 ⟨[(0,L 3 (xs.map Zj.c)),(1,I (Zj.sz xs[i] left)),(5,I ((i+1:Nat):Int))],[[]],[]⟩:=by
   rw[Zi Zi0.eq_1];simp[hi,Zbud _ _ _ _ (h.2 _ (Ya hi)).2.1,h4]
  rw[e,Ye hi,Zba];split
  .exact .inl ⟨rfl,rfl⟩
  .exact ih _
theorem Zbuj(xs:List Zj)(cc:Int)(h:OkL Zj.okay xs):C Zbin [L 3 (xs.map Zj.c),I cc] []=some (I (szL Zj.sz xs cc),[]):=by
 refine run Zbtg rfl ?_;have h3:=λfr l=>Zbui xs h fr 0 (Yb _) l
 simp at h3;simp[Zbd3,szL,Zt,sz1];split
 .simp_all
 .rcases h3 [.blk 0,.seq _,.fin _ _] (IntKind.wrap .i64 (cc-xs.length))with⟨h5,h6⟩|h5
  .rw[h5];simp[h6]
  .rw[h5];simp
theorem Zbuk(x0:ByteArray)(x1 x2:Int)(x3:List Zj)(h3:SmL Zj.small x3):C Zbie [.agg [.t (.str x0),I x1,I x2,.t (.lst 3 (x3.map Zj.c))]] []=some (.agg [.t (.str x0),I x1,I x2,.own 0],[.arr Zqn 3 true (x3.map Zj.c)]):=by
 refine run Zbs7 rfl ?_;simp[Zbdq,Zbuf _ h3]
theorem Zbul(x0:ByteArray)(x1 x2:Int)(x3:List Zj)(y0:ByteArray)(y1 y2:Int)(y3:List Zj)(h3:SmL Zj.small x3):C Zbii [.agg [.t (.str x0),I x1,I x2,.t (.lst 3 (x3.map Zj.c))],.agg [.t (.str y0),I y1,I y2,.t (.lst 3 (y3.map Zj.c))]] []=some (Bo (decide (x0=y0/\x1=y1/\x2=y2/\x3=y3)),[]):=by
 refine run Zbtb rfl ?_;simp[Zbdu,Zbuh _ _ h3]
 repeat' split
 all_goals first|(simp_all;done)|grind
theorem Zbum(x0:ByteArray)(x1 x2:Int)(x3:List Zj)(cc:Int)(h3:OkL Zj.okay x3):C Zbib [.agg [.t (.str x0),I x1,I x2,.t (.lst 3 (x3.map Zj.c))],I cc] []=some (I (Zd.sz ⟨x0,x1,x2,x3⟩ cc),[]):=by
 refine run Zbs4 rfl ?_;simp[Zbdn,Zbuj _ _ h3,Zd.sz,Zt,sz1]
 repeat' split
 all_goals first|(simp_all;done)|grind
theorem Zbun(xs:List Zd)(h:SmL Zd.small xs)(fr:List Fr):∀i,i<=xs.length->EvL C fr [0,3,4] Zs1 ⟨[(0,L 4 (xs.map Zd.c)),(3,.own 0),(4,I i)],[[]],[.arr Zlz 4 true (fill Zd.c [.str ⟨#[]⟩,.int .i64 0,.int .i64 0,.lst 3 []] xs i)]⟩ =
  EvX C fr (.x 0) ⟨[(0,L 4 (xs.map Zd.c)),(3,.own 0),(4,I xs.length),(11,Bo false)],[[]],[.arr Zlz 4 true (xs.map Zd.c)]⟩:=by
 have hl:xs.length<=4294967296:=h.1;refine down xs.length ?_ ?_
 .rw[Zi Zs1.eq_1];simp[Zgk]
 .intro i hi ih;rw[Zi Zs1.eq_1,<-ih];have h1:=Zgm (f:=Zd.c) (z:=[.str ⟨#[]⟩,.int .i64 0,.int .i64 0,.lst 3 []]) hi;have h3:=Zgl (f:=Zd.c) (z:=[.str ⟨#[]⟩,.int .i64 0,.int .i64 0,.lst 3 []]) (Ybw hi);have h4:IntKind.wrap .i64 ((i:Int)+1)=(i:Int)+1:=Zs (by omega) (by omega);simp at h1;simp[hi,Zbuk _ _ _ _ (h.2 _ (Ya hi)).2,h3,h4,h1]
theorem Zbuo(xs:List Zd)(h:SmL Zd.small xs):C Zbh1 [L 4 (xs.map Zd.c)] []=some (.own 0,[.arr Zlz 4 true (xs.map Zd.c)]):=by
 refine run Zbsu rfl ?_;have hl:xs.length<=4294967296:=h.1;have h1:∀b,b<=4096->xs.length*b<=room:=λb hb=>Yr (Ybv hl hb) (by decide)
 have h2:(xs.length:Int)<=140737488355328:=by omega
 have h3:=λfr=>Zbun xs h fr 0 (Yb _)
 simp[Zgj]at h3;simp[Zbcx,h1,h2,h3]
theorem Zbup(xs ys:List Zd)(h:SmL Zd.small xs)(hl:ys.length=xs.length)(fr:List Fr):∀i,i<=xs.length->EvL C fr [0,1,5] Zox ⟨[(0,L 4 (xs.map Zd.c)),(1,L 4 (ys.map Zd.c)),(5,I i)],[[]],[]⟩ =
  if xs.drop i=ys.drop i then EvX C fr (.x 0) ⟨[(0,L 4 (xs.map Zd.c)),(1,L 4 (ys.map Zd.c)),(5,I xs.length),(14,Bo false)],[[]],[]⟩else EvX C fr .r ⟨[(4,Bo false)],[[]],[]⟩:=by
 have hm:xs.length<=4294967296:=h.1;refine down xs.length ?_ ?_
 .rw[Zi Zox.eq_1];simp[hl,Ybg]
 .intro i hi ih;have hi2:i<ys.length:=by omega
  have h4:IntKind.wrap .i64 ((i:Int)+1)=(i:Int)+1:=Zs (by omega) (by omega);rw[Zi Zox.eq_1];simp +decide[hi,hi2,Zbul _ _ _ _ _ _ _ _ (h.2 _ (Ya hi)).2,h4];simp at ih;simp only[Zgn hi hi2,ih,Zd.ext_iff];split<;>first|(simp_all;done)|grind
theorem Zbuq(xs ys:List Zd)(h:SmL Zd.small xs):C Z3f [L 4 (xs.map Zd.c),L 4 (ys.map Zd.c)] []=some (Bo (decide (xs=ys)),[]):=by
 refine run Zbc4 rfl ?_;by_cases hl:ys.length=xs.length
 .have h3:=λfr=>Zbup xs ys h hl fr 0 (Yb _)
  simp at h3;simp[Zs4,h3,hl];split<;>simp_all
 .have h1:xs≠ys:=λh=>hl (by rw[h])
  have h2:¬((xs.length:Int)=ys.length):=by omega
  simp[Zs4,h1,h2]
theorem Zbur(xs:List Zd)(h:OkL Zd.okay xs)(fr:List Fr):∀i,i<=xs.length->∀left:Int,
  (EvL C fr [0,1,5] Ziy ⟨[(0,L 4 (xs.map Zd.c)),(1,I left),(5,I i)],[[]],[]⟩=EvX C fr .r ⟨[(4,I (-1))],[[]],[]⟩/\Zba Zd.sz (xs.drop i) left=-1)\/
  EvL C fr [0,1,5] Ziy ⟨[(0,L 4 (xs.map Zd.c)),(1,I left),(5,I i)],[[]],[]⟩=EvX C fr (.x 0) ⟨[(0,L 4 (xs.map Zd.c)),(1,I (Zba Zd.sz (xs.drop i) left)),(5,I xs.length),(15,Bo false)],[[]],[]⟩:=by
 have hm:maxLen<=9223372036854775807:=by decide
 have hl:=h.1;refine down xs.length ?_ ?_
 .intro left;right;rw[Zi Ziy.eq_1];simp[Ybg,Zba]
 .intro i hi ih left;have h4:IntKind.wrap .i64 ((i:Int)+1)=(i:Int)+1:=Zs (by omega) (by omega);have e:EvL C fr [0,1,5] Ziy ⟨[(0,L 4 (xs.map Zd.c)),(1,I left),(5,I i)],[[]],[]⟩=if Zd.sz xs[i] left<0 then EvX C fr .r ⟨[(4,I (-1))],[[]],[]⟩else EvL C fr [0,1,5] Ziy ⟨[(0,L 4 (xs.map Zd.c)),(1,I (Zd.sz xs[i] left)),(5,I ((i+1:Nat):Int))],[[]],[]⟩:=by
   rw[Zi Ziy.eq_1];simp[hi,Zbum _ _ _ _ _ (h.2 _ (Ya hi)).2.2.2,h4]
  rw[e,Ye hi,Zba];split
  .exact .inl ⟨rfl,rfl⟩
  .exact ih _
theorem Zbus(xs:List Zd)(cc:Int)(h:OkL Zd.okay xs):C Zbhw [L 4 (xs.map Zd.c),I cc] []=some (I (szL Zd.sz xs cc),[]):=by
 refine run Zbsp rfl ?_;have h3:=λfr l=>Zbur xs h fr 0 (Yb _) l
 simp at h3;simp[Zbcs,szL,Zt,sz1];split
 .simp_all
 .rcases h3 [.blk 0,.seq _,.fin _ _] (IntKind.wrap .i64 (cc-xs.length))with⟨h5,h6⟩|h5
  .rw[h5];simp[h6]
  .rw[h5];simp
theorem Zbut(x0:Int)(x1:List Zd)(h1:SmL Zd.small x1):C Zbho [.agg [I x0,.t (.lst 4 (x1.map Zd.c))]] []=some (.agg [I x0,.own 0],[.arr Zlz 4 true (x1.map Zd.c)]):=by
 refine run Zbsh rfl ?_;simp[Zbb8,Zbuo _ h1]
theorem Zbuu(x0:Int)(x1:List Zd)(y0:Int)(y1:List Zd)(h1:SmL Zd.small x1):C Z23 [.agg [I x0,.t (.lst 4 (x1.map Zd.c))],.agg [I y0,.t (.lst 4 (y1.map Zd.c))]] []=some (Bo (decide (x0=y0/\x1=y1)),[]):=by
 refine run Zbce rfl ?_;simp[Zy9,Zbuq _ _ h1]
 repeat' split
 all_goals first|(simp_all;done)|grind
theorem Zbuv(x0:Int)(x1:List Zd)(cc:Int)(h1:OkL Zd.okay x1):C Zbhj [.agg [I x0,.t (.lst 4 (x1.map Zd.c))],I cc] []=some (I (Zk.sz ⟨x0,x1⟩ cc),[]):=by
 refine run Zbsc rfl ?_;simp[Zbb3,Zbus _ _ h1,Zk.sz,Zt,sz1]
 repeat' split
 all_goals first|(simp_all;done)|grind
theorem Zbuw(xs:List Ze)(h:SmL Ze.small xs)(fr:List Fr):∀i,i<=xs.length->EvL C fr [0,3,4] Zsw ⟨[(0,L 3 (xs.map Ze.c)),(3,.own 0),(4,I i)],[[]],[.arr Zql 3 true (fill Ze.c [.str ⟨#[]⟩,.lst 1 [],.int .i64 0] xs i)]⟩ =
  EvX C fr (.x 0) ⟨[(0,L 3 (xs.map Ze.c)),(3,.own 0),(4,I xs.length),(11,Bo false)],[[]],[.arr Zql 3 true (xs.map Ze.c)]⟩:=by
 have hl:xs.length<=4294967296:=h.1;refine down xs.length ?_ ?_
 .rw[Zi Zsw.eq_1];simp[Zgk]
 .intro i hi ih;rw[Zi Zsw.eq_1,<-ih];have h1:=Zgm (f:=Ze.c) (z:=[.str ⟨#[]⟩,.lst 1 [],.int .i64 0]) hi;have h3:=Zgl (f:=Ze.c) (z:=[.str ⟨#[]⟩,.lst 1 [],.int .i64 0]) (Ybw hi);have h4:IntKind.wrap .i64 ((i:Int)+1)=(i:Int)+1:=Zs (by omega) (by omega);simp at h1;simp[hi,Zbt5 _ _ _ (h.2 _ (Ya hi)).2,h3,h4,h1]
theorem Zbux(xs:List Ze)(h:SmL Ze.small xs):C Zbhp [L 3 (xs.map Ze.c)] []=some (.own 0,[.arr Zql 3 true (xs.map Ze.c)]):=by
 refine run Zbsi rfl ?_;have hl:xs.length<=4294967296:=h.1;have h1:∀b,b<=4096->xs.length*b<=room:=λb hb=>Yr (Ybv hl hb) (by decide)
 have h2:(xs.length:Int)<=140737488355328:=by omega
 have h3:=λfr=>Zbuw xs h fr 0 (Yb _)
 simp[Zgj]at h3;simp[Zbb9,h1,h2,h3]
theorem Zbuy(xs ys:List Ze)(h:SmL Ze.small xs)(hl:ys.length=xs.length)(fr:List Fr):∀i,i<=xs.length->EvL C fr [0,1,5] Zos ⟨[(0,L 3 (xs.map Ze.c)),(1,L 3 (ys.map Ze.c)),(5,I i)],[[]],[]⟩ =
  if xs.drop i=ys.drop i then EvX C fr (.x 0) ⟨[(0,L 3 (xs.map Ze.c)),(1,L 3 (ys.map Ze.c)),(5,I xs.length),(14,Bo false)],[[]],[]⟩else EvX C fr .r ⟨[(4,Bo false)],[[]],[]⟩:=by
 have hm:xs.length<=4294967296:=h.1;refine down xs.length ?_ ?_
 .rw[Zi Zos.eq_1];simp[hl,Ybg]
 .intro i hi ih;have hi2:i<ys.length:=by omega
  have h4:IntKind.wrap .i64 ((i:Int)+1)=(i:Int)+1:=Zs (by omega) (by omega);rw[Zi Zos.eq_1];simp +decide[hi,hi2,Zbt6 _ _ _ _ _ _ (h.2 _ (Ya hi)).2,h4];simp at ih;simp only[Zgn hi hi2,ih,Ze.ext_iff];split<;>first|(simp_all;done)|grind
theorem Zbuz(xs ys:List Ze)(h:SmL Ze.small xs):C Z24 [L 3 (xs.map Ze.c),L 3 (ys.map Ze.c)] []=some (Bo (decide (xs=ys)),[]):=by
 refine run Zbcf rfl ?_;by_cases hl:ys.length=xs.length
 .have h3:=λfr=>Zbuy xs ys h hl fr 0 (Yb _)
  simp at h3;simp[Zsy,h3,hl];split<;>simp_all
 .have h1:xs≠ys:=λh=>hl (by rw[h])
  have h2:¬((xs.length:Int)=ys.length):=by omega
  simp[Zsy,h1,h2]
theorem Zbu0(xs:List Ze)(h:OkL Ze.okay xs)(fr:List Fr):∀i,i<=xs.length->∀left:Int,
  (EvL C fr [0,1,5] Ziv ⟨[(0,L 3 (xs.map Ze.c)),(1,I left),(5,I i)],[[]],[]⟩=EvX C fr .r ⟨[(4,I (-1))],[[]],[]⟩/\Zba Ze.sz (xs.drop i) left=-1)\/
  EvL C fr [0,1,5] Ziv ⟨[(0,L 3 (xs.map Ze.c)),(1,I left),(5,I i)],[[]],[]⟩=EvX C fr (.x 0) ⟨[(0,L 3 (xs.map Ze.c)),(1,I (Zba Ze.sz (xs.drop i) left)),(5,I xs.length),(15,Bo false)],[[]],[]⟩:=by
 have hm:maxLen<=9223372036854775807:=by decide
 have hl:=h.1;refine down xs.length ?_ ?_
 .intro left;right;rw[Zi Ziv.eq_1];simp[Ybg,Zba]
 .intro i hi ih left;have h4:IntKind.wrap .i64 ((i:Int)+1)=(i:Int)+1:=Zs (by omega) (by omega);have e:EvL C fr [0,1,5] Ziv ⟨[(0,L 3 (xs.map Ze.c)),(1,I left),(5,I i)],[[]],[]⟩=if Ze.sz xs[i] left<0 then EvX C fr .r ⟨[(4,I (-1))],[[]],[]⟩else EvL C fr [0,1,5] Ziv ⟨[(0,L 3 (xs.map Ze.c)),(1,I (Ze.sz xs[i] left)),(5,I ((i+1:Nat):Int))],[[]],[]⟩:=by
   rw[Zi Ziv.eq_1];simp[hi,Zbt7,h4]
  rw[e,Ye hi,Zba];split
  .exact .inl ⟨rfl,rfl⟩
  .exact ih _
theorem Zbu1(xs:List Ze)(cc:Int)(h:OkL Ze.okay xs):C Zbhk [L 3 (xs.map Ze.c),I cc] []=some (I (szL Ze.sz xs cc),[]):=by
 refine run Zbsd rfl ?_;have h3:=λfr l=>Zbu0 xs h fr 0 (Yb _) l
 simp at h3;simp[Zbb4,szL,Zt,sz1];split
 .simp_all
 .rcases h3 [.blk 0,.seq _,.fin _ _] (IntKind.wrap .i64 (cc-xs.length))with⟨h5,h6⟩|h5
  .rw[h5];simp[h6]
  .rw[h5];simp
theorem Zbu2(xs:List Zf)(h:SmL Zf.small xs)(fr:List Fr):∀i,i<=xs.length->EvL C fr [0,3,4] Zsx ⟨[(0,L 4 (xs.map Zf.c)),(3,.own 0),(4,I i)],[[]],[.arr Zqm 4 true (fill Zf.c [.str ⟨#[]⟩,.int .i64 0,.str ⟨#[]⟩,.int .i64 0] xs i)]⟩ =
  EvX C fr (.x 0) ⟨[(0,L 4 (xs.map Zf.c)),(3,.own 0),(4,I xs.length),(11,Bo false)],[[]],[.arr Zqm 4 true (xs.map Zf.c)]⟩:=by
 have hl:xs.length<=4294967296:=h.1;refine down xs.length ?_ ?_
 .rw[Zi Zsx.eq_1];simp[Zgk]
 .intro i hi ih;rw[Zi Zsx.eq_1,<-ih];have h1:=Zgm (f:=Zf.c) (z:=[.str ⟨#[]⟩,.int .i64 0,.str ⟨#[]⟩,.int .i64 0]) hi;have h3:=Zgl (f:=Zf.c) (z:=[.str ⟨#[]⟩,.int .i64 0,.str ⟨#[]⟩,.int .i64 0]) (Ybw hi);have h4:IntKind.wrap .i64 ((i:Int)+1)=(i:Int)+1:=Zs (by omega) (by omega);simp at h1;simp[hi,Zbt8 _ _ _ _ ,h3,h4,h1]
theorem Zbu3(xs:List Zf)(h:SmL Zf.small xs):C Zbhq [L 4 (xs.map Zf.c)] []=some (.own 0,[.arr Zqm 4 true (xs.map Zf.c)]):=by
 refine run Zbsj rfl ?_;have hl:xs.length<=4294967296:=h.1;have h1:∀b,b<=4096->xs.length*b<=room:=λb hb=>Yr (Ybv hl hb) (by decide)
 have h2:(xs.length:Int)<=140737488355328:=by omega
 have h3:=λfr=>Zbu2 xs h fr 0 (Yb _)
 simp[Zgj]at h3;simp[Zbca,h1,h2,h3]
theorem Zbu4(xs ys:List Zf)(h:SmL Zf.small xs)(hl:ys.length=xs.length)(fr:List Fr):∀i,i<=xs.length->EvL C fr [0,1,5] Zot ⟨[(0,L 4 (xs.map Zf.c)),(1,L 4 (ys.map Zf.c)),(5,I i)],[[]],[]⟩ =
  if xs.drop i=ys.drop i then EvX C fr (.x 0) ⟨[(0,L 4 (xs.map Zf.c)),(1,L 4 (ys.map Zf.c)),(5,I xs.length),(14,Bo false)],[[]],[]⟩else EvX C fr .r ⟨[(4,Bo false)],[[]],[]⟩:=by
 have hm:xs.length<=4294967296:=h.1;refine down xs.length ?_ ?_
 .rw[Zi Zot.eq_1];simp[hl,Ybg]
 .intro i hi ih;have hi2:i<ys.length:=by omega
  have h4:IntKind.wrap .i64 ((i:Int)+1)=(i:Int)+1:=Zs (by omega) (by omega);rw[Zi Zot.eq_1];simp +decide[hi,hi2,Zbt9 _ _ _ _ _ _ _ _ ,h4];simp at ih;simp only[Zgn hi hi2,ih,Zf.ext_iff];split<;>first|(simp_all;done)|grind
theorem Zbu5(xs ys:List Zf)(h:SmL Zf.small xs):C Z25 [L 4 (xs.map Zf.c),L 4 (ys.map Zf.c)] []=some (Bo (decide (xs=ys)),[]):=by
 refine run Zbcg rfl ?_;by_cases hl:ys.length=xs.length
 .have h3:=λfr=>Zbu4 xs ys h hl fr 0 (Yb _)
  simp at h3;simp[Zsz,h3,hl];split<;>simp_all
 .have h1:xs≠ys:=λh=>hl (by rw[h])
  have h2:¬((xs.length:Int)=ys.length):=by omega
  simp[Zsz,h1,h2]
theorem Zbu6(xs:List Zf)(h:OkL Zf.okay xs)(fr:List Fr):∀i,i<=xs.length->∀left:Int,
  (EvL C fr [0,1,5] Ziw ⟨[(0,L 4 (xs.map Zf.c)),(1,I left),(5,I i)],[[]],[]⟩=EvX C fr .r ⟨[(4,I (-1))],[[]],[]⟩/\Zba Zf.sz (xs.drop i) left=-1)\/
  EvL C fr [0,1,5] Ziw ⟨[(0,L 4 (xs.map Zf.c)),(1,I left),(5,I i)],[[]],[]⟩=EvX C fr (.x 0) ⟨[(0,L 4 (xs.map Zf.c)),(1,I (Zba Zf.sz (xs.drop i) left)),(5,I xs.length),(15,Bo false)],[[]],[]⟩:=by
 have hm:maxLen<=9223372036854775807:=by decide
 have hl:=h.1;refine down xs.length ?_ ?_
 .intro left;right;rw[Zi Ziw.eq_1];simp[Ybg,Zba]
 .intro i hi ih left;have h4:IntKind.wrap .i64 ((i:Int)+1)=(i:Int)+1:=Zs (by omega) (by omega);have e:EvL C fr [0,1,5] Ziw ⟨[(0,L 4 (xs.map Zf.c)),(1,I left),(5,I i)],[[]],[]⟩=if Zf.sz xs[i] left<0 then EvX C fr .r ⟨[(4,I (-1))],[[]],[]⟩else EvL C fr [0,1,5] Ziw ⟨[(0,L 4 (xs.map Zf.c)),(1,I (Zf.sz xs[i] left)),(5,I ((i+1:Nat):Int))],[[]],[]⟩:=by
   rw[Zi Ziw.eq_1];simp[hi,Zbua,h4]
  rw[e,Ye hi,Zba];split
  .exact .inl ⟨rfl,rfl⟩
  .exact ih _
theorem Zbu7(xs:List Zf)(cc:Int)(h:OkL Zf.okay xs):C Zbhl [L 4 (xs.map Zf.c),I cc] []=some (I (szL Zf.sz xs cc),[]):=by
 refine run Zbse rfl ?_;have h3:=λfr l=>Zbu6 xs h fr 0 (Yb _) l
 simp at h3;simp[Zbb5,szL,Zt,sz1];split
 .simp_all
 .rcases h3 [.blk 0,.seq _,.fin _ _] (IntKind.wrap .i64 (cc-xs.length))with⟨h5,h6⟩|h5
  .rw[h5];simp[h6]
  .rw[h5];simp
theorem Zbu8(x0:List Zc)(x1:Int)(x2:List Zd)(x3:List Ze)(x4:List Zf)(h0:SmL Zc.small x0)(h2:SmL Zd.small x2)(h3:SmL Ze.small x3)(h4:SmL Zf.small x4):C Zbhg [.agg [.t (.lst 3 (x0.map Zc.c)),I x1,.t (.lst 4 (x2.map Zd.c)),.t (.lst 3 (x3.map Ze.c)),.t (.lst 4 (x4.map Zf.c))]] []=some (.agg [.own 0,I x1,.own 1,.own 2,.own 3],[.arr Zly 3 true (x0.map Zc.c),.arr Zlz 4 true (x2.map Zd.c),.arr Zql 3 true (x3.map Ze.c),.arr Zqm 4 true (x4.map Zf.c)]):=by
 refine run Zbr9 rfl ?_;simp[Zbbt,Zbt2 _ h0,Zbut _ _ h2,Zbux _ h3,Zbu3 _ h4]
theorem Zbee(x0:List Zc)(x1:Int)(x2:List Zd)(x3:List Ze)(x4:List Zf)(y0:List Zc)(y1:Int)(y2:List Zd)(y3:List Ze)(y4:List Zf)(h0:SmL Zc.small x0)(h2:SmL Zd.small x2)(h3:SmL Ze.small x3)(h4:SmL Zf.small x4):C Z2w [.agg [.t (.lst 3 (x0.map Zc.c)),I x1,.t (.lst 4 (x2.map Zd.c)),.t (.lst 3 (x3.map Ze.c)),.t (.lst 4 (x4.map Zf.c))],.agg [.t (.lst 3 (y0.map Zc.c)),I y1,.t (.lst 4 (y2.map Zd.c)),.t (.lst 3 (y3.map Ze.c)),.t (.lst 4 (y4.map Zf.c))]] []=some (Bo (decide (x0=y0/\x1=y1/\x2=y2/\x3=y3/\x4=y4)),[]):=by
 refine run Zbbw rfl ?_;simp[Zy2,Zbt3 _ _ h0,Zbuu _ _ _ _ h2,Zbuz _ _ h3,Zbu5 _ _ h4]
 repeat' split
 all_goals first|(simp_all;done)|grind
theorem Zbu9(x0:List Zc)(x1:Int)(x2:List Zd)(x3:List Ze)(x4:List Zf)(cc:Int)(h0:OkL Zc.okay x0)(h2:OkL Zd.okay x2)(h3:OkL Ze.okay x3)(h4:OkL Zf.okay x4):C Zbhe [.agg [.t (.lst 3 (x0.map Zc.c)),I x1,.t (.lst 4 (x2.map Zd.c)),.t (.lst 3 (x3.map Ze.c)),.t (.lst 4 (x4.map Zf.c))],I cc] []=some (I (Zl.sz ⟨⟨x0⟩,⟨x1,x2⟩,x3,x4⟩ cc),[]):=by
 refine run Zbr7 rfl ?_;simp[Zbbr,Zbt4 _ _ h0,Zbuv _ _ _ h2,Zbu1 _ _ h3,Zbu7 _ _ h4,Zl.sz,Zt,sz1]
 repeat' split
 all_goals first|(simp_all;done)|grind
theorem Zbva(x0 x1:Int) :C Zbig [.agg [I x0,I x1]] []=some (.agg [I x0,I x1],[]):=by
 refine run Zbs9 rfl ?_;simp[Zbds]
theorem Zbvb(x0 x1 y0 y1:Int) :C Zbik [.agg [I x0,I x1],.agg [I y0,I y1]] []=some (Bo (decide (x0=y0/\x1=y1)),[]):=by
 refine run Zbtd rfl ?_;simp[Zbdv]
 repeat' split
 all_goals first|(simp_all;done)|grind
theorem Zbvc(xs:List Zb)(h:SmA xs)(fr:List Fr):∀i,i<=xs.length->EvL C fr [0,3,4] Zs2 ⟨[(0,L 2 (xs.map Zb.c)),(3,.own 0),(4,I i)],[[]],[.arr Zfq 2 true (fill Zb.c [.int .i64 0,.int .i64 0] xs i)]⟩ =
  EvX C fr (.x 0) ⟨[(0,L 2 (xs.map Zb.c)),(3,.own 0),(4,I xs.length),(11,Bo false)],[[]],[.arr Zfq 2 true (xs.map Zb.c)]⟩:=by
 have hl:xs.length<=4294967296:=h;refine down xs.length ?_ ?_
 .rw[Zi Zs2.eq_1];simp[Zgk]
 .intro i hi ih;rw[Zi Zs2.eq_1,<-ih];have h1:=Zgm (f:=Zb.c) (z:=[.int .i64 0,.int .i64 0]) hi;have h3:=Zgl (f:=Zb.c) (z:=[.int .i64 0,.int .i64 0]) (Ybw hi);have h4:IntKind.wrap .i64 ((i:Int)+1)=(i:Int)+1:=Zs (by omega) (by omega);simp at h1;simp[hi,Zbva,h3,h4,h1]
theorem Zbvd(xs:List Zb)(h:SmA xs):C Zbh4 [L 2 (xs.map Zb.c)] []=some (.own 0,[.arr Zfq 2 true (xs.map Zb.c)]):=by
 refine run Zbsx rfl ?_;have hl:xs.length<=4294967296:=h;have h1:∀b,b<=4096->xs.length*b<=room:=λb hb=>Yr (Ybv hl hb) (by decide)
 have h2:(xs.length:Int)<=140737488355328:=by omega
 have h3:=λfr=>Zbvc xs h fr 0 (Yb _)
 simp[Zgj]at h3;simp[Zbc0,h1,h2,h3]
theorem Zbve(xs ys:List Zb)(h:SmA xs)(hl:ys.length=xs.length)(fr:List Fr):∀i,i<=xs.length->EvL C fr [0,1,5] Zoy ⟨[(0,L 2 (xs.map Zb.c)),(1,L 2 (ys.map Zb.c)),(5,I i)],[[]],[]⟩ =
  if xs.drop i=ys.drop i then EvX C fr (.x 0) ⟨[(0,L 2 (xs.map Zb.c)),(1,L 2 (ys.map Zb.c)),(5,I xs.length),(14,Bo false)],[[]],[]⟩else EvX C fr .r ⟨[(4,Bo false)],[[]],[]⟩:=by
 have hm:xs.length<=4294967296:=h;refine down xs.length ?_ ?_
 .rw[Zi Zoy.eq_1];simp[hl,Ybg]
 .intro i hi ih;have hi2:i<ys.length:=by omega
  have h4:IntKind.wrap .i64 ((i:Int)+1)=(i:Int)+1:=Zs (by omega) (by omega);rw[Zi Zoy.eq_1];simp +decide[hi,hi2,Zbvb _ _ _ _ ,h4];simp at ih;simp only[Zgn hi hi2,ih,Zb.ext_iff];split<;>first|(simp_all;done)|grind
theorem Zbvf(xs ys:List Zb)(h:SmA xs):C Z3g [L 2 (xs.map Zb.c),L 2 (ys.map Zb.c)] []=some (Bo (decide (xs=ys)),[]):=by
 refine run Zbc7 rfl ?_;by_cases hl:ys.length=xs.length
 .have h3:=λfr=>Zbve xs ys h hl fr 0 (Yb _)
  simp at h3;simp[Zs5,h3,hl];split<;>simp_all
 .have h1:xs≠ys:=λh=>hl (by rw[h])
  have h2:¬((xs.length:Int)=ys.length):=by omega
  simp[Zs5,h1,h2]
@[simp] theorem Zbvg(es:List (List T))(c:Int):C Zbhz [L 2 es,I c] []=some (I (sz1 es.length c),[]):=by
 refine run Zbss rfl ?_;simp[Zbcv,sz1];split<;>simp_all
theorem Zpb(x0 x1 x2 x3 x4:Int)(x5:List Zb)(h5:SmA x5):C Zbhr [.agg [I x0,I x1,I x2,I x3,I x4,.t (.lst 2 (x5.map Zb.c))]] []=some (.agg [I x0,I x1,I x2,I x3,I x4,.own 0],[.arr Zfq 2 true (x5.map Zb.c)]):=by
 refine run Zbsk rfl ?_;simp[Zbcb,Zbvd _ h5]
theorem Zpc(x0 x1 x2 x3 x4:Int)(x5:List Zb)(y0 y1 y2 y3 y4:Int)(y5:List Zb)(h5:SmA x5):C Z26 [.agg [I x0,I x1,I x2,I x3,I x4,.t (.lst 2 (x5.map Zb.c))],.agg [I y0,I y1,I y2,I y3,I y4,.t (.lst 2 (y5.map Zb.c))]] []=some (Bo (decide (x0=y0/\x1=y1/\x2=y2/\x3=y3/\x4=y4/\x5=y5)),[]):=by
 refine run Zbch rfl ?_;simp[Zza,Zbvf _ _ h5]
 repeat' split
 all_goals first|(simp_all;done)|grind
theorem Zbvh(x0 x1 x2 x3 x4:Int)(x5:List Zb)(cc:Int) :C Zbhm [.agg [I x0,I x1,I x2,I x3,I x4,.t (.lst 2 (x5.map Zb.c))],I cc] []=some (I (Zm.sz ⟨x0,x1,x2,x3,x4,x5⟩ cc),[]):=by
 refine run Zbsf rfl ?_;simp[Zbb6,Zbvg,Zm.sz,Zt,sz1]
 repeat' split
 all_goals first|(simp_all;done)|grind
theorem Zbvi(x0 x1 x2 x3 x4:Int)(x5:List Zb)(x6 x7 x8 x9 cc:Int)(x11:List Zb)(cd cl cn co cp:Int)(x17:List Zb)(cu cv cy cz d:Int)(x23:List Zb)(dc dd dl dn dp:Int)(x29:List Zb)(h5:SmA x5)(du:SmA x11)(dv:SmA x17)(dy:SmA x23)(dz:SmA x29):C Zbhh [.agg [I x0,I x1,I x2,I x3,I x4,.t (.lst 2 (x5.map Zb.c)),I x6,I x7,I x8,I x9,I cc,.t (.lst 2 (x11.map Zb.c)),I cd,I cl,I cn,I co,I cp,.t (.lst 2 (x17.map Zb.c)),I cu,I cv,I cy,I cz,I d,.t (.lst 2 (x23.map Zb.c)),I dc,I dd,I dl,I dn,I dp,.t (.lst 2 (x29.map Zb.c))]] []=some (.agg [I x0,I x1,I x2,I x3,I x4,.own 0,I x6,I x7,I x8,I x9,I cc,.own 1,I cd,I cl,I cn,I co,I cp,.own 2,I cu,I cv,I cy,I cz,I d,.own 3,I dc,I dd,I dl,I dn,I dp,.own 4],[.arr Zfq 2 true (x5.map Zb.c),.arr Zfq 2 true (x11.map Zb.c),.arr Zfq 2 true (x17.map Zb.c),.arr Zfq 2 true (x23.map Zb.c),.arr Zfq 2 true (x29.map Zb.c)]):=by
 refine run Zbsa rfl ?_;simp[Zbbu,Zpb _ _ _ _ _ _ h5,Zpb _ _ _ _ _ _ du,Zpb _ _ _ _ _ _ dv,Zpb _ _ _ _ _ _ dy,Zpb _ _ _ _ _ _ dz]
theorem Zbef(x0 x1 x2 x3 x4:Int)(x5:List Zb)(x6 x7 x8 x9 cc:Int)(x11:List Zb)(cd cl cn co cp:Int)(x17:List Zb)(cu cv cy cz d:Int)(x23:List Zb)(dc dd dl dn dp:Int)(x29:List Zb)(y0 y1 y2 y3 y4:Int)(y5:List Zb)(y6 y7 y8 y9 du:Int)(dv:List Zb)(dy dz l lc ld:Int)(ll:List Zb)(ln lo lp lu lv:Int)(ly:List Zb)(lz n nc nd nl:Int)(nn:List Zb)(h5:SmA x5)(np:SmA x11)(nu:SmA x17)(nv:SmA x23)(ny:SmA x29):C Z2x [.agg [I x0,I x1,I x2,I x3,I x4,.t (.lst 2 (x5.map Zb.c)),I x6,I x7,I x8,I x9,I cc,.t (.lst 2 (x11.map Zb.c)),I cd,I cl,I cn,I co,I cp,.t (.lst 2 (x17.map Zb.c)),I cu,I cv,I cy,I cz,I d,.t (.lst 2 (x23.map Zb.c)),I dc,I dd,I dl,I dn,I dp,.t (.lst 2 (x29.map Zb.c))],.agg [I y0,I y1,I y2,I y3,I y4,.t (.lst 2 (y5.map Zb.c)),I y6,I y7,I y8,I y9,I du,.t (.lst 2 (dv.map Zb.c)),I dy,I dz,I l,I lc,I ld,.t (.lst 2 (ll.map Zb.c)),I ln,I lo,I lp,I lu,I lv,.t (.lst 2 (ly.map Zb.c)),I lz,I n,I nc,I nd,I nl,.t (.lst 2 (nn.map Zb.c))]] []=some (Bo (decide (x0=y0/\x1=y1/\x2=y2/\x3=y3/\x4=y4/\x5=y5/\x6=y6/\x7=y7/\x8=y8/\x9=y9/\cc=du/\x11=dv/\cd=dy/\cl=dz/\cn=l/\co=lc/\cp=ld/\x17=ll/\cu=ln/\cv=lo/\cy=lp/\cz=lu/\d=lv/\x23=ly/\dc=lz/\dd=n/\dl=nc/\dn=nd/\dp=nl/\x29=nn)),[]):=by
 refine run Zbbx rfl ?_;simp[Zy3,Zpc _ _ _ _ _ _ _ _ _ _ _ _ h5,Zpc _ _ _ _ _ _ _ _ _ _ _ _ np,Zpc _ _ _ _ _ _ _ _ _ _ _ _ nu,Zpc _ _ _ _ _ _ _ _ _ _ _ _ nv,Zpc _ _ _ _ _ _ _ _ _ _ _ _ ny]
 repeat' split
 all_goals first|(simp_all;done)|grind
theorem Zbvj(x0 x1 x2 x3 x4:Int)(x5:List Zb)(x6 x7 x8 x9 cd:Int)(cl:List Zb)(cn co cp cu cv:Int)(cy:List Zb)(cz d dc dd dl:Int)(dn:List Zb)(dp du dv dy dz:Int)(l:List Zb)(cc:Int) :C Zbhf [.agg [I x0,I x1,I x2,I x3,I x4,.t (.lst 2 (x5.map Zb.c)),I x6,I x7,I x8,I x9,I cd,.t (.lst 2 (cl.map Zb.c)),I cn,I co,I cp,I cu,I cv,.t (.lst 2 (cy.map Zb.c)),I cz,I d,I dc,I dd,I dl,.t (.lst 2 (dn.map Zb.c)),I dp,I du,I dv,I dy,I dz,.t (.lst 2 (l.map Zb.c))],I cc] []=some (I (Za.sz ⟨⟨x0,x1,x2,x3,x4,x5⟩,⟨x6,x7,x8,x9,cd,cl⟩,⟨cn,co,cp,cu,cv,cy⟩,⟨cz,d,dc,dd,dl,dn⟩,⟨dp,du,dv,dy,dz,l⟩⟩ cc),[]):=by
 refine run Zbr8 rfl ?_;simp[Zbbs,Zbvh,Za.sz,Zt,sz1]
 repeat' split
 all_goals first|(simp_all;done)|grind
def mkL{α:Type}(f:α->Int->α)(n:α->Nat):List α->Int->List α
 |[],_=>[]
 |x::xs,k=>f x k::mkL f n xs (k+(n x:Int))
def cnL{α:Type}(n:α->Nat):List α->Nat
 |[]=>0
 |x::xs=>n x+cnL n xs
def mkI(xs:List Int)(k:Int):List Int:=mkL (λ_ k=>k) (λ_=>1) xs k
theorem Zbeg(x:Int)(xs:List Int)(k:Int):mkI (x::xs) k=k::mkI xs (k+1):=rfl
theorem Zbvk(e:Nat)(fr:List Fr):∀(xs d:List Int) (k:Int),0<=k->k+(xs.length:Int)<=4611686018427387904->d.length+xs.length<=4294967296->EvL C fr [0,1,5] Zo2 ⟨[(0,.own 0),(1,I k),(5,I d.length)],[[(0,.own 0)]],[.xarr e 1 ((d++xs).map ic)]⟩ =
  EvX C fr (.x 0) ⟨[(0,.own 0),(1,I (k+xs.length)),(5,I (d.length+xs.length)),(9,Bo false)],[[(0,.own 0)]],[.xarr e 1 ((d++mkI xs k).map ic)]⟩:=by
 intro xs
 induction xs with
 |nil =>
  intro d k h1 h2 h3;rw[Zi Zo2.eq_1]
  simp[mkI,mkL]
 |cons x xs ih =>
  intro d k h1 h2 h3;simp only[Yn]at h2 h3;have ih':=ih (d++[k]) (k+1) (by omega) (by omega) (by simp;omega);rw[Zi Zo2.eq_1];have g1:IntKind.wrap .i64 ((d.length:Int)+1)=(d.length:Int)+1:=Zs (by omega) (by omega);have g2:IntKind.wrap .i64 (k+1)=k+1:=Zs (by omega) (by omega);have g3:(d.length:Int)<(d.length:Int)+((xs.length:Int)+1):=by omega
  have g4:k+1+(xs.length:Int)=k+((xs.length:Int)+1):=by omega
  have g5:(d.length:Int)+1+(xs.length:Int)=(d.length:Int)+((xs.length:Int)+1):=by omega
  simp[g4,g5]at ih';simp[g1,g2,g3,ih',Zbeg]
theorem Zbvl(e:Nat)(xs:List Int)(k:Int)(h1:0<=k)(h2:k+(xs.length:Int)<=4611686018427387904)(h3:SmA xs):C Zqi [.own 0,I k] [.xarr e 1 (xs.map ic)]=some (I (k+xs.length),[.xarr e 1 ((mkI xs k).map ic)]):=by
 refine runM Zbdb rfl ?_;have h4:=λfr=>Zbvk e fr xs [] k h1 h2 (by have:xs.length<=4294967296:=h3;simp;omega)
 simp at h4;simp[Zzl,h4]
theorem Zbvm(n:Nat)(k:Int):C Zqi [.t (.lst n []),I k] []=some (I k,[]):=by
 refine run Zbdb rfl ?_;simp[Zzl,Zi Zo2.eq_1]
theorem Zbvn(fr:List Fr):∀(xs d:List Int) (k:Int),0<=k->k+(xs.length:Int)<=4611686018427387904->d.length+xs.length<=4294967296->EvL C fr [0,1,5] Zs8 ⟨[(0,L 1 ((d++mkI xs k).map ic)),(1,I k),(5,I d.length)],[[]],[]⟩ =
  EvX C fr (.x 0) ⟨[(0,L 1 ((d++mkI xs k).map ic)),(1,I (k+xs.length)),(5,I (d.length+xs.length)),(9,Bo false)],[[]],[]⟩:=by
 intro xs
 induction xs with
 |nil =>
  intro d k h1 h2 h3;rw[Zi Zs8.eq_1]
  simp[mkI,mkL]
 |cons x xs ih =>
  intro d k h1 h2 h3;simp only[Yn]at h2 h3;have ih':=ih (d++[k]) (k+1) (by omega) (by omega) (by simp;omega);rw[Zi Zs8.eq_1];have g1:IntKind.wrap .i64 ((d.length:Int)+1)=(d.length:Int)+1:=Zs (by omega) (by omega);have g2:IntKind.wrap .i64 (k+1)=k+1:=Zs (by omega) (by omega);have g3:(d.length:Int)<(d.length:Int)+(((mkI xs (k+1)).length:Int)+1):=by omega
  have g4:k+1+(xs.length:Int)=k+((xs.length:Int)+1):=by omega
  have g5:(d.length:Int)+1+(xs.length:Int)=(d.length:Int)+((xs.length:Int)+1):=by omega
  simp[g4,g5]at ih';simp[g1,g2,g3,ih',Zbeg]
theorem strB_one(x:Int):(strB [x]).size=1:=by simp[strB];rfl
theorem Zbvo(fr:List Fr):∀(n:Nat) (k:Int) (out:ByteArray),k.toNat<=n->(out.size:Int)+k<=4611686018427387904->0<=k->∃s,s.size<=out.size+n/\EvL C fr [0,3] Zo1 ⟨[(0,I k),(3,.t (.str out))],[[]],[]⟩=EvX C fr (.x 0) ⟨[(0,I 0),(3,.t (.str s)),(7,Bo false)],[[]],[]⟩:=by
 intro n
 induction n with
 |zero =>
  intro k out h1 h2 h3
  have:k=0:=by omega
  subst this;rw[Zi Zo1.eq_1]
  exact⟨out,by simp⟩
 |succ n ih =>
  intro k out h1 h2 h3;by_cases h0:k=0
  .subst h0;rw[Zi Zo1.eq_1];exact⟨out,by simp⟩
  have hk:0<k:=by omega
  have e:k.tdiv 10=k / 10:=Int.tdiv_eq_ediv_of_nonneg h3;have e2:IntKind.wrap .i64 (k / 10)=k / 10:=Zs (by omega) (by omega);generalize hx:IntKind.wrap .u8 (IntKind.wrap .i64 (48+k.tmod 10))=x;have s1:=strB_one x;have c:1+out.size<=9223372036854775807:=by omega
  obtain⟨s,hs,hr⟩:=ih (k / 10) (strB [x]++out) (by omega) (by rw[ByteArray.size_append,s1];omega) (by omega);rw[ByteArray.size_append,s1]at hs;refine⟨s,by omega,?_⟩;rw[Zi Zo1.eq_1];simp[hk,hx,s1,c,e,e2,hr]
theorem Zbvp(k:Int)(h1:0<=k)(h2:k<=4000000000000000000):∃s,C Zuo [I k] []=some (.t (.str s),[]):=by
 by_cases h0:k=0
 .subst h0;refine⟨⟨#[109,48]⟩,run Zbda rfl ?_⟩;simp[Zzk]
 .have h3:¬k<=0:=by omega
  obtain⟨s,hs,hr⟩:=Zbvo [.blk 0,.seq (.seq (.reg [⟨some 18,none,.mov (.s 3)⟩,⟨some 19,none,.bin .add (.c (.t (.str ⟨#[109]⟩))) (.s 18)⟩,⟨some 2,none,.mov (.s 19)⟩] [2]) .ret),.fin 0 [.tmp 2]] k.toNat k ⟨#[]⟩ (Yh _) (by simp[ByteArray.size];omega) h1;have c:(⟨#[109]⟩:ByteArray).size+s.size<=9223372036854775807:=by
   have:(⟨#[]⟩:ByteArray).size=0:=rfl
   have:(⟨#[109]⟩:ByteArray).size=1:=rfl
   omega
  refine⟨⟨#[109]⟩++s,run Zbda rfl ?_⟩;simp at hr;simp[Zzk,h3,hr,c]
noncomputable def Zg5(k:Int):ByteArray:=match C Zuo [I k] []with
 |some (.t (.str s),[])=>s
 |_=>⟨#[]⟩
theorem Zfk(k:Int)(h1:0<=k)(h2:k<=4000000000000000000):C Zuo [I k] []=some (.t (.str (Zg5 k)),[]):=by
 obtain⟨s,h⟩:=Zbvp k h1 h2
 have:Zg5 k=s:=by unfold Zg5;rw[h]
 rw[this,h]
theorem Zth(xs:List Int)(k:Int)(h1:0<=k)(h2:k+(xs.length:Int)<=4000000000000000000)(h3:SmA xs):C Zbil [L 1 ((mkI xs k).map ic),I k] []=some (I (k+xs.length),[]):=by
 refine run Zbte rfl ?_;have h4:=λfr=>Zbvn fr xs [] k h1 (by omega) (by have:xs.length<=4294967296:=h3;simp;omega)
 simp at h4;simp[Zbd0,h4]
theorem Zti(xs:List Int)(k:Int)(h1:0<=k)(h2:k+(xs.length:Int)<=4000000000000000000)(h3:SmA xs):(xs.map ic=[]/\(mkI xs (k)).map ic=[]/\C Zqi [.t (.lst 1 []),I k] []=some (I (k+(xs.length:Int)),[]))\/∃y ys,xs.map ic=y::ys/\True/\C Zqi [.own 0,I k] [.xarr unk 1 (y::ys)]=some (I (k+(xs.length:Int)),[.xarr unk 1 ((mkI xs (k)).map ic)]):=by
 have c:=Zbvl unk xs k h1 (by omega) h3
 cases xs with
 |nil=>exact .inl ⟨rfl,rfl,by have:=Zbvm 1 k;simpa[mkI,mkL]using this⟩
 |cons y ys=>exact .inr ⟨_,_,rfl,trivial,c⟩
def Zg6(a:List Int)(k:Int):List Int:=mkI a k
def Zeo(a:List Int):Nat:=a.length
def Zc2(xs:List (List Int))(k:Int):List (List Int):=mkL Zg6 Zeo xs k
def Zbj(xs:List (List Int)):Nat:=cnL Zeo xs
theorem Zbeh(x:List Int)(xs:List (List Int))(k:Int):Zc2 (x::xs) k=Zg6 x k::Zc2 xs (k+(c x:Int)):=rfl
theorem Zbvq(e:Nat)(fr:List Fr):∀(xs d:List (List Int)) (k:Int),0<=k->k+(c xs:Int)<=4000000000000000000->d.length+xs.length<=4294967296->(∀x∈xs,SmA x)->EvL C fr [0,1,5] Zo6 ⟨[(0,.own 0),(1,I k),(5,I d.length)],[[(0,.own 0)]],[.xarr e 1 ((d++xs).map isc)]⟩ =
  EvX C fr (.x 0) ⟨[(0,.own 0),(1,I (k+c xs)),(5,I (d.length+xs.length)),(9,Bo false)],[[(0,.own 0)]],[.xarr e 1 ((d++Zc2 xs k).map isc)]⟩:=by
 intro xs
 induction xs with
 |nil =>
  intro d k h1 h2 h3 h4;rw[Zi Zo6.eq_1]
  simp[Zc2,c,cnL,mkL]
 |cons x xs ih =>
  intro d k h1 h2 h3 h4;have hx:=h4 x (by simp);have e0:c (x::xs)=Zeo x+c xs:=rfl;rw[e0]at h2;simp only[Yn]at h3;have e1:Zeo x=x.length:=rfl;have eK:k+(Zeo x:Int)=k+(x.length:Int):=by omega
  have eL:k+(c (x::xs):Int)=k+(x.length:Int)+(c xs:Int):=by omega
  have ih':=ih (d++[Zg6 x k]) (k+(x.length:Int)) (by omega) (by omega) (by simp;omega) (λy hy=>h4 y (by simp[hy]));rw[Zi Zo6.eq_1,eL,Zbeh,eK];have g1:IntKind.wrap .i64 ((d.length:Int)+1)=(d.length:Int)+1:=Zs (by omega) (by omega);have g3:(d.length:Int)<(d.length:Int)+((xs.length:Int)+1):=by omega
  have g5:(d.length:Int)+1+(xs.length:Int)=(d.length:Int)+((xs.length:Int)+1):=by omega
  have m0:=Zti x (k) (by omega) (by omega) hx;rcases m0 with⟨r0,s0,m0⟩|⟨y0,ys0,r0,s0,m0⟩
  all_goals (simp[g5,Zg6,tI,r0,s0]at ih';simp[g1,g3,m0,r0,s0,ih',Zg6,tI])
theorem Zbvr(e:Nat)(xs:List (List Int))(k:Int)(h1:0<=k)(h2:k+(c xs:Int)<=4000000000000000000)(h3:SmL SmA xs):C Zqj [.own 0,I k] [.xarr e 1 (xs.map isc)]=some (I (k+c xs),[.xarr e 1 ((Zc2 xs k).map isc)]):=by
 refine runM Zbdw rfl ?_;have h4:=λfr=>Zbvq e fr xs [] k h1 h2 (by have:xs.length<=4294967296:=h3.1;simp;omega) h3.2
 simp at h4;simp[Zzt,h4]
theorem Zbvs(n:Nat)(k:Int):C Zqj [.t (.lst n []),I k] []=some (I k,[]):=by
 refine run Zbdw rfl ?_;simp[Zzt,Zi Zo6.eq_1]
theorem Zbei(xs:List (List Int))(k:Int)(h1:0<=k)(h2:k+(cc xs:Int)<=4000000000000000000)(h3:SmL SmA xs):(xs.map isc=[]/\(Zc2 xs (k)).map isc=[]/\C Zqj [.t (.lst 1 []),I k] []=some (I (k+(cc xs:Int)),[]))\/∃y ys,xs.map isc=y::ys/\True/\C Zqj [.own 0,I k] [.xarr unk 1 (y::ys)]=some (I (k+(cc xs:Int)),[.xarr unk 1 ((Zc2 xs (k)).map isc)]):=by
 have c:=Zbvr unk xs k h1 h2 h3
 cases xs with
 |nil=>exact .inl ⟨rfl,rfl,by have:=Zbvs 1 k;simpa[Zc2,cc,cnL,mkL]using this⟩
 |cons y ys=>exact .inr ⟨_,_,rfl,trivial,c⟩
def Ztj(a:Atom):Nat:=1+a.Vars.length
def Zla(xs:List Atom):Nat:=cnL Ztj xs
def Zbvt(a:Zby):Nat:=1+1+1
def Zi1(xs:List Zby):Nat:=cnL Zbvt xs
def Ztk(a:Zbn):Nat:=1+Zla a.Zbc.Atoms+Zi1 a.Region.Plan.Steps+a.Region.Box.Low.length+a.Region.Box.High.length+1+1+1
def Zpd(xs:List Zbn):Nat:=cnL Ztk xs
theorem Zbvu(k:Int):C Zbh8 [.t .nil,I k] []=some (I k,[]):=by
 refine run Zbs1 rfl ?_;simp[Zbde,Zi Zbdd.eq_1]
theorem Zbvv(k:Int):C Zbh9 [.t .nil,I k] []=some (I k,[]):=by
 refine run Zbs2 rfl ?_;simp[Zbdl,Zi Zbdk.eq_1]
noncomputable def Zg7(a:Zb)(k:Int):Zb:=⟨k,k+1⟩
def Zg8(a:Zb):Nat:=1+1
noncomputable def Zbe(xs:List Zb)(k:Int):List Zb:=mkL Zg7 Zg8 xs k
def Zbf(xs:List Zb):Nat:=cnL Zg8 xs
theorem Zbej(x:Zb)(xs:List Zb)(k:Int):Zbe (x::xs) k=Zg7 x k::Zbe xs (k+(c x:Int)):=rfl
theorem Zbvw(e:Nat)(fr:List Fr):∀(xs d:List Zb) (k:Int),0<=k->k+(cc xs:Int)<=4000000000000000000->d.length+xs.length<=4294967296->(∀x∈xs,x.small)->EvL C fr [0,1,5] Zo3 ⟨[(0,.own 0),(1,I k),(5,I d.length)],[[(0,.own 0)]],[.xarr e 2 ((d++xs).map Zb.c)]⟩ =
  EvX C fr (.x 0) ⟨[(0,.own 0),(1,I (k+cc xs)),(5,I (d.length+xs.length)),(9,Bo false)],[[(0,.own 0)]],[.xarr e 2 ((d++Zbe xs k).map Zb.c)]⟩:=by
 intro xs
 induction xs with
 |nil =>
  intro d k h1 h2 h3 h4;rw[Zi Zo3.eq_1]
  simp[Zbe,cc,cnL,mkL]
 |cons x xs ih =>
  intro d k h1 h2 h3 h4;have hx:=h4 x (by simp);have e0:cc (x::xs)=Zg8 x+cc xs:=rfl;rw[e0]at h2;simp only[Yn]at h3;rcases x with⟨x0,x1⟩;have e1:Zg8 ⟨x0,x1⟩=1+1:=rfl;have eK:k+(Zg8 ⟨x0,x1⟩:Int)=k+1+1:=by omega
  have eL:k+(cc (⟨x0,x1⟩::xs):Int)=k+1+1+(cc xs:Int):=by omega
  have ih':=ih (d++[Zg7 ⟨x0,x1⟩ k]) (k+1+1) (by omega) (by omega) (by simp;omega) (λy hy=>h4 y (by simp[hy]));rw[Zi Zo3.eq_1,eL,Zbej,eK];have g1:IntKind.wrap .i64 ((d.length:Int)+1)=(d.length:Int)+1:=Zs (by omega) (by omega);have g3:(d.length:Int)<(d.length:Int)+((xs.length:Int)+1):=by omega
  have g5:(d.length:Int)+1+(xs.length:Int)=(d.length:Int)+((xs.length:Int)+1):=by omega
  have w0:IntKind.wrap .i64 (k+1)=k+1:=Zs (by omega) (by omega);have w1:IntKind.wrap .i64 (k+1+1)=k+1+1:=Zs (by omega) (by omega)
  (simp[g5,Zg7,tI]at ih';simp[g1,g3,w0,w1,ih',Zg7,tI])
theorem Zbvx(e:Nat)(xs:List Zb)(k:Int)(h1:0<=k)(h2:k+(cc xs:Int)<=4000000000000000000)(h3:SmA xs):C Z3j [.own 0,I k] [.xarr e 2 (xs.map Zb.c)]=some (I (k+cc xs),[.xarr e 2 ((Zbe xs k).map Zb.c)]):=by
 refine runM Zbdc rfl ?_;have h4:=λfr=>Zbvw e fr xs [] k h1 h2 (by have:xs.length<=4294967296:=h3;simp;omega) (λ_ _=>trivial)
 simp at h4;simp[Zzm,h4]
theorem Zbvy(k:Int):C Z3j [.t .nil,I k] []=some (I k,[]):=by
 refine run Zbdc rfl ?_;simp[Zzm,Zi Zo3.eq_1]
theorem Zbvz(fr:List Fr):∀(xs d:List Zb) (k:Int),0<=k->k+(cc xs:Int)<=4000000000000000000->d.length+xs.length<=4294967296->(∀x∈xs,x.small)->EvL C fr [0,1,5] Zpa ⟨[(0,L 2 ((d++Zbe xs k).map Zb.c)),(1,I k),(5,I d.length)],[[]],[]⟩ =
  EvX C fr (.x 0) ⟨[(0,L 2 ((d++Zbe xs k).map Zb.c)),(1,I (k+cc xs)),(5,I (d.length+xs.length)),(9,Bo false)],[[]],[]⟩:=by
 intro xs
 induction xs with
 |nil =>
  intro d k h1 h2 h3 h4;rw[Zi Zpa.eq_1]
  simp[Zbe,cc,cnL,mkL]
 |cons x xs ih =>
  intro d k h1 h2 h3 h4;have hx:=h4 x (by simp);have e0:cc (x::xs)=Zg8 x+cc xs:=rfl;rw[e0]at h2;simp only[Yn]at h3;rcases x with⟨x0,x1⟩;have e1:Zg8 ⟨x0,x1⟩=1+1:=rfl;have eK:k+(Zg8 ⟨x0,x1⟩:Int)=k+1+1:=by omega
  have eL:k+(cc (⟨x0,x1⟩::xs):Int)=k+1+1+(cc xs:Int):=by omega
  have ih':=ih (d++[Zg7 ⟨x0,x1⟩ k]) (k+1+1) (by omega) (by omega) (by simp;omega) (λy hy=>h4 y (by simp[hy]));rw[Zi Zpa.eq_1,eL,Zbej,eK];have g1:IntKind.wrap .i64 ((d.length:Int)+1)=(d.length:Int)+1:=Zs (by omega) (by omega);have g3:(d.length:Int)<(d.length:Int)+(((Zbe xs (k+1+1)).length:Int)+1):=by omega
  have g5:(d.length:Int)+1+(xs.length:Int)=(d.length:Int)+((xs.length:Int)+1):=by omega
  have w0:IntKind.wrap .i64 (k+1)=k+1:=Zs (by omega) (by omega);have w1:IntKind.wrap .i64 (k+1+1)=k+1+1:=Zs (by omega) (by omega);simp[g5,Zg7,tI]at ih';simp +decide[g1,g3,w0,w1,ih',Zg7,tI]
theorem Zbv0(xs:List Zb)(k:Int)(h1:0<=k)(h2:k+(cc xs:Int)<=4000000000000000000)(h3:SmA xs):C Z3r [L 2 ((Zbe xs k).map Zb.c),I k] []=some (I (k+cc xs),[]):=by
 refine run Zbd1 rfl ?_;have h4:=λfr=>Zbvz fr xs [] k h1 h2 (by have:xs.length<=4294967296:=h3;simp;omega) (λ_ _=>trivial)
 simp at h4;simp[Zzx,h4]
theorem Zbv1(k:Int):C Z3r [.t .nil,I k] []=some (I k,[]):=by
 refine run Zbd1 rfl ?_;simp[Zzx,Zi Zpa.eq_1]
noncomputable def Zg9(a:Ze)(k:Int):Ze:=⟨Zg5 (k),mkI a.From (k+1),k+1+(a.From.length:Int)⟩
def Ze0(a:Ze):Nat:=1+a.From.length+1
noncomputable def Zdg(xs:List Ze)(k:Int):List Ze:=mkL Zg9 Ze0 xs k
def Zha(xs:List Ze):Nat:=cnL Ze0 xs
theorem Zbek(x:Ze)(xs:List Ze)(k:Int):Zdg (x::xs) k=Zg9 x k::Zdg xs (k+(c x:Int)):=rfl
theorem Zbv2(e:Nat)(fr:List Fr):∀(xs d:List Ze) (k:Int),0<=k->k+(cc xs:Int)<=4000000000000000000->d.length+xs.length<=4294967296->(∀x∈xs,x.small)->EvL C fr [0,1,5] Zou ⟨[(0,.own 0),(1,I k),(5,I d.length)],[[(0,.own 0)]],[.xarr e 3 ((d++xs).map Ze.c)]⟩ =
  EvX C fr (.x 0) ⟨[(0,.own 0),(1,I (k+cc xs)),(5,I (d.length+xs.length)),(9,Bo false)],[[(0,.own 0)]],[.xarr e 3 ((d++Zdg xs k).map Ze.c)]⟩:=by
 intro xs
 induction xs with
 |nil =>
  intro d k h1 h2 h3 h4;rw[Zi Zou.eq_1]
  simp[Zdg,cc,cnL,mkL]
 |cons x xs ih =>
  intro d k h1 h2 h3 h4;have hx:=h4 x (by simp);have e0:cc (x::xs)=Ze0 x+cc xs:=rfl;rw[e0]at h2;simp only[Yn]at h3;rcases x with⟨x0,x1,x2⟩;have e1:Ze0 ⟨x0,x1,x2⟩=1+x1.length+1:=rfl;have eK:k+(Ze0 ⟨x0,x1,x2⟩:Int)=k+1+(x1.length:Int)+1:=by omega
  have eL:k+(cc (⟨x0,x1,x2⟩::xs):Int)=k+1+(x1.length:Int)+1+(cc xs:Int):=by omega
  have ih':=ih (d++[Zg9 ⟨x0,x1,x2⟩ k]) (k+1+(x1.length:Int)+1) (by omega) (by omega) (by simp;omega) (λy hy=>h4 y (by simp[hy]));rw[Zi Zou.eq_1,eL,Zbek,eK];have g1:IntKind.wrap .i64 ((d.length:Int)+1)=(d.length:Int)+1:=Zs (by omega) (by omega);have g3:(d.length:Int)<(d.length:Int)+((xs.length:Int)+1):=by omega
  have g5:(d.length:Int)+1+(xs.length:Int)=(d.length:Int)+((xs.length:Int)+1):=by omega
  have w0:IntKind.wrap .i64 (k+1)=k+1:=Zs (by omega) (by omega);have w1:IntKind.wrap .i64 (k+1+(x1.length:Int)+1)=k+1+(x1.length:Int)+1:=Zs (by omega) (by omega);have t0:=Zfk (k) (by omega) (by omega);have m0:=Zti x1 (k+1) (by omega) (by omega) (by first|exact hx|exact hx.1|exact hx.2|exact hx.2.1|exact hx.2.2|exact hx.2.2.1|exact hx.2.2.2|exact hx.2.2.2.1|exact hx.2.2.2.2|exact hx.2.2.2.2.1|exact hx.2.2.2.2.2);rcases m0 with⟨r0,s0,m0⟩|⟨y0,ys0,r0,s0,m0⟩
  all_goals (simp[g5,Zg9,tI,r0,s0]at ih';simp[g1,g3,w0,w1,t0,m0,r0,s0,ih',Zg9,tI])
theorem Zbv3(e:Nat)(xs:List Ze)(k:Int)(h1:0<=k)(h2:k+(cc xs:Int)<=4000000000000000000)(h3:SmL Ze.small xs):C Z29 [.own 0,I k] [.xarr e 3 (xs.map Ze.c)]=some (I (k+cc xs),[.xarr e 3 ((Zdg xs k).map Ze.c)]):=by
 refine runM Zbck rfl ?_;have h4:=λfr=>Zbv2 e fr xs [] k h1 h2 (by have:xs.length<=4294967296:=h3.1;simp;omega) h3.2
 simp at h4;simp[Zzd,h4]
theorem Zbv4(k:Int):C Z29 [.t .nil,I k] []=some (I k,[]):=by
 refine run Zbck rfl ?_;simp[Zzd,Zi Zou.eq_1]
theorem Zbv5(fr:List Fr):∀(xs d:List Ze) (k:Int),0<=k->k+(cc xs:Int)<=4000000000000000000->d.length+xs.length<=4294967296->(∀x∈xs,x.small)->EvL C fr [0,1,5] Zo4 ⟨[(0,L 3 ((d++Zdg xs k).map Ze.c)),(1,I k),(5,I d.length)],[[]],[]⟩ =
  EvX C fr (.x 0) ⟨[(0,L 3 ((d++Zdg xs k).map Ze.c)),(1,I (k+cc xs)),(5,I (d.length+xs.length)),(9,Bo false)],[[]],[]⟩:=by
 intro xs
 induction xs with
 |nil =>
  intro d k h1 h2 h3 h4;rw[Zi Zo4.eq_1]
  simp[Zdg,cc,cnL,mkL]
 |cons x xs ih =>
  intro d k h1 h2 h3 h4;have hx:=h4 x (by simp);have e0:cc (x::xs)=Ze0 x+cc xs:=rfl;rw[e0]at h2;simp only[Yn]at h3;rcases x with⟨x0,x1,x2⟩;have e1:Ze0 ⟨x0,x1,x2⟩=1+x1.length+1:=rfl;have eK:k+(Ze0 ⟨x0,x1,x2⟩:Int)=k+1+(x1.length:Int)+1:=by omega
  have eL:k+(cc (⟨x0,x1,x2⟩::xs):Int)=k+1+(x1.length:Int)+1+(cc xs:Int):=by omega
  have ih':=ih (d++[Zg9 ⟨x0,x1,x2⟩ k]) (k+1+(x1.length:Int)+1) (by omega) (by omega) (by simp;omega) (λy hy=>h4 y (by simp[hy]));rw[Zi Zo4.eq_1,eL,Zbek,eK];have g1:IntKind.wrap .i64 ((d.length:Int)+1)=(d.length:Int)+1:=Zs (by omega) (by omega);have g3:(d.length:Int)<(d.length:Int)+(((Zdg xs (k+1+(x1.length:Int)+1)).length:Int)+1):=by omega
  have g5:(d.length:Int)+1+(xs.length:Int)=(d.length:Int)+((xs.length:Int)+1):=by omega
  have w0:IntKind.wrap .i64 (k+1)=k+1:=Zs (by omega) (by omega);have w1:IntKind.wrap .i64 (k+1+(x1.length:Int)+1)=k+1+(x1.length:Int)+1:=Zs (by omega) (by omega);have t0:=Zfk (k) (by omega) (by omega);have m0:=Zth x1 (k+1) (by omega) (by omega) (by first|exact hx|exact hx.1|exact hx.2|exact hx.2.1|exact hx.2.2|exact hx.2.2.1|exact hx.2.2.2|exact hx.2.2.2.1|exact hx.2.2.2.2|exact hx.2.2.2.2.1|exact hx.2.2.2.2.2);have z0:¬(k+1+(x1.length:Int)<0):=by omega
  simp[g5,Zg9,tI]at ih';simp +decide[g1,g3,w0,w1,t0,m0,z0,ih',Zg9,tI]
theorem Zbv6(xs:List Ze)(k:Int)(h1:0<=k)(h2:k+(cc xs:Int)<=4000000000000000000)(h3:SmL Ze.small xs):C Z3m [L 3 ((Zdg xs k).map Ze.c),I k] []=some (I (k+cc xs),[]):=by
 refine run Zbdh rfl ?_;have h4:=λfr=>Zbv5 fr xs [] k h1 h2 (by have:xs.length<=4294967296:=h3.1;simp;omega) h3.2
 simp at h4;simp[Zzp,h4]
theorem Zbv7(k:Int):C Z3m [.t .nil,I k] []=some (I k,[]):=by
 refine run Zbdh rfl ?_;simp[Zzp,Zi Zo4.eq_1]
noncomputable def Zhb(a:Zj)(k:Int):Zj:=⟨mkI a.Columns (k),Zc2 a.Values (k+(a.Columns.length:Int)),mkI a.Counts (k+(a.Columns.length:Int)+(Zbj a.Values:Int))⟩
def Zfl(a:Zj):Nat:=a.Columns.length+Zbj a.Values+a.Counts.length
noncomputable def Zdh(xs:List Zj)(k:Int):List Zj:=mkL Zhb Zfl xs k
def Zdu(xs:List Zj):Nat:=cnL Zfl xs
theorem Zbel(x:Zj)(xs:List Zj)(k:Int):Zdh (x::xs) k=Zhb x k::Zdh xs (k+(c x:Int)):=rfl
theorem Zbv8(e:Nat)(fr:List Fr):∀(xs d:List Zj) (k:Int),0<=k->k+(cc xs:Int)<=4000000000000000000->d.length+xs.length<=4294967296->(∀x∈xs,x.small)->EvL C fr [0,1,5] Zo7 ⟨[(0,.own 0),(1,I k),(5,I d.length)],[[(0,.own 0)]],[.xarr e 3 ((d++xs).map Zj.c)]⟩ =
  EvX C fr (.x 0) ⟨[(0,.own 0),(1,I (k+cc xs)),(5,I (d.length+xs.length)),(9,Bo false)],[[(0,.own 0)]],[.xarr e 3 ((d++Zdh xs k).map Zj.c)]⟩:=by
 intro xs
 induction xs with
 |nil =>
  intro d k h1 h2 h3 h4;rw[Zi Zo7.eq_1]
  simp[Zdh,cc,cnL,mkL]
 |cons x xs ih =>
  intro d k h1 h2 h3 h4;have hx:=h4 x (by simp);have e0:cc (x::xs)=Zfl x+cc xs:=rfl;rw[e0]at h2;simp only[Yn]at h3;rcases x with⟨x0,x1,x2⟩;have e1:Zfl ⟨x0,x1,x2⟩=x0.length+Zbj x1+x2.length:=rfl;have eK:k+(Zfl ⟨x0,x1,x2⟩:Int)=k+(x0.length:Int)+(Zbj x1:Int)+(x2.length:Int):=by omega
  have eL:k+(cc (⟨x0,x1,x2⟩::xs):Int)=k+(x0.length:Int)+(Zbj x1:Int)+(x2.length:Int)+(cc xs:Int):=by omega
  have ih':=ih (d++[Zhb ⟨x0,x1,x2⟩ k]) (k+(x0.length:Int)+(Zbj x1:Int)+(x2.length:Int)) (by omega) (by omega) (by simp;omega) (λy hy=>h4 y (by simp[hy]));rw[Zi Zo7.eq_1,eL,Zbel,eK];have g1:IntKind.wrap .i64 ((d.length:Int)+1)=(d.length:Int)+1:=Zs (by omega) (by omega);have g3:(d.length:Int)<(d.length:Int)+((xs.length:Int)+1):=by omega
  have g5:(d.length:Int)+1+(xs.length:Int)=(d.length:Int)+((xs.length:Int)+1):=by omega
  have m0:=Zti x0 (k) (by omega) (by omega) (by first|exact hx|exact hx.1|exact hx.2|exact hx.2.1|exact hx.2.2|exact hx.2.2.1|exact hx.2.2.2|exact hx.2.2.2.1|exact hx.2.2.2.2|exact hx.2.2.2.2.1|exact hx.2.2.2.2.2);have m1:=Zbei x1 (k+(x0.length:Int)) (by omega) (by omega) (by first|exact hx|exact hx.1|exact hx.2|exact hx.2.1|exact hx.2.2|exact hx.2.2.1|exact hx.2.2.2|exact hx.2.2.2.1|exact hx.2.2.2.2|exact hx.2.2.2.2.1|exact hx.2.2.2.2.2);have m2:=Zti x2 (k+(x0.length:Int)+(Zbj x1:Int)) (by omega) (by omega) (by first|exact hx|exact hx.1|exact hx.2|exact hx.2.1|exact hx.2.2|exact hx.2.2.1|exact hx.2.2.2|exact hx.2.2.2.1|exact hx.2.2.2.2|exact hx.2.2.2.2.1|exact hx.2.2.2.2.2);rcases m0 with⟨r0,s0,m0⟩|⟨y0,ys0,r0,s0,m0⟩
  all_goals rcases m1 with⟨r1,s1,m1⟩|⟨y1,ys1,r1,s1,m1⟩
  all_goals rcases m2 with⟨r2,s2,m2⟩|⟨y2,ys2,r2,s2,m2⟩
  all_goals (simp[g5,Zhb,tI,tII,r0,s0,r1,s1,r2,s2]at ih';simp[g1,g3,m0,r0,s0,m1,r1,s1,m2,r2,s2,ih',Zhb,tI,tII])
theorem Zbv9(e:Nat)(xs:List Zj)(k:Int)(h1:0<=k)(h2:k+(cc xs:Int)<=4000000000000000000)(h3:SmL Zj.small xs):C Zqk [.own 0,I k] [.xarr e 3 (xs.map Zj.c)]=some (I (k+cc xs),[.xarr e 3 ((Zdh xs k).map Zj.c)]):=by
 refine runM Zbdx rfl ?_;have h4:=λfr=>Zbv8 e fr xs [] k h1 h2 (by have:xs.length<=4294967296:=h3.1;simp;omega) h3.2
 simp at h4;simp[Zzu,h4]
theorem Zbwa(n:Nat)(k:Int):C Zqk [.t (.lst n []),I k] []=some (I k,[]):=by
 refine run Zbdx rfl ?_;simp[Zzu,Zi Zo7.eq_1]
theorem Zbwb(xs:List Zj)(k:Int)(h1:0<=k)(h2:k+(cc xs:Int)<=4000000000000000000)(h3:SmL Zj.small xs):(xs.map Zj.c=[]/\(Zdh xs (k)).map Zj.c=[]/\C Zqk [.t (.lst 3 []),I k] []=some (I (k+(cc xs:Int)),[]))\/∃y ys,xs.map Zj.c=y::ys/\True/\C Zqk [.own 0,I k] [.xarr unk 3 (y::ys)]=some (I (k+(cc xs:Int)),[.xarr unk 3 ((Zdh xs (k)).map Zj.c)]):=by
 have c:=Zbv9 unk xs k h1 h2 h3
 cases xs with
 |nil=>exact .inl ⟨rfl,rfl,by have:=Zbwa 3 k;simpa[Zdh,cc,cnL,mkL]using this⟩
 |cons y ys=>exact .inr ⟨_,_,rfl,trivial,c⟩
theorem Zbwc(fr:List Fr):∀(xs d:List (List Int)) (k:Int),0<=k->k+(c xs:Int)<=4000000000000000000->d.length+xs.length<=4294967296->(∀x∈xs,SmA x)->EvL C fr [0,1,5] Ztd ⟨[(0,L 1 ((d++Zc2 xs k).map isc)),(1,I k),(5,I d.length)],[[]],[]⟩ =
  EvX C fr (.x 0) ⟨[(0,L 1 ((d++Zc2 xs k).map isc)),(1,I (k+c xs)),(5,I (d.length+xs.length)),(9,Bo false)],[[]],[]⟩:=by
 intro xs
 induction xs with
 |nil =>
  intro d k h1 h2 h3 h4;rw[Zi Ztd.eq_1]
  simp[Zc2,c,cnL,mkL]
 |cons x xs ih =>
  intro d k h1 h2 h3 h4;have hx:=h4 x (by simp);have e0:c (x::xs)=Zeo x+c xs:=rfl;rw[e0]at h2;simp only[Yn]at h3;have e1:Zeo x=x.length:=rfl;have eK:k+(Zeo x:Int)=k+(x.length:Int):=by omega
  have eL:k+(c (x::xs):Int)=k+(x.length:Int)+(c xs:Int):=by omega
  have ih':=ih (d++[Zg6 x k]) (k+(x.length:Int)) (by omega) (by omega) (by simp;omega) (λy hy=>h4 y (by simp[hy]));rw[Zi Ztd.eq_1,eL,Zbeh,eK];have g1:IntKind.wrap .i64 ((d.length:Int)+1)=(d.length:Int)+1:=Zs (by omega) (by omega);have g3:(d.length:Int)<(d.length:Int)+(((Zc2 xs (k+(x.length:Int))).length:Int)+1):=by omega
  have g5:(d.length:Int)+1+(xs.length:Int)=(d.length:Int)+((xs.length:Int)+1):=by omega
  have m0:=Zth x (k) (by omega) (by omega) hx;have z0:¬(k+(x.length:Int)<0):=by omega
  simp[g5,Zg6,tI]at ih';simp +decide[g1,g3,m0,z0,ih',Zg6,tI]
theorem Zbem(xs:List (List Int))(k:Int)(h1:0<=k)(h2:k+(c xs:Int)<=4000000000000000000)(h3:SmL SmA xs):C Zbis [L 1 ((Zc2 xs k).map isc),I k] []=some (I (k+c xs),[]):=by
 refine run Zbtl rfl ?_;have h4:=λfr=>Zbwc fr xs [] k h1 h2 (by have:xs.length<=4294967296:=h3.1;simp;omega) h3.2
 simp at h4;simp[Zbd6,h4]
theorem Zbwd(fr:List Fr):∀(xs d:List Zj) (k:Int),0<=k->k+(cc xs:Int)<=4000000000000000000->d.length+xs.length<=4294967296->(∀x∈xs,x.small)->EvL C fr [0,1,5] Zte ⟨[(0,L 3 ((d++Zdh xs k).map Zj.c)),(1,I k),(5,I d.length)],[[]],[]⟩ =
  EvX C fr (.x 0) ⟨[(0,L 3 ((d++Zdh xs k).map Zj.c)),(1,I (k+cc xs)),(5,I (d.length+xs.length)),(9,Bo false)],[[]],[]⟩:=by
 intro xs
 induction xs with
 |nil =>
  intro d k h1 h2 h3 h4;rw[Zi Zte.eq_1]
  simp[Zdh,cc,cnL,mkL]
 |cons x xs ih =>
  intro d k h1 h2 h3 h4;have hx:=h4 x (by simp);have e0:cc (x::xs)=Zfl x+cc xs:=rfl;rw[e0]at h2;simp only[Yn]at h3;rcases x with⟨x0,x1,x2⟩;have e1:Zfl ⟨x0,x1,x2⟩=x0.length+Zbj x1+x2.length:=rfl;have eK:k+(Zfl ⟨x0,x1,x2⟩:Int)=k+(x0.length:Int)+(Zbj x1:Int)+(x2.length:Int):=by omega
  have eL:k+(cc (⟨x0,x1,x2⟩::xs):Int)=k+(x0.length:Int)+(Zbj x1:Int)+(x2.length:Int)+(cc xs:Int):=by omega
  have ih':=ih (d++[Zhb ⟨x0,x1,x2⟩ k]) (k+(x0.length:Int)+(Zbj x1:Int)+(x2.length:Int)) (by omega) (by omega) (by simp;omega) (λy hy=>h4 y (by simp[hy]));rw[Zi Zte.eq_1,eL,Zbel,eK];have g1:IntKind.wrap .i64 ((d.length:Int)+1)=(d.length:Int)+1:=Zs (by omega) (by omega);have g3:(d.length:Int)<(d.length:Int)+(((Zdh xs (k+(x0.length:Int)+(Zbj x1:Int)+(x2.length:Int))).length:Int)+1):=by omega
  have g5:(d.length:Int)+1+(xs.length:Int)=(d.length:Int)+((xs.length:Int)+1):=by omega
  have m0:=Zth x0 (k) (by omega) (by omega) (by first|exact hx|exact hx.1|exact hx.2|exact hx.2.1|exact hx.2.2|exact hx.2.2.1|exact hx.2.2.2|exact hx.2.2.2.1|exact hx.2.2.2.2|exact hx.2.2.2.2.1|exact hx.2.2.2.2.2);have z0:¬(k+(x0.length:Int)<0):=by omega
  have m1:=Zbem x1 (k+(x0.length:Int)) (by omega) (by omega) (by first|exact hx|exact hx.1|exact hx.2|exact hx.2.1|exact hx.2.2|exact hx.2.2.1|exact hx.2.2.2|exact hx.2.2.2.1|exact hx.2.2.2.2|exact hx.2.2.2.2.1|exact hx.2.2.2.2.2);have z1:¬(k+(x0.length:Int)+(Zbj x1:Int)<0):=by omega
  have m2:=Zth x2 (k+(x0.length:Int)+(Zbj x1:Int)) (by omega) (by omega) (by first|exact hx|exact hx.1|exact hx.2|exact hx.2.1|exact hx.2.2|exact hx.2.2.1|exact hx.2.2.2|exact hx.2.2.2.1|exact hx.2.2.2.2|exact hx.2.2.2.2.1|exact hx.2.2.2.2.2);have z2:¬(k+(x0.length:Int)+(Zbj x1:Int)+(x2.length:Int)<0):=by omega
  simp[g5,Zhb,tI,tII]at ih';simp +decide[g1,g3,m0,z0,m1,z1,m2,z2,ih',Zhb,tI,tII]
theorem Zbwe(xs:List Zj)(k:Int)(h1:0<=k)(h2:k+(cc xs:Int)<=4000000000000000000)(h3:SmL Zj.small xs):C Zbit [L 3 ((Zdh xs k).map Zj.c),I k] []=some (I (k+cc xs),[]):=by
 refine run Zbtm rfl ?_;have h4:=λfr=>Zbwd fr xs [] k h1 h2 (by have:xs.length<=4294967296:=h3.1;simp;omega) h3.2
 simp at h4;simp[Zbd7,h4]
noncomputable def Zhc(a:Zf)(k:Int):Zf:=⟨Zg5 (k),k+1,Zg5 (k+1+1),k+1+1+1⟩
def Ze1(a:Zf):Nat:=1+1+1+1
noncomputable def Zdi(xs:List Zf)(k:Int):List Zf:=mkL Zhc Ze1 xs k
def Zhd(xs:List Zf):Nat:=cnL Ze1 xs
theorem Zben(x:Zf)(xs:List Zf)(k:Int):Zdi (x::xs) k=Zhc x k::Zdi xs (k+(c x:Int)):=rfl
theorem Zbwf(e:Nat)(fr:List Fr):∀(xs d:List Zf) (k:Int),0<=k->k+(cc xs:Int)<=4000000000000000000->d.length+xs.length<=4294967296->(∀x∈xs,x.small)->EvL C fr [0,1,5] Zov ⟨[(0,.own 0),(1,I k),(5,I d.length)],[[(0,.own 0)]],[.xarr e 4 ((d++xs).map Zf.c)]⟩ =
  EvX C fr (.x 0) ⟨[(0,.own 0),(1,I (k+cc xs)),(5,I (d.length+xs.length)),(9,Bo false)],[[(0,.own 0)]],[.xarr e 4 ((d++Zdi xs k).map Zf.c)]⟩:=by
 intro xs
 induction xs with
 |nil =>
  intro d k h1 h2 h3 h4;rw[Zi Zov.eq_1]
  simp[Zdi,cc,cnL,mkL]
 |cons x xs ih =>
  intro d k h1 h2 h3 h4;have hx:=h4 x (by simp);have e0:cc (x::xs)=Ze1 x+cc xs:=rfl;rw[e0]at h2;simp only[Yn]at h3;rcases x with⟨x0,x1,x2,x3⟩;have e1:Ze1 ⟨x0,x1,x2,x3⟩=1+1+1+1:=rfl;have eK:k+(Ze1 ⟨x0,x1,x2,x3⟩:Int)=k+1+1+1+1:=by omega
  have eL:k+(cc (⟨x0,x1,x2,x3⟩::xs):Int)=k+1+1+1+1+(cc xs:Int):=by omega
  have ih':=ih (d++[Zhc ⟨x0,x1,x2,x3⟩ k]) (k+1+1+1+1) (by omega) (by omega) (by simp;omega) (λy hy=>h4 y (by simp[hy]));rw[Zi Zov.eq_1,eL,Zben,eK];have g1:IntKind.wrap .i64 ((d.length:Int)+1)=(d.length:Int)+1:=Zs (by omega) (by omega);have g3:(d.length:Int)<(d.length:Int)+((xs.length:Int)+1):=by omega
  have g5:(d.length:Int)+1+(xs.length:Int)=(d.length:Int)+((xs.length:Int)+1):=by omega
  have w0:IntKind.wrap .i64 (k+1)=k+1:=Zs (by omega) (by omega);have w1:IntKind.wrap .i64 (k+1+1)=k+1+1:=Zs (by omega) (by omega);have w2:IntKind.wrap .i64 (k+1+1+1)=k+1+1+1:=Zs (by omega) (by omega);have w3:IntKind.wrap .i64 (k+1+1+1+1)=k+1+1+1+1:=Zs (by omega) (by omega);have t0:=Zfk (k) (by omega) (by omega);have t1:=Zfk (k+1+1) (by omega) (by omega)
  (simp[g5,Zhc,tI]at ih';simp[g1,g3,w0,w1,w2,w3,t0,t1,ih',Zhc,tI])
theorem Zbwg(e:Nat)(xs:List Zf)(k:Int)(h1:0<=k)(h2:k+(cc xs:Int)<=4000000000000000000)(h3:SmL Zf.small xs):C Z3a [.own 0,I k] [.xarr e 4 (xs.map Zf.c)]=some (I (k+cc xs),[.xarr e 4 ((Zdi xs k).map Zf.c)]):=by
 refine runM Zbcl rfl ?_;have h4:=λfr=>Zbwf e fr xs [] k h1 h2 (by have:xs.length<=4294967296:=h3.1;simp;omega) h3.2
 simp at h4;simp[Zze,h4]
theorem Zbwh(k:Int):C Z3a [.t .nil,I k] []=some (I k,[]):=by
 refine run Zbcl rfl ?_;simp[Zze,Zi Zov.eq_1]
theorem Zbwi(fr:List Fr):∀(xs d:List Zf) (k:Int),0<=k->k+(cc xs:Int)<=4000000000000000000->d.length+xs.length<=4294967296->(∀x∈xs,x.small)->EvL C fr [0,1,5] Zo5 ⟨[(0,L 4 ((d++Zdi xs k).map Zf.c)),(1,I k),(5,I d.length)],[[]],[]⟩ =
  EvX C fr (.x 0) ⟨[(0,L 4 ((d++Zdi xs k).map Zf.c)),(1,I (k+cc xs)),(5,I (d.length+xs.length)),(9,Bo false)],[[]],[]⟩:=by
 intro xs
 induction xs with
 |nil =>
  intro d k h1 h2 h3 h4;rw[Zi Zo5.eq_1]
  simp[Zdi,cc,cnL,mkL]
 |cons x xs ih =>
  intro d k h1 h2 h3 h4;have hx:=h4 x (by simp);have e0:cc (x::xs)=Ze1 x+cc xs:=rfl;rw[e0]at h2;simp only[Yn]at h3;rcases x with⟨x0,x1,x2,x3⟩;have e1:Ze1 ⟨x0,x1,x2,x3⟩=1+1+1+1:=rfl;have eK:k+(Ze1 ⟨x0,x1,x2,x3⟩:Int)=k+1+1+1+1:=by omega
  have eL:k+(cc (⟨x0,x1,x2,x3⟩::xs):Int)=k+1+1+1+1+(cc xs:Int):=by omega
  have ih':=ih (d++[Zhc ⟨x0,x1,x2,x3⟩ k]) (k+1+1+1+1) (by omega) (by omega) (by simp;omega) (λy hy=>h4 y (by simp[hy]));rw[Zi Zo5.eq_1,eL,Zben,eK];have g1:IntKind.wrap .i64 ((d.length:Int)+1)=(d.length:Int)+1:=Zs (by omega) (by omega);have g3:(d.length:Int)<(d.length:Int)+(((Zdi xs (k+1+1+1+1)).length:Int)+1):=by omega
  have g5:(d.length:Int)+1+(xs.length:Int)=(d.length:Int)+((xs.length:Int)+1):=by omega
  have w0:IntKind.wrap .i64 (k+1)=k+1:=Zs (by omega) (by omega);have w1:IntKind.wrap .i64 (k+1+1)=k+1+1:=Zs (by omega) (by omega);have w2:IntKind.wrap .i64 (k+1+1+1)=k+1+1+1:=Zs (by omega) (by omega);have w3:IntKind.wrap .i64 (k+1+1+1+1)=k+1+1+1+1:=Zs (by omega) (by omega);have t0:=Zfk (k) (by omega) (by omega);have t1:=Zfk (k+1+1) (by omega) (by omega);simp[g5,Zhc,tI]at ih';simp +decide[g1,g3,w0,w1,w2,w3,t0,t1,ih',Zhc,tI]
theorem Zbwj(xs:List Zf)(k:Int)(h1:0<=k)(h2:k+(cc xs:Int)<=4000000000000000000)(h3:SmL Zf.small xs):C Z3n [L 4 ((Zdi xs k).map Zf.c),I k] []=some (I (k+cc xs),[]):=by
 refine run Zbdi rfl ?_;have h4:=λfr=>Zbwi fr xs [] k h1 h2 (by have:xs.length<=4294967296:=h3.1;simp;omega) h3.2
 simp at h4;simp[Zzq,h4]
theorem Zbwk(k:Int):C Z3n [.t .nil,I k] []=some (I k,[]):=by
 refine run Zbdi rfl ?_;simp[Zzq,Zi Zo5.eq_1]
noncomputable def Zhe(a:Zc)(k:Int):Zc:=⟨Zg5 (k),k+1,Zc2 a.Rows (k+1+1)⟩
def Zep(a:Zc):Nat:=1+1+Zbj a.Rows
noncomputable def Zcp(xs:List Zc)(k:Int):List Zc:=mkL Zhe Zep xs k
def Ze2(xs:List Zc):Nat:=cnL Zep xs
theorem Zbeo(x:Zc)(xs:List Zc)(k:Int):Zcp (x::xs) k=Zhe x k::Zcp xs (k+(c x:Int)):=rfl
theorem Zbwl(e:Nat)(fr:List Fr):∀(xs d:List Zc) (k:Int),0<=k->k+(cc xs:Int)<=4000000000000000000->d.length+xs.length<=4294967296->(∀x∈xs,x.small)->EvL C fr [0,1,5] Zoz ⟨[(0,.own 0),(1,I k),(5,I d.length)],[[(0,.own 0)]],[.xarr e 3 ((d++xs).map Zc.c)]⟩ =
  EvX C fr (.x 0) ⟨[(0,.own 0),(1,I (k+cc xs)),(5,I (d.length+xs.length)),(9,Bo false)],[[(0,.own 0)]],[.xarr e 3 ((d++Zcp xs k).map Zc.c)]⟩:=by
 intro xs
 induction xs with
 |nil =>
  intro d k h1 h2 h3 h4;rw[Zi Zoz.eq_1]
  simp[Zcp,cc,cnL,mkL]
 |cons x xs ih =>
  intro d k h1 h2 h3 h4;have hx:=h4 x (by simp);have e0:cc (x::xs)=Zep x+cc xs:=rfl;rw[e0]at h2;simp only[Yn]at h3;rcases x with⟨x0,x1,x2⟩;have e1:Zep ⟨x0,x1,x2⟩=1+1+Zbj x2:=rfl;have eK:k+(Zep ⟨x0,x1,x2⟩:Int)=k+1+1+(Zbj x2:Int):=by omega
  have eL:k+(cc (⟨x0,x1,x2⟩::xs):Int)=k+1+1+(Zbj x2:Int)+(cc xs:Int):=by omega
  have ih':=ih (d++[Zhe ⟨x0,x1,x2⟩ k]) (k+1+1+(Zbj x2:Int)) (by omega) (by omega) (by simp;omega) (λy hy=>h4 y (by simp[hy]));rw[Zi Zoz.eq_1,eL,Zbeo,eK];have g1:IntKind.wrap .i64 ((d.length:Int)+1)=(d.length:Int)+1:=Zs (by omega) (by omega);have g3:(d.length:Int)<(d.length:Int)+((xs.length:Int)+1):=by omega
  have g5:(d.length:Int)+1+(xs.length:Int)=(d.length:Int)+((xs.length:Int)+1):=by omega
  have w0:IntKind.wrap .i64 (k+1)=k+1:=Zs (by omega) (by omega);have w1:IntKind.wrap .i64 (k+1+1)=k+1+1:=Zs (by omega) (by omega);have t0:=Zfk (k) (by omega) (by omega);have m0:=Zbei x2 (k+1+1) (by omega) (by omega) (by first|exact hx|exact hx.1|exact hx.2|exact hx.2.1|exact hx.2.2|exact hx.2.2.1|exact hx.2.2.2|exact hx.2.2.2.1|exact hx.2.2.2.2|exact hx.2.2.2.2.1|exact hx.2.2.2.2.2);rcases m0 with⟨r0,s0,m0⟩|⟨y0,ys0,r0,s0,m0⟩
  all_goals (simp[g5,Zhe,tI,tII,r0,s0]at ih';simp[g1,g3,w0,w1,t0,m0,r0,s0,ih',Zhe,tI,tII])
theorem Zbwm(e:Nat)(xs:List Zc)(k:Int)(h1:0<=k)(h2:k+(cc xs:Int)<=4000000000000000000)(h3:SmL Zc.small xs):C Z3h [.own 0,I k] [.xarr e 3 (xs.map Zc.c)]=some (I (k+cc xs),[.xarr e 3 ((Zcp xs k).map Zc.c)]):=by
 refine runM Zbc8 rfl ?_;have h4:=λfr=>Zbwl e fr xs [] k h1 h2 (by have:xs.length<=4294967296:=h3.1;simp;omega) h3.2
 simp at h4;simp[Zzi,h4]
theorem Zbwn(k:Int):C Z3h [.t .nil,I k] []=some (I k,[]):=by
 refine run Zbc8 rfl ?_;simp[Zzi,Zi Zoz.eq_1]
theorem Zbwo(fr:List Fr):∀(xs d:List Zc) (k:Int),0<=k->k+(cc xs:Int)<=4000000000000000000->d.length+xs.length<=4294967296->(∀x∈xs,x.small)->EvL C fr [0,1,5] Zo8 ⟨[(0,L 3 ((d++Zcp xs k).map Zc.c)),(1,I k),(5,I d.length)],[[]],[]⟩ =
  EvX C fr (.x 0) ⟨[(0,L 3 ((d++Zcp xs k).map Zc.c)),(1,I (k+cc xs)),(5,I (d.length+xs.length)),(9,Bo false)],[[]],[]⟩:=by
 intro xs
 induction xs with
 |nil =>
  intro d k h1 h2 h3 h4;rw[Zi Zo8.eq_1]
  simp[Zcp,cc,cnL,mkL]
 |cons x xs ih =>
  intro d k h1 h2 h3 h4;have hx:=h4 x (by simp);have e0:cc (x::xs)=Zep x+cc xs:=rfl;rw[e0]at h2;simp only[Yn]at h3;rcases x with⟨x0,x1,x2⟩;have e1:Zep ⟨x0,x1,x2⟩=1+1+Zbj x2:=rfl;have eK:k+(Zep ⟨x0,x1,x2⟩:Int)=k+1+1+(Zbj x2:Int):=by omega
  have eL:k+(cc (⟨x0,x1,x2⟩::xs):Int)=k+1+1+(Zbj x2:Int)+(cc xs:Int):=by omega
  have ih':=ih (d++[Zhe ⟨x0,x1,x2⟩ k]) (k+1+1+(Zbj x2:Int)) (by omega) (by omega) (by simp;omega) (λy hy=>h4 y (by simp[hy]));rw[Zi Zo8.eq_1,eL,Zbeo,eK];have g1:IntKind.wrap .i64 ((d.length:Int)+1)=(d.length:Int)+1:=Zs (by omega) (by omega);have g3:(d.length:Int)<(d.length:Int)+(((Zcp xs (k+1+1+(Zbj x2:Int))).length:Int)+1):=by omega
  have g5:(d.length:Int)+1+(xs.length:Int)=(d.length:Int)+((xs.length:Int)+1):=by omega
  have w0:IntKind.wrap .i64 (k+1)=k+1:=Zs (by omega) (by omega);have w1:IntKind.wrap .i64 (k+1+1)=k+1+1:=Zs (by omega) (by omega);have t0:=Zfk (k) (by omega) (by omega);have m0:=Zbem x2 (k+1+1) (by omega) (by omega) (by first|exact hx|exact hx.1|exact hx.2|exact hx.2.1|exact hx.2.2|exact hx.2.2.1|exact hx.2.2.2|exact hx.2.2.2.1|exact hx.2.2.2.2|exact hx.2.2.2.2.1|exact hx.2.2.2.2.2);have z0:¬(k+1+1+(Zbj x2:Int)<0):=by omega
  simp[g5,Zhe,tI,tII]at ih';simp +decide[g1,g3,w0,w1,t0,m0,z0,ih',Zhe,tI,tII]
theorem Zbwp(xs:List Zc)(k:Int)(h1:0<=k)(h2:k+(cc xs:Int)<=4000000000000000000)(h3:SmL Zc.small xs):C Z3p [L 3 ((Zcp xs k).map Zc.c),I k] []=some (I (k+cc xs),[]):=by
 refine run Zbdy rfl ?_;have h4:=λfr=>Zbwo fr xs [] k h1 h2 (by have:xs.length<=4294967296:=h3.1;simp;omega) h3.2
 simp at h4;simp[Zzv,h4]
theorem Zbwq(k:Int):C Z3p [.t .nil,I k] []=some (I k,[]):=by
 refine run Zbdy rfl ?_;simp[Zzv,Zi Zo8.eq_1]
noncomputable def Zhf(a:Zd)(k:Int):Zd:=⟨Zg5 (k),k+1,k+1+1,Zdh a.Groups (k+1+1+1)⟩
def Zeq(a:Zd):Nat:=1+1+1+Zdu a.Groups
noncomputable def Zcq(xs:List Zd)(k:Int):List Zd:=mkL Zhf Zeq xs k
def Ze3(xs:List Zd):Nat:=cnL Zeq xs
theorem Zbep(x:Zd)(xs:List Zd)(k:Int):Zcq (x::xs) k=Zhf x k::Zcq xs (k+(c x:Int)):=rfl
theorem Zbwr(e:Nat)(fr:List Fr):∀(xs d:List Zd) (k:Int),0<=k->k+(cc xs:Int)<=4000000000000000000->d.length+xs.length<=4294967296->(∀x∈xs,x.small)->EvL C fr [0,1,5] Zo0 ⟨[(0,.own 0),(1,I k),(5,I d.length)],[[(0,.own 0)]],[.xarr e 4 ((d++xs).map Zd.c)]⟩ =
  EvX C fr (.x 0) ⟨[(0,.own 0),(1,I (k+cc xs)),(5,I (d.length+xs.length)),(9,Bo false)],[[(0,.own 0)]],[.xarr e 4 ((d++Zcq xs k).map Zd.c)]⟩:=by
 intro xs
 induction xs with
 |nil =>
  intro d k h1 h2 h3 h4;rw[Zi Zo0.eq_1]
  simp[Zcq,cc,cnL,mkL]
 |cons x xs ih =>
  intro d k h1 h2 h3 h4;have hx:=h4 x (by simp);have e0:cc (x::xs)=Zeq x+cc xs:=rfl;rw[e0]at h2;simp only[Yn]at h3;rcases x with⟨x0,x1,x2,x3⟩;have e1:Zeq ⟨x0,x1,x2,x3⟩=1+1+1+Zdu x3:=rfl;have eK:k+(Zeq ⟨x0,x1,x2,x3⟩:Int)=k+1+1+1+(Zdu x3:Int):=by omega
  have eL:k+(cc (⟨x0,x1,x2,x3⟩::xs):Int)=k+1+1+1+(Zdu x3:Int)+(cc xs:Int):=by omega
  have ih':=ih (d++[Zhf ⟨x0,x1,x2,x3⟩ k]) (k+1+1+1+(Zdu x3:Int)) (by omega) (by omega) (by simp;omega) (λy hy=>h4 y (by simp[hy]));rw[Zi Zo0.eq_1,eL,Zbep,eK];have g1:IntKind.wrap .i64 ((d.length:Int)+1)=(d.length:Int)+1:=Zs (by omega) (by omega);have g3:(d.length:Int)<(d.length:Int)+((xs.length:Int)+1):=by omega
  have g5:(d.length:Int)+1+(xs.length:Int)=(d.length:Int)+((xs.length:Int)+1):=by omega
  have w0:IntKind.wrap .i64 (k+1)=k+1:=Zs (by omega) (by omega);have w1:IntKind.wrap .i64 (k+1+1)=k+1+1:=Zs (by omega) (by omega);have w2:IntKind.wrap .i64 (k+1+1+1)=k+1+1+1:=Zs (by omega) (by omega);have t0:=Zfk (k) (by omega) (by omega);have m0:=Zbwb x3 (k+1+1+1) (by omega) (by omega) (by first|exact hx|exact hx.1|exact hx.2|exact hx.2.1|exact hx.2.2|exact hx.2.2.1|exact hx.2.2.2|exact hx.2.2.2.1|exact hx.2.2.2.2|exact hx.2.2.2.2.1|exact hx.2.2.2.2.2);rcases m0 with⟨r0,s0,m0⟩|⟨y0,ys0,r0,s0,m0⟩
  all_goals (simp[g5,Zhf,tI,r0,s0]at ih';simp[g1,g3,w0,w1,w2,t0,m0,r0,s0,ih',Zhf,tI])
theorem Zbws(e:Nat)(xs:List Zd)(k:Int)(h1:0<=k)(h2:k+(cc xs:Int)<=4000000000000000000)(h3:SmL Zd.small xs):C Z3i [.own 0,I k] [.xarr e 4 (xs.map Zd.c)]=some (I (k+cc xs),[.xarr e 4 ((Zcq xs k).map Zd.c)]):=by
 refine runM Zbc9 rfl ?_;have h4:=λfr=>Zbwr e fr xs [] k h1 h2 (by have:xs.length<=4294967296:=h3.1;simp;omega) h3.2
 simp at h4;simp[Zzj,h4]
theorem Zbwt(k:Int):C Z3i [.t .nil,I k] []=some (I k,[]):=by
 refine run Zbc9 rfl ?_;simp[Zzj,Zi Zo0.eq_1]
theorem Zbwu(fr:List Fr):∀(xs d:List Zd) (k:Int),0<=k->k+(cc xs:Int)<=4000000000000000000->d.length+xs.length<=4294967296->(∀x∈xs,x.small)->EvL C fr [0,1,5] Zo9 ⟨[(0,L 4 ((d++Zcq xs k).map Zd.c)),(1,I k),(5,I d.length)],[[]],[]⟩ =
  EvX C fr (.x 0) ⟨[(0,L 4 ((d++Zcq xs k).map Zd.c)),(1,I (k+cc xs)),(5,I (d.length+xs.length)),(9,Bo false)],[[]],[]⟩:=by
 intro xs
 induction xs with
 |nil =>
  intro d k h1 h2 h3 h4;rw[Zi Zo9.eq_1]
  simp[Zcq,cc,cnL,mkL]
 |cons x xs ih =>
  intro d k h1 h2 h3 h4;have hx:=h4 x (by simp);have e0:cc (x::xs)=Zeq x+cc xs:=rfl;rw[e0]at h2;simp only[Yn]at h3;rcases x with⟨x0,x1,x2,x3⟩;have e1:Zeq ⟨x0,x1,x2,x3⟩=1+1+1+Zdu x3:=rfl;have eK:k+(Zeq ⟨x0,x1,x2,x3⟩:Int)=k+1+1+1+(Zdu x3:Int):=by omega
  have eL:k+(cc (⟨x0,x1,x2,x3⟩::xs):Int)=k+1+1+1+(Zdu x3:Int)+(cc xs:Int):=by omega
  have ih':=ih (d++[Zhf ⟨x0,x1,x2,x3⟩ k]) (k+1+1+1+(Zdu x3:Int)) (by omega) (by omega) (by simp;omega) (λy hy=>h4 y (by simp[hy]));rw[Zi Zo9.eq_1,eL,Zbep,eK];have g1:IntKind.wrap .i64 ((d.length:Int)+1)=(d.length:Int)+1:=Zs (by omega) (by omega);have g3:(d.length:Int)<(d.length:Int)+(((Zcq xs (k+1+1+1+(Zdu x3:Int))).length:Int)+1):=by omega
  have g5:(d.length:Int)+1+(xs.length:Int)=(d.length:Int)+((xs.length:Int)+1):=by omega
  have w0:IntKind.wrap .i64 (k+1)=k+1:=Zs (by omega) (by omega);have w1:IntKind.wrap .i64 (k+1+1)=k+1+1:=Zs (by omega) (by omega);have w2:IntKind.wrap .i64 (k+1+1+1)=k+1+1+1:=Zs (by omega) (by omega);have t0:=Zfk (k) (by omega) (by omega);have m0:=Zbwe x3 (k+1+1+1) (by omega) (by omega) (by first|exact hx|exact hx.1|exact hx.2|exact hx.2.1|exact hx.2.2|exact hx.2.2.1|exact hx.2.2.2|exact hx.2.2.2.1|exact hx.2.2.2.2|exact hx.2.2.2.2.1|exact hx.2.2.2.2.2);have z0:¬(k+1+1+1+(Zdu x3:Int)<0):=by omega
  simp[g5,Zhf,tI]at ih';simp +decide[g1,g3,w0,w1,w2,t0,m0,z0,ih',Zhf,tI]
theorem Zbwv(xs:List Zd)(k:Int)(h1:0<=k)(h2:k+(cc xs:Int)<=4000000000000000000)(h3:SmL Zd.small xs):C Z3q [L 4 ((Zcq xs k).map Zd.c),I k] []=some (I (k+cc xs),[]):=by
 refine run Zbdz rfl ?_;have h4:=λfr=>Zbwu fr xs [] k h1 h2 (by have:xs.length<=4294967296:=h3.1;simp;omega) h3.2
 simp at h4;simp[Zzw,h4]
theorem Zbww(k:Int):C Z3q [.t .nil,I k] []=some (I k,[]):=by
 refine run Zbdz rfl ?_;simp[Zzw,Zi Zo9.eq_1]
theorem Zbwx(e0:Nat)(x0:Int)(x1:List Zd)(k:Int)(h1:0<=k)(h2:k+(cc x1:Int)<=4000000000000000000)(cd:SmL Zd.small x1):C Z28 [.agg [I x0,.own 0],I k] [.xarr e0 4 (x1.map Zd.c)]=some (I (k+(cc x1:Int)),[.xarr e0 4 ((Zcq x1 (k)).map Zd.c)]):=by
 refine runM Zbcj rfl ?_;have m0:=Zbws e0 x1 (k) (by omega) (by omega) cd;simp[Zzc,m0]
theorem Zbwy(x0 k:Int):C Z28 [.agg [I x0,.t .nil],I k] []=some (I k,[]):=by
 refine run Zbcj rfl ?_;simp[Zzc,Zbwt]
theorem Zbwz(x0:Int)(x1:List Zd)(k:Int)(h1:0<=k)(h2:k+(cc x1:Int)<=4000000000000000000)(cd:SmL Zd.small x1):C Z3l [.agg [I x0,.t (.lst 4 ((Zcq x1 (k)).map Zd.c))],I k] []=some (I (k+(cc x1:Int)),[]):=by
 refine run Zbdg rfl ?_;have m0:=Zbwv x1 (k) (by omega) (by omega) cd;have z0:¬(k+(cc x1:Int)<0):=by omega
 simp[Zzo,tI,m0,z0]
theorem Zbw0(x0 k:Int)(h1:0<=k):C Z3l [.agg [I x0,.t .nil],I k] []=some (I k,[]):=by
 refine run Zbdg rfl ?_;have z:¬(k<0):=by omega
 simp[Zzo,z,h1,Zbww]
theorem Zbw1(e0:Nat)(x0:List Zc)(k:Int)(h1:0<=k)(h2:k+(cc x0:Int)<=4000000000000000000)(cd:SmL Zc.small x0):C Z27 [.agg [.own 0],I k] [.xarr e0 3 (x0.map Zc.c)]=some (I (k+(cc x0:Int)),[.xarr e0 3 ((Zcp x0 (k)).map Zc.c)]):=by
 refine runM Zbci rfl ?_;have m0:=Zbwm e0 x0 (k) (by omega) (by omega) cd;simp[Zzb,m0]
theorem Zbw2  (k:Int):C Z27 [.agg [.t .nil],I k] []=some (I k,[]):=by
 refine run Zbci rfl ?_;simp[Zzb,Zbwn]
theorem Zbw3(x0:List Zc)(k:Int)(h1:0<=k)(h2:k+(cc x0:Int)<=4000000000000000000)(cd:SmL Zc.small x0):C Z3k [.agg [.t (.lst 3 ((Zcp x0 (k)).map Zc.c))],I k] []=some (I (k+(cc x0:Int)),[]):=by
 refine run Zbdf rfl ?_;have m0:=Zbwp x0 (k) (by omega) (by omega) cd;have z0:¬(k+(cc x0:Int)<0):=by omega
 simp[Zzn,tI,m0,z0]
theorem Zbw4  (k:Int)(h1:0<=k):C Z3k [.agg [.t .nil],I k] []=some (I k,[]):=by
 refine run Zbdf rfl ?_;have z:¬(k<0):=by omega
 simp[Zzn,z,h1,Zbwq]
theorem Zpe(e0:Nat)(x0 x1 x2 x3 x4:Int)(x5:List Zb)(k:Int)(h1:0<=k)(h2:k+(cc x5:Int)<=4000000000000000000)(cd:SmA x5):C Z3b [.agg [I x0,I x1,I x2,I x3,I x4,.own 0],I k] [.xarr e0 2 (x5.map Zb.c)]=some (I (k+(cc x5:Int)),[.xarr e0 2 ((Zbe x5 (k)).map Zb.c)]):=by
 refine runM Zbcm rfl ?_;have m0:=Zbvx e0 x5 (k) (by omega) (by omega) cd;simp[Zzf,m0]
theorem Zbw5(x0 x1 x2 x3 x4 k:Int):C Z3b [.agg [I x0,I x1,I x2,I x3,I x4,.t .nil],I k] []=some (I k,[]):=by
 refine run Zbcm rfl ?_;simp[Zzf,Zbvy]
theorem Zpf(x0 x1 x2 x3 x4:Int)(x5:List Zb)(k:Int)(h1:0<=k)(h2:k+(cc x5:Int)<=4000000000000000000)(cd:SmA x5):C Z3o [.agg [I x0,I x1,I x2,I x3,I x4,.t (.lst 2 ((Zbe x5 (k)).map Zb.c))],I k] []=some (I (k+(cc x5:Int)),[]):=by
 refine run Zbdj rfl ?_;have m0:=Zbv0 x5 (k) (by omega) (by omega) cd;have z0:¬(k+(cc x5:Int)<0):=by omega
 simp[Zzr,tI,m0,z0]
theorem Zbw6(x0 x1 x2 x3 x4 k:Int)(h1:0<=k):C Z3o [.agg [I x0,I x1,I x2,I x3,I x4,.t .nil],I k] []=some (I k,[]):=by
 refine run Zbdj rfl ?_;have z:¬(k<0):=by omega
 simp[Zzr,z,h1,Zbv1]
theorem Zbeq(e0 e1 e2 e3 e4:Nat)(x0 x1 x2 x3 x4:Int)(x5:List Zb)(x6 x7 x8 x9 cd:Int)(x11:List Zb)(cl cn co cp cu:Int)(x17:List Zb)(cv cy cz d dc:Int)(x23:List Zb)(dd dl dn dp du:Int)(x29:List Zb)(k:Int)(h1:0<=k)(h2:k+(cc x5:Int)+(cc x11:Int)+(cc x17:Int)+(cc x23:Int)+(cc x29:Int)<=4000000000000000000)(lc:SmA x5)(dv:SmA x11)(dy:SmA x17)(dz:SmA x23)(l:SmA x29):C Z2z [.agg [I x0,I x1,I x2,I x3,I x4,.own 0,I x6,I x7,I x8,I x9,I cd,.own 1,I cl,I cn,I co,I cp,I cu,.own 2,I cv,I cy,I cz,I d,I dc,.own 3,I dd,I dl,I dn,I dp,I du,.own 4],I k] [.xarr e0 2 (x5.map Zb.c),.xarr e1 2 (x11.map Zb.c),.xarr e2 2 (x17.map Zb.c),.xarr e3 2 (x23.map Zb.c),.xarr e4 2 (x29.map Zb.c)]=some (I (k+(cc x5:Int)+(cc x11:Int)+(cc x17:Int)+(cc x23:Int)+(cc x29:Int)),[.xarr e0 2 ((Zbe x5 (k)).map Zb.c),.xarr e1 2 ((Zbe x11 (k+(cc x5:Int))).map Zb.c),.xarr e2 2 ((Zbe x17 (k+(cc x5:Int)+(cc x11:Int))).map Zb.c),.xarr e3 2 ((Zbe x23 (k+(cc x5:Int)+(cc x11:Int)+(cc x17:Int))).map Zb.c),.xarr e4 2 ((Zbe x29 (k+(cc x5:Int)+(cc x11:Int)+(cc x17:Int)+(cc x23:Int))).map Zb.c)]):=by
 refine runM Zbbz rfl ?_;have m0:=Zpe e0 x0 x1 x2 x3 x4 x5 (k) (by omega) (by omega) lc;have m1:=Zpe e1 x6 x7 x8 x9 cd x11 (k+(cc x5:Int)) (by omega) (by omega) dv;have m2:=Zpe e2 cl cn co cp cu x17 (k+(cc x5:Int)+(cc x11:Int)) (by omega) (by omega) dy;have m3:=Zpe e3 cv cy cz d dc x23 (k+(cc x5:Int)+(cc x11:Int)+(cc x17:Int)) (by omega) (by omega) dz;have m4:=Zpe e4 dd dl dn dp du x29 (k+(cc x5:Int)+(cc x11:Int)+(cc x17:Int)+(cc x23:Int)) (by omega) (by omega) l;simp[Zy5,m0,m1,m2,m3,m4]
theorem Zbw7(x0 x1 x2 x3 x4 x6 x7 x8 x9 c cc cd cl cn co cp cu cv cy cz d dc dd dl dn k:Int):C Z2z [.agg [I x0,I x1,I x2,I x3,I x4,.t .nil,I x6,I x7,I x8,I x9,I c,.t .nil,I cc,I cd,I cl,I cn,I co,.t .nil,I cp,I cu,I cv,I cy,I cz,.t .nil,I d,I dc,I dd,I dl,I dn,.t .nil],I k] []=some (I k,[]):=by
 refine run Zbbz rfl ?_;simp[Zy5,Zbw5]
theorem Zbw8(x0 x1 x2 x3 x4:Int)(x5:List Zb)(x6 x7 x8 x9 cd:Int)(x11:List Zb)(cl cn co cp cu:Int)(x17:List Zb)(cv cy cz d dc:Int)(x23:List Zb)(dd dl dn dp du:Int)(x29:List Zb)(k:Int)(h1:0<=k)(h2:k+(cc x5:Int)+(cc x11:Int)+(cc x17:Int)+(cc x23:Int)+(cc x29:Int)<=4000000000000000000)(lc:SmA x5)(dv:SmA x11)(dy:SmA x17)(dz:SmA x23)(l:SmA x29):C Z3d [.agg [I x0,I x1,I x2,I x3,I x4,.t (.lst 2 ((Zbe x5 (k)).map Zb.c)),I x6,I x7,I x8,I x9,I cd,.t (.lst 2 ((Zbe x11 (k+(cc x5:Int))).map Zb.c)),I cl,I cn,I co,I cp,I cu,.t (.lst 2 ((Zbe x17 (k+(cc x5:Int)+(cc x11:Int))).map Zb.c)),I cv,I cy,I cz,I d,I dc,.t (.lst 2 ((Zbe x23 (k+(cc x5:Int)+(cc x11:Int)+(cc x17:Int))).map Zb.c)),I dd,I dl,I dn,I dp,I du,.t (.lst 2 ((Zbe x29 (k+(cc x5:Int)+(cc x11:Int)+(cc x17:Int)+(cc x23:Int))).map Zb.c))],I k] []=some (I (k+(cc x5:Int)+(cc x11:Int)+(cc x17:Int)+(cc x23:Int)+(cc x29:Int)),[]):=by
 refine run Zbcp rfl ?_;have m0:=Zpf x0 x1 x2 x3 x4 x5 (k) (by omega) (by omega) lc;have z0:¬(k+(cc x5:Int)<0):=by omega
 have m1:=Zpf x6 x7 x8 x9 cd x11 (k+(cc x5:Int)) (by omega) (by omega) dv;have z1:¬(k+(cc x5:Int)+(cc x11:Int)<0):=by omega
 have m2:=Zpf cl cn co cp cu x17 (k+(cc x5:Int)+(cc x11:Int)) (by omega) (by omega) dy;have z2:¬(k+(cc x5:Int)+(cc x11:Int)+(cc x17:Int)<0):=by omega
 have m3:=Zpf cv cy cz d dc x23 (k+(cc x5:Int)+(cc x11:Int)+(cc x17:Int)) (by omega) (by omega) dz;have z3:¬(k+(cc x5:Int)+(cc x11:Int)+(cc x17:Int)+(cc x23:Int)<0):=by omega
 have m4:=Zpf dd dl dn dp du x29 (k+(cc x5:Int)+(cc x11:Int)+(cc x17:Int)+(cc x23:Int)) (by omega) (by omega) l;have z4:¬(k+(cc x5:Int)+(cc x11:Int)+(cc x17:Int)+(cc x23:Int)+(cc x29:Int)<0):=by omega
 simp[Zzh,tI,m0,z0,m1,z1,m2,z2,m3,z3,m4,z4]
theorem Zbw9(x0 x1 x2 x3 x4 x6 x7 x8 x9 c cc cd cl cn co cp cu cv cy cz d dc dd dl dn k:Int)(h1:0<=k):C Z3d [.agg [I x0,I x1,I x2,I x3,I x4,.t .nil,I x6,I x7,I x8,I x9,I c,.t .nil,I cc,I cd,I cl,I cn,I co,.t .nil,I cp,I cu,I cv,I cy,I cz,.t .nil,I d,I dc,I dd,I dl,I dn,.t .nil],I k] []=some (I k,[]):=by
 refine run Zbcp rfl ?_;have z:¬(k<0):=by omega
 simp[Zzh,z,h1,Zbw6]
theorem Zber(x0 k:Int):C Zbht [.agg [I x0,.t .nil],I k] []=some (I k,[]):=by
 refine run Zbsm rfl ?_;simp[Zbcn,Zbvu]
theorem Zbes(x0 k:Int)(h1:0<=k):C Zbhu [.agg [I x0,.t .nil],I k] []=some (I k,[]):=by
 refine run Zbsn rfl ?_;have z:¬(k<0):=by omega
 simp[Zbcq,z,h1,Zbvv]
theorem Zbet(e0 e1 e2 e3:Nat)(x0:List Zc)(x1:Int)(x2:List Zd)(x3:List Ze)(x4:List Zf)(k:Int)(h1:0<=k)(h2:k+(cd x0:Int)+(cc x2:Int)+(cl x3:Int)+(cn x4:Int)<=4000000000000000000)(co:SmL Zc.small x0)(cp:SmL Zd.small x2)(cu:SmL Ze.small x3)(cv:SmL Zf.small x4):C Z2y [.agg [.own 0,I x1,.own 1,.own 2,.own 3],I k] [.xarr e0 3 (x0.map Zc.c),.xarr e1 4 (x2.map Zd.c),.xarr e2 3 (x3.map Ze.c),.xarr e3 4 (x4.map Zf.c)]=some (I (k+(cd x0:Int)+(cc x2:Int)+(cl x3:Int)+(cn x4:Int)),[.xarr e0 3 ((Zcp x0 (k)).map Zc.c),.xarr e1 4 ((Zcq x2 (k+(cd x0:Int))).map Zd.c),.xarr e2 3 ((Zdg x3 (k+(cd x0:Int)+(cc x2:Int))).map Ze.c),.xarr e3 4 ((Zdi x4 (k+(cd x0:Int)+(cc x2:Int)+(cl x3:Int))).map Zf.c)]):=by
 refine runM Zbby rfl ?_;have m0:=Zbw1 e0 x0 (k) (by omega) (by omega) co;have m1:=Zbwx e1 x1 x2 (k+(cd x0:Int)) (by omega) (by omega) cp;have m2:=Zbv3 e2 x3 (k+(cd x0:Int)+(cc x2:Int)) (by omega) (by omega) cu;have m3:=Zbwg e3 x4 (k+(cd x0:Int)+(cc x2:Int)+(cl x3:Int)) (by omega) (by omega) cv;simp[Zy4,m0,m1,m2,m3]
theorem Zbxa(x1 k:Int):C Z2y [.agg [.t .nil,I x1,.t .nil,.t .nil,.t .nil],I k] []=some (I k,[]):=by
 refine run Zbby rfl ?_;simp[Zy4,Zbw2,Zbwy,Zbv4,Zbwh]
theorem Zbxb(x0:List Zc)(x1:Int)(x2:List Zd)(x3:List Ze)(x4:List Zf)(k:Int)(h1:0<=k)(h2:k+(cd x0:Int)+(cc x2:Int)+(cl x3:Int)+(cn x4:Int)<=4000000000000000000)(co:SmL Zc.small x0)(cp:SmL Zd.small x2)(cu:SmL Ze.small x3)(cv:SmL Zf.small x4):C Z3c [.agg [.t (.lst 3 ((Zcp x0 (k)).map Zc.c)),I x1,.t (.lst 4 ((Zcq x2 (k+(cd x0:Int))).map Zd.c)),.t (.lst 3 ((Zdg x3 (k+(cd x0:Int)+(cc x2:Int))).map Ze.c)),.t (.lst 4 ((Zdi x4 (k+(cd x0:Int)+(cc x2:Int)+(cl x3:Int))).map Zf.c))],I k] []=some (I (k+(cd x0:Int)+(cc x2:Int)+(cl x3:Int)+(cn x4:Int)),[]):=by
 refine run Zbco rfl ?_;have m0:=Zbw3 x0 (k) (by omega) (by omega) co;have z0:¬(k+(cd x0:Int)<0):=by omega
 have m1:=Zbwz x1 x2 (k+(cd x0:Int)) (by omega) (by omega) cp;have z1:¬(k+(cd x0:Int)+(cc x2:Int)<0):=by omega
 have m2:=Zbv6 x3 (k+(cd x0:Int)+(cc x2:Int)) (by omega) (by omega) cu;have z2:¬(k+(cd x0:Int)+(cc x2:Int)+(cl x3:Int)<0):=by omega
 have m3:=Zbwj x4 (k+(cd x0:Int)+(cc x2:Int)+(cl x3:Int)) (by omega) (by omega) cv;have z3:¬(k+(cd x0:Int)+(cc x2:Int)+(cl x3:Int)+(cn x4:Int)<0):=by omega
 simp[Zzg,tI,m0,z0,m1,z1,m2,z2,m3,z3]
theorem Zbxc(x1 k:Int)(h1:0<=k):C Z3c [.agg [.t .nil,I x1,.t .nil,.t .nil,.t .nil],I k] []=some (I k,[]):=by
 refine run Zbco rfl ?_;have z:¬(k<0):=by omega
 simp[Zzg,z,h1,Zbw4,Zbw0,Zbv7,Zbwk]
theorem Zbxd(x1 x5 x6 x7 x8 x9 c cc cd cl cn co cp cu cv cy cz d dc dd dl dn dp du dv dy dz l lc ld ll k:Int):C Z20 [.agg [.t .nil,I x1,.t .nil,.t .nil,.t .nil,I x5,I x6,I x7,I x8,I x9,.t .nil,I c,I cc,I cd,I cl,I cn,.t .nil,I co,I cp,I cu,I cv,I cy,.t .nil,I cz,I d,I dc,I dd,I dl,.t .nil,I dn,I dp,I du,I dv,I dy,.t .nil,I dz,.t .nil,I l,I lc,I ld,I ll],I k] []=some (I k,[]):=by
 refine run Zbb0 rfl ?_;simp[Zy6,Zbxa,Zbw7,Zber]
theorem Zbxe(x1 x5 x6 x7 x8 x9 c cc cd cl cn co cp cu cv cy cz d dc dd dl dn dp du dv dy dz l lc ld ll k:Int)(h1:0<=k):C Z21 [.agg [.t .nil,I x1,.t .nil,.t .nil,.t .nil,I x5,I x6,I x7,I x8,I x9,.t .nil,I c,I cc,I cd,I cl,I cn,.t .nil,I co,I cp,I cu,I cv,I cy,.t .nil,I cz,I d,I dc,I dd,I dl,.t .nil,I dn,I dp,I du,I dv,I dy,.t .nil,I dz,.t .nil,I l,I lc,I ld,I ll],I k] []=some (I k,[]):=by
 refine run Zbb1 rfl ?_;have z:¬(k<0):=by omega
 simp[Zy7,z,h1,Zbxc,Zbw9,Zbes]
theorem Zcr{n:Nat}{left:Int}(hn:n<=maxLen)(h0:0<=left)(h1:left<=1048576)(h:0<=sz1 n left):sz1 n left<=left/\(n:Int)<=left-sz1 n left:=by
 unfold maxLen at hn;have hw:IntKind.wrap .i64 (left-n)=left-n:=Zs (by omega) (by omega);unfold sz1 at h|-;rw[hw]at h|-;split at h
 .omega
 .rename_i hx;rw[if_neg hx];omega
theorem Zbeu{α:Type}{f:α->Int->Int}{n:α->Nat}{M:Int}:∀(xs:List α) (c:Int),(∀x∈xs,∀l,0<=l->l<=M->0<=f x l->f x l<=l/\(n x:Int)<=16+16*(l-f x l))->0<=c->c<=M->0<=Zba f xs c->Zba f xs c<=c/\(cc n xs:Int)<=16*(xs.length:Int)+16*(c-Zba f xs c)
 |[],c,_,_,_,h=>by simp[Zba,cc]
 |x::xs,c,hf,h0,h1,h=>by
  unfold Zba at h|-;split at h
  .omega
  .rename_i hx;rw[if_neg hx];obtain⟨h2,h3⟩:=hf x (by simp) c h0 h1 (by omega);obtain⟨h4,h5⟩:=Zbeu xs (f x c) (λy hy=>hf y (by simp[hy])) (by omega) (by omega) h;have e:cc n (x::xs)=n x+cc n xs:=rfl;rw[e,Yn];omega
theorem Zf6{α:Type}{f:α->Int->Int}{n:α->Nat}{xs:List α}{left:Int}(hn:xs.length<=maxLen)(hf:∀x∈xs,∀l,0<=l->l<=1048576->0<=f x l->f x l<=l/\(n x:Int)<=16+16*(l-f x l))(h0:0<=left)(h1:left<=1048576)(h:0<=szL f xs left) :
  szL f xs left<=left/\(c n xs:Int)<=16*(left-szL f xs left):=by
 unfold szL Zt at h|-;split at h
 .omega
 .rename_i hx;rw[if_neg hx];have a:=Zcr hn h0 h1 (by omega);have b:=Zbeu xs _ hf (by omega) (by omega) h;omega
theorem Zz1{α:Type}{n:α->Nat}{c:Nat}(h:∀x,n x=c):∀xs:List α,cnL n xs=c*xs.length
 |[]=>rfl
 |x::xs=>by
  have e:cnL n (x::xs)=n x+cnL n xs:=rfl;rw[e,h,Zz1 h xs,Yn,Nat.mul_succ,Nat.add_comm]
theorem Zbev(x:List Int)(l:Int)(hx:x.length<=maxLen)(h0:0<=l)(h1:l<=1048576)(h:0<=szI x l):szI x l<=l/\(c x:Int)<=16+16*(l-szI x l):=by
 have a:=Zcr hx h0 h1 h;unfold c;have e:szI x l=sz1 x.length l:=rfl;rw[e];omega
def nt_Table(x:Zc):Nat:=Zbj x.Rows
theorem Zc.ct(x:Zc)(l:Int)(hx:x.okay)(h0:0<=l)(h1:l<=1048576)(h:0<=x.sz l):x.sz l<=l/\(cc x:Int)<=16*(l-x.sz l):=by
 unfold Zc.sz at h|-;simp only[Zt]at h|-;split at h
 .omega
 rename_i q0;rw[if_neg q0];have s0:=Zcr hx.1 h0 h1 (Yc.1 q0);split at h
 .omega
 rename_i q1;rw[if_neg q1];have s1:=Zf6 (f:=szI) (n:=Zeo) hx.2.2.1 (λy hy l a b c=>Zbev y l (hx.2.2.2 y hy).1 a b c) (by omega) (by omega) (Yc.1 q1);refine⟨by omega,?_⟩;unfold cc;have v0:Zbj x.Rows=cnL Zeo x.Rows:=rfl;omega
theorem Zbxf(x:Zc)(l:Int)(hx:x.okay)(h0:0<=l)(h1:l<=1048576)(h:0<=x.sz l):x.sz l<=l/\(c x:Int)<=16+16*(l-x.sz l):=by
 have a:=Zc.ct x l hx h0 h1 h;unfold nt_Table at a;unfold c;omega
def Zbxg(x:Zh):Nat:=Ze2 x.Tables
theorem Zh.ct(x:Zh)(l:Int)(hx:x.okay)(h0:0<=l)(h1:l<=1048576)(h:0<=x.sz l):x.sz l<=l/\(cc x:Int)<=16*(l-x.sz l):=by
 unfold Zh.sz at h|-;simp only[Zt]at h|-;split at h
 .omega
 rename_i q0;rw[if_neg q0];have s0:=Zf6 (n:=Zep) hx.1 (λy hy l a b c=>Zbxf y l (hx.2 y hy) a b c) h0 h1 (Yc.1 q0);refine⟨by omega,?_⟩;unfold cc;have v0:Ze2 x.Tables=cnL Zep x.Tables:=rfl;omega
def nt_Atom(x:Atom):Nat:=x.Vars.length
theorem Atom.ct(x:Atom)(l:Int)(hx:x.okay)(h0:0<=l)(h1:l<=1048576)(h:0<=x.sz l):x.sz l<=l/\(c x:Int)<=16*(l-x.sz l):=by
 unfold Atom.sz at h|-;simp only[Zt]at h|-;split at h
 .omega
 rename_i q0;rw[if_neg q0];have s0:=Zcr hx.1 h0 h1 (Yc.1 q0);split at h
 .omega
 rename_i q1;rw[if_neg q1];have s1:=Zcr hx.2.1 (by omega) (by omega) (Yc.1 q1);refine⟨by omega,?_⟩;unfold c;omega
theorem Zbxh(x:Atom)(l:Int)(hx:x.okay)(h0:0<=l)(h1:l<=1048576)(h:0<=x.sz l):x.sz l<=l/\(c x:Int)<=16+16*(l-x.sz l):=by
 have a:=Atom.ct x l hx h0 h1 h;unfold nt_Atom at a;unfold c;omega
def nt_Query(x:Zbc):Nat:=Zla x.Atoms
theorem Zbc.ct(x:Zbc)(l:Int)(hx:x.okay)(h0:0<=l)(h1:l<=1048576)(h:0<=x.sz l):x.sz l<=l/\(cc x:Int)<=16*(l-x.sz l):=by
 unfold Zbc.sz at h|-;simp only[Zt]at h|-;split at h
 .omega
 rename_i q0;rw[if_neg q0];have s0:=Zf6 (n:=Ztj) hx.2.1 (λy hy l a b c=>Zbxh y l (hx.2.2 y hy) a b c) h0 h1 (Yc.1 q0);refine⟨by omega,?_⟩;unfold cc;have v0:Zla x.Atoms=cnL Ztj x.Atoms:=rfl;omega
def Zbxi(x:Ze):Nat:=x.From.length
theorem Ze.ct(x:Ze)(l:Int)(hx:x.okay)(h0:0<=l)(h1:l<=1048576)(h:0<=x.sz l):x.sz l<=l/\(c x:Int)<=16*(l-x.sz l):=by
 unfold Ze.sz at h|-;simp only[Zt]at h|-;split at h
 .omega
 rename_i q0;rw[if_neg q0];have s0:=Zcr hx.1 h0 h1 (Yc.1 q0);split at h
 .omega
 rename_i q1;rw[if_neg q1];have s1:=Zcr hx.2.1.1 (by omega) (by omega) (Yc.1 q1);refine⟨by omega,?_⟩;unfold c;omega
theorem Zbxj(x:Ze)(l:Int)(hx:x.okay)(h0:0<=l)(h1:l<=1048576)(h:0<=x.sz l):x.sz l<=l/\(c x:Int)<=16+16*(l-x.sz l):=by
 have a:=Ze.ct x l hx h0 h1 h;unfold Zbxi at a;unfold c;omega
def Zbxk(x:Zf):Nat:=0
theorem Zf.ct(x:Zf)(l:Int)(hx:x.okay)(h0:0<=l)(h1:l<=1048576)(h:0<=x.sz l):x.sz l<=l/\(c x:Int)<=16*(l-x.sz l):=by
 unfold Zf.sz at h|-;simp only[Zt]at h|-;split at h
 .omega
 rename_i q0;rw[if_neg q0];have s0:=Zcr hx.1 h0 h1 (Yc.1 q0);split at h
 .omega
 rename_i q1;rw[if_neg q1];have s1:=Zcr hx.2.2.1 (by omega) (by omega) (Yc.1 q1);refine⟨by omega,?_⟩;unfold c;omega
theorem Zbxl(x:Zf)(l:Int)(hx:x.okay)(h0:0<=l)(h1:l<=1048576)(h:0<=x.sz l):x.sz l<=l/\(c x:Int)<=16+16*(l-x.sz l):=by
 have a:=Zf.ct x l hx h0 h1 h;unfold Zbxk at a;unfold c;omega
def Zbxm(x:Zj):Nat:=x.Columns.length+Zbj x.Values+x.Counts.length
theorem Zj.ct(x:Zj)(l:Int)(hx:x.okay)(h0:0<=l)(h1:l<=1048576)(h:0<=x.sz l):x.sz l<=l/\(cc x:Int)<=16*(l-x.sz l):=by
 unfold Zj.sz at h|-;simp only[Zt]at h|-;split at h
 .omega
 rename_i q0;rw[if_neg q0];have s0:=Zcr hx.1.1 h0 h1 (Yc.1 q0);split at h
 .omega
 rename_i q1;rw[if_neg q1];have s1:=Zf6 (f:=szI) (n:=Zeo) hx.2.1.1 (λy hy l a b c=>Zbev y l (hx.2.1.2 y hy).1 a b c) (by omega) (by omega) (Yc.1 q1);split at h
 .omega
 rename_i q2;rw[if_neg q2];have s2:=Zcr hx.2.2.1 (by omega) (by omega) (Yc.1 q2);refine⟨by omega,?_⟩;unfold cc;have v0:Zbj x.Values=cnL Zeo x.Values:=rfl;omega
theorem Zbxn(x:Zj)(l:Int)(hx:x.okay)(h0:0<=l)(h1:l<=1048576)(h:0<=x.sz l):x.sz l<=l/\(c x:Int)<=16+16*(l-x.sz l):=by
 have a:=Zj.ct x l hx h0 h1 h;unfold Zbxm at a;unfold c;omega
def Zbxo(x:Zd):Nat:=Zdu x.Groups
theorem Zd.ct(x:Zd)(l:Int)(hx:x.okay)(h0:0<=l)(h1:l<=1048576)(h:0<=x.sz l):x.sz l<=l/\(cc x:Int)<=16*(l-x.sz l):=by
 unfold Zd.sz at h|-;simp only[Zt]at h|-;split at h
 .omega
 rename_i q0;rw[if_neg q0];have s0:=Zcr hx.1 h0 h1 (Yc.1 q0);split at h
 .omega
 rename_i q1;rw[if_neg q1];have s1:=Zf6 (n:=Zfl) hx.2.2.2.1 (λy hy l a b c=>Zbxn y l (hx.2.2.2.2 y hy) a b c) (by omega) (by omega) (Yc.1 q1);refine⟨by omega,?_⟩;unfold cc;have v0:Zdu x.Groups=cnL Zfl x.Groups:=rfl;omega
theorem Zbxp(x:Zd)(l:Int)(hx:x.okay)(h0:0<=l)(h1:l<=1048576)(h:0<=x.sz l):x.sz l<=l/\(c x:Int)<=16+16*(l-x.sz l):=by
 have a:=Zd.ct x l hx h0 h1 h;unfold Zbxo at a;unfold c;omega
def Zbxq(x:Zk):Nat:=Ze3 x.Tables
theorem Zk.ct(x:Zk)(l:Int)(hx:x.okay)(h0:0<=l)(h1:l<=1048576)(h:0<=x.sz l):x.sz l<=l/\(cc x:Int)<=16*(l-x.sz l):=by
 unfold Zk.sz at h|-;simp only[Zt]at h|-;split at h
 .omega
 rename_i q0;rw[if_neg q0];have s0:=Zf6 (n:=Zeq) hx.2.1 (λy hy l a b c=>Zbxp y l (hx.2.2 y hy) a b c) h0 h1 (Yc.1 q0);refine⟨by omega,?_⟩;unfold cc;have v0:Ze3 x.Tables=cnL Zeq x.Tables:=rfl;omega
def Zbew(x:Zl):Nat:=Ze2 x.Zh.Tables+Ze3 x.Zk.Tables+Zha x.Dependencies+Zhd x.Inclusions
theorem Zl.ct(x:Zl)(l:Int)(hx:x.okay)(h0:0<=l)(h1:l<=1048576)(h:0<=x.sz l):x.sz l<=l/\(cc x:Int)<=16*(l-x.sz l):=by
 unfold Zl.sz at h|-;simp only[Zt]at h|-;split at h
 .omega
 rename_i q0;rw[if_neg q0];have s0:=Zh.ct x.Zh _ hx.1 h0 h1 (Yc.1 q0);split at h
 .omega
 rename_i q1;rw[if_neg q1];have s1:=Zk.ct x.Zk _ ⟨hx.2.1,hx.2.2.1⟩ (by omega) (by omega) (Yc.1 q1);split at h
 .omega
 rename_i q2;rw[if_neg q2];have s2:=Zf6 (n:=Ze0) hx.2.2.2.1.1 (λy hy l a b c=>Zbxj y l (hx.2.2.2.1.2 y hy) a b c) (by omega) (by omega) (Yc.1 q2);split at h
 .omega
 rename_i q3;rw[if_neg q3];have s3:=Zf6 (n:=Ze1) hx.2.2.2.2.1 (λy hy l a b c=>Zbxl y l (hx.2.2.2.2.2 y hy) a b c) (by omega) (by omega) (Yc.1 q3);refine⟨by omega,?_⟩;unfold cc;have v0:Zbxg x.Zh=Ze2 x.Zh.Tables:=rfl;have v1:Zbxq x.Zk=Ze3 x.Zk.Tables:=rfl;have v2:Ze2 x.Zh.Tables=cnL Zep x.Zh.Tables:=rfl;have v3:Ze3 x.Zk.Tables=cnL Zeq x.Zk.Tables:=rfl;have v4:Zha x.Dependencies=cnL Ze0 x.Dependencies:=rfl;have v5:Zhd x.Inclusions=cnL Ze1 x.Inclusions:=rfl;omega
def nt_Box(x:Box):Nat:=x.Low.length+x.High.length
theorem Box.ct(x:Box)(l:Int)(hx:x.okay)(h0:0<=l)(h1:l<=1048576)(h:0<=x.sz l):x.sz l<=l/\(c x:Int)<=16*(l-x.sz l):=by
 unfold Box.sz at h|-;simp only[Zt]at h|-;split at h
 .omega
 rename_i q0;rw[if_neg q0];have s0:=Zcr hx.1.1 h0 h1 (Yc.1 q0);split at h
 .omega
 rename_i q1;rw[if_neg q1];have s1:=Zcr hx.2.1 (by omega) (by omega) (Yc.1 q1);refine⟨by omega,?_⟩;unfold c;omega
theorem Ze4(xs:List Zb):Zbf xs=2*xs.length:=Zz1 (λ_=>rfl) xs
def Zpg(x:Zm):Nat:=Zbf x.Steps
theorem Zm.ct(x:Zm)(l:Int)(hx:x.okay)(h0:0<=l)(h1:l<=1048576)(h:0<=x.sz l):x.sz l<=l/\(c x:Int)<=16*(l-x.sz l):=by
 unfold Zm.sz at h|-;simp only[Zt]at h|-;split at h
 .omega
 rename_i q0;rw[if_neg q0];have s0:=Zcr hx.2.2.2.2.2.1 h0 h1 (Yc.1 q0);refine⟨by omega,?_⟩;unfold c;have v0:=Ze4 x.Steps;omega
def Zbex(x:Za):Nat:=Zbf x.Scan.Steps+Zbf x.Sort_.Steps+Zbf x.Hash.Steps+Zbf x.Merge.Steps+Zbf x.Nested.Steps
theorem Za.ct(x:Za)(l:Int)(hx:x.okay)(h0:0<=l)(h1:l<=1048576)(h:0<=x.sz l):x.sz l<=l/\(c x:Int)<=16*(l-x.sz l):=by
 unfold Za.sz at h|-;simp only[Zt]at h|-;split at h
 .omega
 rename_i q0;rw[if_neg q0];have s0:=Zm.ct x.Scan _ ⟨hx.1,hx.2.1,hx.2.2.1,hx.2.2.2.1,hx.2.2.2.2.1,hx.2.2.2.2.2.1⟩ h0 h1 (Yc.1 q0);split at h
 .omega
 rename_i q1;rw[if_neg q1];have s1:=Zm.ct x.Sort_ _ ⟨hx.2.2.2.2.2.2.1,hx.2.2.2.2.2.2.2.1,hx.2.2.2.2.2.2.2.2.1,hx.2.2.2.2.2.2.2.2.2.1,hx.2.2.2.2.2.2.2.2.2.2.1,hx.2.2.2.2.2.2.2.2.2.2.2.1⟩ (by omega) (by omega) (Yc.1 q1);split at h
 .omega
 rename_i q2;rw[if_neg q2];have s2:=Zm.ct x.Hash _ ⟨hx.2.2.2.2.2.2.2.2.2.2.2.2.1,hx.2.2.2.2.2.2.2.2.2.2.2.2.2.1,hx.2.2.2.2.2.2.2.2.2.2.2.2.2.2.1,hx.2.2.2.2.2.2.2.2.2.2.2.2.2.2.2.1,hx.2.2.2.2.2.2.2.2.2.2.2.2.2.2.2.2.1,hx.2.2.2.2.2.2.2.2.2.2.2.2.2.2.2.2.2.1⟩ (by omega) (by omega) (Yc.1 q2);split at h
 .omega
 rename_i q3;rw[if_neg q3];have s3:=Zm.ct x.Merge _ ⟨hx.2.2.2.2.2.2.2.2.2.2.2.2.2.2.2.2.2.2.1,hx.2.2.2.2.2.2.2.2.2.2.2.2.2.2.2.2.2.2.2.1,hx.2.2.2.2.2.2.2.2.2.2.2.2.2.2.2.2.2.2.2.2.1,hx.2.2.2.2.2.2.2.2.2.2.2.2.2.2.2.2.2.2.2.2.2.1,hx.2.2.2.2.2.2.2.2.2.2.2.2.2.2.2.2.2.2.2.2.2.2.1,hx.2.2.2.2.2.2.2.2.2.2.2.2.2.2.2.2.2.2.2.2.2.2.2.1⟩ (by omega) (by omega) (Yc.1 q3);split at h
 .omega
 rename_i q4;rw[if_neg q4];have s4:=Zm.ct x.Nested _ ⟨hx.2.2.2.2.2.2.2.2.2.2.2.2.2.2.2.2.2.2.2.2.2.2.2.2.1,hx.2.2.2.2.2.2.2.2.2.2.2.2.2.2.2.2.2.2.2.2.2.2.2.2.2.1,hx.2.2.2.2.2.2.2.2.2.2.2.2.2.2.2.2.2.2.2.2.2.2.2.2.2.2.1,hx.2.2.2.2.2.2.2.2.2.2.2.2.2.2.2.2.2.2.2.2.2.2.2.2.2.2.2.1,hx.2.2.2.2.2.2.2.2.2.2.2.2.2.2.2.2.2.2.2.2.2.2.2.2.2.2.2.2.1,hx.2.2.2.2.2.2.2.2.2.2.2.2.2.2.2.2.2.2.2.2.2.2.2.2.2.2.2.2.2⟩ (by omega) (by omega) (Yc.1 q4);refine⟨by omega,?_⟩;unfold c;have v0:Zpg x.Scan=Zbf x.Scan.Steps:=rfl;have v1:Zpg x.Sort_=Zbf x.Sort_.Steps:=rfl;have v2:Zpg x.Hash=Zbf x.Hash.Steps:=rfl;have v3:Zpg x.Merge=Zbf x.Merge.Steps:=rfl;have v4:Zpg x.Nested=Zbf x.Nested.Steps:=rfl;have v5:=Ze4 x.Scan.Steps;have v6:=Ze4 x.Sort_.Steps;have v7:=Ze4 x.Hash.Steps;have v8:=Ze4 x.Merge.Steps;have v9:=Ze4 x.Nested.Steps;omega
theorem Zz2(xs:List Zby):Zi1 xs=3*xs.length:=Zz1 (λ_=>rfl) xs
def nt_Plan(x:Plan):Nat:=Zi1 x.Steps
theorem Plan.ct(x:Plan)(l:Int)(hx:x.okay)(h0:0<=l)(h1:l<=1048576)(h:0<=x.sz l):x.sz l<=l/\(c x:Int)<=16*(l-x.sz l):=by
 unfold Plan.sz at h|-;simp only[Zt]at h|-;split at h
 .omega
 rename_i q0;rw[if_neg q0];have s0:=Zcr hx.1 h0 h1 (Yc.1 q0);refine⟨by omega,?_⟩;unfold c;have v0:=Zz2 x.Steps;omega
def Zbxr(x:Region):Nat:=Zi1 x.Plan.Steps+x.Box.Low.length+x.Box.High.length
theorem Region.ct(x:Region)(l:Int)(hx:x.okay)(h0:0<=l)(h1:l<=1048576)(h:0<=x.sz l):x.sz l<=l/\(c x:Int)<=16*(l-x.sz l):=by
 unfold Region.sz at h|-;simp only[Zt]at h|-;split at h
 .omega
 rename_i q0;rw[if_neg q0];have s0:=Plan.ct x.Plan _ hx.1 h0 h1 (Yc.1 q0);split at h
 .omega
 rename_i q1;rw[if_neg q1];have s1:=Box.ct x.Box _ ⟨hx.2.1,hx.2.2.1⟩ (by omega) (by omega) (Yc.1 q1);refine⟨by omega,?_⟩;unfold c;have v0:nt_Plan x.Plan=Zi1 x.Plan.Steps:=rfl;have v1:nt_Box x.Box=x.Box.Low.length+x.Box.High.length:=rfl;have v2:=Zz2 x.Plan.Steps;omega
def Zbxs(x:Zbn):Nat:=Zla x.Zbc.Atoms+Zi1 x.Region.Plan.Steps+x.Region.Box.Low.length+x.Region.Box.High.length
theorem Zbn.ct(x:Zbn)(l:Int)(hx:x.okay)(h0:0<=l)(h1:l<=1048576)(h:0<=x.sz l):x.sz l<=l/\(c x:Int)<=16*(l-x.sz l):=by
 unfold Zbn.sz at h|-;simp only[Zt]at h|-;split at h
 .omega
 rename_i q0;rw[if_neg q0];have s0:=Zbc.ct x.Zbc _ ⟨hx.1,hx.2.1⟩ h0 h1 (Yc.1 q0);split at h
 .omega
 rename_i q1;rw[if_neg q1];have s1:=Region.ct x.Region _ ⟨hx.2.2.1,hx.2.2.2.1,hx.2.2.2.2.1,hx.2.2.2.2.2.1⟩ (by omega) (by omega) (Yc.1 q1);refine⟨by omega,?_⟩;unfold c;have v0:nt_Query x.Zbc=Zla x.Zbc.Atoms:=rfl;have v1:Zbxr x.Region=Zi1 x.Region.Plan.Steps+x.Region.Box.Low.length+x.Region.Box.High.length:=rfl;have v2:Zla x.Zbc.Atoms=cnL Ztj x.Zbc.Atoms:=rfl;have v3:=Zz2 x.Region.Plan.Steps;omega
theorem Zbxt(x:Zbn)(l:Int)(hx:x.okay)(h0:0<=l)(h1:l<=1048576)(h:0<=x.sz l):x.sz l<=l/\(c x:Int)<=16+16*(l-x.sz l):=by
 have a:=Zbn.ct x l hx h0 h1 h;unfold Zbxs at a;unfold c;omega
def Zbxu(x:Zce):Nat:=Zpd x.Entries
theorem Zce.ct(x:Zce)(l:Int)(hx:x.okay)(h0:0<=l)(h1:l<=1048576)(h:0<=x.sz l):x.sz l<=l/\(cc x:Int)<=16*(l-x.sz l):=by
 unfold Zce.sz at h|-;simp only[Zt]at h|-;split at h
 .omega
 rename_i q0;rw[if_neg q0];have s0:=Zf6 (n:=Ztk) hx.2.1 (λy hy l a b c=>Zbxt y l (hx.2.2 y hy) a b c) h0 h1 (Yc.1 q0);refine⟨by omega,?_⟩;unfold cc;have v0:Zpd x.Entries=cnL Ztk x.Entries:=rfl;omega
def nt_Session(x:Zc7):Nat:=Ze2 x.Zl.Zh.Tables+Ze3 x.Zl.Zk.Tables+Zha x.Zl.Dependencies+Zhd x.Zl.Inclusions+Zbf x.Za.Scan.Steps+Zbf x.Za.Sort_.Steps+Zbf x.Za.Hash.Steps+Zbf x.Za.Merge.Steps+Zbf x.Za.Nested.Steps+Zpd x.Cache.Entries
theorem Zc7.ct(x:Zc7)(l:Int)(hx:x.okay)(h0:0<=l)(h1:l<=1048576)(h:0<=x.sz l):x.sz l<=l/\(c x:Int)<=16*(l-x.sz l):=by
 unfold Zc7.sz at h|-;simp only[Zt]at h|-;split at h
 .omega
 rename_i q0;rw[if_neg q0];have s0:=Zl.ct x.Zl _ ⟨hx.1,hx.2.1,hx.2.2.1,hx.2.2.2.1,hx.2.2.2.2.1⟩ h0 h1 (Yc.1 q0);split at h
 .omega
 rename_i q1;rw[if_neg q1];have s1:=Za.ct x.Za _ ⟨hx.2.2.2.2.2.1,hx.2.2.2.2.2.2.1,hx.2.2.2.2.2.2.2.1,hx.2.2.2.2.2.2.2.2.1,hx.2.2.2.2.2.2.2.2.2.1,hx.2.2.2.2.2.2.2.2.2.2.1,hx.2.2.2.2.2.2.2.2.2.2.2.1,hx.2.2.2.2.2.2.2.2.2.2.2.2.1,hx.2.2.2.2.2.2.2.2.2.2.2.2.2.1,hx.2.2.2.2.2.2.2.2.2.2.2.2.2.2.1,hx.2.2.2.2.2.2.2.2.2.2.2.2.2.2.2.1,hx.2.2.2.2.2.2.2.2.2.2.2.2.2.2.2.2.1,hx.2.2.2.2.2.2.2.2.2.2.2.2.2.2.2.2.2.1,hx.2.2.2.2.2.2.2.2.2.2.2.2.2.2.2.2.2.2.1,hx.2.2.2.2.2.2.2.2.2.2.2.2.2.2.2.2.2.2.2.1,hx.2.2.2.2.2.2.2.2.2.2.2.2.2.2.2.2.2.2.2.2.1,hx.2.2.2.2.2.2.2.2.2.2.2.2.2.2.2.2.2.2.2.2.2.1,hx.2.2.2.2.2.2.2.2.2.2.2.2.2.2.2.2.2.2.2.2.2.2.1,hx.2.2.2.2.2.2.2.2.2.2.2.2.2.2.2.2.2.2.2.2.2.2.2.1,hx.2.2.2.2.2.2.2.2.2.2.2.2.2.2.2.2.2.2.2.2.2.2.2.2.1,hx.2.2.2.2.2.2.2.2.2.2.2.2.2.2.2.2.2.2.2.2.2.2.2.2.2.1,hx.2.2.2.2.2.2.2.2.2.2.2.2.2.2.2.2.2.2.2.2.2.2.2.2.2.2.1,hx.2.2.2.2.2.2.2.2.2.2.2.2.2.2.2.2.2.2.2.2.2.2.2.2.2.2.2.1,hx.2.2.2.2.2.2.2.2.2.2.2.2.2.2.2.2.2.2.2.2.2.2.2.2.2.2.2.2.1,hx.2.2.2.2.2.2.2.2.2.2.2.2.2.2.2.2.2.2.2.2.2.2.2.2.2.2.2.2.2.1,hx.2.2.2.2.2.2.2.2.2.2.2.2.2.2.2.2.2.2.2.2.2.2.2.2.2.2.2.2.2.2.1,hx.2.2.2.2.2.2.2.2.2.2.2.2.2.2.2.2.2.2.2.2.2.2.2.2.2.2.2.2.2.2.2.1,hx.2.2.2.2.2.2.2.2.2.2.2.2.2.2.2.2.2.2.2.2.2.2.2.2.2.2.2.2.2.2.2.2.1,hx.2.2.2.2.2.2.2.2.2.2.2.2.2.2.2.2.2.2.2.2.2.2.2.2.2.2.2.2.2.2.2.2.2.1,hx.2.2.2.2.2.2.2.2.2.2.2.2.2.2.2.2.2.2.2.2.2.2.2.2.2.2.2.2.2.2.2.2.2.2.1⟩ (by omega) (by omega) (Yc.1 q1);split at h
 .omega
 rename_i q2;rw[if_neg q2];have s2:=Zce.ct x.Cache _ ⟨hx.2.2.2.2.2.2.2.2.2.2.2.2.2.2.2.2.2.2.2.2.2.2.2.2.2.2.2.2.2.2.2.2.2.2.2.1,hx.2.2.2.2.2.2.2.2.2.2.2.2.2.2.2.2.2.2.2.2.2.2.2.2.2.2.2.2.2.2.2.2.2.2.2.2.1⟩ (by omega) (by omega) (Yc.1 q2);refine⟨by omega,?_⟩;unfold c;have v0:Zbew x.Zl=Ze2 x.Zl.Zh.Tables+Ze3 x.Zl.Zk.Tables+Zha x.Zl.Dependencies+Zhd x.Zl.Inclusions:=rfl;have v1:Zbex x.Za=Zbf x.Za.Scan.Steps+Zbf x.Za.Sort_.Steps+Zbf x.Za.Hash.Steps+Zbf x.Za.Merge.Steps+Zbf x.Za.Nested.Steps:=rfl;have v2:Zbxu x.Cache=Zpd x.Cache.Entries:=rfl;have v3:Ze2 x.Zl.Zh.Tables=cnL Zep x.Zl.Zh.Tables:=rfl;have v4:Ze3 x.Zl.Zk.Tables=cnL Zeq x.Zl.Zk.Tables:=rfl;have v5:Zha x.Zl.Dependencies=cnL Ze0 x.Zl.Dependencies:=rfl;have v6:Zhd x.Zl.Inclusions=cnL Ze1 x.Zl.Inclusions:=rfl;have v7:=Ze4 x.Za.Scan.Steps;have v8:=Ze4 x.Za.Sort_.Steps;have v9:=Ze4 x.Za.Hash.Steps;have v10:=Ze4 x.Za.Merge.Steps;have v11:=Ze4 x.Za.Nested.Steps;have v12:Zpd x.Cache.Entries=cnL Ztk x.Cache.Entries:=rfl;omega
theorem Zbxv:C Z3e [.t .nil,.t .nil] []=some (Bo true,[]):=by
 refine run Zbc3 rfl ?_;simp[Zs3,Zi Zow.eq_1]
theorem Zbxw:C Z3f [.t .nil,.t .nil] []=some (Bo true,[]):=by
 refine run Zbc4 rfl ?_;simp[Zs4,Zi Zox.eq_1]
theorem Zbxx:C Z24 [.t .nil,.t .nil] []=some (Bo true,[]):=by
 refine run Zbcf rfl ?_;simp[Zsy,Zi Zos.eq_1]
theorem Zbxy:C Z25 [.t .nil,.t .nil] []=some (Bo true,[]):=by
 refine run Zbcg rfl ?_;simp[Zsz,Zi Zot.eq_1]
theorem Zbxz:C Z3g [.t .nil,.t .nil] []=some (Bo true,[]):=by
 refine run Zbc7 rfl ?_;simp[Zs5,Zi Zoy.eq_1]
theorem Zbx0:C Zbh5 [.t .nil,.t .nil] []=some (Bo true,[]):=by
 refine run Zbsy rfl ?_;simp[Zbc2,Zi Zbc1.eq_1]
theorem Zbx1:C Z22 [.agg [.t .nil],.agg [.t .nil]] []=some (Bo true,[]):=by
 refine run Zbcd rfl ?_;simp[Zy8,Zbxv]
theorem Zbx2(v:Int):C Z23 [.agg [I v,.t .nil],.agg [I v,.t .nil]] []=some (Bo true,[]):=by
 refine run Zbce rfl ?_;simp[Zy9,Zbxw]
theorem Zbx3(v:Int):C Z2w [.agg [.t .nil,I v,.t .nil,.t .nil,.t .nil],.agg [.t .nil,I v,.t .nil,.t .nil,.t .nil]] []=some (Bo true,[]):=by
 refine run Zbbw rfl ?_;simp[Zy2,Zbx1,Zbx2,Zbxx,Zbxy]
theorem Zbx4:C Z26 [.agg [I 0,I 0,I 0,I 0,I 0,.t .nil],.agg [I 0,I 0,I 0,I 0,I 0,.t .nil]] []=some (Bo true,[]):=by
 refine run Zbch rfl ?_;simp[Zza,Zbxz]
theorem Zbx5:C Z2x [.agg [I 0,I 0,I 0,I 0,I 0,.t .nil,I 0,I 0,I 0,I 0,I 0,.t .nil,I 0,I 0,I 0,I 0,I 0,.t .nil,I 0,I 0,I 0,I 0,I 0,.t .nil,I 0,I 0,I 0,I 0,I 0,.t .nil],.agg [I 0,I 0,I 0,I 0,I 0,.t .nil,I 0,I 0,I 0,I 0,I 0,.t .nil,I 0,I 0,I 0,I 0,I 0,.t .nil,I 0,I 0,I 0,I 0,I 0,.t .nil,I 0,I 0,I 0,I 0,I 0,.t .nil]] []=some (Bo true,[]):=by
 refine run Zbbx rfl ?_;simp[Zy3,Zbx4]
theorem Zbey(x:Int):C Zbhs [.agg [I x,.t .nil],.agg [I x,.t .nil]] []=some (Bo true,[]):=by
 refine run Zbsl rfl ?_;simp[Zbcc,Zbx0]
theorem Zbx6:C Z2v [.agg [.t .nil,I 0,.t .nil,.t .nil,.t .nil,I 0,I 0,I 0,I 0,I 0,.t .nil,I 0,I 0,I 0,I 0,I 0,.t .nil,I 0,I 0,I 0,I 0,I 0,.t .nil,I 0,I 0,I 0,I 0,I 0,.t .nil,I 0,I 0,I 0,I 0,I 0,.t .nil,I 0,.t .nil,I 0,I 0,I 0,I 0],.agg [.t .nil,I 0,.t .nil,.t .nil,.t .nil,I 0,I 0,I 0,I 0,I 0,.t .nil,I 0,I 0,I 0,I 0,I 0,.t .nil,I 0,I 0,I 0,I 0,I 0,.t .nil,I 0,I 0,I 0,I 0,I 0,.t .nil,I 0,I 0,I 0,I 0,I 0,.t .nil,I 0,.t .nil,I 0,I 0,I 0,I 0]] []=some (Bo true,[]):=by
 refine run Zbbv rfl ?_;simp[Zy1,Zbx3,Zbx5,Zbey]
theorem c_eqSes(s:Zl)(m:Za)(k r l q p:Int)(g0:SmL Zc.small s.Zh.Tables)(g2:SmL Zd.small s.Zk.Tables)(g3:SmL Ze.small s.Dependencies)(g4:SmL Zf.small s.Inclusions)(h1:SmA m.Scan.Steps)(h2:SmA m.Sort_.Steps)(h3:SmA m.Hash.Steps)(h4:SmA m.Merge.Steps)(h5:SmA m.Nested.Steps):C Z2v [.agg [L 3 (s.Zh.Tables.map Zc.c),I s.Zk.Version,L 4 (s.Zk.Tables.map Zd.c),L 3 (s.Dependencies.map Ze.c),L 4 (s.Inclusions.map Zf.c),I m.Scan.Fixed,I m.Scan.Zn,I m.Scan.Zo,I m.Scan.Zp,I m.Scan.Zq,L 2 (m.Scan.Steps.map Zb.c),I m.Sort_.Fixed,I m.Sort_.Zn,I m.Sort_.Zo,I m.Sort_.Zp,I m.Sort_.Zq,L 2 (m.Sort_.Steps.map Zb.c),I m.Hash.Fixed,I m.Hash.Zn,I m.Hash.Zo,I m.Hash.Zp,I m.Hash.Zq,L 2 (m.Hash.Steps.map Zb.c),I m.Merge.Fixed,I m.Merge.Zn,I m.Merge.Zo,I m.Merge.Zp,I m.Merge.Zq,L 2 (m.Merge.Steps.map Zb.c),I m.Nested.Fixed,I m.Nested.Zn,I m.Nested.Zo,I m.Nested.Zp,I m.Nested.Zq,L 2 (m.Nested.Steps.map Zb.c),I k,.t .nil,I r,I l,I q,I p],.agg [L 3 (s.Zh.Tables.map Zc.c),I s.Zk.Version,L 4 (s.Zk.Tables.map Zd.c),L 3 (s.Dependencies.map Ze.c),L 4 (s.Inclusions.map Zf.c),I m.Scan.Fixed,I m.Scan.Zn,I m.Scan.Zo,I m.Scan.Zp,I m.Scan.Zq,L 2 (m.Scan.Steps.map Zb.c),I m.Sort_.Fixed,I m.Sort_.Zn,I m.Sort_.Zo,I m.Sort_.Zp,I m.Sort_.Zq,L 2 (m.Sort_.Steps.map Zb.c),I m.Hash.Fixed,I m.Hash.Zn,I m.Hash.Zo,I m.Hash.Zp,I m.Hash.Zq,L 2 (m.Hash.Steps.map Zb.c),I m.Merge.Fixed,I m.Merge.Zn,I m.Merge.Zo,I m.Merge.Zp,I m.Merge.Zq,L 2 (m.Merge.Steps.map Zb.c),I m.Nested.Fixed,I m.Nested.Zn,I m.Nested.Zo,I m.Nested.Zp,I m.Nested.Zq,L 2 (m.Nested.Steps.map Zb.c),I k,.t .nil,I r,I l,I q,I p]] []=some (Bo true,[]):=by
 refine run Zbbv rfl ?_;have eS:=Zbee s.Zh.Tables s.Zk.Version s.Zk.Tables s.Dependencies s.Inclusions s.Zh.Tables s.Zk.Version s.Zk.Tables s.Dependencies s.Inclusions g0 g2 g3 g4;have eM:=Zbef m.Scan.Fixed m.Scan.Zn m.Scan.Zo m.Scan.Zp m.Scan.Zq m.Scan.Steps m.Sort_.Fixed m.Sort_.Zn m.Sort_.Zo m.Sort_.Zp m.Sort_.Zq m.Sort_.Steps m.Hash.Fixed m.Hash.Zn m.Hash.Zo m.Hash.Zp m.Hash.Zq m.Hash.Steps m.Merge.Fixed m.Merge.Zn m.Merge.Zo m.Merge.Zp m.Merge.Zq m.Merge.Steps m.Nested.Fixed m.Nested.Zn m.Nested.Zo m.Nested.Zp m.Nested.Zq m.Nested.Steps m.Scan.Fixed m.Scan.Zn m.Scan.Zo m.Scan.Zp m.Scan.Zq m.Scan.Steps m.Sort_.Fixed m.Sort_.Zn m.Sort_.Zo m.Sort_.Zp m.Sort_.Zq m.Sort_.Steps m.Hash.Fixed m.Hash.Zn m.Hash.Zo m.Hash.Zp m.Hash.Zq m.Hash.Steps m.Merge.Fixed m.Merge.Zn m.Merge.Zo m.Merge.Zp m.Merge.Zq m.Merge.Steps m.Nested.Fixed m.Nested.Zn m.Nested.Zo m.Nested.Zp m.Nested.Zq m.Nested.Steps h1 h2 h3 h4 h5;simp at eS eM;simp[Zy1,eS,eM,Zbey]
theorem Zbx7(e0 e1 e2 e3 e4 e5 e6 e7 e8:Nat)(x0:List Zc)(x1:Int)(x2:List Zd)(x3:List Ze)(x4:List Zf)(x5 x6 x7 x8 x9:Int)(x10:List Zb)(cp cu cv cy cz:Int)(x16:List Zb)(d dc dd dl dn:Int)(x22:List Zb)(dp du dv dy dz:Int)(x28:List Zb)(l lc ld ll ln:Int)(x34:List Zb)(lo nn np nu nv k:Int)(h1:0<=k)(h2:k+(co x0:Int)+(cd x2:Int)+(cl x3:Int)+(cn x4:Int)+(cc x10:Int)+(cc x16:Int)+(cc x22:Int)+(cc x28:Int)+(cc x34:Int)<=4000000000000000000)(n:SmL Zc.small x0)(nc:SmL Zd.small x2)(nd:SmL Ze.small x3)(nl:SmL Zf.small x4)(lp:SmA x10)(lu:SmA x16)(lv:SmA x22)(ly:SmA x28)(lz:SmA x34):C Z20 [.agg [.own 0,I x1,.own 1,.own 2,.own 3,I x5,I x6,I x7,I x8,I x9,.own 4,I cp,I cu,I cv,I cy,I cz,.own 5,I d,I dc,I dd,I dl,I dn,.own 6,I dp,I du,I dv,I dy,I dz,.own 7,I l,I lc,I ld,I ll,I ln,.own 8,I lo,.t .nil,I nn,I np,I nu,I nv],I k] [.xarr e0 3 (x0.map Zc.c),.xarr e1 4 (x2.map Zd.c),.xarr e2 3 (x3.map Ze.c),.xarr e3 4 (x4.map Zf.c),.xarr e4 2 (x10.map Zb.c),.xarr e5 2 (x16.map Zb.c),.xarr e6 2 (x22.map Zb.c),.xarr e7 2 (x28.map Zb.c),.xarr e8 2 (x34.map Zb.c)]=some (I (k+(co x0:Int)+(cd x2:Int)+(cl x3:Int)+(cn x4:Int)+(cc x10:Int)+(cc x16:Int)+(cc x22:Int)+(cc x28:Int)+(cc x34:Int)),[.xarr e0 3 ((Zcp x0 (k)).map Zc.c),.xarr e1 4 ((Zcq x2 (k+(co x0:Int))).map Zd.c),.xarr e2 3 ((Zdg x3 (k+(co x0:Int)+(cd x2:Int))).map Ze.c),.xarr e3 4 ((Zdi x4 (k+(co x0:Int)+(cd x2:Int)+(cl x3:Int))).map Zf.c),.xarr e4 2 ((Zbe x10 (k+(co x0:Int)+(cd x2:Int)+(cl x3:Int)+(cn x4:Int))).map Zb.c),.xarr e5 2 ((Zbe x16 (k+(co x0:Int)+(cd x2:Int)+(cl x3:Int)+(cn x4:Int)+(cc x10:Int))).map Zb.c),.xarr e6 2 ((Zbe x22 (k+(co x0:Int)+(cd x2:Int)+(cl x3:Int)+(cn x4:Int)+(cc x10:Int)+(cc x16:Int))).map Zb.c),.xarr e7 2 ((Zbe x28 (k+(co x0:Int)+(cd x2:Int)+(cl x3:Int)+(cn x4:Int)+(cc x10:Int)+(cc x16:Int)+(cc x22:Int))).map Zb.c),.xarr e8 2 ((Zbe x34 (k+(co x0:Int)+(cd x2:Int)+(cl x3:Int)+(cn x4:Int)+(cc x10:Int)+(cc x16:Int)+(cc x22:Int)+(cc x28:Int))).map Zb.c)]):=by
 refine runM Zbb0 rfl ?_;have m0:=Zbet e0 e1 e2 e3 x0 x1 x2 x3 x4 (k) (by omega) (by omega) n nc nd nl;have m1:=Zbeq e4 e5 e6 e7 e8 x5 x6 x7 x8 x9 x10 cp cu cv cy cz x16 d dc dd dl dn x22 dp du dv dy dz x28 l lc ld ll ln x34 (k+(co x0:Int)+(cd x2:Int)+(cl x3:Int)+(cn x4:Int)) (by omega) (by omega) lp lu lv ly lz;have m2:=Zber lo (k+(co x0:Int)+(cd x2:Int)+(cl x3:Int)+(cn x4:Int)+(cc x10:Int)+(cc x16:Int)+(cc x22:Int)+(cc x28:Int)+(cc x34:Int));have hr:List.range 9=[0,1,2,3,4,5,6,7,8]:=rfl;simp[Zy6,m0,m1,m2,hr]
theorem Zbx8(x0:List Zc)(x1:Int)(x2:List Zd)(x3:List Ze)(x4:List Zf)(x5 x6 x7 x8 x9:Int)(x10:List Zb)(cp cu cv cy cz:Int)(x16:List Zb)(d dc dd dl dn:Int)(x22:List Zb)(dp du dv dy dz:Int)(x28:List Zb)(l lc ld ll ln:Int)(x34:List Zb)(lo nn np nu nv k:Int)(h1:0<=k)(h2:k+(co x0:Int)+(cd x2:Int)+(cl x3:Int)+(cn x4:Int)+(cc x10:Int)+(cc x16:Int)+(cc x22:Int)+(cc x28:Int)+(cc x34:Int)<=4000000000000000000)(n:SmL Zc.small x0)(nc:SmL Zd.small x2)(nd:SmL Ze.small x3)(nl:SmL Zf.small x4)(lp:SmA x10)(lu:SmA x16)(lv:SmA x22)(ly:SmA x28)(lz:SmA x34):C Z21 [.agg [.t (.lst 3 ((Zcp x0 (k)).map Zc.c)),I x1,.t (.lst 4 ((Zcq x2 (k+(co x0:Int))).map Zd.c)),.t (.lst 3 ((Zdg x3 (k+(co x0:Int)+(cd x2:Int))).map Ze.c)),.t (.lst 4 ((Zdi x4 (k+(co x0:Int)+(cd x2:Int)+(cl x3:Int))).map Zf.c)),I x5,I x6,I x7,I x8,I x9,.t (.lst 2 ((Zbe x10 (k+(co x0:Int)+(cd x2:Int)+(cl x3:Int)+(cn x4:Int))).map Zb.c)),I cp,I cu,I cv,I cy,I cz,.t (.lst 2 ((Zbe x16 (k+(co x0:Int)+(cd x2:Int)+(cl x3:Int)+(cn x4:Int)+(cc x10:Int))).map Zb.c)),I d,I dc,I dd,I dl,I dn,.t (.lst 2 ((Zbe x22 (k+(co x0:Int)+(cd x2:Int)+(cl x3:Int)+(cn x4:Int)+(cc x10:Int)+(cc x16:Int))).map Zb.c)),I dp,I du,I dv,I dy,I dz,.t (.lst 2 ((Zbe x28 (k+(co x0:Int)+(cd x2:Int)+(cl x3:Int)+(cn x4:Int)+(cc x10:Int)+(cc x16:Int)+(cc x22:Int))).map Zb.c)),I l,I lc,I ld,I ll,I ln,.t (.lst 2 ((Zbe x34 (k+(co x0:Int)+(cd x2:Int)+(cl x3:Int)+(cn x4:Int)+(cc x10:Int)+(cc x16:Int)+(cc x22:Int)+(cc x28:Int))).map Zb.c)),I lo,.t .nil,I nn,I np,I nu,I nv],I k] []=some (I (k+(co x0:Int)+(cd x2:Int)+(cl x3:Int)+(cn x4:Int)+(cc x10:Int)+(cc x16:Int)+(cc x22:Int)+(cc x28:Int)+(cc x34:Int)),[]):=by
 refine run Zbb1 rfl ?_;have m0:=Zbxb x0 x1 x2 x3 x4 (k) (by omega) (by omega) n nc nd nl;have z0:¬(k+(co x0:Int)+(cd x2:Int)+(cl x3:Int)+(cn x4:Int)<0):=by omega
 have m1:=Zbw8 x5 x6 x7 x8 x9 x10 cp cu cv cy cz x16 d dc dd dl dn x22 dp du dv dy dz x28 l lc ld ll ln x34 (k+(co x0:Int)+(cd x2:Int)+(cl x3:Int)+(cn x4:Int)) (by omega) (by omega) lp lu lv ly lz;have z1:¬(k+(co x0:Int)+(cd x2:Int)+(cl x3:Int)+(cn x4:Int)+(cc x10:Int)+(cc x16:Int)+(cc x22:Int)+(cc x28:Int)+(cc x34:Int)<0):=by omega
 have m2:=Zbes lo (k+(co x0:Int)+(cd x2:Int)+(cl x3:Int)+(cn x4:Int)+(cc x10:Int)+(cc x16:Int)+(cc x22:Int)+(cc x28:Int)+(cc x34:Int)) (by omega);have z2:¬(k+(co x0:Int)+(cd x2:Int)+(cl x3:Int)+(cn x4:Int)+(cc x10:Int)+(cc x16:Int)+(cc x22:Int)+(cc x28:Int)+(cc x34:Int)<0):=by omega
 simp[Zy7,tI,m0,z0,m1,z1,m2,z2]
theorem Zbfc(s:Zl)(m:Za)(r l:Int)(hs:s.okay)(hm:m.okay)(hr:OkI r)(hl:OkI l):C Zbhd [.agg (s.c.map .t),.agg (m.c.map .t),I r,I l] []=some (Bo true,[]):=by
 refine run Zbr6 rfl ?_;have e1:=λl=>Zbu9 s.Zh.Tables s.Zk.Version s.Zk.Tables s.Dependencies s.Inclusions l (hs.1) (hs.2.2.1) (hs.2.2.2.1) (hs.2.2.2.2)
 by_cases h1:Zl.sz s (1048576)<0
 .simp[Zor,e1,h1]
 obtain⟨b1,g1⟩:=Zl.sz_ok s _ hs (by omega) (by omega) (by omega:0<=Zl.sz s (1048576));have u1:=(Zl.ct s _ hs (by omega) (by omega) (by omega:0<=Zl.sz s (1048576))).2;unfold Zbew at u1;have e2:=λl=>Zbvj m.Scan.Fixed m.Scan.Zn m.Scan.Zo m.Scan.Zp m.Scan.Zq m.Scan.Steps m.Sort_.Fixed m.Sort_.Zn m.Sort_.Zo m.Sort_.Zp m.Sort_.Zq m.Sort_.Steps m.Hash.Fixed m.Hash.Zn m.Hash.Zo m.Hash.Zp m.Hash.Zq m.Hash.Steps m.Merge.Fixed m.Merge.Zn m.Merge.Zo m.Merge.Zp m.Merge.Zq m.Merge.Steps m.Nested.Fixed m.Nested.Zn m.Nested.Zo m.Nested.Zp m.Nested.Zq m.Nested.Steps l
 by_cases h2:Za.sz m (Zl.sz s (1048576))<0
 .simp[Zor,e1,h1,e2,h2]
 obtain⟨b2,g2⟩:=Za.sz_ok m _ hm (by omega) (by omega) (by omega:0<=Za.sz m (Zl.sz s (1048576)));have u2:=(Za.ct m _ hm (by omega) (by omega) (by omega:0<=Za.sz m (Zl.sz s (1048576)))).2;unfold Zbex at u2;have t1:=Zbu8 s.Zh.Tables s.Zk.Version s.Zk.Tables s.Dependencies s.Inclusions (g1.1) (g1.2.1) (g1.2.2.1) (g1.2.2.2);have q1:=λy0 y1 y2 y3 y4=>Zbee s.Zh.Tables s.Zk.Version s.Zk.Tables s.Dependencies s.Inclusions y0 y1 y2 y3 y4 (g1.1) (g1.2.1) (g1.2.2.1) (g1.2.2.2)
 have t2:=Zbvi m.Scan.Fixed m.Scan.Zn m.Scan.Zo m.Scan.Zp m.Scan.Zq m.Scan.Steps m.Sort_.Fixed m.Sort_.Zn m.Sort_.Zo m.Sort_.Zp m.Sort_.Zq m.Sort_.Steps m.Hash.Fixed m.Hash.Zn m.Hash.Zo m.Hash.Zp m.Hash.Zq m.Hash.Steps m.Merge.Fixed m.Merge.Zn m.Merge.Zo m.Merge.Zp m.Merge.Zq m.Merge.Steps m.Nested.Fixed m.Nested.Zn m.Nested.Zo m.Nested.Zp m.Nested.Zq m.Nested.Steps (g2.1) (g2.2.1) (g2.2.2.1) (g2.2.2.2.1) (g2.2.2.2.2);have q2:=λy0 y1 y2 y3 y4 y5 y6 y7 y8 y9 y10 y11 y12 y13 y14 y15 y16 y17 y18 y19 y20 y21 y22 y23 y24 y25 y26 y27 y28 y29=>Zbef m.Scan.Fixed m.Scan.Zn m.Scan.Zo m.Scan.Zp m.Scan.Zq m.Scan.Steps m.Sort_.Fixed m.Sort_.Zn m.Sort_.Zo m.Sort_.Zp m.Sort_.Zq m.Sort_.Steps m.Hash.Fixed m.Hash.Zn m.Hash.Zo m.Hash.Zp m.Hash.Zq m.Hash.Steps m.Merge.Fixed m.Merge.Zn m.Merge.Zo m.Merge.Zp m.Merge.Zq m.Merge.Steps m.Nested.Fixed m.Nested.Zn m.Nested.Zo m.Nested.Zp m.Nested.Zq m.Nested.Steps y0 y1 y2 y3 y4 y5 y6 y7 y8 y9 y10 y11 y12 y13 y14 y15 y16 y17 y18 y19 y20 y21 y22 y23 y24 y25 y26 y27 y28 y29 (g2.1) (g2.2.1) (g2.2.2.1) (g2.2.2.2.1) (g2.2.2.2.2)
 have m1:=λa0 a1 a2 a3=>Zbet a0 a1 a2 a3 s.Zh.Tables s.Zk.Version s.Zk.Tables s.Dependencies s.Inclusions (1) (by omega) (by omega) (g1.1) (g1.2.1) (g1.2.2.1) (g1.2.2.2)
 have m2:=λa0 a1 a2 a3 a4=>Zbeq a0 a1 a2 a3 a4 m.Scan.Fixed m.Scan.Zn m.Scan.Zo m.Scan.Zp m.Scan.Zq m.Scan.Steps m.Sort_.Fixed m.Sort_.Zn m.Sort_.Zo m.Sort_.Zp m.Sort_.Zq m.Sort_.Steps m.Hash.Fixed m.Hash.Zn m.Hash.Zo m.Hash.Zp m.Hash.Zq m.Hash.Steps m.Merge.Fixed m.Merge.Zn m.Merge.Zo m.Merge.Zp m.Merge.Zq m.Merge.Steps m.Nested.Fixed m.Nested.Zn m.Nested.Zo m.Nested.Zp m.Nested.Zq m.Nested.Steps (1+(Ze2 s.Zh.Tables:Int)+(Ze3 s.Zk.Tables:Int)+(Zha s.Dependencies:Int)+(Zhd s.Inclusions:Int)) (by omega) (by omega) (g2.1) (g2.2.1) (g2.2.2.1) (g2.2.2.2.1) (g2.2.2.2.2)
 have zk:¬(1+(Ze2 s.Zh.Tables:Int)+(Ze3 s.Zk.Tables:Int)+(Zha s.Dependencies:Int)+(Zhd s.Inclusions:Int)+(Zbf m.Scan.Steps:Int)+(Zbf m.Sort_.Steps:Int)+(Zbf m.Hash.Steps:Int)+(Zbf m.Merge.Steps:Int)+(Zbf m.Nested.Steps:Int)<0):=by omega
 have nm:LeM m:=⟨by have:=g2.1;omega,by have:=g2.2.1;omega,by have:=g2.2.2.1;omega,by have:=g2.2.2.2.1;omega,by have:=g2.2.2.2.2;omega⟩;have nd:LfD s.Zh:=⟨by have:=g1.1.1;omega,λt ht=>⟨by have:=(g1.1.2 t ht).2.1;omega,λr hr=>by have:=(g1.1.2 t ht).2.2 r hr;omega⟩⟩;have nk:LeK s.Zk:=⟨by have:=g1.2.1.1;omega,λx hx=>⟨by have:=(g1.2.1.2 x hx).2.1;omega,λy hy=>have k:=(g1.2.1.2 x hx).2.2 y hy;⟨by have:=k.1;omega,⟨by have:=k.2.1.1;omega,λr hr=>by have:=k.2.1.2 r hr;omega⟩,by have:=k.2.2;omega⟩⟩⟩;have nf:LfF s.Dependencies:=⟨by have:=g1.2.2.1.1;omega,λx hx=>by have:=(g1.2.2.1.2 x hx).2;omega⟩;have nx:Lf s.Inclusions:=by have:=g1.2.2.2.1;omega
 have nM:LfM m:=⟨by have:=g2.1;omega,by have:=g2.2.1;omega,by have:=g2.2.2.1;omega,by have:=g2.2.2.2.1;omega,by have:=g2.2.2.2.2;omega⟩;have s0:=Zbr5 s m r l ⟨nd,nk,nf,nx⟩ nM;have s1:=Zbr4 s m r l ⟨nd,nk,nf,nx⟩ nM;unfold Zsd at s0;unfold Zrh at s1;simp only[Zl.c_def,Za.c_def,tI,tII,Yl,Yck]at s0 s1;unfold newF at s0 s1;by_cases ok:Zg4 s m 0 r l 0 0=true
 .rw[if_pos ok]at s0 s1;simp at s0 s1;have v1:=c_eqSes s m 0 r l 0 0 (g1.1) (g1.2.1) (g1.2.2.1) (g1.2.2.2) (g2.1) (g2.2.1) (g2.2.2.1) (g2.2.2.2.1) (g2.2.2.2.2);have v2:=λa0 a1 a2 a3 a4 a5 a6 a7 a8=>Zbx7 a0 a1 a2 a3 a4 a5 a6 a7 a8 s.Zh.Tables s.Zk.Version s.Zk.Tables s.Dependencies s.Inclusions m.Scan.Fixed m.Scan.Zn m.Scan.Zo m.Scan.Zp m.Scan.Zq m.Scan.Steps m.Sort_.Fixed m.Sort_.Zn m.Sort_.Zo m.Sort_.Zp m.Sort_.Zq m.Sort_.Steps m.Hash.Fixed m.Hash.Zn m.Hash.Zo m.Hash.Zp m.Hash.Zq m.Hash.Steps m.Merge.Fixed m.Merge.Zn m.Merge.Zo m.Merge.Zp m.Merge.Zq m.Merge.Steps m.Nested.Fixed m.Nested.Zn m.Nested.Zo m.Nested.Zp m.Nested.Zq m.Nested.Steps 0 r l 0 0 1 (by omega) (by omega) (g1.1) (g1.2.1) (g1.2.2.1) (g1.2.2.2) (g2.1) (g2.2.1) (g2.2.2.1) (g2.2.2.2.1) (g2.2.2.2.2)
  have v3:=Zbx8 s.Zh.Tables s.Zk.Version s.Zk.Tables s.Dependencies s.Inclusions m.Scan.Fixed m.Scan.Zn m.Scan.Zo m.Scan.Zp m.Scan.Zq m.Scan.Steps m.Sort_.Fixed m.Sort_.Zn m.Sort_.Zo m.Sort_.Zp m.Sort_.Zq m.Sort_.Steps m.Hash.Fixed m.Hash.Zn m.Hash.Zo m.Hash.Zp m.Hash.Zq m.Hash.Steps m.Merge.Fixed m.Merge.Zn m.Merge.Zo m.Merge.Zp m.Merge.Zq m.Merge.Steps m.Nested.Fixed m.Nested.Zn m.Nested.Zo m.Nested.Zp m.Nested.Zq m.Nested.Steps 0 r l 0 0 1 (by omega) (by omega) (g1.1) (g1.2.1) (g1.2.2.1) (g1.2.2.2) (g2.1) (g2.2.1) (g2.2.2.1) (g2.2.2.2.1) (g2.2.2.2.2);have z2:¬(1+(Ze2 s.Zh.Tables:Int)+(Ze3 s.Zk.Tables:Int)+(Zha s.Dependencies:Int)+(Zhd s.Inclusions:Int)+(Zbf m.Scan.Steps:Int)+(Zbf m.Sort_.Steps:Int)+(Zbf m.Hash.Steps:Int)+(Zbf m.Merge.Steps:Int)+(Zbf m.Nested.Steps:Int)<0):=by omega
  simp at v1 v2 v3;simp +decide[Zor,e1,h1,e2,h2,t1,q1,t2,q2,m1,m2,zk,s0,s1,v1,v2,v3,z2]
 .rw[if_neg ok]at s0 s1;simp +decide[Zor,e1,h1,e2,h2,t1,q1,t2,q2,m1,m2,zk,s0,s1,Zbx6,Zbxd,Zbxe]
end Go.Proofs.YtooakifnnhhnhaaGreat
namespace Go.Proofs.YtooakifnnhhnhaaGreat
open Go.RowKit Go.Lib
theorem dropEq{a b:List Int}{k:Nat}(h1:k<a.length)(h2:k<b.length):decide (a.drop k=b.drop k)=(decide (a[k]=b[k]) && decide (a.drop (k+1)=b.drop (k+1))):=by
 rw[Bool.eq_iff_iff];simp only[Bool.and_eq_true,decide_eq_true_eq];rw[List.drop_eq_getElem_cons h1,List.drop_eq_getElem_cons h2,List.cons.injEq]
theorem eq_walk(v1 v2:Value)(a b:List Int)(w:World)(h1:Zf2 w v1 a)(h2:Zf2 w v2 b)(c:a.length<2305843009213693952)(cc:b.length<2305843009213693952) :
  Calls Tryz.prog 247 #[v1,v2] w λe w'=>e=.returned (.bool (decide (a=b)))/\∃q,w'=w.drewN q:=by
 obtain⟨p1,c1,rfl,r1⟩:=h1;obtain⟨p2,c2,rfl,r2⟩:=h2;have mixed:Tryz.prog.follows Departure.mixedOrders=true:=by kernel_rfl
 by_cases hlen:a.length=b.length
 .obtain⟨n,hna⟩:∃n:Nat,a.length=n:=⟨_,rfl⟩;have hnb:b.length=n:=by omega
  rw[hna,hnb];have HN:Aside (a.length=n/\b.length=n):=⟨hna,hnb⟩;have hln:n<2305843009213693952:=by omega
  clear hna hnb hlen c cc;generalize hR:decide (a=b)=R;have HR:Aside (decide (a.drop 0=b.drop 0)=R):=hR;clear hR
  go_enter Tryz.func247,Tryz.ntmps247
  go_wp2
  go_loopg [5,13] n (λgg _ s13 wr=>∃kk q:Nat,kk<=n/\n-kk<=gg/\s13=.int .i64 kk/\wr=w.drewN q/\Aside (a.length=n/\b.length=n)/\Aside (decide (a.drop kk=b.drop kk)=R))
  case atStart=>exact⟨0,0,Nat.zero_le _,by omega,rfl,rfl,HN,HR⟩
  case round =>
   obtain⟨kk,q,hkk,hg,rfl,rfl,A,B⟩:=hrel;have hA:=A.out;obtain⟨hA1,hA2⟩:=hA;by_cases hltn:kk<n
   .have hltz:(kk:Int)<(n:Int):=by omega
    have hlta:kk<a.length:=by omega
    have hlt:kk<b.length:=by omega
    obtain⟨g1,o1,rfl,d1⟩:=r1 kk hlta;obtain⟨g2,o2,rfl,d2⟩:=r2 kk hlt;have S:Aside (decide (a.drop kk=b.drop kk)=(decide (a[kk]=b[kk]) && decide (a.drop (kk+1)=b.drop (kk+1)))):=by
     exact dropEq hlta hlt
    clear r1 r2 hA1 hA2;generalize a[kk]=x at d1 S;generalize b[kk]=y at d2 S;by_cases hz:x=y
    .subst hz
     go_wp2_with fail
     go_region_o
     go_wp2
     go_roundg (n-(kk+1))
     case measure=>omega
     case rel =>
      refine⟨kk+1,q+1,by omega,by omega,by go_num,rfl,A,(show Aside _ from ?_)⟩;have:=S.out;rw[B.out]at this;show decide (a.drop (kk+1)=b.drop (kk+1))=R;simpa using this.symm
    .have hr:R=false:=by rw[<-B.out,S.out];simp[hz]
     go_wp2_with fail
     go_region_o
     go_wp2
     go_ret
     exact⟨by subst hr;rfl,q+1,rfl⟩
   .have hltz:¬(kk:Int)<(n:Int):=by omega
    have hr:R=true:=by
     rw[<-B.out,show b.drop kk=[]from List.drop_of_length_le (by omega),show a.drop kk=[]from List.drop_of_length_le (by omega)];simp
    clear r1 r2 hA1 hA2
    go_wp2
    go_ret
    exact⟨by subst hr;rfl,q,rfl⟩
 .have hne:decide (a=b)=false:=by
   rw[decide_eq_false_iff_not];intro e;exact hlen (by rw[e])
  have hlz:¬(a.length:Int)=(b.length:Int):=by omega
  rw[hne];clear hne r1 r2
  go_enter Tryz.func247,Tryz.ntmps247
  go_wp2
  go_ret
  exact⟨rfl,0,rfl⟩
theorem eqf_walk(v1 v2:Value)(a b:List Int)(w:World)(h1:Zf2 w v1 a)(h2:Zf2 w v2 b)(c:a.length<2305843009213693952)(cc:b.length<2305843009213693952) :
  Calls Tryz.prog 273 #[v1,v2] w λe w'=>e=.returned (.bool (decide (a=b)))/\∃q,w'=w.drewN q:=by
 have hc:=eq_walk v1 v2 a b w h1 h2 c cc;generalize decide (a=b)=R at hc|-;obtain⟨p1,c1,rfl,r1⟩:=h1;obtain⟨p2,c2,rfl,r2⟩:=h2;clear r1 r2
 go_enter Tryz.func273,Tryz.ntmps273
 go_wp2_with (refine hc.mono ?_;rintro e w' ⟨rfl,q,rfl⟩)
 go_ret
 exact⟨rfl,q,rfl⟩
end Go.Proofs.YtooakifnnhhnhaaGreat
namespace Go.Proofs.YtooakifnnhhnhaaGreat
open Go.Sort
section
variable{α β:Type}[Inhabited α][DecidableEq β](f:α->β)
def nbk(p:α):List α->List α
 |[]=>[]
 |x::l=>if f x=f p then nbk x l else x::nbk x l
def nb:List α->List α
 |[]=>[]
 |x::l=>x::nbk f x l
omit [Inhabited α] in
theorem Zbez:∀(l:List α) (p y:α),nbk f p (l++[y])=nbk f p l++if f y=f (l.getLastD p)then[]else[y]
 |[],p,y=>by by_cases h:f y=f p<;>simp[nbk,h]
 |x::l,p,y=>by
  rw[List.cons_append,nbk,nbk,Zbez l x y,List.getLastD_cons];split<;>rfl
omit [Inhabited α] in
theorem nb_snoc:∀(l:List α) (p y:α),l≠[]->nb f (l++[y])=nb f l++if f y=f (l.getLastD p)then[]else[y]
 |[],p,y,h=>absurd rfl h
 |x::l,p,y,_=>by
  rw[List.cons_append,nb,nb,Zbez,List.getLastD_cons];rfl
omit [Inhabited α] in
theorem Zz3:∀(l:List α) (p:α),(nbk f p l).Sublist l
 |[],p=>.slnil
 |x::l,p=>by
  rw[nbk];split
  .exact(Zz3 l x).cons _
  .exact(Zz3 l x).cons_cons _
omit [Inhabited α] in
theorem nb_sub:∀l:List α,(nb f l).Sublist l
 |[]=>.slnil
 |x::l=>(Zz3 f l x).cons_cons _
theorem Ztl{l:List α}{m:Nat}(h0:0<m)(h:m<l.length):nb f (l.take (m+1))=nb f (l.take m)++if f l[m]! = f l[m-1]! then[]else[l[m]!]:=by
 have hl:(l.take m).getLastD default=l[m-1]:=by
  rw[List.getLastD_eq_getLast?,List.getLast?_take,if_neg (by omega),List.getElem?_eq_getElem (show m-1<l.length by omega)];rfl
 rw[List.take_succ_eq_append_getElem h,nb_snoc f _ default _ (by intro e;have:=congrArg List.length e;rw[List.length_take,List.length_nil]at this;omega),hl,getElem!_pos l m h,getElem!_pos l (m-1) (by omega)]
structure CInv (d:Array α) (m k:Nat) (e:Array α):Prop where
 len:(nb f (d.toList.take m)).length=k
 lt:k<m
 row:e.toList=nb f (d.toList.take m)++d.toList.drop k
omit [Inhabited α] in
theorem CInv.size{d e:Array α}{m k:Nat}(I:CInv f d m k e)(hm:m<=d.size):e.size=d.size:=by
 have h1:=I.lt;rw[<-Array.length_toList,I.row,List.length_append,I.len,List.length_drop,Array.length_toList];omega
theorem CInv.read{d e:Array α}{m k:Nat}(I:CInv f d m k e)(hm:m<=d.size){j:Nat}(hj:k<=j)(hd:j<d.size):e[j]! = d[j]!:=by
 have hs:=I.size f hm;have h:=I.len;have h2:e.toList[j]?=d.toList[j]?:=by
  rw[I.row,List.getElem?_append_right (by omega),List.getElem?_drop,h];congr 1;omega
 rw[getElem!_pos e j (by omega),getElem!_pos d j hd];rw[Array.getElem?_toList,Array.getElem?_toList,Array.getElem?_eq_getElem (by omega),Array.getElem?_eq_getElem hd]at h2;exact Option.some.inj h2
theorem Zhg(d:Array α)(j:Nat):d.toList[j]! = d[j]!:=by simp[Array.getElem!_eq_getD,Array.getD_eq_getD_getElem?]
theorem CInv.start{d:Array α}{k:Nat}(h0:0<k)(hk:k<d.size)(ha:nb f (d.toList.take k)=d.toList.take k)(he:f d[k]! = f d[k-1]!):CInv f d (k+1) k d:=by
 have h:=Ztl f h0 (show k<d.toList.length from hk);rw[Zhg,Zhg,if_pos he,List.append_nil,ha]at h;refine⟨?_,Nat.lt_succ_self _,?_⟩
 .rw[h,List.length_take,Array.length_toList];omega
 .rw[h,List.take_append_drop]
theorem CInv.skip{d e:Array α}{m k:Nat}(I:CInv f d m k e)(hm:m<d.size)(he:f d[m]! = f d[m-1]!):CInv f d (m+1) k e:=by
 have hl:=I.lt;have h:=Ztl f (show 0<m by omega) (show m<d.toList.length from hm);rw[Zhg,Zhg,if_pos he,List.append_nil]at h;exact⟨by rw[h];exact I.len,by omega,by rw[h];exact I.row⟩
theorem CInv.keep{d e:Array α}{m k:Nat}(I:CInv f d m k e)(hm:m<d.size)(he:¬f d[m]! = f d[m-1]!):CInv f d (m+1) (k+1) (e.setIfInBounds k d[m]!):=by
 have hl:=I.lt;have hn:=I.len;have h:=Ztl f (show 0<m by omega) (show m<d.toList.length from hm);rw[Zhg,Zhg,if_neg he]at h;refine⟨by rw[h,List.length_append,hn];rfl,by omega,?_⟩;rw[Array.toList_setIfInBounds,I.row,h,List.set_append_right _ _ (by omega),hn,Nat.sub_self,List.drop_eq_getElem_cons (show k<d.toList.length by rw[Array.length_toList];omega),List.set_cons_zero];simp
omit [Inhabited α] in
theorem CInv.fill{d e:Array α}{k:Nat}(I:CInv f d d.size k e)(z:α):(Lib.lay e k (List.replicate (d.size-k) z)).toList=nb f d.toList++List.replicate (d.size-k) z:=by
 have hs:=I.size f (Nat.le_refl _);have hl:=I.lt;have hr:=I.row;have hn:=I.len;rw[show d.toList.take d.size=d.toList from List.take_of_length_le (by simp)]at hr hn;apply List.ext_getElem?;intro j;rw[Array.getElem?_toList,Lib.lay_get? _ _ _ _ (by simp;omega),List.length_replicate];by_cases h1:j<k
 .rw[if_neg (by omega),List.getElem?_append_left (by omega),<-Array.getElem?_toList,hr,List.getElem?_append_left (by omega)]
 .rw[List.getElem?_append_right (by omega),hn];by_cases h2:j<d.size
  .rw[if_pos (by omega)]
  .rw[if_neg (by omega),Array.getElem?_eq_none (by omega),List.getElem?_eq_none (by simp;omega)]
theorem nb_next{d:Array α}{k:Nat}(h0:0<k)(hk:k<d.size)(ha:nb f (d.toList.take k)=d.toList.take k)(he:¬f d[k]! = f d[k-1]!):nb f (d.toList.take (k+1))=d.toList.take (k+1):=by
 have h:=Ztl f h0 (show k<d.toList.length from hk);rw[Zhg,Zhg,if_neg he,ha]at h;rw[h,List.take_succ_eq_append_getElem (show k<d.toList.length from hk)];simp[getElem!_pos,hk]
omit [Inhabited α] in
theorem nb_one{d:Array α}(h:d.size<=1):nb f d.toList=d.toList:=by
 obtain⟨l⟩:=d
 match l with
 |[]=>rfl
 |[a]=>rfl
 |a::b::l=>simp at h
omit [Inhabited α] in
theorem nb_one1(d:Array α):nb f (d.toList.take 1)=d.toList.take 1:=by
 obtain⟨l⟩:=d
 cases l with
 |nil=>rfl
 |cons a l=>simp[nb,nbk]
end
theorem nb_cpt{α:Type}(f:α->List Int):∀l:List α,(nb f l).map f=cptR (l.map f)
 |[]=>rfl
 |[a]=>rfl
 |a::b::l=>by
  have ih:=nb_cpt f (b::l);rw[nb]at ih;rw[nb,nbk,List.map_cons,List.map_cons,List.map_cons,cptR];rw[List.map_cons,List.map_cons]at ih;by_cases e:f b=f a
  .rw[if_pos e,if_pos e.symm,<-ih,e]
  .rw[if_neg e,if_neg (λh=>e h.symm),<-ih];rfl
end Go.Proofs.YtooakifnnhhnhaaGreat
