/-
  Parts of the proofs for this seat: FA L32.
-/
import Derived.Test.YtgnfoghkbpkgjaaGreatP15
set_option linter.unusedSimpArgs false
set_option linter.unusedVariables false
set_option maxRecDepth 100000
set_option maxHeartbeats 4000000
namespace Go.Proofs.YtgnfoghkbpkgjaaGreat
open Go.AM
theorem l_toIntS(xs:List Int)(h:SmA xs)(fr:List Fr):∀i,i≤xs.length→EvL C fr [0,3,4] Ztw ⟨[(0,L 1 (xs.map ic)),(3,.own 0),(4,I i)],[[]],[.arr Zby 1 true (fill ic [.int .i64 0] xs i)]⟩ =
  EvX C fr (.x 0) ⟨[(0,L 1 (xs.map ic)),(3,.own 0),(4,I xs.length),(11,Bo false)],[[]],[.arr Zby 1 true (xs.map ic)]⟩:=by
 have hl:xs.length≤4294967296:=h;refine down xs.length ?_ ?_
 ·rw[Ze Ztw.eq_1];simp[Zgv]
 ·intro i hi ih;rw[Ze Ztw.eq_1,←ih];have h1:=Zgx (f:=ic) (z:=[.int .i64 0]) hi;have h3:=Zgw (f:=ic) (z:=[.int .i64 0]) (Ycn hi);have h4:IntKind.wrap .i64 ((i:Int)+1)=(i:Int)+1:=Zt (by omega) (by omega);simp at h1;simp[hi,h3,h4,h1]
theorem Zps(xs:List Int)(h:SmA xs):C Zbib [L 1 (xs.map ic)] []=some (.own 0,[.arr Zby 1 true (xs.map ic)]):=by
 refine run Zbti rfl ?_;have hl:xs.length≤4294967296:=h;have h1:∀b,b≤4096→xs.length*b≤room:=fun b hb=>Ym (Ybs hl hb) (by decide)
 have h2:(xs.length:Int)≤140737488355328:=by omega
 have h3:=fun fr=>l_toIntS xs h fr 0 (Ya _)
 simp[Zgu]at h3;simp[Zben,h1,h2,h3]
theorem l_eqIntS(xs ys:List Int)(h:SmA xs)(hl:ys.length=xs.length)(fr:List Fr):∀i,i≤xs.length→EvL C fr [0,1,5] Zts ⟨[(0,L 1 (xs.map ic)),(1,L 1 (ys.map ic)),(5,I i)],[[]],[]⟩ =
  if xs.drop i=ys.drop i then EvX C fr (.x 0) ⟨[(0,L 1 (xs.map ic)),(1,L 1 (ys.map ic)),(5,I xs.length),(14,Bo false)],[[]],[]⟩else EvX C fr .r ⟨[(4,Bo false)],[[]],[]⟩:=by
 have hm:xs.length≤4294967296:=h;refine down xs.length ?_ ?_
 ·rw[Ze Zts.eq_1];simp[hl,Yb0]
 ·intro i hi ih;have hi2:i<ys.length:=by omega
  have h4:IntKind.wrap .i64 ((i:Int)+1)=(i:Int)+1:=Zt (by omega) (by omega);rw[Ze Zts.eq_1];simp +decide[hi,hi2,h4];simp at ih;simp only[Zgy hi hi2,ih];split<;>first|(simp_all;done)|grind
theorem Zpt(xs ys:List Int)(h:SmA xs):C Zbho [L 1 (xs.map ic),L 1 (ys.map ic)] []=some (Bo (decide (xs=ys)),[]):=by
 refine run Zbsv rfl ?_;by_cases hl:ys.length=xs.length
 ·have h3:=fun fr=>l_eqIntS xs ys h hl fr 0 (Ya _)
  simp at h3;simp[Z04,h3,hl];split<;>simp_all
 ·have h1:xs≠ys:=fun h=>hl (by rw[h])
  have h2:¬((xs.length:Int)=ys.length):=by omega
  simp[Z04,h1,h2]
@[simp] theorem Zt8(es:List (List T))(left:Int):C Zbh6 [L 1 es,I left] []=some (I (sz1 es.length left),[]):=by
 refine run Zbtd rfl ?_;simp[Zbei,sz1];split<;>simp_all
theorem Zbua(xs:List (List Int))(h:SmL SmA xs)(fr:List Fr):∀i,i≤xs.length→EvL C fr [0,3,4] Zty ⟨[(0,L 1 (xs.map isc)),(3,.own 0),(4,I i)],[[]],[.arr Zif 1 true (fill isc [.lst 1 []] xs i)]⟩ =
  EvX C fr (.x 0) ⟨[(0,L 1 (xs.map isc)),(3,.own 0),(4,I xs.length),(11,Bo false)],[[]],[.arr Zif 1 true (xs.map isc)]⟩:=by
 have hl:xs.length≤4294967296:=h.1;refine down xs.length ?_ ?_
 ·rw[Ze Zty.eq_1];simp[Zgv]
 ·intro i hi ih;rw[Ze Zty.eq_1,←ih];have h1:=Zgx (f:=isc) (z:=[.lst 1 []]) hi;have h3:=Zgw (f:=isc) (z:=[.lst 1 []]) (Ycn hi);have h4:IntKind.wrap .i64 ((i:Int)+1)=(i:Int)+1:=Zt (by omega) (by omega);simp at h1;simp[hi,Zps _ (h.2 _ (Yc hi)),h3,h4,h1]
theorem Zbe9(xs:List (List Int))(h:SmL SmA xs):C Zbid [L 1 (xs.map isc)] []=some (.own 0,[.arr Zif 1 true (xs.map isc)]):=by
 refine run Zbtk rfl ?_;have hl:xs.length≤4294967296:=h.1;have h1:∀b,b≤4096→xs.length*b≤room:=fun b hb=>Ym (Ybs hl hb) (by decide)
 have h2:(xs.length:Int)≤140737488355328:=by omega
 have h3:=fun fr=>Zbua xs h fr 0 (Ya _)
 simp[Zgu]at h3;simp[Zbep,h1,h2,h3]
theorem Zbub(xs ys:List (List Int))(h:SmL SmA xs)(hl:ys.length=xs.length)(fr:List Fr):∀i,i≤xs.length→EvL C fr [0,1,5] Zt1 ⟨[(0,L 1 (xs.map isc)),(1,L 1 (ys.map isc)),(5,I i)],[[]],[]⟩ =
  if xs.drop i=ys.drop i then EvX C fr (.x 0) ⟨[(0,L 1 (xs.map isc)),(1,L 1 (ys.map isc)),(5,I xs.length),(14,Bo false)],[[]],[]⟩else EvX C fr .r ⟨[(4,Bo false)],[[]],[]⟩:=by
 have hm:xs.length≤4294967296:=h.1;refine down xs.length ?_ ?_
 ·rw[Ze Zt1.eq_1];simp[hl,Yb0]
 ·intro i hi ih;have hi2:i<ys.length:=by omega
  have h4:IntKind.wrap .i64 ((i:Int)+1)=(i:Int)+1:=Zt (by omega) (by omega);rw[Ze Zt1.eq_1];simp +decide[hi,hi2,Zpt _ _ (h.2 _ (Yc hi)),h4];simp at ih;simp only[Zgy hi hi2,ih];split<;>first|(simp_all;done)|grind
theorem Zbfa(xs ys:List (List Int))(h:SmL SmA xs):C Zbih [L 1 (xs.map isc),L 1 (ys.map isc)] []=some (Bo (decide (xs=ys)),[]):=by
 refine run Zbto rfl ?_;by_cases hl:ys.length=xs.length
 ·have h3:=fun fr=>Zbub xs ys h hl fr 0 (Ya _)
  simp at h3;simp[Z08,h3,hl];split<;>simp_all
 ·have h1:xs≠ys:=fun h=>hl (by rw[h])
  have h2:¬((xs.length:Int)=ys.length):=by omega
  simp[Z08,h1,h2]
theorem Zbuc(xs:List (List Int))(h:OkL (OkL OkI) xs)(fr:List Fr):∀i,i≤xs.length→∀left:Int,
  (EvL C fr [0,1,5] Zj7 ⟨[(0,L 1 (xs.map isc)),(1,I left),(5,I i)],[[]],[]⟩=EvX C fr .r ⟨[(4,I (-1))],[[]],[]⟩∧Zb7 szI (xs.drop i) left=-1) ∨
  EvL C fr [0,1,5] Zj7 ⟨[(0,L 1 (xs.map isc)),(1,I left),(5,I i)],[[]],[]⟩=EvX C fr (.x 0) ⟨[(0,L 1 (xs.map isc)),(1,I (Zb7 szI (xs.drop i) left)),(5,I xs.length),(15,Bo false)],[[]],[]⟩:=by
 have hm:maxLen≤9223372036854775807:=by decide
 have hl:=h.1;refine down xs.length ?_ ?_
 ·intro left;right;rw[Ze Zj7.eq_1];simp[Yb0,Zb7]
 ·intro i hi ih left;have h4:IntKind.wrap .i64 ((i:Int)+1)=(i:Int)+1:=Zt (by omega) (by omega);have e:EvL C fr [0,1,5] Zj7 ⟨[(0,L 1 (xs.map isc)),(1,I left),(5,I i)],[[]],[]⟩=if szI xs[i] left<0 then EvX C fr .r ⟨[(4,I (-1))],[[]],[]⟩else EvL C fr [0,1,5] Zj7 ⟨[(0,L 1 (xs.map isc)),(1,I (szI xs[i] left)),(5,I ((i+1:Nat):Int))],[[]],[]⟩:=by
   rw[Ze Zj7.eq_1];simp[hi,Zt8,h4]
  rw[e,Yf hi,Zb7];split
  ·exact .inl ⟨rfl,rfl⟩
  ·exact ih _
theorem Zbfb(xs:List (List Int))(left:Int)(h:OkL (OkL OkI) xs):C Zbh8 [L 1 (xs.map isc),I left] []=some (I (szL szI xs left),[]):=by
 refine run Zbtf rfl ?_;have h3:=fun fr l=>Zbuc xs h fr 0 (Ya _) l
 simp at h3;simp[Zbek,szL,Zz,sz1];split
 ·simp_all
 ·rcases h3 [.blk 0,.seq _,.fin _ _] (IntKind.wrap .i64 (left-xs.length))with⟨h5,h6⟩|h5
  ·rw[h5];simp[h6]
  ·rw[h5];simp
theorem Zbud(x0:ByteArray)(x1:Int)(x2:List (List Int))(h2:SmL SmA x2):C Zbix [.agg [.t (.str x0),I x1,.t (tII x2)]] []=some (.agg [.t (.str x0),I x1,.own 0],[.arr Zif 1 true (x2.map isc)]):=by
 refine run Zbt4 rfl ?_;simp[Zbe3,Zbe9 _ h2]
theorem Zbue(x0:ByteArray)(x1:Int)(x2:List (List Int))(y0:ByteArray)(y1:Int)(y2:List (List Int))(h2:SmL SmA x2):C Zbiy [.agg [.t (.str x0),I x1,.t (tII x2)],.agg [.t (.str y0),I y1,.t (tII y2)]] []=some (Bo (decide (x0=y0∧x1=y1∧x2=y2)),[]):=by
 refine run Zbt5 rfl ?_;simp[Zbe4,Zbfa _ _ h2]
 repeat' split
 all_goals first|(simp_all;done)|grind
theorem Zbuf(x0:ByteArray)(x1:Int)(x2:List (List Int))(left:Int)(h2:OkL (OkL OkI) x2):C Zbiw [.agg [.t (.str x0),I x1,.t (tII x2)],I left] []=some (I (Zi.sz ⟨x0,x1,x2⟩ left),[]):=by
 refine run Zbt3 rfl ?_;simp[Zbe2,Zbfb _ _ h2,Zi.sz,Zz,sz1]
 repeat' split
 all_goals first|(simp_all;done)|grind
theorem Zbug(xs:List Zi)(h:SmL Zi.small xs)(fr:List Fr):∀i,i≤xs.length→EvL C fr [0,3,4] Zt2 ⟨[(0,L 3 (xs.map Zi.c)),(3,.own 0),(4,I i)],[[]],[.arr Zqw 3 true (fill Zi.c [.str ⟨#[]⟩,.int .i64 0,.lst 1 []] xs i)]⟩ =
  EvX C fr (.x 0) ⟨[(0,L 3 (xs.map Zi.c)),(3,.own 0),(4,I xs.length),(11,Bo false)],[[]],[.arr Zqw 3 true (xs.map Zi.c)]⟩:=by
 have hl:xs.length≤4294967296:=h.1;refine down xs.length ?_ ?_
 ·rw[Ze Zt2.eq_1];simp[Zgv]
 ·intro i hi ih;rw[Ze Zt2.eq_1,←ih];have h1:=Zgx (f:=Zi.c) (z:=[.str ⟨#[]⟩,.int .i64 0,.lst 1 []]) hi;have h3:=Zgw (f:=Zi.c) (z:=[.str ⟨#[]⟩,.int .i64 0,.lst 1 []]) (Ycn hi);have h4:IntKind.wrap .i64 ((i:Int)+1)=(i:Int)+1:=Zt (by omega) (by omega);simp at h1;simp[hi,Zbud _ _ _ (h.2 _ (Yc hi)).2,h3,h4,h1]
theorem Zbuh(xs:List Zi)(h:SmL Zi.small xs):C Zbij [L 3 (xs.map Zi.c)] []=some (.own 0,[.arr Zqw 3 true (xs.map Zi.c)]):=by
 refine run Zbtq rfl ?_;have hl:xs.length≤4294967296:=h.1;have h1:∀b,b≤4096→xs.length*b≤room:=fun b hb=>Ym (Ybs hl hb) (by decide)
 have h2:(xs.length:Int)≤140737488355328:=by omega
 have h3:=fun fr=>Zbug xs h fr 0 (Ya _)
 simp[Zgu]at h3;simp[Zbes,h1,h2,h3]
theorem Zbui(xs ys:List Zi)(h:SmL Zi.small xs)(hl:ys.length=xs.length)(fr:List Fr):∀i,i≤xs.length→EvL C fr [0,1,5] Zt3 ⟨[(0,L 3 (xs.map Zi.c)),(1,L 3 (ys.map Zi.c)),(5,I i)],[[]],[]⟩ =
  if xs.drop i=ys.drop i then EvX C fr (.x 0) ⟨[(0,L 3 (xs.map Zi.c)),(1,L 3 (ys.map Zi.c)),(5,I xs.length),(14,Bo false)],[[]],[]⟩else EvX C fr .r ⟨[(4,Bo false)],[[]],[]⟩:=by
 have hm:xs.length≤4294967296:=h.1;refine down xs.length ?_ ?_
 ·rw[Ze Zt3.eq_1];simp[hl,Yb0]
 ·intro i hi ih;have hi2:i<ys.length:=by omega
  have h4:IntKind.wrap .i64 ((i:Int)+1)=(i:Int)+1:=Zt (by omega) (by omega);rw[Ze Zt3.eq_1];simp +decide[hi,hi2,Zbue _ _ _ _ _ _ (h.2 _ (Yc hi)).2,h4];simp at ih;simp only[Zgy hi hi2,ih,Zi.ext_iff];split<;>first|(simp_all;done)|grind
theorem Zbuj(xs ys:List Zi)(h:SmL Zi.small xs):C Zbik [L 3 (xs.map Zi.c),L 3 (ys.map Zi.c)] []=some (Bo (decide (xs=ys)),[]):=by
 refine run Zbtr rfl ?_;by_cases hl:ys.length=xs.length
 ·have h3:=fun fr=>Zbui xs ys h hl fr 0 (Ya _)
  simp at h3;simp[Z09,h3,hl];split<;>simp_all
 ·have h1:xs≠ys:=fun h=>hl (by rw[h])
  have h2:¬((xs.length:Int)=ys.length):=by omega
  simp[Z09,h1,h2]
theorem Zbuk(xs:List Zi)(h:OkL Zi.okay xs)(fr:List Fr):∀i,i≤xs.length→∀left:Int,
  (EvL C fr [0,1,5] Zj8 ⟨[(0,L 3 (xs.map Zi.c)),(1,I left),(5,I i)],[[]],[]⟩=EvX C fr .r ⟨[(4,I (-1))],[[]],[]⟩∧Zb7 Zi.sz (xs.drop i) left=-1) ∨
  EvL C fr [0,1,5] Zj8 ⟨[(0,L 3 (xs.map Zi.c)),(1,I left),(5,I i)],[[]],[]⟩=EvX C fr (.x 0) ⟨[(0,L 3 (xs.map Zi.c)),(1,I (Zb7 Zi.sz (xs.drop i) left)),(5,I xs.length),(15,Bo false)],[[]],[]⟩:=by
 have hm:maxLen≤9223372036854775807:=by decide
 have hl:=h.1;refine down xs.length ?_ ?_
 ·intro left;right;rw[Ze Zj8.eq_1];simp[Yb0,Zb7]
 ·intro i hi ih left;have h4:IntKind.wrap .i64 ((i:Int)+1)=(i:Int)+1:=Zt (by omega) (by omega);have e:EvL C fr [0,1,5] Zj8 ⟨[(0,L 3 (xs.map Zi.c)),(1,I left),(5,I i)],[[]],[]⟩=if Zi.sz xs[i] left<0 then EvX C fr .r ⟨[(4,I (-1))],[[]],[]⟩else EvL C fr [0,1,5] Zj8 ⟨[(0,L 3 (xs.map Zi.c)),(1,I (Zi.sz xs[i] left)),(5,I ((i+1:Nat):Int))],[[]],[]⟩:=by
   rw[Ze Zj8.eq_1];simp[hi,Zbuf _ _ _ _ (h.2 _ (Yc hi)).2.2,h4]
  rw[e,Yf hi,Zb7];split
  ·exact .inl ⟨rfl,rfl⟩
  ·exact ih _
theorem Zbul(xs:List Zi)(left:Int)(h:OkL Zi.okay xs):C Zbii [L 3 (xs.map Zi.c),I left] []=some (I (szL Zi.sz xs left),[]):=by
 refine run Zbtp rfl ?_;have h3:=fun fr l=>Zbuk xs h fr 0 (Ya _) l
 simp at h3;simp[Zber,szL,Zz,sz1];split
 ·simp_all
 ·rcases h3 [.blk 0,.seq _,.fin _ _] (IntKind.wrap .i64 (left-xs.length))with⟨h5,h6⟩|h5
  ·rw[h5];simp[h6]
  ·rw[h5];simp
theorem Zbum(x0:List Zi)(h0:SmL Zi.small x0):C Zbht [.agg [.t (.lst 3 (x0.map Zi.c))]] []=some (.agg [.own 0],[.arr Zqw 3 true (x0.map Zi.c)]):=by
 refine run Zbs0 rfl ?_;simp[Zbd6,Zbuh _ h0]
theorem Zbun(x0 y0:List Zi)(h0:SmL Zi.small x0):C Zbhu [.agg [.t (.lst 3 (x0.map Zi.c))],.agg [.t (.lst 3 (y0.map Zi.c))]] []=some (Bo (decide (x0=y0)),[]):=by
 refine run Zbs1 rfl ?_;simp[Zbd7,Zbuj _ _ h0]
 repeat' split
 all_goals first|(simp_all;done)|grind
theorem Zbuo(x0:List Zi)(left:Int)(h0:OkL Zi.okay x0):C Zbhs [.agg [.t (.lst 3 (x0.map Zi.c))],I left] []=some (I (Zk.sz ⟨x0⟩ left),[]):=by
 refine run Zbsz rfl ?_;simp[Zbd5,Zbul _ _ h0,Zk.sz,Zz,sz1]
 repeat' split
 all_goals first|(simp_all;done)|grind
theorem c_toAtom(x0:ByteArray)(x1:List Int)(h1:SmA x1):C Zbit [.agg [.t (.str x0),.t (tI x1)]] []=some (.agg [.t (.str x0),.own 0],[.arr Zby 1 true (x1.map ic)]):=by
 refine run Zbt0 rfl ?_;simp[Zbe0,Zps _ h1]
theorem c_eqAtom(x0:ByteArray)(x1:List Int)(y0:ByteArray)(y1:List Int)(h1:SmA x1):C Zbiv [.agg [.t (.str x0),.t (tI x1)],.agg [.t (.str y0),.t (tI y1)]] []=some (Bo (decide (x0=y0∧x1=y1)),[]):=by
 refine run Zbt2 rfl ?_;simp[Zbe1,Zpt _ _ h1]
 repeat' split
 all_goals first|(simp_all;done)|grind
theorem c_szAtom(x0:ByteArray)(x1:List Int)(left:Int) :C Zbir [.agg [.t (.str x0),.t (tI x1)],I left] []=some (I (Atom.sz ⟨x0,x1⟩ left),[]):=by
 refine run Zbty rfl ?_;simp[Zbey,Zt8,Atom.sz,Zz,sz1]
 repeat' split
 all_goals first|(simp_all;done)|grind
theorem Zbup(xs:List Atom)(h:SmL Atom.small xs)(fr:List Fr):∀i,i≤xs.length→EvL C fr [0,3,4] Ztv ⟨[(0,L 2 (xs.map Atom.c)),(3,.own 0),(4,I i)],[[]],[.arr Zqv 2 true (fill Atom.c [.str ⟨#[]⟩,.lst 1 []] xs i)]⟩ =
  EvX C fr (.x 0) ⟨[(0,L 2 (xs.map Atom.c)),(3,.own 0),(4,I xs.length),(11,Bo false)],[[]],[.arr Zqv 2 true (xs.map Atom.c)]⟩:=by
 have hl:xs.length≤4294967296:=h.1;refine down xs.length ?_ ?_
 ·rw[Ze Ztv.eq_1];simp[Zgv]
 ·intro i hi ih;rw[Ze Ztv.eq_1,←ih];have h1:=Zgx (f:=Atom.c) (z:=[.str ⟨#[]⟩,.lst 1 []]) hi;have h3:=Zgw (f:=Atom.c) (z:=[.str ⟨#[]⟩,.lst 1 []]) (Ycn hi);have h4:IntKind.wrap .i64 ((i:Int)+1)=(i:Int)+1:=Zt (by omega) (by omega);simp at h1;simp[hi,c_toAtom _ _ (h.2 _ (Yc hi)).2,h3,h4,h1]
theorem Zbuq(xs:List Atom)(h:SmL Atom.small xs):C Zbia [L 2 (xs.map Atom.c)] []=some (.own 0,[.arr Zqv 2 true (xs.map Atom.c)]):=by
 refine run Zbth rfl ?_;have hl:xs.length≤4294967296:=h.1;have h1:∀b,b≤4096→xs.length*b≤room:=fun b hb=>Ym (Ybs hl hb) (by decide)
 have h2:(xs.length:Int)≤140737488355328:=by omega
 have h3:=fun fr=>Zbup xs h fr 0 (Ya _)
 simp[Zgu]at h3;simp[Zbem,h1,h2,h3]
theorem Zbur(xs ys:List Atom)(h:SmL Atom.small xs)(hl:ys.length=xs.length)(fr:List Fr):∀i,i≤xs.length→EvL C fr [0,1,5] Ztz ⟨[(0,L 2 (xs.map Atom.c)),(1,L 2 (ys.map Atom.c)),(5,I i)],[[]],[]⟩ =
  if xs.drop i=ys.drop i then EvX C fr (.x 0) ⟨[(0,L 2 (xs.map Atom.c)),(1,L 2 (ys.map Atom.c)),(5,I xs.length),(14,Bo false)],[[]],[]⟩else EvX C fr .r ⟨[(4,Bo false)],[[]],[]⟩:=by
 have hm:xs.length≤4294967296:=h.1;refine down xs.length ?_ ?_
 ·rw[Ze Ztz.eq_1];simp[hl,Yb0]
 ·intro i hi ih;have hi2:i<ys.length:=by omega
  have h4:IntKind.wrap .i64 ((i:Int)+1)=(i:Int)+1:=Zt (by omega) (by omega);rw[Ze Ztz.eq_1];simp +decide[hi,hi2,c_eqAtom _ _ _ _ (h.2 _ (Yc hi)).2,h4];simp at ih;simp only[Zgy hi hi2,ih,Atom.ext_iff];split<;>first|(simp_all;done)|grind
theorem Zbus(xs ys:List Atom)(h:SmL Atom.small xs):C Zbif [L 2 (xs.map Atom.c),L 2 (ys.map Atom.c)] []=some (Bo (decide (xs=ys)),[]):=by
 refine run Zbtm rfl ?_;by_cases hl:ys.length=xs.length
 ·have h3:=fun fr=>Zbur xs ys h hl fr 0 (Ya _)
  simp at h3;simp[Z06,h3,hl];split<;>simp_all
 ·have h1:xs≠ys:=fun h=>hl (by rw[h])
  have h2:¬((xs.length:Int)=ys.length):=by omega
  simp[Z06,h1,h2]
theorem Zbut(xs:List Atom)(h:OkL Atom.okay xs)(fr:List Fr):∀i,i≤xs.length→∀left:Int,
  (EvL C fr [0,1,5] Zj5 ⟨[(0,L 2 (xs.map Atom.c)),(1,I left),(5,I i)],[[]],[]⟩=EvX C fr .r ⟨[(4,I (-1))],[[]],[]⟩∧Zb7 Atom.sz (xs.drop i) left=-1) ∨
  EvL C fr [0,1,5] Zj5 ⟨[(0,L 2 (xs.map Atom.c)),(1,I left),(5,I i)],[[]],[]⟩=EvX C fr (.x 0) ⟨[(0,L 2 (xs.map Atom.c)),(1,I (Zb7 Atom.sz (xs.drop i) left)),(5,I xs.length),(15,Bo false)],[[]],[]⟩:=by
 have hm:maxLen≤9223372036854775807:=by decide
 have hl:=h.1;refine down xs.length ?_ ?_
 ·intro left;right;rw[Ze Zj5.eq_1];simp[Yb0,Zb7]
 ·intro i hi ih left;have h4:IntKind.wrap .i64 ((i:Int)+1)=(i:Int)+1:=Zt (by omega) (by omega);have e:EvL C fr [0,1,5] Zj5 ⟨[(0,L 2 (xs.map Atom.c)),(1,I left),(5,I i)],[[]],[]⟩=if Atom.sz xs[i] left<0 then EvX C fr .r ⟨[(4,I (-1))],[[]],[]⟩else EvL C fr [0,1,5] Zj5 ⟨[(0,L 2 (xs.map Atom.c)),(1,I (Atom.sz xs[i] left)),(5,I ((i+1:Nat):Int))],[[]],[]⟩:=by
   rw[Ze Zj5.eq_1];simp[hi,c_szAtom,h4]
  rw[e,Yf hi,Zb7];split
  ·exact .inl ⟨rfl,rfl⟩
  ·exact ih _
theorem Zbuu(xs:List Atom)(left:Int)(h:OkL Atom.okay xs):C Zbh5 [L 2 (xs.map Atom.c),I left] []=some (I (szL Atom.sz xs left),[]):=by
 refine run Zbtc rfl ?_;have h3:=fun fr l=>Zbut xs h fr 0 (Ya _) l
 simp at h3;simp[Zbeh,szL,Zz,sz1];split
 ·simp_all
 ·rcases h3 [.blk 0,.seq _,.fin _ _] (IntKind.wrap .i64 (left-xs.length))with⟨h5,h6⟩|h5
  ·rw[h5];simp[h6]
  ·rw[h5];simp
theorem Zbuv(x0:Int)(x1:List Atom)(h1:SmL Atom.small x1):C Zbhm [.agg [I x0,.t (.lst 2 (x1.map Atom.c))]] []=some (.agg [I x0,.own 0],[.arr Zqv 2 true (x1.map Atom.c)]):=by
 refine run Zbst rfl ?_;simp[Zbd0,Zbuq _ h1]
theorem Zbuw(x0:Int)(x1:List Atom)(y0:Int)(y1:List Atom)(h1:SmL Atom.small x1):C Zbhq [.agg [I x0,.t (.lst 2 (x1.map Atom.c))],.agg [I y0,.t (.lst 2 (y1.map Atom.c))]] []=some (Bo (decide (x0=y0∧x1=y1)),[]):=by
 refine run Zbsx rfl ?_;simp[Zbd3,Zbus _ _ h1]
 repeat' split
 all_goals first|(simp_all;done)|grind
theorem Zbux(x0:Int)(x1:List Atom)(left:Int)(h1:OkL Atom.okay x1):C Zbhj [.agg [I x0,.t (.lst 2 (x1.map Atom.c))],I left] []=some (I (Zd.sz ⟨x0,x1⟩ left),[]):=by
 refine run Zbsq rfl ?_;simp[Zbdx,Zbuu _ _ h1,Zd.sz,Zz,sz1]
 repeat' split
 all_goals first|(simp_all;done)|grind
theorem c_toBox(x0 x1:List Int)(h0:SmA x0)(h1:SmA x1):C Zbh2 [.agg [.t (tI x0),.t (tI x1)]] []=some (.agg [.own 0,.own 1],[.arr Zby 1 true (x0.map ic),.arr Zby 1 true (x1.map ic)]):=by
 refine run Zbs9 rfl ?_;simp[Zbee,Zps _ h0,Zps _ h1]
theorem c_eqBox(x0 x1 y0 y1:List Int)(h0:SmA x0)(h1:SmA x1):C Zbh3 [.agg [.t (tI x0),.t (tI x1)],.agg [.t (tI y0),.t (tI y1)]] []=some (Bo (decide (x0=y0∧x1=y1)),[]):=by
 refine run Zbta rfl ?_;simp[Zbef,Zpt _ _ h0,Zpt _ _ h1]
 repeat' split
 all_goals first|(simp_all;done)|grind
theorem c_szBox(x0 x1:List Int)(left:Int) :C Zbh1 [.agg [.t (tI x0),.t (tI x1)],I left] []=some (I (Box.sz ⟨x0,x1⟩ left),[]):=by
 refine run Zbs8 rfl ?_;simp[Zbed,Zt8,Box.sz,Zz,sz1]
 repeat' split
 all_goals first|(simp_all;done)|grind
theorem Zbuy(x0 x1:Int) :C Zbi1 [.agg [I x0,I x1]] []=some (.agg [I x0,I x1],[]):=by
 refine run Zbt8 rfl ?_;simp[Zbe7]
theorem Zbuz(x0 x1 y0 y1:Int) :C Zbi2 [.agg [I x0,I x1],.agg [I y0,I y1]] []=some (Bo (decide (x0=y0∧x1=y1)),[]):=by
 refine run Zbt9 rfl ?_;simp[Zbe8]
 repeat' split
 all_goals first|(simp_all;done)|grind
theorem Zbu0(xs:List Zf)(h:SmA xs)(fr:List Fr):∀i,i≤xs.length→EvL C fr [0,3,4] Zt6 ⟨[(0,L 2 (xs.map Zf.c)),(3,.own 0),(4,I i)],[[]],[.arr Zf0 2 true (fill Zf.c [.int .i64 0,.int .i64 0] xs i)]⟩ =
  EvX C fr (.x 0) ⟨[(0,L 2 (xs.map Zf.c)),(3,.own 0),(4,I xs.length),(11,Bo false)],[[]],[.arr Zf0 2 true (xs.map Zf.c)]⟩:=by
 have hl:xs.length≤4294967296:=h;refine down xs.length ?_ ?_
 ·rw[Ze Zt6.eq_1];simp[Zgv]
 ·intro i hi ih;rw[Ze Zt6.eq_1,←ih];have h1:=Zgx (f:=Zf.c) (z:=[.int .i64 0,.int .i64 0]) hi;have h3:=Zgw (f:=Zf.c) (z:=[.int .i64 0,.int .i64 0]) (Ycn hi);have h4:IntKind.wrap .i64 ((i:Int)+1)=(i:Int)+1:=Zt (by omega) (by omega);simp at h1;simp[hi,Zbuy,h3,h4,h1]
theorem Zbu1(xs:List Zf)(h:SmA xs):C Zbis [L 2 (xs.map Zf.c)] []=some (.own 0,[.arr Zf0 2 true (xs.map Zf.c)]):=by
 refine run Zbtz rfl ?_;have hl:xs.length≤4294967296:=h;have h1:∀b,b≤4096→xs.length*b≤room:=fun b hb=>Ym (Ybs hl hb) (by decide)
 have h2:(xs.length:Int)≤140737488355328:=by omega
 have h3:=fun fr=>Zbu0 xs h fr 0 (Ya _)
 simp[Zgu]at h3;simp[Zbez,h1,h2,h3]
theorem Zbu2(xs ys:List Zf)(h:SmA xs)(hl:ys.length=xs.length)(fr:List Fr):∀i,i≤xs.length→EvL C fr [0,1,5] Zt7 ⟨[(0,L 2 (xs.map Zf.c)),(1,L 2 (ys.map Zf.c)),(5,I i)],[[]],[]⟩ =
  if xs.drop i=ys.drop i then EvX C fr (.x 0) ⟨[(0,L 2 (xs.map Zf.c)),(1,L 2 (ys.map Zf.c)),(5,I xs.length),(14,Bo false)],[[]],[]⟩else EvX C fr .r ⟨[(4,Bo false)],[[]],[]⟩:=by
 have hm:xs.length≤4294967296:=h;refine down xs.length ?_ ?_
 ·rw[Ze Zt7.eq_1];simp[hl,Yb0]
 ·intro i hi ih;have hi2:i<ys.length:=by omega
  have h4:IntKind.wrap .i64 ((i:Int)+1)=(i:Int)+1:=Zt (by omega) (by omega);rw[Ze Zt7.eq_1];simp +decide[hi,hi2,Zbuz _ _ _ _ ,h4];simp at ih;simp only[Zgy hi hi2,ih,Zf.ext_iff];split<;>first|(simp_all;done)|grind
theorem Zbu3(xs ys:List Zf)(h:SmA xs):C Zbiu [L 2 (xs.map Zf.c),L 2 (ys.map Zf.c)] []=some (Bo (decide (xs=ys)),[]):=by
 refine run Zbt1 rfl ?_;by_cases hl:ys.length=xs.length
 ·have h3:=fun fr=>Zbu2 xs ys h hl fr 0 (Ya _)
  simp at h3;simp[Z1b,h3,hl];split<;>simp_all
 ·have h1:xs≠ys:=fun h=>hl (by rw[h])
  have h2:¬((xs.length:Int)=ys.length):=by omega
  simp[Z1b,h1,h2]
@[simp] theorem Zbu4(es:List (List T))(left:Int):C Zbiq [L 2 es,I left] []=some (I (sz1 es.length left),[]):=by
 refine run Zbtx rfl ?_;simp[Zbex,sz1];split<;>simp_all
theorem Zpu(x0 x1 x2 x3 x4:Int)(x5:List Zf)(h5:SmA x5):C Zbh9 [.agg [I x0,I x1,I x2,I x3,I x4,.t (.lst 2 (x5.map Zf.c))]] []=some (.agg [I x0,I x1,I x2,I x3,I x4,.own 0],[.arr Zf0 2 true (x5.map Zf.c)]):=by
 refine run Zbtg rfl ?_;simp[Zbel,Zbu1 _ h5]
theorem Zpv(x0 x1 x2 x3 x4:Int)(x5:List Zf)(y0 y1 y2 y3 y4:Int)(y5:List Zf)(h5:SmA x5):C Zbie [.agg [I x0,I x1,I x2,I x3,I x4,.t (.lst 2 (x5.map Zf.c))],.agg [I y0,I y1,I y2,I y3,I y4,.t (.lst 2 (y5.map Zf.c))]] []=some (Bo (decide (x0=y0∧x1=y1∧x2=y2∧x3=y3∧x4=y4∧x5=y5)),[]):=by
 refine run Zbtl rfl ?_;simp[Zbeq,Zbu3 _ _ h5]
 repeat' split
 all_goals first|(simp_all;done)|grind
theorem Zbu5(x0 x1 x2 x3 x4:Int)(x5:List Zf)(left:Int) :C Zbh4 [.agg [I x0,I x1,I x2,I x3,I x4,.t (.lst 2 (x5.map Zf.c))],I left] []=some (I (Zh.sz ⟨x0,x1,x2,x3,x4,x5⟩ left),[]):=by
 refine run Zbtb rfl ?_;simp[Zbeg,Zbu4,Zh.sz,Zz,sz1]
 repeat' split
 all_goals first|(simp_all;done)|grind
theorem Zbu6(x0 x1 x2 x3 x4:Int)(x5:List Zf)(x6 x7 x8 x9 x10:Int)(x11:List Zf)(x12 x13 x14 x15 x16:Int)(x17:List Zf)(x18 x19 x20 x21 x22:Int)(x23:List Zf)(x24 x25 x26 x27 x28:Int)(x29:List Zf)(h5:SmA x5)(h11:SmA x11)(h17:SmA x17)(h23:SmA x23)(h29:SmA x29):C Zbhl [.agg [I x0,I x1,I x2,I x3,I x4,.t (.lst 2 (x5.map Zf.c)),I x6,I x7,I x8,I x9,I x10,.t (.lst 2 (x11.map Zf.c)),I x12,I x13,I x14,I x15,I x16,.t (.lst 2 (x17.map Zf.c)),I x18,I x19,I x20,I x21,I x22,.t (.lst 2 (x23.map Zf.c)),I x24,I x25,I x26,I x27,I x28,.t (.lst 2 (x29.map Zf.c))]] []=some (.agg [I x0,I x1,I x2,I x3,I x4,.own 0,I x6,I x7,I x8,I x9,I x10,.own 1,I x12,I x13,I x14,I x15,I x16,.own 2,I x18,I x19,I x20,I x21,I x22,.own 3,I x24,I x25,I x26,I x27,I x28,.own 4],[.arr Zf0 2 true (x5.map Zf.c),.arr Zf0 2 true (x11.map Zf.c),.arr Zf0 2 true (x17.map Zf.c),.arr Zf0 2 true (x23.map Zf.c),.arr Zf0 2 true (x29.map Zf.c)]):=by
 refine run Zbss rfl ?_;simp[Zbdz,Zpu _ _ _ _ _ _ h5,Zpu _ _ _ _ _ _ h11,Zpu _ _ _ _ _ _ h17,Zpu _ _ _ _ _ _ h23,Zpu _ _ _ _ _ _ h29]
theorem Zbu7(x0 x1 x2 x3 x4:Int)(x5:List Zf)(x6 x7 x8 x9 x10:Int)(x11:List Zf)(x12 x13 x14 x15 x16:Int)(x17:List Zf)(x18 x19 x20 x21 x22:Int)(x23:List Zf)(x24 x25 x26 x27 x28:Int)(x29:List Zf)(y0 y1 y2 y3 y4:Int)(y5:List Zf)(y6 y7 y8 y9 y10:Int)(y11:List Zf)(y12 y13 y14 y15 y16:Int)(y17:List Zf)(y18 y19 y20 y21 y22:Int)(y23:List Zf)(y24 y25 y26 y27 y28:Int)(y29:List Zf)(h5:SmA x5)(h11:SmA x11)(h17:SmA x17)(h23:SmA x23)(h29:SmA x29):C Zbhp [.agg [I x0,I x1,I x2,I x3,I x4,.t (.lst 2 (x5.map Zf.c)),I x6,I x7,I x8,I x9,I x10,.t (.lst 2 (x11.map Zf.c)),I x12,I x13,I x14,I x15,I x16,.t (.lst 2 (x17.map Zf.c)),I x18,I x19,I x20,I x21,I x22,.t (.lst 2 (x23.map Zf.c)),I x24,I x25,I x26,I x27,I x28,.t (.lst 2 (x29.map Zf.c))],.agg [I y0,I y1,I y2,I y3,I y4,.t (.lst 2 (y5.map Zf.c)),I y6,I y7,I y8,I y9,I y10,.t (.lst 2 (y11.map Zf.c)),I y12,I y13,I y14,I y15,I y16,.t (.lst 2 (y17.map Zf.c)),I y18,I y19,I y20,I y21,I y22,.t (.lst 2 (y23.map Zf.c)),I y24,I y25,I y26,I y27,I y28,.t (.lst 2 (y29.map Zf.c))]] []=some (Bo (decide (x0=y0∧x1=y1∧x2=y2∧x3=y3∧x4=y4∧x5=y5∧x6=y6∧x7=y7∧x8=y8∧x9=y9∧x10=y10∧x11=y11∧x12=y12∧x13=y13∧x14=y14∧x15=y15∧x16=y16∧x17=y17∧x18=y18∧x19=y19∧x20=y20∧x21=y21∧x22=y22∧x23=y23∧x24=y24∧x25=y25∧x26=y26∧x27=y27∧x28=y28∧x29=y29)),[]):=by
 refine run Zbsw rfl ?_;simp[Zbd2,Zpv _ _ _ _ _ _ _ _ _ _ _ _ h5,Zpv _ _ _ _ _ _ _ _ _ _ _ _ h11,Zpv _ _ _ _ _ _ _ _ _ _ _ _ h17,Zpv _ _ _ _ _ _ _ _ _ _ _ _ h23,Zpv _ _ _ _ _ _ _ _ _ _ _ _ h29]
 repeat' split
 all_goals first|(simp_all;done)|grind
theorem Zbu8(x0 x1 x2 x3 x4:Int)(x5:List Zf)(x6 x7 x8 x9 x10:Int)(x11:List Zf)(x12 x13 x14 x15 x16:Int)(x17:List Zf)(x18 x19 x20 x21 x22:Int)(x23:List Zf)(x24 x25 x26 x27 x28:Int)(x29:List Zf)(left:Int) :C Zbhi [.agg [I x0,I x1,I x2,I x3,I x4,.t (.lst 2 (x5.map Zf.c)),I x6,I x7,I x8,I x9,I x10,.t (.lst 2 (x11.map Zf.c)),I x12,I x13,I x14,I x15,I x16,.t (.lst 2 (x17.map Zf.c)),I x18,I x19,I x20,I x21,I x22,.t (.lst 2 (x23.map Zf.c)),I x24,I x25,I x26,I x27,I x28,.t (.lst 2 (x29.map Zf.c))],I left] []=some (I (Zj.sz ⟨⟨x0,x1,x2,x3,x4,x5⟩,⟨x6,x7,x8,x9,x10,x11⟩,⟨x12,x13,x14,x15,x16,x17⟩,⟨x18,x19,x20,x21,x22,x23⟩,⟨x24,x25,x26,x27,x28,x29⟩⟩ left),[]):=by
 refine run Zbsp rfl ?_;simp[Zbdw,Zbu5,Zj.sz,Zz,sz1]
 repeat' split
 all_goals first|(simp_all;done)|grind
theorem Zbu9(x0 x1 x2:Int) :C Zbi0 [.agg [I x0,I x1,I x2]] []=some (.agg [I x0,I x1,I x2],[]):=by
 refine run Zbt7 rfl ?_;simp[Zbe6]
theorem Zbva(x0 x1 x2 y0 y1 y2:Int) :C Zbiz [.agg [I x0,I x1,I x2],.agg [I y0,I y1,I y2]] []=some (Bo (decide (x0=y0∧x1=y1∧x2=y2)),[]):=by
 refine run Zbt6 rfl ?_;simp[Zbe5]
 repeat' split
 all_goals first|(simp_all;done)|grind
theorem Zbvb(xs:List Zg)(h:SmA xs)(fr:List Fr):∀i,i≤xs.length→EvL C fr [0,3,4] Zt5 ⟨[(0,L 3 (xs.map Zg.c)),(3,.own 0),(4,I i)],[[]],[.arr Zqu 3 true (fill Zg.c [.int .i64 0,.int .i64 0,.int .i64 0] xs i)]⟩ =
  EvX C fr (.x 0) ⟨[(0,L 3 (xs.map Zg.c)),(3,.own 0),(4,I xs.length),(11,Bo false)],[[]],[.arr Zqu 3 true (xs.map Zg.c)]⟩:=by
 have hl:xs.length≤4294967296:=h;refine down xs.length ?_ ?_
 ·rw[Ze Zt5.eq_1];simp[Zgv]
 ·intro i hi ih;rw[Ze Zt5.eq_1,←ih];have h1:=Zgx (f:=Zg.c) (z:=[.int .i64 0,.int .i64 0,.int .i64 0]) hi;have h3:=Zgw (f:=Zg.c) (z:=[.int .i64 0,.int .i64 0,.int .i64 0]) (Ycn hi);have h4:IntKind.wrap .i64 ((i:Int)+1)=(i:Int)+1:=Zt (by omega) (by omega);simp at h1;simp[hi,Zbu9,h3,h4,h1]
theorem Zbvc(xs:List Zg)(h:SmA xs):C Zbip [L 3 (xs.map Zg.c)] []=some (.own 0,[.arr Zqu 3 true (xs.map Zg.c)]):=by
 refine run Zbtw rfl ?_;have hl:xs.length≤4294967296:=h;have h1:∀b,b≤4096→xs.length*b≤room:=fun b hb=>Ym (Ybs hl hb) (by decide)
 have h2:(xs.length:Int)≤140737488355328:=by omega
 have h3:=fun fr=>Zbvb xs h fr 0 (Ya _)
 simp[Zgu]at h3;simp[Zbew,h1,h2,h3]
theorem Zbvd(xs ys:List Zg)(h:SmA xs)(hl:ys.length=xs.length)(fr:List Fr):∀i,i≤xs.length→EvL C fr [0,1,5] Zt4 ⟨[(0,L 3 (xs.map Zg.c)),(1,L 3 (ys.map Zg.c)),(5,I i)],[[]],[]⟩ =
  if xs.drop i=ys.drop i then EvX C fr (.x 0) ⟨[(0,L 3 (xs.map Zg.c)),(1,L 3 (ys.map Zg.c)),(5,I xs.length),(14,Bo false)],[[]],[]⟩else EvX C fr .r ⟨[(4,Bo false)],[[]],[]⟩:=by
 have hm:xs.length≤4294967296:=h;refine down xs.length ?_ ?_
 ·rw[Ze Zt4.eq_1];simp[hl,Yb0]
 ·intro i hi ih;have hi2:i<ys.length:=by omega
  have h4:IntKind.wrap .i64 ((i:Int)+1)=(i:Int)+1:=Zt (by omega) (by omega);rw[Ze Zt4.eq_1];simp +decide[hi,hi2,Zbva _ _ _ _ _ _ ,h4];simp at ih;simp only[Zgy hi hi2,ih,Zg.ext_iff];split<;>first|(simp_all;done)|grind
theorem Zbve(xs ys:List Zg)(h:SmA xs):C Zbil [L 3 (xs.map Zg.c),L 3 (ys.map Zg.c)] []=some (Bo (decide (xs=ys)),[]):=by
 refine run Zbts rfl ?_;by_cases hl:ys.length=xs.length
 ·have h3:=fun fr=>Zbvd xs ys h hl fr 0 (Ya _)
  simp at h3;simp[Z1a,h3,hl];split<;>simp_all
 ·have h1:xs≠ys:=fun h=>hl (by rw[h])
  have h2:¬((xs.length:Int)=ys.length):=by omega
  simp[Z1a,h1,h2]
@[simp] theorem Zbvf(es:List (List T))(left:Int):C Zbio [L 3 es,I left] []=some (I (sz1 es.length left),[]):=by
 refine run Zbtv rfl ?_;simp[Zbev,sz1];split<;>simp_all
theorem c_toPlan(x0:List Zg)(h0:SmA x0):C Zbh0 [.agg [.t (.lst 3 (x0.map Zg.c))]] []=some (.agg [.own 0],[.arr Zqu 3 true (x0.map Zg.c)]):=by
 refine run Zbs7 rfl ?_;simp[Zbec,Zbvc _ h0]
theorem c_eqPlan(x0 y0:List Zg)(h0:SmA x0):C Zbhv [.agg [.t (.lst 3 (x0.map Zg.c))],.agg [.t (.lst 3 (y0.map Zg.c))]] []=some (Bo (decide (x0=y0)),[]):=by
 refine run Zbs2 rfl ?_;simp[Zbd8,Zbve _ _ h0]
 repeat' split
 all_goals first|(simp_all;done)|grind
theorem c_szPlan(x0:List Zg)(left:Int) :C Zbhz [.agg [.t (.lst 3 (x0.map Zg.c))],I left] []=some (I (Plan.sz ⟨x0⟩ left),[]):=by
 refine run Zbs6 rfl ?_;simp[Zbeb,Zbvf,Plan.sz,Zz,sz1]
 repeat' split
 all_goals first|(simp_all;done)|grind
theorem Zbvg(xs:List Plan)(h:SmL Plan.small xs)(fr:List Fr):∀i,i≤xs.length→EvL C fr [0,3,4] Ztx ⟨[(0,L 1 (xs.map Plan.c)),(3,.own 0),(4,I i)],[[]],[.arr Zqt 1 true (fill Plan.c [.lst 3 []] xs i)]⟩ =
  EvX C fr (.x 0) ⟨[(0,L 1 (xs.map Plan.c)),(3,.own 0),(4,I xs.length),(11,Bo false)],[[]],[.arr Zqt 1 true (xs.map Plan.c)]⟩:=by
 have hl:xs.length≤4294967296:=h.1;refine down xs.length ?_ ?_
 ·rw[Ze Ztx.eq_1];simp[Zgv]
 ·intro i hi ih;rw[Ze Ztx.eq_1,←ih];have h1:=Zgx (f:=Plan.c) (z:=[.lst 3 []]) hi;have h3:=Zgw (f:=Plan.c) (z:=[.lst 3 []]) (Ycn hi);have h4:IntKind.wrap .i64 ((i:Int)+1)=(i:Int)+1:=Zt (by omega) (by omega);simp at h1;simp[hi,c_toPlan _ (h.2 _ (Yc hi)),h3,h4,h1]
theorem Zbvh(xs:List Plan)(h:SmL Plan.small xs):C Zbic [L 1 (xs.map Plan.c)] []=some (.own 0,[.arr Zqt 1 true (xs.map Plan.c)]):=by
 refine run Zbtj rfl ?_;have hl:xs.length≤4294967296:=h.1;have h1:∀b,b≤4096→xs.length*b≤room:=fun b hb=>Ym (Ybs hl hb) (by decide)
 have h2:(xs.length:Int)≤140737488355328:=by omega
 have h3:=fun fr=>Zbvg xs h fr 0 (Ya _)
 simp[Zgu]at h3;simp[Zbeo,h1,h2,h3]
theorem Zbvi(xs ys:List Plan)(h:SmL Plan.small xs)(hl:ys.length=xs.length)(fr:List Fr):∀i,i≤xs.length→EvL C fr [0,1,5] Zt0 ⟨[(0,L 1 (xs.map Plan.c)),(1,L 1 (ys.map Plan.c)),(5,I i)],[[]],[]⟩ =
  if xs.drop i=ys.drop i then EvX C fr (.x 0) ⟨[(0,L 1 (xs.map Plan.c)),(1,L 1 (ys.map Plan.c)),(5,I xs.length),(14,Bo false)],[[]],[]⟩else EvX C fr .r ⟨[(4,Bo false)],[[]],[]⟩:=by
 have hm:xs.length≤4294967296:=h.1;refine down xs.length ?_ ?_
 ·rw[Ze Zt0.eq_1];simp[hl,Yb0]
 ·intro i hi ih;have hi2:i<ys.length:=by omega
  have h4:IntKind.wrap .i64 ((i:Int)+1)=(i:Int)+1:=Zt (by omega) (by omega);rw[Ze Zt0.eq_1];simp +decide[hi,hi2,c_eqPlan _ _ (h.2 _ (Yc hi)),h4];simp at ih;simp only[Zgy hi hi2,ih,Plan.ext_iff];split<;>first|(simp_all;done)|grind
theorem Zbvj(xs ys:List Plan)(h:SmL Plan.small xs):C Zbig [L 1 (xs.map Plan.c),L 1 (ys.map Plan.c)] []=some (Bo (decide (xs=ys)),[]):=by
 refine run Zbtn rfl ?_;by_cases hl:ys.length=xs.length
 ·have h3:=fun fr=>Zbvi xs ys h hl fr 0 (Ya _)
  simp at h3;simp[Z07,h3,hl];split<;>simp_all
 ·have h1:xs≠ys:=fun h=>hl (by rw[h])
  have h2:¬((xs.length:Int)=ys.length):=by omega
  simp[Z07,h1,h2]
theorem Zbvk(xs:List Plan)(h:OkL Plan.okay xs)(fr:List Fr):∀i,i≤xs.length→∀left:Int,
  (EvL C fr [0,1,5] Zj6 ⟨[(0,L 1 (xs.map Plan.c)),(1,I left),(5,I i)],[[]],[]⟩=EvX C fr .r ⟨[(4,I (-1))],[[]],[]⟩∧Zb7 Plan.sz (xs.drop i) left=-1) ∨
  EvL C fr [0,1,5] Zj6 ⟨[(0,L 1 (xs.map Plan.c)),(1,I left),(5,I i)],[[]],[]⟩=EvX C fr (.x 0) ⟨[(0,L 1 (xs.map Plan.c)),(1,I (Zb7 Plan.sz (xs.drop i) left)),(5,I xs.length),(15,Bo false)],[[]],[]⟩:=by
 have hm:maxLen≤9223372036854775807:=by decide
 have hl:=h.1;refine down xs.length ?_ ?_
 ·intro left;right;rw[Ze Zj6.eq_1];simp[Yb0,Zb7]
 ·intro i hi ih left;have h4:IntKind.wrap .i64 ((i:Int)+1)=(i:Int)+1:=Zt (by omega) (by omega);have e:EvL C fr [0,1,5] Zj6 ⟨[(0,L 1 (xs.map Plan.c)),(1,I left),(5,I i)],[[]],[]⟩=if Plan.sz xs[i] left<0 then EvX C fr .r ⟨[(4,I (-1))],[[]],[]⟩else EvL C fr [0,1,5] Zj6 ⟨[(0,L 1 (xs.map Plan.c)),(1,I (Plan.sz xs[i] left)),(5,I ((i+1:Nat):Int))],[[]],[]⟩:=by
   rw[Ze Zj6.eq_1];simp[hi,c_szPlan,h4]
  rw[e,Yf hi,Zb7];split
  ·exact .inl ⟨rfl,rfl⟩
  ·exact ih _
theorem Zbvl(xs:List Plan)(left:Int)(h:OkL Plan.okay xs):C Zbh7 [L 1 (xs.map Plan.c),I left] []=some (I (szL Plan.sz xs left),[]):=by
 refine run Zbte rfl ?_;have h3:=fun fr l=>Zbvk xs h fr 0 (Ya _) l
 simp at h3;simp[Zbej,szL,Zz,sz1];split
 ·simp_all
 ·rcases h3 [.blk 0,.seq _,.fin _ _] (IntKind.wrap .i64 (left-xs.length))with⟨h5,h6⟩|h5
  ·rw[h5];simp[h6]
  ·rw[h5];simp
theorem Zbvm(x0 x1 x2:Int)(x3 x4 x5:List Int)(x6:List Plan)(x7:List (List Int))(h3:SmA x3)(h4:SmA x4)(h5:SmA x5)(h6:SmL Plan.small x6)(h7:SmL SmA x7):C Zbhn [.agg [I x0,I x1,I x2,.t (tI x3),.t (tI x4),.t (tI x5),.t (.lst 1 (x6.map Plan.c)),.t (tII x7)]] []=some (.agg [I x0,I x1,I x2,.own 0,.own 1,.own 2,.own 3,.own 4],[.arr Zby 1 true (x3.map ic),.arr Zby 1 true (x4.map ic),.arr Zby 1 true (x5.map ic),.arr Zqt 1 true (x6.map Plan.c),.arr Zif 1 true (x7.map isc)]):=by
 refine run Zbsu rfl ?_;simp[Zbd1,c_toBox _ _ h3 h4,Zps _ h5,Zbvh _ h6,Zbe9 _ h7]
theorem Zbvn(x0 x1 x2:Int)(x3 x4 x5:List Int)(x6:List Plan)(x7:List (List Int))(y0 y1 y2:Int)(y3 y4 y5:List Int)(y6:List Plan)(y7:List (List Int))(h3:SmA x3)(h4:SmA x4)(h5:SmA x5)(h6:SmL Plan.small x6)(h7:SmL SmA x7):C Zbhr [.agg [I x0,I x1,I x2,.t (tI x3),.t (tI x4),.t (tI x5),.t (.lst 1 (x6.map Plan.c)),.t (tII x7)],.agg [I y0,I y1,I y2,.t (tI y3),.t (tI y4),.t (tI y5),.t (.lst 1 (y6.map Plan.c)),.t (tII y7)]] []=some (Bo (decide (x0=y0∧x1=y1∧x2=y2∧x3=y3∧x4=y4∧x5=y5∧x6=y6∧x7=y7)),[]):=by
 refine run Zbsy rfl ?_;simp[Zbd4,c_eqBox _ _ _ _ h3 h4,Zpt _ _ h5,Zbvj _ _ h6,Zbfa _ _ h7]
 repeat' split
 all_goals first|(simp_all;done)|grind
theorem Zbvo(x0 x1 x2:Int)(x3 x4 x5:List Int)(x6:List Plan)(x7:List (List Int))(left:Int)(h6:OkL Plan.okay x6)(h7:OkL (OkL OkI) x7):C Zbhk [.agg [I x0,I x1,I x2,.t (tI x3),.t (tI x4),.t (tI x5),.t (.lst 1 (x6.map Plan.c)),.t (tII x7)],I left] []=some (I (Zbb.sz ⟨x0,x1,x2,⟨x3,x4⟩,x5,x6,x7⟩ left),[]):=by
 refine run Zbsr rfl ?_;simp[Zbdy,c_szBox,Zt8,Zbvl _ _ h6,Zbfb _ _ h7,Zbb.sz,Zz,sz1]
 repeat' split
 all_goals first|(simp_all;done)|grind
theorem Zbvp(x0 x1 x2 x3:Int)(x4:Bool) :C Zbim [.agg [I x0,I x1,I x2,I x3,Bo x4]] []=some (.agg [I x0,I x1,I x2,I x3,Bo x4],[]):=by
 refine run Zbtt rfl ?_;simp[Zbet]
theorem Zbvq(x0 x1 x2 x3:Int)(x4:Bool)(y0 y1 y2 y3:Int)(y4:Bool) :C Zbin [.agg [I x0,I x1,I x2,I x3,Bo x4],.agg [I y0,I y1,I y2,I y3,Bo y4]] []=some (Bo (decide (x0=y0∧x1=y1∧x2=y2∧x3=y3∧x4=y4)),[]):=by
 refine run Zbtu rfl ?_;simp[Zbeu]
 repeat' split
 all_goals first|(simp_all;done)|grind
theorem Zbvr(xs:List Zu)(h:SmA xs)(fr:List Fr):∀i,i≤xs.length→EvL C fr [0,3,4] Ztt ⟨[(0,L 5 (xs.map Zu.c)),(3,.own 0),(4,I i)],[[]],[.arr Zve 5 true (fill Zu.c [.int .i64 0,.int .i64 0,.int .i64 0,.int .i64 0,.bool false] xs i)]⟩ =
  EvX C fr (.x 0) ⟨[(0,L 5 (xs.map Zu.c)),(3,.own 0),(4,I xs.length),(11,Bo false)],[[]],[.arr Zve 5 true (xs.map Zu.c)]⟩:=by
 have hl:xs.length≤4294967296:=h;refine down xs.length ?_ ?_
 ·rw[Ze Ztt.eq_1];simp[Zgv]
 ·intro i hi ih;rw[Ze Ztt.eq_1,←ih];have h1:=Zgx (f:=Zu.c) (z:=[.int .i64 0,.int .i64 0,.int .i64 0,.int .i64 0,.bool false]) hi;have h3:=Zgw (f:=Zu.c) (z:=[.int .i64 0,.int .i64 0,.int .i64 0,.int .i64 0,.bool false]) (Ycn hi);have h4:IntKind.wrap .i64 ((i:Int)+1)=(i:Int)+1:=Zt (by omega) (by omega);simp at h1;simp[hi,Zbvp,h3,h4,h1]
theorem Zbvs(xs:List Zu)(h:SmA xs):C Zbhx [L 5 (xs.map Zu.c)] []=some (.own 0,[.arr Zve 5 true (xs.map Zu.c)]):=by
 refine run Zbs4 rfl ?_;have hl:xs.length≤4294967296:=h;have h1:∀b,b≤4096→xs.length*b≤room:=fun b hb=>Ym (Ybs hl hb) (by decide)
 have h2:(xs.length:Int)≤140737488355328:=by omega
 have h3:=fun fr=>Zbvr xs h fr 0 (Ya _)
 simp[Zgu]at h3;simp[Zbea,h1,h2,h3]
theorem Zbvt(xs ys:List Zu)(h:SmA xs)(hl:ys.length=xs.length)(fr:List Fr):∀i,i≤xs.length→EvL C fr [0,1,5] Ztu ⟨[(0,L 5 (xs.map Zu.c)),(1,L 5 (ys.map Zu.c)),(5,I i)],[[]],[]⟩ =
  if xs.drop i=ys.drop i then EvX C fr (.x 0) ⟨[(0,L 5 (xs.map Zu.c)),(1,L 5 (ys.map Zu.c)),(5,I xs.length),(14,Bo false)],[[]],[]⟩else EvX C fr .r ⟨[(4,Bo false)],[[]],[]⟩:=by
 have hm:xs.length≤4294967296:=h;refine down xs.length ?_ ?_
 ·rw[Ze Ztu.eq_1];simp[hl,Yb0]
 ·intro i hi ih;have hi2:i<ys.length:=by omega
  have h4:IntKind.wrap .i64 ((i:Int)+1)=(i:Int)+1:=Zt (by omega) (by omega);rw[Ze Ztu.eq_1];simp +decide[hi,hi2,Zbvq _ _ _ _ _ _ _ _ _ _ ,h4];simp at ih;simp only[Zgy hi hi2,ih,Zu.ext_iff];split<;>first|(simp_all;done)|grind
theorem Zbvu(xs ys:List Zu)(h:SmA xs):C Zbhy [L 5 (xs.map Zu.c),L 5 (ys.map Zu.c)] []=some (Bo (decide (xs=ys)),[]):=by
 refine run Zbs5 rfl ?_;by_cases hl:ys.length=xs.length
 ·have h3:=fun fr=>Zbvt xs ys h hl fr 0 (Ya _)
  simp at h3;simp[Z05,h3,hl];split<;>simp_all
 ·have h1:xs≠ys:=fun h=>hl (by rw[h])
  have h2:¬((xs.length:Int)=ys.length):=by omega
  simp[Z05,h1,h2]
@[simp] theorem Zbvv(es:List (List T))(left:Int):C Zbhw [L 5 es,I left] []=some (I (sz1 es.length left),[]):=by
 refine run Zbs3 rfl ?_;simp[Zbd9,sz1];split<;>simp_all
theorem Zbfd(m:Zj)(d:Zk)(q:Zd)(b:Zbb)(l:List Zu)(hm:m.okay)(hd:d.okay)(hq:q.okay)(hb:b.okay)(hl:OkL Zu.okay l):C Zbhh [.agg (m.c.map .t),.agg (d.c.map .t),.agg (q.c.map .t),.agg (b.c.map .t),L 5 (l.map Zu.c)] []=some (Bo true,[]):=by
 refine run Zbso rfl ?_;have e1:=fun l=>Zbu8 m.Scan.Fixed m.Scan.Z2 m.Scan.Z3 m.Scan.Z4 m.Scan.Z5 m.Scan.Steps m.Sort_.Fixed m.Sort_.Z2 m.Sort_.Z3 m.Sort_.Z4 m.Sort_.Z5 m.Sort_.Steps m.Hash.Fixed m.Hash.Z2 m.Hash.Z3 m.Hash.Z4 m.Hash.Z5 m.Hash.Steps m.Merge.Fixed m.Merge.Z2 m.Merge.Z3 m.Merge.Z4 m.Merge.Z5 m.Merge.Steps m.Nested.Fixed m.Nested.Z2 m.Nested.Z3 m.Nested.Z4 m.Nested.Z5 m.Nested.Steps l
 by_cases h1:Zj.sz m (1048576)<0
 ·simp[Zj4,e1,h1]
 obtain⟨b1,g1⟩:=Zj.sz_ok m _ hm (by omega) (by omega) (by omega:0≤Zj.sz m (1048576));have e2:=fun l=>Zbuo d.Tables l (hd)
 by_cases h2:Zk.sz d (Zj.sz m (1048576))<0
 ·simp[Zj4,e1,h1,e2,h2]
 obtain⟨b2,g2⟩:=Zk.sz_ok d _ hd (by omega) (by omega) (by omega:0≤Zk.sz d (Zj.sz m (1048576)));have e3:=fun l=>Zbux q.Zn q.Atoms l (hq.2)
 by_cases h3:Zd.sz q (Zk.sz d (Zj.sz m (1048576)))<0
 ·simp[Zj4,e1,h1,e2,h2,e3,h3]
 obtain⟨b3,g3⟩:=Zd.sz_ok q _ hq (by omega) (by omega) (by omega:0≤Zd.sz q (Zk.sz d (Zj.sz m (1048576))));have e4:=fun l=>Zbvo b.Version b.Ratio b.Slack b.Box.Low b.Box.High b.Budgets b.Plans b.Contours l (hb.2.2.2.2.2.2.1) (hb.2.2.2.2.2.2.2)
 by_cases h4:Zbb.sz b (Zd.sz q (Zk.sz d (Zj.sz m (1048576))))<0
 ·simp[Zj4,e1,h1,e2,h2,e3,h3,e4,h4]
 obtain⟨b4,g4⟩:=Zbb.sz_ok b _ hb (by omega) (by omega) (by omega:0≤Zbb.sz b (Zd.sz q (Zk.sz d (Zj.sz m (1048576)))));have e5:=fun(es:List (List T)) l=>Zbvv es l
 by_cases h5:sz1 l.length (Zbb.sz b (Zd.sz q (Zk.sz d (Zj.sz m (1048576)))))<0
 ·simp[Zj4,e1,h1,e2,h2,e3,h3,e4,h4,e5,h5]
 have g5:l.length≤1048576:=(sz1_ok hl.1 (by omega) (by omega) (by omega:0≤sz1 l.length (Zbb.sz b (Zd.sz q (Zk.sz d (Zj.sz m (1048576))))))).2;have t1:=Zbu6 m.Scan.Fixed m.Scan.Z2 m.Scan.Z3 m.Scan.Z4 m.Scan.Z5 m.Scan.Steps m.Sort_.Fixed m.Sort_.Z2 m.Sort_.Z3 m.Sort_.Z4 m.Sort_.Z5 m.Sort_.Steps m.Hash.Fixed m.Hash.Z2 m.Hash.Z3 m.Hash.Z4 m.Hash.Z5 m.Hash.Steps m.Merge.Fixed m.Merge.Z2 m.Merge.Z3 m.Merge.Z4 m.Merge.Z5 m.Merge.Steps m.Nested.Fixed m.Nested.Z2 m.Nested.Z3 m.Nested.Z4 m.Nested.Z5 m.Nested.Steps (g1.1) (g1.2.1) (g1.2.2.1) (g1.2.2.2.1) (g1.2.2.2.2);have q1:=fun y0 y1 y2 y3 y4 y5 y6 y7 y8 y9 y10 y11 y12 y13 y14 y15 y16 y17 y18 y19 y20 y21 y22 y23 y24 y25 y26 y27 y28 y29=>Zbu7 m.Scan.Fixed m.Scan.Z2 m.Scan.Z3 m.Scan.Z4 m.Scan.Z5 m.Scan.Steps m.Sort_.Fixed m.Sort_.Z2 m.Sort_.Z3 m.Sort_.Z4 m.Sort_.Z5 m.Sort_.Steps m.Hash.Fixed m.Hash.Z2 m.Hash.Z3 m.Hash.Z4 m.Hash.Z5 m.Hash.Steps m.Merge.Fixed m.Merge.Z2 m.Merge.Z3 m.Merge.Z4 m.Merge.Z5 m.Merge.Steps m.Nested.Fixed m.Nested.Z2 m.Nested.Z3 m.Nested.Z4 m.Nested.Z5 m.Nested.Steps y0 y1 y2 y3 y4 y5 y6 y7 y8 y9 y10 y11 y12 y13 y14 y15 y16 y17 y18 y19 y20 y21 y22 y23 y24 y25 y26 y27 y28 y29 (g1.1) (g1.2.1) (g1.2.2.1) (g1.2.2.2.1) (g1.2.2.2.2)
 have t2:=Zbum d.Tables (g2);have q2:=fun y0=>Zbun d.Tables y0 (g2)
 have t3:=Zbuv q.Zn q.Atoms (g3);have q3:=fun y0 y1=>Zbuw q.Zn q.Atoms y0 y1 (g3)
 have t4:=Zbvm b.Version b.Ratio b.Slack b.Box.Low b.Box.High b.Budgets b.Plans b.Contours (g4.1) (g4.2.1) (g4.2.2.1) (g4.2.2.2.1) (g4.2.2.2.2);have q4:=fun y0 y1 y2 y3 y4 y5 y6 y7=>Zbvn b.Version b.Ratio b.Slack b.Box.Low b.Box.High b.Budgets b.Plans b.Contours y0 y1 y2 y3 y4 y5 y6 y7 (g4.1) (g4.2.1) (g4.2.2.1) (g4.2.2.2.1) (g4.2.2.2.2)
 have i5:SmA l:=by omega
 have t5:=Zbvs l i5;have q5:=fun y=>Zbvu l y i5
 have nm:LeM m:=⟨by have:=g1.1;omega,by have:=g1.2.1;omega,by have:=g1.2.2.1;omega,by have:=g1.2.2.2.1;omega,by have:=g1.2.2.2.2;omega⟩;have nq:LeQ q:=⟨by have:=g3.1;omega,fun x hx=>by have:=(g3.2 x hx).2;omega⟩;have nd:LeD d:=⟨by have:=g2.1;omega,fun t ht=>⟨by have:=(g2.2 t ht).2.1;omega,fun r hr=>by have:=(g2.2 t ht).2.2 r hr;omega⟩⟩;have  nb:b.Plans.length≤4294967296:=by have:=g4.2.2.2.1.1;omega
 have s0:=Zbsn nm nd nq b nb l (by omega);have s1:=Zbsm nm nd nq b nb l (by omega);unfold Zss at s0;unfold Zr1 at s1;simp only[Zj.c_def,Zk.c_def,Zd.c_def,Zbb.c_def,tI,tII,Ys,Ycx]at s0 s1;simp +decide[Zj4,e1,h1,e2,h2,e3,h3,e4,h4,e5,h5,t1,q1,t2,q2,t3,q3,t4,q4,t5,q5,s0,s1]
end Go.Proofs.YtgnfoghkbpkgjaaGreat
