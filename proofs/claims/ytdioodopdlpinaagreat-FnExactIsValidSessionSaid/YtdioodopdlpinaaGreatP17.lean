/-
  Parts of the proofs for this seat: FA L41 SE1 CPL CPW CPS SI KI KS SX.
-/
import Derived.BigQuiet
import Derived.BigRegion
import Derived.Deep.QuietTactic
import Derived.Lib.SlicesCompact
import Derived.Shelf.SlSortCmp.NoneTotal
import Derived.Shelf.Slices.CompactI
import Derived.Shelf.Slices.In.SortNone
import Derived.Shelf.Sort.Plain
import Derived.Test.YtdioodopdlpinaaGreatP7
import Derived.Test.YtdioodopdlpinaaGreatP14
import Derived.Test.YtdioodopdlpinaaGreatP16
set_option linter.unusedSimpArgs false
set_option linter.unusedVariables false
set_option maxRecDepth 100000
set_option maxHeartbeats 4000000
namespace Go.Proofs.YtdioodopdlpinaaGreat
open Go.AM
theorem l_toIntS(xs:List Int)(h:SmA xs)(fr:List Fr):∀i,i<=xs.length->EvL C fr [0,3,4] Zz3 ⟨[(0,L 1 (xs.map ic)),(3,.own 0),(4,I i)],[[]],[.arr Zbc 1 true (fill ic [.int .i64 0] xs i)]⟩ =
  EvX C fr (.x 0) ⟨[(0,L 1 (xs.map ic)),(3,.own 0),(4,I xs.length),(11,Bo false)],[[]],[.arr Zbc 1 true (xs.map ic)]⟩:=by
 have hl:xs.length<=4294967296:=h;refine down xs.length ?_ ?_
 .rw[Zi Zz3.eq_1];simp[Zgn]
 .intro i hi ih;rw[Zi Zz3.eq_1,<-ih];have h1:=Zgp (f:=ic) (z:=[.int .i64 0]) hi;have h3:=Zgo (f:=ic) (z:=[.int .i64 0]) (Ybq hi);have h4:IntKind.wrap .i64 ((i:Int)+1)=(i:Int)+1:=Z2 (by omega) (by omega);simp at h1;simp[hi,h3,h4,h1]
theorem Zmi(xs:List Int)(h:SmA xs):C Zbv4 [L 1 (xs.map ic)] []=some (.own 0,[.arr Zbc 1 true (xs.map ic)]):=by
 refine run Zceb rfl ?_;have hl:xs.length<=4294967296:=h;have h1:∀b,b<=4096->xs.length*b<=room:=λb hb=>Yq (Ybp hl hb) (by decide)
 have h2:(xs.length:Int)<=140737488355328:=by omega
 have h3:=λfr=>l_toIntS xs h fr 0 (Ya _)
 simp[Zgm]at h3;simp[Zbq5,h1,h2,h3]
theorem l_eqIntS(xs ys:List Int)(h:SmA xs)(hl:ys.length=xs.length)(fr:List Fr):∀i,i<=xs.length->EvL C fr [0,1,5] Zz4 ⟨[(0,L 1 (xs.map ic)),(1,L 1 (ys.map ic)),(5,I i)],[[]],[]⟩ =
  if xs.drop i=ys.drop i then EvX C fr (.x 0) ⟨[(0,L 1 (xs.map ic)),(1,L 1 (ys.map ic)),(5,I xs.length),(14,Bo false)],[[]],[]⟩else EvX C fr .r ⟨[(4,Bo false)],[[]],[]⟩:=by
 have hm:xs.length<=4294967296:=h;refine down xs.length ?_ ?_
 .rw[Zi Zz4.eq_1];simp[hl,Ybc]
 .intro i hi ih;have hi2:i<ys.length:=by omega
  have h4:IntKind.wrap .i64 ((i:Int)+1)=(i:Int)+1:=Z2 (by omega) (by omega);rw[Zi Zz4.eq_1];simp +decide[hi,hi2,h4];simp at ih;simp only[Zgq hi hi2,ih];split<;>first|(simp_all;done)|grind
theorem Zmj(xs ys:List Int)(h:SmA xs):C Zbwa [L 1 (xs.map ic),L 1 (ys.map ic)] []=some (Bo (decide (xs=ys)),[]):=by
 refine run Zceh rfl ?_;by_cases hl:ys.length=xs.length
 .have h3:=λfr=>l_eqIntS xs ys h hl fr 0 (Ya _)
  simp at h3;simp[Z9b,h3,hl];split<;>simp_all
 .have h1:xs≠ys:=λh=>hl (by rw[h])
  have h2:¬((xs.length:Int)=ys.length):=by omega
  simp[Z9b,h1,h2]
@[simp] theorem Zux(es:List (List T))(c:Int):C Zbvz [L 1 es,I c] []=some (I (sz1 es.length c),[]):=by
 refine run Zcd6 rfl ?_;simp[Zbq0,sz1];split<;>simp_all
theorem Zcfb(xs:List (List Int))(h:SmL SmA xs)(fr:List Fr):∀i,i<=xs.length->EvL C fr [0,3,4] Zz5 ⟨[(0,L 1 (xs.map isc)),(3,.own 0),(4,I i)],[[]],[.arr Zkn 1 true (fill isc [.lst 1 []] xs i)]⟩ =
  EvX C fr (.x 0) ⟨[(0,L 1 (xs.map isc)),(3,.own 0),(4,I xs.length),(11,Bo false)],[[]],[.arr Zkn 1 true (xs.map isc)]⟩:=by
 have hl:xs.length<=4294967296:=h.1;refine down xs.length ?_ ?_
 .rw[Zi Zz5.eq_1];simp[Zgn]
 .intro i hi ih;rw[Zi Zz5.eq_1,<-ih];have h1:=Zgp (f:=isc) (z:=[.lst 1 []]) hi;have h3:=Zgo (f:=isc) (z:=[.lst 1 []]) (Ybq hi);have h4:IntKind.wrap .i64 ((i:Int)+1)=(i:Int)+1:=Z2 (by omega) (by omega);simp at h1;simp[hi,Zmi _ (h.2 _ (Yd hi)),h3,h4,h1]
theorem Zbr0(xs:List (List Int))(h:SmL SmA xs):C Zbwj [L 1 (xs.map isc)] []=some (.own 0,[.arr Zkn 1 true (xs.map isc)]):=by
 refine run Zceq rfl ?_;have hl:xs.length<=4294967296:=h.1;have h1:∀b,b<=4096->xs.length*b<=room:=λb hb=>Yq (Ybp hl hb) (by decide)
 have h2:(xs.length:Int)<=140737488355328:=by omega
 have h3:=λfr=>Zcfb xs h fr 0 (Ya _)
 simp[Zgm]at h3;simp[Zbrj,h1,h2,h3]
theorem Zcfc(xs ys:List (List Int))(h:SmL SmA xs)(hl:ys.length=xs.length)(fr:List Fr):∀i,i<=xs.length->EvL C fr [0,1,5] Zz8 ⟨[(0,L 1 (xs.map isc)),(1,L 1 (ys.map isc)),(5,I i)],[[]],[]⟩ =
  if xs.drop i=ys.drop i then EvX C fr (.x 0) ⟨[(0,L 1 (xs.map isc)),(1,L 1 (ys.map isc)),(5,I xs.length),(14,Bo false)],[[]],[]⟩else EvX C fr .r ⟨[(4,Bo false)],[[]],[]⟩:=by
 have hm:xs.length<=4294967296:=h.1;refine down xs.length ?_ ?_
 .rw[Zi Zz8.eq_1];simp[hl,Ybc]
 .intro i hi ih;have hi2:i<ys.length:=by omega
  have h4:IntKind.wrap .i64 ((i:Int)+1)=(i:Int)+1:=Z2 (by omega) (by omega);rw[Zi Zz8.eq_1];simp +decide[hi,hi2,Zmj _ _ (h.2 _ (Yd hi)),h4];simp at ih;simp only[Zgq hi hi2,ih];split<;>first|(simp_all;done)|grind
theorem Zbr1(xs ys:List (List Int))(h:SmL SmA xs):C Zbwo [L 1 (xs.map isc),L 1 (ys.map isc)] []=some (Bo (decide (xs=ys)),[]):=by
 refine run Zcev rfl ?_;by_cases hl:ys.length=xs.length
 .have h3:=λfr=>Zcfc xs ys h hl fr 0 (Ya _)
  simp at h3;simp[Z9c,h3,hl];split<;>simp_all
 .have h1:xs≠ys:=λh=>hl (by rw[h])
  have h2:¬((xs.length:Int)=ys.length):=by omega
  simp[Z9c,h1,h2]
theorem Zcfd(xs:List (List Int))(h:OkL (OkL OkI) xs)(fr:List Fr):∀i,i<=xs.length->∀left:Int,
  (EvL C fr [0,1,5] Zmf ⟨[(0,L 1 (xs.map isc)),(1,I left),(5,I i)],[[]],[]⟩=EvX C fr .r ⟨[(4,I (-1))],[[]],[]⟩/\Zbs szI (xs.drop i) left=-1)\/
  EvL C fr [0,1,5] Zmf ⟨[(0,L 1 (xs.map isc)),(1,I left),(5,I i)],[[]],[]⟩=EvX C fr (.x 0) ⟨[(0,L 1 (xs.map isc)),(1,I (Zbs szI (xs.drop i) left)),(5,I xs.length),(15,Bo false)],[[]],[]⟩:=by
 have hm:maxLen<=9223372036854775807:=by decide
 have hl:=h.1;refine down xs.length ?_ ?_
 .intro left;right;rw[Zi Zmf.eq_1];simp[Ybc,Zbs]
 .intro i hi ih left;have h4:IntKind.wrap .i64 ((i:Int)+1)=(i:Int)+1:=Z2 (by omega) (by omega);have e:EvL C fr [0,1,5] Zmf ⟨[(0,L 1 (xs.map isc)),(1,I left),(5,I i)],[[]],[]⟩=if szI xs[i] left<0 then EvX C fr .r ⟨[(4,I (-1))],[[]],[]⟩else EvL C fr [0,1,5] Zmf ⟨[(0,L 1 (xs.map isc)),(1,I (szI xs[i] left)),(5,I ((i+1:Nat):Int))],[[]],[]⟩:=by
   rw[Zi Zmf.eq_1];simp[hi,Zux,h4]
  rw[e,Yf hi,Zbs];split
  .exact .inl ⟨rfl,rfl⟩
  .exact ih _
theorem Zbr2(xs:List (List Int))(c:Int)(h:OkL (OkL OkI) xs):C Zbwe [L 1 (xs.map isc),I c] []=some (I (szL szI xs c),[]):=by
 refine run Zcel rfl ?_;have h3:=λfr l=>Zcfd xs h fr 0 (Ya _) l
 simp at h3;simp[Zbre,szL,Zz,sz1];split
 .simp_all
 .rcases h3 [.blk 0,.seq _,.fin _ _] (IntKind.wrap .i64 (c-xs.length))with⟨h5,h6⟩|h5
  .rw[h5];simp[h6]
  .rw[h5];simp
theorem Zcfe(x0:ByteArray)(x1:Int)(x2:List (List Int))(h2:SmL SmA x2):C Zbv2 [.agg [.t (.str x0),I x1,.t (tII x2)]] []=some (.agg [.t (.str x0),I x1,.own 0],[.arr Zkn 1 true (x2.map isc)]):=by
 refine run Zcd9 rfl ?_;simp[Zbq3,Zbr0 _ h2]
theorem Zcff(x0:ByteArray)(x1:Int)(x2:List (List Int))(y0:ByteArray)(y1:Int)(y2:List (List Int))(h2:SmL SmA x2):C Zbv8 [.agg [.t (.str x0),I x1,.t (tII x2)],.agg [.t (.str y0),I y1,.t (tII y2)]] []=some (Bo (decide (x0=y0/\x1=y1/\x2=y2)),[]):=by
 refine run Zcef rfl ?_;simp[Zbq9,Zbr1 _ _ h2]
 repeat' split
 all_goals first|(simp_all;done)|grind
theorem Zcfg(x0:ByteArray)(x1:Int)(x2:List (List Int))(c:Int)(h2:OkL (OkL OkI) x2):C Zbvx [.agg [.t (.str x0),I x1,.t (tII x2)],I c] []=some (I (Zh.sz ⟨x0,x1,x2⟩ c),[]):=by
 refine run Zcd4 rfl ?_;simp[Zbqy,Zbr2 _ _ h2,Zh.sz,Zz,sz1]
 repeat' split
 all_goals first|(simp_all;done)|grind
theorem Zcfh(xs:List Zh)(h:SmL Zh.small xs)(fr:List Fr):∀i,i<=xs.length->EvL C fr [0,3,4] Zzx ⟨[(0,L 3 (xs.map Zh.c)),(3,.own 0),(4,I i)],[[]],[.arr Zm4 3 true (fill Zh.c [.str ⟨#[]⟩,.int .i64 0,.lst 1 []] xs i)]⟩ =
  EvX C fr (.x 0) ⟨[(0,L 3 (xs.map Zh.c)),(3,.own 0),(4,I xs.length),(11,Bo false)],[[]],[.arr Zm4 3 true (xs.map Zh.c)]⟩:=by
 have hl:xs.length<=4294967296:=h.1;refine down xs.length ?_ ?_
 .rw[Zi Zzx.eq_1];simp[Zgn]
 .intro i hi ih;rw[Zi Zzx.eq_1,<-ih];have h1:=Zgp (f:=Zh.c) (z:=[.str ⟨#[]⟩,.int .i64 0,.lst 1 []]) hi;have h3:=Zgo (f:=Zh.c) (z:=[.str ⟨#[]⟩,.int .i64 0,.lst 1 []]) (Ybq hi);have h4:IntKind.wrap .i64 ((i:Int)+1)=(i:Int)+1:=Z2 (by omega) (by omega);simp at h1;simp[hi,Zcfe _ _ _ (h.2 _ (Yd hi)).2,h3,h4,h1]
theorem Zcfi(xs:List Zh)(h:SmL Zh.small xs):C Zbvl [L 3 (xs.map Zh.c)] []=some (.own 0,[.arr Zm4 3 true (xs.map Zh.c)]):=by
 refine run Zcds rfl ?_;have hl:xs.length<=4294967296:=h.1;have h1:∀b,b<=4096->xs.length*b<=room:=λb hb=>Yq (Ybp hl hb) (by decide)
 have h2:(xs.length:Int)<=140737488355328:=by omega
 have h3:=λfr=>Zcfh xs h fr 0 (Ya _)
 simp[Zgm]at h3;simp[Zbqp,h1,h2,h3]
theorem Zcfj(xs ys:List Zh)(h:SmL Zh.small xs)(hl:ys.length=xs.length)(fr:List Fr):∀i,i<=xs.length->EvL C fr [0,1,5] Zz0 ⟨[(0,L 3 (xs.map Zh.c)),(1,L 3 (ys.map Zh.c)),(5,I i)],[[]],[]⟩ =
  if xs.drop i=ys.drop i then EvX C fr (.x 0) ⟨[(0,L 3 (xs.map Zh.c)),(1,L 3 (ys.map Zh.c)),(5,I xs.length),(14,Bo false)],[[]],[]⟩else EvX C fr .r ⟨[(4,Bo false)],[[]],[]⟩:=by
 have hm:xs.length<=4294967296:=h.1;refine down xs.length ?_ ?_
 .rw[Zi Zz0.eq_1];simp[hl,Ybc]
 .intro i hi ih;have hi2:i<ys.length:=by omega
  have h4:IntKind.wrap .i64 ((i:Int)+1)=(i:Int)+1:=Z2 (by omega) (by omega);rw[Zi Zz0.eq_1];simp +decide[hi,hi2,Zcff _ _ _ _ _ _ (h.2 _ (Yd hi)).2,h4];simp at ih;simp only[Zgq hi hi2,ih,Zh.ext_iff];split<;>first|(simp_all;done)|grind
theorem Zcfk(xs ys:List Zh)(h:SmL Zh.small xs):C Zbvr [L 3 (xs.map Zh.c),L 3 (ys.map Zh.c)] []=some (Bo (decide (xs=ys)),[]):=by
 refine run Zcdy rfl ?_;by_cases hl:ys.length=xs.length
 .have h3:=λfr=>Zcfj xs ys h hl fr 0 (Ya _)
  simp at h3;simp[Z88,h3,hl];split<;>simp_all
 .have h1:xs≠ys:=λh=>hl (by rw[h])
  have h2:¬((xs.length:Int)=ys.length):=by omega
  simp[Z88,h1,h2]
theorem Zcfl(xs:List Zh)(h:OkL Zh.okay xs)(fr:List Fr):∀i,i<=xs.length->∀left:Int,
  (EvL C fr [0,1,5] Zmd ⟨[(0,L 3 (xs.map Zh.c)),(1,I left),(5,I i)],[[]],[]⟩=EvX C fr .r ⟨[(4,I (-1))],[[]],[]⟩/\Zbs Zh.sz (xs.drop i) left=-1)\/
  EvL C fr [0,1,5] Zmd ⟨[(0,L 3 (xs.map Zh.c)),(1,I left),(5,I i)],[[]],[]⟩=EvX C fr (.x 0) ⟨[(0,L 3 (xs.map Zh.c)),(1,I (Zbs Zh.sz (xs.drop i) left)),(5,I xs.length),(15,Bo false)],[[]],[]⟩:=by
 have hm:maxLen<=9223372036854775807:=by decide
 have hl:=h.1;refine down xs.length ?_ ?_
 .intro left;right;rw[Zi Zmd.eq_1];simp[Ybc,Zbs]
 .intro i hi ih left;have h4:IntKind.wrap .i64 ((i:Int)+1)=(i:Int)+1:=Z2 (by omega) (by omega);have e:EvL C fr [0,1,5] Zmd ⟨[(0,L 3 (xs.map Zh.c)),(1,I left),(5,I i)],[[]],[]⟩=if Zh.sz xs[i] left<0 then EvX C fr .r ⟨[(4,I (-1))],[[]],[]⟩else EvL C fr [0,1,5] Zmd ⟨[(0,L 3 (xs.map Zh.c)),(1,I (Zh.sz xs[i] left)),(5,I ((i+1:Nat):Int))],[[]],[]⟩:=by
   rw[Zi Zmd.eq_1];simp[hi,Zcfg _ _ _ _ (h.2 _ (Yd hi)).2.2,h4]
  rw[e,Yf hi,Zbs];split
  .exact .inl ⟨rfl,rfl⟩
  .exact ih _
theorem Zcfm(xs:List Zh)(cc:Int)(h:OkL Zh.okay xs):C Zbvf [L 3 (xs.map Zh.c),I cc] []=some (I (szL Zh.sz xs cc),[]):=by
 refine run Zcdm rfl ?_;have h3:=λfr l=>Zcfl xs h fr 0 (Ya _) l
 simp at h3;simp[Zbqj,szL,Zz,sz1];split
 .simp_all
 .rcases h3 [.blk 0,.seq _,.fin _ _] (IntKind.wrap .i64 (cc-xs.length))with⟨h5,h6⟩|h5
  .rw[h5];simp[h6]
  .rw[h5];simp
theorem Zcfn(x0:List Zh)(h0:SmL Zh.small x0):C Zbu3 [.agg [.t (.lst 3 (x0.map Zh.c))]] []=some (.agg [.own 0],[.arr Zm4 3 true (x0.map Zh.c)]):=by
 refine run Zcda rfl ?_;simp[Zbqa,Zcfi _ h0]
theorem Zcfo(x0 y0:List Zh)(h0:SmL Zh.small x0):C Zbu9 [.agg [.t (.lst 3 (x0.map Zh.c))],.agg [.t (.lst 3 (y0.map Zh.c))]] []=some (Bo (decide (x0=y0)),[]):=by
 refine run Zcdg rfl ?_;simp[Zbqg,Zcfk _ _ h0]
 repeat' split
 all_goals first|(simp_all;done)|grind
theorem Zcfp(x0:List Zh)(cc:Int)(h0:OkL Zh.okay x0):C Zbux [.agg [.t (.lst 3 (x0.map Zh.c))],I cc] []=some (I (Zm.sz ⟨x0⟩ cc),[]):=by
 refine run Zcc4 rfl ?_;simp[Zbp4,Zcfm _ _ h0,Zm.sz,Zz,sz1]
 repeat' split
 all_goals first|(simp_all;done)|grind
theorem c_toAtom(x0:ByteArray)(x1:List Int)(h1:SmA x1):C Zbwx [.agg [.t (.str x0),.t (tI x1)]] []=some (.agg [.t (.str x0),.own 0],[.arr Zbc 1 true (x1.map ic)]):=by
 refine run Zce4 rfl ?_;simp[Zbru,Zmi _ h1]
theorem c_eqAtom(x0:ByteArray)(x1:List Int)(y0:ByteArray)(y1:List Int)(h1:SmA x1):C Zbw0 [.agg [.t (.str x0),.t (tI x1)],.agg [.t (.str y0),.t (tI y1)]] []=some (Bo (decide (x0=y0/\x1=y1)),[]):=by
 refine run Zce7 rfl ?_;simp[Zbrx,Zmj _ _ h1]
 repeat' split
 all_goals first|(simp_all;done)|grind
theorem c_szAtom(x0:ByteArray)(x1:List Int)(c:Int) :C Zbwu [.agg [.t (.str x0),.t (tI x1)],I c] []=some (I (Atom.sz ⟨x0,x1⟩ c),[]):=by
 refine run Zce1 rfl ?_;simp[Zbrr,Zux,Atom.sz,Zz,sz1]
 repeat' split
 all_goals first|(simp_all;done)|grind
theorem Zcfq(xs:List Atom)(h:SmL Atom.small xs)(fr:List Fr):∀i,i<=xs.length->EvL C fr [0,3,4] Zz7 ⟨[(0,L 2 (xs.map Atom.c)),(3,.own 0),(4,I i)],[[]],[.arr Zqw 2 true (fill Atom.c [.str ⟨#[]⟩,.lst 1 []] xs i)]⟩ =
  EvX C fr (.x 0) ⟨[(0,L 2 (xs.map Atom.c)),(3,.own 0),(4,I xs.length),(11,Bo false)],[[]],[.arr Zqw 2 true (xs.map Atom.c)]⟩:=by
 have hl:xs.length<=4294967296:=h.1;refine down xs.length ?_ ?_
 .rw[Zi Zz7.eq_1];simp[Zgn]
 .intro i hi ih;rw[Zi Zz7.eq_1,<-ih];have h1:=Zgp (f:=Atom.c) (z:=[.str ⟨#[]⟩,.lst 1 []]) hi;have h3:=Zgo (f:=Atom.c) (z:=[.str ⟨#[]⟩,.lst 1 []]) (Ybq hi);have h4:IntKind.wrap .i64 ((i:Int)+1)=(i:Int)+1:=Z2 (by omega) (by omega);simp at h1;simp[hi,c_toAtom _ _ (h.2 _ (Yd hi)).2,h3,h4,h1]
theorem Zcfr(xs:List Atom)(h:SmL Atom.small xs):C Zbwl [L 2 (xs.map Atom.c)] []=some (.own 0,[.arr Zqw 2 true (xs.map Atom.c)]):=by
 refine run Zces rfl ?_;have hl:xs.length<=4294967296:=h.1;have h1:∀b,b<=4096->xs.length*b<=room:=λb hb=>Yq (Ybp hl hb) (by decide)
 have h2:(xs.length:Int)<=140737488355328:=by omega
 have h3:=λfr=>Zcfq xs h fr 0 (Ya _)
 simp[Zgm]at h3;simp[Zbrl,h1,h2,h3]
theorem Zcfs(xs ys:List Atom)(h:SmL Atom.small xs)(hl:ys.length=xs.length)(fr:List Fr):∀i,i<=xs.length->EvL C fr [0,1,5] Z0a ⟨[(0,L 2 (xs.map Atom.c)),(1,L 2 (ys.map Atom.c)),(5,I i)],[[]],[]⟩ =
  if xs.drop i=ys.drop i then EvX C fr (.x 0) ⟨[(0,L 2 (xs.map Atom.c)),(1,L 2 (ys.map Atom.c)),(5,I xs.length),(14,Bo false)],[[]],[]⟩else EvX C fr .r ⟨[(4,Bo false)],[[]],[]⟩:=by
 have hm:xs.length<=4294967296:=h.1;refine down xs.length ?_ ?_
 .rw[Zi Z0a.eq_1];simp[hl,Ybc]
 .intro i hi ih;have hi2:i<ys.length:=by omega
  have h4:IntKind.wrap .i64 ((i:Int)+1)=(i:Int)+1:=Z2 (by omega) (by omega);rw[Zi Z0a.eq_1];simp +decide[hi,hi2,c_eqAtom _ _ _ _ (h.2 _ (Yd hi)).2,h4];simp at ih;simp only[Zgq hi hi2,ih,Atom.ext_iff];split<;>first|(simp_all;done)|grind
theorem Zcft(xs ys:List Atom)(h:SmL Atom.small xs):C Zbwq [L 2 (xs.map Atom.c),L 2 (ys.map Atom.c)] []=some (Bo (decide (xs=ys)),[]):=by
 refine run Zcex rfl ?_;by_cases hl:ys.length=xs.length
 .have h3:=λfr=>Zcfs xs ys h hl fr 0 (Ya _)
  simp at h3;simp[Z9e,h3,hl];split<;>simp_all
 .have h1:xs≠ys:=λh=>hl (by rw[h])
  have h2:¬((xs.length:Int)=ys.length):=by omega
  simp[Z9e,h1,h2]
theorem Zcfu(xs:List Atom)(h:OkL Atom.okay xs)(fr:List Fr):∀i,i<=xs.length->∀left:Int,
  (EvL C fr [0,1,5] Zmh ⟨[(0,L 2 (xs.map Atom.c)),(1,I left),(5,I i)],[[]],[]⟩=EvX C fr .r ⟨[(4,I (-1))],[[]],[]⟩/\Zbs Atom.sz (xs.drop i) left=-1)\/
  EvL C fr [0,1,5] Zmh ⟨[(0,L 2 (xs.map Atom.c)),(1,I left),(5,I i)],[[]],[]⟩=EvX C fr (.x 0) ⟨[(0,L 2 (xs.map Atom.c)),(1,I (Zbs Atom.sz (xs.drop i) left)),(5,I xs.length),(15,Bo false)],[[]],[]⟩:=by
 have hm:maxLen<=9223372036854775807:=by decide
 have hl:=h.1;refine down xs.length ?_ ?_
 .intro left;right;rw[Zi Zmh.eq_1];simp[Ybc,Zbs]
 .intro i hi ih left;have h4:IntKind.wrap .i64 ((i:Int)+1)=(i:Int)+1:=Z2 (by omega) (by omega);have e:EvL C fr [0,1,5] Zmh ⟨[(0,L 2 (xs.map Atom.c)),(1,I left),(5,I i)],[[]],[]⟩=if Atom.sz xs[i] left<0 then EvX C fr .r ⟨[(4,I (-1))],[[]],[]⟩else EvL C fr [0,1,5] Zmh ⟨[(0,L 2 (xs.map Atom.c)),(1,I (Atom.sz xs[i] left)),(5,I ((i+1:Nat):Int))],[[]],[]⟩:=by
   rw[Zi Zmh.eq_1];simp[hi,c_szAtom,h4]
  rw[e,Yf hi,Zbs];split
  .exact .inl ⟨rfl,rfl⟩
  .exact ih _
theorem Zcfv(xs:List Atom)(cc:Int)(h:OkL Atom.okay xs):C Zbwg [L 2 (xs.map Atom.c),I cc] []=some (I (szL Atom.sz xs cc),[]):=by
 refine run Zcen rfl ?_;have h3:=λfr l=>Zcfu xs h fr 0 (Ya _) l
 simp at h3;simp[Zbrg,szL,Zz,sz1];split
 .simp_all
 .rcases h3 [.blk 0,.seq _,.fin _ _] (IntKind.wrap .i64 (cc-xs.length))with⟨h5,h6⟩|h5
  .rw[h5];simp[h6]
  .rw[h5];simp
theorem Zcfw(x0:Int)(x1:List Atom)(h1:SmL Atom.small x1):C Zbv6 [.agg [I x0,.t (.lst 2 (x1.map Atom.c))]] []=some (.agg [I x0,.own 0],[.arr Zqw 2 true (x1.map Atom.c)]):=by
 refine run Zced rfl ?_;simp[Zbq7,Zcfr _ h1]
theorem Zcfx(x0:Int)(x1:List Atom)(y0:Int)(y1:List Atom)(h1:SmL Atom.small x1):C Zbwc [.agg [I x0,.t (.lst 2 (x1.map Atom.c))],.agg [I y0,.t (.lst 2 (y1.map Atom.c))]] []=some (Bo (decide (x0=y0/\x1=y1)),[]):=by
 refine run Zcej rfl ?_;simp[Zbrc,Zcft _ _ h1]
 repeat' split
 all_goals first|(simp_all;done)|grind
theorem Zcfy(x0:Int)(x1:List Atom)(cc:Int)(h1:OkL Atom.okay x1):C Zbv0 [.agg [I x0,.t (.lst 2 (x1.map Atom.c))],I cc] []=some (I (Ze.sz ⟨x0,x1⟩ cc),[]):=by
 refine run Zcd7 rfl ?_;simp[Zbq1,Zcfv _ _ h1,Ze.sz,Zz,sz1]
 repeat' split
 all_goals first|(simp_all;done)|grind
theorem Zcfz(x0:ByteArray)(x1:List Int)(x2:Int)(h1:SmA x1):C Zbvn [.agg [.t (.str x0),.t (tI x1),I x2]] []=some (.agg [.t (.str x0),.own 0,I x2],[.arr Zbc 1 true (x1.map ic)]):=by
 refine run Zcdu rfl ?_;simp[Zbqr,Zmi _ h1]
theorem Zcf0(x0:ByteArray)(x1:List Int)(x2:Int)(y0:ByteArray)(y1:List Int)(y2:Int)(h1:SmA x1):C Zbvt [.agg [.t (.str x0),.t (tI x1),I x2],.agg [.t (.str y0),.t (tI y1),I y2]] []=some (Bo (decide (x0=y0/\x1=y1/\x2=y2)),[]):=by
 refine run Zcd0 rfl ?_;simp[Zbqv,Zmj _ _ h1]
 repeat' split
 all_goals first|(simp_all;done)|grind
theorem Zcf1(x0:ByteArray)(x1:List Int)(x2 c:Int) :C Zbvh [.agg [.t (.str x0),.t (tI x1),I x2],I c] []=some (I (Zn.sz ⟨x0,x1,x2⟩ c),[]):=by
 refine run Zcdo rfl ?_;simp[Zbql,Zux,Zn.sz,Zz,sz1]
 repeat' split
 all_goals first|(simp_all;done)|grind
theorem Zcf2(x0:ByteArray)(x1:Int)(x2:ByteArray)(x3:Int) :C Zbvo [.agg [.t (.str x0),I x1,.t (.str x2),I x3]] []=some (.agg [.t (.str x0),I x1,.t (.str x2),I x3],[]):=by
 refine run Zcdv rfl ?_;simp[Zbqs]
theorem Zcf3(x0:ByteArray)(x1:Int)(x2:ByteArray)(x3:Int)(y0:ByteArray)(y1:Int)(y2:ByteArray)(y3:Int) :C Zbvu [.agg [.t (.str x0),I x1,.t (.str x2),I x3],.agg [.t (.str y0),I y1,.t (.str y2),I y3]] []=some (Bo (decide (x0=y0/\x1=y1/\x2=y2/\x3=y3)),[]):=by
 refine run Zcd1 rfl ?_;simp[Zbqw]
 repeat' split
 all_goals first|(simp_all;done)|grind
theorem Zcf4(x0:ByteArray)(x1:Int)(x2:ByteArray)(x3 c:Int) :C Zbvi [.agg [.t (.str x0),I x1,.t (.str x2),I x3],I c] []=some (I (Zl.sz ⟨x0,x1,x2,x3⟩ c),[]):=by
 refine run Zcdp rfl ?_;simp[Zbqm,Zl.sz,Zz,sz1]
 repeat' split
 all_goals first|(simp_all;done)|grind
theorem Zcf5(x0:List Int)(x1:List (List Int))(x2:List Int)(h0:SmA x0)(h1:SmL SmA x1)(h2:SmA x2):C Zbww [.agg [.t (tI x0),.t (tII x1),.t (tI x2)]] []=some (.agg [.own 0,.own 1,.own 2],[.arr Zbc 1 true (x0.map ic),.arr Zkn 1 true (x1.map isc),.arr Zbc 1 true (x2.map ic)]):=by
 refine run Zce3 rfl ?_;simp[Zbrt,Zmi _ h0,Zbr0 _ h1,Zmi _ h2]
theorem Zcf6(x0:List Int)(x1:List (List Int))(x2 y0:List Int)(y1:List (List Int))(y2:List Int)(h0:SmA x0)(h1:SmL SmA x1)(h2:SmA x2):C Zbwz [.agg [.t (tI x0),.t (tII x1),.t (tI x2)],.agg [.t (tI y0),.t (tII y1),.t (tI y2)]] []=some (Bo (decide (x0=y0/\x1=y1/\x2=y2)),[]):=by
 refine run Zce6 rfl ?_;simp[Zbrw,Zmj _ _ h0,Zbr1 _ _ h1,Zmj _ _ h2]
 repeat' split
 all_goals first|(simp_all;done)|grind
theorem Zcf7(x0:List Int)(x1:List (List Int))(x2:List Int)(c:Int)(h1:OkL (OkL OkI) x1):C Zbwt [.agg [.t (tI x0),.t (tII x1),.t (tI x2)],I c] []=some (I (Zo.sz ⟨x0,x1,x2⟩ c),[]):=by
 refine run Zce0 rfl ?_;simp[Zbrq,Zux,Zbr2 _ _ h1,Zo.sz,Zz,sz1]
 repeat' split
 all_goals first|(simp_all;done)|grind
theorem Zcf8(xs:List Zo)(h:SmL Zo.small xs)(fr:List Fr):∀i,i<=xs.length->EvL C fr [0,3,4] Zz6 ⟨[(0,L 3 (xs.map Zo.c)),(3,.own 0),(4,I i)],[[]],[.arr Zv1 3 true (fill Zo.c [.lst 1 [],.lst 1 [],.lst 1 []] xs i)]⟩ =
  EvX C fr (.x 0) ⟨[(0,L 3 (xs.map Zo.c)),(3,.own 0),(4,I xs.length),(11,Bo false)],[[]],[.arr Zv1 3 true (xs.map Zo.c)]⟩:=by
 have hl:xs.length<=4294967296:=h.1;refine down xs.length ?_ ?_
 .rw[Zi Zz6.eq_1];simp[Zgn]
 .intro i hi ih;rw[Zi Zz6.eq_1,<-ih];have h1:=Zgp (f:=Zo.c) (z:=[.lst 1 [],.lst 1 [],.lst 1 []]) hi;have h3:=Zgo (f:=Zo.c) (z:=[.lst 1 [],.lst 1 [],.lst 1 []]) (Ybq hi);have h4:IntKind.wrap .i64 ((i:Int)+1)=(i:Int)+1:=Z2 (by omega) (by omega);simp at h1;simp[hi,Zcf5 _ _ _ (h.2 _ (Yd hi)).1 (h.2 _ (Yd hi)).2.1 (h.2 _ (Yd hi)).2.2,h3,h4,h1]
theorem Zcf9(xs:List Zo)(h:SmL Zo.small xs):C Zbwk [L 3 (xs.map Zo.c)] []=some (.own 0,[.arr Zv1 3 true (xs.map Zo.c)]):=by
 refine run Zcer rfl ?_;have hl:xs.length<=4294967296:=h.1;have h1:∀b,b<=4096->xs.length*b<=room:=λb hb=>Yq (Ybp hl hb) (by decide)
 have h2:(xs.length:Int)<=140737488355328:=by omega
 have h3:=λfr=>Zcf8 xs h fr 0 (Ya _)
 simp[Zgm]at h3;simp[Zbrk,h1,h2,h3]
theorem Zcga(xs ys:List Zo)(h:SmL Zo.small xs)(hl:ys.length=xs.length)(fr:List Fr):∀i,i<=xs.length->EvL C fr [0,1,5] Zz9 ⟨[(0,L 3 (xs.map Zo.c)),(1,L 3 (ys.map Zo.c)),(5,I i)],[[]],[]⟩ =
  if xs.drop i=ys.drop i then EvX C fr (.x 0) ⟨[(0,L 3 (xs.map Zo.c)),(1,L 3 (ys.map Zo.c)),(5,I xs.length),(14,Bo false)],[[]],[]⟩else EvX C fr .r ⟨[(4,Bo false)],[[]],[]⟩:=by
 have hm:xs.length<=4294967296:=h.1;refine down xs.length ?_ ?_
 .rw[Zi Zz9.eq_1];simp[hl,Ybc]
 .intro i hi ih;have hi2:i<ys.length:=by omega
  have h4:IntKind.wrap .i64 ((i:Int)+1)=(i:Int)+1:=Z2 (by omega) (by omega);rw[Zi Zz9.eq_1];simp +decide[hi,hi2,Zcf6 _ _ _ _ _ _ (h.2 _ (Yd hi)).1 (h.2 _ (Yd hi)).2.1 (h.2 _ (Yd hi)).2.2,h4];simp at ih;simp only[Zgq hi hi2,ih,Zo.ext_iff];split<;>first|(simp_all;done)|grind
theorem Zcgb(xs ys:List Zo)(h:SmL Zo.small xs):C Zbwp [L 3 (xs.map Zo.c),L 3 (ys.map Zo.c)] []=some (Bo (decide (xs=ys)),[]):=by
 refine run Zcew rfl ?_;by_cases hl:ys.length=xs.length
 .have h3:=λfr=>Zcga xs ys h hl fr 0 (Ya _)
  simp at h3;simp[Z9d,h3,hl];split<;>simp_all
 .have h1:xs≠ys:=λh=>hl (by rw[h])
  have h2:¬((xs.length:Int)=ys.length):=by omega
  simp[Z9d,h1,h2]
theorem Zcgc(xs:List Zo)(h:OkL Zo.okay xs)(fr:List Fr):∀i,i<=xs.length->∀left:Int,
  (EvL C fr [0,1,5] Zmg ⟨[(0,L 3 (xs.map Zo.c)),(1,I left),(5,I i)],[[]],[]⟩=EvX C fr .r ⟨[(4,I (-1))],[[]],[]⟩/\Zbs Zo.sz (xs.drop i) left=-1)\/
  EvL C fr [0,1,5] Zmg ⟨[(0,L 3 (xs.map Zo.c)),(1,I left),(5,I i)],[[]],[]⟩=EvX C fr (.x 0) ⟨[(0,L 3 (xs.map Zo.c)),(1,I (Zbs Zo.sz (xs.drop i) left)),(5,I xs.length),(15,Bo false)],[[]],[]⟩:=by
 have hm:maxLen<=9223372036854775807:=by decide
 have hl:=h.1;refine down xs.length ?_ ?_
 .intro left;right;rw[Zi Zmg.eq_1];simp[Ybc,Zbs]
 .intro i hi ih left;have h4:IntKind.wrap .i64 ((i:Int)+1)=(i:Int)+1:=Z2 (by omega) (by omega);have e:EvL C fr [0,1,5] Zmg ⟨[(0,L 3 (xs.map Zo.c)),(1,I left),(5,I i)],[[]],[]⟩=if Zo.sz xs[i] left<0 then EvX C fr .r ⟨[(4,I (-1))],[[]],[]⟩else EvL C fr [0,1,5] Zmg ⟨[(0,L 3 (xs.map Zo.c)),(1,I (Zo.sz xs[i] left)),(5,I ((i+1:Nat):Int))],[[]],[]⟩:=by
   rw[Zi Zmg.eq_1];simp[hi,Zcf7 _ _ _ _ (h.2 _ (Yd hi)).2.1,h4]
  rw[e,Yf hi,Zbs];split
  .exact .inl ⟨rfl,rfl⟩
  .exact ih _
theorem Zcgd(xs:List Zo)(cc:Int)(h:OkL Zo.okay xs):C Zbwf [L 3 (xs.map Zo.c),I cc] []=some (I (szL Zo.sz xs cc),[]):=by
 refine run Zcem rfl ?_;have h3:=λfr l=>Zcgc xs h fr 0 (Ya _) l
 simp at h3;simp[Zbrf,szL,Zz,sz1];split
 .simp_all
 .rcases h3 [.blk 0,.seq _,.fin _ _] (IntKind.wrap .i64 (cc-xs.length))with⟨h5,h6⟩|h5
  .rw[h5];simp[h6]
  .rw[h5];simp
theorem Zcge(x0:ByteArray)(x1 x2:Int)(x3:List Zo)(h3:SmL Zo.small x3):C Zbv3 [.agg [.t (.str x0),I x1,I x2,.t (.lst 3 (x3.map Zo.c))]] []=some (.agg [.t (.str x0),I x1,I x2,.own 0],[.arr Zv1 3 true (x3.map Zo.c)]):=by
 refine run Zcea rfl ?_;simp[Zbq4,Zcf9 _ h3]
theorem Zcgf(x0:ByteArray)(x1 x2:Int)(x3:List Zo)(y0:ByteArray)(y1 y2:Int)(y3:List Zo)(h3:SmL Zo.small x3):C Zbv9 [.agg [.t (.str x0),I x1,I x2,.t (.lst 3 (x3.map Zo.c))],.agg [.t (.str y0),I y1,I y2,.t (.lst 3 (y3.map Zo.c))]] []=some (Bo (decide (x0=y0/\x1=y1/\x2=y2/\x3=y3)),[]):=by
 refine run Zceg rfl ?_;simp[Zbra,Zcgb _ _ h3]
 repeat' split
 all_goals first|(simp_all;done)|grind
theorem Zcgg(x0:ByteArray)(x1 x2:Int)(x3:List Zo)(cc:Int)(h3:OkL Zo.okay x3):C Zbvy [.agg [.t (.str x0),I x1,I x2,.t (.lst 3 (x3.map Zo.c))],I cc] []=some (I (Zk.sz ⟨x0,x1,x2,x3⟩ cc),[]):=by
 refine run Zcd5 rfl ?_;simp[Zbqz,Zcgd _ _ h3,Zk.sz,Zz,sz1]
 repeat' split
 all_goals first|(simp_all;done)|grind
theorem Zcgh(xs:List Zk)(h:SmL Zk.small xs)(fr:List Fr):∀i,i<=xs.length->EvL C fr [0,3,4] Zzy ⟨[(0,L 4 (xs.map Zk.c)),(3,.own 0),(4,I i)],[[]],[.arr Zm3 4 true (fill Zk.c [.str ⟨#[]⟩,.int .i64 0,.int .i64 0,.lst 3 []] xs i)]⟩ =
  EvX C fr (.x 0) ⟨[(0,L 4 (xs.map Zk.c)),(3,.own 0),(4,I xs.length),(11,Bo false)],[[]],[.arr Zm3 4 true (xs.map Zk.c)]⟩:=by
 have hl:xs.length<=4294967296:=h.1;refine down xs.length ?_ ?_
 .rw[Zi Zzy.eq_1];simp[Zgn]
 .intro i hi ih;rw[Zi Zzy.eq_1,<-ih];have h1:=Zgp (f:=Zk.c) (z:=[.str ⟨#[]⟩,.int .i64 0,.int .i64 0,.lst 3 []]) hi;have h3:=Zgo (f:=Zk.c) (z:=[.str ⟨#[]⟩,.int .i64 0,.int .i64 0,.lst 3 []]) (Ybq hi);have h4:IntKind.wrap .i64 ((i:Int)+1)=(i:Int)+1:=Z2 (by omega) (by omega);simp at h1;simp[hi,Zcge _ _ _ _ (h.2 _ (Yd hi)).2,h3,h4,h1]
theorem Zcgi(xs:List Zk)(h:SmL Zk.small xs):C Zbvm [L 4 (xs.map Zk.c)] []=some (.own 0,[.arr Zm3 4 true (xs.map Zk.c)]):=by
 refine run Zcdt rfl ?_;have hl:xs.length<=4294967296:=h.1;have h1:∀b,b<=4096->xs.length*b<=room:=λb hb=>Yq (Ybp hl hb) (by decide)
 have h2:(xs.length:Int)<=140737488355328:=by omega
 have h3:=λfr=>Zcgh xs h fr 0 (Ya _)
 simp[Zgm]at h3;simp[Zbqq,h1,h2,h3]
theorem Zcgj(xs ys:List Zk)(h:SmL Zk.small xs)(hl:ys.length=xs.length)(fr:List Fr):∀i,i<=xs.length->EvL C fr [0,1,5] Zz1 ⟨[(0,L 4 (xs.map Zk.c)),(1,L 4 (ys.map Zk.c)),(5,I i)],[[]],[]⟩ =
  if xs.drop i=ys.drop i then EvX C fr (.x 0) ⟨[(0,L 4 (xs.map Zk.c)),(1,L 4 (ys.map Zk.c)),(5,I xs.length),(14,Bo false)],[[]],[]⟩else EvX C fr .r ⟨[(4,Bo false)],[[]],[]⟩:=by
 have hm:xs.length<=4294967296:=h.1;refine down xs.length ?_ ?_
 .rw[Zi Zz1.eq_1];simp[hl,Ybc]
 .intro i hi ih;have hi2:i<ys.length:=by omega
  have h4:IntKind.wrap .i64 ((i:Int)+1)=(i:Int)+1:=Z2 (by omega) (by omega);rw[Zi Zz1.eq_1];simp +decide[hi,hi2,Zcgf _ _ _ _ _ _ _ _ (h.2 _ (Yd hi)).2,h4];simp at ih;simp only[Zgq hi hi2,ih,Zk.ext_iff];split<;>first|(simp_all;done)|grind
theorem Zcgk(xs ys:List Zk)(h:SmL Zk.small xs):C Zbvs [L 4 (xs.map Zk.c),L 4 (ys.map Zk.c)] []=some (Bo (decide (xs=ys)),[]):=by
 refine run Zcdz rfl ?_;by_cases hl:ys.length=xs.length
 .have h3:=λfr=>Zcgj xs ys h hl fr 0 (Ya _)
  simp at h3;simp[Z89,h3,hl];split<;>simp_all
 .have h1:xs≠ys:=λh=>hl (by rw[h])
  have h2:¬((xs.length:Int)=ys.length):=by omega
  simp[Z89,h1,h2]
theorem Zcgl(xs:List Zk)(h:OkL Zk.okay xs)(fr:List Fr):∀i,i<=xs.length->∀left:Int,
  (EvL C fr [0,1,5] Zme ⟨[(0,L 4 (xs.map Zk.c)),(1,I left),(5,I i)],[[]],[]⟩=EvX C fr .r ⟨[(4,I (-1))],[[]],[]⟩/\Zbs Zk.sz (xs.drop i) left=-1)\/
  EvL C fr [0,1,5] Zme ⟨[(0,L 4 (xs.map Zk.c)),(1,I left),(5,I i)],[[]],[]⟩=EvX C fr (.x 0) ⟨[(0,L 4 (xs.map Zk.c)),(1,I (Zbs Zk.sz (xs.drop i) left)),(5,I xs.length),(15,Bo false)],[[]],[]⟩:=by
 have hm:maxLen<=9223372036854775807:=by decide
 have hl:=h.1;refine down xs.length ?_ ?_
 .intro left;right;rw[Zi Zme.eq_1];simp[Ybc,Zbs]
 .intro i hi ih left;have h4:IntKind.wrap .i64 ((i:Int)+1)=(i:Int)+1:=Z2 (by omega) (by omega);have e:EvL C fr [0,1,5] Zme ⟨[(0,L 4 (xs.map Zk.c)),(1,I left),(5,I i)],[[]],[]⟩=if Zk.sz xs[i] left<0 then EvX C fr .r ⟨[(4,I (-1))],[[]],[]⟩else EvL C fr [0,1,5] Zme ⟨[(0,L 4 (xs.map Zk.c)),(1,I (Zk.sz xs[i] left)),(5,I ((i+1:Nat):Int))],[[]],[]⟩:=by
   rw[Zi Zme.eq_1];simp[hi,Zcgg _ _ _ _ _ (h.2 _ (Yd hi)).2.2.2,h4]
  rw[e,Yf hi,Zbs];split
  .exact .inl ⟨rfl,rfl⟩
  .exact ih _
theorem Zcgm(xs:List Zk)(cc:Int)(h:OkL Zk.okay xs):C Zbvg [L 4 (xs.map Zk.c),I cc] []=some (I (szL Zk.sz xs cc),[]):=by
 refine run Zcdn rfl ?_;have h3:=λfr l=>Zcgl xs h fr 0 (Ya _) l
 simp at h3;simp[Zbqk,szL,Zz,sz1];split
 .simp_all
 .rcases h3 [.blk 0,.seq _,.fin _ _] (IntKind.wrap .i64 (cc-xs.length))with⟨h5,h6⟩|h5
  .rw[h5];simp[h6]
  .rw[h5];simp
theorem Zcgn(x0:Int)(x1:List Zk)(h1:SmL Zk.small x1):C Zbu4 [.agg [I x0,.t (.lst 4 (x1.map Zk.c))]] []=some (.agg [I x0,.own 0],[.arr Zm3 4 true (x1.map Zk.c)]):=by
 refine run Zcdb rfl ?_;simp[Zbqb,Zcgi _ h1]
theorem Zcgo(x0:Int)(x1:List Zk)(y0:Int)(y1:List Zk)(h1:SmL Zk.small x1):C Zbva [.agg [I x0,.t (.lst 4 (x1.map Zk.c))],.agg [I y0,.t (.lst 4 (y1.map Zk.c))]] []=some (Bo (decide (x0=y0/\x1=y1)),[]):=by
 refine run Zcdh rfl ?_;simp[Zbqh,Zcgk _ _ h1]
 repeat' split
 all_goals first|(simp_all;done)|grind
theorem Zcgp(x0:Int)(x1:List Zk)(cc:Int)(h1:OkL Zk.okay x1):C Zbuy [.agg [I x0,.t (.lst 4 (x1.map Zk.c))],I cc] []=some (I (Zv.sz ⟨x0,x1⟩ cc),[]):=by
 refine run Zcc5 rfl ?_;simp[Zbp5,Zcgm _ _ h1,Zv.sz,Zz,sz1]
 repeat' split
 all_goals first|(simp_all;done)|grind
theorem Zcgq(xs:List Zn)(h:SmL Zn.small xs)(fr:List Fr):∀i,i<=xs.length->EvL C fr [0,3,4] Zzr ⟨[(0,L 3 (xs.map Zn.c)),(3,.own 0),(4,I i)],[[]],[.arr Zqu 3 true (fill Zn.c [.str ⟨#[]⟩,.lst 1 [],.int .i64 0] xs i)]⟩ =
  EvX C fr (.x 0) ⟨[(0,L 3 (xs.map Zn.c)),(3,.own 0),(4,I xs.length),(11,Bo false)],[[]],[.arr Zqu 3 true (xs.map Zn.c)]⟩:=by
 have hl:xs.length<=4294967296:=h.1;refine down xs.length ?_ ?_
 .rw[Zi Zzr.eq_1];simp[Zgn]
 .intro i hi ih;rw[Zi Zzr.eq_1,<-ih];have h1:=Zgp (f:=Zn.c) (z:=[.str ⟨#[]⟩,.lst 1 [],.int .i64 0]) hi;have h3:=Zgo (f:=Zn.c) (z:=[.str ⟨#[]⟩,.lst 1 [],.int .i64 0]) (Ybq hi);have h4:IntKind.wrap .i64 ((i:Int)+1)=(i:Int)+1:=Z2 (by omega) (by omega);simp at h1;simp[hi,Zcfz _ _ _ (h.2 _ (Yd hi)).2,h3,h4,h1]
theorem Zcgr(xs:List Zn)(h:SmL Zn.small xs):C Zbu5 [L 3 (xs.map Zn.c)] []=some (.own 0,[.arr Zqu 3 true (xs.map Zn.c)]):=by
 refine run Zcdc rfl ?_;have hl:xs.length<=4294967296:=h.1;have h1:∀b,b<=4096->xs.length*b<=room:=λb hb=>Yq (Ybp hl hb) (by decide)
 have h2:(xs.length:Int)<=140737488355328:=by omega
 have h3:=λfr=>Zcgq xs h fr 0 (Ya _)
 simp[Zgm]at h3;simp[Zbqc,h1,h2,h3]
theorem Zcgs(xs ys:List Zn)(h:SmL Zn.small xs)(hl:ys.length=xs.length)(fr:List Fr):∀i,i<=xs.length->EvL C fr [0,1,5] Zzu ⟨[(0,L 3 (xs.map Zn.c)),(1,L 3 (ys.map Zn.c)),(5,I i)],[[]],[]⟩ =
  if xs.drop i=ys.drop i then EvX C fr (.x 0) ⟨[(0,L 3 (xs.map Zn.c)),(1,L 3 (ys.map Zn.c)),(5,I xs.length),(14,Bo false)],[[]],[]⟩else EvX C fr .r ⟨[(4,Bo false)],[[]],[]⟩:=by
 have hm:xs.length<=4294967296:=h.1;refine down xs.length ?_ ?_
 .rw[Zi Zzu.eq_1];simp[hl,Ybc]
 .intro i hi ih;have hi2:i<ys.length:=by omega
  have h4:IntKind.wrap .i64 ((i:Int)+1)=(i:Int)+1:=Z2 (by omega) (by omega);rw[Zi Zzu.eq_1];simp +decide[hi,hi2,Zcf0 _ _ _ _ _ _ (h.2 _ (Yd hi)).2,h4];simp at ih;simp only[Zgq hi hi2,ih,Zn.ext_iff];split<;>first|(simp_all;done)|grind
theorem Zcgt(xs ys:List Zn)(h:SmL Zn.small xs):C Zbvb [L 3 (xs.map Zn.c),L 3 (ys.map Zn.c)] []=some (Bo (decide (xs=ys)),[]):=by
 refine run Zcdi rfl ?_;by_cases hl:ys.length=xs.length
 .have h3:=λfr=>Zcgs xs ys h hl fr 0 (Ya _)
  simp at h3;simp[Z85,h3,hl];split<;>simp_all
 .have h1:xs≠ys:=λh=>hl (by rw[h])
  have h2:¬((xs.length:Int)=ys.length):=by omega
  simp[Z85,h1,h2]
theorem Zcgu(xs:List Zn)(h:OkL Zn.okay xs)(fr:List Fr):∀i,i<=xs.length->∀left:Int,
  (EvL C fr [0,1,5] Zma ⟨[(0,L 3 (xs.map Zn.c)),(1,I left),(5,I i)],[[]],[]⟩=EvX C fr .r ⟨[(4,I (-1))],[[]],[]⟩/\Zbs Zn.sz (xs.drop i) left=-1)\/
  EvL C fr [0,1,5] Zma ⟨[(0,L 3 (xs.map Zn.c)),(1,I left),(5,I i)],[[]],[]⟩=EvX C fr (.x 0) ⟨[(0,L 3 (xs.map Zn.c)),(1,I (Zbs Zn.sz (xs.drop i) left)),(5,I xs.length),(15,Bo false)],[[]],[]⟩:=by
 have hm:maxLen<=9223372036854775807:=by decide
 have hl:=h.1;refine down xs.length ?_ ?_
 .intro left;right;rw[Zi Zma.eq_1];simp[Ybc,Zbs]
 .intro i hi ih left;have h4:IntKind.wrap .i64 ((i:Int)+1)=(i:Int)+1:=Z2 (by omega) (by omega);have e:EvL C fr [0,1,5] Zma ⟨[(0,L 3 (xs.map Zn.c)),(1,I left),(5,I i)],[[]],[]⟩=if Zn.sz xs[i] left<0 then EvX C fr .r ⟨[(4,I (-1))],[[]],[]⟩else EvL C fr [0,1,5] Zma ⟨[(0,L 3 (xs.map Zn.c)),(1,I (Zn.sz xs[i] left)),(5,I ((i+1:Nat):Int))],[[]],[]⟩:=by
   rw[Zi Zma.eq_1];simp[hi,Zcf1,h4]
  rw[e,Yf hi,Zbs];split
  .exact .inl ⟨rfl,rfl⟩
  .exact ih _
theorem Zcgv(xs:List Zn)(cc:Int)(h:OkL Zn.okay xs):C Zbuz [L 3 (xs.map Zn.c),I cc] []=some (I (szL Zn.sz xs cc),[]):=by
 refine run Zcc6 rfl ?_;have h3:=λfr l=>Zcgu xs h fr 0 (Ya _) l
 simp at h3;simp[Zbp6,szL,Zz,sz1];split
 .simp_all
 .rcases h3 [.blk 0,.seq _,.fin _ _] (IntKind.wrap .i64 (cc-xs.length))with⟨h5,h6⟩|h5
  .rw[h5];simp[h6]
  .rw[h5];simp
theorem Zcgw(xs:List Zl)(h:SmL Zl.small xs)(fr:List Fr):∀i,i<=xs.length->EvL C fr [0,3,4] Zzs ⟨[(0,L 4 (xs.map Zl.c)),(3,.own 0),(4,I i)],[[]],[.arr Zqv 4 true (fill Zl.c [.str ⟨#[]⟩,.int .i64 0,.str ⟨#[]⟩,.int .i64 0] xs i)]⟩ =
  EvX C fr (.x 0) ⟨[(0,L 4 (xs.map Zl.c)),(3,.own 0),(4,I xs.length),(11,Bo false)],[[]],[.arr Zqv 4 true (xs.map Zl.c)]⟩:=by
 have hl:xs.length<=4294967296:=h.1;refine down xs.length ?_ ?_
 .rw[Zi Zzs.eq_1];simp[Zgn]
 .intro i hi ih;rw[Zi Zzs.eq_1,<-ih];have h1:=Zgp (f:=Zl.c) (z:=[.str ⟨#[]⟩,.int .i64 0,.str ⟨#[]⟩,.int .i64 0]) hi;have h3:=Zgo (f:=Zl.c) (z:=[.str ⟨#[]⟩,.int .i64 0,.str ⟨#[]⟩,.int .i64 0]) (Ybq hi);have h4:IntKind.wrap .i64 ((i:Int)+1)=(i:Int)+1:=Z2 (by omega) (by omega);simp at h1;simp[hi,Zcf2 _ _ _ _ ,h3,h4,h1]
theorem Zcgx(xs:List Zl)(h:SmL Zl.small xs):C Zbu6 [L 4 (xs.map Zl.c)] []=some (.own 0,[.arr Zqv 4 true (xs.map Zl.c)]):=by
 refine run Zcdd rfl ?_;have hl:xs.length<=4294967296:=h.1;have h1:∀b,b<=4096->xs.length*b<=room:=λb hb=>Yq (Ybp hl hb) (by decide)
 have h2:(xs.length:Int)<=140737488355328:=by omega
 have h3:=λfr=>Zcgw xs h fr 0 (Ya _)
 simp[Zgm]at h3;simp[Zbqd,h1,h2,h3]
theorem Zcgy(xs ys:List Zl)(h:SmL Zl.small xs)(hl:ys.length=xs.length)(fr:List Fr):∀i,i<=xs.length->EvL C fr [0,1,5] Zzv ⟨[(0,L 4 (xs.map Zl.c)),(1,L 4 (ys.map Zl.c)),(5,I i)],[[]],[]⟩ =
  if xs.drop i=ys.drop i then EvX C fr (.x 0) ⟨[(0,L 4 (xs.map Zl.c)),(1,L 4 (ys.map Zl.c)),(5,I xs.length),(14,Bo false)],[[]],[]⟩else EvX C fr .r ⟨[(4,Bo false)],[[]],[]⟩:=by
 have hm:xs.length<=4294967296:=h.1;refine down xs.length ?_ ?_
 .rw[Zi Zzv.eq_1];simp[hl,Ybc]
 .intro i hi ih;have hi2:i<ys.length:=by omega
  have h4:IntKind.wrap .i64 ((i:Int)+1)=(i:Int)+1:=Z2 (by omega) (by omega);rw[Zi Zzv.eq_1];simp +decide[hi,hi2,Zcf3 _ _ _ _ _ _ _ _ ,h4];simp at ih;simp only[Zgq hi hi2,ih,Zl.ext_iff];split<;>first|(simp_all;done)|grind
theorem Zcgz(xs ys:List Zl)(h:SmL Zl.small xs):C Zbvc [L 4 (xs.map Zl.c),L 4 (ys.map Zl.c)] []=some (Bo (decide (xs=ys)),[]):=by
 refine run Zcdj rfl ?_;by_cases hl:ys.length=xs.length
 .have h3:=λfr=>Zcgy xs ys h hl fr 0 (Ya _)
  simp at h3;simp[Z86,h3,hl];split<;>simp_all
 .have h1:xs≠ys:=λh=>hl (by rw[h])
  have h2:¬((xs.length:Int)=ys.length):=by omega
  simp[Z86,h1,h2]
theorem Zcg0(xs:List Zl)(h:OkL Zl.okay xs)(fr:List Fr):∀i,i<=xs.length->∀left:Int,
  (EvL C fr [0,1,5] Zmb ⟨[(0,L 4 (xs.map Zl.c)),(1,I left),(5,I i)],[[]],[]⟩=EvX C fr .r ⟨[(4,I (-1))],[[]],[]⟩/\Zbs Zl.sz (xs.drop i) left=-1)\/
  EvL C fr [0,1,5] Zmb ⟨[(0,L 4 (xs.map Zl.c)),(1,I left),(5,I i)],[[]],[]⟩=EvX C fr (.x 0) ⟨[(0,L 4 (xs.map Zl.c)),(1,I (Zbs Zl.sz (xs.drop i) left)),(5,I xs.length),(15,Bo false)],[[]],[]⟩:=by
 have hm:maxLen<=9223372036854775807:=by decide
 have hl:=h.1;refine down xs.length ?_ ?_
 .intro left;right;rw[Zi Zmb.eq_1];simp[Ybc,Zbs]
 .intro i hi ih left;have h4:IntKind.wrap .i64 ((i:Int)+1)=(i:Int)+1:=Z2 (by omega) (by omega);have e:EvL C fr [0,1,5] Zmb ⟨[(0,L 4 (xs.map Zl.c)),(1,I left),(5,I i)],[[]],[]⟩=if Zl.sz xs[i] left<0 then EvX C fr .r ⟨[(4,I (-1))],[[]],[]⟩else EvL C fr [0,1,5] Zmb ⟨[(0,L 4 (xs.map Zl.c)),(1,I (Zl.sz xs[i] left)),(5,I ((i+1:Nat):Int))],[[]],[]⟩:=by
   rw[Zi Zmb.eq_1];simp[hi,Zcf4,h4]
  rw[e,Yf hi,Zbs];split
  .exact .inl ⟨rfl,rfl⟩
  .exact ih _
theorem Zcg1(xs:List Zl)(cc:Int)(h:OkL Zl.okay xs):C Zbu0 [L 4 (xs.map Zl.c),I cc] []=some (I (szL Zl.sz xs cc),[]):=by
 refine run Zcc7 rfl ?_;have h3:=λfr l=>Zcg0 xs h fr 0 (Ya _) l
 simp at h3;simp[Zbp7,szL,Zz,sz1];split
 .simp_all
 .rcases h3 [.blk 0,.seq _,.fin _ _] (IntKind.wrap .i64 (cc-xs.length))with⟨h5,h6⟩|h5
  .rw[h5];simp[h6]
  .rw[h5];simp
theorem Zcg2(x0:List Zh)(x1:Int)(x2:List Zk)(x3:List Zn)(x4:List Zl)(h0:SmL Zh.small x0)(h2:SmL Zk.small x2)(h3:SmL Zn.small x3)(h4:SmL Zl.small x4):C Zbur [.agg [.t (.lst 3 (x0.map Zh.c)),I x1,.t (.lst 4 (x2.map Zk.c)),.t (.lst 3 (x3.map Zn.c)),.t (.lst 4 (x4.map Zl.c))]] []=some (.agg [.own 0,I x1,.own 1,.own 2,.own 3],[.arr Zm4 3 true (x0.map Zh.c),.arr Zm3 4 true (x2.map Zk.c),.arr Zqu 3 true (x3.map Zn.c),.arr Zqv 4 true (x4.map Zl.c)]):=by
 refine run Zccy rfl ?_;simp[Zbpy,Zcfn _ h0,Zcgn _ _ h2,Zcgr _ h3,Zcgx _ h4]
theorem Zcg3(x0:List Zh)(x1:Int)(x2:List Zk)(x3:List Zn)(x4:List Zl)(y0:List Zh)(y1:Int)(y2:List Zk)(y3:List Zn)(y4:List Zl)(h0:SmL Zh.small x0)(h2:SmL Zk.small x2)(h3:SmL Zn.small x3)(h4:SmL Zl.small x4):C Zbuu [.agg [.t (.lst 3 (x0.map Zh.c)),I x1,.t (.lst 4 (x2.map Zk.c)),.t (.lst 3 (x3.map Zn.c)),.t (.lst 4 (x4.map Zl.c))],.agg [.t (.lst 3 (y0.map Zh.c)),I y1,.t (.lst 4 (y2.map Zk.c)),.t (.lst 3 (y3.map Zn.c)),.t (.lst 4 (y4.map Zl.c))]] []=some (Bo (decide (x0=y0/\x1=y1/\x2=y2/\x3=y3/\x4=y4)),[]):=by
 refine run Zcc1 rfl ?_;simp[Zbp1,Zcfo _ _ h0,Zcgo _ _ _ _ h2,Zcgt _ _ h3,Zcgz _ _ h4]
 repeat' split
 all_goals first|(simp_all;done)|grind
theorem Zcg4(x0:List Zh)(x1:Int)(x2:List Zk)(x3:List Zn)(x4:List Zl)(cc:Int)(h0:OkL Zh.okay x0)(h2:OkL Zk.okay x2)(h3:OkL Zn.okay x3)(h4:OkL Zl.okay x4):C Zbuo [.agg [.t (.lst 3 (x0.map Zh.c)),I x1,.t (.lst 4 (x2.map Zk.c)),.t (.lst 3 (x3.map Zn.c)),.t (.lst 4 (x4.map Zl.c))],I cc] []=some (I (Z3.sz ⟨⟨x0⟩,⟨x1,x2⟩,x3,x4⟩ cc),[]):=by
 refine run Zccv rfl ?_;simp[Zbpv,Zcfp _ _ h0,Zcgp _ _ _ h2,Zcgv _ _ h3,Zcg1 _ _ h4,Z3.sz,Zz,sz1]
 repeat' split
 all_goals first|(simp_all;done)|grind
theorem c_toBox(x0 x1:List Int)(h0:SmA x0)(h1:SmA x1):C Zbwn [.agg [.t (tI x0),.t (tI x1)]] []=some (.agg [.own 0,.own 1],[.arr Zbc 1 true (x0.map ic),.arr Zbc 1 true (x1.map ic)]):=by
 refine run Zceu rfl ?_;simp[Zbrn,Zmi _ h0,Zmi _ h1]
theorem c_eqBox(x0 x1 y0 y1:List Int)(h0:SmA x0)(h1:SmA x1):C Zbws [.agg [.t (tI x0),.t (tI x1)],.agg [.t (tI y0),.t (tI y1)]] []=some (Bo (decide (x0=y0/\x1=y1)),[]):=by
 refine run Zcez rfl ?_;simp[Zbrp,Zmj _ _ h0,Zmj _ _ h1]
 repeat' split
 all_goals first|(simp_all;done)|grind
theorem c_szBox(x0 x1:List Int)(c:Int) :C Zbwi [.agg [.t (tI x0),.t (tI x1)],I c] []=some (I (Box.sz ⟨x0,x1⟩ c),[]):=by
 refine run Zcep rfl ?_;simp[Zbri,Zux,Box.sz,Zz,sz1]
 repeat' split
 all_goals first|(simp_all;done)|grind
theorem Zcg5(x0 x1:Int) :C Zbv5 [.agg [I x0,I x1]] []=some (.agg [I x0,I x1],[]):=by
 refine run Zcec rfl ?_;simp[Zbq6]
theorem Zcg6(x0 x1 y0 y1:Int) :C Zbwb [.agg [I x0,I x1],.agg [I y0,I y1]] []=some (Bo (decide (x0=y0/\x1=y1)),[]):=by
 refine run Zcei rfl ?_;simp[Zbrb]
 repeat' split
 all_goals first|(simp_all;done)|grind
theorem Zcg7(xs:List Zf)(h:SmA xs)(fr:List Fr):∀i,i<=xs.length->EvL C fr [0,3,4] Zzz ⟨[(0,L 2 (xs.map Zf.c)),(3,.own 0),(4,I i)],[[]],[.arr Ze0 2 true (fill Zf.c [.int .i64 0,.int .i64 0] xs i)]⟩ =
  EvX C fr (.x 0) ⟨[(0,L 2 (xs.map Zf.c)),(3,.own 0),(4,I xs.length),(11,Bo false)],[[]],[.arr Ze0 2 true (xs.map Zf.c)]⟩:=by
 have hl:xs.length<=4294967296:=h;refine down xs.length ?_ ?_
 .rw[Zi Zzz.eq_1];simp[Zgn]
 .intro i hi ih;rw[Zi Zzz.eq_1,<-ih];have h1:=Zgp (f:=Zf.c) (z:=[.int .i64 0,.int .i64 0]) hi;have h3:=Zgo (f:=Zf.c) (z:=[.int .i64 0,.int .i64 0]) (Ybq hi);have h4:IntKind.wrap .i64 ((i:Int)+1)=(i:Int)+1:=Z2 (by omega) (by omega);simp at h1;simp[hi,Zcg5,h3,h4,h1]
theorem Zcg8(xs:List Zf)(h:SmA xs):C Zbvp [L 2 (xs.map Zf.c)] []=some (.own 0,[.arr Ze0 2 true (xs.map Zf.c)]):=by
 refine run Zcdw rfl ?_;have hl:xs.length<=4294967296:=h;have h1:∀b,b<=4096->xs.length*b<=room:=λb hb=>Yq (Ybp hl hb) (by decide)
 have h2:(xs.length:Int)<=140737488355328:=by omega
 have h3:=λfr=>Zcg7 xs h fr 0 (Ya _)
 simp[Zgm]at h3;simp[Zbqt,h1,h2,h3]
theorem Zcg9(xs ys:List Zf)(h:SmA xs)(hl:ys.length=xs.length)(fr:List Fr):∀i,i<=xs.length->EvL C fr [0,1,5] Zz2 ⟨[(0,L 2 (xs.map Zf.c)),(1,L 2 (ys.map Zf.c)),(5,I i)],[[]],[]⟩ =
  if xs.drop i=ys.drop i then EvX C fr (.x 0) ⟨[(0,L 2 (xs.map Zf.c)),(1,L 2 (ys.map Zf.c)),(5,I xs.length),(14,Bo false)],[[]],[]⟩else EvX C fr .r ⟨[(4,Bo false)],[[]],[]⟩:=by
 have hm:xs.length<=4294967296:=h;refine down xs.length ?_ ?_
 .rw[Zi Zz2.eq_1];simp[hl,Ybc]
 .intro i hi ih;have hi2:i<ys.length:=by omega
  have h4:IntKind.wrap .i64 ((i:Int)+1)=(i:Int)+1:=Z2 (by omega) (by omega);rw[Zi Zz2.eq_1];simp +decide[hi,hi2,Zcg6 _ _ _ _ ,h4];simp at ih;simp only[Zgq hi hi2,ih,Zf.ext_iff];split<;>first|(simp_all;done)|grind
theorem Zcha(xs ys:List Zf)(h:SmA xs):C Zbvv [L 2 (xs.map Zf.c),L 2 (ys.map Zf.c)] []=some (Bo (decide (xs=ys)),[]):=by
 refine run Zcd2 rfl ?_;by_cases hl:ys.length=xs.length
 .have h3:=λfr=>Zcg9 xs ys h hl fr 0 (Ya _)
  simp at h3;simp[Z9a,h3,hl];split<;>simp_all
 .have h1:xs≠ys:=λh=>hl (by rw[h])
  have h2:¬((xs.length:Int)=ys.length):=by omega
  simp[Z9a,h1,h2]
@[simp] theorem Zchb(es:List (List T))(c:Int):C Zbvj [L 2 es,I c] []=some (I (sz1 es.length c),[]):=by
 refine run Zcdq rfl ?_;simp[Zbqn,sz1];split<;>simp_all
theorem Zuy(x0 x1 x2 x3 x4:Int)(x5:List Zf)(h5:SmA x5):C Zbu7 [.agg [I x0,I x1,I x2,I x3,I x4,.t (.lst 2 (x5.map Zf.c))]] []=some (.agg [I x0,I x1,I x2,I x3,I x4,.own 0],[.arr Ze0 2 true (x5.map Zf.c)]):=by
 refine run Zcde rfl ?_;simp[Zbqe,Zcg8 _ h5]
theorem Zuz(x0 x1 x2 x3 x4:Int)(x5:List Zf)(y0 y1 y2 y3 y4:Int)(y5:List Zf)(h5:SmA x5):C Zbvd [.agg [I x0,I x1,I x2,I x3,I x4,.t (.lst 2 (x5.map Zf.c))],.agg [I y0,I y1,I y2,I y3,I y4,.t (.lst 2 (y5.map Zf.c))]] []=some (Bo (decide (x0=y0/\x1=y1/\x2=y2/\x3=y3/\x4=y4/\x5=y5)),[]):=by
 refine run Zcdk rfl ?_;simp[Zbqi,Zcha _ _ h5]
 repeat' split
 all_goals first|(simp_all;done)|grind
theorem Zchc(x0 x1 x2 x3 x4:Int)(x5:List Zf)(cc:Int) :C Zbu1 [.agg [I x0,I x1,I x2,I x3,I x4,.t (.lst 2 (x5.map Zf.c))],I cc] []=some (I (Zq.sz ⟨x0,x1,x2,x3,x4,x5⟩ cc),[]):=by
 refine run Zcc8 rfl ?_;simp[Zbp8,Zchb,Zq.sz,Zz,sz1]
 repeat' split
 all_goals first|(simp_all;done)|grind
theorem Zchd(x0 x1 x2 x3 x4:Int)(x5:List Zf)(x6 x7 x8 x9 co:Int)(cc:List Zf)(cp cu cv cy cz:Int)(cd:List Zf)(d dc dd dl dn:Int)(cl:List Zf)(dp du dv dy dz:Int)(cn:List Zf)(h5:SmA x5)(l:SmA cc)(lc:SmA cd)(ld:SmA cl)(ll:SmA cn):C Zbus [.agg [I x0,I x1,I x2,I x3,I x4,.t (.lst 2 (x5.map Zf.c)),I x6,I x7,I x8,I x9,I co,.t (.lst 2 (cc.map Zf.c)),I cp,I cu,I cv,I cy,I cz,.t (.lst 2 (cd.map Zf.c)),I d,I dc,I dd,I dl,I dn,.t (.lst 2 (cl.map Zf.c)),I dp,I du,I dv,I dy,I dz,.t (.lst 2 (cn.map Zf.c))]] []=some (.agg [I x0,I x1,I x2,I x3,I x4,.own 0,I x6,I x7,I x8,I x9,I co,.own 1,I cp,I cu,I cv,I cy,I cz,.own 2,I d,I dc,I dd,I dl,I dn,.own 3,I dp,I du,I dv,I dy,I dz,.own 4],[.arr Ze0 2 true (x5.map Zf.c),.arr Ze0 2 true (cc.map Zf.c),.arr Ze0 2 true (cd.map Zf.c),.arr Ze0 2 true (cl.map Zf.c),.arr Ze0 2 true (cn.map Zf.c)]):=by
 refine run Zccz rfl ?_;simp[Zbpz,Zuy _ _ _ _ _ _ h5,Zuy _ _ _ _ _ _ l,Zuy _ _ _ _ _ _ lc,Zuy _ _ _ _ _ _ ld,Zuy _ _ _ _ _ _ ll]
theorem Zche(x0 x1 x2 x3 x4:Int)(x5:List Zf)(x6 x7 x8 x9 co:Int)(cc:List Zf)(cp cu cv cy cz:Int)(cd:List Zf)(d dc dd dl dn:Int)(cl:List Zf)(dp du dv dy dz:Int)(cn:List Zf)(y0 y1 y2 y3 y4:Int)(y5:List Zf)(y6 y7 y8 y9 l:Int)(lc:List Zf)(ld ll ln lo lp:Int)(lu:List Zf)(lv ly lz n nc:Int)(nd:List Zf)(nl nn np nu nv:Int)(ny:List Zf)(h5:SmA x5)(nz:SmA cc)(o:SmA cd)(oc:SmA cl)(od:SmA cn):C Zbuv [.agg [I x0,I x1,I x2,I x3,I x4,.t (.lst 2 (x5.map Zf.c)),I x6,I x7,I x8,I x9,I co,.t (.lst 2 (cc.map Zf.c)),I cp,I cu,I cv,I cy,I cz,.t (.lst 2 (cd.map Zf.c)),I d,I dc,I dd,I dl,I dn,.t (.lst 2 (cl.map Zf.c)),I dp,I du,I dv,I dy,I dz,.t (.lst 2 (cn.map Zf.c))],.agg [I y0,I y1,I y2,I y3,I y4,.t (.lst 2 (y5.map Zf.c)),I y6,I y7,I y8,I y9,I l,.t (.lst 2 (lc.map Zf.c)),I ld,I ll,I ln,I lo,I lp,.t (.lst 2 (lu.map Zf.c)),I lv,I ly,I lz,I n,I nc,.t (.lst 2 (nd.map Zf.c)),I nl,I nn,I np,I nu,I nv,.t (.lst 2 (ny.map Zf.c))]] []=some (Bo (decide (x0=y0/\x1=y1/\x2=y2/\x3=y3/\x4=y4/\x5=y5/\x6=y6/\x7=y7/\x8=y8/\x9=y9/\co=l/\cc=lc/\cp=ld/\cu=ll/\cv=ln/\cy=lo/\cz=lp/\cd=lu/\d=lv/\dc=ly/\dd=lz/\dl=n/\dn=nc/\cl=nd/\dp=nl/\du=nn/\dv=np/\dy=nu/\dz=nv/\cn=ny)),[]):=by
 refine run Zcc2 rfl ?_;simp[Zbp2,Zuz _ _ _ _ _ _ _ _ _ _ _ _ h5,Zuz _ _ _ _ _ _ _ _ _ _ _ _ nz,Zuz _ _ _ _ _ _ _ _ _ _ _ _ o,Zuz _ _ _ _ _ _ _ _ _ _ _ _ oc,Zuz _ _ _ _ _ _ _ _ _ _ _ _ od]
 repeat' split
 all_goals first|(simp_all;done)|grind
theorem Zchf(x0 x1 x2 x3 x4:Int)(x5:List Zf)(x6 x7 x8 x9 cd:Int)(cl:List Zf)(cn co cp cu cv:Int)(cy:List Zf)(cz d dc dd dl:Int)(dn:List Zf)(dp du dv dy dz:Int)(l:List Zf)(cc:Int) :C Zbup [.agg [I x0,I x1,I x2,I x3,I x4,.t (.lst 2 (x5.map Zf.c)),I x6,I x7,I x8,I x9,I cd,.t (.lst 2 (cl.map Zf.c)),I cn,I co,I cp,I cu,I cv,.t (.lst 2 (cy.map Zf.c)),I cz,I d,I dc,I dd,I dl,.t (.lst 2 (dn.map Zf.c)),I dp,I du,I dv,I dy,I dz,.t (.lst 2 (l.map Zf.c))],I cc] []=some (I (Zb.sz ⟨⟨x0,x1,x2,x3,x4,x5⟩,⟨x6,x7,x8,x9,cd,cl⟩,⟨cn,co,cp,cu,cv,cy⟩,⟨cz,d,dc,dd,dl,dn⟩,⟨dp,du,dv,dy,dz,l⟩⟩ cc),[]):=by
 refine run Zccw rfl ?_;simp[Zbpw,Zchc,Zb.sz,Zz,sz1]
 repeat' split
 all_goals first|(simp_all;done)|grind
theorem Zchg(x0 x1 x2:Int) :C Zbw2 [.agg [I x0,I x1,I x2]] []=some (.agg [I x0,I x1,I x2],[]):=by
 refine run Zce9 rfl ?_;simp[Zbry]
theorem Zchh(x0 x1 x2 y0 y1 y2:Int) :C Zbw3 [.agg [I x0,I x1,I x2],.agg [I y0,I y1,I y2]] []=some (Bo (decide (x0=y0/\x1=y1/\x2=y2)),[]):=by
 refine run Zcfa rfl ?_;simp[Zbrz]
 repeat' split
 all_goals first|(simp_all;done)|grind
theorem Zchi(xs:List Zc)(h:SmA xs)(fr:List Fr):∀i,i<=xs.length->EvL C fr [0,3,4] Z0b ⟨[(0,L 3 (xs.map Zc.c)),(3,.own 0),(4,I i)],[[]],[.arr Zm5 3 true (fill Zc.c [.int .i64 0,.int .i64 0,.int .i64 0] xs i)]⟩ =
  EvX C fr (.x 0) ⟨[(0,L 3 (xs.map Zc.c)),(3,.own 0),(4,I xs.length),(11,Bo false)],[[]],[.arr Zm5 3 true (xs.map Zc.c)]⟩:=by
 have hl:xs.length<=4294967296:=h;refine down xs.length ?_ ?_
 .rw[Zi Z0b.eq_1];simp[Zgn]
 .intro i hi ih;rw[Zi Z0b.eq_1,<-ih];have h1:=Zgp (f:=Zc.c) (z:=[.int .i64 0,.int .i64 0,.int .i64 0]) hi;have h3:=Zgo (f:=Zc.c) (z:=[.int .i64 0,.int .i64 0,.int .i64 0]) (Ybq hi);have h4:IntKind.wrap .i64 ((i:Int)+1)=(i:Int)+1:=Z2 (by omega) (by omega);simp at h1;simp[hi,Zchg,h3,h4,h1]
theorem Zchj(xs:List Zc)(h:SmA xs):C Zbwy [L 3 (xs.map Zc.c)] []=some (.own 0,[.arr Zm5 3 true (xs.map Zc.c)]):=by
 refine run Zce5 rfl ?_;have hl:xs.length<=4294967296:=h;have h1:∀b,b<=4096->xs.length*b<=room:=λb hb=>Yq (Ybp hl hb) (by decide)
 have h2:(xs.length:Int)<=140737488355328:=by omega
 have h3:=λfr=>Zchi xs h fr 0 (Ya _)
 simp[Zgm]at h3;simp[Zbrv,h1,h2,h3]
theorem Zchk(xs ys:List Zc)(h:SmA xs)(hl:ys.length=xs.length)(fr:List Fr):∀i,i<=xs.length->EvL C fr [0,1,5] Z0c ⟨[(0,L 3 (xs.map Zc.c)),(1,L 3 (ys.map Zc.c)),(5,I i)],[[]],[]⟩ =
  if xs.drop i=ys.drop i then EvX C fr (.x 0) ⟨[(0,L 3 (xs.map Zc.c)),(1,L 3 (ys.map Zc.c)),(5,I xs.length),(14,Bo false)],[[]],[]⟩else EvX C fr .r ⟨[(4,Bo false)],[[]],[]⟩:=by
 have hm:xs.length<=4294967296:=h;refine down xs.length ?_ ?_
 .rw[Zi Z0c.eq_1];simp[hl,Ybc]
 .intro i hi ih;have hi2:i<ys.length:=by omega
  have h4:IntKind.wrap .i64 ((i:Int)+1)=(i:Int)+1:=Z2 (by omega) (by omega);rw[Zi Z0c.eq_1];simp +decide[hi,hi2,Zchh _ _ _ _ _ _ ,h4];simp at ih;simp only[Zgq hi hi2,ih,Zc.ext_iff];split<;>first|(simp_all;done)|grind
theorem Zchl(xs ys:List Zc)(h:SmA xs):C Zbw1 [L 3 (xs.map Zc.c),L 3 (ys.map Zc.c)] []=some (Bo (decide (xs=ys)),[]):=by
 refine run Zce8 rfl ?_;by_cases hl:ys.length=xs.length
 .have h3:=λfr=>Zchk xs ys h hl fr 0 (Ya _)
  simp at h3;simp[Z9f,h3,hl];split<;>simp_all
 .have h1:xs≠ys:=λh=>hl (by rw[h])
  have h2:¬((xs.length:Int)=ys.length):=by omega
  simp[Z9f,h1,h2]
@[simp] theorem Zchm(es:List (List T))(c:Int):C Zbwv [L 3 es,I c] []=some (I (sz1 es.length c),[]):=by
 refine run Zce2 rfl ?_;simp[Zbrs,sz1];split<;>simp_all
theorem c_toPlan(x0:List Zc)(h0:SmA x0):C Zbwm [.agg [.t (.lst 3 (x0.map Zc.c))]] []=some (.agg [.own 0],[.arr Zm5 3 true (x0.map Zc.c)]):=by
 refine run Zcet rfl ?_;simp[Zbrm,Zchj _ h0]
theorem c_eqPlan(x0 y0:List Zc)(h0:SmA x0):C Zbwr [.agg [.t (.lst 3 (x0.map Zc.c))],.agg [.t (.lst 3 (y0.map Zc.c))]] []=some (Bo (decide (x0=y0)),[]):=by
 refine run Zcey rfl ?_;simp[Zbro,Zchl _ _ h0]
 repeat' split
 all_goals first|(simp_all;done)|grind
theorem c_szPlan(x0:List Zc)(cc:Int) :C Zbwh [.agg [.t (.lst 3 (x0.map Zc.c))],I cc] []=some (I (Plan.sz ⟨x0⟩ cc),[]):=by
 refine run Zceo rfl ?_;simp[Zbrh,Zchm,Plan.sz,Zz,sz1]
 repeat' split
 all_goals first|(simp_all;done)|grind
theorem Zchn(x0:List Zc)(x1 x2:List Int)(x3:Int)(h0:SmA x0)(h1:SmA x1)(h2:SmA x2):C Zbv7 [.agg [.t (.lst 3 (x0.map Zc.c)),.t (tI x1),.t (tI x2),I x3]] []=some (.agg [.own 0,.own 1,.own 2,I x3],[.arr Zm5 3 true (x0.map Zc.c),.arr Zbc 1 true (x1.map ic),.arr Zbc 1 true (x2.map ic)]):=by
 refine run Zcee rfl ?_;simp[Zbq8,c_toPlan _ h0,c_toBox _ _ h1 h2]
theorem Zcho(x0:List Zc)(x1 x2:List Int)(x3:Int)(y0:List Zc)(y1 y2:List Int)(y3:Int)(h0:SmA x0)(h1:SmA x1)(h2:SmA x2):C Zbwd [.agg [.t (.lst 3 (x0.map Zc.c)),.t (tI x1),.t (tI x2),I x3],.agg [.t (.lst 3 (y0.map Zc.c)),.t (tI y1),.t (tI y2),I y3]] []=some (Bo (decide (x0=y0/\x1=y1/\x2=y2/\x3=y3)),[]):=by
 refine run Zcek rfl ?_;simp[Zbrd,c_eqPlan _ _ h0,c_eqBox _ _ _ _ h1 h2]
 repeat' split
 all_goals first|(simp_all;done)|grind
theorem Zchp(x0:List Zc)(x1 x2:List Int)(x3 cc:Int) :C Zbv1 [.agg [.t (.lst 3 (x0.map Zc.c)),.t (tI x1),.t (tI x2),I x3],I cc] []=some (I (Region.sz ⟨⟨x0⟩,⟨x1,x2⟩,x3⟩ cc),[]):=by
 refine run Zcd8 rfl ?_;simp[Zbq2,c_szPlan,c_szBox,Region.sz,Zz,sz1]
 repeat' split
 all_goals first|(simp_all;done)|grind
theorem Zchq(x0:Int)(x1:List Atom)(x2:List Zc)(x3 x4:List Int)(x5 x6 x7:Int)(h1:SmL Atom.small x1)(h2:SmA x2)(h3:SmA x3)(h4:SmA x4):C Zbvq [.agg [I x0,.t (.lst 2 (x1.map Atom.c)),.t (.lst 3 (x2.map Zc.c)),.t (tI x3),.t (tI x4),I x5,I x6,I x7]] []=some (.agg [I x0,.own 0,.own 1,.own 2,.own 3,I x5,I x6,I x7],[.arr Zqw 2 true (x1.map Atom.c),.arr Zm5 3 true (x2.map Zc.c),.arr Zbc 1 true (x3.map ic),.arr Zbc 1 true (x4.map ic)]):=by
 refine run Zcdx rfl ?_;simp[Zbqu,Zcfw _ _ h1,Zchn _ _ _ _ h2 h3 h4]
theorem Zchr(x0:Int)(x1:List Atom)(x2:List Zc)(x3 x4:List Int)(x5 x6 x7 y0:Int)(y1:List Atom)(y2:List Zc)(y3 y4:List Int)(y5 y6 y7:Int)(h1:SmL Atom.small x1)(h2:SmA x2)(h3:SmA x3)(h4:SmA x4):C Zbvw [.agg [I x0,.t (.lst 2 (x1.map Atom.c)),.t (.lst 3 (x2.map Zc.c)),.t (tI x3),.t (tI x4),I x5,I x6,I x7],.agg [I y0,.t (.lst 2 (y1.map Atom.c)),.t (.lst 3 (y2.map Zc.c)),.t (tI y3),.t (tI y4),I y5,I y6,I y7]] []=some (Bo (decide (x0=y0/\x1=y1/\x2=y2/\x3=y3/\x4=y4/\x5=y5/\x6=y6/\x7=y7)),[]):=by
 refine run Zcd3 rfl ?_;simp[Zbqx,Zcfx _ _ _ _ h1,Zcho _ _ _ _ _ _ _ _ h2 h3 h4]
 repeat' split
 all_goals first|(simp_all;done)|grind
theorem Zchs(x0:Int)(x1:List Atom)(x2:List Zc)(x3 x4:List Int)(x5 x6 x7 cc:Int)(h1:OkL Atom.okay x1):C Zbvk [.agg [I x0,.t (.lst 2 (x1.map Atom.c)),.t (.lst 3 (x2.map Zc.c)),.t (tI x3),.t (tI x4),I x5,I x6,I x7],I cc] []=some (I (Zp.sz ⟨⟨x0,x1⟩,⟨⟨x2⟩,⟨x3,x4⟩,x5⟩,x6,x7⟩ cc),[]):=by
 refine run Zcdr rfl ?_;simp[Zbqo,Zcfy _ _ _ h1,Zchp,Zp.sz,Zz,sz1]
 repeat' split
 all_goals first|(simp_all;done)|grind
theorem Zcht(xs:List Zp)(h:SmL Zp.small xs)(fr:List Fr):∀i,i<=xs.length->EvL C fr [0,3,4] Zzt ⟨[(0,L 8 (xs.map Zp.c)),(3,.own 0),(4,I i)],[[]],[.arr Zqt 8 true (fill Zp.c [.int .i64 0,.lst 2 [],.lst 3 [],.lst 1 [],.lst 1 [],.int .i64 0,.int .i64 0,.int .i64 0] xs i)]⟩ =
  EvX C fr (.x 0) ⟨[(0,L 8 (xs.map Zp.c)),(3,.own 0),(4,I xs.length),(11,Bo false)],[[]],[.arr Zqt 8 true (xs.map Zp.c)]⟩:=by
 have hl:xs.length<=4294967296:=h.1;refine down xs.length ?_ ?_
 .rw[Zi Zzt.eq_1];simp[Zgn]
 .intro i hi ih;rw[Zi Zzt.eq_1,<-ih];have h1:=Zgp (f:=Zp.c) (z:=[.int .i64 0,.lst 2 [],.lst 3 [],.lst 1 [],.lst 1 [],.int .i64 0,.int .i64 0,.int .i64 0]) hi;have h3:=Zgo (f:=Zp.c) (z:=[.int .i64 0,.lst 2 [],.lst 3 [],.lst 1 [],.lst 1 [],.int .i64 0,.int .i64 0,.int .i64 0]) (Ybq hi);have h4:IntKind.wrap .i64 ((i:Int)+1)=(i:Int)+1:=Z2 (by omega) (by omega);simp at h1;simp[hi,Zchq _ _ _ _ _ _ _ _ (h.2 _ (Yd hi)).1 (h.2 _ (Yd hi)).2.1 (h.2 _ (Yd hi)).2.2.1 (h.2 _ (Yd hi)).2.2.2,h3,h4,h1]
theorem Zchu(xs:List Zp)(h:SmL Zp.small xs):C Zbu8 [L 8 (xs.map Zp.c)] []=some (.own 0,[.arr Zqt 8 true (xs.map Zp.c)]):=by
 refine run Zcdf rfl ?_;have hl:xs.length<=4294967296:=h.1;have h1:∀b,b<=4096->xs.length*b<=room:=λb hb=>Yq (Ybp hl hb) (by decide)
 have h2:(xs.length:Int)<=140737488355328:=by omega
 have h3:=λfr=>Zcht xs h fr 0 (Ya _)
 simp[Zgm]at h3;simp[Zbqf,h1,h2,h3]
theorem Zchv(xs ys:List Zp)(h:SmL Zp.small xs)(hl:ys.length=xs.length)(fr:List Fr):∀i,i<=xs.length->EvL C fr [0,1,5] Zzw ⟨[(0,L 8 (xs.map Zp.c)),(1,L 8 (ys.map Zp.c)),(5,I i)],[[]],[]⟩ =
  if xs.drop i=ys.drop i then EvX C fr (.x 0) ⟨[(0,L 8 (xs.map Zp.c)),(1,L 8 (ys.map Zp.c)),(5,I xs.length),(14,Bo false)],[[]],[]⟩else EvX C fr .r ⟨[(4,Bo false)],[[]],[]⟩:=by
 have hm:xs.length<=4294967296:=h.1;refine down xs.length ?_ ?_
 .rw[Zi Zzw.eq_1];simp[hl,Ybc]
 .intro i hi ih;have hi2:i<ys.length:=by omega
  have h4:IntKind.wrap .i64 ((i:Int)+1)=(i:Int)+1:=Z2 (by omega) (by omega);rw[Zi Zzw.eq_1];simp +decide[hi,hi2,Zchr _ _ _ _ _ _ _ _ _ _ _ _ _ _ _ _ (h.2 _ (Yd hi)).1 (h.2 _ (Yd hi)).2.1 (h.2 _ (Yd hi)).2.2.1 (h.2 _ (Yd hi)).2.2.2,h4];simp at ih;simp only[Zgq hi hi2,ih,Zp.ext_iff,Ze.ext_iff,Region.ext_iff,Plan.ext_iff,Box.ext_iff];split<;>first|(simp_all;done)|grind
theorem Zchw(xs ys:List Zp)(h:SmL Zp.small xs):C Zbve [L 8 (xs.map Zp.c),L 8 (ys.map Zp.c)] []=some (Bo (decide (xs=ys)),[]):=by
 refine run Zcdl rfl ?_;by_cases hl:ys.length=xs.length
 .have h3:=λfr=>Zchv xs ys h hl fr 0 (Ya _)
  simp at h3;simp[Z87,h3,hl];split<;>simp_all
 .have h1:xs≠ys:=λh=>hl (by rw[h])
  have h2:¬((xs.length:Int)=ys.length):=by omega
  simp[Z87,h1,h2]
theorem Zchx(xs:List Zp)(h:OkL Zp.okay xs)(fr:List Fr):∀i,i<=xs.length->∀left:Int,
  (EvL C fr [0,1,5] Zmc ⟨[(0,L 8 (xs.map Zp.c)),(1,I left),(5,I i)],[[]],[]⟩=EvX C fr .r ⟨[(4,I (-1))],[[]],[]⟩/\Zbs Zp.sz (xs.drop i) left=-1)\/
  EvL C fr [0,1,5] Zmc ⟨[(0,L 8 (xs.map Zp.c)),(1,I left),(5,I i)],[[]],[]⟩=EvX C fr (.x 0) ⟨[(0,L 8 (xs.map Zp.c)),(1,I (Zbs Zp.sz (xs.drop i) left)),(5,I xs.length),(15,Bo false)],[[]],[]⟩:=by
 have hm:maxLen<=9223372036854775807:=by decide
 have hl:=h.1;refine down xs.length ?_ ?_
 .intro left;right;rw[Zi Zmc.eq_1];simp[Ybc,Zbs]
 .intro i hi ih left;have h4:IntKind.wrap .i64 ((i:Int)+1)=(i:Int)+1:=Z2 (by omega) (by omega);have e:EvL C fr [0,1,5] Zmc ⟨[(0,L 8 (xs.map Zp.c)),(1,I left),(5,I i)],[[]],[]⟩=if Zp.sz xs[i] left<0 then EvX C fr .r ⟨[(4,I (-1))],[[]],[]⟩else EvL C fr [0,1,5] Zmc ⟨[(0,L 8 (xs.map Zp.c)),(1,I (Zp.sz xs[i] left)),(5,I ((i+1:Nat):Int))],[[]],[]⟩:=by
   rw[Zi Zmc.eq_1];simp[hi,Zchs _ _ _ _ _ _ _ _ _ (h.2 _ (Yd hi)).2.1,h4]
  rw[e,Yf hi,Zbs];split
  .exact .inl ⟨rfl,rfl⟩
  .exact ih _
theorem Zchy(xs:List Zp)(cc:Int)(h:OkL Zp.okay xs):C Zbu2 [L 8 (xs.map Zp.c),I cc] []=some (I (szL Zp.sz xs cc),[]):=by
 refine run Zcc9 rfl ?_;have h3:=λfr l=>Zchx xs h fr 0 (Ya _) l
 simp at h3;simp[Zbp9,szL,Zz,sz1];split
 .simp_all
 .rcases h3 [.blk 0,.seq _,.fin _ _] (IntKind.wrap .i64 (cc-xs.length))with⟨h5,h6⟩|h5
  .rw[h5];simp[h6]
  .rw[h5];simp
theorem Zchz(x0:Int)(x1:List Zp)(h1:SmL Zp.small x1):C Zbut [.agg [I x0,.t (.lst 8 (x1.map Zp.c))]] []=some (.agg [I x0,.own 0],[.arr Zqt 8 true (x1.map Zp.c)]):=by
 refine run Zcc0 rfl ?_;simp[Zbp0,Zchu _ h1]
theorem Zch0(x0:Int)(x1:List Zp)(y0:Int)(y1:List Zp)(h1:SmL Zp.small x1):C Zbuw [.agg [I x0,.t (.lst 8 (x1.map Zp.c))],.agg [I y0,.t (.lst 8 (y1.map Zp.c))]] []=some (Bo (decide (x0=y0/\x1=y1)),[]):=by
 refine run Zcc3 rfl ?_;simp[Zbp3,Zchw _ _ h1]
 repeat' split
 all_goals first|(simp_all;done)|grind
theorem Zch1(x0:Int)(x1:List Zp)(cc:Int)(h1:OkL Zp.okay x1):C Zbuq [.agg [I x0,.t (.lst 8 (x1.map Zp.c))],I cc] []=some (I (Zbn.sz ⟨x0,x1⟩ cc),[]):=by
 refine run Zccx rfl ?_;simp[Zbpx,Zchy _ _ h1,Zbn.sz,Zz,sz1]
 repeat' split
 all_goals first|(simp_all;done)|grind
theorem Zch2(x0:List Zh)(x1:Int)(x2:List Zk)(x3:List Zn)(x4:List Zl)(x5 x6 x7 x8 x9:Int)(cc:List Zf)(cu cv cy cz d:Int)(cd:List Zf)(dc dd dl dn dp:Int)(cl:List Zf)(du dv dy dz l:Int)(cn:List Zf)(lc ld ll ln lo:Int)(co:List Zf)(lp:Int)(cp:List Zp)(lu lv ly lz:Int)(h0:SmL Zh.small x0)(h2:SmL Zk.small x2)(h3:SmL Zn.small x3)(h4:SmL Zl.small x4)(n:SmA cc)(nc:SmA cd)(nd:SmA cl)(nl:SmA cn)(nn:SmA co)(np:SmL Zp.small cp):C Zbum [.agg [.t (.lst 3 (x0.map Zh.c)),I x1,.t (.lst 4 (x2.map Zk.c)),.t (.lst 3 (x3.map Zn.c)),.t (.lst 4 (x4.map Zl.c)),I x5,I x6,I x7,I x8,I x9,.t (.lst 2 (cc.map Zf.c)),I cu,I cv,I cy,I cz,I d,.t (.lst 2 (cd.map Zf.c)),I dc,I dd,I dl,I dn,I dp,.t (.lst 2 (cl.map Zf.c)),I du,I dv,I dy,I dz,I l,.t (.lst 2 (cn.map Zf.c)),I lc,I ld,I ll,I ln,I lo,.t (.lst 2 (co.map Zf.c)),I lp,.t (.lst 8 (cp.map Zp.c)),I lu,I lv,I ly,I lz]] []=some (.agg [.own 0,I x1,.own 1,.own 2,.own 3,I x5,I x6,I x7,I x8,I x9,.own 4,I cu,I cv,I cy,I cz,I d,.own 5,I dc,I dd,I dl,I dn,I dp,.own 6,I du,I dv,I dy,I dz,I l,.own 7,I lc,I ld,I ll,I ln,I lo,.own 8,I lp,.own 9,I lu,I lv,I ly,I lz],[.arr Zm4 3 true (x0.map Zh.c),.arr Zm3 4 true (x2.map Zk.c),.arr Zqu 3 true (x3.map Zn.c),.arr Zqv 4 true (x4.map Zl.c),.arr Ze0 2 true (cc.map Zf.c),.arr Ze0 2 true (cd.map Zf.c),.arr Ze0 2 true (cl.map Zf.c),.arr Ze0 2 true (cn.map Zf.c),.arr Ze0 2 true (co.map Zf.c),.arr Zqt 8 true (cp.map Zp.c)]):=by
 refine run Zcct rfl ?_;simp[Zbpt,Zcg2 _ _ _ _ _ h0 h2 h3 h4,Zchd _ _ _ _ _ _ _ _ _ _ _ _ _ _ _ _ _ _ _ _ _ _ _ _ _ _ _ _ _ _ n nc nd nl nn,Zchz _ _ np]
theorem Zch3(x0:List Zh)(x1:Int)(x2:List Zk)(x3:List Zn)(x4:List Zl)(x5 x6 x7 x8 x9:Int)(cc:List Zf)(cu cv cy cz d:Int)(cd:List Zf)(dc dd dl dn dp:Int)(cl:List Zf)(du dv dy dz l:Int)(cn:List Zf)(lc ld ll ln lo:Int)(co:List Zf)(lp:Int)(cp:List Zp)(pl pn po pp:Int)(y0:List Zh)(y1:Int)(y2:List Zk)(y3:List Zn)(y4:List Zl)(y5 y6 y7 y8 y9:Int)(lu:List Zf)(lv ly lz n nc:Int)(nd:List Zf)(nl nn np nu nv:Int)(ny:List Zf)(nz o oc od ol:Int)(oo:List Zf)(op ou ov oy oz:Int)(p:List Zf)(pc:Int)(pd:List Zp)(pu pv py pz:Int)(h0:SmL Zh.small x0)(h2:SmL Zk.small x2)(h3:SmL Zn.small x3)(h4:SmL Zl.small x4)(u:SmA cc)(uc:SmA cd)(ud:SmA cl)(ul:SmA cn)(un:SmA co)(uo:SmL Zp.small cp):C Zbun [.agg [.t (.lst 3 (x0.map Zh.c)),I x1,.t (.lst 4 (x2.map Zk.c)),.t (.lst 3 (x3.map Zn.c)),.t (.lst 4 (x4.map Zl.c)),I x5,I x6,I x7,I x8,I x9,.t (.lst 2 (cc.map Zf.c)),I cu,I cv,I cy,I cz,I d,.t (.lst 2 (cd.map Zf.c)),I dc,I dd,I dl,I dn,I dp,.t (.lst 2 (cl.map Zf.c)),I du,I dv,I dy,I dz,I l,.t (.lst 2 (cn.map Zf.c)),I lc,I ld,I ll,I ln,I lo,.t (.lst 2 (co.map Zf.c)),I lp,.t (.lst 8 (cp.map Zp.c)),I pl,I pn,I po,I pp],.agg [.t (.lst 3 (y0.map Zh.c)),I y1,.t (.lst 4 (y2.map Zk.c)),.t (.lst 3 (y3.map Zn.c)),.t (.lst 4 (y4.map Zl.c)),I y5,I y6,I y7,I y8,I y9,.t (.lst 2 (lu.map Zf.c)),I lv,I ly,I lz,I n,I nc,.t (.lst 2 (nd.map Zf.c)),I nl,I nn,I np,I nu,I nv,.t (.lst 2 (ny.map Zf.c)),I nz,I o,I oc,I od,I ol,.t (.lst 2 (oo.map Zf.c)),I op,I ou,I ov,I oy,I oz,.t (.lst 2 (p.map Zf.c)),I pc,.t (.lst 8 (pd.map Zp.c)),I pu,I pv,I py,I pz]] []=some (Bo (decide (x0=y0/\x1=y1/\x2=y2/\x3=y3/\x4=y4/\x5=y5/\x6=y6/\x7=y7/\x8=y8/\x9=y9/\cc=lu/\cu=lv/\cv=ly/\cy=lz/\cz=n/\d=nc/\cd=nd/\dc=nl/\dd=nn/\dl=np/\dn=nu/\dp=nv/\cl=ny/\du=nz/\dv=o/\dy=oc/\dz=od/\l=ol/\cn=oo/\lc=op/\ld=ou/\ll=ov/\ln=oy/\lo=oz/\co=p/\lp=pc/\cp=pd/\pl=pu/\pn=pv/\po=py/\pp=pz)),[]):=by
 refine run Zccu rfl ?_;have eS:=Zcg3 x0 x1 x2 x3 x4 y0 y1 y2 y3 y4 h0 h2 h3 h4;have eM:=Zche x5 x6 x7 x8 x9 cc cu cv cy cz d cd dc dd dl dn dp cl du dv dy dz l cn lc ld ll ln lo co y5 y6 y7 y8 y9 lu lv ly lz n nc nd nl nn np nu nv ny nz o oc od ol oo op ou ov oy oz p u uc ud ul un;have eC:=Zch0 lp cp pc pd uo;have e:decide (x0=y0/\x1=y1/\x2=y2/\x3=y3/\x4=y4/\x5=y5/\x6=y6/\x7=y7/\x8=y8/\x9=y9/\cc=lu/\cu=lv/\cv=ly/\cy=lz/\cz=n/\d=nc/\cd=nd/\dc=nl/\dd=nn/\dl=np/\dn=nu/\dp=nv/\cl=ny/\du=nz/\dv=o/\dy=oc/\dz=od/\l=ol/\cn=oo/\lc=op/\ld=ou/\ll=ov/\ln=oy/\lo=oz/\co=p/\lp=pc/\cp=pd/\pl=pu/\pn=pv/\po=py/\pp=pz)=(decide (x0=y0/\x1=y1/\x2=y2/\x3=y3/\x4=y4) && (decide (x5=y5/\x6=y6/\x7=y7/\x8=y8/\x9=y9/\cc=lu/\cu=lv/\cv=ly/\cy=lz/\cz=n/\d=nc/\cd=nd/\dc=nl/\dd=nn/\dl=np/\dn=nu/\dp=nv/\cl=ny/\du=nz/\dv=o/\dy=oc/\dz=od/\l=ol/\cn=oo/\lc=op/\ld=ou/\ll=ov/\ln=oy/\lo=oz/\co=p) && (decide (lp=pc/\cp=pd) && (decide (pl=pu) && (decide (pn=pv) && (decide (po=py) && decide (pp=pz))))))):=by
  simp only[Bool.decide_and,Bool.and_assoc]
 rw[e];clear e;generalize decide (x0=y0/\x1=y1/\x2=y2/\x3=y3/\x4=y4)=A at eS|-;generalize decide (x5=y5/\x6=y6/\x7=y7/\x8=y8/\x9=y9/\cc=lu/\cu=lv/\cv=ly/\cy=lz/\cz=n/\d=nc/\cd=nd/\dc=nl/\dd=nn/\dl=np/\dn=nu/\dp=nv/\cl=ny/\du=nz/\dv=o/\dy=oc/\dz=od/\l=ol/\cn=oo/\lc=op/\ld=ou/\ll=ov/\ln=oy/\lo=oz/\co=p)=B at eM|-;generalize decide (lp=pc/\cp=pd)=D at eC|-;cases A<;>cases B<;>cases D<;>simp[Zbpu,eS,eM,eC]
 all_goals (repeat' split)
 all_goals simp_all
theorem Zch4(x0:List Zh)(x1:Int)(x2:List Zk)(x3:List Zn)(x4:List Zl)(x5 x6 x7 x8 x9:Int)(cl:List Zf)(cn co cp cu cv:Int)(cy:List Zf)(cz d dc dd dl:Int)(dn:List Zf)(dp du dv dy dz:Int)(l:List Zf)(lc ld ll ln lo:Int)(lp:List Zf)(lu:Int)(cd:List Zp)(lv ly lz n cc:Int)(h0:OkL Zh.okay x0)(h2:OkL Zk.okay x2)(h3:OkL Zn.okay x3)(h4:OkL Zl.okay x4)(nc:OkL Zp.okay cd):C Zbul [.agg [.t (.lst 3 (x0.map Zh.c)),I x1,.t (.lst 4 (x2.map Zk.c)),.t (.lst 3 (x3.map Zn.c)),.t (.lst 4 (x4.map Zl.c)),I x5,I x6,I x7,I x8,I x9,.t (.lst 2 (cl.map Zf.c)),I cn,I co,I cp,I cu,I cv,.t (.lst 2 (cy.map Zf.c)),I cz,I d,I dc,I dd,I dl,.t (.lst 2 (dn.map Zf.c)),I dp,I du,I dv,I dy,I dz,.t (.lst 2 (l.map Zf.c)),I lc,I ld,I ll,I ln,I lo,.t (.lst 2 (lp.map Zf.c)),I lu,.t (.lst 8 (cd.map Zp.c)),I lv,I ly,I lz,I n],I cc] []=some (I (Zbw.sz ⟨⟨⟨x0⟩,⟨x1,x2⟩,x3,x4⟩,⟨⟨x5,x6,x7,x8,x9,cl⟩,⟨cn,co,cp,cu,cv,cy⟩,⟨cz,d,dc,dd,dl,dn⟩,⟨dp,du,dv,dy,dz,l⟩,⟨lc,ld,ll,ln,lo,lp⟩⟩,⟨lu,cd⟩,lv,ly,lz,n⟩ cc),[]):=by
 refine run Zccs rfl ?_;simp[Zbps,Zcg4 _ _ _ _ _ _ h0 h2 h3 h4,Zchf,Zch1 _ _ _ nc,Zbw.sz,Zz,sz1]
 repeat' split
 all_goals first|(simp_all;done)|grind
theorem Zbsg(s:Zbw)(hs:s.okay):C Zbuk [.agg (s.c.map .t)] []=some (Bo true,[]):=by
 refine run Zccr rfl ?_;have e1:=λl=>Zch4 s.Z3.Zm.Tables s.Z3.Zv.Version s.Z3.Zv.Tables s.Z3.Dependencies s.Z3.Inclusions s.Zb.Scan.Fixed s.Zb.Scan.Zr s.Zb.Scan.Zs s.Zb.Scan.Zu s.Zb.Scan.Zt s.Zb.Scan.Steps s.Zb.Sort_.Fixed s.Zb.Sort_.Zr s.Zb.Sort_.Zs s.Zb.Sort_.Zu s.Zb.Sort_.Zt s.Zb.Sort_.Steps s.Zb.Hash.Fixed s.Zb.Hash.Zr s.Zb.Hash.Zs s.Zb.Hash.Zu s.Zb.Hash.Zt s.Zb.Hash.Steps s.Zb.Merge.Fixed s.Zb.Merge.Zr s.Zb.Merge.Zs s.Zb.Merge.Zu s.Zb.Merge.Zt s.Zb.Merge.Steps s.Zb.Nested.Fixed s.Zb.Nested.Zr s.Zb.Nested.Zs s.Zb.Nested.Zu s.Zb.Nested.Zt s.Zb.Nested.Steps s.Cache.Clock s.Cache.Entries s.Ratio s.Slack s.Queries s.Spent l (hs.1) (hs.2.2.1) (hs.2.2.2.1) (hs.2.2.2.2.1) (hs.2.2.2.2.2.2.2.2.2.2.2.2.2.2.2.2.2.2.2.2.2.2.2.2.2.2.2.2.2.2.2.2.2.2.2.2.1)
 by_cases h1:Zbw.sz s (1048576)<0
 .simp[Z84,e1,h1]
 obtain⟨b1,g1⟩:=Zbw.Zbl s _ hs (by omega) (by omega) (by omega:0<=Zbw.sz s (1048576));have t1:=Zch2 s.Z3.Zm.Tables s.Z3.Zv.Version s.Z3.Zv.Tables s.Z3.Dependencies s.Z3.Inclusions s.Zb.Scan.Fixed s.Zb.Scan.Zr s.Zb.Scan.Zs s.Zb.Scan.Zu s.Zb.Scan.Zt s.Zb.Scan.Steps s.Zb.Sort_.Fixed s.Zb.Sort_.Zr s.Zb.Sort_.Zs s.Zb.Sort_.Zu s.Zb.Sort_.Zt s.Zb.Sort_.Steps s.Zb.Hash.Fixed s.Zb.Hash.Zr s.Zb.Hash.Zs s.Zb.Hash.Zu s.Zb.Hash.Zt s.Zb.Hash.Steps s.Zb.Merge.Fixed s.Zb.Merge.Zr s.Zb.Merge.Zs s.Zb.Merge.Zu s.Zb.Merge.Zt s.Zb.Merge.Steps s.Zb.Nested.Fixed s.Zb.Nested.Zr s.Zb.Nested.Zs s.Zb.Nested.Zu s.Zb.Nested.Zt s.Zb.Nested.Steps s.Cache.Clock s.Cache.Entries s.Ratio s.Slack s.Queries s.Spent (g1.1) (g1.2.1) (g1.2.2.1) (g1.2.2.2.1) (g1.2.2.2.2.1) (g1.2.2.2.2.2.1) (g1.2.2.2.2.2.2.1) (g1.2.2.2.2.2.2.2.1) (g1.2.2.2.2.2.2.2.2.1) (g1.2.2.2.2.2.2.2.2.2);have q1:=λy0 y1 y2 y3 y4 y5 y6 y7 y8 y9 y10 y11 y12 y13 y14 y15 y16 y17 y18 y19 y20 y21 y22 y23 y24 y25 y26 y27 y28 y29 y30 y31 y32 y33 y34 y35 y36 y37 y38 y39 y40=>Zch3 s.Z3.Zm.Tables s.Z3.Zv.Version s.Z3.Zv.Tables s.Z3.Dependencies s.Z3.Inclusions s.Zb.Scan.Fixed s.Zb.Scan.Zr s.Zb.Scan.Zs s.Zb.Scan.Zu s.Zb.Scan.Zt s.Zb.Scan.Steps s.Zb.Sort_.Fixed s.Zb.Sort_.Zr s.Zb.Sort_.Zs s.Zb.Sort_.Zu s.Zb.Sort_.Zt s.Zb.Sort_.Steps s.Zb.Hash.Fixed s.Zb.Hash.Zr s.Zb.Hash.Zs s.Zb.Hash.Zu s.Zb.Hash.Zt s.Zb.Hash.Steps s.Zb.Merge.Fixed s.Zb.Merge.Zr s.Zb.Merge.Zs s.Zb.Merge.Zu s.Zb.Merge.Zt s.Zb.Merge.Steps s.Zb.Nested.Fixed s.Zb.Nested.Zr s.Zb.Nested.Zs s.Zb.Nested.Zu s.Zb.Nested.Zt s.Zb.Nested.Steps s.Cache.Clock s.Cache.Entries s.Ratio s.Slack s.Queries s.Spent y0 y1 y2 y3 y4 y5 y6 y7 y8 y9 y10 y11 y12 y13 y14 y15 y16 y17 y18 y19 y20 y21 y22 y23 y24 y25 y26 y27 y28 y29 y30 y31 y32 y33 y34 y35 y36 y37 y38 y39 y40 (g1.1) (g1.2.1) (g1.2.2.1) (g1.2.2.2.1) (g1.2.2.2.2.1) (g1.2.2.2.2.2.1) (g1.2.2.2.2.2.2.1) (g1.2.2.2.2.2.2.2.1) (g1.2.2.2.2.2.2.2.2.1) (g1.2.2.2.2.2.2.2.2.2)
 have nd:LeD s.Z3.Zm:=⟨by have:=g1.1.1;omega,λt ht=>⟨by have:=(g1.1.2 t ht).2.1;omega,λr hr=>by have:=(g1.1.2 t ht).2.2 r hr;omega⟩⟩;have nk:LeK s.Z3.Zv:=⟨by have:=g1.2.1.1;omega,λx hx=>⟨by have:=(g1.2.1.2 x hx).2.1;omega,λy hy=>have k:=(g1.2.1.2 x hx).2.2 y hy;⟨by have:=k.1;omega,⟨by have:=k.2.1.1;omega,λr hr=>by have:=k.2.1.2 r hr;omega⟩,by have:=k.2.2;omega⟩⟩⟩;have nf:LeF s.Z3.Dependencies:=⟨by have:=g1.2.2.1.1;omega,λx hx=>by have:=(g1.2.2.1.2 x hx).2;omega⟩;have nx:Le s.Z3.Inclusions:=by have:=g1.2.2.2.1.1;omega
 have n1:LeM s.Zb:=⟨by have:=g1.2.2.2.2.1;omega,by have:=g1.2.2.2.2.2.1;omega,by have:=g1.2.2.2.2.2.2.1;omega,by have:=g1.2.2.2.2.2.2.2.1;omega,by have:=g1.2.2.2.2.2.2.2.2.1;omega⟩;have n2:LeC s.Cache:=⟨by have:=g1.2.2.2.2.2.2.2.2.2.1;omega,λe he=>⟨⟨by have:=(g1.2.2.2.2.2.2.2.2.2.2 e he).1.1;omega,λx hx=>by have:=((g1.2.2.2.2.2.2.2.2.2.2 e he).1.2 x hx).2;omega⟩,⟨by have:=(g1.2.2.2.2.2.2.2.2.2.2 e he).2.2.1;omega,by have:=(g1.2.2.2.2.2.2.2.2.2.2 e he).2.2.2;omega⟩⟩⟩;have s0:=Zccq (s:=s) ⟨nd,nk,nf,nx⟩ n1 n2;have s1:=Zccp (s:=s) ⟨nd,nk,nf,nx⟩ n1 n2;unfold Zyl at s0;unfold Zw9 at s1;simp only[Zbw.c_def,tI,tII,Yo,Yc0]at s0 s1;simp +decide[Z84,e1,h1,t1,q1,s0,s1]
end Go.Proofs.YtdioodopdlpinaaGreat
namespace Go.Proofs.YtdioodopdlpinaaGreat
open Go.RowKit Go.Lib
theorem dropEq{a b:List Int}{k:Nat}(h1:k<a.length)(h2:k<b.length):decide (a.drop k=b.drop k)=(decide (a[k]=b[k]) && decide (a.drop (k+1)=b.drop (k+1))):=by
 rw[Bool.eq_iff_iff];simp only[Bool.and_eq_true,decide_eq_true_eq];rw[List.drop_eq_getElem_cons h1,List.drop_eq_getElem_cons h2,List.cons.injEq]
theorem eq_walk(v1 v2:Value)(a b:List Int)(w:World)(h1:Zin w v1 a)(h2:Zin w v2 b)(c:a.length<2305843009213693952)(cc:b.length<2305843009213693952) :
  Calls Tryz.prog 195 #[v1,v2] w λe w'=>e=.returned (.bool (decide (a=b)))/\∃q,w'=w.drewN q:=by
 obtain⟨p1,c1,rfl,r1⟩:=h1;obtain⟨p2,c2,rfl,r2⟩:=h2;have mixed:Tryz.prog.follows Departure.mixedOrders=true:=by kernel_rfl
 by_cases hlen:a.length=b.length
 .obtain⟨n,hna⟩:∃n:Nat,a.length=n:=⟨_,rfl⟩;have hnb:b.length=n:=by omega
  rw[hna,hnb];have HN:Aside (a.length=n/\b.length=n):=⟨hna,hnb⟩;have hln:n<2305843009213693952:=by omega
  clear hna hnb hlen c cc;generalize hR:decide (a=b)=R;have HR:Aside (decide (a.drop 0=b.drop 0)=R):=hR;clear hR
  go_enter Tryz.func195,Tryz.ntmps195
  go_wp2
  go_loopg [5,13] n (λgg _ s13 wr=>∃kk q:Nat,kk<=n/\n-kk<=gg/\s13=.int .i64 kk/\wr=w.drewN q/\Aside (a.length=n/\b.length=n)/\Aside (decide (a.drop kk=b.drop kk)=R))
  case atStart=>exact⟨0,0,Nat.zero_le _,by omega,rfl,rfl,HN,HR⟩
  case round =>
   obtain⟨kk,q,hkk,hg,rfl,rfl,A,B⟩:=hrel;have hA:=A.out;obtain⟨hA1,hA2⟩:=hA;by_cases hltn:kk<n
   .have hltz:(kk:Int)<(n:Int):=by omega
    have hlta:kk<a.length:=by omega
    have hlt:kk<b.length:=by omega
    obtain⟨g1,o1,rfl,d1⟩:=r1 kk hlta;obtain⟨g2,o2,rfl,d2⟩:=r2 kk hlt;have S:Aside (decide (a.drop kk=b.drop kk)=(decide (a[kk]=b[kk]) && decide (a.drop (kk+1)=b.drop (kk+1)))):=by
     exact dropEq hlta hlt
    clear r1 r2 hA1 hA2;generalize a[kk]=x at d1 S;generalize b[kk]=y at d2 S;by_cases hz:x=y
    .subst hz
     go_wp2_with fail
     go_region_o
     go_wp2
     go_roundg (n-(kk+1))
     case measure=>omega
     case rel =>
      refine⟨kk+1,q+1,by omega,by omega,by go_num,rfl,A,(show Aside _ from ?_)⟩;have:=S.out;rw[B.out]at this;show decide (a.drop (kk+1)=b.drop (kk+1))=R;simpa using this.symm
    .have hr:R=false:=by rw[<-B.out,S.out];simp[hz]
     go_wp2_with fail
     go_region_o
     go_wp2
     go_ret
     exact⟨by subst hr;rfl,q+1,rfl⟩
   .have hltz:¬(kk:Int)<(n:Int):=by omega
    have hr:R=true:=by
     rw[<-B.out,show b.drop kk=[]from List.drop_of_length_le (by omega),show a.drop kk=[]from List.drop_of_length_le (by omega)];simp
    clear r1 r2 hA1 hA2
    go_wp2
    go_ret
    exact⟨by subst hr;rfl,q,rfl⟩
 .have hne:decide (a=b)=false:=by
   rw[decide_eq_false_iff_not];intro e;exact hlen (by rw[e])
  have hlz:¬(a.length:Int)=(b.length:Int):=by omega
  rw[hne];clear hne r1 r2
  go_enter Tryz.func195,Tryz.ntmps195
  go_wp2
  go_ret
  exact⟨rfl,0,rfl⟩
theorem eqf_walk(v1 v2:Value)(a b:List Int)(w:World)(h1:Zin w v1 a)(h2:Zin w v2 b)(c:a.length<2305843009213693952)(cc:b.length<2305843009213693952) :
  Calls Tryz.prog 232 #[v1,v2] w λe w'=>e=.returned (.bool (decide (a=b)))/\∃q,w'=w.drewN q:=by
 have hc:=eq_walk v1 v2 a b w h1 h2 c cc;generalize decide (a=b)=R at hc|-;obtain⟨p1,c1,rfl,r1⟩:=h1;obtain⟨p2,c2,rfl,r2⟩:=h2;clear r1 r2
 go_enter Tryz.func232,Tryz.ntmps232
 go_wp2_with (refine hc.mono ?_;rintro e w' ⟨rfl,q,rfl⟩)
 go_ret
 exact⟨rfl,q,rfl⟩
end Go.Proofs.YtdioodopdlpinaaGreat
namespace Go.Proofs.YtdioodopdlpinaaGreat
open Go.Sort
section
variable{α β:Type}[Inhabited α][DecidableEq β](f:α->β)
def nbk(p:α):List α->List α
 |[]=>[]
 |x::l=>if f x=f p then nbk x l else x::nbk x l
def nb:List α->List α
 |[]=>[]
 |x::l=>x::nbk f x l
omit [Inhabited α] in
theorem Zbr3:∀(l:List α) (p y:α),nbk f p (l++[y])=nbk f p l++if f y=f (l.getLastD p)then[]else[y]
 |[],p,y=>by by_cases h:f y=f p<;>simp[nbk,h]
 |x::l,p,y=>by
  rw[List.cons_append,nbk,nbk,Zbr3 l x y,List.getLastD_cons];split<;>rfl
omit [Inhabited α] in
theorem nb_snoc:∀(l:List α) (p y:α),l≠[]->nb f (l++[y])=nb f l++if f y=f (l.getLastD p)then[]else[y]
 |[],p,y,h=>absurd rfl h
 |x::l,p,y,_=>by
  rw[List.cons_append,nb,nb,Zbr3,List.getLastD_cons];rfl
omit [Inhabited α] in
theorem Z9g:∀(l:List α) (p:α),(nbk f p l).Sublist l
 |[],p=>.slnil
 |x::l,p=>by
  rw[nbk];split
  .exact(Z9g l x).cons _
  .exact(Z9g l x).cons_cons _
omit [Inhabited α] in
theorem nb_sub:∀l:List α,(nb f l).Sublist l
 |[]=>.slnil
 |x::l=>(Z9g f l x).cons_cons _
theorem Z0d{l:List α}{m:Nat}(h0:0<m)(h:m<l.length):nb f (l.take (m+1))=nb f (l.take m)++if f l[m]! = f l[m-1]! then[]else[l[m]!]:=by
 have hl:(l.take m).getLastD default=l[m-1]:=by
  rw[List.getLastD_eq_getLast?,List.getLast?_take,if_neg (by omega),List.getElem?_eq_getElem (show m-1<l.length by omega)];rfl
 rw[List.take_succ_eq_append_getElem h,nb_snoc f _ default _ (by intro e;have:=congrArg List.length e;rw[List.length_take,List.length_nil]at this;omega),hl,getElem!_pos l m h,getElem!_pos l (m-1) (by omega)]
structure CInv (d:Array α) (m k:Nat) (e:Array α):Prop where
 len:(nb f (d.toList.take m)).length=k
 lt:k<m
 row:e.toList=nb f (d.toList.take m)++d.toList.drop k
omit [Inhabited α] in
theorem CInv.size{d e:Array α}{m k:Nat}(I:CInv f d m k e)(hm:m<=d.size):e.size=d.size:=by
 have h1:=I.lt;rw[<-Array.length_toList,I.row,List.length_append,I.len,List.length_drop,Array.length_toList];omega
theorem CInv.read{d e:Array α}{m k:Nat}(I:CInv f d m k e)(hm:m<=d.size){j:Nat}(hj:k<=j)(hd:j<d.size):e[j]! = d[j]!:=by
 have hs:=I.size f hm;have h:=I.len;have h2:e.toList[j]?=d.toList[j]?:=by
  rw[I.row,List.getElem?_append_right (by omega),List.getElem?_drop,h];congr 1;omega
 rw[getElem!_pos e j (by omega),getElem!_pos d j hd];rw[Array.getElem?_toList,Array.getElem?_toList,Array.getElem?_eq_getElem (by omega),Array.getElem?_eq_getElem hd]at h2;exact Option.some.inj h2
theorem Zj8(d:Array α)(j:Nat):d.toList[j]! = d[j]!:=by simp[Array.getElem!_eq_getD,Array.getD_eq_getD_getElem?]
theorem CInv.start{d:Array α}{k:Nat}(h0:0<k)(hk:k<d.size)(ha:nb f (d.toList.take k)=d.toList.take k)(he:f d[k]! = f d[k-1]!):CInv f d (k+1) k d:=by
 have h:=Z0d f h0 (show k<d.toList.length from hk);rw[Zj8,Zj8,if_pos he,List.append_nil,ha]at h;refine⟨?_,Nat.lt_succ_self _,?_⟩
 .rw[h,List.length_take,Array.length_toList];omega
 .rw[h,List.take_append_drop]
theorem CInv.skip{d e:Array α}{m k:Nat}(I:CInv f d m k e)(hm:m<d.size)(he:f d[m]! = f d[m-1]!):CInv f d (m+1) k e:=by
 have hl:=I.lt;have h:=Z0d f (show 0<m by omega) (show m<d.toList.length from hm);rw[Zj8,Zj8,if_pos he,List.append_nil]at h;exact⟨by rw[h];exact I.len,by omega,by rw[h];exact I.row⟩
theorem CInv.keep{d e:Array α}{m k:Nat}(I:CInv f d m k e)(hm:m<d.size)(he:¬f d[m]! = f d[m-1]!):CInv f d (m+1) (k+1) (e.setIfInBounds k d[m]!):=by
 have hl:=I.lt;have hn:=I.len;have h:=Z0d f (show 0<m by omega) (show m<d.toList.length from hm);rw[Zj8,Zj8,if_neg he]at h;refine⟨by rw[h,List.length_append,hn];rfl,by omega,?_⟩;rw[Array.toList_setIfInBounds,I.row,h,List.set_append_right _ _ (by omega),hn,Nat.sub_self,List.drop_eq_getElem_cons (show k<d.toList.length by rw[Array.length_toList];omega),List.set_cons_zero];simp
omit [Inhabited α] in
theorem CInv.fill{d e:Array α}{k:Nat}(I:CInv f d d.size k e)(z:α):(Lib.lay e k (List.replicate (d.size-k) z)).toList=nb f d.toList++List.replicate (d.size-k) z:=by
 have hs:=I.size f (Nat.le_refl _);have hl:=I.lt;have hr:=I.row;have hn:=I.len;rw[show d.toList.take d.size=d.toList from List.take_of_length_le (by simp)]at hr hn;apply List.ext_getElem?;intro j;rw[Array.getElem?_toList,Lib.lay_get? _ _ _ _ (by simp;omega),List.length_replicate];by_cases h1:j<k
 .rw[if_neg (by omega),List.getElem?_append_left (by omega),<-Array.getElem?_toList,hr,List.getElem?_append_left (by omega)]
 .rw[List.getElem?_append_right (by omega),hn];by_cases h2:j<d.size
  .rw[if_pos (by omega)]
  .rw[if_neg (by omega),Array.getElem?_eq_none (by omega),List.getElem?_eq_none (by simp;omega)]
theorem nb_next{d:Array α}{k:Nat}(h0:0<k)(hk:k<d.size)(ha:nb f (d.toList.take k)=d.toList.take k)(he:¬f d[k]! = f d[k-1]!):nb f (d.toList.take (k+1))=d.toList.take (k+1):=by
 have h:=Z0d f h0 (show k<d.toList.length from hk);rw[Zj8,Zj8,if_neg he,ha]at h;rw[h,List.take_succ_eq_append_getElem (show k<d.toList.length from hk)];simp[getElem!_pos,hk]
omit [Inhabited α] in
theorem nb_one{d:Array α}(h:d.size<=1):nb f d.toList=d.toList:=by
 obtain⟨l⟩:=d
 match l with
 |[]=>rfl
 |[a]=>rfl
 |a::b::l=>simp at h
omit [Inhabited α] in
theorem nb_one1(d:Array α):nb f (d.toList.take 1)=d.toList.take 1:=by
 obtain⟨l⟩:=d
 cases l with
 |nil=>rfl
 |cons a l=>simp[nb,nbk]
end
theorem nb_cpt{α:Type}(f:α->List Int):∀l:List α,(nb f l).map f=cptR (l.map f)
 |[]=>rfl
 |[a]=>rfl
 |a::b::l=>by
  have ih:=nb_cpt f (b::l);rw[nb]at ih;rw[nb,nbk,List.map_cons,List.map_cons,List.map_cons,cptR];rw[List.map_cons,List.map_cons]at ih;by_cases e:f b=f a
  .rw[if_pos e,if_pos e.symm,<-ih,e]
  .rw[if_neg e,if_neg (λh=>e h.symm),<-ih];rfl
end Go.Proofs.YtdioodopdlpinaaGreat
namespace Go.Proofs.YtdioodopdlpinaaGreat
open Go.RowKit Go.AM Go.Lib Go.Sort
theorem Zbr4{α:Type}[Inhabited α](enc:α->Value)(w:World)(c off n:Nat)(d:Array α){k:Nat}(cc:k≠c):(putRow enc (Sort.ahead w n) c off d).heap[k]?=w.heap[k]?:=by
 show(w.heap.modify c (onCells (putCells enc off d)))[k]?=_;rw[Yda,if_neg (Ne.symm cc)]
theorem Z0e{w:World}{g q n:Nat}{d:Array (El w g)}:(putRow El.enc (Sort.ahead w q) g 0 d).drewN n=putRow El.enc (Sort.ahead w (q+n)) g 0 d:=by
 simp[putRow,mapBlock,Sort.ahead,World.drewN,Ycx]
theorem Zbr5{w wr:World}{g:Nat}(c:∀k,k≠g->wr.heap[k]?=w.heap[k]?)(x y:El w g)(n:Nat) :
  Calls Tryz.prog 232 #[x.enc,y.enc] (wr.drewN n) λr w'=>r=.returned (.bool (decide (x.row=y.row)))/\∃p,w'=(wr.drewN n).drewN p:=by
 have hx:=Zyw (W:=wr.drewN n) x.2.1 λk hk=>c k (x.2.2.1 k hk)
 have hy:=Zyw (W:=wr.drewN n) y.2.1 λk hk=>c k (y.2.2.1 k hk)
 have h4:=x.2.2.2;have h5:=y.2.2.2;exact eqf_walk x.enc y.enc x.row y.row _ hx hy (by unfold El.row;omega) (by unfold El.row;omega)
theorem El.one{w:World}{g:Nat}(x:El w g):x.enc.oneCell'=true:=x.2.1.one
theorem put_at{w w':World}{g q kk:Nat}{dk:Array (El w g)}{z:El w g}{x:Value}(hk:kk<dk.size)(hw:w'=putRow El.enc (Sort.ahead w q) g 0 dk)(hx:El.enc z=x):w'.setCell ⟨g,kk,none⟩ x=putRow El.enc (Sort.ahead w q) g 0 (dk.setIfInBounds kk z):=by
 subst hw;subst hx;have:=putRow_set El.enc (Sort.ahead w q) g 0 dk kk z hk
 rwa [Ym]at this
theorem put_end{w wr:World}{g q kk:Nat}{d dk:Array (El w g)}(f:El w g->List Int)(I:CInv f d d.size kk dk)(z:El w g)(hw:wr=putRow El.enc (Sort.ahead w q) g 0 dk):wr.setCells g kk (List.replicate (d.size-kk) z.enc)=putRow El.enc (Sort.ahead w q) g 0 (nb f d.toList++List.replicate (d.size-kk) z).toArray:=by
 subst hw;have hs:=I.size f (Yh _);have hl:=I.lt;have:=putRow_setCells El.enc (Sort.ahead w q) g 0 (List.replicate (d.size-kk) z) dk kk (by simp;omega);rw[Ym,Ydg]at this;rw[this];congr 1;rw[<-I.fill f z]
theorem cpt_nil(w:World):Calls Tryz.prog 231 #[.slice none 0 0,.func (.func 232) #[] #[]] w λe w'=>e=.returned (.slice none 0 0)/\w'=w:=by
 have mixed:Tryz.prog.follows Departure.mixedOrders=true:=by kernel_rfl
 go_enter Tryz.func231,Tryz.ntmps231
 go_wp2
 go_ret
 exact⟨rfl,rfl⟩
theorem cpt_walk{w:World}{g:Nat}(cap:Nat)(d:Array (El w g))(hH:Holds El.enc w g 0 d)(cc:d.size<=4096)(c:d.size<=cap) :
  Calls Tryz.prog 231 #[.slice (some ⟨g,0,none⟩) d.size cap,.func (.func 232) #[] #[]] w λe w'=>e=.returned (.slice (some ⟨g,0,none⟩) (nb El.row d.toList).length cap)/\
   ∃q,w'=putRow El.enc (Sort.ahead w q) g 0 (nb El.row d.toList++List.replicate (d.size-(nb El.row d.toList).length) default).toArray:=by
 have mixed:Tryz.prog.follows Departure.mixedOrders=true:=by kernel_rfl
 have HS:Aside (∀q,nb El.row d.toList=d.toList->(nb El.row d.toList).length=d.size/\putRow El.enc (Sort.ahead w q) g 0 d=putRow El.enc (Sort.ahead w q) g 0 (nb El.row d.toList++List.replicate (d.size-(nb El.row d.toList).length) default).toArray):=by
  intro q e;rw[e];simp
 have HH:Aside (Holds El.enc w g 0 d):=hH;clear hH;by_cases h2:d.size<2
 .go_enter Tryz.func231,Tryz.ntmps231
  go_wp2
  go_ret
  obtain⟨e1,e2⟩:=HS.out 0 (nb_one El.row (by omega));refine⟨by rw[e1];rfl,0,?_⟩;rw[<-e2];exact(putRow_self El.enc w g 0 d HH.out).symm
 .go_enter Tryz.func231,Tryz.ntmps231
  go_wp2
  go_loopg [5] d.size (λgg s5 wr=>∃k q:Nat,1<=k/\k<=d.size/\d.size-k<=gg/\s5=.int .i64 k/\Aside (wr=putRow El.enc (Sort.ahead w q) g 0 d)/\Aside (nb El.row (d.toList.take k)=d.toList.take k))
  case atStart=>exact⟨1,0,Yh _,by omega,by omega,rfl,(putRow_self El.enc w g 0 d HH.out).symm,nb_one1 El.row d⟩
  case round =>
   obtain⟨k,q,hk1,hk,hg,rfl,W,A⟩:=hrel;by_cases hlt:k<d.size
   .have hHk:Holds El.enc wr g 0 d:=by rw[W.out];exact holds_putRow El.enc _ g 0 d d (holds_ahead El.enc w q g 0 d HH.out) rfl
    obtain⟨kp,rfl⟩:∃kp,k=kp+1:=⟨k-1,by omega⟩;obtain⟨c1,f1⟩:=hHk (kp+1) hlt;obtain⟨c0,f0⟩:=hHk kp (by omega);have hcall:=Zbr5 (w:=w) (wr:=wr) (g:=g) (λk hk=>by rw[W.out];exact Zbr4 _ _ _ _ _ _ hk) d[kp+1]! d[kp]!;simp only[Ym]at c1 c0 f1 f0;clear hHk;have hwp:IntKind.i64.wrap (kp:Int)=(kp:Int):=by rw[IntKind.wrap_i64];omega
    have jz:(kp:Int)+1<(d.size:Int):=by omega
    have jz1:(kp:Int)<(d.size:Int):=by omega
    have p0:(0:Int)<=(kp:Int)+1:=by omega
    have e0:((kp:Int)+1).toNat=kp+1:=by omega
    generalize El.enc d[kp+1]! = x at c1 hcall;generalize El.enc d[kp]! = y at c0 hcall;by_cases hdup:El.row d[kp+1]! = El.row d[kp]!
    .rw[decide_eq_true hdup]at hcall;have DD:Aside (El.row d[kp+1]! = El.row d[kp]!):=hdup;clear hdup
     go_wp2_with fail
     go_quiet (refine Calls.quiet_of (hcall _))
     go_wp2_with fail
     have W3:Aside (wr.drewN nq=putRow El.enc (Sort.ahead w (q+nq)) g 0 d):=by show _=_;rw[W.out,Z0e]
     clear hcall c0 c1 f0 f1;generalize wr.drewN nq=wz at W3|-
     go_loopg [5,7] d.size (λgg s5 s7 wr=>∃(kk k2 q2:Nat) (dk:Array (El w g)),s5=.int .i64 kk/\s7=.int .i64 k2/\1<=k2/\kp+1+k2<=d.size/\d.size-(kp+1+k2)<=gg/\Aside (wr=putRow El.enc (Sort.ahead w q2) g 0 dk)/\Aside (CInv El.row d (kp+1+k2) kk dk))
     case atStart=>exact⟨kp+1,1,q+nq,d,rfl,rfl,Yh _,by omega,by omega,W3,CInv.start El.row (by omega) hlt A.out DD.out⟩
     case round =>
      clear W W3;obtain⟨kk,k2,q2,dk,rfl,rfl,h1,hle,hg2,W2,I2⟩:=hrel;have hkk:=I2.out.lt;have hds:=I2.out.size El.row hle;have hHk:Holds El.enc wr g 0 dk:=by rw[W2.out];exact holds_putRow El.enc _ g 0 d dk (holds_ahead El.enc w q2 g 0 d HH.out) hds
      obtain⟨kz,rfl⟩:∃kz,k2=kz+1:=⟨k2-1,by omega⟩;by_cases hlt2:kp+1+(kz+1)<d.size
      .obtain⟨cm,_⟩:=hHk (kp+1+(kz+1)) (by omega);obtain⟨cp,_⟩:=hHk (kp+1+kz) (by omega);obtain⟨ck,fk⟩:=hHk kk (by omega);rw[I2.out.read El.row hle (by omega) hlt2,Ym]at cm;rw[I2.out.read El.row hle (by omega) (by omega),Ym]at cp;rw[Ym]at ck fk;clear hHk;have hcall:=Zbr5 (w:=w) (wr:=wr) (g:=g) (λk hk=>by rw[W2.out];exact Zbr4 _ _ _ _ _ _ hk) d[kp+1+(kz+1)]! d[kp+1+kz]!;have st:∀a m w1,_:=λa m w1=>run_store Tryz.prog w1 a (El.enc d[kp+1+(kz+1)]!) m (El.one _)
       obtain⟨x,hx⟩:∃x,El.enc d[kp+1+(kz+1)]! = x:=⟨_,rfl⟩;have cl:=OneCell.cells (enc:=El.enc) El.one d[kp+1+(kz+1)]!;rw[hx]at cm hcall st cl;simp only[Value.cells]at cl;have XE:Aside (El.enc d[kp+1+(kz+1)]! = x):=hx;clear hx;generalize El.enc d[kp+1+kz]! = y at cp hcall;generalize El.enc dk[kk]! = old at ck;have jz:(kz:Int)+1<((d.size-(kp+1):Nat):Int):=by omega
       have jz1:(kz:Int)<((d.size-(kp+1):Nat):Int):=by omega
       have hwz:IntKind.i64.wrap (kz:Int)=(kz:Int):=by rw[IntKind.wrap_i64];omega
       have q0:(0:Int)<=(kz:Int)+1:=by omega
       have r0:((kz:Int)+1).toNat=kz+1:=by omega
       have kkz:(kk:Int)<(d.size:Int):=by omega
       by_cases hdup2:El.row d[kp+1+(kz+1)]! = El.row d[kp+1+kz]!
       .rw[decide_eq_true hdup2]at hcall;have D2:Aside (El.row d[kp+1+(kz+1)]! = El.row d[kp+1+kz]!):=hdup2;clear hdup2
        go_wp2_with fail
        go_quiet (refine Calls.quiet_of (hcall _))
        go_wp2
        go_roundg (d.size-(kp+1+(kz+1+1)))
        case measure=>omega
        case rel=>exact⟨kk,kz+1+1,q2+nq,dk,rfl,by go_num,by omega,by omega,Yh _,(show Aside _ from by show _=_;rw[W2.out,Z0e]),I2.out.skip El.row hlt2 D2.out⟩
       .rw[decide_eq_false hdup2]at hcall;have D2:Aside (¬El.row d[kp+1+(kz+1)]! = El.row d[kp+1+kz]!):=hdup2;clear hdup2
        go_wp2_with fail
        go_quiet (refine Calls.quiet_of (hcall _))
        go_wp2_with fail
        have W4:Aside (wr.drewN nq=putRow El.enc (Sort.ahead w (q2+nq)) g 0 dk):=by show _=_;rw[W2.out,Z0e]
        clear hcall cm cp ck fk;generalize wr.drewN nq=wq at W4|-
        go_roundg (d.size-(kp+1+(kz+1+1)))
        case measure=>omega
        case rel=>exact⟨kk+1,kz+1+1,q2+nq,dk.setIfInBounds kk d[kp+1+(kz+1)]!,by go_num,by go_num,by omega,by omega,Yh _,(show Aside _ from put_at (by omega) W4.out XE.out),I2.out.keep El.row hlt2 D2.out⟩
      .have hend:kp+1+(kz+1)=d.size:=by omega
       have jz:¬(kz:Int)+1<((d.size-(kp+1):Nat):Int):=by omega
       have kkz:(kk:Int)<=(d.size:Int):=by omega
       have hcl:∀ty,(Builtin.clear_ #[145] ty #[.slice (some ⟨g,kk,none⟩) (d.size-kk) (cap-kk)]).run Tryz.prog wr=.ok (.tuple #[]) (wr.setCells g kk (List.replicate (d.size-kk) (.slice none 0 0))) :=
        λty=>Lib.run_clear_slice wr _ _ ty _ Tryz.underlying145 Tryz.zeroValue90 rfl rfl g kk _ _ (by omega) (λj hj=>by have:=(hHk (kk+j) (by omega)).1;rw[Ym]at this;rw[this];rfl) (λj hj=>by have:=(hHk (kk+j) (by omega)).2;rw[Ym]at this;exact this)
       clear hHk
       go_wp2
       go_ret
       have hI:=I2.out;rw[hend]at hI;have hlen:=hI.len;rw[show d.toList.take d.size=d.toList from Ycn (by simp)]at hlen;exact⟨by rw[hlen];rfl,q2,by rw[hlen];exact put_end El.row hI default W2.out⟩
    .rw[decide_eq_false hdup]at hcall;have DD:Aside (¬El.row d[kp+1]! = El.row d[kp]!):=hdup;clear hdup
     go_wp2_with fail
     go_quiet (refine Calls.quiet_of (hcall _))
     go_wp2
     go_roundg (d.size-(kp+1+1))
     case measure=>omega
     case rel=>exact⟨kp+1+1,q+nq,by omega,by omega,Yh _,by go_num,(show Aside _ from by show _=_;rw[W.out,Z0e]),nb_next El.row (by omega) hlt A.out DD.out⟩
   .have hk2:k=d.size:=by omega
    have hltz:¬(k:Int)<(d.size:Int):=by omega
    go_wp2
    go_ret
    obtain⟨e1,e2⟩:=HS.out q (by have:=A.out;rw[hk2,show d.toList.take d.size=d.toList from Ycn (by simp)]at this;exact this);exact⟨by rw[e1];rfl,q,by rw[<-e2];exact W.out⟩
end Go.Proofs.YtdioodopdlpinaaGreat
namespace Go.Proofs.YtdioodopdlpinaaGreat
open Go.RowKit Go.AM Go.Lib Go.Sort
theorem Zbr6{N:Par}{base:Nat}{ρ:Map}{w w':World}{el sz:Nat}{fr:Bool}(R:Rel N base ρ [.arr el sz fr []] w){r:Root}(hr:ρ 0=some r)(c:∀b,1<=b->ρ b=none)(cc:w.grownBy w' none) :
  Rel N base (updM ρ 1 ⟨.slice none 0 0,[],[]⟩) [.dead,.arr el sz fr []] w'/\
   Keeps ρ w (Free N ρ [.arr el sz fr []]) (updM ρ 1 ⟨.slice none 0 0,[],[]⟩) w' (Free N (updM ρ 1 ⟨.slice none 0 0,[],[]⟩) [.dead,.arr el sz fr []])/\
   ∀g,g<w.heap.size->¬N.a g->w'.heap[g]?=w.heap[g]?:=by
 have hb:gt [Blk.arr el sz fr []] 0=.arr el sz fr []:=by simp[gt]
 have hd:gt [Blk.arr el sz fr []] 0≠.dead:=by rw[hb];intro hc;cases hc
 obtain⟨r1,h1,h2⟩:=R.blk 0 hd;rw[hr]at h1;cases h1;rw[hb]at h2;obtain⟨hex,e2,xs,hel,ho,hsz,hlen,htr,hfree,hfr,how⟩:=h2;have hup:upd [Blk.arr el sz fr []] (kill [0]++[(1,.arr el sz fr [])])=[.dead,.arr el sz fr []]:=by simp[upd,kill,stB]
 have hp:=Zhv R (n:=1) (ks:=[0]) (x:=.arr el sz fr []) (r:=⟨.slice none 0 0,[],[]⟩) (row:=none) (w':=w')
  (by intro r0 h0;rw[c 1 (Yh _)]at h0;cases h0) cc
  (by intro g' hg';cases hg') (by intro g' hg';cases hg')
  (λhk=>⟨rfl,e2,[],hel,⟨by simp,.inl ⟨rfl,rfl⟩⟩,hsz,(by intro x hx;cases hx),.nil,(by intro x hx;cases hx),λ_=>⟨.nil,by intro x hx;cases hx⟩,λ_=>.nil⟩)
  (by intro _ x hx;cases hx)
 rw[hup]at hp;exact hp
theorem Zbr7{α:Type}[Inhabited α](enc:α->Value)(w:World)(c off n:Nat)(d:Array α){k:Nat}(cc:k≠c):(putRow enc (Sort.ahead w n) c off d).heap[k]?=w.heap[k]?:=by
 show(w.heap.modify c (onCells (putCells enc off d)))[k]?=_;rw[Yda,if_neg (Ne.symm cc)]
theorem Zbr8{α:Type}[Inhabited α](enc:α->Value)(w:World)(cc off n:Nat)(d:Array α){c:Array Value}{e:TypeId}{fz:Nat×Nat}(hg:w.heap[cc]?=some (.cells c e fz)):(putRow enc (Sort.ahead w n) cc off d).heap[cc]?=some (.cells (putCells enc off d c) e fz):=by
 show(w.heap.modify cc (onCells (putCells enc off d)))[cc]?=_;rw[Yda,if_pos rfl,hg];rfl
theorem Zch5{fr:Bool}{rows:List (List Int)}(cd:rows.length<=4096)(cc:∀r∈rows,r.length<=4) :
  Zb7 Tryz.prog 231 [.own 0,.fn 232 []] [.arr 90 1 fr (rows.map isc)] (.own 1) [.dead,.arr 90 1 fr ((cptR rows).map isc)]:=by
 refine⟨by decide +kernel,?_⟩;intro N base w ρ vs R hdom hv hz;obtain⟨l⟩:=vs;simp only at hv
 cases hv with|cons q0 hv =>
 cases hv with|cons q1 hv =>
 cases hv
 cases q0 with|own hr h1 =>
 rename_i r
 cases q1 with|fn q1 =>
 rename_i c;obtain⟨c⟩:=c;simp only at q1;cases q1;have hb:gt [Blk.arr 90 1 fr (rows.map isc)] 0=.arr 90 1 fr (rows.map isc):=by simp[gt]
 have hd0:gt [Blk.arr 90 1 fr (rows.map isc)] 0≠.dead:=by rw[hb];intro hc;cases hc
 obtain⟨r2,e1,e2⟩:=R.blk 0 hd0;rw[hr]at e1;cases e1;rw[hb]at e2;obtain⟨hex,e',xs,hel,ho,hsz,hlen1,htr,hfree,hfr,how⟩:=e2;obtain⟨hxl,ho⟩:=ho;have hdom1:∀b,1<=b->ρ b=none:=by intro b hb;exact hdom b (by simpa using hb)
 rcases ho with⟨hrv,hn⟩|⟨g,cap,cur,hrv,hbg,hg,hcap,hcm,hcur,htake⟩
 .have hn:rows=[]:=by simpa using hn
  subst hn;rw[hrv];refine(cpt_nil w).mono ?_;rintro e w' ⟨rfl,rfl⟩;obtain⟨p1,p2,p3⟩:=Zbr6 R hr hdom1 (w':=w') ⟨rfl,rfl,rfl,Yh _,λ_ _ _=>rfl⟩;refine⟨_,_,rfl,Below.refl _ _,p1,.own (b:=1) (r:=⟨.slice none 0 0,[],[]⟩) (by simp[updM]) rfl,λb hb=>?_,by simp,p3,λk hk hzz=>p2.free k hk (hz k hzz),λb r0 hb h0=>p2.root b r0 h0⟩;simp only[updM];rw[if_neg (by simp at hb;omega)];exact hdom1 b (by simp at hb;omega)
 obtain⟨zs,hzx,hch⟩:=Ch.of htr;obtain⟨l,p1,p2,p3,p4⟩:=hch.zip;have hblk:Zbq r.v=some g:=by rw[hrv];rfl
 have hfg:∀x∈r.fp,x≠g:=λx hx e=>by
  subst e;exact(hfree x hx).2 0 r hr hd0 (.inl hblk)
 have hgs:g<w.heap.size:=(Ybx.1 hg).1
 obtain⟨L,hL⟩:=El.list (w:=w) (g:=g) l (by
  intro p hp;have hm:p.1∈rows.map isc:=by rw[<-p1];exact Ys.2 ⟨p,hp,rfl⟩
  obtain⟨r0,hr0,e0⟩:=Ys.1 hm;have ht:=p4 p hp;rw[<-e0]at ht;obtain⟨q,hq⟩:=el_of (g:=g) ht (λx hx=>hfg x (by rw[<-p3];exact Ycl.2 ⟨p.2.2,Ys.2 ⟨p,hp,rfl⟩,hx⟩)) (cc r0 hr0)
  exact⟨q,by rw[hq,e0]⟩)
 subst hL;have hrows:L.map El.row=rows:=by
  have:(L.map El.row).map isc=rows.map isc:=by rw[<-p1];simp[El.t3]
  exact(Ydb (λa b h=>Z79 h)).1 this
 have hLl:L.length=rows.length:=by rw[<-hrows,Yba]
 have henc:L.map El.enc=cur.toList.take ((rows.map isc).length*1):=by
  rw[htake,<-hzx,<-p2,Zyz]
 have hcell:Holds El.enc w g 0 L.toArray:=by
  intro j hj;have hj':j<L.length:=by simpa using hj
  have h2:cur[j]?=some (L[j].enc):=by
   have h3:(cur.toList.take ((rows.map isc).length*1))[j]?=some (L[j].enc):=by rw[<-henc,Ycc,Yc hj'];rfl
   rw[Yb7,if_pos (by simp;omega)]at h3;simpa using h3
  refine⟨?_,?_⟩
  .unfold World.cell?;rw[hg];simp[h2,hj']
  .simp[World.frozen?,hg]
 have hcall:=cpt_walk (w:=w) (g:=g) cap L.toArray hcell (by simp;omega) (by simp at hcap|-;omega);rw[hrv,show(rows.map isc).length=L.toArray.size by simp[hLl]];refine hcall.mono ?_;rintro e w' ⟨rfl,q,rfl⟩;have hsub:=nb_sub El.row L;have hnl:(nb El.row L).length<=L.length:=hsub.length_le;have hgr:w.grownBy (putRow El.enc (Sort.ahead w q) g 0 (nb El.row L++List.replicate (L.length-(nb El.row L).length) default).toArray) (some g) :=
  ⟨rfl,rfl,rfl,by show w.heap.size<=(w.heap.modify g _).size;simp,λk hk hne=>Zbr7 _ _ _ _ _ _ (by intro e;exact hne (by rw[e]))⟩
 obtain⟨P1,P2,P3⟩:=Zbmz R hr hdom1 hrv hg p1 (by rw[p2,hzx,htake]) p3 p4 (hsub.map El.t3) (zr:=List.replicate (L.length-(nb El.row L).length) (El.enc (default:El w g))) (by simp[hLl]) ⟨_,Zbr8 _ _ _ _ _ _ hg,by
  rw[Zyy _ _ _ (by simp at hcap|-;omega),Zyz];simp only[Ybb,Ydg,Ycu,Yp,Ydc,Yba]
  rw[show(nb El.row L).length+(L.length-(nb El.row L).length)=rows.length*1 by omega]⟩ hgr
 rw[Zbm4,nb_cpt,hrows,Yba]at P1 P2;have hln:(nb El.row L.toArray.toList).length=(nb El.row L).length:=rfl;refine⟨_,_,rfl,⟨hgr.os,hgr.tape,hgr.output,hgr.size,λk hk=>hgr.block k (Ycd hk R.hb) (by intro e;cases e;omega)⟩,P1,.own (b:=1) (r:=⟨.slice (some ⟨g,0,none⟩) (nb El.row L).length cap,(((nb El.row L).map El.t3).map (·.2.2)).flatten,[]⟩) (by unfold updM;rw[if_pos rfl]) rfl,λb hb=>?_,by simp,P3,λk hk hzz=>P2.free k hk (hz k hzz),λb r0 hb h0=>P2.root b r0 h0⟩;simp only[updM];rw[if_neg (by simp at hb;omega)];exact hdom1 b (by simp at hb;omega)
end Go.Proofs.YtdioodopdlpinaaGreat
namespace Go.Proofs.YtdioodopdlpinaaGreat
open Go.RowKit Go.AM Go.Lib Go.Sort
def Zbr9:Prop:=∀(blk off cap:Nat) (zs:List Int) (w:World),Holds (Value.int .i64) w blk off zs.toArray->blk<w.heap.size->zs.length<4611686018427387904->
 Calls Tryz.prog 199 #[.slice (some ⟨blk,off,none⟩) zs.length cap] w λe w'=>e=.returned (.tuple #[])/\∃n os,w'=grow (putRow (Value.int .i64) (Sort.ahead w n) blk off (zs.mergeSort λx y=>decide (x<=y)).toArray) os
def Zbsa:Prop:=∀(p:Option Addr) (cap:Nat) (w:World),Calls Tryz.prog 199 #[.slice p 0 cap] w λe w'=>e=.returned (.tuple #[])/\w'=w
def Zbsb:Prop:=∀(blk off cap:Nat) (zs:List Int) (w:World),Holds (Value.int .i64) w blk off zs.toArray->zs.length<=9223372036854775807->zs.length<=cap->
 Calls Tryz.prog 200 #[.slice (some ⟨blk,off,none⟩) zs.length cap] w λe w'=>e=.returned (.slice (some ⟨blk,off,none⟩) (Lib.compact zs).length cap)/\∃q,w'=putRow (Value.int .i64) (Sort.ahead w q) blk off (Lib.compact zs++List.replicate (zs.length-(Lib.compact zs).length) 0).toArray
def Zbsc:Prop:=∀(a:Option Addr) (cap:Nat) (w:World),Calls Tryz.prog 200 #[.slice a 0 cap] w λe w'=>e=.returned (.slice a 0 cap)/\w'=w
def tri(z:Int):List T×List Value×List Nat:=(ic z,[Value.int .i64 z],[])
theorem Z9h{w:World}:∀{r:List Int} {vs:List Value} {fp:List Nat},TRs w (r.map ic).flatten vs fp->vs=r.map (Value.int .i64)/\fp=[]
 |[],vs,fp,h=>by cases h;exact⟨rfl,rfl⟩
 |x::r,vs,fp,h=>by
  rw[Yo,Y3]at h;change TRs w (T.int .i64 x::(r.map ic).flatten) vs fp at h
  cases h with
  |cons h hs =>
   cases h;obtain⟨e1,e2⟩:=Z9h hs;subst e1;subst e2;exact⟨rfl,rfl⟩
theorem tri1(l:List Int):(l.map tri).map (·.1)=l.map ic:=by simp[tri]
theorem tri2(l:List Int):((l.map tri).map (·.2.1)).flatten=l.map (Value.int .i64):=by
 induction l with
 |nil=>rfl
 |cons x l ih=>simp only[Yo,Y3];rw[ih];rfl
theorem tri3(l:List Int):((l.map tri).map (·.2.2)).flatten=[]:=by
 induction l with
 |nil=>rfl
 |cons x l ih=>simp only[Yo,Y3];rw[ih];rfl
theorem tri4{w:World}(l:List Int):∀p∈l.map tri,TRs w p.1 p.2.1 p.2.2:=by
 intro p hp;obtain⟨z,-,rfl⟩:=Ys.1 hp;exact TRs.cons (TR.int _ _) TRs.nil
theorem kp_cons{a b:Int}{l:List Int}(j:Nat):keeps (a::b::l).toArray (j+2)=keeps (b::l).toArray (j+1):=by
 unfold keeps;simp
theorem Zbsd:∀l:List Int,Lib.compact l=cptI l
 |[]=>rfl
 |[a]=>by simp[Lib.compact,compactUpTo,keeps,cptI,Yc4]
 |a::b::l=>by
  have ih:=Zbsd (b::l);have e:∀(c:Int) (m:List Int),Lib.compact (c::m)=c::((List.range m.length).filter λj=>keeps (c::m).toArray (j+1)).map λj=>(c::m).toArray[j+1]!:=by
   intro c m;unfold Lib.compact compactUpTo;rw[Yw,List.range_succ_eq_map,Yb6,if_pos (by simp[keeps]),Yo,List.filter_map,List.map_map];rfl
  rw[e,Yw,List.range_succ_eq_map,Yb6,cptI];rw[e]at ih;have h0:keeps (a::b::l).toArray (0+1)=decide (¬a=b):=by
   unfold keeps;by_cases h:a=b
   .simp[h]
   .simp[h,Ne.symm h]
  have hf:(List.map Nat.succ (List.range l.length)).filter (λj=>keeps (a::b::l).toArray (j+1))=((List.range l.length).filter λj=>keeps (b::l).toArray (j+1)).map Nat.succ:=by
   rw[List.filter_map];congr 1;exact List.filter_congr λj _=>kp_cons j
  have hm:((List.map Nat.succ (List.range l.length)).filter (λj=>keeps (a::b::l).toArray (j+1))).map (λj=>(a::b::l).toArray[j+1]!)=((List.range l.length).filter λj=>keeps (b::l).toArray (j+1)).map λj=>(b::l).toArray[j+1]!:=by
   rw[hf,List.map_map];refine Yb1 λj _=>?_
   simp
  by_cases h:a=b
  .rw[if_pos h,if_neg (by rw[h0];simp[h]),hm,<-ih,h]
  .rw[if_neg h,if_pos (by rw[h0];simp[h]),Yo,hm,<-ih];rfl
theorem Z9i:∀l:List Int,(cptI l).Sublist l
 |[]=>.slnil
 |[a]=>List.Sublist.refl _
 |a::b::l=>by
  unfold cptI;split
  .exact(Z9i (b::l)).cons _
  .exact(Z9i (b::l)).cons_cons _
theorem Zbse{w:World}{g:Nat}{zs:List Int}{c:Array Value}{e:TypeId}(hg:w.heap[g]?=some (.cells c e (0,0)))(ht:c.toList.take zs.length=zs.map (Value.int .i64)):Holds (Value.int .i64) w g 0 zs.toArray:=by
 intro j hj;have hj':j<zs.length:=by simpa using hj
 have h2:c[j]?=some (.int .i64 zs[j]):=by
  have h3:(c.toList.take zs.length)[j]?=some (.int .i64 zs[j]):=by rw[ht,Ycc,Yc hj'];rfl
  rw[Yb7,if_pos hj']at h3;simpa using h3
 refine⟨?_,?_⟩
 .unfold World.cell?;rw[hg];simp[h2,hj']
 .simp[World.frozen?,hg]
theorem Zch6(K:Zbr9)(K0:Zbsa){fr:Bool}{zs:List Int}(c:zs.length<=4096) :
  Zb7 Tryz.prog 199 [.own 0] [.arr 3 1 fr (zs.map ic)] (.tup []) [.arr 3 1 fr ((srtI zs).map ic)]:=by
 refine⟨by decide +kernel,?_⟩;intro N base w ρ vs R hdom hv hz;obtain⟨l⟩:=vs;simp only at hv
 cases hv with|cons q0 hv =>
 cases hv
 cases q0 with|own hr h1 =>
 rename_i r;have hb:gt [Blk.arr 3 1 fr (zs.map ic)] 0=.arr 3 1 fr (zs.map ic):=by simp[gt]
 have hd0:gt [Blk.arr 3 1 fr (zs.map ic)] 0≠.dead:=by rw[hb];intro hc;cases hc
 obtain⟨r2,e1,e2⟩:=R.blk 0 hd0;rw[hr]at e1;cases e1;rw[hb]at e2;obtain⟨hex,e',xs,hel,ho,hsz,hlen1,htr,hfree,hfr,how⟩:=e2;obtain⟨hxl,ho⟩:=ho;rcases ho with⟨hrv,hn⟩|⟨g,cap,cur,hrv,hbg,hg,hcap,hcm,hcur,htake⟩
 .have hn:zs=[]:=by simpa using hn
  subst hn;rw[hrv];refine(K0 none 0 w).mono ?_;rintro e w' ⟨rfl,rfl⟩;exact⟨_,ρ,rfl,Below.refl _ _,by simpa[srtI]using R,.tup .nil,hdom,by simp,λ_ _ _=>rfl,λg hg hzz=>⟨by simpa[srtI]using hz g hzz,rfl⟩,λb r0 _ h=>⟨r0,h,rfl⟩⟩
 obtain⟨hx1,hx2⟩:=Z9h htr;have hgs:g<w.heap.size:=(Ybx.1 hg).1;have hzl:(zs.map ic).length*1=zs.length:=by simp
 have htk:cur.toList.take zs.length=zs.map (Value.int .i64):=by rw[<-hzl,htake,hx1]
 have hcall:=K g 0 cap zs w (Zbse hg htk) hgs (by omega);rw[hrv,show(zs.map ic).length=zs.length by simp];refine hcall.mono ?_;rintro e w' ⟨rfl,n,os,rfl⟩;have hgr:w.grownBy (sortWorld (Value.int .i64) w g 0 n (srtI zs).toArray os) (some g):=⟨rfl,rfl,rfl,by show w.heap.size<=((w.heap.modify g _)++os).size;simp,λk hk hne=>Zyx _ _ _ _ _ _ _ hk (by intro e;exact hne (by rw[e]))⟩;have hperm:(srtI zs).Perm zs:=Ydk _ _;have hsl:(srtI zs).length=zs.length:=hperm.length_eq
 obtain⟨P1,P2,P3⟩:=Zbmy R hr (by intro b hb;exact hdom b (by simpa using hb)) hrv hg (tri1 zs) (by rw[tri2,hzl,htk]) (by rw[tri3,hx2]) (tri4 zs) (hperm.map tri) ⟨_,Zbm3 _ _ _ _ _ _ _ hg,by
  rw[Zyy _ _ _ (by simp at hcap;simp;omega),tri2];simp[hsl]⟩ hgr
 rw[tri1]at P1 P2;refine⟨_,_,rfl,⟨hgr.os,hgr.tape,hgr.output,hgr.size,λk hk=>hgr.block k (Ycd hk R.hb) (by intro e;cases e;omega)⟩,P1,.tup .nil,λb hb=>?_,by simp,P3,λk hk hzz=>P2.free k hk (hz k hzz),λb r0 hb h0=>P2.root b r0 h0⟩;simp only[updM];rw[if_neg (by simp at hb;omega)];exact hdom b (by simpa using hb)
theorem Zch7(K:Zbsb)(K0:Zbsc){fr:Bool}{zs:List Int}(c:zs.length<=4096) :
  Zb7 Tryz.prog 200 [.own 0] [.arr 3 1 fr (zs.map ic)] (.own 1) [.dead,.arr 3 1 fr ((cptI zs).map ic)]:=by
 refine⟨by decide +kernel,?_⟩;intro N base w ρ vs R hdom hv hz;obtain⟨l⟩:=vs;simp only at hv
 cases hv with|cons q0 hv =>
 cases hv
 cases q0 with|own hr h1 =>
 rename_i r;have hb:gt [Blk.arr 3 1 fr (zs.map ic)] 0=.arr 3 1 fr (zs.map ic):=by simp[gt]
 have hd0:gt [Blk.arr 3 1 fr (zs.map ic)] 0≠.dead:=by rw[hb];intro hc;cases hc
 obtain⟨r2,e1,e2⟩:=R.blk 0 hd0;rw[hr]at e1;cases e1;rw[hb]at e2;obtain⟨hex,e',xs,hel,ho,hsz,hlen1,htr,hfree,hfr,how⟩:=e2;obtain⟨hxl,ho⟩:=ho;have hdom1:∀b,1<=b->ρ b=none:=by intro b hb;exact hdom b (by simpa using hb)
 rcases ho with⟨hrv,hn⟩|⟨g,cap,cur,hrv,hbg,hg,hcap,hcm,hcur,htake⟩
 .have hn:zs=[]:=by simpa using hn
  subst hn;rw[hrv];refine(K0 none 0 w).mono ?_;rintro e w' ⟨rfl,rfl⟩;obtain⟨p1,p2,p3⟩:=Zbr6 R hr hdom1 (w':=w') ⟨rfl,rfl,rfl,Yh _,λ_ _ _=>rfl⟩;refine⟨_,_,rfl,Below.refl _ _,p1,.own (b:=1) (r:=⟨.slice none 0 0,[],[]⟩) (by simp[updM]) rfl,λb hb=>?_,by simp,p3,λk hk hzz=>p2.free k hk (hz k hzz),λb r0 hb h0=>p2.root b r0 h0⟩;simp only[updM];rw[if_neg (by simp at hb;omega)];exact hdom1 b (by simp at hb;omega)
 obtain⟨hx1,hx2⟩:=Z9h htr;have hgs:g<w.heap.size:=(Ybx.1 hg).1;have hzl:(zs.map ic).length*1=zs.length:=by simp
 have htk:cur.toList.take zs.length=zs.map (Value.int .i64):=by rw[<-hzl,htake,hx1]
 have hcall:=K g 0 cap zs w (Zbse hg htk) (by omega) (by simpa using hcap);rw[Zbsd]at hcall;rw[hrv,show(zs.map ic).length=zs.length by simp];refine hcall.mono ?_;rintro e w' ⟨rfl,q,rfl⟩;have hsub:=Z9i zs;have hnl:(cptI zs).length<=zs.length:=hsub.length_le;have hgr:w.grownBy (putRow (Value.int .i64) (Sort.ahead w q) g 0 (cptI zs++List.replicate (zs.length-(cptI zs).length) 0).toArray) (some g) :=
  ⟨rfl,rfl,rfl,by show w.heap.size<=(w.heap.modify g _).size;simp,λk hk hne=>Zbr7 _ _ _ _ _ _ (by intro e;exact hne (by rw[e]))⟩
 obtain⟨P1,P2,P3⟩:=Zbmz R hr hdom1 hrv hg (tri1 zs) (by rw[tri2,hzl,htk]) (by rw[tri3,hx2]) (tri4 zs) (hsub.map tri) (zr:=List.replicate (zs.length-(cptI zs).length) (Value.int .i64 0)) (by simp) ⟨_,Zbr8 _ _ _ _ _ _ hg,by
  rw[Zyy _ _ _ (by simp at hcap|-;omega),tri2];simp only[Ybb,Ydg,Ycu,Yp,Ydc,Yba]
  rw[show(cptI zs).length+(zs.length-(cptI zs).length)=zs.length*1 by omega]⟩ hgr
 rw[tri1,Yba]at P1 P2;refine⟨_,_,rfl,⟨hgr.os,hgr.tape,hgr.output,hgr.size,λk hk=>hgr.block k (Ycd hk R.hb) (by intro e;cases e;omega)⟩,P1,.own (b:=1) (r:=⟨.slice (some ⟨g,0,none⟩) (cptI zs).length cap,(((cptI zs).map tri).map (·.2.2)).flatten,[]⟩) (by unfold updM;rw[if_pos rfl]) rfl,λb hb=>?_,by simp,P3,λk hk hzz=>P2.free k hk (hz k hzz),λb r0 hb h0=>P2.root b r0 h0⟩;simp only[updM];rw[if_neg (by simp at hb;omega)];exact hdom1 b (by simp at hb;omega)
end Go.Proofs.YtdioodopdlpinaaGreat
namespace Go.Proofs.YtdioodopdlpinaaGreat
open Go.RowKit Go.AM Go.Lib Go.Sort Go.Shelf
def sI_ren:Go.Shelf.Ren:=⟨λ|189=>199|125=>240|257=>239|128=>270|129=>271|294=>261|295=>262|296=>263|297=>264|298=>265|299=>266|216=>267|300=>268|301=>269|328=>291|329=>292|330=>293|331=>294|332=>295|215=>296|343=>311|n=>n,λ|28=>90|3=>3|46=>301|0=>0|51=>325|53=>327|4=>4|183=>318|182=>317|131=>322|5=>5|9=>9|218=>340|222=>225|228=>358|229=>359|n=>n,λ|n=>n⟩
theorem sI:Go.Proofs.Lays.n189 Tryz.prog sI_ren:={ mixed:=by kernel_rfl,f125:=Tryz.func240.trans (congrArg some (by kernel_rfl)),f128:=Tryz.func270.trans (congrArg some (by kernel_rfl)),f129:=Tryz.func271.trans (congrArg some (by kernel_rfl)),f189:=Tryz.func199.trans (congrArg some (by kernel_rfl)),f215:=Tryz.func296.trans (congrArg some (by kernel_rfl)),f216:=Tryz.func267.trans (congrArg some (by kernel_rfl)),f257:=Tryz.func239.trans (congrArg some (by kernel_rfl)),f294:=Tryz.func261.trans (congrArg some (by kernel_rfl)),f295:=Tryz.func262.trans (congrArg some (by kernel_rfl)),f296:=Tryz.func263.trans (congrArg some (by kernel_rfl)),f297:=Tryz.func264.trans (congrArg some (by kernel_rfl)),f298:=Tryz.func265.trans (congrArg some (by kernel_rfl)),f299:=Tryz.func266.trans (congrArg some (by kernel_rfl)),f300:=Tryz.func268.trans (congrArg some (by kernel_rfl)),f301:=Tryz.func269.trans (congrArg some (by kernel_rfl)),f328:=Tryz.func291.trans (congrArg some (by kernel_rfl)),f329:=Tryz.func292.trans (congrArg some (by kernel_rfl)),f330:=Tryz.func293.trans (congrArg some (by kernel_rfl)),f331:=Tryz.func294.trans (congrArg some (by kernel_rfl)),f332:=Tryz.func295.trans (congrArg some (by kernel_rfl)),f343:=Tryz.func311.trans (congrArg some (by kernel_rfl)),t0:=Tryz.underlying0,a0:=Tryz.isAgg0,z0:=Tryz.sizeOf0,v0:=Tryz.zeroValue0,t3:=Tryz.underlying3,a3:=Tryz.isAgg3,z3:=Tryz.sizeOf3,v3:=Tryz.zeroValue3,t4:=Tryz.underlying4,a4:=Tryz.isAgg4,z4:=Tryz.sizeOf4,v4:=Tryz.zeroValue4,t5:=Tryz.underlying5,a5:=Tryz.isAgg5,z5:=Tryz.sizeOf5,v5:=Tryz.zeroValue5,t9:=Tryz.underlying9,a9:=Tryz.isAgg9,z9:=Tryz.sizeOf9,v9:=Tryz.zeroValue9,t28:=Tryz.underlying90,a28:=Tryz.isAgg90,z28:=Tryz.sizeOf90,v28:=Tryz.zeroValue90,t46:=Tryz.underlying301,a46:=Tryz.isAgg301,z46:=Tryz.sizeOf301,v46:=Tryz.zeroValue301,t51:=Tryz.underlying325,a51:=Tryz.isAgg325,z51:=Tryz.sizeOf325,v51:=Tryz.zeroValue325,t53:=Tryz.underlying327,a53:=Tryz.isAgg327,z53:=Tryz.sizeOf327,v53:=Tryz.zeroValue327,t131:=Tryz.underlying322,a131:=Tryz.isAgg322,z131:=Tryz.sizeOf322,v131:=Tryz.zeroValue322,t182:=Tryz.underlying317,a182:=Tryz.isAgg317,z182:=Tryz.sizeOf317,v182:=Tryz.zeroValue317,t183:=Tryz.underlying318,a183:=Tryz.isAgg318,z183:=Tryz.sizeOf318,v183:=Tryz.zeroValue318,t218:=Tryz.underlying340,a218:=Tryz.isAgg340,z218:=Tryz.sizeOf340,v218:=Tryz.zeroValue340,t222:=Tryz.underlying225,a222:=Tryz.isAgg225,z222:=Tryz.sizeOf225,v222:=Tryz.zeroValue225,t228:=Tryz.underlying358,a228:=Tryz.isAgg358,z228:=Tryz.sizeOf358,v228:=Tryz.zeroValue358,t229:=Tryz.underlying359,a229:=Tryz.isAgg359,z229:=Tryz.sizeOf359,v229:=Tryz.zeroValue359 }
def cI_ren:Go.Shelf.Ren:=⟨λ|20=>200|n=>n,λ|22=>90|3=>3|4=>4|0=>0|n=>n,λ|n=>n⟩
theorem cI:Go.Proofs.Lays2.n20 Tryz.prog cI_ren:={ mixed:=by kernel_rfl,f20:=Tryz.func200.trans (congrArg some (by kernel_rfl)),t0:=Tryz.underlying0,a0:=Tryz.isAgg0,z0:=Tryz.sizeOf0,v0:=Tryz.zeroValue0,t3:=Tryz.underlying3,a3:=Tryz.isAgg3,z3:=Tryz.sizeOf3,v3:=Tryz.zeroValue3,t4:=Tryz.underlying4,a4:=Tryz.isAgg4,z4:=Tryz.sizeOf4,v4:=Tryz.zeroValue4,t22:=Tryz.underlying90,a22:=Tryz.isAgg90,z22:=Tryz.sizeOf90,v22:=Tryz.zeroValue90,i3:=by kernel_rfl }
theorem kitSortI:Zbr9:=λblk off cap zs w hH hb hz=>Any.slices_Sort_int sI blk off cap zs w hH hb hz
theorem Zch8:Zbsa:=λp cap w=>Any.slices_Sort_int_none sI p cap w
theorem kitCptI:Zbsb:=λblk off cap zs w hH hz hc=>Any.slices_Compact_int cI blk off cap zs w hH hz hc
theorem kitCptI0:Zbsc:=λa cap w=>Any.slices_Compact_int_empty cI a cap w
end Go.Proofs.YtdioodopdlpinaaGreat
namespace Go.Proofs.YtdioodopdlpinaaGreat
open Go.RowKit Go.AM Go.Lib Go.Sort Go.Shelf
def Zch9:Go.Shelf.Ren:=⟨λ|6=>230|15=>240|14=>260|28=>270|29=>271|20=>283|21=>284|22=>285|23=>286|24=>287|25=>288|26=>289|27=>290|46=>308|47=>292|48=>293|49=>309|50=>310|57=>314|n=>n,λ|22=>145|24=>90|25=>196|3=>3|39=>301|0=>0|53=>325|55=>327|4=>4|46=>318|45=>317|50=>322|5=>5|9=>9|66=>340|70=>225|76=>358|77=>359|n=>n,λ|n=>n⟩
theorem sortR:Go.Proofs.SlLaysF.n6 Tryz.prog Zch9:={ mixed:=by kernel_rfl,f6:=⟨Tryz.f230.name,by decide,Tryz.func230.trans (congrArg some (by kernel_rfl))⟩,f14:=⟨Tryz.f260.name,by decide,Tryz.func260.trans (congrArg some (by kernel_rfl))⟩,f15:=Tryz.func240.trans (congrArg some (by kernel_rfl)),f20:=⟨Tryz.f283.name,by decide,Tryz.func283.trans (congrArg some (by kernel_rfl))⟩,f21:=⟨Tryz.f284.name,by decide,Tryz.func284.trans (congrArg some (by kernel_rfl))⟩,f22:=⟨Tryz.f285.name,by decide,Tryz.func285.trans (congrArg some (by kernel_rfl))⟩,f23:=⟨Tryz.f286.name,by decide,Tryz.func286.trans (congrArg some (by kernel_rfl))⟩,f24:=⟨Tryz.f287.name,by decide,Tryz.func287.trans (congrArg some (by kernel_rfl))⟩,f25:=⟨Tryz.f288.name,by decide,Tryz.func288.trans (congrArg some (by kernel_rfl))⟩,f26:=⟨Tryz.f289.name,by decide,Tryz.func289.trans (congrArg some (by kernel_rfl))⟩,f27:=⟨Tryz.f290.name,by decide,Tryz.func290.trans (congrArg some (by kernel_rfl))⟩,f28:=Tryz.func270.trans (congrArg some (by kernel_rfl)),f29:=Tryz.func271.trans (congrArg some (by kernel_rfl)),f46:=⟨Tryz.f308.name,by decide,Tryz.func308.trans (congrArg some (by kernel_rfl))⟩,f47:=Tryz.func292.trans (congrArg some (by kernel_rfl)),f48:=Tryz.func293.trans (congrArg some (by kernel_rfl)),f49:=⟨Tryz.f309.name,by decide,Tryz.func309.trans (congrArg some (by kernel_rfl))⟩,f50:=⟨Tryz.f310.name,by decide,Tryz.func310.trans (congrArg some (by kernel_rfl))⟩,f57:=⟨Tryz.f314.name,by decide,Tryz.func314.trans (congrArg some (by kernel_rfl))⟩,t0:=Tryz.underlying0,a0:=Tryz.isAgg0,z0:=Tryz.sizeOf0,v0:=Tryz.zeroValue0,t3:=Tryz.underlying3,a3:=Tryz.isAgg3,z3:=Tryz.sizeOf3,v3:=Tryz.zeroValue3,t4:=Tryz.underlying4,a4:=Tryz.isAgg4,z4:=Tryz.sizeOf4,v4:=Tryz.zeroValue4,t5:=Tryz.underlying5,a5:=Tryz.isAgg5,z5:=Tryz.sizeOf5,v5:=Tryz.zeroValue5,t9:=Tryz.underlying9,a9:=Tryz.isAgg9,z9:=Tryz.sizeOf9,v9:=Tryz.zeroValue9,t22:=Tryz.underlying145,a22:=Tryz.isAgg145,z22:=Tryz.sizeOf145,v22:=Tryz.zeroValue145,a24:=Tryz.isAgg90,z24:=Tryz.sizeOf90,t25:=Tryz.underlying196,a25:=Tryz.isAgg196,z25:=Tryz.sizeOf196,v25:=Tryz.zeroValue196,t39:=Tryz.underlying301,a39:=Tryz.isAgg301,z39:=Tryz.sizeOf301,v39:=Tryz.zeroValue301,t45:=Tryz.underlying317,a45:=Tryz.isAgg317,z45:=Tryz.sizeOf317,v45:=Tryz.zeroValue317,t46:=Tryz.underlying318,a46:=Tryz.isAgg318,z46:=Tryz.sizeOf318,v46:=Tryz.zeroValue318,t50:=Tryz.underlying322,a50:=Tryz.isAgg322,z50:=Tryz.sizeOf322,v50:=Tryz.zeroValue322,t53:=Tryz.underlying325,a53:=Tryz.isAgg325,z53:=Tryz.sizeOf325,v53:=Tryz.zeroValue325,t55:=Tryz.underlying327,a55:=Tryz.isAgg327,z55:=Tryz.sizeOf327,v55:=Tryz.zeroValue327,t66:=Tryz.underlying340,a66:=Tryz.isAgg340,z66:=Tryz.sizeOf340,v66:=Tryz.zeroValue340,t70:=Tryz.underlying225,a70:=Tryz.isAgg225,z70:=Tryz.sizeOf225,v70:=Tryz.zeroValue225,t76:=Tryz.underlying358,a76:=Tryz.isAgg358,z76:=Tryz.sizeOf358,v76:=Tryz.zeroValue358,t77:=Tryz.underlying359,a77:=Tryz.isAgg359,z77:=Tryz.sizeOf359,v77:=Tryz.zeroValue359 }
theorem kitSort:Zbm1:=by
 intro α _ enc h1 cf hO blk off cap d w hcmp hH hblk hsz;have eg:∀args w,(callFunc 228 args).run Tryz.prog w=.ok (.enter 228 args) w:=enters_of Tryz.func228 (by kernel_rfl) rfl;exact Any.slices_SortFunc sortR enc h1 cf hO 228 #[] blk off cap d w eg hcmp hH hblk hsz
theorem kitSort0:Zbm2:=λp cap w=>AnyF.slices_SortFunc_none { sortR with } p cap _ w
theorem Zcia(f:Nat)(xs:List AV)(h0:List Blk)(r:AV)(hr:List Blk)(h:ext f xs h0=some (r,hr)):Zb7 Tryz.prog f xs h0 r hr:=by
 unfold ext at h;split at h
 .split at h
  .subst f;unfold extS at h;split at h
   .rename_i hc;obtain⟨h1,h2,h3⟩:=hc.choose_spec;generalize hc.choose=rows at h h1 h2 h3;subst h1;cases h;exact Zb8z kitSort kitSort0 h2 h3
   .cases h
  .cases h
 .split at h
  .subst f;unfold extS at h;split at h
   .rename_i hc;obtain⟨h1,h2,h3⟩:=hc.choose_spec;generalize hc.choose=rows at h h1 h2 h3;subst h1;cases h;exact Zch5 h2 h3
   .cases h
  .cases h
 .split at h
  .subst f;unfold extI at h;split at h
   .rename_i hc;obtain⟨h1,h2⟩:=hc.choose_spec;generalize hc.choose=l at h h1 h2;subst h1;cases h;exact Zch6 kitSortI Zch8 h2
   .cases h
  .split at h
   .subst f;unfold extI at h;split at h
    .rename_i hc;obtain⟨h1,h2⟩:=hc.choose_spec;generalize hc.choose=l at h h1 h2;subst h1;cases h;exact Zch7 kitCptI kitCptI0 h2
    .cases h
   .cases h
 .cases h
theorem sound{f:Nat}{xs:List AV}{h0:List Blk}{r:AV}{hr:List Blk}(h:C f xs h0=some (r,hr)):Zb7 Tryz.prog f xs h0 r hr:=Zbub tbl_ok Zcia h
end Go.Proofs.YtdioodopdlpinaaGreat
