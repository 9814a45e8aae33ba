/-
  Parts of the proofs for this seat: FA V7 V8 BQ WL SX WI MP MQ MR EN L29.
-/
import Derived.Test.YtgnfoghkbpkgjaaGreatP7
import Derived.Test.YtgnfoghkbpkgjaaGreatP11
import Derived.Test.YtgnfoghkbpkgjaaGreatP13
set_option linter.unusedSimpArgs false
set_option linter.unusedVariables false
set_option maxRecDepth 100000
set_option maxHeartbeats 4000000
namespace Go.Proofs.YtgnfoghkbpkgjaaGreat
open Go.AM
theorem l_toIntS (xs:List Int) (h:SmA xs) (fr:List Fr):∀ i,i≤xs.length→EvL C fr [0,3,4] Zqz ⟨[(0,L 1 (xs.map ic)),(3,.own 0),(4,I i)],[[]],[.arr Zv 1 true (fill ic [.int .i64 0] xs i)]⟩ =
  EvX C fr (.x 0) ⟨[(0,L 1 (xs.map ic)),(3,.own 0),(4,I xs.length),(11,Bo false)],[[]],[.arr Zv 1 true (xs.map ic)]⟩:=by
 have hl:xs.length≤4294967296:=h
 refine down xs.length ?_ ?_
 ·rw [EvL_eq Zqz.eq_1]
  simp [fill_all]
 ·intro i hi ih
  rw [EvL_eq Zqz.eq_1,← ih]
  have h1:=fill_set (f:=ic) (z:=[.int .i64 0]) hi
  have h3:=fill_len (f:=ic) (z:=[.int .i64 0]) (Nat.le_of_lt hi)
  have h4:IntKind.wrap .i64 ((i:Int)+1)=(i:Int)+1:=wrap64 (by omega) (by omega)
  simp at h1
  simp [hi,h3,h4,h1]
theorem Znq (xs:List Int) (h:SmA xs):C Zba3 [L 1 (xs.map ic)] []=some (.own 0,[.arr Zv 1 true (xs.map ic)]):=by
 refine run Zbmx rfl ?_
 have hl:xs.length≤4294967296:=h
 have h1:∀ b,b≤4096→xs.length*b≤room:=fun b hb=>Nat.le_trans (Nat.mul_le_mul hl hb) (by decide)
 have h2:(xs.length:Int)≤140737488355328:=by omega
 have h3:=fun fr=>l_toIntS xs h fr 0 (Nat.zero_le _)
 simp [fill_zero] at h3
 simp [Z8y,h1,h2,h3]
theorem l_eqIntS (xs ys:List Int) (h:SmA xs) (hl:ys.length=xs.length) (fr:List Fr):∀ i,i≤xs.length→EvL C fr [0,1,5] Znm ⟨[(0,L 1 (xs.map ic)),(1,L 1 (ys.map ic)),(5,I i)],[[]],[]⟩ =
  if xs.drop i=ys.drop i then EvX C fr (.x 0) ⟨[(0,L 1 (xs.map ic)),(1,L 1 (ys.map ic)),(5,I xs.length),(14,Bo false)],[[]],[]⟩ else EvX C fr .r ⟨[(4,Bo false)],[[]],[]⟩:=by
 have hm:xs.length≤4294967296:=h
 refine down xs.length ?_ ?_
 ·rw [EvL_eq Znm.eq_1]
  simp [hl,List.drop_eq_nil_of_le]
 ·intro i hi ih
  have hi2:i<ys.length:=by omega
  have h4:IntKind.wrap .i64 ((i:Int)+1)=(i:Int)+1:=wrap64 (by omega) (by omega)
  rw [EvL_eq Znm.eq_1]
  simp +decide [hi,hi2,h4]
  simp at ih
  simp only [drop_eq_iff hi hi2,ih]
  split <;> first | (simp_all;done) | grind
theorem Zkn (xs ys:List Int) (h:SmA xs):C Zye [L 1 (xs.map ic),L 1 (ys.map ic)] []=some (Bo (decide (xs=ys)),[]):=by
 refine run Z8c rfl ?_
 by_cases hl:ys.length=xs.length
 ·have h3:=fun fr=>l_eqIntS xs ys h hl fr 0 (Nat.zero_le _)
  simp at h3
  simp [Zqw,h3,hl]
  split <;> simp_all
 ·have h1:xs≠ys:=fun h=>hl (by rw [h])
  have h2:¬ ((xs.length:Int)=ys.length):=by omega
  simp [Zqw,h1,h2]
@[simp] theorem Zrd (es:List (List T)) (left:Int):C Zbay [L 1 es,I left] []=some (I (sz1 es.length left),[]):=by
 refine run Zbms rfl ?_
 simp [Z8t,sz1]
 split <;> simp_all
theorem Zbnm (xs:List (List Int)) (h:SmL SmA xs) (fr:List Fr):∀ i,i≤xs.length→EvL C fr [0,3,4] Zq1 ⟨[(0,L 1 (xs.map isc)),(3,.own 0),(4,I i)],[[]],[.arr Zij 1 true (fill isc [.lst 1 []] xs i)]⟩ =
  EvX C fr (.x 0) ⟨[(0,L 1 (xs.map isc)),(3,.own 0),(4,I xs.length),(11,Bo false)],[[]],[.arr Zij 1 true (xs.map isc)]⟩:=by
 have hl:xs.length≤4294967296:=h.1
 refine down xs.length ?_ ?_
 ·rw [EvL_eq Zq1.eq_1]
  simp [fill_all]
 ·intro i hi ih
  rw [EvL_eq Zq1.eq_1,← ih]
  have h1:=fill_set (f:=isc) (z:=[.lst 1 []]) hi
  have h3:=fill_len (f:=isc) (z:=[.lst 1 []]) (Nat.le_of_lt hi)
  have h4:IntKind.wrap .i64 ((i:Int)+1)=(i:Int)+1:=wrap64 (by omega) (by omega)
  simp at h1
  simp [hi,Znq _ (h.2 _ (List.getElem_mem hi)),h3,h4,h1]
theorem Zbnn (xs:List (List Int)) (h:SmL SmA xs):C Zba5 [L 1 (xs.map isc)] []=some (.own 0,[.arr Zij 1 true (xs.map isc)]):=by
 refine run Zbmz rfl ?_
 have hl:xs.length≤4294967296:=h.1
 have h1:∀ b,b≤4096→xs.length*b≤room:=fun b hb=>Nat.le_trans (Nat.mul_le_mul hl hb) (by decide)
 have h2:(xs.length:Int)≤140737488355328:=by omega
 have h3:=fun fr=>Zbnm xs h fr 0 (Nat.zero_le _)
 simp [fill_zero] at h3
 simp [Z80,h1,h2,h3]
theorem Zbno (xs ys:List (List Int)) (h:SmL SmA xs) (hl:ys.length=xs.length) (fr:List Fr):∀ i,i≤xs.length→EvL C fr [0,1,5] Zq4 ⟨[(0,L 1 (xs.map isc)),(1,L 1 (ys.map isc)),(5,I i)],[[]],[]⟩ =
  if xs.drop i=ys.drop i then EvX C fr (.x 0) ⟨[(0,L 1 (xs.map isc)),(1,L 1 (ys.map isc)),(5,I xs.length),(14,Bo false)],[[]],[]⟩ else EvX C fr .r ⟨[(4,Bo false)],[[]],[]⟩:=by
 have hm:xs.length≤4294967296:=h.1
 refine down xs.length ?_ ?_
 ·rw [EvL_eq Zq4.eq_1]
  simp [hl,List.drop_eq_nil_of_le]
 ·intro i hi ih
  have hi2:i<ys.length:=by omega
  have h4:IntKind.wrap .i64 ((i:Int)+1)=(i:Int)+1:=wrap64 (by omega) (by omega)
  rw [EvL_eq Zq4.eq_1]
  simp +decide [hi,hi2,Zkn _ _ (h.2 _ (List.getElem_mem hi)),h4]
  simp at ih
  simp only [drop_eq_iff hi hi2,ih]
  split <;> first | (simp_all;done) | grind
theorem Zbnp (xs ys:List (List Int)) (h:SmL SmA xs):C Zba9 [L 1 (xs.map isc),L 1 (ys.map isc)] []=some (Bo (decide (xs=ys)),[]):=by
 refine run Zbm3 rfl ?_
 by_cases hl:ys.length=xs.length
 ·have h3:=fun fr=>Zbno xs ys h hl fr 0 (Nat.zero_le _)
  simp at h3
  simp [Zxo,h3,hl]
  split <;> simp_all
 ·have h1:xs≠ys:=fun h=>hl (by rw [h])
  have h2:¬ ((xs.length:Int)=ys.length):=by omega
  simp [Zxo,h1,h2]
theorem Zbnq (xs:List (List Int)) (h:OkL (OkL OkI) xs) (fr:List Fr):∀ i,i≤xs.length→∀ left:Int,
  (EvL C fr [0,1,5] Zic ⟨[(0,L 1 (xs.map isc)),(1,I left),(5,I i)],[[]],[]⟩=EvX C fr .r ⟨[(4,I (-1))],[[]],[]⟩∧szFold szI (xs.drop i) left=-1) ∨
  EvL C fr [0,1,5] Zic ⟨[(0,L 1 (xs.map isc)),(1,I left),(5,I i)],[[]],[]⟩=EvX C fr (.x 0) ⟨[(0,L 1 (xs.map isc)),(1,I (szFold szI (xs.drop i) left)),(5,I xs.length),(15,Bo false)],[[]],[]⟩:=by
 have hm:maxLen≤9223372036854775807:=by decide
 have hl:=h.1
 refine down xs.length ?_ ?_
 ·intro left
  right
  rw [EvL_eq Zic.eq_1]
  simp [List.drop_eq_nil_of_le,szFold]
 ·intro i hi ih left
  have h4:IntKind.wrap .i64 ((i:Int)+1)=(i:Int)+1:=wrap64 (by omega) (by omega)
  have e:EvL C fr [0,1,5] Zic ⟨[(0,L 1 (xs.map isc)),(1,I left),(5,I i)],[[]],[]⟩=if szI xs[i] left<0 then EvX C fr .r ⟨[(4,I (-1))],[[]],[]⟩ else EvL C fr [0,1,5] Zic ⟨[(0,L 1 (xs.map isc)),(1,I (szI xs[i] left)),(5,I ((i+1:Nat):Int))],[[]],[]⟩:=by
   rw [EvL_eq Zic.eq_1]
   simp [hi,Zrd,h4]
  rw [e,List.drop_eq_getElem_cons hi,szFold]
  split
  ·exact .inl ⟨rfl,rfl⟩
  ·exact ih _
theorem Zbnr (xs:List (List Int)) (left:Int) (h:OkL (OkL OkI) xs):C Zba0 [L 1 (xs.map isc),I left] []=some (I (szL szI xs left),[]):=by
 refine run Zbmu rfl ?_
 have h3:=fun fr l=>Zbnq xs h fr 0 (Nat.zero_le _) l
 simp at h3
 simp [Z8v,szL,andSz,sz1]
 split
 ·simp_all
 ·rcases h3 [.blk 0,.seq _,.fin _ _] (IntKind.wrap .i64 (left - xs.length)) with ⟨h5,h6⟩ | h5
  ·rw [h5];simp [h6]
  ·rw [h5];simp
theorem c_toAtom (x0:ByteArray) (x1:List Int) (h1:SmA x1):C Zbbk [.agg [.t (.str x0),.t (tI x1)]] []=some (.agg [.t (.str x0),.own 0],[.arr Zv 1 true (x1.map ic)]):=by
 refine run Zbne rfl ?_
 simp [Z9c,Znq _ h1]
theorem c_eqAtom (x0:ByteArray) (x1:List Int) (y0:ByteArray) (y1:List Int) (h1:SmA x1):C Zbbm [.agg [.t (.str x0),.t (tI x1)],.agg [.t (.str y0),.t (tI y1)]] []=some (Bo (decide (x0=y0∧x1=y1)),[]):=by
 refine run Zbng rfl ?_
 simp [Z9d,Zkn _ _ h1]
 repeat' split
 all_goals first | (simp_all;done) | grind
theorem c_szAtom (x0:ByteArray) (x1:List Int) (left:Int) :C Zbbi [.agg [.t (.str x0),.t (tI x1)],I left] []=some (I (Atom.sz ⟨x0,x1⟩ left),[]):=by
 refine run Zbnc rfl ?_
 simp [Z9a,Zrd,Atom.sz,andSz,sz1]
 repeat' split
 all_goals first | (simp_all;done) | grind
theorem Zbns (xs:List Atom) (h:SmL Atom.small xs) (fr:List Fr):∀ i,i≤xs.length→EvL C fr [0,3,4] Zqy ⟨[(0,L 2 (xs.map Atom.c)),(3,.own 0),(4,I i)],[[]],[.arr Zoa 2 true (fill Atom.c [.str ⟨#[]⟩,.lst 1 []] xs i)]⟩ =
  EvX C fr (.x 0) ⟨[(0,L 2 (xs.map Atom.c)),(3,.own 0),(4,I xs.length),(11,Bo false)],[[]],[.arr Zoa 2 true (xs.map Atom.c)]⟩:=by
 have hl:xs.length≤4294967296:=h.1
 refine down xs.length ?_ ?_
 ·rw [EvL_eq Zqy.eq_1]
  simp [fill_all]
 ·intro i hi ih
  rw [EvL_eq Zqy.eq_1,← ih]
  have h1:=fill_set (f:=Atom.c) (z:=[.str ⟨#[]⟩,.lst 1 []]) hi
  have h3:=fill_len (f:=Atom.c) (z:=[.str ⟨#[]⟩,.lst 1 []]) (Nat.le_of_lt hi)
  have h4:IntKind.wrap .i64 ((i:Int)+1)=(i:Int)+1:=wrap64 (by omega) (by omega)
  simp at h1
  simp [hi,c_toAtom _ _ (h.2 _ (List.getElem_mem hi)).2,h3,h4,h1]
theorem Zbnt (xs:List Atom) (h:SmL Atom.small xs):C Zba2 [L 2 (xs.map Atom.c)] []=some (.own 0,[.arr Zoa 2 true (xs.map Atom.c)]):=by
 refine run Zbmw rfl ?_
 have hl:xs.length≤4294967296:=h.1
 have h1:∀ b,b≤4096→xs.length*b≤room:=fun b hb=>Nat.le_trans (Nat.mul_le_mul hl hb) (by decide)
 have h2:(xs.length:Int)≤140737488355328:=by omega
 have h3:=fun fr=>Zbns xs h fr 0 (Nat.zero_le _)
 simp [fill_zero] at h3
 simp [Z8x,h1,h2,h3]
theorem Zbnu (xs ys:List Atom) (h:SmL Atom.small xs) (hl:ys.length=xs.length) (fr:List Fr):∀ i,i≤xs.length→EvL C fr [0,1,5] Zq2 ⟨[(0,L 2 (xs.map Atom.c)),(1,L 2 (ys.map Atom.c)),(5,I i)],[[]],[]⟩ =
  if xs.drop i=ys.drop i then EvX C fr (.x 0) ⟨[(0,L 2 (xs.map Atom.c)),(1,L 2 (ys.map Atom.c)),(5,I xs.length),(14,Bo false)],[[]],[]⟩ else EvX C fr .r ⟨[(4,Bo false)],[[]],[]⟩:=by
 have hm:xs.length≤4294967296:=h.1
 refine down xs.length ?_ ?_
 ·rw [EvL_eq Zq2.eq_1]
  simp [hl,List.drop_eq_nil_of_le]
 ·intro i hi ih
  have hi2:i<ys.length:=by omega
  have h4:IntKind.wrap .i64 ((i:Int)+1)=(i:Int)+1:=wrap64 (by omega) (by omega)
  rw [EvL_eq Zq2.eq_1]
  simp +decide [hi,hi2,c_eqAtom _ _ _ _ (h.2 _ (List.getElem_mem hi)).2,h4]
  simp at ih
  simp only [drop_eq_iff hi hi2,ih,Atom.ext_iff]
  split <;> first | (simp_all;done) | grind
theorem Zbnv (xs ys:List Atom) (h:SmL Atom.small xs):C Zba7 [L 2 (xs.map Atom.c),L 2 (ys.map Atom.c)] []=some (Bo (decide (xs=ys)),[]):=by
 refine run Zbm1 rfl ?_
 by_cases hl:ys.length=xs.length
 ·have h3:=fun fr=>Zbnu xs ys h hl fr 0 (Nat.zero_le _)
  simp at h3
  simp [Zxm,h3,hl]
  split <;> simp_all
 ·have h1:xs≠ys:=fun h=>hl (by rw [h])
  have h2:¬ ((xs.length:Int)=ys.length):=by omega
  simp [Zxm,h1,h2]
theorem Zbnw (xs:List Atom) (h:OkL Atom.okay xs) (fr:List Fr):∀ i,i≤xs.length→∀ left:Int,
  (EvL C fr [0,1,5] Zia ⟨[(0,L 2 (xs.map Atom.c)),(1,I left),(5,I i)],[[]],[]⟩=EvX C fr .r ⟨[(4,I (-1))],[[]],[]⟩∧szFold Atom.sz (xs.drop i) left=-1) ∨
  EvL C fr [0,1,5] Zia ⟨[(0,L 2 (xs.map Atom.c)),(1,I left),(5,I i)],[[]],[]⟩=EvX C fr (.x 0) ⟨[(0,L 2 (xs.map Atom.c)),(1,I (szFold Atom.sz (xs.drop i) left)),(5,I xs.length),(15,Bo false)],[[]],[]⟩:=by
 have hm:maxLen≤9223372036854775807:=by decide
 have hl:=h.1
 refine down xs.length ?_ ?_
 ·intro left
  right
  rw [EvL_eq Zia.eq_1]
  simp [List.drop_eq_nil_of_le,szFold]
 ·intro i hi ih left
  have h4:IntKind.wrap .i64 ((i:Int)+1)=(i:Int)+1:=wrap64 (by omega) (by omega)
  have e:EvL C fr [0,1,5] Zia ⟨[(0,L 2 (xs.map Atom.c)),(1,I left),(5,I i)],[[]],[]⟩=if Atom.sz xs[i] left<0 then EvX C fr .r ⟨[(4,I (-1))],[[]],[]⟩ else EvL C fr [0,1,5] Zia ⟨[(0,L 2 (xs.map Atom.c)),(1,I (Atom.sz xs[i] left)),(5,I ((i+1:Nat):Int))],[[]],[]⟩:=by
   rw [EvL_eq Zia.eq_1]
   simp [hi,c_szAtom,h4]
  rw [e,List.drop_eq_getElem_cons hi,szFold]
  split
  ·exact .inl ⟨rfl,rfl⟩
  ·exact ih _
theorem Zbnx (xs:List Atom) (left:Int) (h:OkL Atom.okay xs):C Zbax [L 2 (xs.map Atom.c),I left] []=some (I (szL Atom.sz xs left),[]):=by
 refine run Zbmr rfl ?_
 have h3:=fun fr l=>Zbnw xs h fr 0 (Nat.zero_le _) l
 simp at h3
 simp [Z8s,szL,andSz,sz1]
 split
 ·simp_all
 ·rcases h3 [.blk 0,.seq _,.fin _ _] (IntKind.wrap .i64 (left - xs.length)) with ⟨h5,h6⟩ | h5
  ·rw [h5];simp [h6]
  ·rw [h5];simp
theorem Zbny (x0:Int) (x1:List Atom) (h1:SmL Atom.small x1):C Zbag [.agg [I x0,.t (.lst 2 (x1.map Atom.c))]] []=some (.agg [I x0,.own 0],[.arr Zoa 2 true (x1.map Atom.c)]):=by
 refine run Zbmb rfl ?_
 simp [Z8a,Zbnt _ h1]
theorem Zbnz (x0:Int) (x1:List Atom) (y0:Int) (y1:List Atom) (h1:SmL Atom.small x1):C Zbak [.agg [I x0,.t (.lst 2 (x1.map Atom.c))],.agg [I y0,.t (.lst 2 (y1.map Atom.c))]] []=some (Bo (decide (x0=y0∧x1=y1)),[]):=by
 refine run Zbme rfl ?_
 simp [Z8e,Zbnv _ _ h1]
 repeat' split
 all_goals first | (simp_all;done) | grind
theorem Zbn0 (x0:Int) (x1:List Atom) (left:Int) (h1:OkL Atom.okay x1):C Zbad [.agg [I x0,.t (.lst 2 (x1.map Atom.c))],I left] []=some (I (Zc.sz ⟨x0,x1⟩ left),[]):=by
 refine run Zbl8 rfl ?_
 simp [Z77,Zbnx _ _ h1,Zc.sz,andSz,sz1]
 repeat' split
 all_goals first | (simp_all;done) | grind
theorem c_toBox (x0:List Int) (x1:List Int) (h0:SmA x0) (h1:SmA x1):C Zbat [.agg [.t (tI x0),.t (tI x1)]] []=some (.agg [.own 0,.own 1],[.arr Zv 1 true (x0.map ic),.arr Zv 1 true (x1.map ic)]):=by
 refine run Zbmn rfl ?_
 simp [Z8o,Znq _ h0,Znq _ h1]
theorem c_eqBox (x0:List Int) (x1:List Int) (y0:List Int) (y1:List Int) (h0:SmA x0) (h1:SmA x1):C Zbau [.agg [.t (tI x0),.t (tI x1)],.agg [.t (tI y0),.t (tI y1)]] []=some (Bo (decide (x0=y0∧x1=y1)),[]):=by
 refine run Zbmo rfl ?_
 simp [Z8p,Zkn _ _ h0,Zkn _ _ h1]
 repeat' split
 all_goals first | (simp_all;done) | grind
theorem c_szBox (x0:List Int) (x1:List Int) (left:Int) :C Zbas [.agg [.t (tI x0),.t (tI x1)],I left] []=some (I (Box.sz ⟨x0,x1⟩ left),[]):=by
 refine run Zbmm rfl ?_
 simp [Z8n,Zrd,Box.sz,andSz,sz1]
 repeat' split
 all_goals first | (simp_all;done) | grind
theorem Zbn1 (x0:Int) (x1:Int) :C Zbbq [.agg [I x0,I x1]] []=some (.agg [I x0,I x1],[]):=by
 refine run Zbnk rfl ?_
 simp [Z9i]
theorem Zbn2 (x0:Int) (x1:Int) (y0:Int) (y1:Int) :C Zbbr [.agg [I x0,I x1],.agg [I y0,I y1]] []=some (Bo (decide (x0=y0∧x1=y1)),[]):=by
 refine run Zbnl rfl ?_
 simp [Z9j]
 repeat' split
 all_goals first | (simp_all;done) | grind
theorem Zbn3 (xs:List Zf) (h:SmA xs) (fr:List Fr):∀ i,i≤xs.length→EvL C fr [0,3,4] Zra ⟨[(0,L 2 (xs.map Zf.c)),(3,.own 0),(4,I i)],[[]],[.arr Ze7 2 true (fill Zf.c [.int .i64 0,.int .i64 0] xs i)]⟩ =
  EvX C fr (.x 0) ⟨[(0,L 2 (xs.map Zf.c)),(3,.own 0),(4,I xs.length),(11,Bo false)],[[]],[.arr Ze7 2 true (xs.map Zf.c)]⟩:=by
 have hl:xs.length≤4294967296:=h
 refine down xs.length ?_ ?_
 ·rw [EvL_eq Zra.eq_1]
  simp [fill_all]
 ·intro i hi ih
  rw [EvL_eq Zra.eq_1,← ih]
  have h1:=fill_set (f:=Zf.c) (z:=[.int .i64 0,.int .i64 0]) hi
  have h3:=fill_len (f:=Zf.c) (z:=[.int .i64 0,.int .i64 0]) (Nat.le_of_lt hi)
  have h4:IntKind.wrap .i64 ((i:Int)+1)=(i:Int)+1:=wrap64 (by omega) (by omega)
  simp at h1
  simp [hi,Zbn1,h3,h4,h1]
theorem Zbn4 (xs:List Zf) (h:SmA xs):C Zbbj [L 2 (xs.map Zf.c)] []=some (.own 0,[.arr Ze7 2 true (xs.map Zf.c)]):=by
 refine run Zbnd rfl ?_
 have hl:xs.length≤4294967296:=h
 have h1:∀ b,b≤4096→xs.length*b≤room:=fun b hb=>Nat.le_trans (Nat.mul_le_mul hl hb) (by decide)
 have h2:(xs.length:Int)≤140737488355328:=by omega
 have h3:=fun fr=>Zbn3 xs h fr 0 (Nat.zero_le _)
 simp [fill_zero] at h3
 simp [Z9b,h1,h2,h3]
theorem Zbn5 (xs ys:List Zf) (h:SmA xs) (hl:ys.length=xs.length) (fr:List Fr):∀ i,i≤xs.length→EvL C fr [0,1,5] Zrb ⟨[(0,L 2 (xs.map Zf.c)),(1,L 2 (ys.map Zf.c)),(5,I i)],[[]],[]⟩ =
  if xs.drop i=ys.drop i then EvX C fr (.x 0) ⟨[(0,L 2 (xs.map Zf.c)),(1,L 2 (ys.map Zf.c)),(5,I xs.length),(14,Bo false)],[[]],[]⟩ else EvX C fr .r ⟨[(4,Bo false)],[[]],[]⟩:=by
 have hm:xs.length≤4294967296:=h
 refine down xs.length ?_ ?_
 ·rw [EvL_eq Zrb.eq_1]
  simp [hl,List.drop_eq_nil_of_le]
 ·intro i hi ih
  have hi2:i<ys.length:=by omega
  have h4:IntKind.wrap .i64 ((i:Int)+1)=(i:Int)+1:=wrap64 (by omega) (by omega)
  rw [EvL_eq Zrb.eq_1]
  simp +decide [hi,hi2,Zbn2 _ _ _ _ ,h4]
  simp at ih
  simp only [drop_eq_iff hi hi2,ih,Zf.ext_iff]
  split <;> first | (simp_all;done) | grind
theorem Zbn6 (xs ys:List Zf) (h:SmA xs):C Zbbl [L 2 (xs.map Zf.c),L 2 (ys.map Zf.c)] []=some (Bo (decide (xs=ys)),[]):=by
 refine run Zbnf rfl ?_
 by_cases hl:ys.length=xs.length
 ·have h3:=fun fr=>Zbn5 xs ys h hl fr 0 (Nat.zero_le _)
  simp at h3
  simp [Zxr,h3,hl]
  split <;> simp_all
 ·have h1:xs≠ys:=fun h=>hl (by rw [h])
  have h2:¬ ((xs.length:Int)=ys.length):=by omega
  simp [Zxr,h1,h2]
@[simp] theorem Zbn7 (es:List (List T)) (left:Int):C Zbbh [L 2 es,I left] []=some (I (sz1 es.length left),[]):=by
 refine run Zbnb rfl ?_
 simp [Z89,sz1]
 split <;> simp_all
theorem Znr (x0:Int) (x1:Int) (x2:Int) (x3:Int) (x4:Int) (x5:List Zf) (h5:SmA x5):C Zba1 [.agg [I x0,I x1,I x2,I x3,I x4,.t (.lst 2 (x5.map Zf.c))]] []=some (.agg [I x0,I x1,I x2,I x3,I x4,.own 0],[.arr Ze7 2 true (x5.map Zf.c)]):=by
 refine run Zbmv rfl ?_
 simp [Z8w,Zbn4 _ h5]
theorem Zns (x0:Int) (x1:Int) (x2:Int) (x3:Int) (x4:Int) (x5:List Zf) (y0:Int) (y1:Int) (y2:Int) (y3:Int) (y4:Int) (y5:List Zf) (h5:SmA x5):C Zba6 [.agg [I x0,I x1,I x2,I x3,I x4,.t (.lst 2 (x5.map Zf.c))],.agg [I y0,I y1,I y2,I y3,I y4,.t (.lst 2 (y5.map Zf.c))]] []=some (Bo (decide (x0=y0∧x1=y1∧x2=y2∧x3=y3∧x4=y4∧x5=y5)),[]):=by
 refine run Zbm0 rfl ?_
 simp [Z81,Zbn6 _ _ h5]
 repeat' split
 all_goals first | (simp_all;done) | grind
theorem Zbn8 (x0:Int) (x1:Int) (x2:Int) (x3:Int) (x4:Int) (x5:List Zf) (left:Int) :C Zbaw [.agg [I x0,I x1,I x2,I x3,I x4,.t (.lst 2 (x5.map Zf.c))],I left] []=some (I (Zi.sz ⟨x0,x1,x2,x3,x4,x5⟩ left),[]):=by
 refine run Zbmq rfl ?_
 simp [Z8r,Zbn7,Zi.sz,andSz,sz1]
 repeat' split
 all_goals first | (simp_all;done) | grind
theorem Zbn9 (x0:Int) (x1:Int) (x2:Int) (x3:Int) (x4:Int) (x5:List Zf) (x6:Int) (x7:Int) (x8:Int) (x9:Int) (x10:Int) (x11:List Zf) (x12:Int) (x13:Int) (x14:Int) (x15:Int) (x16:Int) (x17:List Zf) (x18:Int) (x19:Int) (x20:Int) (x21:Int) (x22:Int) (x23:List Zf) (x24:Int) (x25:Int) (x26:Int) (x27:Int) (x28:Int) (x29:List Zf) (h5:SmA x5) (h11:SmA x11) (h17:SmA x17) (h23:SmA x23) (h29:SmA x29):C Zbaf [.agg [I x0,I x1,I x2,I x3,I x4,.t (.lst 2 (x5.map Zf.c)),I x6,I x7,I x8,I x9,I x10,.t (.lst 2 (x11.map Zf.c)),I x12,I x13,I x14,I x15,I x16,.t (.lst 2 (x17.map Zf.c)),I x18,I x19,I x20,I x21,I x22,.t (.lst 2 (x23.map Zf.c)),I x24,I x25,I x26,I x27,I x28,.t (.lst 2 (x29.map Zf.c))]] []=some (.agg [I x0,I x1,I x2,I x3,I x4,.own 0,I x6,I x7,I x8,I x9,I x10,.own 1,I x12,I x13,I x14,I x15,I x16,.own 2,I x18,I x19,I x20,I x21,I x22,.own 3,I x24,I x25,I x26,I x27,I x28,.own 4],[.arr Ze7 2 true (x5.map Zf.c),.arr Ze7 2 true (x11.map Zf.c),.arr Ze7 2 true (x17.map Zf.c),.arr Ze7 2 true (x23.map Zf.c),.arr Ze7 2 true (x29.map Zf.c)]):=by
 refine run Zbma rfl ?_
 simp [Z79,Znr _ _ _ _ _ _ h5,Znr _ _ _ _ _ _ h11,Znr _ _ _ _ _ _ h17,Znr _ _ _ _ _ _ h23,Znr _ _ _ _ _ _ h29]
theorem Zboa (x0:Int) (x1:Int) (x2:Int) (x3:Int) (x4:Int) (x5:List Zf) (x6:Int) (x7:Int) (x8:Int) (x9:Int) (x10:Int) (x11:List Zf) (x12:Int) (x13:Int) (x14:Int) (x15:Int) (x16:Int) (x17:List Zf) (x18:Int) (x19:Int) (x20:Int) (x21:Int) (x22:Int) (x23:List Zf) (x24:Int) (x25:Int) (x26:Int) (x27:Int) (x28:Int) (x29:List Zf) (y0:Int) (y1:Int) (y2:Int) (y3:Int) (y4:Int) (y5:List Zf) (y6:Int) (y7:Int) (y8:Int) (y9:Int) (y10:Int) (y11:List Zf) (y12:Int) (y13:Int) (y14:Int) (y15:Int) (y16:Int) (y17:List Zf) (y18:Int) (y19:Int) (y20:Int) (y21:Int) (y22:Int) (y23:List Zf) (y24:Int) (y25:Int) (y26:Int) (y27:Int) (y28:Int) (y29:List Zf) (h5:SmA x5) (h11:SmA x11) (h17:SmA x17) (h23:SmA x23) (h29:SmA x29):C Zbaj [.agg [I x0,I x1,I x2,I x3,I x4,.t (.lst 2 (x5.map Zf.c)),I x6,I x7,I x8,I x9,I x10,.t (.lst 2 (x11.map Zf.c)),I x12,I x13,I x14,I x15,I x16,.t (.lst 2 (x17.map Zf.c)),I x18,I x19,I x20,I x21,I x22,.t (.lst 2 (x23.map Zf.c)),I x24,I x25,I x26,I x27,I x28,.t (.lst 2 (x29.map Zf.c))],.agg [I y0,I y1,I y2,I y3,I y4,.t (.lst 2 (y5.map Zf.c)),I y6,I y7,I y8,I y9,I y10,.t (.lst 2 (y11.map Zf.c)),I y12,I y13,I y14,I y15,I y16,.t (.lst 2 (y17.map Zf.c)),I y18,I y19,I y20,I y21,I y22,.t (.lst 2 (y23.map Zf.c)),I y24,I y25,I y26,I y27,I y28,.t (.lst 2 (y29.map Zf.c))]] []=some (Bo (decide (x0=y0∧x1=y1∧x2=y2∧x3=y3∧x4=y4∧x5=y5∧x6=y6∧x7=y7∧x8=y8∧x9=y9∧x10=y10∧x11=y11∧x12=y12∧x13=y13∧x14=y14∧x15=y15∧x16=y16∧x17=y17∧x18=y18∧x19=y19∧x20=y20∧x21=y21∧x22=y22∧x23=y23∧x24=y24∧x25=y25∧x26=y26∧x27=y27∧x28=y28∧x29=y29)),[]):=by
 refine run Zbmd rfl ?_
 simp [Z8d,Zns _ _ _ _ _ _ _ _ _ _ _ _ h5,Zns _ _ _ _ _ _ _ _ _ _ _ _ h11,Zns _ _ _ _ _ _ _ _ _ _ _ _ h17,Zns _ _ _ _ _ _ _ _ _ _ _ _ h23,Zns _ _ _ _ _ _ _ _ _ _ _ _ h29]
 repeat' split
 all_goals first | (simp_all;done) | grind
theorem Zbob (x0:Int) (x1:Int) (x2:Int) (x3:Int) (x4:Int) (x5:List Zf) (x6:Int) (x7:Int) (x8:Int) (x9:Int) (x10:Int) (x11:List Zf) (x12:Int) (x13:Int) (x14:Int) (x15:Int) (x16:Int) (x17:List Zf) (x18:Int) (x19:Int) (x20:Int) (x21:Int) (x22:Int) (x23:List Zf) (x24:Int) (x25:Int) (x26:Int) (x27:Int) (x28:Int) (x29:List Zf) (left:Int) :C Zbac [.agg [I x0,I x1,I x2,I x3,I x4,.t (.lst 2 (x5.map Zf.c)),I x6,I x7,I x8,I x9,I x10,.t (.lst 2 (x11.map Zf.c)),I x12,I x13,I x14,I x15,I x16,.t (.lst 2 (x17.map Zf.c)),I x18,I x19,I x20,I x21,I x22,.t (.lst 2 (x23.map Zf.c)),I x24,I x25,I x26,I x27,I x28,.t (.lst 2 (x29.map Zf.c))],I left] []=some (I (Zd.sz ⟨⟨x0,x1,x2,x3,x4,x5⟩,⟨x6,x7,x8,x9,x10,x11⟩,⟨x12,x13,x14,x15,x16,x17⟩,⟨x18,x19,x20,x21,x22,x23⟩,⟨x24,x25,x26,x27,x28,x29⟩⟩ left),[]):=by
 refine run Zbl7 rfl ?_
 simp [Z76,Zbn8,Zd.sz,andSz,sz1]
 repeat' split
 all_goals first | (simp_all;done) | grind
theorem Zboc (x0:Int) (x1:Int) (x2:Int) :C Zbbp [.agg [I x0,I x1,I x2]] []=some (.agg [I x0,I x1,I x2],[]):=by
 refine run Zbnj rfl ?_
 simp [Z9h]
theorem Zbod (x0:Int) (x1:Int) (x2:Int) (y0:Int) (y1:Int) (y2:Int) :C Zbbo [.agg [I x0,I x1,I x2],.agg [I y0,I y1,I y2]] []=some (Bo (decide (x0=y0∧x1=y1∧x2=y2)),[]):=by
 refine run Zbni rfl ?_
 simp [Z9g]
 repeat' split
 all_goals first | (simp_all;done) | grind
theorem Zboe (xs:List Zb) (h:SmA xs) (fr:List Fr):∀ i,i≤xs.length→EvL C fr [0,3,4] Zq9 ⟨[(0,L 3 (xs.map Zb.c)),(3,.own 0),(4,I i)],[[]],[.arr Zn9 3 true (fill Zb.c [.int .i64 0,.int .i64 0,.int .i64 0] xs i)]⟩ =
  EvX C fr (.x 0) ⟨[(0,L 3 (xs.map Zb.c)),(3,.own 0),(4,I xs.length),(11,Bo false)],[[]],[.arr Zn9 3 true (xs.map Zb.c)]⟩:=by
 have hl:xs.length≤4294967296:=h
 refine down xs.length ?_ ?_
 ·rw [EvL_eq Zq9.eq_1]
  simp [fill_all]
 ·intro i hi ih
  rw [EvL_eq Zq9.eq_1,← ih]
  have h1:=fill_set (f:=Zb.c) (z:=[.int .i64 0,.int .i64 0,.int .i64 0]) hi
  have h3:=fill_len (f:=Zb.c) (z:=[.int .i64 0,.int .i64 0,.int .i64 0]) (Nat.le_of_lt hi)
  have h4:IntKind.wrap .i64 ((i:Int)+1)=(i:Int)+1:=wrap64 (by omega) (by omega)
  simp at h1
  simp [hi,Zboc,h3,h4,h1]
theorem Zbof (xs:List Zb) (h:SmA xs):C Zbbg [L 3 (xs.map Zb.c)] []=some (.own 0,[.arr Zn9 3 true (xs.map Zb.c)]):=by
 refine run Zbna rfl ?_
 have hl:xs.length≤4294967296:=h
 have h1:∀ b,b≤4096→xs.length*b≤room:=fun b hb=>Nat.le_trans (Nat.mul_le_mul hl hb) (by decide)
 have h2:(xs.length:Int)≤140737488355328:=by omega
 have h3:=fun fr=>Zboe xs h fr 0 (Nat.zero_le _)
 simp [fill_zero] at h3
 simp [Z88,h1,h2,h3]
theorem Zbog (xs ys:List Zb) (h:SmA xs) (hl:ys.length=xs.length) (fr:List Fr):∀ i,i≤xs.length→EvL C fr [0,1,5] Zq8 ⟨[(0,L 3 (xs.map Zb.c)),(1,L 3 (ys.map Zb.c)),(5,I i)],[[]],[]⟩ =
  if xs.drop i=ys.drop i then EvX C fr (.x 0) ⟨[(0,L 3 (xs.map Zb.c)),(1,L 3 (ys.map Zb.c)),(5,I xs.length),(14,Bo false)],[[]],[]⟩ else EvX C fr .r ⟨[(4,Bo false)],[[]],[]⟩:=by
 have hm:xs.length≤4294967296:=h
 refine down xs.length ?_ ?_
 ·rw [EvL_eq Zq8.eq_1]
  simp [hl,List.drop_eq_nil_of_le]
 ·intro i hi ih
  have hi2:i<ys.length:=by omega
  have h4:IntKind.wrap .i64 ((i:Int)+1)=(i:Int)+1:=wrap64 (by omega) (by omega)
  rw [EvL_eq Zq8.eq_1]
  simp +decide [hi,hi2,Zbod _ _ _ _ _ _ ,h4]
  simp at ih
  simp only [drop_eq_iff hi hi2,ih,Zb.ext_iff]
  split <;> first | (simp_all;done) | grind
theorem Zboh (xs ys:List Zb) (h:SmA xs):C Zbbe [L 3 (xs.map Zb.c),L 3 (ys.map Zb.c)] []=some (Bo (decide (xs=ys)),[]):=by
 refine run Zbm8 rfl ?_
 by_cases hl:ys.length=xs.length
 ·have h3:=fun fr=>Zbog xs ys h hl fr 0 (Nat.zero_le _)
  simp at h3
  simp [Zxp,h3,hl]
  split <;> simp_all
 ·have h1:xs≠ys:=fun h=>hl (by rw [h])
  have h2:¬ ((xs.length:Int)=ys.length):=by omega
  simp [Zxp,h1,h2]
@[simp] theorem Zboi (es:List (List T)) (left:Int):C Zbbf [L 3 es,I left] []=some (I (sz1 es.length left),[]):=by
 refine run Zbm9 rfl ?_
 simp [Z87,sz1]
 split <;> simp_all
theorem c_toPlan (x0:List Zb) (h0:SmA x0):C Zbar [.agg [.t (.lst 3 (x0.map Zb.c))]] []=some (.agg [.own 0],[.arr Zn9 3 true (x0.map Zb.c)]):=by
 refine run Zbml rfl ?_
 simp [Z8m,Zbof _ h0]
theorem c_eqPlan (x0:List Zb) (y0:List Zb) (h0:SmA x0):C Zbap [.agg [.t (.lst 3 (x0.map Zb.c))],.agg [.t (.lst 3 (y0.map Zb.c))]] []=some (Bo (decide (x0=y0)),[]):=by
 refine run Zbmj rfl ?_
 simp [Z8k,Zboh _ _ h0]
 repeat' split
 all_goals first | (simp_all;done) | grind
theorem c_szPlan (x0:List Zb) (left:Int) :C Zbaq [.agg [.t (.lst 3 (x0.map Zb.c))],I left] []=some (I (Plan.sz ⟨x0⟩ left),[]):=by
 refine run Zbmk rfl ?_
 simp [Z8l,Zboi,Plan.sz,andSz,sz1]
 repeat' split
 all_goals first | (simp_all;done) | grind
theorem Zboj (xs:List Plan) (h:SmL Plan.small xs) (fr:List Fr):∀ i,i≤xs.length→EvL C fr [0,3,4] Zq0 ⟨[(0,L 1 (xs.map Plan.c)),(3,.own 0),(4,I i)],[[]],[.arr Zn8 1 true (fill Plan.c [.lst 3 []] xs i)]⟩ =
  EvX C fr (.x 0) ⟨[(0,L 1 (xs.map Plan.c)),(3,.own 0),(4,I xs.length),(11,Bo false)],[[]],[.arr Zn8 1 true (xs.map Plan.c)]⟩:=by
 have hl:xs.length≤4294967296:=h.1
 refine down xs.length ?_ ?_
 ·rw [EvL_eq Zq0.eq_1]
  simp [fill_all]
 ·intro i hi ih
  rw [EvL_eq Zq0.eq_1,← ih]
  have h1:=fill_set (f:=Plan.c) (z:=[.lst 3 []]) hi
  have h3:=fill_len (f:=Plan.c) (z:=[.lst 3 []]) (Nat.le_of_lt hi)
  have h4:IntKind.wrap .i64 ((i:Int)+1)=(i:Int)+1:=wrap64 (by omega) (by omega)
  simp at h1
  simp [hi,c_toPlan _ (h.2 _ (List.getElem_mem hi)),h3,h4,h1]
theorem Zbok (xs:List Plan) (h:SmL Plan.small xs):C Zba4 [L 1 (xs.map Plan.c)] []=some (.own 0,[.arr Zn8 1 true (xs.map Plan.c)]):=by
 refine run Zbmy rfl ?_
 have hl:xs.length≤4294967296:=h.1
 have h1:∀ b,b≤4096→xs.length*b≤room:=fun b hb=>Nat.le_trans (Nat.mul_le_mul hl hb) (by decide)
 have h2:(xs.length:Int)≤140737488355328:=by omega
 have h3:=fun fr=>Zboj xs h fr 0 (Nat.zero_le _)
 simp [fill_zero] at h3
 simp [Z8z,h1,h2,h3]
theorem Zbol (xs ys:List Plan) (h:SmL Plan.small xs) (hl:ys.length=xs.length) (fr:List Fr):∀ i,i≤xs.length→EvL C fr [0,1,5] Zq3 ⟨[(0,L 1 (xs.map Plan.c)),(1,L 1 (ys.map Plan.c)),(5,I i)],[[]],[]⟩ =
  if xs.drop i=ys.drop i then EvX C fr (.x 0) ⟨[(0,L 1 (xs.map Plan.c)),(1,L 1 (ys.map Plan.c)),(5,I xs.length),(14,Bo false)],[[]],[]⟩ else EvX C fr .r ⟨[(4,Bo false)],[[]],[]⟩:=by
 have hm:xs.length≤4294967296:=h.1
 refine down xs.length ?_ ?_
 ·rw [EvL_eq Zq3.eq_1]
  simp [hl,List.drop_eq_nil_of_le]
 ·intro i hi ih
  have hi2:i<ys.length:=by omega
  have h4:IntKind.wrap .i64 ((i:Int)+1)=(i:Int)+1:=wrap64 (by omega) (by omega)
  rw [EvL_eq Zq3.eq_1]
  simp +decide [hi,hi2,c_eqPlan _ _ (h.2 _ (List.getElem_mem hi)),h4]
  simp at ih
  simp only [drop_eq_iff hi hi2,ih,Plan.ext_iff]
  split <;> first | (simp_all;done) | grind
theorem Zbom (xs ys:List Plan) (h:SmL Plan.small xs):C Zba8 [L 1 (xs.map Plan.c),L 1 (ys.map Plan.c)] []=some (Bo (decide (xs=ys)),[]):=by
 refine run Zbm2 rfl ?_
 by_cases hl:ys.length=xs.length
 ·have h3:=fun fr=>Zbol xs ys h hl fr 0 (Nat.zero_le _)
  simp at h3
  simp [Zxn,h3,hl]
  split <;> simp_all
 ·have h1:xs≠ys:=fun h=>hl (by rw [h])
  have h2:¬ ((xs.length:Int)=ys.length):=by omega
  simp [Zxn,h1,h2]
theorem Zbon (xs:List Plan) (h:OkL Plan.okay xs) (fr:List Fr):∀ i,i≤xs.length→∀ left:Int,
  (EvL C fr [0,1,5] Zib ⟨[(0,L 1 (xs.map Plan.c)),(1,I left),(5,I i)],[[]],[]⟩=EvX C fr .r ⟨[(4,I (-1))],[[]],[]⟩∧szFold Plan.sz (xs.drop i) left=-1) ∨
  EvL C fr [0,1,5] Zib ⟨[(0,L 1 (xs.map Plan.c)),(1,I left),(5,I i)],[[]],[]⟩=EvX C fr (.x 0) ⟨[(0,L 1 (xs.map Plan.c)),(1,I (szFold Plan.sz (xs.drop i) left)),(5,I xs.length),(15,Bo false)],[[]],[]⟩:=by
 have hm:maxLen≤9223372036854775807:=by decide
 have hl:=h.1
 refine down xs.length ?_ ?_
 ·intro left
  right
  rw [EvL_eq Zib.eq_1]
  simp [List.drop_eq_nil_of_le,szFold]
 ·intro i hi ih left
  have h4:IntKind.wrap .i64 ((i:Int)+1)=(i:Int)+1:=wrap64 (by omega) (by omega)
  have e:EvL C fr [0,1,5] Zib ⟨[(0,L 1 (xs.map Plan.c)),(1,I left),(5,I i)],[[]],[]⟩=if Plan.sz xs[i] left<0 then EvX C fr .r ⟨[(4,I (-1))],[[]],[]⟩ else EvL C fr [0,1,5] Zib ⟨[(0,L 1 (xs.map Plan.c)),(1,I (Plan.sz xs[i] left)),(5,I ((i+1:Nat):Int))],[[]],[]⟩:=by
   rw [EvL_eq Zib.eq_1]
   simp [hi,c_szPlan,h4]
  rw [e,List.drop_eq_getElem_cons hi,szFold]
  split
  ·exact .inl ⟨rfl,rfl⟩
  ·exact ih _
theorem Zboo (xs:List Plan) (left:Int) (h:OkL Plan.okay xs):C Zbaz [L 1 (xs.map Plan.c),I left] []=some (I (szL Plan.sz xs left),[]):=by
 refine run Zbmt rfl ?_
 have h3:=fun fr l=>Zbon xs h fr 0 (Nat.zero_le _) l
 simp at h3
 simp [Z8u,szL,andSz,sz1]
 split
 ·simp_all
 ·rcases h3 [.blk 0,.seq _,.fin _ _] (IntKind.wrap .i64 (left - xs.length)) with ⟨h5,h6⟩ | h5
  ·rw [h5];simp [h6]
  ·rw [h5];simp
theorem Zbop (x0:Int) (x1:Int) (x2:Int) (x3:List Int) (x4:List Int) (x5:List Int) (x6:List Plan) (x7:List (List Int)) (h3:SmA x3) (h4:SmA x4) (h5:SmA x5) (h6:SmL Plan.small x6) (h7:SmL SmA x7):C Zbah [.agg [I x0,I x1,I x2,.t (tI x3),.t (tI x4),.t (tI x5),.t (.lst 1 (x6.map Plan.c)),.t (tII x7)]] []=some (.agg [I x0,I x1,I x2,.own 0,.own 1,.own 2,.own 3,.own 4],[.arr Zv 1 true (x3.map ic),.arr Zv 1 true (x4.map ic),.arr Zv 1 true (x5.map ic),.arr Zn8 1 true (x6.map Plan.c),.arr Zij 1 true (x7.map isc)]):=by
 refine run Zbmc rfl ?_
 simp [Z8b,c_toBox _ _ h3 h4,Znq _ h5,Zbok _ h6,Zbnn _ h7]
theorem Zboq (x0:Int) (x1:Int) (x2:Int) (x3:List Int) (x4:List Int) (x5:List Int) (x6:List Plan) (x7:List (List Int)) (y0:Int) (y1:Int) (y2:Int) (y3:List Int) (y4:List Int) (y5:List Int) (y6:List Plan) (y7:List (List Int)) (h3:SmA x3) (h4:SmA x4) (h5:SmA x5) (h6:SmL Plan.small x6) (h7:SmL SmA x7):C Zbal [.agg [I x0,I x1,I x2,.t (tI x3),.t (tI x4),.t (tI x5),.t (.lst 1 (x6.map Plan.c)),.t (tII x7)],.agg [I y0,I y1,I y2,.t (tI y3),.t (tI y4),.t (tI y5),.t (.lst 1 (y6.map Plan.c)),.t (tII y7)]] []=some (Bo (decide (x0=y0∧x1=y1∧x2=y2∧x3=y3∧x4=y4∧x5=y5∧x6=y6∧x7=y7)),[]):=by
 refine run Zbmf rfl ?_
 simp [Z8f,c_eqBox _ _ _ _ h3 h4,Zkn _ _ h5,Zbom _ _ h6,Zbnp _ _ h7]
 repeat' split
 all_goals first | (simp_all;done) | grind
theorem Zbor (x0:Int) (x1:Int) (x2:Int) (x3:List Int) (x4:List Int) (x5:List Int) (x6:List Plan) (x7:List (List Int)) (left:Int) (h6:OkL Plan.okay x6) (h7:OkL (OkL OkI) x7):C Zbae [.agg [I x0,I x1,I x2,.t (tI x3),.t (tI x4),.t (tI x5),.t (.lst 1 (x6.map Plan.c)),.t (tII x7)],I left] []=some (I (Zh.sz ⟨x0,x1,x2,⟨x3,x4⟩,x5,x6,x7⟩ left),[]):=by
 refine run Zbl9 rfl ?_
 simp [Z78,c_szBox,Zrd,Zboo _ _ h6,Zbnr _ _ h7,Zh.sz,andSz,sz1]
 repeat' split
 all_goals first | (simp_all;done) | grind
theorem Zbos (b:Zh) (hl:LeB b) (k:Nat) (hk:k<b.Contours.length) (r:AV×List Blk):∀ i,i≤b.Contours[k].length →
  (if Zbj b.Plans.length (b.Contours[k].take i) (b.Contours[k].drop i)=true then Zhq b (w ((k:Int)+1))=some r else some (Bo false,[])=some r) →
  Zhr b k i=some r:=by
 obtain ⟨l1,l2,l3,l4,l5,l6⟩:=hl
 have l7:=l6 _ (List.getElem_mem hk)
 have hw:w ((b.Plans.length:Int) - 1)=(b.Plans.length:Int) - 1:=wrap64 (by omega) (by omega)
 refine down _ ?_ ?_
 ·intro h
  refine Z41 _ _ _ _ ?_
  simp [Zbj] at h
  simp [hk,h]
 ·intro i hi ih h
  refine Z41 _ _ _ _ ?_
  have h4:=inc64 (i:=i) (by omega)
  have c1:=Zwl (b.Contours[k].take i) b.Contours[k][i] (by simp;omega)
  have e7:i≤b.Contours[k].length:=by omega
  rw [Zn3 _ hi] at h
  simp at ih
  rcases tf (inR b.Contours[k][i] 0 ((b.Plans.length:Int) - 1)) with e1 | e1
  ·simp [e1] at h
   simp [hk,hi,h4,hw,e1,← h]
  ·rcases tf (has (b.Contours[k].take i) b.Contours[k][i]) with e2 | e2
   ·simp only [e1,e2,Bool.true_and,Bool.not_false] at h
    have ih:=ih (by simpa using h)
    simp [hk,hi,h4,hw,e1,e2,c1,e7,ih]
   ·simp [e1,e2] at h
    simp [hk,hi,h4,hw,e1,e2,c1,e7,← h]
theorem Zbot (b:Zh) (hr:inR b.Ratio 2 8=true) (hl:LeB b) (hc:b.Contours.length=b.Budgets.length):∀ k,k≤b.Budgets.length→(∀ p,Zb6 b.Budgets k=some p→inR p 1 500000000000=true) →
  Zhq b k=some (Bo (Zc1 b.Ratio (Zb6 b.Budgets k) (b.Budgets.drop k) && (b.Contours.drop k).all (Zco b.Plans.length)),[]):=by
 have hl':=hl
 obtain ⟨l1,l2,l3,l4,l5,l6⟩:=hl
 refine down _ ?_ ?_
 ·intro _
  refine Zwf _ _ _ ?_
  rw [if_neg (by omega),← hc,List.drop_length,hc,List.drop_length]
  simp [Zc1]
 ·intro k hk ih hp
  have hk2:k<b.Contours.length:=by omega
  have h4:=inc64 (i:=k) (by omega)
  rw [Zyd _ _ hk,Ze2 _ hk2]
  rcases tf (inR b.Budgets[k] 1 500000000000) with e1 | e1
  ·refine Zwf _ _ _ ?_
   simp [hk,e1]
  have pk:Zb6 b.Budgets (k+1)=some b.Budgets[k]:=by simp [Zb6,List.getElem?_eq_getElem hk]
  rw [pk] at ih
  have ih:=ih (fun p h=>by cases h;exact e1)
  have tail:∀ pr:Bool,pr=true→(∀ x,b.Contours[k]?=some x→(if (x.length:Int)=0 then some (Bo false,[])=some (Bo (inR b.Budgets[k] 1 500000000000 && pr && Zc1 b.Ratio (some b.Budgets[k]) (b.Budgets.drop (k+1)) && (Zco b.Plans.length b.Contours[k] && (b.Contours.drop (k+1)).all (Zco b.Plans.length))),([]:List Blk))
    else Zhr b k 0=some (Bo (inR b.Budgets[k] 1 500000000000 && pr && Zc1 b.Ratio (some b.Budgets[k]) (b.Budgets.drop (k+1)) && (Zco b.Plans.length b.Contours[k] && (b.Contours.drop (k+1)).all (Zco b.Plans.length))),[]))):=by
   intro pr hpr x hx
   rw [List.getElem?_eq_getElem hk2] at hx
   cases hx
   rw [hpr,e1]
   by_cases e3:b.Contours[k].length=0
   ·rw [if_pos (by omega)]
    simp [Zco,e3]
   ·rw [if_neg (by omega)]
    refine Zbos b hl' k hk2 _ 0 (Nat.zero_le _) ?_
    rw [List.take_zero,List.drop_zero,show w ((k:Int)+1)=(k:Int)+1 from h4]
    rcases tf (Zbj b.Plans.length [] b.Contours[k]) with e4 | e4
    ·simp [e4,Zco]
    ·rw [if_pos e4]
     simp only [Int.natCast_add,Int.cast_ofNat_Int] at ih
     rw [ih]
     have e5:0<b.Contours[k].length:=by omega
     simp [Zco,e4,e5]
  refine Zwf _ _ _ ?_
  rw [if_pos (by omega)]
  refine ⟨by omega,b.Budgets[k],by rw [Int.toNat_natCast];exact List.getElem?_eq_getElem hk,true,by rw [Zfl,e1],?_⟩
  rw [if_pos rfl]
  cases k with
  | zero =>
   rw [if_neg (by omega)]
   refine ⟨b.Contours[0],by simp,?_⟩
   have:=tail true rfl b.Contours[0] (by simp)
   simp only [Zb6,Zii]
   exact this
  | succ j =>
   have hj:j<b.Budgets.length:=by omega
   have hpj:Zb6 b.Budgets (j+1)=some b.Budgets[j]:=by simp [Zb6,List.getElem?_eq_getElem hj]
   have hb:=hp _ hpj
   rw [hpj]
   simp only [Zii]
   simp [inR] at hb hr
   have m1:b.Budgets[j]*b.Ratio≤500000000000*8:=Int.mul_le_mul hb.2 hr.2 (by omega) (by omega)
   have m2:0≤b.Budgets[j]*b.Ratio:=Int.mul_nonneg (by omega) (by omega)
   have w1:w (b.Budgets[j]*b.Ratio)=b.Budgets[j]*b.Ratio:=wrap64 (by omega) (by omega)
   have w2:w (((j+1:Nat):Int) - 1)=j:=by rw [show ((j+1:Nat):Int) - 1=j by omega];exact wrap64 (by omega) (by omega)
   rw [if_pos (by omega),w2]
   refine ⟨by omega,b.Budgets[j],by rw [Int.toNat_natCast];exact List.getElem?_eq_getElem hj,?_⟩
   rw [w1]
   by_cases e2:b.Budgets[j+1]=b.Budgets[j]*b.Ratio
   ·rw [if_pos e2]
    refine ⟨b.Contours[j+1],by rw [Int.toNat_natCast];exact List.getElem?_eq_getElem hk2,?_⟩
    exact tail _ (decide_eq_true e2) _ (List.getElem?_eq_getElem hk2)
   ·rw [if_neg e2,decide_eq_false e2]
    simp
theorem Zbou (q:Zc) (b:Zh) (hq:LeQ q) (hl:LeB b) (c:Bool) (hc:Zhq b 0=some (Bo c,[])):∀ k,k≤b.Plans.length →
  Zjo q b k=some (Bo (((b.Plans.drop k).all fun p=>Ze5 q.Ze q.Atoms p && decide (Zr q.Ze q.Atoms≠0)) && c),[]):=by
 obtain ⟨l1,l2,l3,l4,l5,l6⟩:=hl
 refine down _ ?_ ?_
 ·refine Z40 _ _ _ _ ?_
  rw [if_neg (by omega),hc]
  simp
 ·intro k hk ih
  refine Z40 _ _ _ _ ?_
  have h4:=inc64 (i:=k) (by omega)
  have q1:=Zbjo q b.Plans[k] hq
  have q2:=Zh2 q hq
  rw [Ze2 _ hk]
  simp at ih
  by_cases e:Ze4 q.Ze q.Atoms b.Plans[k].Steps=Zr q.Ze q.Atoms
  ·by_cases e2:Zr q.Ze q.Atoms=0
   ·simp [hk,h4,q1,q2,e,e2,Ze5]
   ·simp [hk,h4,q1,q2,e,e2,ih,Ze5]
  ·simp [hk,h4,q1,q2,e,Ze5]
theorem Zbov:∀ c:List Int,Zco 0 c=false
 | []=>by simp [Zco]
 | v::c=>by
  have:inR v 0 (-1)=false:=by simp [inR];omega
  simp [Zco,Zbj,this]
@[simp] theorem Zbow (q:Zc) (b:Zh) (hq:LeQ q) (hl:LeB b):Zl7 q b=some (Bo (Ze6 q.Ze q.Atoms b),[]):=by
 refine Zbhz _ _ _ ?_
 have q2:=Zh2 q hq
 have q3:=Zm7 b.Box ⟨hl.1,hl.2.1⟩
 have q4:=Zn5 q.Ze q.Atoms
 unfold Ze6 headB
 rcases tf (inR b.Version 1 999) with e2 | e2
 ·simp [e2]
 rcases tf (inR b.Ratio 2 8) with e3 | e3
 ·simp [e2,e3]
 rcases tf (inR b.Slack 0 100) with e4 | e4
 ·simp [e2,e3,e4]
 by_cases e6:(b.Box.Low.length:Int)=Zr q.Ze q.Atoms+1
 rotate_left
 ·simp [q2,q4,e2,e3,e4,e6]
 rcases tf (inR (Z7 b.Box.Low b.Box.High) 1 400) with e5 | e5
 ·simp [q2,q3,q4,e2,e3,e4,e5,e6]
 simp only [q2,q3,e2,e3,e4,e5,Zfl,Option.some.injEq,Prod.mk.injEq,AV.t.injEq,T.bool.injEq,T.int.injEq,true_and,and_true,exists_eq_left',if_true]
 rw [show w (Zr q.Ze q.Atoms+1)=Zr q.Ze q.Atoms+1 from q4,if_pos e6,decide_eq_true e6]
 by_cases e7:b.Budgets.length=0
 ·rw [if_pos (by omega)]
  simp [e7]
 rw [if_neg (by omega)]
 by_cases e8:b.Contours.length=b.Budgets.length
 rotate_left
 ·rw [if_neg (by omega),decide_eq_false e8]
  simp
 rw [if_pos (by omega),decide_eq_true e8]
 have r2:=Zbot b e3 hl e8 0 (Nat.zero_le _) (fun p h=>by simp [Zb6] at h)
 have r0:=Zbou q b hq hl _ r2 0 (Nat.zero_le _)
 simp only [List.drop_zero,Zb6] at r0
 have r0:Zjo q b 0=_:=r0
 rw [r0]
 have e9:decide (0<b.Budgets.length)=true:=decide_eq_true (by omega)
 rw [e9]
 rcases tf (Zn q.Ze q.Atoms) with e1 | e1
 ·have e5':Zr q.Ze q.Atoms=0:=by unfold Zr;rw [e1];rfl
  rw [e1,e5']
  simp only [ne_eq,not_true_eq_false,decide_false,Bool.and_false,Bool.false_and]
  cases hp:b.Plans with
  | cons p ps=>simp
  | nil =>
   cases hcs:b.Contours with
   | nil=>rw [hcs] at e8;simp at e8;omega
   | cons c cs=>simp [Zbov]
 ·have e5':=Zih e1
  have e5'':Zr q.Ze q.Atoms≠0:=by omega
  rw [e1,decide_eq_true e5'']
  simp [Bool.and_assoc]
theorem Z9k {n:Int}:∀ {xs pre:List Int},Zbj n pre xs=true→∀ v∈xs,0≤v∧v≤n - 1
 | [],_,_,v,hv=>by cases hv
 | x::xs,pre,h,v,hv=>by
  simp only [Zbj,Bool.and_eq_true] at h
  cases hv with
  | head=>have:=h.1.1;simp [inR] at this;omega
  | tail _ hv=>exact Z9k h.2 v hv
theorem bud_in {r:Int}:∀ {xs:List Int} {p:Option Int},Zc1 r p xs=true→∀ x∈xs,inR x 1 500000000000=true
 | [],_,_,v,hv=>by cases hv
 | x::xs,p,h,v,hv=>by
  simp only [Zc1,Bool.and_eq_true] at h
  cases hv with
  | head=>exact h.1.1
  | tail _ hv=>exact bud_in h.2 v hv
def bqOk (m:Zd) (q:Zc) (b:Zh):Prop:=Ze6 q.Ze q.Atoms b=true∧Zbq q.Ze q.Atoms (Zr q.Ze q.Atoms)=true∧Zbv m
structure BqF (q:Zc) (b:Zh):Prop where
 hv:Zn q.Ze q.Atoms=true
 box:Z8 b.Box.Low b.Box.High=true
 v1:1≤Z7 b.Box.Low b.Box.High
 v2:Z7 b.Box.Low b.Box.High≤400
 len:(b.Box.Low.length:Int)=Zr q.Ze q.Atoms+1
 sl:inR b.Slack 0 100=true
 pl:∀ p∈b.Plans,Ze4 q.Ze q.Atoms p.Steps=Zr q.Ze q.Atoms
 co:∀ c∈b.Contours,c≠[]∧∀ p∈c,0≤p∧p.toNat<b.Plans.length
 cl:b.Contours.length=b.Budgets.length
 b0:0<b.Budgets.length
 bu:∀ x∈b.Budgets,inR x 1 500000000000=true
theorem Zby {q:Zc} {b:Zh} (h:Ze6 q.Ze q.Atoms b=true):BqF q b:=by
 unfold Ze6 headB at h
 simp only [Bool.and_eq_true,decide_eq_true_eq] at h
 obtain ⟨⟨⟨⟨⟨h1,⟨⟨⟨h2,h3⟩,h4⟩,h5⟩,h6⟩,h7⟩,h8⟩,h9⟩,h10,h11⟩:=h
 have hx:Z8 b.Box.Low b.Box.High=true:=by
  rcases tf (Z8 b.Box.Low b.Box.High) with e | e
  ·unfold Z7 at h5;rw [e] at h5;simp [inR] at h5
  ·exact e
 simp only [inR,Bool.and_eq_true,decide_eq_true_eq] at h5
 refine ⟨h1,hx,h5.1,h5.2,h6,h4,fun p hp=>?_,fun c hc=>?_,h11,h10,bud_in h8⟩
 ·have:=List.all_eq_true.1 h7 p hp
  simpa [Ze5] using this
 ·have:=List.all_eq_true.1 h9 c hc
  unfold Zco at this
  simp only [Bool.and_eq_true,decide_eq_true_eq] at this
  refine ⟨fun e=>by rw [e] at this;simp at this,fun p hp=>?_⟩
  have:=Z9k this.1 p hp
  omega
theorem Zfo {m:Zd} {q:Zc} {b:Zh} (hm:LeM m) (hq:LeQ q) (h:bqOk m q b) {l:List Int} (h1:Zy l=true) (h2:l.length=b.Box.Low.length):Base m q (Zt l) :=
 base_of hm h.2.2 hq (Zby h.1).hv h1 (by rw [h2];exact (Zby h.1).len)
theorem Zbox {m:Zd} {q:Zc} {b:Zh} (hm:LeM m) (hq:LeQ q) (hb:LeB b):Zk9 m q b=some (Bo (@decide (bqOk m q b) (Classical.propDecidable _)),[]):=by
 refine Zbgc _ _ _ _ ⟨_,Zbju q b hq hb,?_⟩
 unfold bqOk
 rcases tf (Ze6 q.Ze q.Atoms b) with e | e
 ·rw [if_neg (by rw [e];simp)];simp [e]
 rw [if_pos e]
 refine ⟨_,Zgg q hq,_,Z6g q hq _,?_⟩
 rcases tf (Zbq q.Ze q.Atoms (Zr q.Ze q.Atoms)) with e2 | e2
 ·rw [if_neg (by rw [e2];simp)];simp [e2]
 rw [if_pos e2]
 refine ⟨_,Z59 m hm,?_⟩
 by_cases ha:Zbv m <;> simp [e,e2,ha]
def Zbo (bs:List Int) (c:Int):Int:=Zbf (fun x=>decide (c≤x)) bs 0
theorem Z9l {α:Type} (p:α→Bool):∀ (xs:List α) (i:Nat),0≤Zbf p xs i→∃ j,∃ h:j<xs.length,Zbf p xs i=((i+j:Nat):Int)∧p xs[j]=true
 | [],i,h=>by simp [Zbf] at h
 | x::xs,i,h=>by
  unfold Zbf at h ⊢
  by_cases e:p x=true
  ·rw [if_pos e];exact ⟨0,by simp,by simp,e⟩
  ·rw [if_neg e] at h ⊢
   obtain ⟨j,h1,h2,h3⟩:=Z9l p xs (i+1) h
   exact ⟨j+1,by simpa using h1,by rw [h2];congr 1;omega,by simpa using h3⟩
theorem l_idxF (s:List Int) (c:Int) (hs:Le s):∀ i,i≤s.length→Zlr s c s.length i=some (I (Zbf (fun x=>decide (c≤x)) (s.drop i) i),[]):=by
 refine down _ ?_ ?_
 ·refine Z4f _ _ _ _ _ ?_
  rw [if_neg (by omega)];simp [Zbf]
 ·intro i hi ih
  have h5:=inc64 (i:=i) (by omega)
  refine Z4f _ _ _ _ _ ?_
  rw [if_pos (by omega),Zku _ hi]
  refine ⟨by omega,s[i],by rw [Int.toNat_natCast];exact List.getElem?_eq_getElem hi,_,Zbg1 _ _ _ rfl,?_⟩
  rw [show w ((i:Int)+1)=((i+1:Nat):Int) from by rw [show w ((i:Int)+1)=(i:Int)+1 from h5];simp]
  split
  ·rfl
  ·exact ih
theorem Zboy (bs:List Int) (c:Int) (hs:Le bs):Zo1 bs c=some (I (Zbo bs c),[]) :=
 Zbg3 _ _ _ ⟨_,Zbg2 _ _ _ (by simpa [Zbo] using l_idxF bs c hs 0 (Nat.zero_le _)),rfl⟩
theorem l_specCO (s:List Int) (c:Int) (hs:Le s):∀ i,i≤s.length→Zmo s c i=some (I (Zbf (fun x=>decide (c≤x)) (s.drop i) i),[]):=by
 refine down _ ?_ ?_
 ·refine Z5k _ _ _ _ ?_
  rw [if_neg (by omega)];simp [Zbf]
 ·intro i hi ih
  have h5:=inc64 (i:=i) (by omega)
  refine Z5k _ _ _ _ ?_
  rw [if_pos (by omega),Zku _ hi]
  refine ⟨by omega,s[i],by rw [Int.toNat_natCast];exact List.getElem?_eq_getElem hi,?_⟩
  rw [show w ((i:Int)+1)=((i+1:Nat):Int) from by rw [show w ((i:Int)+1)=(i:Int)+1 from h5];simp]
  by_cases e:c≤s[i]
  ·rw [if_pos e,if_pos (by simpa using e)]
  ·rw [if_neg e,if_neg (by simpa using e)];exact ih
theorem Zboz (bs:List Int) (c:Int) (hs:Le bs):Zj0 bs c=some (I (Zbo bs c),[]) :=
 Zbiu _ _ _ (by simpa [Zbo] using l_specCO bs c hs 0 (Nat.zero_le _))
def Znt (b:Zh) (p:Int):Plan:=(b.Plans[p.toNat]?).getD ⟨[]⟩
def pc (m:Zd) (q:Zc) (b:Zh) (l:List Int) (p:Int):Int:=Zb9 m q.Ze q.Atoms (Znt b p).Steps (Zt l)
def slk (b:Zh) (k:Nat):Int:=Zdb ((b.Budgets[k]?).getD 0) b.Slack
def contA (b:Zh) (k:Nat):List Int:=(b.Contours[k]?).getD []
def covC (m:Zd) (q:Zc) (b:Zh) (l:List Int) (k:Nat):Bool:=(contA b k).any fun p=>decide (pc m q b l p≤slk b k)
def cov (m:Zd) (q:Zc) (b:Zh) (l:List Int):Bool:=decide (0≤Zbo b.Budgets (opt m q (Zt l)).Cost) && covC m q b l (Zbo b.Budgets (opt m q (Zt l)).Cost).toNat
def Zgn (m:Zd) (q:Zc) (b:Zh):Bool:=!decide ((opt m q (Zt b.Box.Low)).Cost<(b.Budgets[0]?).getD 0) && (Z1 b.Box).all (cov m q b)
theorem Zre {b:Zh} {p:Int} (h:p.toNat<b.Plans.length):b.Plans[p.toNat]?=some (Znt b p):=by
 unfold Znt
 rw [List.getElem?_eq_getElem h];rfl
section
variable {m:Zd} {q:Zc} {b:Zh} (hm:LeM m) (hq:LeQ q) (hb:LeB b) (hf:BqF q b)
include hm hq
theorem x_fits {l:List Int} (h1:Zy l=true) {p sl:Int} (hp:0≤p∧p.toNat<b.Plans.length):Zo2 p m q b l sl=some (Bo (decide (pc m q b l p≤sl)),[]):=by
 have l1:=Zd4 h1
 exact Zbg6 _ _ _ _ _ _ _ ⟨hp.1,_,Zre hp.2,_,Z6t m hm q hq _ l (by omega) h1,rfl⟩
theorem l_fits {l:List Int} (h1:Zy l=true) (sl:Int) (s:List Int) (hs:s.length≤1099511627776) (hp:∀ p∈s,0≤p∧p.toNat<b.Plans.length):∀ i,i≤s.length →
  Zls s m q b l sl s.length i=some (I (Zbf (fun p=>decide (pc m q b l p≤sl)) (s.drop i) i),[]):=by
 refine down _ ?_ ?_
 ·refine Z4g _ _ _ _ _ _ _ _ _ ?_
  rw [if_neg (by omega)];simp [Zbf]
 ·intro i hi ih
  have h5:=inc64 (i:=i) (by omega)
  refine Z4g _ _ _ _ _ _ _ _ _ ?_
  rw [if_pos (by omega),Zku _ hi]
  refine ⟨by omega,s[i],by rw [Int.toNat_natCast];exact List.getElem?_eq_getElem hi,_,x_fits hm hq h1 (hp _ (List.getElem_mem hi)),?_⟩
  rw [show w ((i:Int)+1)=((i+1:Nat):Int) from by rw [show w ((i:Int)+1)=(i:Int)+1 from h5];simp]
  split
  ·rfl
  ·exact ih
theorem Zbo0 {l:List Int} (h1:Zy l=true) (sl:Int) (s:List Int) (hs:s.length≤1099511627776) (hp:∀ p∈s,0≤p∧p.toNat<b.Plans.length) :
  Zo3 s m q b l sl=some (Bo (s.any fun p=>decide (pc m q b l p≤sl)),[]):=by
 refine Zbg8 _ _ _ _ _ _ _ ⟨_,Zbg7 _ _ _ _ _ _ _ (by simpa using l_fits hm hq h1 sl s hs hp 0 (Nat.zero_le _)),?_⟩
 rcases tf (s.any fun p=>decide (pc m q b l p≤sl)) with e | e
 ·rw [e,Zrm _ _ _ e];simp
 ·rw [e];have:=Zrn _ s 0 e;simp [this]
include hb hf
theorem Zbo1 {l:List Int} (h1:Zy l=true) (k:Nat) (hk:k<b.Contours.length):∀ i,i≤b.Contours[k].length →
  Zmt m q b k l i=some (Bo ((b.Contours[k].drop i).any fun p=>decide (pc m q b l p≤slk b k)),[]):=by
 have hc:=hf.co _ (List.getElem_mem hk)
 have hlen:=hb.2.2.2.2.2 _ (List.getElem_mem hk)
 have hk2:k<b.Budgets.length:=by have:=hf.cl;omega
 refine down _ ?_ ?_
 ·refine Z5n _ _ _ _ _ _ _ ⟨by omega,b.Contours[k],by rw [Int.toNat_natCast];exact List.getElem?_eq_getElem hk,?_⟩
  rw [if_neg (by omega)];simp
 ·intro i hi ih
  have h5:=inc64 (i:=i) (by omega)
  have l1:=Zd4 h1
  obtain ⟨p1,p2⟩:=hc.2 _ (List.getElem_mem hi)
  refine Z5n _ _ _ _ _ _ _ ⟨by omega,b.Contours[k],by rw [Int.toNat_natCast];exact List.getElem?_eq_getElem hk,?_⟩
  rw [if_pos (by omega),List.drop_eq_getElem_cons hi,List.any_cons]
  refine ⟨by omega,b.Contours[k][i],by rw [Int.toNat_natCast];exact List.getElem?_eq_getElem hi,p1,_,Zre p2,_,Z6u m hm q hq _ l (by omega) h1,b.Budgets[k],by rw [Int.toNat_natCast];exact List.getElem?_eq_getElem hk2,_,Z53 _ _,?_⟩
  rw [show w ((i:Int)+1)=((i+1:Nat):Int) from by rw [show w ((i:Int)+1)=(i:Int)+1 from h5];simp]
  have es:slk b k=Zdb b.Budgets[k] b.Slack:=by unfold slk;rw [List.getElem?_eq_getElem hk2];rfl
  rw [es] at ih ⊢
  show if pc m q b l b.Contours[k][i]≤Zdb b.Budgets[k] b.Slack then _ else _
  by_cases e:pc m q b l b.Contours[k][i]≤Zdb b.Budgets[k] b.Slack
  ·rw [if_pos e];simp [e]
  ·rw [if_neg e,ih];simp [e]
theorem Zbo2 {l:List Int} (h1:Zy l=true) {k:Int} (h0:0≤k) (hk:k.toNat<b.Contours.length):Zms m q b k l=some (Bo (covC m q b l k.toNat),[]):=by
 obtain ⟨n,rfl⟩:∃ n:Nat,k=n:=⟨k.toNat,by omega⟩
 rw [Int.toNat_natCast] at hk ⊢
 have:=Zbo1 hm hq hb hf h1 n hk 0 (Nat.zero_le _)
 refine Zbi0 _ _ _ _ _ _ ?_
 unfold covC contA
 rw [List.getElem?_eq_getElem hk]
 simpa using this
end
theorem Zxt {bs:List Int} {c:Int} (h:0≤Zbo bs c):(Zbo bs c).toNat<bs.length:=by
 obtain ⟨j,h1,h2,_⟩:=Z9l _ _ _ h
 unfold Zbo
 rw [h2,Int.toNat_natCast];omega
theorem Zbo3 {m:Zd} {q:Zc} {b:Zh} (hm:LeM m) (hq:LeQ q) (hb:LeB b) (h:bqOk m q b) (ls:List (List Int)) (hl:ls.length≤1000) (hls:∀ l∈ls,Zy l=true∧l.length=b.Box.Low.length):∀ i,i≤ls.length →
  Zlt m q b ls ls.length i=some (Bo ((ls.drop i).all (cov m q b)),[]):=by
 have hf:=Zby h.1
 refine down _ ?_ ?_
 ·refine Z4h _ _ _ _ _ _ _ ?_
  rw [if_neg (by omega)];simp
 ·intro i hi ih
  have h5:=inc64 (i:=i) (by omega)
  obtain ⟨g1,g2⟩:=hls _ (List.getElem_mem hi)
  have l1:=Zd4 g1
  refine Z4h _ _ _ _ _ _ _ ?_
  rw [if_pos (by omega),List.drop_eq_getElem_cons hi,List.all_cons]
  refine ⟨by omega,ls[i],by rw [Int.toNat_natCast];exact List.getElem?_eq_getElem hi,_,Zqu (by omega) g1 (Zfo hm hq h g1 g2) h.2.2 h.2.1,_,Zboy _ _ hb.2.2.1,?_⟩
  rw [show w ((i:Int)+1)=((i+1:Nat):Int) from by rw [show w ((i:Int)+1)=(i:Int)+1 from h5];simp]
  by_cases e:Zbo b.Budgets (opt m q (Zt ls[i])).Cost<0
  ·rw [if_pos e];unfold cov;simp [show ¬ 0≤Zbo b.Budgets (opt m q (Zt ls[i])).Cost by omega]
  ·rw [if_neg e]
   have h0:0≤Zbo b.Budgets (opt m q (Zt ls[i])).Cost:=by omega
   have hk:=Zxt h0
   have hk2:(Zbo b.Budgets (opt m q (Zt ls[i])).Cost).toNat<b.Contours.length:=by have:=hf.cl;omega
   have hc:=hf.co _ (List.getElem_mem hk2)
   have hlen:=hb.2.2.2.2.2 _ (List.getElem_mem hk2)
   refine ⟨h0,_,List.getElem?_eq_getElem hk,_,Z52 _ _,_,List.getElem?_eq_getElem hk2,_,Zbo0 hm hq g1 _ _ (by omega) hc.2,?_⟩
   have ec:cov m q b ls[i]=(b.Contours[(Zbo b.Budgets (opt m q (Zt ls[i])).Cost).toNat]).any fun p=>decide (pc m q b ls[i] p≤Zdb b.Budgets[(Zbo b.Budgets (opt m q (Zt ls[i])).Cost).toNat] b.Slack):=by
    unfold cov covC contA slk
    rw [List.getElem?_eq_getElem hk,List.getElem?_eq_getElem hk2];simp [h0]
   rw [← ec]
   rcases tf (cov m q b ls[i]) with e2 | e2
   ·rw [e2];simp
   ·rw [e2,if_pos rfl,ih];simp
theorem Zbo4 {m:Zd} {q:Zc} {b:Zh} (hm:LeM m) (hq:LeQ q) (hb:LeB b) (h:bqOk m q b):∀ i,i≤(Z1 b.Box).length →
  Zj2 m q b (shapes q) (Zr q.Ze q.Atoms) i=some (Bo (((Z1 b.Box).drop i).all (cov m q b)),[]):=by
 have hf:=Zby h.1
 have hx:LeX b.Box:=⟨hb.1,hb.2.1⟩
 have hv2:=hf.v2
 have hlen:(Z1 b.Box).length=(Z7 b.Box.Low b.Box.High).toNat:=by simp [Z1]
 have hv:Z7 b.Box.Low b.Box.High≤vol b.Box.Low b.Box.High:=by
  unfold Z7 capV
  rw [if_pos hf.box]
  split <;> omega
 have hp:=hf.v1
 refine down _ ?_ ?_
 ·refine Z5o _ _ _ _ _ _ _ ⟨_,Zm7 b.Box hx,?_⟩
  rw [if_neg (by omega)];simp
 ·intro i hi ih
  have h5:=inc64 (i:=i) (by omega)
  have hli:(Z1 b.Box)[i]=locB b.Box i:=by simp [Z1]
  obtain ⟨k1,k2⟩:=loc_B hf.box (show (0:Int)≤(i:Int) by omega)
  have l1:=Zd4 k1
  have bb:=Zfo hm hq h k1 k2
  have hl:=Zh9 bb (Nat.le_refl (Zo q.Atoms).length)
  have hs:=Zqj (locB b.Box i) (by omega)
  rw [k1,if_pos rfl] at hs
  obtain ⟨fr,ht⟩:=Zxh bb
  refine Z5o _ _ _ _ _ _ _ ⟨_,Zm7 b.Box hx,?_⟩
  rw [if_pos (by omega),List.drop_eq_getElem_cons hi,List.all_cons,hli]
  refine ⟨_,_,Z74 b.Box hx hf.box (by omega) (by omega),_,hs,_,_,ht,.inr ⟨_,_,_,_,Zxi _ _ (by omega) (Znl bb h.2.1).ne (Znk bb (Nat.le_refl _)),_,Zboz _ _ hb.2.2.1,?_⟩⟩
  rw [show w ((i:Int)+1)=((i+1:Nat):Int) from by rw [show w ((i:Int)+1)=(i:Int)+1 from h5];simp]
  show if Zbo b.Budgets (opt m q (Zt (locB b.Box i))).Cost<0 then _ else _
  by_cases e:Zbo b.Budgets (opt m q (Zt (locB b.Box i))).Cost<0
  ·rw [if_pos e];unfold cov;simp [show ¬ 0≤Zbo b.Budgets (opt m q (Zt (locB b.Box i))).Cost by omega]
  ·rw [if_neg e]
   have h0:0≤Zbo b.Budgets (opt m q (Zt (locB b.Box i))).Cost:=by omega
   have hk:=Zxt h0
   have hcov:=Zbo2 hm hq hb hf k1 (k:=Zbo b.Budgets (opt m q (Zt (locB b.Box i))).Cost) h0 (by have:=hf.cl;omega)
   refine ⟨_,hcov,?_⟩
   have ec:cov m q b (locB b.Box i)=covC m q b (locB b.Box i) (Zbo b.Budgets (opt m q (Zt (locB b.Box i))).Cost).toNat:=by
    unfold cov;simp [h0]
   rw [← ec]
   rcases tf (cov m q b (locB b.Box i)) with e2 | e2
   ·rw [e2];simp
   ·rw [e2,if_pos rfl,ih];simp
theorem Zxu {q:Zc} {b:Zh} (hf:BqF q b):∀ l∈Z1 b.Box,Zy l=true∧l.length=b.Box.Low.length:=by
 intro l hl
 unfold Z1 at hl
 rw [List.mem_map] at hl
 obtain ⟨i,_,rfl⟩:=hl
 exact loc_B hf.box (by omega)
theorem Zbo5 {m:Zd} {q:Zc} {l:List Int} (h:Zy l=true) (bb:Base m q (Zt l)) (hm:LeM m) (ha:Zbv m) (hc:Zbq q.Ze q.Atoms (Zr q.Ze q.Atoms)=true):Zmm m q l=some (I (opt m q (Zt l)).Cost,[]):=by
 have l1:=Zd4 h
 have hs:=Zqj l (by omega)
 rw [h,if_pos rfl] at hs
 have hl:=Zh9 bb (Nat.le_refl (Zo q.Atoms).length)
 obtain ⟨fr,ht⟩:=Zxh bb
 have hsv:=Z6p q bb.hq (Zt l) (by simp [Zt];omega)
 have hT:=Zbio (Zt l) m q _ ⟨_,Z58 m hm,by
  rw [if_pos (by simp [ha])]
  exact ⟨_,hsv,by rw [bb.hsv,if_pos rfl];exact ⟨_,Zxg q bb.hq bb.hv,_,_,ht,rfl⟩⟩⟩
 have hB:=Zbiq (Zt l) m q _ (.inl ⟨_,_,_,hT,_,Zh2 q bb.hq,.inr ⟨_,_,_,_,Zxi _ _ (by omega) (Znl bb hc).ne (Znk bb (Nat.le_refl _)),rfl⟩⟩)
 have hC:=Zbir (Zt l) m q _ (.inr ⟨_,_,_,_,_,hB,rfl⟩)
 exact Zbis _ _ _ _ ⟨_,hs,_,_,hC,rfl⟩
open Classical in
noncomputable def isPB (m:Zd) (q:Zc) (b:Zh):Bool:=decide (bqOk m q b) && Zgn m q b
theorem Zbo6 {m:Zd} {q:Zc} {b:Zh} (hm:LeM m) (hq:LeQ q) (hb:LeB b):Zo6 m q b=some (Bo (isPB m q b),[]):=by
 refine Zbg9 _ _ _ _ ⟨_,Zbox hm hq hb,?_⟩
 unfold isPB
 by_cases h:bqOk m q b
 ·have hf:=Zby h.1
  have hv1:=hf.v1
  have hlen:(Z1 b.Box).length=(Z7 b.Box.Low b.Box.High).toNat:=by simp [Z1]
  have hb0:=hf.b0
  have hlow:=Zc0 hf.box
  have hl:Zy b.Box.Low=true:=by
   have:=hf.box
   simp only [Z8,Bool.and_eq_true] at this
   exact this.1.1.2
  have l1:=Zd4 hl
  rw [if_pos (by simp [h])]
  refine ⟨_,Zqu (by omega) hl (Zfo hm hq h hl rfl) h.2.2 h.2.1,b.Budgets[0],List.getElem?_eq_getElem hb0,?_⟩
  unfold Zgn
  rw [List.getElem?_eq_getElem hb0]
  by_cases e:(opt m q (Zt b.Box.Low)).Cost<b.Budgets[0]
  ·rw [if_pos e];simp [h,e]
  ·rw [if_neg e]
   have hx:=Z75 b.Box ⟨hb.1,hb.2.1⟩
   rw [if_pos hf.v2] at hx
   refine .inr ⟨_,hx,?_⟩
   have hv2:=hf.v2
   have:=Zbo3 hm hq hb h (Z1 b.Box) (by omega) (Zxu hf) 0 (Nat.zero_le _)
   rw [List.drop_zero] at this
   refine Eq.trans this ?_
   simp [h,e]
 ·rw [if_neg (by simp [h])];simp [h]
theorem Z9m {m:Zd} {q:Zc} {b:Zh} (hm:LeM m) (hq:LeQ q) (hb:LeB b):Zmu m q b=some (Bo (isPB m q b),[]):=by
 refine Zbi1 _ _ _ _ ⟨_,Z58 m hm,?_⟩
 unfold isPB
 by_cases ha:Zbv m
 ·rw [if_pos (by simp [ha])]
  refine ⟨_,Zbow q b hq hb,?_⟩
  rcases tf (Ze6 q.Ze q.Atoms b) with e | e
  ·rw [if_neg (by rw [e];simp)]
   have:¬ bqOk m q b:=fun h=>by rw [h.1] at e;cases e
   simp [this]
  rw [if_pos e]
  refine ⟨_,Zh2 q hq,_,Z6h q hq _,?_⟩
  rcases tf (Zbq q.Ze q.Atoms (Zr q.Ze q.Atoms)) with e2 | e2
  ·rw [if_neg (by rw [e2];simp)]
   have:¬ bqOk m q b:=fun h=>by rw [h.2.1] at e2;cases e2
   simp [this]
  rw [if_pos e2]
  have h:bqOk m q b:=⟨e,e2,ha⟩
  have hf:=Zby e
  have hb0:=hf.b0
  have hl:Zy b.Box.Low=true:=by
   have:=hf.box
   simp only [Z8,Bool.and_eq_true] at this
   exact this.1.1.2
  refine ⟨_,Zbo5 hl (Zfo hm hq h hl rfl) hm ha e2,b.Budgets[0],List.getElem?_eq_getElem hb0,?_⟩
  unfold Zgn
  rw [List.getElem?_eq_getElem hb0]
  by_cases e3:(opt m q (Zt b.Box.Low)).Cost<b.Budgets[0]
  ·rw [if_pos e3];simp [h,e3]
  ·rw [if_neg e3]
   have:=Zbo4 hm hq hb h 0 (Nat.zero_le _)
   rw [List.drop_zero] at this
   exact ⟨_,Zxg q hq hf.hv,by refine Eq.trans this ?_;simp [h,e3]⟩
 ·rw [if_neg (by simp [ha])]
  have:¬ bqOk m q b:=fun h=>ha h.2.2
  simp [this]
theorem q3 {a b c d:Int} (hb:0<b) (hd:0<d):(c / d<a / b→c*b<a*d)∧(a*d - c*b=(b*d)*(a / b - c / d)+((a % b)*d - (c % d)*b)):=by
 have e1:=Int.mul_ediv_add_emod a b
 have e2:=Int.mul_ediv_add_emod c d
 have a0:=Int.emod_nonneg a (show b≠0 by omega)
 have a1:=Int.emod_lt_of_pos a hb
 have c0:=Int.emod_nonneg c (show d≠0 by omega)
 have c1:=Int.emod_lt_of_pos c hd
 generalize a / b=x at *
 generalize c / d=y at *
 generalize a % b=α at *
 generalize c % d=γ at *
 have key:a*d - c*b=(b*d)*(x - y)+(α*d - γ*b):=by
  rw [← e1,← e2,Int.add_mul,Int.add_mul,Int.mul_sub,show b*x*d=b*d*x by ac_rfl,show d*y*b=b*d*y by ac_rfl];omega
 refine ⟨fun h=>?_,key⟩
 have h1:b*d*1≤b*d*(x - y):=Int.mul_le_mul_of_nonneg_left (by omega) (Int.le_of_lt (Int.mul_pos hb hd))
 have h2:γ*b<d*b:=Int.mul_lt_mul_of_pos_right c1 hb
 have h3:0≤α*d:=Int.mul_nonneg a0 (by omega)
 rw [Int.mul_comm d b] at h2
 omega
theorem Z9n:∀ (n:Nat) (a b c d:Int),0≤a→0<b→0≤c→0<d→a≤9223372036854775807→b≤9223372036854775807→c≤9223372036854775807→d≤9223372036854775807→b+d≤n→Zmx a b c d=some (Bo (decide (c*b<a*d)),[])
 | 0,a,b,c,d,ha,hb,hc,hd,_,_,_,_,hn=>by omega
 | n+1,a,b,c,d,ha,hb,hc,hd,ma,mb,mc,md,hn=>by
  obtain ⟨k1,k2⟩:=q3 (a:=a) (c:=c) hb hd
  obtain ⟨k3,_⟩:=q3 (a:=c) (c:=a) hd hb
  have a0:=Int.emod_nonneg a (show b≠0 by omega)
  have a1:=Int.emod_lt_of_pos a hb
  have c0:=Int.emod_nonneg c (show d≠0 by omega)
  have c1:=Int.emod_lt_of_pos c hd
  have q1:=Int.ediv_nonneg ha (show 0≤b by omega)
  have q2:=Int.ediv_nonneg hc (show 0≤d by omega)
  have q3:=Int.ediv_le_self b ha
  have q4:=Int.ediv_le_self d hc
  refine Zbi3 _ _ _ _ _ ⟨by omega,by omega,?_⟩
  rw [Int.tdiv_eq_ediv_of_nonneg ha,Int.tdiv_eq_ediv_of_nonneg hc,Int.tmod_eq_emod_of_nonneg ha,Int.tmod_eq_emod_of_nonneg hc,w_id (x:=a / b) (by omega) (by omega),w_id (x:=c / d) (by omega) (by omega)]
  by_cases e:a / b=c / d
  ·rw [if_pos e]
   rw [e,Int.sub_self,Int.mul_zero] at k2
   by_cases g:c % d=0
   ·have k2':a*d - c*b=a % b*d:=by rw [k2,g];omega
    rw [if_pos g,g]
    by_cases f:0<a % b
    ·have:=Int.mul_pos f hd
     have:c*b<a*d:=by omega
     rw [if_pos f];simp [this]
    ·have f0:a % b=0:=by omega
     have:a*d - c*b=0:=by rw [k2',f0];omega
     have:¬ c*b<a*d:=by omega
     rw [if_neg f];simp [this]
   ·rw [if_neg g]
    by_cases f:a % b=0
    ·have:=Int.mul_pos (show 0<c % d by omega) hb
     have k2':a*d - c*b=- (c % d*b):=by rw [k2,f];omega
     have:¬ c*b<a*d:=by omega
     rw [if_pos f,if_neg (by omega)]
     simp [this]
    ·rw [if_neg f]
     have ih:=Z9n n d (c % d) b (a % b) (by omega) (by omega) (by omega) (by omega) (by omega) (by omega) (by omega) (by omega) (by omega)
     rw [ih]
     have e1:b*(c % d)=(c % d)*b:=Int.mul_comm _ _
     have e2:d*(a % b)=(a % b)*d:=Int.mul_comm _ _
     rw [e1,e2]
     congr 4
     exact propext ⟨fun h=>by omega,fun h=>by omega⟩
  ·rw [if_neg e]
   congr 4
   refine propext ⟨k1,fun h=>?_⟩
   rcases Int.lt_trichotomy (c / d) (a / b) with g | g | g
   ·exact g
   ·exact absurd g.symm e
   ·have:=k3 g;omega
theorem Zbo7 {a b c d:Int} (ha:0≤a) (hb:0<b) (hc:0≤c) (hd:0<d) (ma:a≤9223372036854775807) (mb:b≤9223372036854775807) (mc:c≤9223372036854775807) (md:d≤9223372036854775807):Zp2 a b c d=some (Bo (decide (c*b<a*d)),[]) :=
 Zbi4 _ _ _ _ _ (Z9n (b+d).toNat a b c d ha hb hc hd ma mb mc md (by omega))
theorem l_more (b d:Int) (hb:0<b) (hd:0<d) (mb:b≤1000000000000) (md:d≤1000000000000):∀ (n:Nat),n≤30→∀ a c:Int,0≤a→0≤c→a≤9223372036854775807→c≤9223372036854775807 →
  (a*d - c*b=0∨(1≤n∧(b*d≤(a*d - c*b)*10 ^ (n - 1)∨b*d≤(c*b - a*d)*10 ^ (n - 1))))→Zm0 a b c d ((30:Int) - n)=some (Bo (decide (c*b<a*d)),[])
 | 0,_,a,c,ha,hc,ma,mc,h=>by
  refine Z5t _ _ _ _ _ _ ?_
  rw [if_neg (by omega)]
  rcases h with h | h
  ·have:¬ c*b<a*d:=by omega
   simp [this]
  ·omega
 | n+1,hn,a,c,ha,hc,ma,mc,h=>by
  obtain ⟨k1,k2⟩:=q3 (a:=a) (c:=c) hb hd
  obtain ⟨k3,_⟩:=q3 (a:=c) (c:=a) hd hb
  have a0:=Int.emod_nonneg a (show b≠0 by omega)
  have a1:=Int.emod_lt_of_pos a hb
  have c0:=Int.emod_nonneg c (show d≠0 by omega)
  have c1:=Int.emod_lt_of_pos c hd
  have q1:=Int.ediv_nonneg ha (show 0≤b by omega)
  have q2:=Int.ediv_nonneg hc (show 0≤d by omega)
  have q3:=Int.ediv_le_self b ha
  have q4:=Int.ediv_le_self d hc
  have e1:=Int.mul_ediv_add_emod a b
  have e2:=Int.mul_ediv_add_emod c d
  rw [Int.mul_comm] at e1 e2
  have m1:0≤a / b*b:=Int.mul_nonneg q1 (by omega)
  have m2:0≤c / d*d:=Int.mul_nonneg q2 (by omega)
  refine Z5t _ _ _ _ _ _ ?_
  rw [if_pos (by omega)]
  refine ⟨by omega,by omega,?_⟩
  rw [Int.tdiv_eq_ediv_of_nonneg ha,Int.tdiv_eq_ediv_of_nonneg hc,w_id (x:=a / b) (by omega) (by omega),w_id (x:=c / d) (by omega) (by omega),w_id (x:=a / b*b) (by omega) (by omega),w_id (x:=c / d*d) (by omega) (by omega),
   show a - a / b*b=a % b by omega,show c - c / d*d=c % d by omega,w_id (x:=a % b) (by omega) (by omega),w_id (x:=c % d) (by omega) (by omega),w_id (x:=a % b*10) (by omega) (by omega),w_id (x:=c % d*10) (by omega) (by omega)]
  by_cases e:a / b=c / d
  ·rw [if_pos e,w_id (x:=(30:Int) - (n+1:Nat)+1) (by omega) (by omega),show (30:Int) - (n+1:Nat)+1=30 - n by omega]
   rw [e,Int.sub_self,Int.mul_zero] at k2
   have t1:a % b*d<b*d:=Int.mul_lt_mul_of_pos_right a1 hd
   have t2:c % d*b<d*b:=Int.mul_lt_mul_of_pos_right c1 hb
   have t3:0≤a % b*d:=Int.mul_nonneg a0 (by omega)
   have t4:0≤c % d*b:=Int.mul_nonneg c0 (by omega)
   rw [Int.mul_comm d b] at t2
   have u1:a % b*10*d=10*(a % b*d):=by ac_rfl
   have u2:c % d*10*b=10*(c % d*b):=by ac_rfl
   have ih:=l_more b d hb hd mb md n (by omega) (a % b*10) (c % d*10) (by omega) (by omega) (by omega) (by omega) (by
    rw [u1,u2]
    rcases h with h | ⟨_,h⟩
    ·left;omega
    ·cases n with
     | zero=>simp at h;omega
     | succ j =>
      right
      refine ⟨by omega,?_⟩
      rw [show j+1+1 - 1=j+1 by omega,Int.pow_succ] at h
      rw [show j+1 - 1=j by omega]
      have v1:(10*(a % b*d) - 10*(c % d*b))*10 ^ j=(a*d - c*b)*(10 ^ j*10):=by
       rw [show 10*(a % b*d) - 10*(c % d*b)=10*(a*d - c*b) by omega];ac_rfl
      have v2:(10*(c % d*b) - 10*(a % b*d))*10 ^ j=(c*b - a*d)*(10 ^ j*10):=by
       rw [show 10*(c % d*b) - 10*(a % b*d)=10*(c*b - a*d) by omega];ac_rfl
      rw [v1,v2];exact h)
   rw [ih,u1,u2]
   congr 4
   exact propext ⟨fun h=>by omega,fun h=>by omega⟩
  ·rw [if_neg e]
   congr 4
   refine propext ⟨k1,fun h=>?_⟩
   rcases Int.lt_trichotomy (c / d) (a / b) with g | g | g
   ·exact g
   ·exact absurd g.symm e
   ·have:=k3 g;omega
theorem x_more {a b c d:Int} (ha:0≤a) (hb:0<b) (hc:0≤c) (hd:0<d) (ma:a≤9223372036854775807) (mb:b≤1000000000000) (mc:c≤9223372036854775807) (md:d≤1000000000000):Zj4 a b c d=some (Bo (decide (c*b<a*d)),[]):=by
 refine Zbi6 _ _ _ _ _ ?_
 refine l_more b d hb hd mb md 30 (Nat.le_refl _) a c ha hc ma mc ?_
 have h1:b*d≤1000000000000*1000000000000:=Int.mul_le_mul mb md (by omega) (by omega)
 rcases Int.lt_trichotomy (a*d - c*b) 0 with h | h | h
 ·right;refine ⟨by omega,.inr ?_⟩
  have:=Int.mul_le_mul_of_nonneg_right (show 1≤c*b - a*d by omega) (show (0:Int)≤10 ^ (30 - 1) by decide)
  refine Int.le_trans h1 (Int.le_trans (by decide) this)
 ·exact .inl h
 ·right;refine ⟨by omega,.inl ?_⟩
  have:=Int.mul_le_mul_of_nonneg_right (show 1≤a*d - c*b by omega) (show (0:Int)≤10 ^ (30 - 1) by decide)
  refine Int.le_trans h1 (Int.le_trans (by decide) this)
theorem goodM {m:Zd} (ha:Zbv m) (k:Int):Zbc (mOp m k):=by
 obtain ⟨h1,h2,h3,h4,h5⟩:=ha
 unfold mOp
 repeat' split
 all_goals assumption
theorem step_pos {m:Zd} (ha:Zbv m) {sizes:List Int} (hc:Zcc sizes) (info:List Zg) (x:Zb) (y:Zg):1≤Zbx m info sizes x y∧Zbx m info sizes x y≤2000000000:=by
 refine ⟨?_,(Zh5 _ _ _ _).2⟩
 unfold Zbx
 obtain ⟨a,a1,a2⟩:∃ a,(0≤a∧a≤7)∧(if y.Left<0 then szAt sizes y.Mask else szAt sizes (Zbw info y.Left))=Zbi a:=by split <;> exact Zng hc _
 obtain ⟨b,b1,b2⟩:∃ a,(0≤a∧a≤7)∧(if y.Right<0 then 0 else szAt sizes (Zbw info y.Right))=Zbi a:=by
  split
  ·exact ⟨0,by omega,by decide⟩
  ·exact Zng hc _
 obtain ⟨c,c1,c2⟩:=Zng hc y.Mask
 rw [a2,b2,c2]
 exact Z7d (goodM ha _) a1 b1 c1
theorem Z9o {m:Zd} (ha:Zbv m) {sizes:List Int} (hc:Zcc sizes) (info:List Zg):∀ (xs:List Zb) (ys:List Zg),∀ c∈Zb8 m info sizes xs ys,1≤c∧c≤2000000000
 | [],_,c,h=>by simp [Zb8] at h
 | _::_,[],c,h=>by simp [Zb8] at h
 | x::xs,y::ys,c,h=>by
  rw [Zb8] at h
  cases h with
  | head=>exact step_pos ha hc info x y
  | tail _ h=>exact Z9o ha hc info xs ys c h
theorem sumW_b:∀ (xs:List Int) (n:Int),(∀ x∈xs,1≤x∧x≤2000000000)→0≤n→n+2000000000*xs.length≤1000000000000→n+xs.length≤sumW xs n∧sumW xs n≤n+2000000000*xs.length
 | [],n,_,_,_=>by simp [sumW]
 | x::xs,n,h,h0,hB=>by
  have h1:=h x (by simp)
  simp only [List.length_cons,Int.natCast_add,Int.cast_ofNat_Int] at hB ⊢
  have:=sumW_b xs (n+x) (fun y hy=>h y (by simp [hy])) (by omega) (by omega)
  rw [sumW,List.foldl_cons,w_id (x:=n+x) (by omega) (by omega)]
  rw [sumW] at this
  omega
theorem Z9p {m:Zd} (ha:Zbv m) {n:Int} {qa:List Atom} {steps:List Zb} {sizes:List Int} (hc:Zcc sizes) (hs:Zbn n qa sizes=true) (hi:(Zbb n qa steps).isSome=true):1≤Zb9 m n qa steps sizes∧Zb9 m n qa steps sizes≤28000000000:=by
 have hh:Zed n qa steps sizes=true:=by simp [Zed,hi,hs]
 have hne:=Zqi (m:=m).2 hh
 have hl:=Zws (m:=m) (n:=n) (qa:=qa) (steps:=steps) (sizes:=sizes)
 unfold Zb9
 rw [if_pos hh]
 have hp:∀ c∈Zcs m n qa steps sizes,1≤c∧c≤2000000000:=by
  unfold Zcs
  cases Zbb n qa steps with
  | none=>simp
  | some info=>simp only [hs,if_true];exact Z9o ha hc info steps info
 have:=sumW_b _ 0 hp (by omega) (by omega)
 have:0<(Zcs m n qa steps sizes).length:=List.length_pos_iff.2 hne
 omega
theorem run_info {m:Zd} {n:Int} {qa:List Atom} {sizes:List Int} {steps:List Zb} {y:MO} {c:Int} (hv:Zn n qa=true) (hl:1≤steps.length∧steps.length≤14) (h:runS m sizes qa steps [] 0=some ([y],c)):(Zbb n qa steps).isSome=true:=by
 have g:=Zww m sizes qa steps [] [] 0 (fun s h=>by simp at h)
 simp only [List.length_nil,List.reverse_nil] at g
 have hr:inR (steps.length:Int) 1 14=true:=by simp [inR];omega
 cases hg:Zbh qa steps 0 [] [] with
 | none=>rw [hg] at g;simp only [vw,List.map_nil] at g;rw [g] at h;cases h
 | some p =>
  obtain ⟨info',st'⟩:=p
  rw [hg] at g
  obtain ⟨tail,a,b,d⟩:=g
  simp only [vw,List.map_nil] at d
  rw [d] at h
  simp only [List.nil_append] at a
  subst a
  cases h':st'.reverse with
  | nil=>rw [h'] at h;simp at h
  | cons s rs =>
   rw [h'] at h
   simp only [List.map_cons,Option.some.injEq,Prod.mk.injEq,List.cons.injEq,List.map_eq_nil_iff] at h
   have hlen:st'.length=1:=by rw [← List.length_reverse,h',h.1.2];rfl
   simp [Zbb,hv,hr,hg,hlen]
theorem opt_cost {m:Zd} {q:Zc} {sizes:List Int} (bb:Base m q sizes) (ha:Zbv m) (hc:Zbq q.Ze q.Atoms (Zr q.Ze q.Atoms)=true):1≤(opt m q sizes).Cost∧(opt m q sizes).Cost≤28000000000:=by
 have H:=Znl bb hc
 have hb:=H.best
 have hm:=H.makes _ hb
 have hl:=H.len _ hb
 have h16:M16 (Zr q.Ze q.Atoms):=((Z7x bb.hv).m16 bb.hv).1
 have h4:=Zcl h16
 have hl2:1≤(opt m q sizes).Plan.Steps.length∧(opt m q sizes).Plan.Steps.length≤14:=by unfold opt;omega
 have e:=hm.cost bb.hv hl2 bb.hsv
 have:=Z9p ha bb.hcl bb.hsv (run_info bb.hv hl2 hm)
 have e2:Zb9 m q.Ze q.Atoms (opt m q sizes).Plan.Steps sizes=(opt m q sizes).Cost:=e
 rw [e2] at this
 exact this
theorem pc_cost {m:Zd} {q:Zc} {b:Zh} (hm:LeM m) (hq:LeQ q) (h:bqOk m q b) {l:List Int} (h1:Zy l=true) (h2:l.length=b.Box.Low.length) {p:Int} (hp:p.toNat<b.Plans.length):1≤pc m q b l p∧pc m q b l p≤28000000000:=by
 have hf:=Zby h.1
 have bb:=Zfo hm hq h h1 h2
 refine Z9p h.2.2 bb.hcl bb.hsv ?_
 have hpl:=hf.pl _ (List.getElem_mem hp)
 have e:Znt b p=b.Plans[p.toNat]:=by unfold Znt;rw [List.getElem?_eq_getElem hp];rfl
 rw [e]
 cases hi:Zbb q.Ze q.Atoms b.Plans[p.toNat].Steps with
 | none =>
  unfold Ze4 at hpl
  rw [hi] at hpl
  have:=Zih hf.hv
  simp at hpl;omega
 | some _=>rfl
theorem slk_b {q:Zc} {b:Zh} (hf:BqF q b) {k:Nat} (hk:k<b.Budgets.length):0≤slk b k∧slk b k≤1000000000000:=by
 have h1:=hf.bu _ (List.getElem_mem hk)
 have h2:=hf.sl
 unfold slk Zdb
 rw [List.getElem?_eq_getElem hk]
 simp only [inR,Bool.and_eq_true,decide_eq_true_eq] at h1 h2
 have hr:inR b.Budgets[k] 0 1000000000000=true∧inR b.Slack 0 100=true:=by simp [inR];omega
 have m1:b.Budgets[k]*(100+b.Slack)≤500000000000*200:=Int.mul_le_mul h1.2 (by omega) (by omega) (by omega)
 have m2:0≤b.Budgets[k]*(100+b.Slack):=Int.mul_nonneg (by omega) (by omega)
 simp only [Option.getD_some]
 rw [if_pos hr,Int.tdiv_eq_ediv_of_nonneg m2]
 constructor
 ·exact Int.ediv_nonneg m2 (by omega)
 ·omega
def simC (m:Zd) (q:Zc) (b:Zh) (l:List Int) (sl:Int):List Int→Int→Int×Bool
 | [],t=>(t,false)
 | p::ps,t=>if pc m q b l p≤sl then (w (t+pc m q b l p),true) else simC m q b l sl ps (w (t+sl))
def simK (m:Zd) (q:Zc) (b:Zh) (l:List Int):List (List Int)→Nat→Int→Int×Bool
 | [],_,t=>(t,false)
 | c::cs,k,t=>if (simC m q b l (slk b k) c t).2=true then simC m q b l (slk b k) c t else simK m q b l cs (k+1) (simC m q b l (slk b k) c t).1
theorem Zrf {m:Zd} {q:Zc} {b:Zh} {l:List Int} {sl p t:Int} {ps:List Int} (e:pc m q b l p≤sl):simC m q b l sl (p::ps) t=(w (t+pc m q b l p),true):=if_pos e
theorem Zrg {m:Zd} {q:Zc} {b:Zh} {l:List Int} {sl p t:Int} {ps:List Int} (e:¬ pc m q b l p≤sl):simC m q b l sl (p::ps) t=simC m q b l sl ps (w (t+sl)):=if_neg e
theorem Znu {m:Zd} {q:Zc} {b:Zh} {l:List Int} {k:Nat} {t:Int} {c:List Int} {cs:List (List Int)} (e:(simC m q b l (slk b k) c t).2=true):simK m q b l (c::cs) k t=simC m q b l (slk b k) c t:=if_pos e
theorem Zrh {m:Zd} {q:Zc} {b:Zh} {l:List Int} {k:Nat} {t:Int} {c:List Int} {cs:List (List Int)} (e:(simC m q b l (slk b k) c t).2=false):simK m q b l (c::cs) k t=simK m q b l cs (k+1) (simC m q b l (slk b k) c t).1:=if_neg (by rw [e];simp)
def tot (m:Zd) (q:Zc) (b:Zh) (l:List Int):Int:=(simK m q b l b.Contours 0 0).1
def entN:List (List Int)→Int
 | []=>0
 | c::cs=>c.length+entN cs
theorem Z9q:∀ cs,0≤entN cs
 | []=>by simp [entN]
 | c::cs=>by have:=Z9q cs;simp [entN];omega
section
variable {m:Zd} {q:Zc} {b:Zh} (hm:LeM m) (hq:LeQ q) (hb:LeB b) (h:bqOk m q b) {l:List Int} (h1:Zy l=true) (h2:l.length=b.Box.Low.length)
include hm hq hb h h1 h2
theorem Zbo8 (k:Nat) (hk:k<b.Contours.length):∀ i,i≤b.Contours[k].length→∀ t z,
  ((simC m q b l (slk b k) (b.Contours[k].drop i) t).2=true→z=(.tup [I (simC m q b l (slk b k) (b.Contours[k].drop i) t).1,Bo true],[]))→((simC m q b l (slk b k) (b.Contours[k].drop i) t).2=false→Zj3 m q b l (simC m q b l (slk b k) (b.Contours[k].drop i) t).1 b.Contours b.Contours.length ((k+1:Nat):Int)=some z)→Zmw m q b l t (slk b k) b.Contours b.Contours.length k b.Contours[k] b.Contours[k].length i=some z:=by
 have hf:=Zby h.1
 have hc:=hf.co _ (List.getElem_mem hk)
 have hlen:=hb.2.2.2.2.2 _ (List.getElem_mem hk)
 have hcl:=hb.2.2.2.2.1
 have l1:=Zd4 h1
 refine down _ ?_ ?_
 ·intro t z _ h0
  rw [List.drop_length] at h0
  have h5:=inc64 (i:=k) (by omega)
  refine Z5q _ _ _ _ _ _ _ _ _ _ _ _ _ ?_
  rw [if_neg (by omega),show w ((k:Int)+1)=((k+1:Nat):Int) from by rw [show w ((k:Int)+1)=(k:Int)+1 from h5];simp]
  exact h0 rfl
 ·intro i hi ih t z h1' h0
  have h5:=inc64 (i:=i) (by omega)
  obtain ⟨p1,p2⟩:=hc.2 _ (List.getElem_mem hi)
  rw [List.drop_eq_getElem_cons hi] at h1' h0
  refine Z5q _ _ _ _ _ _ _ _ _ _ _ _ _ ?_
  rw [if_pos (by omega)]
  refine ⟨by omega,b.Contours[k][i],by rw [Int.toNat_natCast];exact List.getElem?_eq_getElem hi,p1,_,Zre p2,_,Z6t m hm q hq _ l (by omega) h1,?_⟩
  rw [show w ((i:Int)+1)=((i+1:Nat):Int) from by rw [show w ((i:Int)+1)=(i:Int)+1 from h5];simp]
  show if pc m q b l b.Contours[k][i]≤slk b k then _ else _
  by_cases e:pc m q b l b.Contours[k][i]≤slk b k
  ·rw [Zrf e] at h1'
   rw [if_pos e,h1' rfl];rfl
  ·rw [Zrg e] at h1' h0
   rw [if_neg e]
   exact ih _ z h1' h0
theorem Zbo9:∀ k,k≤b.Contours.length→∀ t,Zj3 m q b l t b.Contours b.Contours.length k=some (if (simK m q b l (b.Contours.drop k) k t).2=true then .tup [I (simK m q b l (b.Contours.drop k) k t).1,Bo true] else .tup [I 0,Bo false],[]):=by
 have hf:=Zby h.1
 have hcl:=hb.2.2.2.2.1
 refine down _ ?_ ?_
 ·intro t
  refine Z5p _ _ _ _ _ _ _ _ _ ?_
  rw [if_neg (by omega)];simp [simK]
 ·intro k hk ih t
  have hk2:k<b.Budgets.length:=by have:=hf.cl;omega
  refine Z5p _ _ _ _ _ _ _ _ _ ?_
  rw [if_pos (by omega)]
  refine ⟨by omega,b.Contours[k],by rw [Int.toNat_natCast];exact List.getElem?_eq_getElem hk,b.Budgets[k],by rw [Int.toNat_natCast];exact List.getElem?_eq_getElem hk2,_,Z52 _ _,?_⟩
  have es:Zdb b.Budgets[k] b.Slack=slk b k:=by unfold slk;rw [List.getElem?_eq_getElem hk2];rfl
  rw [es,List.drop_eq_getElem_cons hk]
  refine Zbo8 hm hq hb h h1 h2 k hk 0 (Nat.zero_le _) t _ (fun e=>?_) (fun e=>?_)
  ·rw [List.drop_zero] at e ⊢
   rw [Znu e,if_pos e]
  ·rw [List.drop_zero] at e ⊢
   rw [Zrh e];exact ih _
theorem Z9r:Zmv m q b l=some (if (simK m q b l b.Contours 0 0).2=true then .tup [I (tot m q b l),Bo true] else .tup [I 0,Bo false],[]) :=
 Zbi2 _ _ _ _ _ (Zbo9 hm hq hb h h1 h2 0 (Nat.zero_le _) 0)
theorem Zbpa (k:Nat) (hk:k<b.Contours.length):∀ i,i≤b.Contours[k].length→∀ t z,
  ((simC m q b l (slk b k) (b.Contours[k].drop i) t).2=true→z=(I (simC m q b l (slk b k) (b.Contours[k].drop i) t).1,[]))→((simC m q b l (slk b k) (b.Contours[k].drop i) t).2=false→Zh0 m q b l (simC m q b l (slk b k) (b.Contours[k].drop i) t).1 ((k+1:Nat):Int)=some z)→Zmz m q b l t k (slk b k) i=some z:=by
 have hf:=Zby h.1
 have hc:=hf.co _ (List.getElem_mem hk)
 have hlen:=hb.2.2.2.2.2 _ (List.getElem_mem hk)
 have hcl:=hb.2.2.2.2.1
 have l1:=Zd4 h1
 refine down _ ?_ ?_
 ·intro t z _ h0
  rw [List.drop_length] at h0
  have h5:=inc64 (i:=k) (by omega)
  refine Z5s _ _ _ _ _ _ _ _ _ ⟨by omega,b.Contours[k],by rw [Int.toNat_natCast];exact List.getElem?_eq_getElem hk,?_⟩
  rw [if_neg (by omega),show w ((k:Int)+1)=((k+1:Nat):Int) from by rw [show w ((k:Int)+1)=(k:Int)+1 from h5];simp]
  exact h0 rfl
 ·intro i hi ih t z h1' h0
  have h5:=inc64 (i:=i) (by omega)
  obtain ⟨p1,p2⟩:=hc.2 _ (List.getElem_mem hi)
  rw [List.drop_eq_getElem_cons hi] at h1' h0
  refine Z5s _ _ _ _ _ _ _ _ _ ⟨by omega,b.Contours[k],by rw [Int.toNat_natCast];exact List.getElem?_eq_getElem hk,?_⟩
  rw [if_pos (by omega)]
  refine ⟨by omega,b.Contours[k][i],by rw [Int.toNat_natCast];exact List.getElem?_eq_getElem hi,p1,_,Zre p2,_,Z6u m hm q hq _ l (by omega) h1,?_⟩
  rw [show w ((i:Int)+1)=((i+1:Nat):Int) from by rw [show w ((i:Int)+1)=(i:Int)+1 from h5];simp]
  show if pc m q b l b.Contours[k][i]≤slk b k then _ else _
  by_cases e:pc m q b l b.Contours[k][i]≤slk b k
  ·rw [Zrf e] at h1'
   rw [if_pos e,h1' rfl];rfl
  ·rw [Zrg e] at h1' h0
   rw [if_neg e]
   exact ih _ z h1' h0
theorem Zbpb:∀ k,k≤b.Budgets.length→∀ t,Zh0 m q b l t k=some (if (simK m q b l (b.Contours.drop k) k t).2=true then I (simK m q b l (b.Contours.drop k) k t).1 else I (-1),[]):=by
 have hf:=Zby h.1
 have hcl:=hb.2.2.2.2.1
 have hbl:=hb.2.2.1
 have hec:=hf.cl
 refine down _ ?_ ?_
 ·intro t
  refine Z5r _ _ _ _ _ _ _ ?_
  rw [if_neg (by omega),← hec,List.drop_length];simp [simK]
 ·intro k hk ih t
  have hk2:k<b.Contours.length:=by omega
  refine Z5r _ _ _ _ _ _ _ ?_
  rw [if_pos (by omega)]
  refine ⟨by omega,b.Budgets[k],by rw [Int.toNat_natCast];exact List.getElem?_eq_getElem hk,_,Z53 _ _,?_⟩
  have es:Zdb b.Budgets[k] b.Slack=slk b k:=by unfold slk;rw [List.getElem?_eq_getElem hk];rfl
  rw [es,List.drop_eq_getElem_cons hk2]
  refine Zbpa hm hq hb h h1 h2 k hk2 0 (Nat.zero_le _) t _ (fun e=>?_) (fun e=>?_)
  ·rw [List.drop_zero] at e ⊢
   rw [Znu e,if_pos e]
  ·rw [List.drop_zero] at e ⊢
   rw [Zrh e];exact ih _
theorem x_total:Zmy m q b l=some (if (simK m q b l b.Contours 0 0).2=true then I (tot m q b l) else I (-1),[]) :=
 Zbi5 _ _ _ _ _ (Zbpb hm hq hb h h1 h2 0 (Nat.zero_le _) 0)
omit hb in
theorem simC_b {sl:Int} (hs:0≤sl∧sl≤1000000000000):∀ (c:List Int) (t:Int),(∀ p∈c,p.toNat<b.Plans.length)→0≤t→t+1000000000000*c.length≤9000000000000000000 →
  t≤(simC m q b l sl c t).1∧(simC m q b l sl c t).1≤t+1000000000000*c.length∧((simC m q b l sl c t).2=true→t+1≤(simC m q b l sl c t).1)
 | [],t,_,_,_=>by simp [simC]
 | p::ps,t,hp,h0,hB=>by
  have hpc:=pc_cost hm hq h h1 h2 (hp p (by simp))
  simp only [List.length_cons,Int.natCast_add,Int.cast_ofNat_Int] at hB ⊢
  by_cases e:pc m q b l p≤sl
  ·rw [Zrf e,w_id (x:=t+pc m q b l p) (by omega) (by omega)]
   exact ⟨by simp;omega,by simp;omega,fun _=>by simp;omega⟩
  ·rw [Zrg e,w_id (x:=t+sl) (by omega) (by omega)]
   have:=simC_b hs ps (t+sl) (fun x hx=>hp x (by simp [hx])) (by omega) (by omega)
   exact ⟨by omega,by omega,fun hh=>by have:=this.2.2 hh;omega⟩
omit hb in
theorem simK_b:∀ (cs:List (List Int)) (k:Nat) (t:Int),(∀ c∈cs,∀ p∈c,p.toNat<b.Plans.length)→k+cs.length≤b.Budgets.length→0≤t→t+1000000000000*entN cs≤9000000000000000000 →
  t≤(simK m q b l cs k t).1∧(simK m q b l cs k t).1≤t+1000000000000*entN cs∧((simK m q b l cs k t).2=true→t+1≤(simK m q b l cs k t).1)
 | [],k,t,_,_,_,_=>by simp [simK,entN]
 | c::cs,k,t,hp,hk,h0,hB=>by
  have hf:=Zby h.1
  have hn:=Z9q cs
  simp only [entN] at hB ⊢
  simp only [List.length_cons] at hk
  have hc:=simC_b hm hq h h1 h2 (slk_b hf (k:=k) (by omega)) c t (hp c (by simp)) h0 (by omega)
  rcases tf (simC m q b l (slk b k) c t).2 with e | e
  ·rw [Zrh e]
   have:=simK_b cs (k+1) (simC m q b l (slk b k) c t).1 (fun x hx=>hp x (by simp [hx])) (by omega) (by omega) (by omega)
   exact ⟨by omega,by omega,fun hh=>by have:=this.2.2 hh;omega⟩
  ·rw [Znu e]
   exact ⟨by omega,by omega,fun _=>hc.2.2 e⟩
end
theorem Z9s {m:Zd} {q:Zc} {b:Zh} {l:List Int} {sl:Int}:∀ {c:List Int} {t:Int},(c.any fun p=>decide (pc m q b l p≤sl))=true→(simC m q b l sl c t).2=true
 | [],t,h=>by simp at h
 | p::ps,t,h=>by
  by_cases e:pc m q b l p≤sl
  ·rw [Zrf e]
  ·rw [Zrg e]
   simp only [List.any_cons,Bool.or_eq_true,decide_eq_true_eq] at h
   exact Z9s (h.resolve_left e)
theorem Z9t {m:Zd} {q:Zc} {b:Zh} {l:List Int}:∀ {cs:List (List Int)} {k j:Nat} {t:Int} (hj:j<cs.length),(cs[j].any fun p=>decide (pc m q b l p≤slk b (k+j)))=true→(simK m q b l cs k t).2=true
 | c::cs,k,0,t,_,h=>by
  have:=Z9s (t:=t) h
  simp only [Nat.add_zero,List.getElem_cons_zero] at this
  rw [Znu this];exact this
 | c::cs,k,j+1,t,hj,h=>by
  rcases tf (simC m q b l (slk b k) c t).2 with e | e
  ·rw [Zrh e]
   refine Z9t (j:=j) (by simpa using hj) ?_
   rw [show k+1+j=k+(j+1) by omega]
   simpa using h
  ·rw [Znu e];exact e
theorem Zbpc {m:Zd} {q:Zc} {b:Zh} (hf:BqF q b) {l:List Int} (h:cov m q b l=true):(simK m q b l b.Contours 0 0).2=true:=by
 unfold cov at h
 simp only [Bool.and_eq_true,decide_eq_true_eq] at h
 have hk:=Zxt h.1
 have hk2:(Zbo b.Budgets (opt m q (Zt l)).Cost).toNat<b.Contours.length:=by have:=hf.cl;omega
 refine Z9t (j:=(Zbo b.Budgets (opt m q (Zt l)).Cost).toNat) hk2 ?_
 rw [Nat.zero_add]
 have:=h.2
 unfold covC contA at this
 rw [List.getElem?_eq_getElem hk2] at this
 exact this
abbrev WS:=List Int×Int×Int
def wst (m:Zd) (q:Zc) (b:Zh) (s:WS) (l:List Int):WS:=if s.2.1*(opt m q (Zt l)).Cost<tot m q b l*s.2.2 then (l,tot m q b l,(opt m q (Zt l)).Cost) else s
def Zgo (m:Zd) (q:Zc) (b:Zh):List Int:=((Z1 b.Box).foldl (wst m q b) ([],0,1)).1
structure GoodW (s:WS):Prop where
 t0:0≤s.2.1
 t1:s.2.1≤9000000000000000000
 o0:1≤s.2.2
 o1:s.2.2≤28000000000
structure LocF (m:Zd) (q:Zc) (b:Zh) (l:List Int):Prop where
 h1:Zy l=true
 h2:l.length=b.Box.Low.length
 fd:(simK m q b l b.Contours 0 0).2=true
 t0:1≤tot m q b l
 t1:tot m q b l≤9000000000000000000
 o0:1≤(opt m q (Zt l)).Cost
 o1:(opt m q (Zt l)).Cost≤28000000000
theorem loc_f {m:Zd} {q:Zc} {b:Zh} (hm:LeM m) (hq:LeQ q) (h:bqOk m q b) (hp:Zgn m q b=true) (hE:entN b.Contours≤2000000):∀ l∈Z1 b.Box,LocF m q b l:=by
 intro l hl
 have hf:=Zby h.1
 obtain ⟨h1,h2⟩:=Zxu hf l hl
 unfold Zgn at hp
 simp only [Bool.and_eq_true] at hp
 have hc:=List.all_eq_true.1 hp.2 l hl
 have hfd:=Zbpc hf hc
 have hb:=simK_b hm hq h h1 h2 b.Contours 0 0 (fun c hc p hp=>((hf.co c hc).2 p hp).2) (by have:=hf.cl;omega) (by omega) (by omega)
 have ho:=opt_cost (Zfo hm hq h h1 h2) h.2.2 h.2.1
 have ht:=hb.2.2 hfd
 exact ⟨h1,h2,hfd,by unfold tot;omega,by unfold tot;omega,ho.1,ho.2⟩
theorem good_w {m:Zd} {q:Zc} {b:Zh} {s:WS} {l:List Int} (hs:GoodW s) (hl:LocF m q b l):GoodW (wst m q b s l):=by
 unfold wst
 split
 ·exact ⟨by have:=hl.t0;simp;omega,hl.t1,hl.o0,hl.o1⟩
 ·exact hs
theorem l_spec_W {m:Zd} {q:Zc} {b:Zh} (hm:LeM m) (hq:LeQ q) (hb:LeB b) (h:bqOk m q b) (hL:∀ l∈Z1 b.Box,LocF m q b l):∀ i,i≤(Z1 b.Box).length→∀ s:WS,GoodW s →
  Zgc m q b s.1 (shapes q) s.2.1 s.2.2 (Zr q.Ze q.Atoms) i=some (.tup [.own 0,Bo true],[.arr 3 1 true ((((Z1 b.Box).drop i).foldl (wst m q b) s).1.map ic)]):=by
 have hf:=Zby h.1
 have hx:LeX b.Box:=⟨hb.1,hb.2.1⟩
 have hv2:=hf.v2
 have hlen:(Z1 b.Box).length=(Z7 b.Box.Low b.Box.High).toNat:=by simp [Z1]
 have hv:Z7 b.Box.Low b.Box.High≤vol b.Box.Low b.Box.High:=by
  unfold Z7 capV
  rw [if_pos hf.box]
  split <;> omega
 have hp:=hf.v1
 refine down _ ?_ ?_
 ·intro s hs
  refine Z5v _ _ _ _ _ _ _ _ _ _ ⟨_,Zm7 b.Box hx,?_⟩
  rw [if_neg (by omega)];simp
 ·intro i hi ih s hs
  have h5:=inc64 (i:=i) (by omega)
  have hli:(Z1 b.Box)[i]=locB b.Box i:=by simp [Z1]
  have F:=hL _ (List.getElem_mem hi)
  rw [hli] at F
  have l1:=Zd4 F.h1
  have bb:=Zfo hm hq h F.h1 F.h2
  have hl:=Zh9 bb (Nat.le_refl (Zo q.Atoms).length)
  have hsz:=Zqj (locB b.Box i) (by omega)
  rw [F.h1,if_pos rfl] at hsz
  obtain ⟨fr,ht⟩:=Zxh bb
  have htot:=x_total hm hq hb h F.h1 F.h2
  rw [if_pos F.fd] at htot
  have g1:=F.t0;have g2:=F.t1;have g3:=F.o0;have g4:=F.o1
  have g5:=hs.t0;have g6:=hs.t1;have g7:=hs.o0;have g8:=hs.o1
  refine Z5v _ _ _ _ _ _ _ _ _ _ ⟨_,Zm7 b.Box hx,?_⟩
  rw [if_pos (by omega),List.drop_eq_getElem_cons hi,List.foldl_cons,hli]
  refine ⟨_,_,Z74 b.Box hx hf.box (by omega) (by omega),_,htot,_,hsz,_,_,ht,.inr ⟨_,_,_,_,Zxi _ _ (by omega) (Znl bb h.2.1).ne (Znk bb (Nat.le_refl _)),_,x_more (b:=(opt m q (Zt (locB b.Box i))).Cost) (by omega) (by omega) (by omega) (by omega) (by omega) (by omega) (by omega) (by omega),?_⟩⟩
  rw [show w ((i:Int)+1)=((i+1:Nat):Int) from by rw [show w ((i:Int)+1)=(i:Int)+1 from h5];simp]
  have ih':=ih _ (good_w hs F)
  unfold wst at ih' ⊢
  by_cases e:s.2.1*(opt m q (Zt (locB b.Box i))).Cost<tot m q b (locB b.Box i)*s.2.2
  ·rw [if_pos e] at ih' ⊢
   rw [if_pos (by simpa using e)]
   exact ih'
  ·rw [if_neg e] at ih' ⊢
   rw [if_neg (by simpa using e)]
   exact ih'
theorem x_spec_W {m:Zd} {q:Zc} {b:Zh} (hm:LeM m) (hq:LeQ q) (hb:LeB b) (hE:entN b.Contours≤2000000):Zp5 m q b=some (.tup [.own 0,Bo (isPB m q b)],[.arr 3 1 true ((if isPB m q b=true then Zgo m q b else []).map ic)]):=by
 rcases tf (isPB m q b) with e | e
 ·refine Z5w _ _ _ _ ⟨_,Z9m hm hq hb,?_⟩
  rw [e];simp
 ·rw [e,if_pos rfl]
  refine Z5w _ _ _ _ ⟨_,Z9m hm hq hb,?_⟩
  rw [e,if_pos rfl]
  have h:bqOk m q b∧Zgn m q b=true:=by unfold isPB at e;simpa using e
  have hf:=Zby h.1.1
  refine ⟨_,Zxg q hq hf.hv,_,Zh2 q hq,?_⟩
  have:=l_spec_W hm hq hb h.1 (loc_f hm hq h.1 h.2 hE) 0 (Nat.zero_le _) ([],0,1) ⟨by simp,by simp,by simp,by simp⟩
  rw [List.drop_zero] at this
  exact this
theorem Zbpd (f:Nat) (xs:List AV) (h0:List Blk) (r:AV) (hr:List Blk) (h:ext f xs h0=some (r,hr)):Sound Tryz.prog f xs h0 r hr:=by cases h
theorem sound {f:Nat} {xs:List AV} {h0:List Blk} {r:AV} {hr:List Blk} (h:C f xs h0=some (r,hr)):Sound Tryz.prog f xs h0 r hr:=callC_sound (tblOK _ _) Zbpd h
def Zri:MCode:=.reg [.bk 53 .add 25 1,.m 25 53] [3,4,5,8,9,10,23,24,25]
def Zid:MCode:=.r [.b 26 .lss 25 24] [3,4,5,8,9,10,23,24,25,26] (.seq (.cond (.s 26) .skip (.exit 0)) (.seq (.block 1 (.r [.ia 27 1 23 25,.o 28 (.loadU true (.s 27)),.m 12 28] [3,4,5,8,9,10,12,23,24,25] (.r [.ln 30 30 3,.ln 31 2 4,.ln 32 8 5,.m 33 12,.cl 34 96 [30,31,32,33],.m 29 34,.o 35 (.ext (.s 29) 0),.o 36 (.ext (.s 29) 1),.m 13 35,.m 14 36] [3,4,5,8,9,10,12,13,23,24,25] (.r [.ln 37 30 3,.ln 38 2 4,.m 39 12,.cl 40 97 [37,38,39],.m 15 40] [3,4,5,8,9,10,12,13,15,23,24,25] (.r [.m 41 8,.o 42 (.nileq false true (.s 41)),.m 43 42,.h 44 43 (.mov (.s 13)),.h 45 43 (.mov (.s 15)),.h 46 43 (.mov (.s 9)),.h 47 43 (.mov (.s 10)),.h 48 43 (.cl 98 [44,45,46,47]),.o 49 (.pick (.s 43) (.q true) (.s 48))] [3,4,5,8,9,10,12,13,15,23,24,25,49] (.cond (.s 49) (.reg [.m 50 12,.m 51 13,.m 52 15,.m 8 50,.m 9 51,.m 10 52] [3,4,5,8,9,10,23,24,25]) .skip)))))) Zri))
def Zrj:MCode:=.r [.m 54 8,.m 6 54,.o 7 (.mov (.q true))] [6,7] .ret
def Zxv:MFun:=⟨3,55,[.tmp 6,.tmp 7],.r [.bx 3 0,.bx 4 1,.bx 5 2,.o 6 (.mov (.c (.t .nil))),.o 7 (.mov (.q false))] [3,4,5] (.wc [.ln 16 30 3,.ln 17 2 4,.ln 18 8 5,.cl 19 94 [16,17,18],.o 20 (.un .not (.s 19))] [3,4,5,20] 20 (.r [.o 6 (.mov (.c (.t .nil))),.o 7 (.mov (.q false))] [6,7] .ret) (.r [.o 8 (.mov (.c (.t .nil)))] [3,4,5,8] (.r [.mk' 9 0,.mk' 10 1] [3,4,5,8,9,10] (.seq (.r [.fa 21 3 5,.ln 22 2 21,.xl 23 95 [22],.ll 24 23,.mk' 25 0] [3,4,5,8,9,10,23,24,25] (.block 0 (.loop [3,4,5,8,9,10,23,24,25] Zid))) Zrj))))⟩
theorem Z9u:tbl 18=some Zxv:=tblOf_eq Tryz.func18 (by kernel_rfl) (by kernel_rfl)
def Zey (ls:List (List Int)) (i:Nat):List (List T):=List.replicate i [T.any]++(ls.drop i).map isc
theorem Z9v {ls:List (List Int)} {i:Nat} (h:i≤ls.length):(Zey ls i).length=ls.length:=by simp [Zey];omega
theorem Z9w {ls:List (List Int)} {i:Nat} (h:i<ls.length):(Zey ls i)[i]?=some (isc ls[i]):=by
 unfold Zey
 rw [List.getElem?_append_right (by simp),List.drop_eq_getElem_cons h]
 simp
theorem Z9x {ls:List (List Int)} {i:Nat} (h:i<ls.length):(Zey ls i).set i [T.any]=Zey ls (i+1):=by
 unfold Zey
 rw [List.drop_eq_getElem_cons h,List.map_cons,List.set_append_right _ _ (by simp),List.length_replicate,Nat.sub_self,List.set_cons_zero,List.replicate_succ',List.append_assoc]
 rfl
noncomputable def LWn (m:Zd) (q:Zc) (b:Zh) (ls:List (List Int)) (i:Nat):Rs:=EvL C [.blk 0,.seq Zrj,.fin 0 [.tmp 6,.tmp 7]] [3,4,5,8,9,10,23,24,25] Zid
 ⟨[(3,.ptr 0 0),(4,.ptr 1 0),(5,.ptr 2 0),(8,.t .nil),(9,I 0),(10,I 1),(23,.own 3),(24,I ls.length),(25,I i)],[[]],[.box (m.c.map .t),.box (q.c.map .t),.box (b.c.map .t),.xarr 30 1 (Zey ls i)]⟩
noncomputable def LWo (m:Zd) (q:Zc) (b:Zh) (ls:List (List Int)) (s:WS) (i:Nat):Rs:=EvL C [.blk 0,.seq Zrj,.fin 0 [.tmp 6,.tmp 7]] [3,4,5,8,9,10,23,24,25] Zid
 ⟨[(3,.ptr 0 0),(4,.ptr 1 0),(5,.ptr 2 0),(8,.own 3),(9,I s.2.1),(10,I s.2.2),(23,.own 4),(24,I ls.length),(25,I i)],[[]],[.box (m.c.map .t),.box (q.c.map .t),.box (b.c.map .t),.xarr unk 1 (s.1.map ic),.xarr 30 1 (Zey ls i)]⟩
theorem LWo_end (m:Zd) (q:Zc) (b:Zh) (ls:List (List Int)) (s:WS):LWo m q b ls s ls.length=some (.tup [.own 0,Bo true],[.xarr unk 1 (s.1.map ic)]):=by
 unfold LWo
 rw [EvL_eq Zid.eq_1]
 simp +decide [Zrj]
theorem LWo_step {m:Zd} {q:Zc} {b:Zh} (hm:LeM m) (hq:LeQ q) (hb:LeB b) (h:bqOk m q b) {ls:List (List Int)} {i:Nat} (hi:i<ls.length) (hls:ls.length≤1000) (F:LocF m q b ls[i]) {s:WS} (hs:GoodW s) (hne:s.1≠[]) :
  LWo m q b ls s i=LWo m q b ls (wst m q b s ls[i]) (i+1):=by
 have h5:=inc64 (i:=i) (by omega)
 have l1:=Zd4 F.h1
 have hf:=Zby h.1
 have s1:=Z9r hm hq hb h F.h1 F.h2
 rw [if_pos F.fd] at s1
 have s2:=Zqu (by omega) F.h1 (Zfo hm hq h F.h1 F.h2) h.2.2 h.2.1
 have g1:=F.t0;have g2:=F.t1;have g3:=F.o0;have g4:=F.o1
 have g5:=hs.t0;have g6:=hs.t1;have g7:=hs.o0;have g8:=hs.o1
 have s3:=Zbo7 (a:=tot m q b ls[i]) (b:=(opt m q (Zt ls[i])).Cost) (c:=s.2.1) (d:=s.2.2) (by omega) (by omega) (by omega) (by omega) (by omega) (by omega) (by omega) (by omega)
 have hg:=Z9w hi
 have hl:=Z9v (Nat.le_of_lt hi)
 have hset:=Z9x hi
 have hw:w ((i:Int)+1)=((i+1:Nat):Int):=by rw [show w ((i:Int)+1)=(i:Int)+1 from h5];simp
 have hne2:ls[i]≠[]:=by
  intro e
  have:=F.h2
  rw [e] at this
  have:=(Zc0 hf.box)
  have:=hf.len
  have:=Zih hf.hv
  simp at *;omega
 unfold Zmv at s1
 unfold Zf4 at s2
 unfold Zp2 at s3
 unfold wst
 generalize ls[i]=row at *
 generalize tot m q b row=n at *
 generalize (opt m q (Zt row)).Cost=o at *
 obtain ⟨z,zs,rfl⟩:=List.exists_cons_of_ne_nil hne2
 obtain ⟨v,t,p⟩:=s
 simp only at *
 obtain ⟨y,ys,rfl⟩:=List.exists_cons_of_ne_nil hne
 have hi':(i:Int)<(ls.length:Int):=by omega
 simp only [isc,Zd.c_def,Zc.c_def,Zh.c_def,List.map_cons,List.map_nil] at s1 s2 s3 hg
 have hk:=getOf hg
 simp at s1 s2 hk
 by_cases e:t*o<n*p
 ·rw [if_pos e]
  simp only [e,decide_true] at s3
  unfold LWo
  rw [EvL_eq Zid.eq_1]
  simp +decide [hi,hk,hl,hset,s1,s2,s3,hw,Zri]
 ·rw [if_neg e]
  simp only [e,decide_false] at s3
  unfold LWo
  rw [EvL_eq Zid.eq_1]
  simp +decide [hi,hk,hl,hset,s1,s2,s3,hw,Zri]
theorem Zbpe {m:Zd} {q:Zc} {b:Zh} {l:List Int} (F:LocF m q b l):wst m q b ([],0,1) l=(l,tot m q b l,(opt m q (Zt l)).Cost):=by
 have:=F.t0
 unfold wst
 rw [if_pos (by simp;omega)]
theorem loc_ne {m:Zd} {q:Zc} {b:Zh} (hf:BqF q b) {l:List Int} (F:LocF m q b l):l≠[]:=by
 intro e
 have:=F.h2
 rw [e] at this
 have:=hf.len
 have:=Zih hf.hv
 simp at *;omega
theorem LWn_step {m:Zd} {q:Zc} {b:Zh} (hm:LeM m) (hq:LeQ q) (hb:LeB b) (h:bqOk m q b) {ls:List (List Int)} (hi:0<ls.length) (F:LocF m q b ls[0]) :
  LWn m q b ls 0=LWo m q b ls (ls[0],tot m q b ls[0],(opt m q (Zt ls[0])).Cost) 1:=by
 have l1:=Zd4 F.h1
 have hf:=Zby h.1
 have s1:=Z9r hm hq hb h F.h1 F.h2
 rw [if_pos F.fd] at s1
 have s2:=Zqu (by omega) F.h1 (Zfo hm hq h F.h1 F.h2) h.2.2 h.2.1
 have hg:=Z9w hi
 have hl:=Z9v (Nat.zero_le ls.length)
 have hset:=Z9x hi
 have hne2:=loc_ne hf F
 unfold Zmv at s1
 unfold Zf4 at s2
 generalize ls[0]=row at *
 generalize tot m q b row=n at *
 generalize (opt m q (Zt row)).Cost=o at *
 obtain ⟨z,zs,rfl⟩:=List.exists_cons_of_ne_nil hne2
 simp only [isc,Zd.c_def,Zc.c_def,Zh.c_def,List.map_cons,List.map_nil] at s1 s2 hg
 have hk:=getOf hg
 simp at s1 s2 hk
 unfold LWn LWo
 rw [EvL_eq Zid.eq_1]
 simp +decide [hi,hk,hl,hset,s1,s2,Zri,show IntKind.wrap .i64 1=1 by decide]
theorem wst_ne {m:Zd} {q:Zc} {b:Zh} {s:WS} {l:List Int} (hs:s.1≠[]) (hl:l≠[]):(wst m q b s l).1≠[]:=by
 unfold wst
 split <;> assumption
theorem LWo_all {m:Zd} {q:Zc} {b:Zh} (hm:LeM m) (hq:LeQ q) (hb:LeB b) (h:bqOk m q b) {ls:List (List Int)} (hls:ls.length≤1000) (hF:∀ l∈ls,LocF m q b l):∀ i,i≤ls.length→∀ s:WS,GoodW s→s.1≠[] →
  LWo m q b ls s i=some (.tup [.own 0,Bo true],[.xarr unk 1 (((ls.drop i).foldl (wst m q b) s).1.map ic)]):=by
 refine down _ ?_ ?_
 ·intro s _ _;rw [LWo_end];simp
 ·intro i hi ih s hs hne
  have F:=hF _ (List.getElem_mem hi)
  rw [LWo_step hm hq hb h hi hls F hs hne,List.drop_eq_getElem_cons hi,List.foldl_cons]
  exact ih _ (good_w hs F) (wst_ne hne (loc_ne (Zby h.1) F))
theorem x_impl_W {m:Zd} {q:Zc} {b:Zh} (hm:LeM m) (hq:LeQ q) (hb:LeB b) (hE:entN b.Contours≤2000000):C Zbai [.agg (m.c.map .t),.agg (q.c.map .t),.agg (b.c.map .t)] [] =
  if isPB m q b=true then some (.tup [.own 0,Bo true],[.xarr unk 1 ((Zgo m q b).map ic)]) else some (.tup [.t .nil,Bo false],[]):=by
 have s0:=Zbo6 hm hq hb
 unfold Zo6 at s0
 simp only [Zd.c_def,Zc.c_def,Zh.c_def,List.map_cons,List.map_nil] at s0
 try simp at s0
 rcases tf (isPB m q b) with e | e
 ·rw [e] at s0 ⊢
  rw [if_neg (by simp)]
  refine run Z9u rfl ?_
  simp [Zxv,s0]
 ·rw [e] at s0 ⊢
  rw [if_pos rfl]
  have h:bqOk m q b∧Zgn m q b=true:=by unfold isPB at e;simpa using e
  have hf:=Zby h.1.1
  have hL:=loc_f hm hq h.1 h.2 hE
  have hx:=Z75 b.Box ⟨hb.1,hb.2.1⟩
  rw [if_pos hf.v2] at hx
  have hv1:=hf.v1
  have hv2:=hf.v2
  have hlen:(Z1 b.Box).length=(Z7 b.Box.Low b.Box.High).toNat:=by simp [Z1]
  have h0:0<(Z1 b.Box).length:=by omega
  have F:=hL _ (List.getElem_mem h0)
  have st:=LWn_step hm hq hb h.1 h0 F
  have g:GoodW ((Z1 b.Box)[0],tot m q b (Z1 b.Box)[0],(opt m q (Zt (Z1 b.Box)[0])).Cost):=⟨by have:=F.t0;simp;omega,F.t1,F.o0,F.o1⟩
  have al:=LWo_all hm hq hb h.1 (by omega) hL 1 (by omega) _ g (loc_ne hf F)
  have ew:Zgo m q b=((List.drop 1 (Z1 b.Box)).foldl (wst m q b) ((Z1 b.Box)[0],tot m q b (Z1 b.Box)[0],(opt m q (Zt (Z1 b.Box)[0])).Cost)).1:=by
   unfold Zgo
   conv=>lhs;rw [← List.drop_zero (l:=Z1 b.Box),List.drop_eq_getElem_cons h0,List.foldl_cons,Zbpe F]
  rw [← st,← ew] at al
  unfold Zhf at hx
  simp only [Box.c_def,List.map_cons,List.map_nil] at hx
  try simp at hx
  unfold LWn Zey at al
  simp at al
  refine run Z9u rfl ?_
  simp [Zxv,s0,hx]
  exact al
def mkL {α:Type} (f:α→Int→α) (n:α→Nat):List α→Int→List α
 | [],_=>[]
 | x::xs,k=>f x k::mkL f n xs (k+(n x:Int))
def cnL {α:Type} (n:α→Nat):List α→Nat
 | []=>0
 | x::xs=>n x+cnL n xs
def mkI (xs:List Int) (k:Int):List Int:=mkL (fun _ k=>k) (fun _=>1) xs k
theorem Z9y (x:Int) (xs:List Int) (k:Int):mkI (x::xs) k=k::mkI xs (k+1):=rfl
theorem Zbpf (e:Nat) (fr:List Fr):∀ (xs d:List Int) (k:Int),0≤k→k+(xs.length:Int)≤4611686018427387904→d.length+xs.length≤4294967296→EvL C fr [0,1,5] Zkm ⟨[(0,.own 0),(1,I k),(5,I d.length)],[[(0,.own 0)]],[.xarr e 1 ((d++xs).map ic)]⟩ =
  EvX C fr (.x 0) ⟨[(0,.own 0),(1,I (k+xs.length)),(5,I (d.length+xs.length)),(9,Bo false)],[[(0,.own 0)]],[.xarr e 1 ((d++mkI xs k).map ic)]⟩:=by
 intro xs
 induction xs with
 | nil =>
  intro d k h1 h2 h3
  rw [EvL_eq Zkm.eq_1]
  simp [mkI,mkL]
 | cons x xs ih =>
  intro d k h1 h2 h3
  simp only [List.length_cons] at h2 h3
  have ih':=ih (d++[k]) (k+1) (by omega) (by omega) (by simp;omega)
  rw [EvL_eq Zkm.eq_1]
  have g1:IntKind.wrap .i64 ((d.length:Int)+1)=(d.length:Int)+1:=wrap64 (by omega) (by omega)
  have g2:IntKind.wrap .i64 (k+1)=k+1:=wrap64 (by omega) (by omega)
  have g3:(d.length:Int)<(d.length:Int)+((xs.length:Int)+1):=by omega
  have g4:k+1+(xs.length:Int)=k+((xs.length:Int)+1):=by omega
  have g5:(d.length:Int)+1+(xs.length:Int)=(d.length:Int)+((xs.length:Int)+1):=by omega
  simp [g4,g5] at ih'
  simp [g1,g2,g3,ih',Z9y]
theorem Znv (e:Nat) (xs:List Int) (k:Int) (h1:0≤k) (h2:k+(xs.length:Int)≤4611686018427387904) (h3:SmA xs):C Zkx [.own 0,I k] [.xarr e 1 (xs.map ic)]=some (I (k+xs.length),[.xarr e 1 ((mkI xs k).map ic)]):=by
 refine runM Zxk rfl ?_
 have h4:=fun fr=>Zbpf e fr xs [] k h1 h2 (by have:xs.length≤4294967296:=h3;simp;omega)
 simp at h4
 simp [Zqx,h4]
theorem Zbpg (n:Nat) (k:Int):C Zkx [.t (.lst n []),I k] []=some (I k,[]):=by
 refine run Zxk rfl ?_
 simp [Zqx,EvL_eq Zkm.eq_1]
theorem Zbph (k:Int):C Zkx [.t .nil,I k] []=some (I k,[]):=by
 refine run Zxk rfl ?_
 simp [Zqx,EvL_eq Zkm.eq_1]
theorem Zbpi (fr:List Fr):∀ (xs d:List Int) (k:Int),0≤k→k+(xs.length:Int)≤4611686018427387904→d.length+xs.length≤4294967296→EvL C fr [0,1,5] Znn ⟨[(0,L 1 ((d++mkI xs k).map ic)),(1,I k),(5,I d.length)],[[]],[]⟩ =
  EvX C fr (.x 0) ⟨[(0,L 1 ((d++mkI xs k).map ic)),(1,I (k+xs.length)),(5,I (d.length+xs.length)),(9,Bo false)],[[]],[]⟩:=by
 intro xs
 induction xs with
 | nil =>
  intro d k h1 h2 h3
  rw [EvL_eq Znn.eq_1]
  simp [mkI,mkL]
 | cons x xs ih =>
  intro d k h1 h2 h3
  simp only [List.length_cons] at h2 h3
  have ih':=ih (d++[k]) (k+1) (by omega) (by omega) (by simp;omega)
  rw [EvL_eq Znn.eq_1]
  have g1:IntKind.wrap .i64 ((d.length:Int)+1)=(d.length:Int)+1:=wrap64 (by omega) (by omega)
  have g2:IntKind.wrap .i64 (k+1)=k+1:=wrap64 (by omega) (by omega)
  have g3:(d.length:Int)<(d.length:Int)+(((mkI xs (k+1)).length:Int)+1):=by omega
  have g4:k+1+(xs.length:Int)=k+((xs.length:Int)+1):=by omega
  have g5:(d.length:Int)+1+(xs.length:Int)=(d.length:Int)+((xs.length:Int)+1):=by omega
  simp [g4,g5] at ih'
  simp [g1,g2,g3,ih',Z9y]
theorem strB_one (x:Int):(strB [x]).size=1:=by simp [strB];rfl
theorem Zbpj (fr:List Fr):∀ (n:Nat) (k:Int) (out:ByteArray),k.toNat≤n→(out.size:Int)+k≤4611686018427387904→0≤k→∃ s,s.size≤out.size+n∧EvL C fr [0,3] Znp ⟨[(0,I k),(3,.t (.str out))],[[]],[]⟩=EvX C fr (.x 0) ⟨[(0,I 0),(3,.t (.str s)),(7,Bo false)],[[]],[]⟩:=by
 intro n
 induction n with
 | zero =>
  intro k out h1 h2 h3
  have:k=0:=by omega
  subst this
  rw [EvL_eq Znp.eq_1]
  exact ⟨out,by simp⟩
 | succ n ih =>
  intro k out h1 h2 h3
  by_cases h0:k=0
  ·subst h0
   rw [EvL_eq Znp.eq_1]
   exact ⟨out,by simp⟩
  have hk:0<k:=by omega
  have e:k.tdiv 10=k / 10:=Int.tdiv_eq_ediv_of_nonneg h3
  have e2:IntKind.wrap .i64 (k / 10)=k / 10:=wrap64 (by omega) (by omega)
  generalize hx:IntKind.wrap .u8 (IntKind.wrap .i64 (48+k.tmod 10))=x
  have s1:=strB_one x
  have c:1+out.size≤9223372036854775807:=by omega
  obtain ⟨s,hs,hr⟩:=ih (k / 10) (strB [x]++out) (by omega) (by rw [ByteArray.size_append,s1];omega) (by omega)
  rw [ByteArray.size_append,s1] at hs
  refine ⟨s,by omega,?_⟩
  rw [EvL_eq Znp.eq_1]
  simp [hk,hx,s1,c,e,e2,hr]
theorem Zbpk (k:Int) (h1:0≤k) (h2:k≤4000000000000000000):∃ s,C Zrv [I k] []=some (.t (.str s),[]):=by
 by_cases h0:k=0
 ·subst h0
  refine ⟨⟨#[109,48]⟩,run Z9f rfl ?_⟩
  simp [Zxs]
 ·have h3:¬ k≤0:=by omega
  obtain ⟨s,hs,hr⟩:=Zbpj [.blk 0,.seq (.seq (.reg [⟨some 18,none,.mov (.s 3)⟩,⟨some 19,none,.bin .add (.c (.t (.str ⟨#[109]⟩))) (.s 18)⟩,⟨some 2,none,.mov (.s 19)⟩] [2]) .ret),.fin 0 [.tmp 2]] k.toNat k ⟨#[]⟩ (Nat.le_refl _) (by simp [ByteArray.size];omega) h1
  have c:(⟨#[109]⟩:ByteArray).size+s.size≤9223372036854775807:=by
   have:(⟨#[]⟩:ByteArray).size=0:=rfl
   have:(⟨#[109]⟩:ByteArray).size=1:=rfl
   omega
  refine ⟨⟨#[109]⟩++s,run Z9f rfl ?_⟩
  simp at hr
  simp [Zxs,h3,hr,c]
noncomputable def mtext (k:Int):ByteArray:=match C Zrv [I k] [] with
 | some (.t (.str s),[])=>s
 | _=>⟨#[]⟩
theorem Zbpl (k:Int) (h1:0≤k) (h2:k≤4000000000000000000):C Zrv [I k] []=some (.t (.str (mtext k)),[]):=by
 obtain ⟨s,h⟩:=Zbpk k h1 h2
 have:mtext k=s:=by unfold mtext;rw [h]
 rw [this,h]
theorem Zbpm (xs:List Int) (k:Int) (h1:0≤k) (h2:k+(xs.length:Int)≤4000000000000000000) (h3:SmA xs):C Zyf [L 1 ((mkI xs k).map ic),I k] []=some (I (k+xs.length),[]):=by
 refine run Z8j rfl ?_
 have h4:=fun fr=>Zbpi fr xs [] k h1 (by omega) (by have:xs.length≤4294967296:=h3;simp;omega)
 simp at h4
 simp [Zxl,h4]
theorem Zbpn (k:Int):C Zyf [.t .nil,I k] []=some (I k,[]):=by
 refine run Z8j rfl ?_
 simp [Zxl,EvL_eq Znn.eq_1]
theorem Z9z (xs:List Int) (k:Int) (h1:0≤k) (h2:k+(xs.length:Int)≤4000000000000000000) (h3:SmA xs):(xs.map ic=[]∧(mkI xs (k)).map ic=[]∧C Zkx [.t (.lst 1 []),I k] []=some (I (k+(xs.length:Int)),[]))∨∃ y ys,xs.map ic=y::ys∧True∧C Zkx [.own 0,I k] [.xarr unk 1 (y::ys)]=some (I (k+(xs.length:Int)),[.xarr unk 1 ((mkI xs (k)).map ic)]):=by
 have c:=Znv unk xs k h1 (by omega) h3
 cases xs with
 | nil=>exact .inl ⟨rfl,rfl,by have:=Zbpg 1 k;simpa [mkI,mkL] using this⟩
 | cons y ys=>exact .inr ⟨_,_,rfl,trivial,c⟩
def Znw (a:List Int) (k:Int):List Int:=mkI a k
def Zez (a:List Int):Nat:=a.length
def Zko (xs:List (List Int)) (k:Int):List (List Int):=mkL Znw Zez xs k
def Zcz (xs:List (List Int)):Nat:=cnL Zez xs
theorem Zbpo (x:List Int) (xs:List (List Int)) (k:Int):Zko (x::xs) k=Znw x k::Zko xs (k+(Zez x:Int)):=rfl
theorem Zbpp (e:Nat) (fr:List Fr):∀ (xs d:List (List Int)) (k:Int),0≤k→k+(Zcz xs:Int)≤4000000000000000000→d.length+xs.length≤4294967296→(∀ x∈xs,SmA x)→EvL C fr [0,1,5] Zq7 ⟨[(0,.own 0),(1,I k),(5,I d.length)],[[(0,.own 0)]],[.xarr e 1 ((d++xs).map isc)]⟩ =
  EvX C fr (.x 0) ⟨[(0,.own 0),(1,I (k+Zcz xs)),(5,I (d.length+xs.length)),(9,Bo false)],[[(0,.own 0)]],[.xarr e 1 ((d++Zko xs k).map isc)]⟩:=by
 intro xs
 induction xs with
 | nil =>
  intro d k h1 h2 h3 h4
  rw [EvL_eq Zq7.eq_1]
  simp [Zko,Zcz,cnL,mkL]
 | cons x xs ih =>
  intro d k h1 h2 h3 h4
  have hx:=h4 x (by simp)
  have e0:Zcz (x::xs)=Zez x+Zcz xs:=rfl
  rw [e0] at h2
  simp only [List.length_cons] at h3
  have e1:Zez x=x.length:=rfl
  have eK:k+(Zez x:Int)=k+(x.length:Int):=by omega
  have eL:k+(Zcz (x::xs):Int)=k+(x.length:Int)+(Zcz xs:Int):=by omega
  have ih':=ih (d++[Znw x k]) (k+(x.length:Int)) (by omega) (by omega) (by simp;omega) (fun y hy=>h4 y (by simp [hy]))
  rw [EvL_eq Zq7.eq_1,eL,Zbpo,eK]
  have g1:IntKind.wrap .i64 ((d.length:Int)+1)=(d.length:Int)+1:=wrap64 (by omega) (by omega)
  have g3:(d.length:Int)<(d.length:Int)+((xs.length:Int)+1):=by omega
  have g5:(d.length:Int)+1+(xs.length:Int)=(d.length:Int)+((xs.length:Int)+1):=by omega
  have m0:=Z9z x (k) (by omega) (by omega) hx
  rcases m0 with ⟨r0,s0,m0⟩ | ⟨y0,ys0,r0,s0,m0⟩
  all_goals (simp [g5,Znw,tI,r0,s0] at ih';simp [g1,g3,m0,r0,s0,ih',Znw,tI])
theorem Zbpq (e:Nat) (xs:List (List Int)) (k:Int) (h1:0≤k) (h2:k+(Zcz xs:Int)≤4000000000000000000) (h3:SmL SmA xs):C Zbbd [.own 0,I k] [.xarr e 1 (xs.map isc)]=some (I (k+Zcz xs),[.xarr e 1 ((Zko xs k).map isc)]):=by
 refine runM Zbm7 rfl ?_
 have h4:=fun fr=>Zbpp e fr xs [] k h1 h2 (by have:xs.length≤4294967296:=h3.1;simp;omega) h3.2
 simp at h4
 simp [Z85,h4]
noncomputable def Znx (a:Atom) (k:Int):Atom:=⟨mtext (k),mkI a.Vars (k+1)⟩
def Ze0 (a:Atom):Nat:=1+a.Vars.length
noncomputable def Zkp (xs:List Atom) (k:Int):List Atom:=mkL Znx Ze0 xs k
def Zcu (xs:List Atom):Nat:=cnL Ze0 xs
theorem Zbpr (x:Atom) (xs:List Atom) (k:Int):Zkp (x::xs) k=Znx x k::Zkp xs (k+(Ze0 x:Int)):=rfl
theorem Zbps (e:Nat) (fr:List Fr):∀ (xs d:List Atom) (k:Int),0≤k→k+(Zcu xs:Int)≤4000000000000000000→d.length+xs.length≤4294967296→(∀ x∈xs,x.small)→EvL C fr [0,1,5] Zq5 ⟨[(0,.own 0),(1,I k),(5,I d.length)],[[(0,.own 0)]],[.xarr e 2 ((d++xs).map Atom.c)]⟩ =
  EvX C fr (.x 0) ⟨[(0,.own 0),(1,I (k+Zcu xs)),(5,I (d.length+xs.length)),(9,Bo false)],[[(0,.own 0)]],[.xarr e 2 ((d++Zkp xs k).map Atom.c)]⟩:=by
 intro xs
 induction xs with
 | nil =>
  intro d k h1 h2 h3 h4
  rw [EvL_eq Zq5.eq_1]
  simp [Zkp,Zcu,cnL,mkL]
 | cons x xs ih =>
  intro d k h1 h2 h3 h4
  have hx:=h4 x (by simp)
  have e0:Zcu (x::xs)=Ze0 x+Zcu xs:=rfl
  rw [e0] at h2
  simp only [List.length_cons] at h3
  rcases x with ⟨x0,x1⟩
  have e1:Ze0 ⟨x0,x1⟩=1+x1.length:=rfl
  have eK:k+(Ze0 ⟨x0,x1⟩:Int)=k+1+(x1.length:Int):=by omega
  have eL:k+(Zcu (⟨x0,x1⟩::xs):Int)=k+1+(x1.length:Int)+(Zcu xs:Int):=by omega
  have ih':=ih (d++[Znx ⟨x0,x1⟩ k]) (k+1+(x1.length:Int)) (by omega) (by omega) (by simp;omega) (fun y hy=>h4 y (by simp [hy]))
  rw [EvL_eq Zq5.eq_1,eL,Zbpr,eK]
  have g1:IntKind.wrap .i64 ((d.length:Int)+1)=(d.length:Int)+1:=wrap64 (by omega) (by omega)
  have g3:(d.length:Int)<(d.length:Int)+((xs.length:Int)+1):=by omega
  have g5:(d.length:Int)+1+(xs.length:Int)=(d.length:Int)+((xs.length:Int)+1):=by omega
  have w0:IntKind.wrap .i64 (k+1)=k+1:=wrap64 (by omega) (by omega)
  have t0:=Zbpl (k) (by omega) (by omega)
  have m0:=Z9z x1 (k+1) (by omega) (by omega) (by first | exact hx | exact hx.1 | exact hx.2 | exact hx.2.1 | exact hx.2.2 | exact hx.2.2.1 | exact hx.2.2.2 | exact hx.2.2.2.1 | exact hx.2.2.2.2 | exact hx.2.2.2.2.1 | exact hx.2.2.2.2.2)
  rcases m0 with ⟨r0,s0,m0⟩ | ⟨y0,ys0,r0,s0,m0⟩
  all_goals (simp [g5,Znx,tI,r0,s0] at ih';simp [g1,g3,w0,t0,m0,r0,s0,ih',Znx,tI])
theorem Zbpt (e:Nat) (xs:List Atom) (k:Int) (h1:0≤k) (h2:k+(Zcu xs:Int)≤4000000000000000000) (h3:SmL Atom.small xs):C Zbbb [.own 0,I k] [.xarr e 2 (xs.map Atom.c)]=some (I (k+Zcu xs),[.xarr e 2 ((Zkp xs k).map Atom.c)]):=by
 refine runM Zbm5 rfl ?_
 have h4:=fun fr=>Zbps e fr xs [] k h1 h2 (by have:xs.length≤4294967296:=h3.1;simp;omega) h3.2
 simp at h4
 simp [Z83,h4]
noncomputable def Zny (a:Zf) (k:Int):Zf:=⟨k,k+1⟩
def Zkq (a:Zf):Nat:=1+1
noncomputable def Zeh (xs:List Zf) (k:Int):List Zf:=mkL Zny Zkq xs k
def Zp (xs:List Zf):Nat:=cnL Zkq xs
theorem Zbpu (x:Zf) (xs:List Zf) (k:Int):Zeh (x::xs) k=Zny x k::Zeh xs (k+(Zkq x:Int)):=rfl
theorem Zbpv (e:Nat) (fr:List Fr):∀ (xs d:List Zf) (k:Int),0≤k→k+(Zp xs:Int)≤4000000000000000000→d.length+xs.length≤4294967296→(∀ x∈xs,x.small)→EvL C fr [0,1,5] Zrc ⟨[(0,.own 0),(1,I k),(5,I d.length)],[[(0,.own 0)]],[.xarr e 2 ((d++xs).map Zf.c)]⟩ =
  EvX C fr (.x 0) ⟨[(0,.own 0),(1,I (k+Zp xs)),(5,I (d.length+xs.length)),(9,Bo false)],[[(0,.own 0)]],[.xarr e 2 ((d++Zeh xs k).map Zf.c)]⟩:=by
 intro xs
 induction xs with
 | nil =>
  intro d k h1 h2 h3 h4
  rw [EvL_eq Zrc.eq_1]
  simp [Zeh,Zp,cnL,mkL]
 | cons x xs ih =>
  intro d k h1 h2 h3 h4
  have hx:=h4 x (by simp)
  have e0:Zp (x::xs)=Zkq x+Zp xs:=rfl
  rw [e0] at h2
  simp only [List.length_cons] at h3
  rcases x with ⟨x0,x1⟩
  have e1:Zkq ⟨x0,x1⟩=1+1:=rfl
  have eK:k+(Zkq ⟨x0,x1⟩:Int)=k+1+1:=by omega
  have eL:k+(Zp (⟨x0,x1⟩::xs):Int)=k+1+1+(Zp xs:Int):=by omega
  have ih':=ih (d++[Zny ⟨x0,x1⟩ k]) (k+1+1) (by omega) (by omega) (by simp;omega) (fun y hy=>h4 y (by simp [hy]))
  rw [EvL_eq Zrc.eq_1,eL,Zbpu,eK]
  have g1:IntKind.wrap .i64 ((d.length:Int)+1)=(d.length:Int)+1:=wrap64 (by omega) (by omega)
  have g3:(d.length:Int)<(d.length:Int)+((xs.length:Int)+1):=by omega
  have g5:(d.length:Int)+1+(xs.length:Int)=(d.length:Int)+((xs.length:Int)+1):=by omega
  have w0:IntKind.wrap .i64 (k+1)=k+1:=wrap64 (by omega) (by omega)
  have w1:IntKind.wrap .i64 (k+1+1)=k+1+1:=wrap64 (by omega) (by omega)
  (simp [g5,Zny,tI] at ih';simp [g1,g3,w0,w1,ih',Zny,tI])
theorem Zbpw (e:Nat) (xs:List Zf) (k:Int) (h1:0≤k) (h2:k+(Zp xs:Int)≤4000000000000000000) (h3:SmA xs):C Zbbn [.own 0,I k] [.xarr e 2 (xs.map Zf.c)]=some (I (k+Zp xs),[.xarr e 2 ((Zeh xs k).map Zf.c)]):=by
 refine runM Zbnh rfl ?_
 have h4:=fun fr=>Zbpv e fr xs [] k h1 h2 (by have:xs.length≤4294967296:=h3;simp;omega) (fun _ _=>trivial)
 simp at h4
 simp [Z9e,h4]
noncomputable def Znz (a:Zb) (k:Int):Zb:=⟨k,k+1,k+1+1⟩
def Zkr (a:Zb):Nat:=1+1+1
noncomputable def Zfp (xs:List Zb) (k:Int):List Zb:=mkL Znz Zkr xs k
def Zbz (xs:List Zb):Nat:=cnL Zkr xs
theorem Zbpx (x:Zb) (xs:List Zb) (k:Int):Zfp (x::xs) k=Znz x k::Zfp xs (k+(Zkr x:Int)):=rfl
theorem Zbpy (e:Nat) (fr:List Fr):∀ (xs d:List Zb) (k:Int),0≤k→k+(Zbz xs:Int)≤4000000000000000000→d.length+xs.length≤4294967296→(∀ x∈xs,x.small)→EvL C fr [0,1,5] Zno ⟨[(0,.own 0),(1,I k),(5,I d.length)],[[(0,.own 0)]],[.xarr e 3 ((d++xs).map Zb.c)]⟩ =
  EvX C fr (.x 0) ⟨[(0,.own 0),(1,I (k+Zbz xs)),(5,I (d.length+xs.length)),(9,Bo false)],[[(0,.own 0)]],[.xarr e 3 ((d++Zfp xs k).map Zb.c)]⟩:=by
 intro xs
 induction xs with
 | nil =>
  intro d k h1 h2 h3 h4
  rw [EvL_eq Zno.eq_1]
  simp [Zfp,Zbz,cnL,mkL]
 | cons x xs ih =>
  intro d k h1 h2 h3 h4
  have hx:=h4 x (by simp)
  have e0:Zbz (x::xs)=Zkr x+Zbz xs:=rfl
  rw [e0] at h2
  simp only [List.length_cons] at h3
  rcases x with ⟨x0,x1,x2⟩
  have e1:Zkr ⟨x0,x1,x2⟩=1+1+1:=rfl
  have eK:k+(Zkr ⟨x0,x1,x2⟩:Int)=k+1+1+1:=by omega
  have eL:k+(Zbz (⟨x0,x1,x2⟩::xs):Int)=k+1+1+1+(Zbz xs:Int):=by omega
  have ih':=ih (d++[Znz ⟨x0,x1,x2⟩ k]) (k+1+1+1) (by omega) (by omega) (by simp;omega) (fun y hy=>h4 y (by simp [hy]))
  rw [EvL_eq Zno.eq_1,eL,Zbpx,eK]
  have g1:IntKind.wrap .i64 ((d.length:Int)+1)=(d.length:Int)+1:=wrap64 (by omega) (by omega)
  have g3:(d.length:Int)<(d.length:Int)+((xs.length:Int)+1):=by omega
  have g5:(d.length:Int)+1+(xs.length:Int)=(d.length:Int)+((xs.length:Int)+1):=by omega
  have w0:IntKind.wrap .i64 (k+1)=k+1:=wrap64 (by omega) (by omega)
  have w1:IntKind.wrap .i64 (k+1+1)=k+1+1:=wrap64 (by omega) (by omega)
  have w2:IntKind.wrap .i64 (k+1+1+1)=k+1+1+1:=wrap64 (by omega) (by omega)
  (simp [g5,Znz,tI] at ih';simp [g1,g3,w0,w1,w2,ih',Znz,tI])
theorem Zbpz (e:Nat) (xs:List Zb) (k:Int) (h1:0≤k) (h2:k+(Zbz xs:Int)≤4000000000000000000) (h3:SmA xs):C Zn7 [.own 0,I k] [.xarr e 3 (xs.map Zb.c)]=some (I (k+Zbz xs),[.xarr e 3 ((Zfp xs k).map Zb.c)]):=by
 refine runM Z86 rfl ?_
 have h4:=fun fr=>Zbpy e fr xs [] k h1 h2 (by have:xs.length≤4294967296:=h3;simp;omega) (fun _ _=>trivial)
 simp at h4
 simp [Zxq,h4]
theorem Zbp0 (n:Nat) (k:Int):C Zn7 [.t (.lst n []),I k] []=some (I k,[]):=by
 refine run Z86 rfl ?_
 simp [Zxq,EvL_eq Zno.eq_1]
theorem Zbp1 (xs:List Zb) (k:Int) (h1:0≤k) (h2:k+(Zbz xs:Int)≤4000000000000000000) (h3:SmA xs):(xs.map Zb.c=[]∧(Zfp xs (k)).map Zb.c=[]∧C Zn7 [.t (.lst 3 []),I k] []=some (I (k+(Zbz xs:Int)),[]))∨∃ y ys,xs.map Zb.c=y::ys∧True∧C Zn7 [.own 0,I k] [.xarr unk 3 (y::ys)]=some (I (k+(Zbz xs:Int)),[.xarr unk 3 ((Zfp xs (k)).map Zb.c)]):=by
 have c:=Zbpz unk xs k h1 h2 h3
 cases xs with
 | nil=>exact .inl ⟨rfl,rfl,by have:=Zbp0 3 k;simpa [Zfp,Zbz,cnL,mkL] using this⟩
 | cons y ys=>exact .inr ⟨_,_,rfl,trivial,c⟩
noncomputable def Zn0 (a:Plan) (k:Int):Plan:=⟨Zfp a.Steps (k)⟩
def Ze1 (a:Plan):Nat:=Zbz a.Steps
noncomputable def Zks (xs:List Plan) (k:Int):List Plan:=mkL Zn0 Ze1 xs k
def Zcn (xs:List Plan):Nat:=cnL Ze1 xs
theorem Zbp2 (x:Plan) (xs:List Plan) (k:Int):Zks (x::xs) k=Zn0 x k::Zks xs (k+(Ze1 x:Int)):=rfl
theorem Zbp3 (e:Nat) (fr:List Fr):∀ (xs d:List Plan) (k:Int),0≤k→k+(Zcn xs:Int)≤4000000000000000000→d.length+xs.length≤4294967296→(∀ x∈xs,x.small)→EvL C fr [0,1,5] Zq6 ⟨[(0,.own 0),(1,I k),(5,I d.length)],[[(0,.own 0)]],[.xarr e 1 ((d++xs).map Plan.c)]⟩ =
  EvX C fr (.x 0) ⟨[(0,.own 0),(1,I (k+Zcn xs)),(5,I (d.length+xs.length)),(9,Bo false)],[[(0,.own 0)]],[.xarr e 1 ((d++Zks xs k).map Plan.c)]⟩:=by
 intro xs
 induction xs with
 | nil =>
  intro d k h1 h2 h3 h4
  rw [EvL_eq Zq6.eq_1]
  simp [Zks,Zcn,cnL,mkL]
 | cons x xs ih =>
  intro d k h1 h2 h3 h4
  have hx:=h4 x (by simp)
  have e0:Zcn (x::xs)=Ze1 x+Zcn xs:=rfl
  rw [e0] at h2
  simp only [List.length_cons] at h3
  rcases x with ⟨x0⟩
  have e1:Ze1 ⟨x0⟩=Zbz x0:=rfl
  have eK:k+(Ze1 ⟨x0⟩:Int)=k+(Zbz x0:Int):=by omega
  have eL:k+(Zcn (⟨x0⟩::xs):Int)=k+(Zbz x0:Int)+(Zcn xs:Int):=by omega
  have ih':=ih (d++[Zn0 ⟨x0⟩ k]) (k+(Zbz x0:Int)) (by omega) (by omega) (by simp;omega) (fun y hy=>h4 y (by simp [hy]))
  rw [EvL_eq Zq6.eq_1,eL,Zbp2,eK]
  have g1:IntKind.wrap .i64 ((d.length:Int)+1)=(d.length:Int)+1:=wrap64 (by omega) (by omega)
  have g3:(d.length:Int)<(d.length:Int)+((xs.length:Int)+1):=by omega
  have g5:(d.length:Int)+1+(xs.length:Int)=(d.length:Int)+((xs.length:Int)+1):=by omega
  have m0:=Zbp1 x0 (k) (by omega) (by omega) (by first | exact hx | exact hx.1 | exact hx.2 | exact hx.2.1 | exact hx.2.2 | exact hx.2.2.1 | exact hx.2.2.2 | exact hx.2.2.2.1 | exact hx.2.2.2.2 | exact hx.2.2.2.2.1 | exact hx.2.2.2.2.2)
  rcases m0 with ⟨r0,s0,m0⟩ | ⟨y0,ys0,r0,s0,m0⟩
  all_goals (simp [g5,Zn0,tI,r0,s0] at ih';simp [g1,g3,m0,r0,s0,ih',Zn0,tI])
theorem Zbp4 (e:Nat) (xs:List Plan) (k:Int) (h1:0≤k) (h2:k+(Zcn xs:Int)≤4000000000000000000) (h3:SmL Plan.small xs):C Zbbc [.own 0,I k] [.xarr e 1 (xs.map Plan.c)]=some (I (k+Zcn xs),[.xarr e 1 ((Zks xs k).map Plan.c)]):=by
 refine runM Zbm6 rfl ?_
 have h4:=fun fr=>Zbp3 e fr xs [] k h1 h2 (by have:xs.length≤4294967296:=h3.1;simp;omega) h3.2
 simp at h4
 simp [Z84,h4]
theorem Zbp5 (e0 e1:Nat) (x0:List Int) (x1:List Int) (k:Int) (h1:0≤k) (h2:k+(x0.length:Int)+(x1.length:Int)≤4000000000000000000) (sx0:SmA x0) (sx1:SmA x1):C Zbav [.agg [.own 0,.own 1],I k] [.xarr e0 1 (x0.map ic),.xarr e1 1 (x1.map ic)]=some (I (k+(x0.length:Int)+(x1.length:Int)),[.xarr e0 1 ((mkI x0 (k)).map ic),.xarr e1 1 ((mkI x1 (k+(x0.length:Int))).map ic)]):=by
 refine runM Zbmp rfl ?_
 have m0:=Znv e0 x0 (k) (by omega) (by omega) sx0
 have m1:=Znv e1 x1 (k+(x0.length:Int)) (by omega) (by omega) sx1
 simp [Z8q,m0,m1]
theorem Zbp6 (e0 e1 e2 e3 e4:Nat) (x0:Int) (x1:Int) (x2:Int) (x3:List Int) (x4:List Int) (x5:List Int) (x6:List Plan) (x7:List (List Int)) (k:Int) (h1:0≤k) (h2:k+(x3.length:Int)+(x4.length:Int)+(x5.length:Int)+(Zcn x6:Int)+(Zcz x7:Int)≤4000000000000000000) (sx3:SmA x3) (sx4:SmA x4) (sx5:SmA x5) (sx6:SmL Plan.small x6) (sx7:SmL SmA x7):C Zbao [.agg [I x0,I x1,I x2,.own 0,.own 1,.own 2,.own 3,.own 4],I k] [.xarr e0 1 (x3.map ic),.xarr e1 1 (x4.map ic),.xarr e2 1 (x5.map ic),.xarr e3 1 (x6.map Plan.c),.xarr e4 1 (x7.map isc)]=some (I (k+(x3.length:Int)+(x4.length:Int)+(x5.length:Int)+(Zcn x6:Int)+(Zcz x7:Int)),[.xarr e0 1 ((mkI x3 (k)).map ic),.xarr e1 1 ((mkI x4 (k+(x3.length:Int))).map ic),.xarr e2 1 ((mkI x5 (k+(x3.length:Int)+(x4.length:Int))).map ic),.xarr e3 1 ((Zks x6 (k+(x3.length:Int)+(x4.length:Int)+(x5.length:Int))).map Plan.c),.xarr e4 1 ((Zko x7 (k+(x3.length:Int)+(x4.length:Int)+(x5.length:Int)+(Zcn x6:Int))).map isc)]):=by
 refine runM Zbmi rfl ?_
 have m0:=Zbp5 e0 e1 x3 x4 (k) (by omega) (by omega) sx3 sx4
 have m1:=Znv e2 x5 (k+(x3.length:Int)+(x4.length:Int)) (by omega) (by omega) sx5
 have m2:=Zbp4 e3 x6 (k+(x3.length:Int)+(x4.length:Int)+(x5.length:Int)) (by omega) (by omega) sx6
 have m3:=Zbpq e4 x7 (k+(x3.length:Int)+(x4.length:Int)+(x5.length:Int)+(Zcn x6:Int)) (by omega) (by omega) sx7
 simp [Z8i,m0,m1,m2,m3]
theorem Zn1 (e0:Nat) (x0:Int) (x1:Int) (x2:Int) (x3:Int) (x4:Int) (x5:List Zf) (k:Int) (h1:0≤k) (h2:k+(Zp x5:Int)≤4000000000000000000) (sx5:SmA x5):C Zbba [.agg [I x0,I x1,I x2,I x3,I x4,.own 0],I k] [.xarr e0 2 (x5.map Zf.c)]=some (I (k+(Zp x5:Int)),[.xarr e0 2 ((Zeh x5 (k)).map Zf.c)]):=by
 refine runM Zbm4 rfl ?_
 have m0:=Zbpw e0 x5 (k) (by omega) (by omega) sx5
 simp [Z82,m0]
theorem Zbp7 (e0 e1 e2 e3 e4:Nat) (x0:Int) (x1:Int) (x2:Int) (x3:Int) (x4:Int) (x5:List Zf) (x6:Int) (x7:Int) (x8:Int) (x9:Int) (x10:Int) (x11:List Zf) (x12:Int) (x13:Int) (x14:Int) (x15:Int) (x16:Int) (x17:List Zf) (x18:Int) (x19:Int) (x20:Int) (x21:Int) (x22:Int) (x23:List Zf) (x24:Int) (x25:Int) (x26:Int) (x27:Int) (x28:Int) (x29:List Zf) (k:Int) (h1:0≤k) (h2:k+(Zp x5:Int)+(Zp x11:Int)+(Zp x17:Int)+(Zp x23:Int)+(Zp x29:Int)≤4000000000000000000) (sx5:SmA x5) (sx11:SmA x11) (sx17:SmA x17) (sx23:SmA x23) (sx29:SmA x29):C Zbam [.agg [I x0,I x1,I x2,I x3,I x4,.own 0,I x6,I x7,I x8,I x9,I x10,.own 1,I x12,I x13,I x14,I x15,I x16,.own 2,I x18,I x19,I x20,I x21,I x22,.own 3,I x24,I x25,I x26,I x27,I x28,.own 4],I k] [.xarr e0 2 (x5.map Zf.c),.xarr e1 2 (x11.map Zf.c),.xarr e2 2 (x17.map Zf.c),.xarr e3 2 (x23.map Zf.c),.xarr e4 2 (x29.map Zf.c)]=some (I (k+(Zp x5:Int)+(Zp x11:Int)+(Zp x17:Int)+(Zp x23:Int)+(Zp x29:Int)),[.xarr e0 2 ((Zeh x5 (k)).map Zf.c),.xarr e1 2 ((Zeh x11 (k+(Zp x5:Int))).map Zf.c),.xarr e2 2 ((Zeh x17 (k+(Zp x5:Int)+(Zp x11:Int))).map Zf.c),.xarr e3 2 ((Zeh x23 (k+(Zp x5:Int)+(Zp x11:Int)+(Zp x17:Int))).map Zf.c),.xarr e4 2 ((Zeh x29 (k+(Zp x5:Int)+(Zp x11:Int)+(Zp x17:Int)+(Zp x23:Int))).map Zf.c)]):=by
 refine runM Zbmg rfl ?_
 have m0:=Zn1 e0 x0 x1 x2 x3 x4 x5 (k) (by omega) (by omega) sx5
 have m1:=Zn1 e1 x6 x7 x8 x9 x10 x11 (k+(Zp x5:Int)) (by omega) (by omega) sx11
 have m2:=Zn1 e2 x12 x13 x14 x15 x16 x17 (k+(Zp x5:Int)+(Zp x11:Int)) (by omega) (by omega) sx17
 have m3:=Zn1 e3 x18 x19 x20 x21 x22 x23 (k+(Zp x5:Int)+(Zp x11:Int)+(Zp x17:Int)) (by omega) (by omega) sx23
 have m4:=Zn1 e4 x24 x25 x26 x27 x28 x29 (k+(Zp x5:Int)+(Zp x11:Int)+(Zp x17:Int)+(Zp x23:Int)) (by omega) (by omega) sx29
 simp [Z8g,m0,m1,m2,m3,m4]
theorem Zbp8 (e0:Nat) (x0:Int) (x1:List Atom) (k:Int) (h1:0≤k) (h2:k+(Zcu x1:Int)≤4000000000000000000) (sx1:SmL Atom.small x1):C Zban [.agg [I x0,.own 0],I k] [.xarr e0 2 (x1.map Atom.c)]=some (I (k+(Zcu x1:Int)),[.xarr e0 2 ((Zkp x1 (k)).map Atom.c)]):=by
 refine runM Zbmh rfl ?_
 have m0:=Zbpt e0 x1 (k) (by omega) (by omega) sx1
 simp [Z8h,m0]
theorem Zei {n:Nat} {left:Int} (hn:n≤maxLen) (h0:0≤left) (h1:left≤1048576) (h:0≤sz1 n left):sz1 n left≤left∧(n:Int)≤left - sz1 n left:=by
 unfold maxLen at hn
 have hw:IntKind.wrap .i64 (left - n)=left - n:=wrap64 (by omega) (by omega)
 unfold sz1 at h ⊢
 rw [hw] at h ⊢
 split at h
 ·omega
 ·rename_i hx;rw [if_neg hx];omega
theorem Z90 {α:Type} {f:α→Int→Int} {n:α→Nat} {M:Int}:∀ (xs:List α) (left:Int),(∀ x∈xs,∀ l,0≤l→l≤M→0≤f x l→f x l≤l∧(n x:Int)≤16+16*(l - f x l))→0≤left→left≤M→0≤szFold f xs left→szFold f xs left≤left∧(cnL n xs:Int)≤16*(xs.length:Int)+16*(left - szFold f xs left)
 | [],left,_,_,_,h=>by simp [szFold,cnL]
 | x::xs,left,hf,h0,h1,h=>by
  unfold szFold at h ⊢
  split at h
  ·omega
  ·rename_i hx
   rw [if_neg hx]
   obtain ⟨h2,h3⟩:=hf x (by simp) left h0 h1 (by omega)
   obtain ⟨h4,h5⟩:=Z90 xs (f x left) (fun y hy=>hf y (by simp [hy])) (by omega) (by omega) h
   have e:cnL n (x::xs)=n x+cnL n xs:=rfl
   rw [e,List.length_cons]
   omega
theorem szL_ct {α:Type} {f:α→Int→Int} {n:α→Nat} {xs:List α} {left:Int} (hn:xs.length≤maxLen) (hf:∀ x∈xs,∀ l,0≤l→l≤1048576→0≤f x l→f x l≤l∧(n x:Int)≤16+16*(l - f x l)) (h0:0≤left) (h1:left≤1048576) (h:0≤szL f xs left) :
  szL f xs left≤left∧(cnL n xs:Int)≤16*(left - szL f xs left):=by
 unfold szL andSz at h ⊢
 split at h
 ·omega
 ·rename_i hx
  rw [if_neg hx]
  have a:=Zei hn h0 h1 (by omega)
  have b:=Z90 xs _ hf (by omega) (by omega) h
  omega
theorem Zxw {α:Type} {n:α→Nat} {c:Nat} (h:∀ x,n x=c):∀ xs:List α,cnL n xs=c*xs.length
 | []=>rfl
 | x::xs=>by
  have e:cnL n (x::xs)=n x+cnL n xs:=rfl
  rw [e,h,Zxw h xs,List.length_cons,Nat.mul_succ,Nat.add_comm]
theorem Zbp9 (x:List Int) (l:Int) (hx:x.length≤maxLen) (h0:0≤l) (h1:l≤1048576) (h:0≤szI x l):szI x l≤l∧(Zez x:Int)≤16+16*(l - szI x l):=by
 have a:=Zei hx h0 h1 h
 unfold Zez
 have e:szI x l=sz1 x.length l:=rfl
 rw [e]
 omega
def Zxx (x:Atom):Nat:=x.Vars.length
theorem Atom.ct (x:Atom) (l:Int) (hx:x.okay) (h0:0≤l) (h1:l≤1048576) (h:0≤x.sz l):x.sz l≤l∧(Zxx x:Int)≤16*(l - x.sz l):=by
 unfold Atom.sz at h ⊢
 simp only [andSz] at h ⊢
 split at h
 ·omega
 rename_i q0
 rw [if_neg q0]
 have s0:=Zei hx.1 h0 h1 (Int.not_lt.1 q0)
 split at h
 ·omega
 rename_i q1
 rw [if_neg q1]
 have s1:=Zei hx.2.1 (by omega) (by omega) (Int.not_lt.1 q1)
 refine ⟨by omega,?_⟩
 unfold Zxx
 omega
theorem Zbqa (x:Atom) (l:Int) (hx:x.okay) (h0:0≤l) (h1:l≤1048576) (h:0≤x.sz l):x.sz l≤l∧(Ze0 x:Int)≤16+16*(l - x.sz l):=by
 have a:=Atom.ct x l hx h0 h1 h
 unfold Zxx at a
 unfold Ze0
 omega
def Zxy (x:Zc):Nat:=Zcu x.Atoms
theorem Zc.ct (x:Zc) (l:Int) (hx:x.okay) (h0:0≤l) (h1:l≤1048576) (h:0≤x.sz l):x.sz l≤l∧(Zxy x:Int)≤16*(l - x.sz l):=by
 unfold Zc.sz at h ⊢
 simp only [andSz] at h ⊢
 split at h
 ·omega
 rename_i q0
 rw [if_neg q0]
 have s0:=szL_ct (n:=Ze0) hx.2.1 (fun y hy l a b c=>Zbqa y l (hx.2.2 y hy) a b c) h0 h1 (Int.not_lt.1 q0)
 refine ⟨by omega,?_⟩
 unfold Zxy
 have v0:Zcu x.Atoms=cnL Ze0 x.Atoms:=rfl
 omega
def nt_Box (x:Box):Nat:=x.Low.length+x.High.length
theorem Box.ct (x:Box) (l:Int) (hx:x.okay) (h0:0≤l) (h1:l≤1048576) (h:0≤x.sz l):x.sz l≤l∧(nt_Box x:Int)≤16*(l - x.sz l):=by
 unfold Box.sz at h ⊢
 simp only [andSz] at h ⊢
 split at h
 ·omega
 rename_i q0
 rw [if_neg q0]
 have s0:=Zei hx.1.1 h0 h1 (Int.not_lt.1 q0)
 split at h
 ·omega
 rename_i q1
 rw [if_neg q1]
 have s1:=Zei hx.2.1 (by omega) (by omega) (Int.not_lt.1 q1)
 refine ⟨by omega,?_⟩
 unfold nt_Box
 omega
theorem Zkt (xs:List Zf):Zp xs=2*xs.length:=Zxw (fun _=>rfl) xs
def Zie (x:Zi):Nat:=Zp x.Steps
theorem Zi.ct (x:Zi) (l:Int) (hx:x.okay) (h0:0≤l) (h1:l≤1048576) (h:0≤x.sz l):x.sz l≤l∧(Zie x:Int)≤16*(l - x.sz l):=by
 unfold Zi.sz at h ⊢
 simp only [andSz] at h ⊢
 split at h
 ·omega
 rename_i q0
 rw [if_neg q0]
 have s0:=Zei hx.2.2.2.2.2.1 h0 h1 (Int.not_lt.1 q0)
 refine ⟨by omega,?_⟩
 unfold Zie
 have v0:=Zkt x.Steps
 omega
def Zxz (x:Zd):Nat:=Zp x.Scan.Steps+Zp x.Sort_.Steps+Zp x.Hash.Steps+Zp x.Merge.Steps+Zp x.Nested.Steps
theorem Zd.ct (x:Zd) (l:Int) (hx:x.okay) (h0:0≤l) (h1:l≤1048576) (h:0≤x.sz l):x.sz l≤l∧(Zxz x:Int)≤16*(l - x.sz l):=by
 unfold Zd.sz at h ⊢
 simp only [andSz] at h ⊢
 split at h
 ·omega
 rename_i q0
 rw [if_neg q0]
 have s0:=Zi.ct x.Scan _ ⟨hx.1,hx.2.1,hx.2.2.1,hx.2.2.2.1,hx.2.2.2.2.1,hx.2.2.2.2.2.1⟩ h0 h1 (Int.not_lt.1 q0)
 split at h
 ·omega
 rename_i q1
 rw [if_neg q1]
 have s1:=Zi.ct x.Sort_ _ ⟨hx.2.2.2.2.2.2.1,hx.2.2.2.2.2.2.2.1,hx.2.2.2.2.2.2.2.2.1,hx.2.2.2.2.2.2.2.2.2.1,hx.2.2.2.2.2.2.2.2.2.2.1,hx.2.2.2.2.2.2.2.2.2.2.2.1⟩ (by omega) (by omega) (Int.not_lt.1 q1)
 split at h
 ·omega
 rename_i q2
 rw [if_neg q2]
 have s2:=Zi.ct x.Hash _ ⟨hx.2.2.2.2.2.2.2.2.2.2.2.2.1,hx.2.2.2.2.2.2.2.2.2.2.2.2.2.1,hx.2.2.2.2.2.2.2.2.2.2.2.2.2.2.1,hx.2.2.2.2.2.2.2.2.2.2.2.2.2.2.2.1,hx.2.2.2.2.2.2.2.2.2.2.2.2.2.2.2.2.1,hx.2.2.2.2.2.2.2.2.2.2.2.2.2.2.2.2.2.1⟩ (by omega) (by omega) (Int.not_lt.1 q2)
 split at h
 ·omega
 rename_i q3
 rw [if_neg q3]
 have s3:=Zi.ct x.Merge _ ⟨hx.2.2.2.2.2.2.2.2.2.2.2.2.2.2.2.2.2.2.1,hx.2.2.2.2.2.2.2.2.2.2.2.2.2.2.2.2.2.2.2.1,hx.2.2.2.2.2.2.2.2.2.2.2.2.2.2.2.2.2.2.2.2.1,hx.2.2.2.2.2.2.2.2.2.2.2.2.2.2.2.2.2.2.2.2.2.1,hx.2.2.2.2.2.2.2.2.2.2.2.2.2.2.2.2.2.2.2.2.2.2.1,hx.2.2.2.2.2.2.2.2.2.2.2.2.2.2.2.2.2.2.2.2.2.2.2.1⟩ (by omega) (by omega) (Int.not_lt.1 q3)
 split at h
 ·omega
 rename_i q4
 rw [if_neg q4]
 have s4:=Zi.ct x.Nested _ ⟨hx.2.2.2.2.2.2.2.2.2.2.2.2.2.2.2.2.2.2.2.2.2.2.2.2.1,hx.2.2.2.2.2.2.2.2.2.2.2.2.2.2.2.2.2.2.2.2.2.2.2.2.2.1,hx.2.2.2.2.2.2.2.2.2.2.2.2.2.2.2.2.2.2.2.2.2.2.2.2.2.2.1,hx.2.2.2.2.2.2.2.2.2.2.2.2.2.2.2.2.2.2.2.2.2.2.2.2.2.2.2.1,hx.2.2.2.2.2.2.2.2.2.2.2.2.2.2.2.2.2.2.2.2.2.2.2.2.2.2.2.2.1,hx.2.2.2.2.2.2.2.2.2.2.2.2.2.2.2.2.2.2.2.2.2.2.2.2.2.2.2.2.2⟩ (by omega) (by omega) (Int.not_lt.1 q4)
 refine ⟨by omega,?_⟩
 unfold Zxz
 have v0:Zie x.Scan=Zp x.Scan.Steps:=rfl
 have v1:Zie x.Sort_=Zp x.Sort_.Steps:=rfl
 have v2:Zie x.Hash=Zp x.Hash.Steps:=rfl
 have v3:Zie x.Merge=Zp x.Merge.Steps:=rfl
 have v4:Zie x.Nested=Zp x.Nested.Steps:=rfl
 have v5:=Zkt x.Scan.Steps
 have v6:=Zkt x.Sort_.Steps
 have v7:=Zkt x.Hash.Steps
 have v8:=Zkt x.Merge.Steps
 have v9:=Zkt x.Nested.Steps
 omega
theorem Zbqb (xs:List Zb):Zbz xs=3*xs.length:=Zxw (fun _=>rfl) xs
def Zx0 (x:Plan):Nat:=Zbz x.Steps
theorem Plan.ct (x:Plan) (l:Int) (hx:x.okay) (h0:0≤l) (h1:l≤1048576) (h:0≤x.sz l):x.sz l≤l∧(Zx0 x:Int)≤16*(l - x.sz l):=by
 unfold Plan.sz at h ⊢
 simp only [andSz] at h ⊢
 split at h
 ·omega
 rename_i q0
 rw [if_neg q0]
 have s0:=Zei hx.1 h0 h1 (Int.not_lt.1 q0)
 refine ⟨by omega,?_⟩
 unfold Zx0
 have v0:=Zbqb x.Steps
 omega
theorem Zbqc (x:Plan) (l:Int) (hx:x.okay) (h0:0≤l) (h1:l≤1048576) (h:0≤x.sz l):x.sz l≤l∧(Ze1 x:Int)≤16+16*(l - x.sz l):=by
 have a:=Plan.ct x l hx h0 h1 h
 unfold Zx0 at a
 unfold Ze1
 omega
def Zx1 (x:Zh):Nat:=x.Box.Low.length+x.Box.High.length+x.Budgets.length+Zcn x.Plans+Zcz x.Contours
theorem Zh.ct (x:Zh) (l:Int) (hx:x.okay) (h0:0≤l) (h1:l≤1048576) (h:0≤x.sz l):x.sz l≤l∧(Zx1 x:Int)≤16*(l - x.sz l):=by
 unfold Zh.sz at h ⊢
 simp only [andSz] at h ⊢
 split at h
 ·omega
 rename_i q0
 rw [if_neg q0]
 have s0:=Box.ct x.Box _ ⟨hx.2.2.2.1,hx.2.2.2.2.1⟩ h0 h1 (Int.not_lt.1 q0)
 split at h
 ·omega
 rename_i q1
 rw [if_neg q1]
 have s1:=Zei hx.2.2.2.2.2.1.1 (by omega) (by omega) (Int.not_lt.1 q1)
 split at h
 ·omega
 rename_i q2
 rw [if_neg q2]
 have s2:=szL_ct (n:=Ze1) hx.2.2.2.2.2.2.1.1 (fun y hy l a b c=>Zbqc y l (hx.2.2.2.2.2.2.1.2 y hy) a b c) (by omega) (by omega) (Int.not_lt.1 q2)
 split at h
 ·omega
 rename_i q3
 rw [if_neg q3]
 have s3:=szL_ct (f:=szI) (n:=Zez) hx.2.2.2.2.2.2.2.1 (fun y hy l a b c=>Zbp9 y l (hx.2.2.2.2.2.2.2.2 y hy).1 a b c) (by omega) (by omega) (Int.not_lt.1 q3)
 refine ⟨by omega,?_⟩
 unfold Zx1
 have v0:nt_Box x.Box=x.Box.Low.length+x.Box.High.length:=rfl
 have v1:Zcn x.Plans=cnL Ze1 x.Plans:=rfl
 have v2:Zcz x.Contours=cnL Zez x.Contours:=rfl
 omega
theorem Z91:∀ (xs:List (List Int)) (left:Int),(∀ x∈xs,x.length≤maxLen)→0≤left→left≤1048576→0≤szFold szI xs left→szFold szI xs left≤left∧entN xs≤left - szFold szI xs left
 | [],left,_,_,_,h=>by simp [szFold,entN]
 | x::xs,left,hf,h0,h1,h=>by
  unfold szFold at h ⊢
  split at h
  ·omega
  ·rename_i hx
   rw [if_neg hx]
   obtain ⟨h2,h3⟩:=Zei (hf x (by simp)) h0 h1 (Int.not_lt.1 hx)
   obtain ⟨h4,h5⟩:=Z91 xs (szI x left) (fun y hy=>hf y (by simp [hy])) (by omega) (by show sz1 _ _≤_;omega) h
   have e:szI x left=sz1 x.length left:=rfl
   rw [entN]
   omega
theorem szL_en {xs:List (List Int)} {left:Int} (hn:xs.length≤maxLen) (hf:∀ x∈xs,x.length≤maxLen) (h0:0≤left) (h1:left≤1048576) (h:0≤szL szI xs left):entN xs≤1048576:=by
 unfold szL andSz at h
 split at h
 ·omega
 ·rename_i hx
  have a:=Zei hn h0 h1 (by omega)
  have b:=Z91 xs _ hf (by omega) (by omega) h
  omega
theorem Zh.en (x:Zh) (l:Int) (hx:x.okay) (h0:0≤l) (h1:l≤1048576) (h:0≤x.sz l):entN x.Contours≤1048576:=by
 unfold Zh.sz at h
 simp only [andSz] at h
 split at h
 ·omega
 rename_i q0
 have s0:=Box.Zbl x.Box _ ⟨hx.2.2.2.1,hx.2.2.2.2.1⟩ h0 h1 (Int.not_lt.1 q0)
 split at h
 ·omega
 rename_i q1
 have s1:=sz1_okA hx.2.2.2.2.2.1.1 (by omega) (by omega) (Int.not_lt.1 q1)
 split at h
 ·omega
 rename_i q2
 have s2:=szL_ok (p:=Plan.small) hx.2.2.2.2.2.2.1.1 (fun y hy l a b c=>Plan.Zbl y l (hx.2.2.2.2.2.2.1.2 y hy) a b c) (by omega) (by omega) (Int.not_lt.1 q2)
 split at h
 ·omega
 rename_i q3
 exact szL_en hx.2.2.2.2.2.2.2.1 (fun y hy=>(hx.2.2.2.2.2.2.2.2 y hy).1) (by omega) (by omega) (Int.not_lt.1 q3)
theorem Zbqd:C Zye [.t .nil,.t (.lst 1 [])] []=some (Bo true,[]):=by
 refine run Z8c rfl ?_
 simp [Zqw,EvL_eq Znm.eq_1]
theorem Z92 {m:Zd} {q:Zc} {b:Zh}:∀ (ls:List (List Int)) (s:WS),(∀ l∈ls,l.length≤16)→s.1.length≤16→(ls.foldl (wst m q b) s).1.length≤16
 | [],s,_,h=>h
 | l::ls,s,hl,h=>by
  rw [List.foldl_cons]
  refine Z92 ls _ (fun x hx=>hl x (by simp [hx])) ?_
  unfold wst
  split
  ·exact hl l (by simp)
  ·exact h
theorem Zbqe {m:Zd} {q:Zc} {b:Zh} (e:isPB m q b=true):(Zgo m q b).length≤16:=by
 have h:bqOk m q b∧Zgn m q b=true:=by unfold isPB at e;simpa using e
 exact Z92 _ _ (fun l hl=>Zd4 (Zxu (Zby h.1.1) l hl).1) (by simp)
theorem Z93 (m:Zd) (q:Zc) (b:Zh) (hm:m.okay) (hq:q.okay) (hb:b.okay):C Zbab [.agg (m.c.map .t),.agg (q.c.map .t),.agg (b.c.map .t)] []=some (Bo true,[]):=by
 refine run Zbl6 rfl ?_
 have e1:=fun l=>Zbob m.Scan.Fixed m.Scan.Zj m.Scan.Zk m.Scan.Zm m.Scan.Zl m.Scan.Steps m.Sort_.Fixed m.Sort_.Zj m.Sort_.Zk m.Sort_.Zm m.Sort_.Zl m.Sort_.Steps m.Hash.Fixed m.Hash.Zj m.Hash.Zk m.Hash.Zm m.Hash.Zl m.Hash.Steps m.Merge.Fixed m.Merge.Zj m.Merge.Zk m.Merge.Zm m.Merge.Zl m.Merge.Steps m.Nested.Fixed m.Nested.Zj m.Nested.Zk m.Nested.Zm m.Nested.Zl m.Nested.Steps l
 by_cases h1:Zd.sz m (1048576)<0
 ·simp [Zkl,e1,h1]
 obtain ⟨b1,g1⟩:=Zd.Zbl m _ hm (by omega) (by omega) (by omega:0≤Zd.sz m (1048576))
 have u1:=(Zd.ct m _ hm (by omega) (by omega) (by omega:0≤Zd.sz m (1048576))).2
 unfold Zxz at u1
 have e2:=fun l=>Zbn0 q.Ze q.Atoms l (hq.2)
 by_cases h2:Zc.sz q (Zd.sz m (1048576))<0
 ·simp [Zkl,e1,h1,e2,h2]
 obtain ⟨b2,g2⟩:=Zc.Zbl q _ hq (by omega) (by omega) (by omega:0≤Zc.sz q (Zd.sz m (1048576)))
 have u2:=(Zc.ct q _ hq (by omega) (by omega) (by omega:0≤Zc.sz q (Zd.sz m (1048576)))).2
 unfold Zxy at u2
 have e3:=fun l=>Zbor b.Version b.Ratio b.Slack b.Box.Low b.Box.High b.Budgets b.Plans b.Contours l (hb.2.2.2.2.2.2.1) (hb.2.2.2.2.2.2.2)
 by_cases h3:Zh.sz b (Zc.sz q (Zd.sz m (1048576)))<0
 ·simp [Zkl,e1,h1,e2,h2,e3,h3]
 obtain ⟨b3,g3⟩:=Zh.Zbl b _ hb (by omega) (by omega) (by omega:0≤Zh.sz b (Zc.sz q (Zd.sz m (1048576))))
 have u3:=(Zh.ct b _ hb (by omega) (by omega) (by omega:0≤Zh.sz b (Zc.sz q (Zd.sz m (1048576))))).2
 unfold Zx1 at u3
 have t1:=Zbn9 m.Scan.Fixed m.Scan.Zj m.Scan.Zk m.Scan.Zm m.Scan.Zl m.Scan.Steps m.Sort_.Fixed m.Sort_.Zj m.Sort_.Zk m.Sort_.Zm m.Sort_.Zl m.Sort_.Steps m.Hash.Fixed m.Hash.Zj m.Hash.Zk m.Hash.Zm m.Hash.Zl m.Hash.Steps m.Merge.Fixed m.Merge.Zj m.Merge.Zk m.Merge.Zm m.Merge.Zl m.Merge.Steps m.Nested.Fixed m.Nested.Zj m.Nested.Zk m.Nested.Zm m.Nested.Zl m.Nested.Steps (g1.1) (g1.2.1) (g1.2.2.1) (g1.2.2.2.1) (g1.2.2.2.2)
 have q1:=fun y0 y1 y2 y3 y4 y5 y6 y7 y8 y9 y10 y11 y12 y13 y14 y15 y16 y17 y18 y19 y20 y21 y22 y23 y24 y25 y26 y27 y28 y29=>Zboa m.Scan.Fixed m.Scan.Zj m.Scan.Zk m.Scan.Zm m.Scan.Zl m.Scan.Steps m.Sort_.Fixed m.Sort_.Zj m.Sort_.Zk m.Sort_.Zm m.Sort_.Zl m.Sort_.Steps m.Hash.Fixed m.Hash.Zj m.Hash.Zk m.Hash.Zm m.Hash.Zl m.Hash.Steps m.Merge.Fixed m.Merge.Zj m.Merge.Zk m.Merge.Zm m.Merge.Zl m.Merge.Steps m.Nested.Fixed m.Nested.Zj m.Nested.Zk m.Nested.Zm m.Nested.Zl m.Nested.Steps y0 y1 y2 y3 y4 y5 y6 y7 y8 y9 y10 y11 y12 y13 y14 y15 y16 y17 y18 y19 y20 y21 y22 y23 y24 y25 y26 y27 y28 y29 (g1.1) (g1.2.1) (g1.2.2.1) (g1.2.2.2.1) (g1.2.2.2.2)
 have t2:=Zbny q.Ze q.Atoms (g2)
 have q2:=fun y0 y1=>Zbnz q.Ze q.Atoms y0 y1 (g2)
 have t3:=Zbop b.Version b.Ratio b.Slack b.Box.Low b.Box.High b.Budgets b.Plans b.Contours (g3.1) (g3.2.1) (g3.2.2.1) (g3.2.2.2.1) (g3.2.2.2.2)
 have q3:=fun y0 y1 y2 y3 y4 y5 y6 y7=>Zboq b.Version b.Ratio b.Slack b.Box.Low b.Box.High b.Budgets b.Plans b.Contours y0 y1 y2 y3 y4 y5 y6 y7 (g3.1) (g3.2.1) (g3.2.2.1) (g3.2.2.2.1) (g3.2.2.2.2)
 have m1:=fun a0 a1 a2 a3 a4=>Zbp7 a0 a1 a2 a3 a4 m.Scan.Fixed m.Scan.Zj m.Scan.Zk m.Scan.Zm m.Scan.Zl m.Scan.Steps m.Sort_.Fixed m.Sort_.Zj m.Sort_.Zk m.Sort_.Zm m.Sort_.Zl m.Sort_.Steps m.Hash.Fixed m.Hash.Zj m.Hash.Zk m.Hash.Zm m.Hash.Zl m.Hash.Steps m.Merge.Fixed m.Merge.Zj m.Merge.Zk m.Merge.Zm m.Merge.Zl m.Merge.Steps m.Nested.Fixed m.Nested.Zj m.Nested.Zk m.Nested.Zm m.Nested.Zl m.Nested.Steps (1) (by omega) (by omega) (g1.1) (g1.2.1) (g1.2.2.1) (g1.2.2.2.1) (g1.2.2.2.2)
 have m2:=fun a0=>Zbp8 a0 q.Ze q.Atoms (1+(Zp m.Scan.Steps:Int)+(Zp m.Sort_.Steps:Int)+(Zp m.Hash.Steps:Int)+(Zp m.Merge.Steps:Int)+(Zp m.Nested.Steps:Int)) (by omega) (by omega) (g2)
 have m3:=fun a0 a1 a2 a3 a4=>Zbp6 a0 a1 a2 a3 a4 b.Version b.Ratio b.Slack b.Box.Low b.Box.High b.Budgets b.Plans b.Contours (1+(Zp m.Scan.Steps:Int)+(Zp m.Sort_.Steps:Int)+(Zp m.Hash.Steps:Int)+(Zp m.Merge.Steps:Int)+(Zp m.Nested.Steps:Int)+(Zcu q.Atoms:Int)) (by omega) (by omega) (g3.1) (g3.2.1) (g3.2.2.1) (g3.2.2.2.1) (g3.2.2.2.2)
 have zk:¬ (1+(Zp m.Scan.Steps:Int)+(Zp m.Sort_.Steps:Int)+(Zp m.Hash.Steps:Int)+(Zp m.Merge.Steps:Int)+(Zp m.Nested.Steps:Int)+(Zcu q.Atoms:Int)+(b.Box.Low.length:Int)+(b.Box.High.length:Int)+(b.Budgets.length:Int)+(Zcn b.Plans:Int)+(Zcz b.Contours:Int)<0):=by omega
 have nm:LeM m:=⟨by have:=g1.1;omega,by have:=g1.2.1;omega,by have:=g1.2.2.1;omega,by have:=g1.2.2.2.1;omega,by have:=g1.2.2.2.2;omega⟩
 have nq:LeQ q:=⟨by have:=g2.1;omega,fun x hx=>by have:=(g2.2 x hx).2;omega⟩
 have nb:LeB b:=⟨by have:=g3.1;omega,by have:=g3.2.1;omega,by have:=g3.2.2.1;omega,by have:=g3.2.2.2.1.1;omega,by have:=g3.2.2.2.2.1;omega,fun c hc=>by have:=g3.2.2.2.2.2 c hc;omega⟩
 have hE:entN b.Contours≤2000000:=by have:=Zh.en b _ hb (by omega) (by omega) (Int.not_lt.1 h3);omega
 have s0:=x_spec_W nm nq nb hE
 have s1:=x_impl_W nm nq nb hE
 unfold Zp5 at s0
 simp only [Zd.c_def,Zc.c_def,Zh.c_def,List.map_cons,List.map_nil] at s0 s1
 rcases tf (isPB m q b) with e | e
 ·rw [e,if_neg (by simp)] at s0
  rw [e,if_neg (by simp)] at s1
  simp +decide [Zkl,e1,h1,e2,h2,e3,h3,t1,q1,t2,q2,t3,q3,m1,m2,m3,zk,s0,s1,Zbqd,Zbph,Zbpn]
 ·rw [e,if_pos rfl] at s0
  rw [e,if_pos rfl] at s1
  have hw:(Zgo m q b).length≤16:=Zbqe e
  generalize Zgo m q b=l at *
  have q7:=Zkn l l (by omega)
  have m6:=fun a0=>Znv a0 l 1 (by omega) (by omega) (by omega)
  have m7:=Zbpm l 1 (by omega) (by omega) (by omega)
  have z2:¬ (1+(l.length:Int)<0):=by omega
  simp +decide [Zkl,e1,h1,e2,h2,e3,h3,t1,q1,t2,q2,t3,q3,m1,m2,m3,zk,s0,s1,q7,m6,m7,z2]
end Go.Proofs.YtgnfoghkbpkgjaaGreat
