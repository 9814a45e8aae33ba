/-
  Parts of the proofs for this seat: FA MP MQ MR L31.
-/
import Derived.Test.YtgnfoghkbpkgjaaGreatP15
set_option linter.unusedSimpArgs false
set_option linter.unusedVariables false
set_option maxRecDepth 100000
set_option maxHeartbeats 4000000
namespace Go.Proofs.YtgnfoghkbpkgjaaGreat
open Go.AM
theorem l_toIntS (xs:List Int) (h:SmA xs) (fr:List Fr):∀ i,i≤xs.length→EvL C fr [0,3,4] Zq1 ⟨[(0,L 1 (xs.map ic)),(3,.own 0),(4,I i)],[[]],[.arr Zw 1 true (fill ic [.int .i64 0] xs i)]⟩ =
  EvX C fr (.x 0) ⟨[(0,L 1 (xs.map ic)),(3,.own 0),(4,I xs.length),(11,Bo false)],[[]],[.arr Zw 1 true (xs.map ic)]⟩:=by
 have hl:xs.length≤4294967296:=h
 refine down xs.length ?_ ?_
 ·rw [EvL_eq Zq1.eq_1]
  simp [fill_all]
 ·intro i hi ih
  rw [EvL_eq Zq1.eq_1,← ih]
  have h1:=fill_set (f:=ic) (z:=[.int .i64 0]) hi
  have h3:=fill_len (f:=ic) (z:=[.int .i64 0]) (Nat.le_of_lt hi)
  have h4:IntKind.wrap .i64 ((i:Int)+1)=(i:Int)+1:=wrap64 (by omega) (by omega)
  simp at h1
  simp [hi,h3,h4,h1]
theorem Zbab (xs:List Int) (h:SmA xs):C Zbbe [L 1 (xs.map ic)] []=some (.own 0,[.arr Zw 1 true (xs.map ic)]):=by
 refine run Zbnw rfl ?_
 have hl:xs.length≤4294967296:=h
 have h1:∀ b,b≤4096→xs.length*b≤room:=fun b hb=>Nat.le_trans (Nat.mul_le_mul hl hb) (by decide)
 have h2:(xs.length:Int)≤140737488355328:=by omega
 have h3:=fun fr=>l_toIntS xs h fr 0 (Nat.zero_le _)
 simp [fill_zero] at h3
 simp [Z9m,h1,h2,h3]
theorem l_eqIntS (xs ys:List Int) (h:SmA xs) (hl:ys.length=xs.length) (fr:List Fr):∀ i,i≤xs.length→EvL C fr [0,1,5] Zqz ⟨[(0,L 1 (xs.map ic)),(1,L 1 (ys.map ic)),(5,I i)],[[]],[]⟩ =
  if xs.drop i=ys.drop i then EvX C fr (.x 0) ⟨[(0,L 1 (xs.map ic)),(1,L 1 (ys.map ic)),(5,I xs.length),(14,Bo false)],[[]],[]⟩ else EvX C fr .r ⟨[(4,Bo false)],[[]],[]⟩:=by
 have hm:xs.length≤4294967296:=h
 refine down xs.length ?_ ?_
 ·rw [EvL_eq Zqz.eq_1]
  simp [hl,List.drop_eq_nil_of_le]
 ·intro i hi ih
  have hi2:i<ys.length:=by omega
  have h4:IntKind.wrap .i64 ((i:Int)+1)=(i:Int)+1:=wrap64 (by omega) (by omega)
  rw [EvL_eq Zqz.eq_1]
  simp +decide [hi,hi2,h4]
  simp at ih
  simp only [drop_eq_iff hi hi2,ih]
  split <;> first | (simp_all;done) | grind
theorem Zbac (xs ys:List Int) (h:SmA xs):C Zbaz [L 1 (xs.map ic),L 1 (ys.map ic)] []=some (Bo (decide (xs=ys)),[]):=by
 refine run Zbnh rfl ?_
 by_cases hl:ys.length=xs.length
 ·have h3:=fun fr=>l_eqIntS xs ys h hl fr 0 (Nat.zero_le _)
  simp at h3
  simp [Zxw,h3,hl]
  split <;> simp_all
 ·have h1:xs≠ys:=fun h=>hl (by rw [h])
  have h2:¬ ((xs.length:Int)=ys.length):=by omega
  simp [Zxw,h1,h2]
@[simp] theorem Zbad (es:List (List T)) (left:Int):C Zbba [L 1 es,I left] []=some (I (sz1 es.length left),[]):=by
 refine run Zbns rfl ?_
 simp [Z9i,sz1]
 split <;> simp_all
theorem Zbok (xs:List (List Int)) (h:SmL SmA xs) (fr:List Fr):∀ i,i≤xs.length→EvL C fr [0,3,4] Zq2 ⟨[(0,L 1 (xs.map isc)),(3,.own 0),(4,I i)],[[]],[.arr Zh4 1 true (fill isc [.lst 1 []] xs i)]⟩ =
  EvX C fr (.x 0) ⟨[(0,L 1 (xs.map isc)),(3,.own 0),(4,I xs.length),(11,Bo false)],[[]],[.arr Zh4 1 true (xs.map isc)]⟩:=by
 have hl:xs.length≤4294967296:=h.1
 refine down xs.length ?_ ?_
 ·rw [EvL_eq Zq2.eq_1]
  simp [fill_all]
 ·intro i hi ih
  rw [EvL_eq Zq2.eq_1,← ih]
  have h1:=fill_set (f:=isc) (z:=[.lst 1 []]) hi
  have h3:=fill_len (f:=isc) (z:=[.lst 1 []]) (Nat.le_of_lt hi)
  have h4:IntKind.wrap .i64 ((i:Int)+1)=(i:Int)+1:=wrap64 (by omega) (by omega)
  simp at h1
  simp [hi,Zbab _ (h.2 _ (List.getElem_mem hi)),h3,h4,h1]
theorem Zbol (xs:List (List Int)) (h:SmL SmA xs):C Zbbf [L 1 (xs.map isc)] []=some (.own 0,[.arr Zh4 1 true (xs.map isc)]):=by
 refine run Zbnx rfl ?_
 have hl:xs.length≤4294967296:=h.1
 have h1:∀ b,b≤4096→xs.length*b≤room:=fun b hb=>Nat.le_trans (Nat.mul_le_mul hl hb) (by decide)
 have h2:(xs.length:Int)≤140737488355328:=by omega
 have h3:=fun fr=>Zbok xs h fr 0 (Nat.zero_le _)
 simp [fill_zero] at h3
 simp [Z9n,h1,h2,h3]
theorem Zbom (xs ys:List (List Int)) (h:SmL SmA xs) (hl:ys.length=xs.length) (fr:List Fr):∀ i,i≤xs.length→EvL C fr [0,1,5] Zq4 ⟨[(0,L 1 (xs.map isc)),(1,L 1 (ys.map isc)),(5,I i)],[[]],[]⟩ =
  if xs.drop i=ys.drop i then EvX C fr (.x 0) ⟨[(0,L 1 (xs.map isc)),(1,L 1 (ys.map isc)),(5,I xs.length),(14,Bo false)],[[]],[]⟩ else EvX C fr .r ⟨[(4,Bo false)],[[]],[]⟩:=by
 have hm:xs.length≤4294967296:=h.1
 refine down xs.length ?_ ?_
 ·rw [EvL_eq Zq4.eq_1]
  simp [hl,List.drop_eq_nil_of_le]
 ·intro i hi ih
  have hi2:i<ys.length:=by omega
  have h4:IntKind.wrap .i64 ((i:Int)+1)=(i:Int)+1:=wrap64 (by omega) (by omega)
  rw [EvL_eq Zq4.eq_1]
  simp +decide [hi,hi2,Zbac _ _ (h.2 _ (List.getElem_mem hi)),h4]
  simp at ih
  simp only [drop_eq_iff hi hi2,ih]
  split <;> first | (simp_all;done) | grind
theorem Zbon (xs ys:List (List Int)) (h:SmL SmA xs):C Zbbi [L 1 (xs.map isc),L 1 (ys.map isc)] []=some (Bo (decide (xs=ys)),[]):=by
 refine run Zbn0 rfl ?_
 by_cases hl:ys.length=xs.length
 ·have h3:=fun fr=>Zbom xs ys h hl fr 0 (Nat.zero_le _)
  simp at h3
  simp [Zx2,h3,hl]
  split <;> simp_all
 ·have h1:xs≠ys:=fun h=>hl (by rw [h])
  have h2:¬ ((xs.length:Int)=ys.length):=by omega
  simp [Zx2,h1,h2]
theorem Zboo (xs:List (List Int)) (h:OkL (OkL OkI) xs) (fr:List Fr):∀ i,i≤xs.length→∀ left:Int,
  (EvL C fr [0,1,5] Zhz ⟨[(0,L 1 (xs.map isc)),(1,I left),(5,I i)],[[]],[]⟩=EvX C fr .r ⟨[(4,I (-1))],[[]],[]⟩∧szFold szI (xs.drop i) left=-1) ∨
  EvL C fr [0,1,5] Zhz ⟨[(0,L 1 (xs.map isc)),(1,I left),(5,I i)],[[]],[]⟩=EvX C fr (.x 0) ⟨[(0,L 1 (xs.map isc)),(1,I (szFold szI (xs.drop i) left)),(5,I xs.length),(15,Bo false)],[[]],[]⟩:=by
 have hm:maxLen≤9223372036854775807:=by decide
 have hl:=h.1
 refine down xs.length ?_ ?_
 ·intro left
  right
  rw [EvL_eq Zhz.eq_1]
  simp [List.drop_eq_nil_of_le,szFold]
 ·intro i hi ih left
  have h4:IntKind.wrap .i64 ((i:Int)+1)=(i:Int)+1:=wrap64 (by omega) (by omega)
  have e:EvL C fr [0,1,5] Zhz ⟨[(0,L 1 (xs.map isc)),(1,I left),(5,I i)],[[]],[]⟩=if szI xs[i] left<0 then EvX C fr .r ⟨[(4,I (-1))],[[]],[]⟩ else EvL C fr [0,1,5] Zhz ⟨[(0,L 1 (xs.map isc)),(1,I (szI xs[i] left)),(5,I ((i+1:Nat):Int))],[[]],[]⟩:=by
   rw [EvL_eq Zhz.eq_1]
   simp [hi,Zbad,h4]
  rw [e,List.drop_eq_getElem_cons hi,szFold]
  split
  ·exact .inl ⟨rfl,rfl⟩
  ·exact ih _
theorem Zbop (xs:List (List Int)) (left:Int) (h:OkL (OkL OkI) xs):C Zbbb [L 1 (xs.map isc),I left] []=some (I (szL szI xs left),[]):=by
 refine run Zbnt rfl ?_
 have h3:=fun fr l=>Zboo xs h fr 0 (Nat.zero_le _) l
 simp at h3
 simp [Z9j,szL,andSz,sz1]
 split
 ·simp_all
 ·rcases h3 [.blk 0,.seq _,.fin _ _] (IntKind.wrap .i64 (left - xs.length)) with ⟨h5,h6⟩ | h5
  ·rw [h5];simp [h6]
  ·rw [h5];simp
theorem Zboq (x0:ByteArray) (x1:Int) (x2:List (List Int)) (h2:SmL SmA x2):C Zbbx [.agg [.t (.str x0),I x1,.t (tII x2)]] []=some (.agg [.t (.str x0),I x1,.own 0],[.arr Zh4 1 true (x2.map isc)]):=by
 refine run Zbof rfl ?_
 simp [Z96,Zbol _ h2]
theorem Zbor (x0:ByteArray) (x1:Int) (x2:List (List Int)) (y0:ByteArray) (y1:Int) (y2:List (List Int)) (h2:SmL SmA x2):C Zbby [.agg [.t (.str x0),I x1,.t (tII x2)],.agg [.t (.str y0),I y1,.t (tII y2)]] []=some (Bo (decide (x0=y0∧x1=y1∧x2=y2)),[]):=by
 refine run Zbog rfl ?_
 simp [Z97,Zbon _ _ h2]
 repeat' split
 all_goals first | (simp_all;done) | grind
theorem Zbos (x0:ByteArray) (x1:Int) (x2:List (List Int)) (left:Int) (h2:OkL (OkL OkI) x2):C Zbbw [.agg [.t (.str x0),I x1,.t (tII x2)],I left] []=some (I (Zg.sz ⟨x0,x1,x2⟩ left),[]):=by
 refine run Zboe rfl ?_
 simp [Z95,Zbop _ _ h2,Zg.sz,andSz,sz1]
 repeat' split
 all_goals first | (simp_all;done) | grind
theorem Zbot (xs:List Zg) (h:SmL Zg.small xs) (fr:List Fr):∀ i,i≤xs.length→EvL C fr [0,3,4] Zq6 ⟨[(0,L 3 (xs.map Zg.c)),(3,.own 0),(4,I i)],[[]],[.arr Zn1 3 true (fill Zg.c [.str ⟨#[]⟩,.int .i64 0,.lst 1 []] xs i)]⟩ =
  EvX C fr (.x 0) ⟨[(0,L 3 (xs.map Zg.c)),(3,.own 0),(4,I xs.length),(11,Bo false)],[[]],[.arr Zn1 3 true (xs.map Zg.c)]⟩:=by
 have hl:xs.length≤4294967296:=h.1
 refine down xs.length ?_ ?_
 ·rw [EvL_eq Zq6.eq_1]
  simp [fill_all]
 ·intro i hi ih
  rw [EvL_eq Zq6.eq_1,← ih]
  have h1:=fill_set (f:=Zg.c) (z:=[.str ⟨#[]⟩,.int .i64 0,.lst 1 []]) hi
  have h3:=fill_len (f:=Zg.c) (z:=[.str ⟨#[]⟩,.int .i64 0,.lst 1 []]) (Nat.le_of_lt hi)
  have h4:IntKind.wrap .i64 ((i:Int)+1)=(i:Int)+1:=wrap64 (by omega) (by omega)
  simp at h1
  simp [hi,Zboq _ _ _ (h.2 _ (List.getElem_mem hi)).2,h3,h4,h1]
theorem Zbou (xs:List Zg) (h:SmL Zg.small xs):C Zbbm [L 3 (xs.map Zg.c)] []=some (.own 0,[.arr Zn1 3 true (xs.map Zg.c)]):=by
 refine run Zbn4 rfl ?_
 have hl:xs.length≤4294967296:=h.1
 have h1:∀ b,b≤4096→xs.length*b≤room:=fun b hb=>Nat.le_trans (Nat.mul_le_mul hl hb) (by decide)
 have h2:(xs.length:Int)≤140737488355328:=by omega
 have h3:=fun fr=>Zbot xs h fr 0 (Nat.zero_le _)
 simp [fill_zero] at h3
 simp [Z9t,h1,h2,h3]
theorem Zbov (xs ys:List Zg) (h:SmL Zg.small xs) (hl:ys.length=xs.length) (fr:List Fr):∀ i,i≤xs.length→EvL C fr [0,1,5] Zq7 ⟨[(0,L 3 (xs.map Zg.c)),(1,L 3 (ys.map Zg.c)),(5,I i)],[[]],[]⟩ =
  if xs.drop i=ys.drop i then EvX C fr (.x 0) ⟨[(0,L 3 (xs.map Zg.c)),(1,L 3 (ys.map Zg.c)),(5,I xs.length),(14,Bo false)],[[]],[]⟩ else EvX C fr .r ⟨[(4,Bo false)],[[]],[]⟩:=by
 have hm:xs.length≤4294967296:=h.1
 refine down xs.length ?_ ?_
 ·rw [EvL_eq Zq7.eq_1]
  simp [hl,List.drop_eq_nil_of_le]
 ·intro i hi ih
  have hi2:i<ys.length:=by omega
  have h4:IntKind.wrap .i64 ((i:Int)+1)=(i:Int)+1:=wrap64 (by omega) (by omega)
  rw [EvL_eq Zq7.eq_1]
  simp +decide [hi,hi2,Zbor _ _ _ _ _ _ (h.2 _ (List.getElem_mem hi)).2,h4]
  simp at ih
  simp only [drop_eq_iff hi hi2,ih,Zg.ext_iff]
  split <;> first | (simp_all;done) | grind
theorem Zbow (xs ys:List Zg) (h:SmL Zg.small xs):C Zbbn [L 3 (xs.map Zg.c),L 3 (ys.map Zg.c)] []=some (Bo (decide (xs=ys)),[]):=by
 refine run Zbn5 rfl ?_
 by_cases hl:ys.length=xs.length
 ·have h3:=fun fr=>Zbov xs ys h hl fr 0 (Nat.zero_le _)
  simp at h3
  simp [Zx4,h3,hl]
  split <;> simp_all
 ·have h1:xs≠ys:=fun h=>hl (by rw [h])
  have h2:¬ ((xs.length:Int)=ys.length):=by omega
  simp [Zx4,h1,h2]
theorem Zbox (xs:List Zg) (h:OkL Zg.okay xs) (fr:List Fr):∀ i,i≤xs.length→∀ left:Int,
  (EvL C fr [0,1,5] Zh0 ⟨[(0,L 3 (xs.map Zg.c)),(1,I left),(5,I i)],[[]],[]⟩=EvX C fr .r ⟨[(4,I (-1))],[[]],[]⟩∧szFold Zg.sz (xs.drop i) left=-1) ∨
  EvL C fr [0,1,5] Zh0 ⟨[(0,L 3 (xs.map Zg.c)),(1,I left),(5,I i)],[[]],[]⟩=EvX C fr (.x 0) ⟨[(0,L 3 (xs.map Zg.c)),(1,I (szFold Zg.sz (xs.drop i) left)),(5,I xs.length),(15,Bo false)],[[]],[]⟩:=by
 have hm:maxLen≤9223372036854775807:=by decide
 have hl:=h.1
 refine down xs.length ?_ ?_
 ·intro left
  right
  rw [EvL_eq Zh0.eq_1]
  simp [List.drop_eq_nil_of_le,szFold]
 ·intro i hi ih left
  have h4:IntKind.wrap .i64 ((i:Int)+1)=(i:Int)+1:=wrap64 (by omega) (by omega)
  have e:EvL C fr [0,1,5] Zh0 ⟨[(0,L 3 (xs.map Zg.c)),(1,I left),(5,I i)],[[]],[]⟩=if Zg.sz xs[i] left<0 then EvX C fr .r ⟨[(4,I (-1))],[[]],[]⟩ else EvL C fr [0,1,5] Zh0 ⟨[(0,L 3 (xs.map Zg.c)),(1,I (Zg.sz xs[i] left)),(5,I ((i+1:Nat):Int))],[[]],[]⟩:=by
   rw [EvL_eq Zh0.eq_1]
   simp [hi,Zbos _ _ _ _ (h.2 _ (List.getElem_mem hi)).2.2,h4]
  rw [e,List.drop_eq_getElem_cons hi,szFold]
  split
  ·exact .inl ⟨rfl,rfl⟩
  ·exact ih _
theorem Zboy (xs:List Zg) (left:Int) (h:OkL Zg.okay xs):C Zbbl [L 3 (xs.map Zg.c),I left] []=some (I (szL Zg.sz xs left),[]):=by
 refine run Zbn3 rfl ?_
 have h3:=fun fr l=>Zbox xs h fr 0 (Nat.zero_le _) l
 simp at h3
 simp [Z9s,szL,andSz,sz1]
 split
 ·simp_all
 ·rcases h3 [.blk 0,.seq _,.fin _ _] (IntKind.wrap .i64 (left - xs.length)) with ⟨h5,h6⟩ | h5
  ·rw [h5];simp [h6]
  ·rw [h5];simp
theorem Zboz (x0:List Zg) (h0:SmL Zg.small x0):C Zba5 [.agg [.t (.lst 3 (x0.map Zg.c))]] []=some (.agg [.own 0],[.arr Zn1 3 true (x0.map Zg.c)]):=by
 refine run Zbnn rfl ?_
 simp [Z9a,Zbou _ h0]
theorem Zbo0 (x0:List Zg) (y0:List Zg) (h0:SmL Zg.small x0):C Zba6 [.agg [.t (.lst 3 (x0.map Zg.c))],.agg [.t (.lst 3 (y0.map Zg.c))]] []=some (Bo (decide (x0=y0)),[]):=by
 refine run Zbno rfl ?_
 simp [Z9b,Zbow _ _ h0]
 repeat' split
 all_goals first | (simp_all;done) | grind
theorem Zbo1 (x0:List Zg) (left:Int) (h0:OkL Zg.okay x0):C Zba4 [.agg [.t (.lst 3 (x0.map Zg.c))],I left] []=some (I (Zi.sz ⟨x0⟩ left),[]):=by
 refine run Zbnm rfl ?_
 simp [Z89,Zboy _ _ h0,Zi.sz,andSz,sz1]
 repeat' split
 all_goals first | (simp_all;done) | grind
theorem c_toAtom (x0:ByteArray) (x1:List Int) (h1:SmA x1):C Zbbs [.agg [.t (.str x0),.t (tI x1)]] []=some (.agg [.t (.str x0),.own 0],[.arr Zw 1 true (x1.map ic)]):=by
 refine run Zboa rfl ?_
 simp [Z91,Zbab _ h1]
theorem c_eqAtom (x0:ByteArray) (x1:List Int) (y0:ByteArray) (y1:List Int) (h1:SmA x1):C Zbbu [.agg [.t (.str x0),.t (tI x1)],.agg [.t (.str y0),.t (tI y1)]] []=some (Bo (decide (x0=y0∧x1=y1)),[]):=by
 refine run Zboc rfl ?_
 simp [Z92,Zbac _ _ h1]
 repeat' split
 all_goals first | (simp_all;done) | grind
theorem c_szAtom (x0:ByteArray) (x1:List Int) (left:Int) :C Zbbq [.agg [.t (.str x0),.t (tI x1)],I left] []=some (I (Atom.sz ⟨x0,x1⟩ left),[]):=by
 refine run Zbn8 rfl ?_
 simp [Z9z,Zbad,Atom.sz,andSz,sz1]
 repeat' split
 all_goals first | (simp_all;done) | grind
theorem Zbo2 (xs:List Atom) (h:SmL Atom.small xs) (fr:List Fr):∀ i,i≤xs.length→EvL C fr [0,3,4] Zq0 ⟨[(0,L 2 (xs.map Atom.c)),(3,.own 0),(4,I i)],[[]],[.arr Zn0 2 true (fill Atom.c [.str ⟨#[]⟩,.lst 1 []] xs i)]⟩ =
  EvX C fr (.x 0) ⟨[(0,L 2 (xs.map Atom.c)),(3,.own 0),(4,I xs.length),(11,Bo false)],[[]],[.arr Zn0 2 true (xs.map Atom.c)]⟩:=by
 have hl:xs.length≤4294967296:=h.1
 refine down xs.length ?_ ?_
 ·rw [EvL_eq Zq0.eq_1]
  simp [fill_all]
 ·intro i hi ih
  rw [EvL_eq Zq0.eq_1,← ih]
  have h1:=fill_set (f:=Atom.c) (z:=[.str ⟨#[]⟩,.lst 1 []]) hi
  have h3:=fill_len (f:=Atom.c) (z:=[.str ⟨#[]⟩,.lst 1 []]) (Nat.le_of_lt hi)
  have h4:IntKind.wrap .i64 ((i:Int)+1)=(i:Int)+1:=wrap64 (by omega) (by omega)
  simp at h1
  simp [hi,c_toAtom _ _ (h.2 _ (List.getElem_mem hi)).2,h3,h4,h1]
theorem Zbo3 (xs:List Atom) (h:SmL Atom.small xs):C Zbbd [L 2 (xs.map Atom.c)] []=some (.own 0,[.arr Zn0 2 true (xs.map Atom.c)]):=by
 refine run Zbnv rfl ?_
 have hl:xs.length≤4294967296:=h.1
 have h1:∀ b,b≤4096→xs.length*b≤room:=fun b hb=>Nat.le_trans (Nat.mul_le_mul hl hb) (by decide)
 have h2:(xs.length:Int)≤140737488355328:=by omega
 have h3:=fun fr=>Zbo2 xs h fr 0 (Nat.zero_le _)
 simp [fill_zero] at h3
 simp [Z9l,h1,h2,h3]
theorem Zbo4 (xs ys:List Atom) (h:SmL Atom.small xs) (hl:ys.length=xs.length) (fr:List Fr):∀ i,i≤xs.length→EvL C fr [0,1,5] Zq3 ⟨[(0,L 2 (xs.map Atom.c)),(1,L 2 (ys.map Atom.c)),(5,I i)],[[]],[]⟩ =
  if xs.drop i=ys.drop i then EvX C fr (.x 0) ⟨[(0,L 2 (xs.map Atom.c)),(1,L 2 (ys.map Atom.c)),(5,I xs.length),(14,Bo false)],[[]],[]⟩ else EvX C fr .r ⟨[(4,Bo false)],[[]],[]⟩:=by
 have hm:xs.length≤4294967296:=h.1
 refine down xs.length ?_ ?_
 ·rw [EvL_eq Zq3.eq_1]
  simp [hl,List.drop_eq_nil_of_le]
 ·intro i hi ih
  have hi2:i<ys.length:=by omega
  have h4:IntKind.wrap .i64 ((i:Int)+1)=(i:Int)+1:=wrap64 (by omega) (by omega)
  rw [EvL_eq Zq3.eq_1]
  simp +decide [hi,hi2,c_eqAtom _ _ _ _ (h.2 _ (List.getElem_mem hi)).2,h4]
  simp at ih
  simp only [drop_eq_iff hi hi2,ih,Atom.ext_iff]
  split <;> first | (simp_all;done) | grind
theorem Zbo5 (xs ys:List Atom) (h:SmL Atom.small xs):C Zbbh [L 2 (xs.map Atom.c),L 2 (ys.map Atom.c)] []=some (Bo (decide (xs=ys)),[]):=by
 refine run Zbnz rfl ?_
 by_cases hl:ys.length=xs.length
 ·have h3:=fun fr=>Zbo4 xs ys h hl fr 0 (Nat.zero_le _)
  simp at h3
  simp [Zx1,h3,hl]
  split <;> simp_all
 ·have h1:xs≠ys:=fun h=>hl (by rw [h])
  have h2:¬ ((xs.length:Int)=ys.length):=by omega
  simp [Zx1,h1,h2]
theorem Zbo6 (xs:List Atom) (h:OkL Atom.okay xs) (fr:List Fr):∀ i,i≤xs.length→∀ left:Int,
  (EvL C fr [0,1,5] Zhy ⟨[(0,L 2 (xs.map Atom.c)),(1,I left),(5,I i)],[[]],[]⟩=EvX C fr .r ⟨[(4,I (-1))],[[]],[]⟩∧szFold Atom.sz (xs.drop i) left=-1) ∨
  EvL C fr [0,1,5] Zhy ⟨[(0,L 2 (xs.map Atom.c)),(1,I left),(5,I i)],[[]],[]⟩=EvX C fr (.x 0) ⟨[(0,L 2 (xs.map Atom.c)),(1,I (szFold Atom.sz (xs.drop i) left)),(5,I xs.length),(15,Bo false)],[[]],[]⟩:=by
 have hm:maxLen≤9223372036854775807:=by decide
 have hl:=h.1
 refine down xs.length ?_ ?_
 ·intro left
  right
  rw [EvL_eq Zhy.eq_1]
  simp [List.drop_eq_nil_of_le,szFold]
 ·intro i hi ih left
  have h4:IntKind.wrap .i64 ((i:Int)+1)=(i:Int)+1:=wrap64 (by omega) (by omega)
  have e:EvL C fr [0,1,5] Zhy ⟨[(0,L 2 (xs.map Atom.c)),(1,I left),(5,I i)],[[]],[]⟩=if Atom.sz xs[i] left<0 then EvX C fr .r ⟨[(4,I (-1))],[[]],[]⟩ else EvL C fr [0,1,5] Zhy ⟨[(0,L 2 (xs.map Atom.c)),(1,I (Atom.sz xs[i] left)),(5,I ((i+1:Nat):Int))],[[]],[]⟩:=by
   rw [EvL_eq Zhy.eq_1]
   simp [hi,c_szAtom,h4]
  rw [e,List.drop_eq_getElem_cons hi,szFold]
  split
  ·exact .inl ⟨rfl,rfl⟩
  ·exact ih _
theorem Zbo7 (xs:List Atom) (left:Int) (h:OkL Atom.okay xs):C Zba9 [L 2 (xs.map Atom.c),I left] []=some (I (szL Atom.sz xs left),[]):=by
 refine run Zbnr rfl ?_
 have h3:=fun fr l=>Zbo6 xs h fr 0 (Nat.zero_le _) l
 simp at h3
 simp [Z9h,szL,andSz,sz1]
 split
 ·simp_all
 ·rcases h3 [.blk 0,.seq _,.fin _ _] (IntKind.wrap .i64 (left - xs.length)) with ⟨h5,h6⟩ | h5
  ·rw [h5];simp [h6]
  ·rw [h5];simp
theorem Zbo8 (x0:Int) (x1:List Atom) (h1:SmL Atom.small x1):C Zbay [.agg [I x0,.t (.lst 2 (x1.map Atom.c))]] []=some (.agg [I x0,.own 0],[.arr Zn0 2 true (x1.map Atom.c)]):=by
 refine run Zbng rfl ?_
 simp [Z83,Zbo3 _ h1]
theorem Zbo9 (x0:Int) (x1:List Atom) (y0:Int) (y1:List Atom) (h1:SmL Atom.small x1):C Zba1 [.agg [I x0,.t (.lst 2 (x1.map Atom.c))],.agg [I y0,.t (.lst 2 (y1.map Atom.c))]] []=some (Bo (decide (x0=y0∧x1=y1)),[]):=by
 refine run Zbnj rfl ?_
 simp [Z85,Zbo5 _ _ h1]
 repeat' split
 all_goals first | (simp_all;done) | grind
theorem Zbpa (x0:Int) (x1:List Atom) (left:Int) (h1:OkL Atom.okay x1):C Zbaw [.agg [I x0,.t (.lst 2 (x1.map Atom.c))],I left] []=some (I (Zc.sz ⟨x0,x1⟩ left),[]):=by
 refine run Zbne rfl ?_
 simp [Z81,Zbo7 _ _ h1,Zc.sz,andSz,sz1]
 repeat' split
 all_goals first | (simp_all;done) | grind
theorem Zbpb (x0:Int) (x1:Int) :C Zbb0 [.agg [I x0,I x1]] []=some (.agg [I x0,I x1],[]):=by
 refine run Zboi rfl ?_
 simp [Z99]
theorem Zbpc (x0:Int) (x1:Int) (y0:Int) (y1:Int) :C Zbb1 [.agg [I x0,I x1],.agg [I y0,I y1]] []=some (Bo (decide (x0=y0∧x1=y1)),[]):=by
 refine run Zboj rfl ?_
 simp [Zbaa]
 repeat' split
 all_goals first | (simp_all;done) | grind
theorem Zbpd (xs:List Zf) (h:SmA xs) (fr:List Fr):∀ i,i≤xs.length→EvL C fr [0,3,4] Zra ⟨[(0,L 2 (xs.map Zf.c)),(3,.own 0),(4,I i)],[[]],[.arr Zeu 2 true (fill Zf.c [.int .i64 0,.int .i64 0] xs i)]⟩ =
  EvX C fr (.x 0) ⟨[(0,L 2 (xs.map Zf.c)),(3,.own 0),(4,I xs.length),(11,Bo false)],[[]],[.arr Zeu 2 true (xs.map Zf.c)]⟩:=by
 have hl:xs.length≤4294967296:=h
 refine down xs.length ?_ ?_
 ·rw [EvL_eq Zra.eq_1]
  simp [fill_all]
 ·intro i hi ih
  rw [EvL_eq Zra.eq_1,← ih]
  have h1:=fill_set (f:=Zf.c) (z:=[.int .i64 0,.int .i64 0]) hi
  have h3:=fill_len (f:=Zf.c) (z:=[.int .i64 0,.int .i64 0]) (Nat.le_of_lt hi)
  have h4:IntKind.wrap .i64 ((i:Int)+1)=(i:Int)+1:=wrap64 (by omega) (by omega)
  simp at h1
  simp [hi,Zbpb,h3,h4,h1]
theorem Zbpe (xs:List Zf) (h:SmA xs):C Zbbr [L 2 (xs.map Zf.c)] []=some (.own 0,[.arr Zeu 2 true (xs.map Zf.c)]):=by
 refine run Zbn9 rfl ?_
 have hl:xs.length≤4294967296:=h
 have h1:∀ b,b≤4096→xs.length*b≤room:=fun b hb=>Nat.le_trans (Nat.mul_le_mul hl hb) (by decide)
 have h2:(xs.length:Int)≤140737488355328:=by omega
 have h3:=fun fr=>Zbpd xs h fr 0 (Nat.zero_le _)
 simp [fill_zero] at h3
 simp [Z90,h1,h2,h3]
theorem Zbpf (xs ys:List Zf) (h:SmA xs) (hl:ys.length=xs.length) (fr:List Fr):∀ i,i≤xs.length→EvL C fr [0,1,5] Zrb ⟨[(0,L 2 (xs.map Zf.c)),(1,L 2 (ys.map Zf.c)),(5,I i)],[[]],[]⟩ =
  if xs.drop i=ys.drop i then EvX C fr (.x 0) ⟨[(0,L 2 (xs.map Zf.c)),(1,L 2 (ys.map Zf.c)),(5,I xs.length),(14,Bo false)],[[]],[]⟩ else EvX C fr .r ⟨[(4,Bo false)],[[]],[]⟩:=by
 have hm:xs.length≤4294967296:=h
 refine down xs.length ?_ ?_
 ·rw [EvL_eq Zrb.eq_1]
  simp [hl,List.drop_eq_nil_of_le]
 ·intro i hi ih
  have hi2:i<ys.length:=by omega
  have h4:IntKind.wrap .i64 ((i:Int)+1)=(i:Int)+1:=wrap64 (by omega) (by omega)
  rw [EvL_eq Zrb.eq_1]
  simp +decide [hi,hi2,Zbpc _ _ _ _ ,h4]
  simp at ih
  simp only [drop_eq_iff hi hi2,ih,Zf.ext_iff]
  split <;> first | (simp_all;done) | grind
theorem Zbpg (xs ys:List Zf) (h:SmA xs):C Zbbt [L 2 (xs.map Zf.c),L 2 (ys.map Zf.c)] []=some (Bo (decide (xs=ys)),[]):=by
 refine run Zbob rfl ?_
 by_cases hl:ys.length=xs.length
 ·have h3:=fun fr=>Zbpf xs ys h hl fr 0 (Nat.zero_le _)
  simp at h3
  simp [Zx7,h3,hl]
  split <;> simp_all
 ·have h1:xs≠ys:=fun h=>hl (by rw [h])
  have h2:¬ ((xs.length:Int)=ys.length):=by omega
  simp [Zx7,h1,h2]
@[simp] theorem Zbph (es:List (List T)) (left:Int):C Zbbp [L 2 es,I left] []=some (I (sz1 es.length left),[]):=by
 refine run Zbn7 rfl ?_
 simp [Z9y,sz1]
 split <;> simp_all
theorem Znl (x0:Int) (x1:Int) (x2:Int) (x3:Int) (x4:Int) (x5:List Zf) (h5:SmA x5):C Zbbc [.agg [I x0,I x1,I x2,I x3,I x4,.t (.lst 2 (x5.map Zf.c))]] []=some (.agg [I x0,I x1,I x2,I x3,I x4,.own 0],[.arr Zeu 2 true (x5.map Zf.c)]):=by
 refine run Zbnu rfl ?_
 simp [Z9k,Zbpe _ h5]
theorem Znm (x0:Int) (x1:Int) (x2:Int) (x3:Int) (x4:Int) (x5:List Zf) (y0:Int) (y1:Int) (y2:Int) (y3:Int) (y4:Int) (y5:List Zf) (h5:SmA x5):C Zbbg [.agg [I x0,I x1,I x2,I x3,I x4,.t (.lst 2 (x5.map Zf.c))],.agg [I y0,I y1,I y2,I y3,I y4,.t (.lst 2 (y5.map Zf.c))]] []=some (Bo (decide (x0=y0∧x1=y1∧x2=y2∧x3=y3∧x4=y4∧x5=y5)),[]):=by
 refine run Zbny rfl ?_
 simp [Z9o,Zbpg _ _ h5]
 repeat' split
 all_goals first | (simp_all;done) | grind
theorem Zbpi (x0:Int) (x1:Int) (x2:Int) (x3:Int) (x4:Int) (x5:List Zf) (left:Int) :C Zba8 [.agg [I x0,I x1,I x2,I x3,I x4,.t (.lst 2 (x5.map Zf.c))],I left] []=some (I (Zj.sz ⟨x0,x1,x2,x3,x4,x5⟩ left),[]):=by
 refine run Zbnq rfl ?_
 simp [Z9g,Zbph,Zj.sz,andSz,sz1]
 repeat' split
 all_goals first | (simp_all;done) | grind
theorem Zbpj (x0:Int) (x1:Int) (x2:Int) (x3:Int) (x4:Int) (x5:List Zf) (x6:Int) (x7:Int) (x8:Int) (x9:Int) (x10:Int) (x11:List Zf) (x12:Int) (x13:Int) (x14:Int) (x15:Int) (x16:Int) (x17:List Zf) (x18:Int) (x19:Int) (x20:Int) (x21:Int) (x22:Int) (x23:List Zf) (x24:Int) (x25:Int) (x26:Int) (x27:Int) (x28:Int) (x29:List Zf) (h5:SmA x5) (h11:SmA x11) (h17:SmA x17) (h23:SmA x23) (h29:SmA x29):C Zbax [.agg [I x0,I x1,I x2,I x3,I x4,.t (.lst 2 (x5.map Zf.c)),I x6,I x7,I x8,I x9,I x10,.t (.lst 2 (x11.map Zf.c)),I x12,I x13,I x14,I x15,I x16,.t (.lst 2 (x17.map Zf.c)),I x18,I x19,I x20,I x21,I x22,.t (.lst 2 (x23.map Zf.c)),I x24,I x25,I x26,I x27,I x28,.t (.lst 2 (x29.map Zf.c))]] []=some (.agg [I x0,I x1,I x2,I x3,I x4,.own 0,I x6,I x7,I x8,I x9,I x10,.own 1,I x12,I x13,I x14,I x15,I x16,.own 2,I x18,I x19,I x20,I x21,I x22,.own 3,I x24,I x25,I x26,I x27,I x28,.own 4],[.arr Zeu 2 true (x5.map Zf.c),.arr Zeu 2 true (x11.map Zf.c),.arr Zeu 2 true (x17.map Zf.c),.arr Zeu 2 true (x23.map Zf.c),.arr Zeu 2 true (x29.map Zf.c)]):=by
 refine run Zbnf rfl ?_
 simp [Z82,Znl _ _ _ _ _ _ h5,Znl _ _ _ _ _ _ h11,Znl _ _ _ _ _ _ h17,Znl _ _ _ _ _ _ h23,Znl _ _ _ _ _ _ h29]
theorem Zbpk (x0:Int) (x1:Int) (x2:Int) (x3:Int) (x4:Int) (x5:List Zf) (x6:Int) (x7:Int) (x8:Int) (x9:Int) (x10:Int) (x11:List Zf) (x12:Int) (x13:Int) (x14:Int) (x15:Int) (x16:Int) (x17:List Zf) (x18:Int) (x19:Int) (x20:Int) (x21:Int) (x22:Int) (x23:List Zf) (x24:Int) (x25:Int) (x26:Int) (x27:Int) (x28:Int) (x29:List Zf) (y0:Int) (y1:Int) (y2:Int) (y3:Int) (y4:Int) (y5:List Zf) (y6:Int) (y7:Int) (y8:Int) (y9:Int) (y10:Int) (y11:List Zf) (y12:Int) (y13:Int) (y14:Int) (y15:Int) (y16:Int) (y17:List Zf) (y18:Int) (y19:Int) (y20:Int) (y21:Int) (y22:Int) (y23:List Zf) (y24:Int) (y25:Int) (y26:Int) (y27:Int) (y28:Int) (y29:List Zf) (h5:SmA x5) (h11:SmA x11) (h17:SmA x17) (h23:SmA x23) (h29:SmA x29):C Zba0 [.agg [I x0,I x1,I x2,I x3,I x4,.t (.lst 2 (x5.map Zf.c)),I x6,I x7,I x8,I x9,I x10,.t (.lst 2 (x11.map Zf.c)),I x12,I x13,I x14,I x15,I x16,.t (.lst 2 (x17.map Zf.c)),I x18,I x19,I x20,I x21,I x22,.t (.lst 2 (x23.map Zf.c)),I x24,I x25,I x26,I x27,I x28,.t (.lst 2 (x29.map Zf.c))],.agg [I y0,I y1,I y2,I y3,I y4,.t (.lst 2 (y5.map Zf.c)),I y6,I y7,I y8,I y9,I y10,.t (.lst 2 (y11.map Zf.c)),I y12,I y13,I y14,I y15,I y16,.t (.lst 2 (y17.map Zf.c)),I y18,I y19,I y20,I y21,I y22,.t (.lst 2 (y23.map Zf.c)),I y24,I y25,I y26,I y27,I y28,.t (.lst 2 (y29.map Zf.c))]] []=some (Bo (decide (x0=y0∧x1=y1∧x2=y2∧x3=y3∧x4=y4∧x5=y5∧x6=y6∧x7=y7∧x8=y8∧x9=y9∧x10=y10∧x11=y11∧x12=y12∧x13=y13∧x14=y14∧x15=y15∧x16=y16∧x17=y17∧x18=y18∧x19=y19∧x20=y20∧x21=y21∧x22=y22∧x23=y23∧x24=y24∧x25=y25∧x26=y26∧x27=y27∧x28=y28∧x29=y29)),[]):=by
 refine run Zbni rfl ?_
 simp [Z84,Znm _ _ _ _ _ _ _ _ _ _ _ _ h5,Znm _ _ _ _ _ _ _ _ _ _ _ _ h11,Znm _ _ _ _ _ _ _ _ _ _ _ _ h17,Znm _ _ _ _ _ _ _ _ _ _ _ _ h23,Znm _ _ _ _ _ _ _ _ _ _ _ _ h29]
 repeat' split
 all_goals first | (simp_all;done) | grind
theorem Zbpl (x0:Int) (x1:Int) (x2:Int) (x3:Int) (x4:Int) (x5:List Zf) (x6:Int) (x7:Int) (x8:Int) (x9:Int) (x10:Int) (x11:List Zf) (x12:Int) (x13:Int) (x14:Int) (x15:Int) (x16:Int) (x17:List Zf) (x18:Int) (x19:Int) (x20:Int) (x21:Int) (x22:Int) (x23:List Zf) (x24:Int) (x25:Int) (x26:Int) (x27:Int) (x28:Int) (x29:List Zf) (left:Int) :C Zbav [.agg [I x0,I x1,I x2,I x3,I x4,.t (.lst 2 (x5.map Zf.c)),I x6,I x7,I x8,I x9,I x10,.t (.lst 2 (x11.map Zf.c)),I x12,I x13,I x14,I x15,I x16,.t (.lst 2 (x17.map Zf.c)),I x18,I x19,I x20,I x21,I x22,.t (.lst 2 (x23.map Zf.c)),I x24,I x25,I x26,I x27,I x28,.t (.lst 2 (x29.map Zf.c))],I left] []=some (I (Zd.sz ⟨⟨x0,x1,x2,x3,x4,x5⟩,⟨x6,x7,x8,x9,x10,x11⟩,⟨x12,x13,x14,x15,x16,x17⟩,⟨x18,x19,x20,x21,x22,x23⟩,⟨x24,x25,x26,x27,x28,x29⟩⟩ left),[]):=by
 refine run Zbnd rfl ?_
 simp [Z80,Zbpi,Zd.sz,andSz,sz1]
 repeat' split
 all_goals first | (simp_all;done) | grind
theorem Zbpm (x0:Int) (x1:Int) (x2:Int) (y0:Int) (y1:Int) (y2:Int) :C Zbbz [.agg [I x0,I x1,I x2],.agg [I y0,I y1,I y2]] []=some (Bo (decide (x0=y0∧x1=y1∧x2=y2)),[]):=by
 refine run Zboh rfl ?_
 simp [Z98]
 repeat' split
 all_goals first | (simp_all;done) | grind
theorem Zbpn (xs ys:List Zb) (h:SmA xs) (hl:ys.length=xs.length) (fr:List Fr):∀ i,i≤xs.length→EvL C fr [0,1,5] Znh ⟨[(0,L 3 (xs.map Zb.c)),(1,L 3 (ys.map Zb.c)),(5,I i)],[[]],[]⟩ =
  if xs.drop i=ys.drop i then EvX C fr (.x 0) ⟨[(0,L 3 (xs.map Zb.c)),(1,L 3 (ys.map Zb.c)),(5,I xs.length),(14,Bo false)],[[]],[]⟩ else EvX C fr .r ⟨[(4,Bo false)],[[]],[]⟩:=by
 have hm:xs.length≤4294967296:=h
 refine down xs.length ?_ ?_
 ·rw [EvL_eq Znh.eq_1]
  simp [hl,List.drop_eq_nil_of_le]
 ·intro i hi ih
  have hi2:i<ys.length:=by omega
  have h4:IntKind.wrap .i64 ((i:Int)+1)=(i:Int)+1:=wrap64 (by omega) (by omega)
  rw [EvL_eq Znh.eq_1]
  simp +decide [hi,hi2,Zbpm _ _ _ _ _ _ ,h4]
  simp at ih
  simp only [drop_eq_iff hi hi2,ih,Zb.ext_iff]
  split <;> first | (simp_all;done) | grind
theorem Zbpo (xs ys:List Zb) (h:SmA xs):C Zyu [L 3 (xs.map Zb.c),L 3 (ys.map Zb.c)] []=some (Bo (decide (xs=ys)),[]):=by
 refine run Z9u rfl ?_
 by_cases hl:ys.length=xs.length
 ·have h3:=fun fr=>Zbpn xs ys h hl fr 0 (Nat.zero_le _)
  simp at h3
  simp [Zq8,h3,hl]
  split <;> simp_all
 ·have h1:xs≠ys:=fun h=>hl (by rw [h])
  have h2:¬ ((xs.length:Int)=ys.length):=by omega
  simp [Zq8,h1,h2]
theorem c_eqPlan (x0:List Zb) (y0:List Zb) (h0:SmA x0):C Zyr [.agg [.t (.lst 3 (x0.map Zb.c))],.agg [.t (.lst 3 (y0.map Zb.c))]] []=some (Bo (decide (x0=y0)),[]):=by
 refine run Z9c rfl ?_
 simp [Zxy,Zbpo _ _ h0]
 repeat' split
 all_goals first | (simp_all;done) | grind
def mkL {α:Type} (f:α→Int→α) (n:α→Nat):List α→Int→List α
 | [],_=>[]
 | x::xs,k=>f x k::mkL f n xs (k+(n x:Int))
def cnL {α:Type} (n:α→Nat):List α→Nat
 | []=>0
 | x::xs=>n x+cnL n xs
def mkI (xs:List Int) (k:Int):List Int:=mkL (fun _ k=>k) (fun _=>1) xs k
theorem mkI_cons (x:Int) (xs:List Int) (k:Int):mkI (x::xs) k=k::mkI xs (k+1):=rfl
theorem Zbpp (e:Nat) (fr:List Fr):∀ (xs d:List Int) (k:Int),0≤k→k+(xs.length:Int)≤4611686018427387904→d.length+xs.length≤4294967296→EvL C fr [0,1,5] Znf ⟨[(0,.own 0),(1,I k),(5,I d.length)],[[(0,.own 0)]],[.xarr e 1 ((d++xs).map ic)]⟩ =
  EvX C fr (.x 0) ⟨[(0,.own 0),(1,I (k+xs.length)),(5,I (d.length+xs.length)),(9,Bo false)],[[(0,.own 0)]],[.xarr e 1 ((d++mkI xs k).map ic)]⟩:=by
 intro xs
 induction xs with
 | nil =>
  intro d k h1 h2 h3
  rw [EvL_eq Znf.eq_1]
  simp [mkI,mkL]
 | cons x xs ih =>
  intro d k h1 h2 h3
  simp only [List.length_cons] at h2 h3
  have ih':=ih (d++[k]) (k+1) (by omega) (by omega) (by simp;omega)
  rw [EvL_eq Znf.eq_1]
  have g1:IntKind.wrap .i64 ((d.length:Int)+1)=(d.length:Int)+1:=wrap64 (by omega) (by omega)
  have g2:IntKind.wrap .i64 (k+1)=k+1:=wrap64 (by omega) (by omega)
  have g3:(d.length:Int)<(d.length:Int)+((xs.length:Int)+1):=by omega
  have g4:k+1+(xs.length:Int)=k+((xs.length:Int)+1):=by omega
  have g5:(d.length:Int)+1+(xs.length:Int)=(d.length:Int)+((xs.length:Int)+1):=by omega
  simp [g4,g5] at ih'
  simp [g1,g2,g3,ih',mkI_cons]
theorem Zbpq (e:Nat) (xs:List Int) (k:Int) (h1:0≤k) (h2:k+(xs.length:Int)≤4611686018427387904) (h3:SmA xs):C Zny [.own 0,I k] [.xarr e 1 (xs.map ic)]=some (I (k+xs.length),[.xarr e 1 ((mkI xs k).map ic)]):=by
 refine runM Z88 rfl ?_
 have h4:=fun fr=>Zbpp e fr xs [] k h1 h2 (by have:xs.length≤4294967296:=h3;simp;omega)
 simp at h4
 simp [Zxx,h4]
theorem Zbpr (n:Nat) (k:Int):C Zny [.t (.lst n []),I k] []=some (I k,[]):=by
 refine run Z88 rfl ?_
 simp [Zxx,EvL_eq Znf.eq_1]
theorem strB_one (x:Int):(strB [x]).size=1:=by simp [strB];rfl
theorem Zbps (fr:List Fr):∀ (n:Nat) (k:Int) (out:ByteArray),k.toNat≤n→(out.size:Int)+k≤4611686018427387904→0≤k→∃ s,s.size≤out.size+n∧EvL C fr [0,3] Znk ⟨[(0,I k),(3,.t (.str out))],[[]],[]⟩=EvX C fr (.x 0) ⟨[(0,I 0),(3,.t (.str s)),(7,Bo false)],[[]],[]⟩:=by
 intro n
 induction n with
 | zero =>
  intro k out h1 h2 h3
  have:k=0:=by omega
  subst this
  rw [EvL_eq Znk.eq_1]
  exact ⟨out,by simp⟩
 | succ n ih =>
  intro k out h1 h2 h3
  by_cases h0:k=0
  ·subst h0
   rw [EvL_eq Znk.eq_1]
   exact ⟨out,by simp⟩
  have hk:0<k:=by omega
  have e:k.tdiv 10=k / 10:=Int.tdiv_eq_ediv_of_nonneg h3
  have e2:IntKind.wrap .i64 (k / 10)=k / 10:=wrap64 (by omega) (by omega)
  generalize hx:IntKind.wrap .u8 (IntKind.wrap .i64 (48+k.tmod 10))=x
  have s1:=strB_one x
  have c:1+out.size≤9223372036854775807:=by omega
  obtain ⟨s,hs,hr⟩:=ih (k / 10) (strB [x]++out) (by omega) (by rw [ByteArray.size_append,s1];omega) (by omega)
  rw [ByteArray.size_append,s1] at hs
  refine ⟨s,by omega,?_⟩
  rw [EvL_eq Znk.eq_1]
  simp [hk,hx,s1,c,e,e2,hr]
theorem Zbpt (k:Int) (h1:0≤k) (h2:k≤4000000000000000000):∃ s,C Zrk [I k] []=some (.t (.str s),[]):=by
 by_cases h0:k=0
 ·subst h0
  refine ⟨⟨#[109,48]⟩,run Z94 rfl ?_⟩
  simp [Zx8]
 ·have h3:¬ k≤0:=by omega
  obtain ⟨s,hs,hr⟩:=Zbps [.blk 0,.seq (.seq (.reg [⟨some 18,none,.mov (.s 3)⟩,⟨some 19,none,.bin .add (.c (.t (.str ⟨#[109]⟩))) (.s 18)⟩,⟨some 2,none,.mov (.s 19)⟩] [2]) .ret),.fin 0 [.tmp 2]] k.toNat k ⟨#[]⟩ (Nat.le_refl _) (by simp [ByteArray.size];omega) h1
  have c:(⟨#[109]⟩:ByteArray).size+s.size≤9223372036854775807:=by
   have:(⟨#[]⟩:ByteArray).size=0:=rfl
   have:(⟨#[109]⟩:ByteArray).size=1:=rfl
   omega
  refine ⟨⟨#[109]⟩++s,run Z94 rfl ?_⟩
  simp at hr
  simp [Zx8,h3,hr,c]
noncomputable def mtext (k:Int):ByteArray:=match C Zrk [I k] [] with
 | some (.t (.str s),[])=>s
 | _=>⟨#[]⟩
theorem Zbae (k:Int) (h1:0≤k) (h2:k≤4000000000000000000):C Zrk [I k] []=some (.t (.str (mtext k)),[]):=by
 obtain ⟨s,h⟩:=Zbpt k h1 h2
 have:mtext k=s:=by unfold mtext;rw [h]
 rw [this,h]
theorem Zbaf (xs:List Int) (k:Int) (h1:0≤k) (h2:k+(xs.length:Int)≤4000000000000000000) (h3:SmA xs):(xs.map ic=[]∧(mkI xs (k)).map ic=[]∧C Zny [.t (.lst 1 []),I k] []=some (I (k+(xs.length:Int)),[]))∨∃ y ys,xs.map ic=y::ys∧True∧C Zny [.own 0,I k] [.xarr unk 1 (y::ys)]=some (I (k+(xs.length:Int)),[.xarr unk 1 ((mkI xs (k)).map ic)]):=by
 have c:=Zbpq unk xs k h1 (by omega) h3
 cases xs with
 | nil=>exact .inl ⟨rfl,rfl,by have:=Zbpr 1 k;simpa [mkI,mkL] using this⟩
 | cons y ys=>exact .inr ⟨_,_,rfl,trivial,c⟩
def Znn (a:List Int) (k:Int):List Int:=mkI a k
def Zeo (a:List Int):Nat:=a.length
def Zfh (xs:List (List Int)) (k:Int):List (List Int):=mkL Znn Zeo xs k
def Zbr (xs:List (List Int)):Nat:=cnL Zeo xs
theorem Zbpu (x:List Int) (xs:List (List Int)) (k:Int):Zfh (x::xs) k=Znn x k::Zfh xs (k+(Zeo x:Int)):=rfl
theorem Zbpv (e:Nat) (fr:List Fr):∀ (xs d:List (List Int)) (k:Int),0≤k→k+(Zbr xs:Int)≤4000000000000000000→d.length+xs.length≤4294967296→(∀ x∈xs,SmA x)→EvL C fr [0,1,5] Zng ⟨[(0,.own 0),(1,I k),(5,I d.length)],[[(0,.own 0)]],[.xarr e 1 ((d++xs).map isc)]⟩ =
  EvX C fr (.x 0) ⟨[(0,.own 0),(1,I (k+Zbr xs)),(5,I (d.length+xs.length)),(9,Bo false)],[[(0,.own 0)]],[.xarr e 1 ((d++Zfh xs k).map isc)]⟩:=by
 intro xs
 induction xs with
 | nil =>
  intro d k h1 h2 h3 h4
  rw [EvL_eq Zng.eq_1]
  simp [Zfh,Zbr,cnL,mkL]
 | cons x xs ih =>
  intro d k h1 h2 h3 h4
  have hx:=h4 x (by simp)
  have e0:Zbr (x::xs)=Zeo x+Zbr xs:=rfl
  rw [e0] at h2
  simp only [List.length_cons] at h3
  have e1:Zeo x=x.length:=rfl
  have eK:k+(Zeo x:Int)=k+(x.length:Int):=by omega
  have eL:k+(Zbr (x::xs):Int)=k+(x.length:Int)+(Zbr xs:Int):=by omega
  have ih':=ih (d++[Znn x k]) (k+(x.length:Int)) (by omega) (by omega) (by simp;omega) (fun y hy=>h4 y (by simp [hy]))
  rw [EvL_eq Zng.eq_1,eL,Zbpu,eK]
  have g1:IntKind.wrap .i64 ((d.length:Int)+1)=(d.length:Int)+1:=wrap64 (by omega) (by omega)
  have g3:(d.length:Int)<(d.length:Int)+((xs.length:Int)+1):=by omega
  have g5:(d.length:Int)+1+(xs.length:Int)=(d.length:Int)+((xs.length:Int)+1):=by omega
  have m0:=Zbaf x (k) (by omega) (by omega) hx
  rcases m0 with ⟨r0,s0,m0⟩ | ⟨y0,ys0,r0,s0,m0⟩
  all_goals (simp [g5,Znn,tI,r0,s0] at ih';simp [g1,g3,m0,r0,s0,ih',Znn,tI])
theorem Zbpw (e:Nat) (xs:List (List Int)) (k:Int) (h1:0≤k) (h2:k+(Zbr xs:Int)≤4000000000000000000) (h3:SmL SmA xs):C Znz [.own 0,I k] [.xarr e 1 (xs.map isc)]=some (I (k+Zbr xs),[.xarr e 1 ((Zfh xs k).map isc)]):=by
 refine runM Z9r rfl ?_
 have h4:=fun fr=>Zbpv e fr xs [] k h1 h2 (by have:xs.length≤4294967296:=h3.1;simp;omega) h3.2
 simp at h4
 simp [Zx3,h4]
theorem Zbpx (n:Nat) (k:Int):C Znz [.t (.lst n []),I k] []=some (I k,[]):=by
 refine run Z9r rfl ?_
 simp [Zx3,EvL_eq Zng.eq_1]
theorem Zbpy (xs:List (List Int)) (k:Int) (h1:0≤k) (h2:k+(Zbr xs:Int)≤4000000000000000000) (h3:SmL SmA xs):(xs.map isc=[]∧(Zfh xs (k)).map isc=[]∧C Znz [.t (.lst 1 []),I k] []=some (I (k+(Zbr xs:Int)),[]))∨∃ y ys,xs.map isc=y::ys∧True∧C Znz [.own 0,I k] [.xarr unk 1 (y::ys)]=some (I (k+(Zbr xs:Int)),[.xarr unk 1 ((Zfh xs (k)).map isc)]):=by
 have c:=Zbpw unk xs k h1 h2 h3
 cases xs with
 | nil=>exact .inl ⟨rfl,rfl,by have:=Zbpx 1 k;simpa [Zfh,Zbr,cnL,mkL] using this⟩
 | cons y ys=>exact .inr ⟨_,_,rfl,trivial,c⟩
noncomputable def Zno (a:Atom) (k:Int):Atom:=⟨mtext (k),mkI a.Vars (k+1)⟩
def Zep (a:Atom):Nat:=1+a.Vars.length
noncomputable def Zkh (xs:List Atom) (k:Int):List Atom:=mkL Zno Zep xs k
def Zcs (xs:List Atom):Nat:=cnL Zep xs
theorem Zbpz (x:Atom) (xs:List Atom) (k:Int):Zkh (x::xs) k=Zno x k::Zkh xs (k+(Zep x:Int)):=rfl
theorem Zbp0 (e:Nat) (fr:List Fr):∀ (xs d:List Atom) (k:Int),0≤k→k+(Zcs xs:Int)≤4000000000000000000→d.length+xs.length≤4294967296→(∀ x∈xs,x.small)→EvL C fr [0,1,5] Zq5 ⟨[(0,.own 0),(1,I k),(5,I d.length)],[[(0,.own 0)]],[.xarr e 2 ((d++xs).map Atom.c)]⟩ =
  EvX C fr (.x 0) ⟨[(0,.own 0),(1,I (k+Zcs xs)),(5,I (d.length+xs.length)),(9,Bo false)],[[(0,.own 0)]],[.xarr e 2 ((d++Zkh xs k).map Atom.c)]⟩:=by
 intro xs
 induction xs with
 | nil =>
  intro d k h1 h2 h3 h4
  rw [EvL_eq Zq5.eq_1]
  simp [Zkh,Zcs,cnL,mkL]
 | cons x xs ih =>
  intro d k h1 h2 h3 h4
  have hx:=h4 x (by simp)
  have e0:Zcs (x::xs)=Zep x+Zcs xs:=rfl
  rw [e0] at h2
  simp only [List.length_cons] at h3
  rcases x with ⟨x0,x1⟩
  have e1:Zep ⟨x0,x1⟩=1+x1.length:=rfl
  have eK:k+(Zep ⟨x0,x1⟩:Int)=k+1+(x1.length:Int):=by omega
  have eL:k+(Zcs (⟨x0,x1⟩::xs):Int)=k+1+(x1.length:Int)+(Zcs xs:Int):=by omega
  have ih':=ih (d++[Zno ⟨x0,x1⟩ k]) (k+1+(x1.length:Int)) (by omega) (by omega) (by simp;omega) (fun y hy=>h4 y (by simp [hy]))
  rw [EvL_eq Zq5.eq_1,eL,Zbpz,eK]
  have g1:IntKind.wrap .i64 ((d.length:Int)+1)=(d.length:Int)+1:=wrap64 (by omega) (by omega)
  have g3:(d.length:Int)<(d.length:Int)+((xs.length:Int)+1):=by omega
  have g5:(d.length:Int)+1+(xs.length:Int)=(d.length:Int)+((xs.length:Int)+1):=by omega
  have w0:IntKind.wrap .i64 (k+1)=k+1:=wrap64 (by omega) (by omega)
  have t0:=Zbae (k) (by omega) (by omega)
  have m0:=Zbaf x1 (k+1) (by omega) (by omega) (by first | exact hx | exact hx.1 | exact hx.2 | exact hx.2.1 | exact hx.2.2 | exact hx.2.2.1 | exact hx.2.2.2 | exact hx.2.2.2.1 | exact hx.2.2.2.2 | exact hx.2.2.2.2.1 | exact hx.2.2.2.2.2)
  rcases m0 with ⟨r0,s0,m0⟩ | ⟨y0,ys0,r0,s0,m0⟩
  all_goals (simp [g5,Zno,tI,r0,s0] at ih';simp [g1,g3,w0,t0,m0,r0,s0,ih',Zno,tI])
theorem Zbp1 (e:Nat) (xs:List Atom) (k:Int) (h1:0≤k) (h2:k+(Zcs xs:Int)≤4000000000000000000) (h3:SmL Atom.small xs):C Zbbk [.own 0,I k] [.xarr e 2 (xs.map Atom.c)]=some (I (k+Zcs xs),[.xarr e 2 ((Zkh xs k).map Atom.c)]):=by
 refine runM Zbn2 rfl ?_
 have h4:=fun fr=>Zbp0 e fr xs [] k h1 h2 (by have:xs.length≤4294967296:=h3.1;simp;omega) h3.2
 simp at h4
 simp [Z9q,h4]
noncomputable def Znp (a:Zf) (k:Int):Zf:=⟨k,k+1⟩
def Zki (a:Zf):Nat:=1+1
noncomputable def Zea (xs:List Zf) (k:Int):List Zf:=mkL Znp Zki xs k
def Zr (xs:List Zf):Nat:=cnL Zki xs
theorem Zbp2 (x:Zf) (xs:List Zf) (k:Int):Zea (x::xs) k=Znp x k::Zea xs (k+(Zki x:Int)):=rfl
theorem Zbp3 (e:Nat) (fr:List Fr):∀ (xs d:List Zf) (k:Int),0≤k→k+(Zr xs:Int)≤4000000000000000000→d.length+xs.length≤4294967296→(∀ x∈xs,x.small)→EvL C fr [0,1,5] Zrc ⟨[(0,.own 0),(1,I k),(5,I d.length)],[[(0,.own 0)]],[.xarr e 2 ((d++xs).map Zf.c)]⟩ =
  EvX C fr (.x 0) ⟨[(0,.own 0),(1,I (k+Zr xs)),(5,I (d.length+xs.length)),(9,Bo false)],[[(0,.own 0)]],[.xarr e 2 ((d++Zea xs k).map Zf.c)]⟩:=by
 intro xs
 induction xs with
 | nil =>
  intro d k h1 h2 h3 h4
  rw [EvL_eq Zrc.eq_1]
  simp [Zea,Zr,cnL,mkL]
 | cons x xs ih =>
  intro d k h1 h2 h3 h4
  have hx:=h4 x (by simp)
  have e0:Zr (x::xs)=Zki x+Zr xs:=rfl
  rw [e0] at h2
  simp only [List.length_cons] at h3
  rcases x with ⟨x0,x1⟩
  have e1:Zki ⟨x0,x1⟩=1+1:=rfl
  have eK:k+(Zki ⟨x0,x1⟩:Int)=k+1+1:=by omega
  have eL:k+(Zr (⟨x0,x1⟩::xs):Int)=k+1+1+(Zr xs:Int):=by omega
  have ih':=ih (d++[Znp ⟨x0,x1⟩ k]) (k+1+1) (by omega) (by omega) (by simp;omega) (fun y hy=>h4 y (by simp [hy]))
  rw [EvL_eq Zrc.eq_1,eL,Zbp2,eK]
  have g1:IntKind.wrap .i64 ((d.length:Int)+1)=(d.length:Int)+1:=wrap64 (by omega) (by omega)
  have g3:(d.length:Int)<(d.length:Int)+((xs.length:Int)+1):=by omega
  have g5:(d.length:Int)+1+(xs.length:Int)=(d.length:Int)+((xs.length:Int)+1):=by omega
  have w0:IntKind.wrap .i64 (k+1)=k+1:=wrap64 (by omega) (by omega)
  have w1:IntKind.wrap .i64 (k+1+1)=k+1+1:=wrap64 (by omega) (by omega)
  (simp [g5,Znp,tI] at ih';simp [g1,g3,w0,w1,ih',Znp,tI])
theorem Zbp4 (e:Nat) (xs:List Zf) (k:Int) (h1:0≤k) (h2:k+(Zr xs:Int)≤4000000000000000000) (h3:SmA xs):C Zbbv [.own 0,I k] [.xarr e 2 (xs.map Zf.c)]=some (I (k+Zr xs),[.xarr e 2 ((Zea xs k).map Zf.c)]):=by
 refine runM Zbod rfl ?_
 have h4:=fun fr=>Zbp3 e fr xs [] k h1 h2 (by have:xs.length≤4294967296:=h3;simp;omega) (fun _ _=>trivial)
 simp at h4
 simp [Z93,h4]
noncomputable def Zgi (a:Zb) (k:Int):Zb:=⟨k,k+1,k+1+1⟩
def Zfi (a:Zb):Nat:=1+1+1
noncomputable def Zdv (xs:List Zb) (k:Int):List Zb:=mkL Zgi Zfi xs k
def Zbd (xs:List Zb):Nat:=cnL Zfi xs
theorem Zbag (x:Zb) (xs:List Zb) (k:Int):Zdv (x::xs) k=Zgi x k::Zdv xs (k+(Zfi x:Int)):=rfl
theorem Zbp5 (e:Nat) (fr:List Fr):∀ (xs d:List Zb) (k:Int),0≤k→k+(Zbd xs:Int)≤4000000000000000000→d.length+xs.length≤4294967296→(∀ x∈xs,x.small)→EvL C fr [0,1,5] Zni ⟨[(0,.own 0),(1,I k),(5,I d.length)],[[(0,.own 0)]],[.xarr e 3 ((d++xs).map Zb.c)]⟩ =
  EvX C fr (.x 0) ⟨[(0,.own 0),(1,I (k+Zbd xs)),(5,I (d.length+xs.length)),(9,Bo false)],[[(0,.own 0)]],[.xarr e 3 ((d++Zdv xs k).map Zb.c)]⟩:=by
 intro xs
 induction xs with
 | nil =>
  intro d k h1 h2 h3 h4
  rw [EvL_eq Zni.eq_1]
  simp [Zdv,Zbd,cnL,mkL]
 | cons x xs ih =>
  intro d k h1 h2 h3 h4
  have hx:=h4 x (by simp)
  have e0:Zbd (x::xs)=Zfi x+Zbd xs:=rfl
  rw [e0] at h2
  simp only [List.length_cons] at h3
  rcases x with ⟨x0,x1,x2⟩
  have e1:Zfi ⟨x0,x1,x2⟩=1+1+1:=rfl
  have eK:k+(Zfi ⟨x0,x1,x2⟩:Int)=k+1+1+1:=by omega
  have eL:k+(Zbd (⟨x0,x1,x2⟩::xs):Int)=k+1+1+1+(Zbd xs:Int):=by omega
  have ih':=ih (d++[Zgi ⟨x0,x1,x2⟩ k]) (k+1+1+1) (by omega) (by omega) (by simp;omega) (fun y hy=>h4 y (by simp [hy]))
  rw [EvL_eq Zni.eq_1,eL,Zbag,eK]
  have g1:IntKind.wrap .i64 ((d.length:Int)+1)=(d.length:Int)+1:=wrap64 (by omega) (by omega)
  have g3:(d.length:Int)<(d.length:Int)+((xs.length:Int)+1):=by omega
  have g5:(d.length:Int)+1+(xs.length:Int)=(d.length:Int)+((xs.length:Int)+1):=by omega
  have w0:IntKind.wrap .i64 (k+1)=k+1:=wrap64 (by omega) (by omega)
  have w1:IntKind.wrap .i64 (k+1+1)=k+1+1:=wrap64 (by omega) (by omega)
  have w2:IntKind.wrap .i64 (k+1+1+1)=k+1+1+1:=wrap64 (by omega) (by omega)
  (simp [g5,Zgi,tI] at ih';simp [g1,g3,w0,w1,w2,ih',Zgi,tI])
theorem Zbp6 (e:Nat) (xs:List Zb) (k:Int) (h1:0≤k) (h2:k+(Zbd xs:Int)≤4000000000000000000) (h3:SmA xs):C Zyv [.own 0,I k] [.xarr e 3 (xs.map Zb.c)]=some (I (k+Zbd xs),[.xarr e 3 ((Zdv xs k).map Zb.c)]):=by
 refine runM Z9w rfl ?_
 have h4:=fun fr=>Zbp5 e fr xs [] k h1 h2 (by have:xs.length≤4294967296:=h3;simp;omega) (fun _ _=>trivial)
 simp at h4
 simp [Zx5,h4]
theorem Zbp7 (k:Int):C Zyv [.t .nil,I k] []=some (I k,[]):=by
 refine run Z9w rfl ?_
 simp [Zx5,EvL_eq Zni.eq_1]
theorem Zbp8 (fr:List Fr):∀ (xs d:List Zb) (k:Int),0≤k→k+(Zbd xs:Int)≤4000000000000000000→d.length+xs.length≤4294967296→(∀ x∈xs,x.small)→EvL C fr [0,1,5] Znj ⟨[(0,L 3 ((d++Zdv xs k).map Zb.c)),(1,I k),(5,I d.length)],[[]],[]⟩ =
  EvX C fr (.x 0) ⟨[(0,L 3 ((d++Zdv xs k).map Zb.c)),(1,I (k+Zbd xs)),(5,I (d.length+xs.length)),(9,Bo false)],[[]],[]⟩:=by
 intro xs
 induction xs with
 | nil =>
  intro d k h1 h2 h3 h4
  rw [EvL_eq Znj.eq_1]
  simp [Zdv,Zbd,cnL,mkL]
 | cons x xs ih =>
  intro d k h1 h2 h3 h4
  have hx:=h4 x (by simp)
  have e0:Zbd (x::xs)=Zfi x+Zbd xs:=rfl
  rw [e0] at h2
  simp only [List.length_cons] at h3
  rcases x with ⟨x0,x1,x2⟩
  have e1:Zfi ⟨x0,x1,x2⟩=1+1+1:=rfl
  have eK:k+(Zfi ⟨x0,x1,x2⟩:Int)=k+1+1+1:=by omega
  have eL:k+(Zbd (⟨x0,x1,x2⟩::xs):Int)=k+1+1+1+(Zbd xs:Int):=by omega
  have ih':=ih (d++[Zgi ⟨x0,x1,x2⟩ k]) (k+1+1+1) (by omega) (by omega) (by simp;omega) (fun y hy=>h4 y (by simp [hy]))
  rw [EvL_eq Znj.eq_1,eL,Zbag,eK]
  have g1:IntKind.wrap .i64 ((d.length:Int)+1)=(d.length:Int)+1:=wrap64 (by omega) (by omega)
  have g3:(d.length:Int)<(d.length:Int)+(((Zdv xs (k+1+1+1)).length:Int)+1):=by omega
  have g5:(d.length:Int)+1+(xs.length:Int)=(d.length:Int)+((xs.length:Int)+1):=by omega
  have w0:IntKind.wrap .i64 (k+1)=k+1:=wrap64 (by omega) (by omega)
  have w1:IntKind.wrap .i64 (k+1+1)=k+1+1:=wrap64 (by omega) (by omega)
  have w2:IntKind.wrap .i64 (k+1+1+1)=k+1+1+1:=wrap64 (by omega) (by omega)
  simp [g5,Zgi,tI] at ih'
  simp +decide [g1,g3,w0,w1,w2,ih',Zgi,tI]
theorem Zbp9 (xs:List Zb) (k:Int) (h1:0≤k) (h2:k+(Zbd xs:Int)≤4000000000000000000) (h3:SmA xs):C Zyw [L 3 ((Zdv xs k).map Zb.c),I k] []=some (I (k+Zbd xs),[]):=by
 refine run Z9x rfl ?_
 have h4:=fun fr=>Zbp8 fr xs [] k h1 h2 (by have:xs.length≤4294967296:=h3;simp;omega) (fun _ _=>trivial)
 simp at h4
 simp [Zx6,h4]
theorem Zbqa (k:Int):C Zyw [.t .nil,I k] []=some (I k,[]):=by
 refine run Z9x rfl ?_
 simp [Zx6,EvL_eq Znj.eq_1]
noncomputable def Znq (a:Zg) (k:Int):Zg:=⟨mtext (k),k+1,Zfh a.Rows (k+1+1)⟩
def Zeq (a:Zg):Nat:=1+1+Zbr a.Rows
noncomputable def Zkj (xs:List Zg) (k:Int):List Zg:=mkL Znq Zeq xs k
def Zck (xs:List Zg):Nat:=cnL Zeq xs
theorem Zbqb (x:Zg) (xs:List Zg) (k:Int):Zkj (x::xs) k=Znq x k::Zkj xs (k+(Zeq x:Int)):=rfl
theorem Zbqc (e:Nat) (fr:List Fr):∀ (xs d:List Zg) (k:Int),0≤k→k+(Zck xs:Int)≤4000000000000000000→d.length+xs.length≤4294967296→(∀ x∈xs,x.small)→EvL C fr [0,1,5] Zq9 ⟨[(0,.own 0),(1,I k),(5,I d.length)],[[(0,.own 0)]],[.xarr e 3 ((d++xs).map Zg.c)]⟩ =
  EvX C fr (.x 0) ⟨[(0,.own 0),(1,I (k+Zck xs)),(5,I (d.length+xs.length)),(9,Bo false)],[[(0,.own 0)]],[.xarr e 3 ((d++Zkj xs k).map Zg.c)]⟩:=by
 intro xs
 induction xs with
 | nil =>
  intro d k h1 h2 h3 h4
  rw [EvL_eq Zq9.eq_1]
  simp [Zkj,Zck,cnL,mkL]
 | cons x xs ih =>
  intro d k h1 h2 h3 h4
  have hx:=h4 x (by simp)
  have e0:Zck (x::xs)=Zeq x+Zck xs:=rfl
  rw [e0] at h2
  simp only [List.length_cons] at h3
  rcases x with ⟨x0,x1,x2⟩
  have e1:Zeq ⟨x0,x1,x2⟩=1+1+Zbr x2:=rfl
  have eK:k+(Zeq ⟨x0,x1,x2⟩:Int)=k+1+1+(Zbr x2:Int):=by omega
  have eL:k+(Zck (⟨x0,x1,x2⟩::xs):Int)=k+1+1+(Zbr x2:Int)+(Zck xs:Int):=by omega
  have ih':=ih (d++[Znq ⟨x0,x1,x2⟩ k]) (k+1+1+(Zbr x2:Int)) (by omega) (by omega) (by simp;omega) (fun y hy=>h4 y (by simp [hy]))
  rw [EvL_eq Zq9.eq_1,eL,Zbqb,eK]
  have g1:IntKind.wrap .i64 ((d.length:Int)+1)=(d.length:Int)+1:=wrap64 (by omega) (by omega)
  have g3:(d.length:Int)<(d.length:Int)+((xs.length:Int)+1):=by omega
  have g5:(d.length:Int)+1+(xs.length:Int)=(d.length:Int)+((xs.length:Int)+1):=by omega
  have w0:IntKind.wrap .i64 (k+1)=k+1:=wrap64 (by omega) (by omega)
  have w1:IntKind.wrap .i64 (k+1+1)=k+1+1:=wrap64 (by omega) (by omega)
  have t0:=Zbae (k) (by omega) (by omega)
  have m0:=Zbpy x2 (k+1+1) (by omega) (by omega) (by first | exact hx | exact hx.1 | exact hx.2 | exact hx.2.1 | exact hx.2.2 | exact hx.2.2.1 | exact hx.2.2.2 | exact hx.2.2.2.1 | exact hx.2.2.2.2 | exact hx.2.2.2.2.1 | exact hx.2.2.2.2.2)
  rcases m0 with ⟨r0,s0,m0⟩ | ⟨y0,ys0,r0,s0,m0⟩
  all_goals (simp [g5,Znq,tI,tII,r0,s0] at ih';simp [g1,g3,w0,w1,t0,m0,r0,s0,ih',Znq,tI,tII])
theorem Zbqd (e:Nat) (xs:List Zg) (k:Int) (h1:0≤k) (h2:k+(Zck xs:Int)≤4000000000000000000) (h3:SmL Zg.small xs):C Zbbo [.own 0,I k] [.xarr e 3 (xs.map Zg.c)]=some (I (k+Zck xs),[.xarr e 3 ((Zkj xs k).map Zg.c)]):=by
 refine runM Zbn6 rfl ?_
 have h4:=fun fr=>Zbqc e fr xs [] k h1 h2 (by have:xs.length≤4294967296:=h3.1;simp;omega) h3.2
 simp at h4
 simp [Z9v,h4]
theorem Zbqe (e0:Nat) (x0:List Zg) (k:Int) (h1:0≤k) (h2:k+(Zck x0:Int)≤4000000000000000000) (sx0:SmL Zg.small x0):C Zba7 [.agg [.own 0],I k] [.xarr e0 3 (x0.map Zg.c)]=some (I (k+(Zck x0:Int)),[.xarr e0 3 ((Zkj x0 (k)).map Zg.c)]):=by
 refine runM Zbnp rfl ?_
 have m0:=Zbqd e0 x0 (k) (by omega) (by omega) sx0
 simp [Z9d,m0]
theorem Znr (e0:Nat) (x0:Int) (x1:Int) (x2:Int) (x3:Int) (x4:Int) (x5:List Zf) (k:Int) (h1:0≤k) (h2:k+(Zr x5:Int)≤4000000000000000000) (sx5:SmA x5):C Zbbj [.agg [I x0,I x1,I x2,I x3,I x4,.own 0],I k] [.xarr e0 2 (x5.map Zf.c)]=some (I (k+(Zr x5:Int)),[.xarr e0 2 ((Zea x5 (k)).map Zf.c)]):=by
 refine runM Zbn1 rfl ?_
 have m0:=Zbp4 e0 x5 (k) (by omega) (by omega) sx5
 simp [Z9p,m0]
theorem Zbqf (e0 e1 e2 e3 e4:Nat) (x0:Int) (x1:Int) (x2:Int) (x3:Int) (x4:Int) (x5:List Zf) (x6:Int) (x7:Int) (x8:Int) (x9:Int) (x10:Int) (x11:List Zf) (x12:Int) (x13:Int) (x14:Int) (x15:Int) (x16:Int) (x17:List Zf) (x18:Int) (x19:Int) (x20:Int) (x21:Int) (x22:Int) (x23:List Zf) (x24:Int) (x25:Int) (x26:Int) (x27:Int) (x28:Int) (x29:List Zf) (k:Int) (h1:0≤k) (h2:k+(Zr x5:Int)+(Zr x11:Int)+(Zr x17:Int)+(Zr x23:Int)+(Zr x29:Int)≤4000000000000000000) (sx5:SmA x5) (sx11:SmA x11) (sx17:SmA x17) (sx23:SmA x23) (sx29:SmA x29):C Zba2 [.agg [I x0,I x1,I x2,I x3,I x4,.own 0,I x6,I x7,I x8,I x9,I x10,.own 1,I x12,I x13,I x14,I x15,I x16,.own 2,I x18,I x19,I x20,I x21,I x22,.own 3,I x24,I x25,I x26,I x27,I x28,.own 4],I k] [.xarr e0 2 (x5.map Zf.c),.xarr e1 2 (x11.map Zf.c),.xarr e2 2 (x17.map Zf.c),.xarr e3 2 (x23.map Zf.c),.xarr e4 2 (x29.map Zf.c)]=some (I (k+(Zr x5:Int)+(Zr x11:Int)+(Zr x17:Int)+(Zr x23:Int)+(Zr x29:Int)),[.xarr e0 2 ((Zea x5 (k)).map Zf.c),.xarr e1 2 ((Zea x11 (k+(Zr x5:Int))).map Zf.c),.xarr e2 2 ((Zea x17 (k+(Zr x5:Int)+(Zr x11:Int))).map Zf.c),.xarr e3 2 ((Zea x23 (k+(Zr x5:Int)+(Zr x11:Int)+(Zr x17:Int))).map Zf.c),.xarr e4 2 ((Zea x29 (k+(Zr x5:Int)+(Zr x11:Int)+(Zr x17:Int)+(Zr x23:Int))).map Zf.c)]):=by
 refine runM Zbnk rfl ?_
 have m0:=Znr e0 x0 x1 x2 x3 x4 x5 (k) (by omega) (by omega) sx5
 have m1:=Znr e1 x6 x7 x8 x9 x10 x11 (k+(Zr x5:Int)) (by omega) (by omega) sx11
 have m2:=Znr e2 x12 x13 x14 x15 x16 x17 (k+(Zr x5:Int)+(Zr x11:Int)) (by omega) (by omega) sx17
 have m3:=Znr e3 x18 x19 x20 x21 x22 x23 (k+(Zr x5:Int)+(Zr x11:Int)+(Zr x17:Int)) (by omega) (by omega) sx23
 have m4:=Znr e4 x24 x25 x26 x27 x28 x29 (k+(Zr x5:Int)+(Zr x11:Int)+(Zr x17:Int)+(Zr x23:Int)) (by omega) (by omega) sx29
 simp [Z86,m0,m1,m2,m3,m4]
theorem Zbqg (e0:Nat) (x0:Int) (x1:List Atom) (k:Int) (h1:0≤k) (h2:k+(Zcs x1:Int)≤4000000000000000000) (sx1:SmL Atom.small x1):C Zba3 [.agg [I x0,.own 0],I k] [.xarr e0 2 (x1.map Atom.c)]=some (I (k+(Zcs x1:Int)),[.xarr e0 2 ((Zkh x1 (k)).map Atom.c)]):=by
 refine runM Zbnl rfl ?_
 have m0:=Zbp1 e0 x1 (k) (by omega) (by omega) sx1
 simp [Z87,m0]
theorem Zh1 {n:Nat} {left:Int} (hn:n≤maxLen) (h0:0≤left) (h1:left≤1048576) (h:0≤sz1 n left):sz1 n left≤left∧(n:Int)≤left - sz1 n left:=by
 unfold maxLen at hn
 have hw:IntKind.wrap .i64 (left - n)=left - n:=wrap64 (by omega) (by omega)
 unfold sz1 at h ⊢
 rw [hw] at h ⊢
 split at h
 ·omega
 ·rename_i hx;rw [if_neg hx];omega
theorem Zbah {α:Type} {f:α→Int→Int} {n:α→Nat} {M:Int}:∀ (xs:List α) (left:Int),(∀ x∈xs,∀ l,0≤l→l≤M→0≤f x l→f x l≤l∧(n x:Int)≤16+16*(l - f x l))→0≤left→left≤M→0≤szFold f xs left→szFold f xs left≤left∧(cnL n xs:Int)≤16*(xs.length:Int)+16*(left - szFold f xs left)
 | [],left,_,_,_,h=>by simp [szFold,cnL]
 | x::xs,left,hf,h0,h1,h=>by
  unfold szFold at h ⊢
  split at h
  ·omega
  ·rename_i hx
   rw [if_neg hx]
   obtain ⟨h2,h3⟩:=hf x (by simp) left h0 h1 (by omega)
   obtain ⟨h4,h5⟩:=Zbah xs (f x left) (fun y hy=>hf y (by simp [hy])) (by omega) (by omega) h
   have e:cnL n (x::xs)=n x+cnL n xs:=rfl
   rw [e,List.length_cons]
   omega
theorem szL_ct {α:Type} {f:α→Int→Int} {n:α→Nat} {xs:List α} {left:Int} (hn:xs.length≤maxLen) (hf:∀ x∈xs,∀ l,0≤l→l≤1048576→0≤f x l→f x l≤l∧(n x:Int)≤16+16*(l - f x l)) (h0:0≤left) (h1:left≤1048576) (h:0≤szL f xs left) :
  szL f xs left≤left∧(cnL n xs:Int)≤16*(left - szL f xs left):=by
 unfold szL andSz at h ⊢
 split at h
 ·omega
 ·rename_i hx
  rw [if_neg hx]
  have a:=Zh1 hn h0 h1 (by omega)
  have b:=Zbah xs _ hf (by omega) (by omega) h
  omega
theorem Zx9 {α:Type} {n:α→Nat} {c:Nat} (h:∀ x,n x=c):∀ xs:List α,cnL n xs=c*xs.length
 | []=>rfl
 | x::xs=>by
  have e:cnL n (x::xs)=n x+cnL n xs:=rfl
  rw [e,h,Zx9 h xs,List.length_cons,Nat.mul_succ,Nat.add_comm]
theorem Zbqh (x:List Int) (l:Int) (hx:x.length≤maxLen) (h0:0≤l) (h1:l≤1048576) (h:0≤szI x l):szI x l≤l∧(Zeo x:Int)≤16+16*(l - szI x l):=by
 have a:=Zh1 hx h0 h1 h
 unfold Zeo
 have e:szI x l=sz1 x.length l:=rfl
 rw [e]
 omega
def Zya (x:Zg):Nat:=Zbr x.Rows
theorem Zg.ct (x:Zg) (l:Int) (hx:x.okay) (h0:0≤l) (h1:l≤1048576) (h:0≤x.sz l):x.sz l≤l∧(Zya x:Int)≤16*(l - x.sz l):=by
 unfold Zg.sz at h ⊢
 simp only [andSz] at h ⊢
 split at h
 ·omega
 rename_i q0
 rw [if_neg q0]
 have s0:=Zh1 hx.1 h0 h1 (Int.not_lt.1 q0)
 split at h
 ·omega
 rename_i q1
 rw [if_neg q1]
 have s1:=szL_ct (f:=szI) (n:=Zeo) hx.2.2.1 (fun y hy l a b c=>Zbqh y l (hx.2.2.2 y hy).1 a b c) (by omega) (by omega) (Int.not_lt.1 q1)
 refine ⟨by omega,?_⟩
 unfold Zya
 have v0:Zbr x.Rows=cnL Zeo x.Rows:=rfl
 omega
theorem Zbqi (x:Zg) (l:Int) (hx:x.okay) (h0:0≤l) (h1:l≤1048576) (h:0≤x.sz l):x.sz l≤l∧(Zeq x:Int)≤16+16*(l - x.sz l):=by
 have a:=Zg.ct x l hx h0 h1 h
 unfold Zya at a
 unfold Zeq
 omega
def Zyb (x:Zi):Nat:=Zck x.Tables
theorem Zi.ct (x:Zi) (l:Int) (hx:x.okay) (h0:0≤l) (h1:l≤1048576) (h:0≤x.sz l):x.sz l≤l∧(Zyb x:Int)≤16*(l - x.sz l):=by
 unfold Zi.sz at h ⊢
 simp only [andSz] at h ⊢
 split at h
 ·omega
 rename_i q0
 rw [if_neg q0]
 have s0:=szL_ct (n:=Zeq) hx.1 (fun y hy l a b c=>Zbqi y l (hx.2 y hy) a b c) h0 h1 (Int.not_lt.1 q0)
 refine ⟨by omega,?_⟩
 unfold Zyb
 have v0:Zck x.Tables=cnL Zeq x.Tables:=rfl
 omega
def Zyc (x:Atom):Nat:=x.Vars.length
theorem Atom.ct (x:Atom) (l:Int) (hx:x.okay) (h0:0≤l) (h1:l≤1048576) (h:0≤x.sz l):x.sz l≤l∧(Zyc x:Int)≤16*(l - x.sz l):=by
 unfold Atom.sz at h ⊢
 simp only [andSz] at h ⊢
 split at h
 ·omega
 rename_i q0
 rw [if_neg q0]
 have s0:=Zh1 hx.1 h0 h1 (Int.not_lt.1 q0)
 split at h
 ·omega
 rename_i q1
 rw [if_neg q1]
 have s1:=Zh1 hx.2.1 (by omega) (by omega) (Int.not_lt.1 q1)
 refine ⟨by omega,?_⟩
 unfold Zyc
 omega
theorem Zbqj (x:Atom) (l:Int) (hx:x.okay) (h0:0≤l) (h1:l≤1048576) (h:0≤x.sz l):x.sz l≤l∧(Zep x:Int)≤16+16*(l - x.sz l):=by
 have a:=Atom.ct x l hx h0 h1 h
 unfold Zyc at a
 unfold Zep
 omega
def Zyd (x:Zc):Nat:=Zcs x.Atoms
theorem Zc.ct (x:Zc) (l:Int) (hx:x.okay) (h0:0≤l) (h1:l≤1048576) (h:0≤x.sz l):x.sz l≤l∧(Zyd x:Int)≤16*(l - x.sz l):=by
 unfold Zc.sz at h ⊢
 simp only [andSz] at h ⊢
 split at h
 ·omega
 rename_i q0
 rw [if_neg q0]
 have s0:=szL_ct (n:=Zep) hx.2.1 (fun y hy l a b c=>Zbqj y l (hx.2.2 y hy) a b c) h0 h1 (Int.not_lt.1 q0)
 refine ⟨by omega,?_⟩
 unfold Zyd
 have v0:Zcs x.Atoms=cnL Zep x.Atoms:=rfl
 omega
theorem Zkk (xs:List Zf):Zr xs=2*xs.length:=Zx9 (fun _=>rfl) xs
def Zh2 (x:Zj):Nat:=Zr x.Steps
theorem Zj.ct (x:Zj) (l:Int) (hx:x.okay) (h0:0≤l) (h1:l≤1048576) (h:0≤x.sz l):x.sz l≤l∧(Zh2 x:Int)≤16*(l - x.sz l):=by
 unfold Zj.sz at h ⊢
 simp only [andSz] at h ⊢
 split at h
 ·omega
 rename_i q0
 rw [if_neg q0]
 have s0:=Zh1 hx.2.2.2.2.2.1 h0 h1 (Int.not_lt.1 q0)
 refine ⟨by omega,?_⟩
 unfold Zh2
 have v0:=Zkk x.Steps
 omega
def Zye (x:Zd):Nat:=Zr x.Scan.Steps+Zr x.Sort_.Steps+Zr x.Hash.Steps+Zr x.Merge.Steps+Zr x.Nested.Steps
theorem Zd.ct (x:Zd) (l:Int) (hx:x.okay) (h0:0≤l) (h1:l≤1048576) (h:0≤x.sz l):x.sz l≤l∧(Zye x:Int)≤16*(l - x.sz l):=by
 unfold Zd.sz at h ⊢
 simp only [andSz] at h ⊢
 split at h
 ·omega
 rename_i q0
 rw [if_neg q0]
 have s0:=Zj.ct x.Scan _ ⟨hx.1,hx.2.1,hx.2.2.1,hx.2.2.2.1,hx.2.2.2.2.1,hx.2.2.2.2.2.1⟩ h0 h1 (Int.not_lt.1 q0)
 split at h
 ·omega
 rename_i q1
 rw [if_neg q1]
 have s1:=Zj.ct x.Sort_ _ ⟨hx.2.2.2.2.2.2.1,hx.2.2.2.2.2.2.2.1,hx.2.2.2.2.2.2.2.2.1,hx.2.2.2.2.2.2.2.2.2.1,hx.2.2.2.2.2.2.2.2.2.2.1,hx.2.2.2.2.2.2.2.2.2.2.2.1⟩ (by omega) (by omega) (Int.not_lt.1 q1)
 split at h
 ·omega
 rename_i q2
 rw [if_neg q2]
 have s2:=Zj.ct x.Hash _ ⟨hx.2.2.2.2.2.2.2.2.2.2.2.2.1,hx.2.2.2.2.2.2.2.2.2.2.2.2.2.1,hx.2.2.2.2.2.2.2.2.2.2.2.2.2.2.1,hx.2.2.2.2.2.2.2.2.2.2.2.2.2.2.2.1,hx.2.2.2.2.2.2.2.2.2.2.2.2.2.2.2.2.1,hx.2.2.2.2.2.2.2.2.2.2.2.2.2.2.2.2.2.1⟩ (by omega) (by omega) (Int.not_lt.1 q2)
 split at h
 ·omega
 rename_i q3
 rw [if_neg q3]
 have s3:=Zj.ct x.Merge _ ⟨hx.2.2.2.2.2.2.2.2.2.2.2.2.2.2.2.2.2.2.1,hx.2.2.2.2.2.2.2.2.2.2.2.2.2.2.2.2.2.2.2.1,hx.2.2.2.2.2.2.2.2.2.2.2.2.2.2.2.2.2.2.2.2.1,hx.2.2.2.2.2.2.2.2.2.2.2.2.2.2.2.2.2.2.2.2.2.1,hx.2.2.2.2.2.2.2.2.2.2.2.2.2.2.2.2.2.2.2.2.2.2.1,hx.2.2.2.2.2.2.2.2.2.2.2.2.2.2.2.2.2.2.2.2.2.2.2.1⟩ (by omega) (by omega) (Int.not_lt.1 q3)
 split at h
 ·omega
 rename_i q4
 rw [if_neg q4]
 have s4:=Zj.ct x.Nested _ ⟨hx.2.2.2.2.2.2.2.2.2.2.2.2.2.2.2.2.2.2.2.2.2.2.2.2.1,hx.2.2.2.2.2.2.2.2.2.2.2.2.2.2.2.2.2.2.2.2.2.2.2.2.2.1,hx.2.2.2.2.2.2.2.2.2.2.2.2.2.2.2.2.2.2.2.2.2.2.2.2.2.2.1,hx.2.2.2.2.2.2.2.2.2.2.2.2.2.2.2.2.2.2.2.2.2.2.2.2.2.2.2.1,hx.2.2.2.2.2.2.2.2.2.2.2.2.2.2.2.2.2.2.2.2.2.2.2.2.2.2.2.2.1,hx.2.2.2.2.2.2.2.2.2.2.2.2.2.2.2.2.2.2.2.2.2.2.2.2.2.2.2.2.2⟩ (by omega) (by omega) (Int.not_lt.1 q4)
 refine ⟨by omega,?_⟩
 unfold Zye
 have v0:Zh2 x.Scan=Zr x.Scan.Steps:=rfl
 have v1:Zh2 x.Sort_=Zr x.Sort_.Steps:=rfl
 have v2:Zh2 x.Hash=Zr x.Hash.Steps:=rfl
 have v3:Zh2 x.Merge=Zr x.Merge.Steps:=rfl
 have v4:Zh2 x.Nested=Zr x.Nested.Steps:=rfl
 have v5:=Zkk x.Scan.Steps
 have v6:=Zkk x.Sort_.Steps
 have v7:=Zkk x.Hash.Steps
 have v8:=Zkk x.Merge.Steps
 have v9:=Zkk x.Nested.Steps
 omega
theorem Zbai (xs:List Zb):Zbd xs=3*xs.length:=Zx9 (fun _=>rfl) xs
def Zbaj (x:Plan):Nat:=Zbd x.Steps
theorem Plan.ct (x:Plan) (l:Int) (hx:x.okay) (h0:0≤l) (h1:l≤1048576) (h:0≤x.sz l):x.sz l≤l∧(Zbaj x:Int)≤16*(l - x.sz l):=by
 unfold Plan.sz at h ⊢
 simp only [andSz] at h ⊢
 split at h
 ·omega
 rename_i q0
 rw [if_neg q0]
 have s0:=Zh1 hx.1 h0 h1 (Int.not_lt.1 q0)
 refine ⟨by omega,?_⟩
 unfold Zbaj
 have v0:=Zbai x.Steps
 omega
theorem Zbqk:C Zyu [.t .nil,.t .nil] []=some (Bo true,[]):=by
 refine run Z9u rfl ?_
 simp [Zq8,EvL_eq Znh.eq_1]
theorem Zbql:C Zyr [.agg [.t .nil],.agg [.t .nil]] []=some (Bo true,[]):=by
 refine run Z9c rfl ?_
 simp [Zxy,Zbqk]
theorem Zbqm (e0:Nat) (x0:List Zb) (k:Int) (h1:0≤k) (h2:k+(Zbd x0:Int)≤4000000000000000000) (sx0:SmA x0):C Zys [.agg [.own 0],I k] [.xarr e0 3 (x0.map Zb.c)]=some (I (k+(Zbd x0:Int)),[.xarr e0 3 ((Zdv x0 (k)).map Zb.c)]):=by
 refine runM Z9e rfl ?_
 have m0:=Zbp6 e0 x0 (k) (by omega) (by omega) sx0
 simp [Zxz,m0]
theorem Zbqn  (k:Int):C Zys [.agg [.t .nil],I k] []=some (I k,[]):=by
 refine run Z9e rfl ?_
 simp [Zxz,Zbp7]
theorem Zbqo (x0:List Zb) (k:Int) (h1:0≤k) (h2:k+(Zbd x0:Int)≤4000000000000000000) (sx0:SmA x0):C Zyt [.agg [.t (.lst 3 ((Zdv x0 (k)).map Zb.c))],I k] []=some (I (k+(Zbd x0:Int)),[]):=by
 refine run Z9f rfl ?_
 have m0:=Zbp9 x0 (k) (by omega) (by omega) sx0
 have z0:¬ (k+(Zbd x0:Int)<0):=by omega
 simp [Zx0,tI,m0,z0]
theorem Zbqp  (k:Int) (h1:0≤k):C Zyt [.agg [.t .nil],I k] []=some (I k,[]):=by
 refine run Z9f rfl ?_
 have z:¬ (k<0):=by omega
 simp [Zx0,z,h1,Zbqa]
theorem Zbak (m:Zd) (d:Zi) (q:Zc) (hm:m.okay) (hd:d.okay) (hq:q.okay):C Zbau [.agg (m.c.map .t),.agg (d.c.map .t),.agg (q.c.map .t)] []=some (Bo true,[]):=by
 refine run Zbnc rfl ?_
 have e1:=fun l=>Zbpl m.Scan.Fixed m.Scan.Zl m.Scan.Zm m.Scan.Zo m.Scan.Zn m.Scan.Steps m.Sort_.Fixed m.Sort_.Zl m.Sort_.Zm m.Sort_.Zo m.Sort_.Zn m.Sort_.Steps m.Hash.Fixed m.Hash.Zl m.Hash.Zm m.Hash.Zo m.Hash.Zn m.Hash.Steps m.Merge.Fixed m.Merge.Zl m.Merge.Zm m.Merge.Zo m.Merge.Zn m.Merge.Steps m.Nested.Fixed m.Nested.Zl m.Nested.Zm m.Nested.Zo m.Nested.Zn m.Nested.Steps l
 by_cases h1:Zd.sz m (1048576)<0
 ·simp [Zkg,e1,h1]
 obtain ⟨b1,g1⟩:=Zd.Zbn m _ hm (by omega) (by omega) (by omega:0≤Zd.sz m (1048576))
 have u1:=(Zd.ct m _ hm (by omega) (by omega) (by omega:0≤Zd.sz m (1048576))).2
 unfold Zye at u1
 have e2:=fun l=>Zbo1 d.Tables l (hd)
 by_cases h2:Zi.sz d (Zd.sz m (1048576))<0
 ·simp [Zkg,e1,h1,e2,h2]
 obtain ⟨b2,g2⟩:=Zi.Zbn d _ hd (by omega) (by omega) (by omega:0≤Zi.sz d (Zd.sz m (1048576)))
 have u2:=(Zi.ct d _ hd (by omega) (by omega) (by omega:0≤Zi.sz d (Zd.sz m (1048576)))).2
 unfold Zyb at u2
 have e3:=fun l=>Zbpa q.Ze q.Atoms l (hq.2)
 by_cases h3:Zc.sz q (Zi.sz d (Zd.sz m (1048576)))<0
 ·simp [Zkg,e1,h1,e2,h2,e3,h3]
 obtain ⟨b3,g3⟩:=Zc.Zbn q _ hq (by omega) (by omega) (by omega:0≤Zc.sz q (Zi.sz d (Zd.sz m (1048576))))
 have u3:=(Zc.ct q _ hq (by omega) (by omega) (by omega:0≤Zc.sz q (Zi.sz d (Zd.sz m (1048576))))).2
 unfold Zyd at u3
 have t1:=Zbpj m.Scan.Fixed m.Scan.Zl m.Scan.Zm m.Scan.Zo m.Scan.Zn m.Scan.Steps m.Sort_.Fixed m.Sort_.Zl m.Sort_.Zm m.Sort_.Zo m.Sort_.Zn m.Sort_.Steps m.Hash.Fixed m.Hash.Zl m.Hash.Zm m.Hash.Zo m.Hash.Zn m.Hash.Steps m.Merge.Fixed m.Merge.Zl m.Merge.Zm m.Merge.Zo m.Merge.Zn m.Merge.Steps m.Nested.Fixed m.Nested.Zl m.Nested.Zm m.Nested.Zo m.Nested.Zn m.Nested.Steps (g1.1) (g1.2.1) (g1.2.2.1) (g1.2.2.2.1) (g1.2.2.2.2)
 have q1:=fun y0 y1 y2 y3 y4 y5 y6 y7 y8 y9 y10 y11 y12 y13 y14 y15 y16 y17 y18 y19 y20 y21 y22 y23 y24 y25 y26 y27 y28 y29=>Zbpk m.Scan.Fixed m.Scan.Zl m.Scan.Zm m.Scan.Zo m.Scan.Zn m.Scan.Steps m.Sort_.Fixed m.Sort_.Zl m.Sort_.Zm m.Sort_.Zo m.Sort_.Zn m.Sort_.Steps m.Hash.Fixed m.Hash.Zl m.Hash.Zm m.Hash.Zo m.Hash.Zn m.Hash.Steps m.Merge.Fixed m.Merge.Zl m.Merge.Zm m.Merge.Zo m.Merge.Zn m.Merge.Steps m.Nested.Fixed m.Nested.Zl m.Nested.Zm m.Nested.Zo m.Nested.Zn m.Nested.Steps y0 y1 y2 y3 y4 y5 y6 y7 y8 y9 y10 y11 y12 y13 y14 y15 y16 y17 y18 y19 y20 y21 y22 y23 y24 y25 y26 y27 y28 y29 (g1.1) (g1.2.1) (g1.2.2.1) (g1.2.2.2.1) (g1.2.2.2.2)
 have t2:=Zboz d.Tables (g2)
 have q2:=fun y0=>Zbo0 d.Tables y0 (g2)
 have t3:=Zbo8 q.Ze q.Atoms (g3)
 have q3:=fun y0 y1=>Zbo9 q.Ze q.Atoms y0 y1 (g3)
 have m1:=fun a0 a1 a2 a3 a4=>Zbqf a0 a1 a2 a3 a4 m.Scan.Fixed m.Scan.Zl m.Scan.Zm m.Scan.Zo m.Scan.Zn m.Scan.Steps m.Sort_.Fixed m.Sort_.Zl m.Sort_.Zm m.Sort_.Zo m.Sort_.Zn m.Sort_.Steps m.Hash.Fixed m.Hash.Zl m.Hash.Zm m.Hash.Zo m.Hash.Zn m.Hash.Steps m.Merge.Fixed m.Merge.Zl m.Merge.Zm m.Merge.Zo m.Merge.Zn m.Merge.Steps m.Nested.Fixed m.Nested.Zl m.Nested.Zm m.Nested.Zo m.Nested.Zn m.Nested.Steps (1) (by omega) (by omega) (g1.1) (g1.2.1) (g1.2.2.1) (g1.2.2.2.1) (g1.2.2.2.2)
 have m2:=fun a0=>Zbqe a0 d.Tables (1+(Zr m.Scan.Steps:Int)+(Zr m.Sort_.Steps:Int)+(Zr m.Hash.Steps:Int)+(Zr m.Merge.Steps:Int)+(Zr m.Nested.Steps:Int)) (by omega) (by omega) (g2)
 have m3:=fun a0=>Zbqg a0 q.Ze q.Atoms (1+(Zr m.Scan.Steps:Int)+(Zr m.Sort_.Steps:Int)+(Zr m.Hash.Steps:Int)+(Zr m.Merge.Steps:Int)+(Zr m.Nested.Steps:Int)+(Zck d.Tables:Int)) (by omega) (by omega) (g3)
 have zk:¬ (1+(Zr m.Scan.Steps:Int)+(Zr m.Sort_.Steps:Int)+(Zr m.Hash.Steps:Int)+(Zr m.Merge.Steps:Int)+(Zr m.Nested.Steps:Int)+(Zck d.Tables:Int)+(Zcs q.Atoms:Int)<0):=by omega
 have nm:LeM m:=⟨by have:=g1.1;omega,by have:=g1.2.1;omega,by have:=g1.2.2.1;omega,by have:=g1.2.2.2.1;omega,by have:=g1.2.2.2.2;omega⟩
 have nq:LeQ q:=⟨by have:=g3.1;omega,fun x hx=>by have:=(g3.2 x hx).2;omega⟩
 have nd:LeD d:=⟨by have:=g2.1;omega,fun t ht=>⟨by have:=(g2.2 t ht).2.1;omega,fun r hr=>by have:=(g2.2 t ht).2.2 r hr;omega⟩⟩
 have s0:=Zbnb nm nd nq
 have s1:=Zbm8 nm nd nq
 unfold Zp1 at s0
 unfold Zp0 at s1
 simp only [Zd.c_def,Zi.c_def,Zc.c_def,List.map_cons,List.map_nil] at s0 s1
 cases ho:oraP m d q with
 | none =>
  rw [ho] at s0 s1
  simp only [opR] at s0 s1
  have p1:=Zbqp 1 (by omega)
  simp +decide [Zkg,e1,h1,e2,h2,e3,h3,t1,q1,t2,q2,t3,q3,m1,m2,m3,zk,s0,s1,Zbql,Zbqn,p1]
 | some s =>
  have hs:=oraP_len nm nd nq ho
  rw [ho] at s0 s1
  simp only [opR] at s0 s1
  have v3:SmA s:=by omega
  have v2:=Zbai s
  have q7:=c_eqPlan s s v3
  have m7:=fun a0=>Zbqm a0 s 1 (by omega) (by omega) v3
  have m9:=Zbqo s 1 (by omega) (by omega) v3
  have z2:¬ (1+(Zbd s:Int)<0):=by omega
  simp +decide [Zkg,e1,h1,e2,h2,e3,h3,t1,q1,t2,q2,t3,q3,m1,m2,m3,zk,s0,s1,q7,m7,m9,z2]
end Go.Proofs.YtgnfoghkbpkgjaaGreat
