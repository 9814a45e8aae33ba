/-
  Parts of the proofs for this seat: FA MP MQ MR L24.
-/
import Derived.Test.YtbapkgocloaaeaaGreatP15
set_option linter.unusedSimpArgs false
set_option linter.unusedVariables false
set_option maxRecDepth 100000
set_option maxHeartbeats 4000000
/- part: FA -/
namespace Go.Proofs.YtbapkgocloaaeaaGreat
open Go.AM
theorem l_toIntS (xs:List Int) (h:SmA xs) (fr:List Fr):∀ i,i≤xs.length→EvL C fr [0,3,4] Zop ⟨[(0,L 1 (xs.map ic)),(3,.own 0),(4,I i)],[[]],[.arr Zt 1 true (fill ic [.int .i64 0] xs i)]⟩ =
  EvX C fr (.x 0) ⟨[(0,L 1 (xs.map ic)),(3,.own 0),(4,I xs.length),(11,Bo false)],[[]],[.arr Zt 1 true (xs.map ic)]⟩:=by
 have hl:xs.length≤4294967296:=h
 refine down xs.length ?_ ?_
 ·rw [EvL_eq Zop.eq_1]
  simp [fill_all]
 ·intro i hi ih
  rw [EvL_eq Zop.eq_1,← ih]
  have h1:=fill_set (f:=ic) (z:=[.int .i64 0]) hi
  have h3:=fill_len (f:=ic) (z:=[.int .i64 0]) (Nat.le_of_lt hi)
  have h4:IntKind.wrap .i64 ((i:Int)+1)=(i:Int)+1:=wrap64 (by omega) (by omega)
  simp at h1
  simp [hi,h3,h4,h1]
theorem Zoy (xs:List Int) (h:SmA xs):C Z55 [L 1 (xs.map ic)] []=some (.own 0,[.arr Zt 1 true (xs.map ic)]):=by
 refine run Zbgu rfl ?_
 have hl:xs.length≤4294967296:=h
 have h1:∀ b,b≤4096→xs.length*b≤room:=fun b hb=>Nat.le_trans (Nat.mul_le_mul hl hb) (by decide)
 have h2:(xs.length:Int)≤140737488355328:=by omega
 have h3:=fun fr=>l_toIntS xs h fr 0 (Nat.zero_le _)
 simp [fill_zero] at h3
 simp [Z4e,h1,h2,h3]
theorem l_eqIntS (xs ys:List Int) (h:SmA xs) (hl:ys.length=xs.length) (fr:List Fr):∀ i,i≤xs.length→EvL C fr [0,1,5] Zmn ⟨[(0,L 1 (xs.map ic)),(1,L 1 (ys.map ic)),(5,I i)],[[]],[]⟩ =
  if xs.drop i=ys.drop i then EvX C fr (.x 0) ⟨[(0,L 1 (xs.map ic)),(1,L 1 (ys.map ic)),(5,I xs.length),(14,Bo false)],[[]],[]⟩ else EvX C fr .r ⟨[(4,Bo false)],[[]],[]⟩:=by
 have hm:xs.length≤4294967296:=h
 refine down xs.length ?_ ?_
 ·rw [EvL_eq Zmn.eq_1]
  simp [hl,List.drop_eq_nil_of_le]
 ·intro i hi ih
  have hi2:i<ys.length:=by omega
  have h4:IntKind.wrap .i64 ((i:Int)+1)=(i:Int)+1:=wrap64 (by omega) (by omega)
  rw [EvL_eq Zmn.eq_1]
  simp +decide [hi,hi2,h4]
  simp at ih
  simp only [drop_eq_iff hi hi2,ih]
  split <;> first | (simp_all;done) | grind
theorem Zoz (xs ys:List Int) (h:SmA xs):C Zu9 [L 1 (xs.map ic),L 1 (ys.map ic)] []=some (Bo (decide (xs=ys)),[]):=by
 refine run Z33 rfl ?_
 by_cases hl:ys.length=xs.length
 ·have h3:=fun fr=>l_eqIntS xs ys h hl fr 0 (Nat.zero_le _)
  simp at h3
  simp [Zon,h3,hl]
  split <;> simp_all
 ·have h1:xs≠ys:=fun h=>hl (by rw [h])
  have h2:¬ ((xs.length:Int)=ys.length):=by omega
  simp [Zon,h1,h2]
@[simp] theorem Z49 (es:List (List T)) (left:Int):C Z6g [L 1 es,I left] []=some (I (sz1 es.length left),[]):=by
 refine run Zbg5 rfl ?_
 simp [Z4v,sz1]
 split <;> simp_all
theorem c_toAtom (x0:ByteArray) (x1:List Int) (h1:SmA x1):C Z6k [.agg [.t (.str x0),.t (tI x1)]] []=some (.agg [.t (.str x0),.own 0],[.arr Zt 1 true (x1.map ic)]):=by
 refine run Zbg9 rfl ?_
 simp [Z41,Zoy _ h1]
theorem c_eqAtom (x0:ByteArray) (x1:List Int) (y0:ByteArray) (y1:List Int) (h1:SmA x1):C Z6n [.agg [.t (.str x0),.t (tI x1)],.agg [.t (.str y0),.t (tI y1)]] []=some (Bo (decide (x0=y0∧x1=y1)),[]):=by
 refine run Zbhc rfl ?_
 simp [Z43,Zoz _ _ h1]
 repeat' split
 all_goals first | (simp_all;done) | grind
theorem c_szAtom (x0:ByteArray) (x1:List Int) (left:Int) :C Z6i [.agg [.t (.str x0),.t (tI x1)],I left] []=some (I (Atom.sz ⟨x0,x1⟩ left),[]):=by
 refine run Zbg7 rfl ?_
 simp [Z4z,Z49,Atom.sz,andSz,sz1]
 repeat' split
 all_goals first | (simp_all;done) | grind
theorem Zbhh (xs:List Atom) (h:SmL Atom.small xs) (fr:List Fr):∀ i,i≤xs.length→EvL C fr [0,3,4] Zoq ⟨[(0,L 2 (xs.map Atom.c)),(3,.own 0),(4,I i)],[[]],[.arr Zm3 2 true (fill Atom.c [.str ⟨#[]⟩,.lst 1 []] xs i)]⟩ =
  EvX C fr (.x 0) ⟨[(0,L 2 (xs.map Atom.c)),(3,.own 0),(4,I xs.length),(11,Bo false)],[[]],[.arr Zm3 2 true (xs.map Atom.c)]⟩:=by
 have hl:xs.length≤4294967296:=h.1
 refine down xs.length ?_ ?_
 ·rw [EvL_eq Zoq.eq_1]
  simp [fill_all]
 ·intro i hi ih
  rw [EvL_eq Zoq.eq_1,← ih]
  have h1:=fill_set (f:=Atom.c) (z:=[.str ⟨#[]⟩,.lst 1 []]) hi
  have h3:=fill_len (f:=Atom.c) (z:=[.str ⟨#[]⟩,.lst 1 []]) (Nat.le_of_lt hi)
  have h4:IntKind.wrap .i64 ((i:Int)+1)=(i:Int)+1:=wrap64 (by omega) (by omega)
  simp at h1
  simp [hi,c_toAtom _ _ (h.2 _ (List.getElem_mem hi)).2,h3,h4,h1]
theorem Zbhi (xs:List Atom) (h:SmL Atom.small xs):C Z6a [L 2 (xs.map Atom.c)] []=some (.own 0,[.arr Zm3 2 true (xs.map Atom.c)]):=by
 refine run Zbgz rfl ?_
 have hl:xs.length≤4294967296:=h.1
 have h1:∀ b,b≤4096→xs.length*b≤room:=fun b hb=>Nat.le_trans (Nat.mul_le_mul hl hb) (by decide)
 have h2:(xs.length:Int)≤140737488355328:=by omega
 have h3:=fun fr=>Zbhh xs h fr 0 (Nat.zero_le _)
 simp [fill_zero] at h3
 simp [Z4o,h1,h2,h3]
theorem Zbhj (xs ys:List Atom) (h:SmL Atom.small xs) (hl:ys.length=xs.length) (fr:List Fr):∀ i,i≤xs.length→EvL C fr [0,1,5] Zos ⟨[(0,L 2 (xs.map Atom.c)),(1,L 2 (ys.map Atom.c)),(5,I i)],[[]],[]⟩ =
  if xs.drop i=ys.drop i then EvX C fr (.x 0) ⟨[(0,L 2 (xs.map Atom.c)),(1,L 2 (ys.map Atom.c)),(5,I xs.length),(14,Bo false)],[[]],[]⟩ else EvX C fr .r ⟨[(4,Bo false)],[[]],[]⟩:=by
 have hm:xs.length≤4294967296:=h.1
 refine down xs.length ?_ ?_
 ·rw [EvL_eq Zos.eq_1]
  simp [hl,List.drop_eq_nil_of_le]
 ·intro i hi ih
  have hi2:i<ys.length:=by omega
  have h4:IntKind.wrap .i64 ((i:Int)+1)=(i:Int)+1:=wrap64 (by omega) (by omega)
  rw [EvL_eq Zos.eq_1]
  simp +decide [hi,hi2,c_eqAtom _ _ _ _ (h.2 _ (List.getElem_mem hi)).2,h4]
  simp at ih
  simp only [drop_eq_iff hi hi2,ih,Atom.ext_iff]
  split <;> first | (simp_all;done) | grind
theorem Zbhk (xs ys:List Atom) (h:SmL Atom.small xs):C Z6d [L 2 (xs.map Atom.c),L 2 (ys.map Atom.c)] []=some (Bo (decide (xs=ys)),[]):=by
 refine run Zbg2 rfl ?_
 by_cases hl:ys.length=xs.length
 ·have h3:=fun fr=>Zbhj xs ys h hl fr 0 (Nat.zero_le _)
  simp at h3
  simp [Zui,h3,hl]
  split <;> simp_all
 ·have h1:xs≠ys:=fun h=>hl (by rw [h])
  have h2:¬ ((xs.length:Int)=ys.length):=by omega
  simp [Zui,h1,h2]
theorem Zbhl (xs:List Atom) (h:OkL Atom.okay xs) (fr:List Fr):∀ i,i≤xs.length→∀ left:Int,
  (EvL C fr [0,1,5] Zin ⟨[(0,L 2 (xs.map Atom.c)),(1,I left),(5,I i)],[[]],[]⟩=EvX C fr .r ⟨[(4,I (-1))],[[]],[]⟩∧szFold Atom.sz (xs.drop i) left=-1) ∨
  EvL C fr [0,1,5] Zin ⟨[(0,L 2 (xs.map Atom.c)),(1,I left),(5,I i)],[[]],[]⟩=EvX C fr (.x 0) ⟨[(0,L 2 (xs.map Atom.c)),(1,I (szFold Atom.sz (xs.drop i) left)),(5,I xs.length),(15,Bo false)],[[]],[]⟩:=by
 have hm:maxLen≤9223372036854775807:=by decide
 have hl:=h.1
 refine down xs.length ?_ ?_
 ·intro left
  right
  rw [EvL_eq Zin.eq_1]
  simp [List.drop_eq_nil_of_le,szFold]
 ·intro i hi ih left
  have h4:IntKind.wrap .i64 ((i:Int)+1)=(i:Int)+1:=wrap64 (by omega) (by omega)
  have e:EvL C fr [0,1,5] Zin ⟨[(0,L 2 (xs.map Atom.c)),(1,I left),(5,I i)],[[]],[]⟩=if Atom.sz xs[i] left<0 then EvX C fr .r ⟨[(4,I (-1))],[[]],[]⟩ else EvL C fr [0,1,5] Zin ⟨[(0,L 2 (xs.map Atom.c)),(1,I (Atom.sz xs[i] left)),(5,I ((i+1:Nat):Int))],[[]],[]⟩:=by
   rw [EvL_eq Zin.eq_1]
   simp [hi,c_szAtom,h4]
  rw [e,List.drop_eq_getElem_cons hi,szFold]
  split
  ·exact .inl ⟨rfl,rfl⟩
  ·exact ih _
theorem Zbhm (xs:List Atom) (left:Int) (h:OkL Atom.okay xs):C Z57 [L 2 (xs.map Atom.c),I left] []=some (I (szL Atom.sz xs left),[]):=by
 refine run Zbgw rfl ?_
 have h3:=fun fr l=>Zbhl xs h fr 0 (Nat.zero_le _) l
 simp at h3
 simp [Z4l,szL,andSz,sz1]
 split
 ·simp_all
 ·rcases h3 [.blk 0,.seq _,.fin _ _] (IntKind.wrap .i64 (left - xs.length)) with ⟨h5,h6⟩ | h5
  ·rw [h5];simp [h6]
  ·rw [h5];simp
theorem Zbhn (x0:Int) (x1:List Atom) (h1:SmL Atom.small x1):C Z5x [.agg [I x0,.t (.lst 2 (x1.map Atom.c))]] []=some (.agg [I x0,.own 0],[.arr Zm3 2 true (x1.map Atom.c)]):=by
 refine run Zbgm rfl ?_
 simp [Z31,Zbhi _ h1]
theorem Zbho (x0:Int) (x1:List Atom) (y0:Int) (y1:List Atom) (h1:SmL Atom.small x1):C Z50 [.agg [I x0,.t (.lst 2 (x1.map Atom.c))],.agg [I y0,.t (.lst 2 (y1.map Atom.c))]] []=some (Bo (decide (x0=y0∧x1=y1)),[]):=by
 refine run Zbgp rfl ?_
 simp [Z35,Zbhk _ _ h1]
 repeat' split
 all_goals first | (simp_all;done) | grind
theorem Zbhp (x0:Int) (x1:List Atom) (left:Int) (h1:OkL Atom.okay x1):C Z5t [.agg [I x0,.t (.lst 2 (x1.map Atom.c))],I left] []=some (I (Zc.sz ⟨x0,x1⟩ left),[]):=by
 refine run Zbgi rfl ?_
 simp [Z3x,Zbhm _ _ h1,Zc.sz,andSz,sz1]
 repeat' split
 all_goals first | (simp_all;done) | grind
theorem c_toBox (x0:List Int) (x1:List Int) (h0:SmA x0) (h1:SmA x1):C Z54 [.agg [.t (tI x0),.t (tI x1)]] []=some (.agg [.own 0,.own 1],[.arr Zt 1 true (x0.map ic),.arr Zt 1 true (x1.map ic)]):=by
 refine run Zbgt rfl ?_
 simp [Z4d,Zoy _ h0,Zoy _ h1]
theorem Z5a (x0:List Int) (x1:List Int) (y0:List Int) (y1:List Int) (h0:SmA x0) (h1:SmA x1):C Zve [.agg [.t (tI x0),.t (tI x1)],.agg [.t (tI y0),.t (tI y1)]] []=some (Bo (decide (x0=y0∧x1=y1)),[]):=by
 refine run Z4f rfl ?_
 simp [Zud,Zoz _ _ h0,Zoz _ _ h1]
 repeat' split
 all_goals first | (simp_all;done) | grind
theorem c_szBox (x0:List Int) (x1:List Int) (left:Int) :C Z53 [.agg [.t (tI x0),.t (tI x1)],I left] []=some (I (Box.sz ⟨x0,x1⟩ left),[]):=by
 refine run Zbgs rfl ?_
 simp [Z4c,Z49,Box.sz,andSz,sz1]
 repeat' split
 all_goals first | (simp_all;done) | grind
theorem Zbhq (x0:Int) (x1:Int) :C Z6q [.agg [I x0,I x1]] []=some (.agg [I x0,I x1],[]):=by
 refine run Zbhf rfl ?_
 simp [Z47]
theorem Zbhr (x0:Int) (x1:Int) (y0:Int) (y1:Int) :C Z6r [.agg [I x0,I x1],.agg [I y0,I y1]] []=some (Bo (decide (x0=y0∧x1=y1)),[]):=by
 refine run Zbhg rfl ?_
 simp [Z48]
 repeat' split
 all_goals first | (simp_all;done) | grind
theorem Zbhs (xs:List Zf) (h:SmA xs) (fr:List Fr):∀ i,i≤xs.length→EvL C fr [0,3,4] Zov ⟨[(0,L 2 (xs.map Zf.c)),(3,.own 0),(4,I i)],[[]],[.arr Zer 2 true (fill Zf.c [.int .i64 0,.int .i64 0] xs i)]⟩ =
  EvX C fr (.x 0) ⟨[(0,L 2 (xs.map Zf.c)),(3,.own 0),(4,I xs.length),(11,Bo false)],[[]],[.arr Zer 2 true (xs.map Zf.c)]⟩:=by
 have hl:xs.length≤4294967296:=h
 refine down xs.length ?_ ?_
 ·rw [EvL_eq Zov.eq_1]
  simp [fill_all]
 ·intro i hi ih
  rw [EvL_eq Zov.eq_1,← ih]
  have h1:=fill_set (f:=Zf.c) (z:=[.int .i64 0,.int .i64 0]) hi
  have h3:=fill_len (f:=Zf.c) (z:=[.int .i64 0,.int .i64 0]) (Nat.le_of_lt hi)
  have h4:IntKind.wrap .i64 ((i:Int)+1)=(i:Int)+1:=wrap64 (by omega) (by omega)
  simp at h1
  simp [hi,Zbhq,h3,h4,h1]
theorem Zbht (xs:List Zf) (h:SmA xs):C Z6j [L 2 (xs.map Zf.c)] []=some (.own 0,[.arr Zer 2 true (xs.map Zf.c)]):=by
 refine run Zbg8 rfl ?_
 have hl:xs.length≤4294967296:=h
 have h1:∀ b,b≤4096→xs.length*b≤room:=fun b hb=>Nat.le_trans (Nat.mul_le_mul hl hb) (by decide)
 have h2:(xs.length:Int)≤140737488355328:=by omega
 have h3:=fun fr=>Zbhs xs h fr 0 (Nat.zero_le _)
 simp [fill_zero] at h3
 simp [Z40,h1,h2,h3]
theorem Zbhu (xs ys:List Zf) (h:SmA xs) (hl:ys.length=xs.length) (fr:List Fr):∀ i,i≤xs.length→EvL C fr [0,1,5] Zow ⟨[(0,L 2 (xs.map Zf.c)),(1,L 2 (ys.map Zf.c)),(5,I i)],[[]],[]⟩ =
  if xs.drop i=ys.drop i then EvX C fr (.x 0) ⟨[(0,L 2 (xs.map Zf.c)),(1,L 2 (ys.map Zf.c)),(5,I xs.length),(14,Bo false)],[[]],[]⟩ else EvX C fr .r ⟨[(4,Bo false)],[[]],[]⟩:=by
 have hm:xs.length≤4294967296:=h
 refine down xs.length ?_ ?_
 ·rw [EvL_eq Zow.eq_1]
  simp [hl,List.drop_eq_nil_of_le]
 ·intro i hi ih
  have hi2:i<ys.length:=by omega
  have h4:IntKind.wrap .i64 ((i:Int)+1)=(i:Int)+1:=wrap64 (by omega) (by omega)
  rw [EvL_eq Zow.eq_1]
  simp +decide [hi,hi2,Zbhr _ _ _ _ ,h4]
  simp at ih
  simp only [drop_eq_iff hi hi2,ih,Zf.ext_iff]
  split <;> first | (simp_all;done) | grind
theorem Zbhv (xs ys:List Zf) (h:SmA xs):C Z6m [L 2 (xs.map Zf.c),L 2 (ys.map Zf.c)] []=some (Bo (decide (xs=ys)),[]):=by
 refine run Zbhb rfl ?_
 by_cases hl:ys.length=xs.length
 ·have h3:=fun fr=>Zbhu xs ys h hl fr 0 (Nat.zero_le _)
  simp at h3
  simp [Zum,h3,hl]
  split <;> simp_all
 ·have h1:xs≠ys:=fun h=>hl (by rw [h])
  have h2:¬ ((xs.length:Int)=ys.length):=by omega
  simp [Zum,h1,h2]
@[simp] theorem Zbhw (es:List (List T)) (left:Int):C Z6h [L 2 es,I left] []=some (I (sz1 es.length left),[]):=by
 refine run Zbg6 rfl ?_
 simp [Z4y,sz1]
 split <;> simp_all
theorem Zmt (x0:Int) (x1:Int) (x2:Int) (x3:Int) (x4:Int) (x5:List Zf) (h5:SmA x5):C Z59 [.agg [I x0,I x1,I x2,I x3,I x4,.t (.lst 2 (x5.map Zf.c))]] []=some (.agg [I x0,I x1,I x2,I x3,I x4,.own 0],[.arr Zer 2 true (x5.map Zf.c)]):=by
 refine run Zbgy rfl ?_
 simp [Z4n,Zbht _ h5]
theorem Zmu (x0:Int) (x1:Int) (x2:Int) (x3:Int) (x4:Int) (x5:List Zf) (y0:Int) (y1:Int) (y2:Int) (y3:Int) (y4:Int) (y5:List Zf) (h5:SmA x5):C Z6c [.agg [I x0,I x1,I x2,I x3,I x4,.t (.lst 2 (x5.map Zf.c))],.agg [I y0,I y1,I y2,I y3,I y4,.t (.lst 2 (y5.map Zf.c))]] []=some (Bo (decide (x0=y0∧x1=y1∧x2=y2∧x3=y3∧x4=y4∧x5=y5)),[]):=by
 refine run Zbg1 rfl ?_
 simp [Z4q,Zbhv _ _ h5]
 repeat' split
 all_goals first | (simp_all;done) | grind
theorem Zbhx (x0:Int) (x1:Int) (x2:Int) (x3:Int) (x4:Int) (x5:List Zf) (left:Int) :C Z56 [.agg [I x0,I x1,I x2,I x3,I x4,.t (.lst 2 (x5.map Zf.c))],I left] []=some (I (Zh.sz ⟨x0,x1,x2,x3,x4,x5⟩ left),[]):=by
 refine run Zbgv rfl ?_
 simp [Z4k,Zbhw,Zh.sz,andSz,sz1]
 repeat' split
 all_goals first | (simp_all;done) | grind
theorem Zbhy (x0:Int) (x1:Int) (x2:Int) (x3:Int) (x4:Int) (x5:List Zf) (x6:Int) (x7:Int) (x8:Int) (x9:Int) (x10:Int) (x11:List Zf) (x12:Int) (x13:Int) (x14:Int) (x15:Int) (x16:Int) (x17:List Zf) (x18:Int) (x19:Int) (x20:Int) (x21:Int) (x22:Int) (x23:List Zf) (x24:Int) (x25:Int) (x26:Int) (x27:Int) (x28:Int) (x29:List Zf) (h5:SmA x5) (h11:SmA x11) (h17:SmA x17) (h23:SmA x23) (h29:SmA x29):C Z5w [.agg [I x0,I x1,I x2,I x3,I x4,.t (.lst 2 (x5.map Zf.c)),I x6,I x7,I x8,I x9,I x10,.t (.lst 2 (x11.map Zf.c)),I x12,I x13,I x14,I x15,I x16,.t (.lst 2 (x17.map Zf.c)),I x18,I x19,I x20,I x21,I x22,.t (.lst 2 (x23.map Zf.c)),I x24,I x25,I x26,I x27,I x28,.t (.lst 2 (x29.map Zf.c))]] []=some (.agg [I x0,I x1,I x2,I x3,I x4,.own 0,I x6,I x7,I x8,I x9,I x10,.own 1,I x12,I x13,I x14,I x15,I x16,.own 2,I x18,I x19,I x20,I x21,I x22,.own 3,I x24,I x25,I x26,I x27,I x28,.own 4],[.arr Zer 2 true (x5.map Zf.c),.arr Zer 2 true (x11.map Zf.c),.arr Zer 2 true (x17.map Zf.c),.arr Zer 2 true (x23.map Zf.c),.arr Zer 2 true (x29.map Zf.c)]):=by
 refine run Zbgl rfl ?_
 simp [Z30,Zmt _ _ _ _ _ _ h5,Zmt _ _ _ _ _ _ h11,Zmt _ _ _ _ _ _ h17,Zmt _ _ _ _ _ _ h23,Zmt _ _ _ _ _ _ h29]
theorem Zbhz (x0:Int) (x1:Int) (x2:Int) (x3:Int) (x4:Int) (x5:List Zf) (x6:Int) (x7:Int) (x8:Int) (x9:Int) (x10:Int) (x11:List Zf) (x12:Int) (x13:Int) (x14:Int) (x15:Int) (x16:Int) (x17:List Zf) (x18:Int) (x19:Int) (x20:Int) (x21:Int) (x22:Int) (x23:List Zf) (x24:Int) (x25:Int) (x26:Int) (x27:Int) (x28:Int) (x29:List Zf) (y0:Int) (y1:Int) (y2:Int) (y3:Int) (y4:Int) (y5:List Zf) (y6:Int) (y7:Int) (y8:Int) (y9:Int) (y10:Int) (y11:List Zf) (y12:Int) (y13:Int) (y14:Int) (y15:Int) (y16:Int) (y17:List Zf) (y18:Int) (y19:Int) (y20:Int) (y21:Int) (y22:Int) (y23:List Zf) (y24:Int) (y25:Int) (y26:Int) (y27:Int) (y28:Int) (y29:List Zf) (h5:SmA x5) (h11:SmA x11) (h17:SmA x17) (h23:SmA x23) (h29:SmA x29):C Z5z [.agg [I x0,I x1,I x2,I x3,I x4,.t (.lst 2 (x5.map Zf.c)),I x6,I x7,I x8,I x9,I x10,.t (.lst 2 (x11.map Zf.c)),I x12,I x13,I x14,I x15,I x16,.t (.lst 2 (x17.map Zf.c)),I x18,I x19,I x20,I x21,I x22,.t (.lst 2 (x23.map Zf.c)),I x24,I x25,I x26,I x27,I x28,.t (.lst 2 (x29.map Zf.c))],.agg [I y0,I y1,I y2,I y3,I y4,.t (.lst 2 (y5.map Zf.c)),I y6,I y7,I y8,I y9,I y10,.t (.lst 2 (y11.map Zf.c)),I y12,I y13,I y14,I y15,I y16,.t (.lst 2 (y17.map Zf.c)),I y18,I y19,I y20,I y21,I y22,.t (.lst 2 (y23.map Zf.c)),I y24,I y25,I y26,I y27,I y28,.t (.lst 2 (y29.map Zf.c))]] []=some (Bo (decide (x0=y0∧x1=y1∧x2=y2∧x3=y3∧x4=y4∧x5=y5∧x6=y6∧x7=y7∧x8=y8∧x9=y9∧x10=y10∧x11=y11∧x12=y12∧x13=y13∧x14=y14∧x15=y15∧x16=y16∧x17=y17∧x18=y18∧x19=y19∧x20=y20∧x21=y21∧x22=y22∧x23=y23∧x24=y24∧x25=y25∧x26=y26∧x27=y27∧x28=y28∧x29=y29)),[]):=by
 refine run Zbgo rfl ?_
 simp [Z34,Zmu _ _ _ _ _ _ _ _ _ _ _ _ h5,Zmu _ _ _ _ _ _ _ _ _ _ _ _ h11,Zmu _ _ _ _ _ _ _ _ _ _ _ _ h17,Zmu _ _ _ _ _ _ _ _ _ _ _ _ h23,Zmu _ _ _ _ _ _ _ _ _ _ _ _ h29]
 repeat' split
 all_goals first | (simp_all;done) | grind
theorem Zbh0 (x0:Int) (x1:Int) (x2:Int) (x3:Int) (x4:Int) (x5:List Zf) (x6:Int) (x7:Int) (x8:Int) (x9:Int) (x10:Int) (x11:List Zf) (x12:Int) (x13:Int) (x14:Int) (x15:Int) (x16:Int) (x17:List Zf) (x18:Int) (x19:Int) (x20:Int) (x21:Int) (x22:Int) (x23:List Zf) (x24:Int) (x25:Int) (x26:Int) (x27:Int) (x28:Int) (x29:List Zf) (left:Int) :C Z5s [.agg [I x0,I x1,I x2,I x3,I x4,.t (.lst 2 (x5.map Zf.c)),I x6,I x7,I x8,I x9,I x10,.t (.lst 2 (x11.map Zf.c)),I x12,I x13,I x14,I x15,I x16,.t (.lst 2 (x17.map Zf.c)),I x18,I x19,I x20,I x21,I x22,.t (.lst 2 (x23.map Zf.c)),I x24,I x25,I x26,I x27,I x28,.t (.lst 2 (x29.map Zf.c))],I left] []=some (I (Zd.sz ⟨⟨x0,x1,x2,x3,x4,x5⟩,⟨x6,x7,x8,x9,x10,x11⟩,⟨x12,x13,x14,x15,x16,x17⟩,⟨x18,x19,x20,x21,x22,x23⟩,⟨x24,x25,x26,x27,x28,x29⟩⟩ left),[]):=by
 refine run Zbgh rfl ?_
 simp [Z3w,Zbhx,Zd.sz,andSz,sz1]
 repeat' split
 all_goals first | (simp_all;done) | grind
theorem Zbh1 (x0:Int) (x1:Int) (x2:Int) :C Z6l [.agg [I x0,I x1,I x2]] []=some (.agg [I x0,I x1,I x2],[]):=by
 refine run Zbha rfl ?_
 simp [Z42]
theorem Zbh2 (x0:Int) (x1:Int) (x2:Int) (y0:Int) (y1:Int) (y2:Int) :C Z6o [.agg [I x0,I x1,I x2],.agg [I y0,I y1,I y2]] []=some (Bo (decide (x0=y0∧x1=y1∧x2=y2)),[]):=by
 refine run Zbhd rfl ?_
 simp [Z44]
 repeat' split
 all_goals first | (simp_all;done) | grind
theorem Zbh3 (xs:List Zb) (h:SmA xs) (fr:List Fr):∀ i,i≤xs.length→EvL C fr [0,3,4] Zor ⟨[(0,L 3 (xs.map Zb.c)),(3,.own 0),(4,I i)],[[]],[.arr Zm2 3 true (fill Zb.c [.int .i64 0,.int .i64 0,.int .i64 0] xs i)]⟩ =
  EvX C fr (.x 0) ⟨[(0,L 3 (xs.map Zb.c)),(3,.own 0),(4,I xs.length),(11,Bo false)],[[]],[.arr Zm2 3 true (xs.map Zb.c)]⟩:=by
 have hl:xs.length≤4294967296:=h
 refine down xs.length ?_ ?_
 ·rw [EvL_eq Zor.eq_1]
  simp [fill_all]
 ·intro i hi ih
  rw [EvL_eq Zor.eq_1,← ih]
  have h1:=fill_set (f:=Zb.c) (z:=[.int .i64 0,.int .i64 0,.int .i64 0]) hi
  have h3:=fill_len (f:=Zb.c) (z:=[.int .i64 0,.int .i64 0,.int .i64 0]) (Nat.le_of_lt hi)
  have h4:IntKind.wrap .i64 ((i:Int)+1)=(i:Int)+1:=wrap64 (by omega) (by omega)
  simp at h1
  simp [hi,Zbh1,h3,h4,h1]
theorem Zbh4 (xs:List Zb) (h:SmA xs):C Z6b [L 3 (xs.map Zb.c)] []=some (.own 0,[.arr Zm2 3 true (xs.map Zb.c)]):=by
 refine run Zbg0 rfl ?_
 have hl:xs.length≤4294967296:=h
 have h1:∀ b,b≤4096→xs.length*b≤room:=fun b hb=>Nat.le_trans (Nat.mul_le_mul hl hb) (by decide)
 have h2:(xs.length:Int)≤140737488355328:=by omega
 have h3:=fun fr=>Zbh3 xs h fr 0 (Nat.zero_le _)
 simp [fill_zero] at h3
 simp [Z4p,h1,h2,h3]
theorem Zbh5 (xs ys:List Zb) (h:SmA xs) (hl:ys.length=xs.length) (fr:List Fr):∀ i,i≤xs.length→EvL C fr [0,1,5] Zmp ⟨[(0,L 3 (xs.map Zb.c)),(1,L 3 (ys.map Zb.c)),(5,I i)],[[]],[]⟩ =
  if xs.drop i=ys.drop i then EvX C fr (.x 0) ⟨[(0,L 3 (xs.map Zb.c)),(1,L 3 (ys.map Zb.c)),(5,I xs.length),(14,Bo false)],[[]],[]⟩ else EvX C fr .r ⟨[(4,Bo false)],[[]],[]⟩:=by
 have hm:xs.length≤4294967296:=h
 refine down xs.length ?_ ?_
 ·rw [EvL_eq Zmp.eq_1]
  simp [hl,List.drop_eq_nil_of_le]
 ·intro i hi ih
  have hi2:i<ys.length:=by omega
  have h4:IntKind.wrap .i64 ((i:Int)+1)=(i:Int)+1:=wrap64 (by omega) (by omega)
  rw [EvL_eq Zmp.eq_1]
  simp +decide [hi,hi2,Zbh2 _ _ _ _ _ _ ,h4]
  simp at ih
  simp only [drop_eq_iff hi hi2,ih,Zb.ext_iff]
  split <;> first | (simp_all;done) | grind
theorem Zbh6 (xs ys:List Zb) (h:SmA xs):C Zvj [L 3 (xs.map Zb.c),L 3 (ys.map Zb.c)] []=some (Bo (decide (xs=ys)),[]):=by
 refine run Z4r rfl ?_
 by_cases hl:ys.length=xs.length
 ·have h3:=fun fr=>Zbh5 xs ys h hl fr 0 (Nat.zero_le _)
  simp at h3
  simp [Zot,h3,hl]
  split <;> simp_all
 ·have h1:xs≠ys:=fun h=>hl (by rw [h])
  have h2:¬ ((xs.length:Int)=ys.length):=by omega
  simp [Zot,h1,h2]
@[simp] theorem Zbh7 (es:List (List T)) (left:Int):C Z58 [L 3 es,I left] []=some (I (sz1 es.length left),[]):=by
 refine run Zbgx rfl ?_
 simp [Z4m,sz1]
 split <;> simp_all
theorem c_toPlan (x0:List Zb) (h0:SmA x0):C Z5y [.agg [.t (.lst 3 (x0.map Zb.c))]] []=some (.agg [.own 0],[.arr Zm2 3 true (x0.map Zb.c)]):=by
 refine run Zbgn rfl ?_
 simp [Z32,Zbh4 _ h0]
theorem Z5b (x0:List Zb) (y0:List Zb) (h0:SmA x0):C Zva [.agg [.t (.lst 3 (x0.map Zb.c))],.agg [.t (.lst 3 (y0.map Zb.c))]] []=some (Bo (decide (x0=y0)),[]):=by
 refine run Z36 rfl ?_
 simp [Zt8,Zbh6 _ _ h0]
 repeat' split
 all_goals first | (simp_all;done) | grind
theorem c_szPlan (x0:List Zb) (left:Int) :C Z5u [.agg [.t (.lst 3 (x0.map Zb.c))],I left] []=some (I (Plan.sz ⟨x0⟩ left),[]):=by
 refine run Zbgj rfl ?_
 simp [Z3y,Zbh7,Plan.sz,andSz,sz1]
 repeat' split
 all_goals first | (simp_all;done) | grind
theorem Zbh8 (x0:List Zb) (x1:List Int) (x2:List Int) (x3:Int) (y0:List Zb) (y1:List Int) (y2:List Int) (y3:Int) (h0:SmA x0) (h1:SmA x1) (h2:SmA x2):C Zvd [.agg [.t (.lst 3 (x0.map Zb.c)),.t (tI x1),.t (tI x2),I x3],.agg [.t (.lst 3 (y0.map Zb.c)),.t (tI y1),.t (tI y2),I y3]] []=some (Bo (decide (x0=y0∧x1=y1∧x2=y2∧x3=y3)),[]):=by
 refine run Z4b rfl ?_
 simp [Zuc,Z5b _ _ h0,Z5a _ _ _ _ h1 h2]
 repeat' split
 all_goals first | (simp_all;done) | grind
@[simp] theorem c_szKeptS (es:List (List T)) (left:Int):C Z5v [L 2 es,I left] []=some (I (sz1 es.length left),[]):=by
 refine run Zbgk rfl ?_
 simp [Z3z,sz1]
 split <;> simp_all
end Go.Proofs.YtbapkgocloaaeaaGreat
/- part: MP -/
namespace Go.Proofs.YtbapkgocloaaeaaGreat
open Go.AM
def mkL {α:Type} (f:α→Int→α) (n:α→Nat):List α→Int→List α
 | [],_=>[]
 | x::xs,k=>f x k::mkL f n xs (k+(n x:Int))
def cnL {α:Type} (n:α→Nat):List α→Nat
 | []=>0
 | x::xs=>n x+cnL n xs
def mkI (xs:List Int) (k:Int):List Int:=mkL (fun _ k=>k) (fun _=>1) xs k
theorem Z5c (x:Int) (xs:List Int) (k:Int):mkI (x::xs) k=k::mkI xs (k+1):=rfl
theorem Zbh9 (e:Nat) (fr:List Fr):∀ (xs d:List Int) (k:Int),0≤k→k+(xs.length:Int)≤4611686018427387904→d.length+xs.length≤4294967296→EvL C fr [0,1,5] Zjt ⟨[(0,.own 0),(1,I k),(5,I d.length)],[[(0,.own 0)]],[.xarr e 1 ((d++xs).map ic)]⟩ =
  EvX C fr (.x 0) ⟨[(0,.own 0),(1,I (k+xs.length)),(5,I (d.length+xs.length)),(9,Bo false)],[[(0,.own 0)]],[.xarr e 1 ((d++mkI xs k).map ic)]⟩:=by
 intro xs
 induction xs with
 | nil =>
  intro d k h1 h2 h3
  rw [EvL_eq Zjt.eq_1]
  simp [mkI,mkL]
 | cons x xs ih =>
  intro d k h1 h2 h3
  simp only [List.length_cons] at h2 h3
  have ih':=ih (d++[k]) (k+1) (by omega) (by omega) (by simp;omega)
  rw [EvL_eq Zjt.eq_1]
  have g1:IntKind.wrap .i64 ((d.length:Int)+1)=(d.length:Int)+1:=wrap64 (by omega) (by omega)
  have g2:IntKind.wrap .i64 (k+1)=k+1:=wrap64 (by omega) (by omega)
  have g3:(d.length:Int)<(d.length:Int)+((xs.length:Int)+1):=by omega
  have g4:k+1+(xs.length:Int)=k+((xs.length:Int)+1):=by omega
  have g5:(d.length:Int)+1+(xs.length:Int)=(d.length:Int)+((xs.length:Int)+1):=by omega
  simp [g4,g5] at ih'
  simp [g1,g2,g3,ih',Z5c]
theorem Zo0 (e:Nat) (xs:List Int) (k:Int) (h1:0≤k) (h2:k+(xs.length:Int)≤4611686018427387904) (h3:SmA xs):C Zj0 [.own 0,I k] [.xarr e 1 (xs.map ic)]=some (I (k+xs.length),[.xarr e 1 ((mkI xs k).map ic)]):=by
 refine runM Zua rfl ?_
 have h4:=fun fr=>Zbh9 e fr xs [] k h1 h2 (by have:xs.length≤4294967296:=h3;simp;omega)
 simp at h4
 simp [Zoo,h4]
theorem Zbia (n:Nat) (k:Int):C Zj0 [.t (.lst n []),I k] []=some (I k,[]):=by
 refine run Zua rfl ?_
 simp [Zoo,EvL_eq Zjt.eq_1]
theorem Zbib (k:Int):C Zj0 [.t .nil,I k] []=some (I k,[]):=by
 refine run Zua rfl ?_
 simp [Zoo,EvL_eq Zjt.eq_1]
theorem Zbic (fr:List Fr):∀ (xs d:List Int) (k:Int),0≤k→k+(xs.length:Int)≤4611686018427387904→d.length+xs.length≤4294967296→EvL C fr [0,1,5] Zmo ⟨[(0,L 1 ((d++mkI xs k).map ic)),(1,I k),(5,I d.length)],[[]],[]⟩ =
  EvX C fr (.x 0) ⟨[(0,L 1 ((d++mkI xs k).map ic)),(1,I (k+xs.length)),(5,I (d.length+xs.length)),(9,Bo false)],[[]],[]⟩:=by
 intro xs
 induction xs with
 | nil =>
  intro d k h1 h2 h3
  rw [EvL_eq Zmo.eq_1]
  simp [mkI,mkL]
 | cons x xs ih =>
  intro d k h1 h2 h3
  simp only [List.length_cons] at h2 h3
  have ih':=ih (d++[k]) (k+1) (by omega) (by omega) (by simp;omega)
  rw [EvL_eq Zmo.eq_1]
  have g1:IntKind.wrap .i64 ((d.length:Int)+1)=(d.length:Int)+1:=wrap64 (by omega) (by omega)
  have g2:IntKind.wrap .i64 (k+1)=k+1:=wrap64 (by omega) (by omega)
  have g3:(d.length:Int)<(d.length:Int)+(((mkI xs (k+1)).length:Int)+1):=by omega
  have g4:k+1+(xs.length:Int)=k+((xs.length:Int)+1):=by omega
  have g5:(d.length:Int)+1+(xs.length:Int)=(d.length:Int)+((xs.length:Int)+1):=by omega
  simp [g4,g5] at ih'
  simp [g1,g2,g3,ih',Z5c]
end Go.Proofs.YtbapkgocloaaeaaGreat
/- part: MQ -/
namespace Go.Proofs.YtbapkgocloaaeaaGreat
open Go.AM
theorem strB_one (x:Int):(strB [x]).size=1:=by simp [strB];rfl
theorem Zbid (fr:List Fr):∀ (n:Nat) (k:Int) (out:ByteArray),k.toNat≤n→(out.size:Int)+k≤4611686018427387904→0≤k→∃ s,s.size≤out.size+n∧EvL C fr [0,3] Zms ⟨[(0,I k),(3,.t (.str out))],[[]],[]⟩=EvX C fr (.x 0) ⟨[(0,I 0),(3,.t (.str s)),(7,Bo false)],[[]],[]⟩:=by
 intro n
 induction n with
 | zero =>
  intro k out h1 h2 h3
  have:k=0:=by omega
  subst this
  rw [EvL_eq Zms.eq_1]
  exact ⟨out,by simp⟩
 | succ n ih =>
  intro k out h1 h2 h3
  by_cases h0:k=0
  ·subst h0
   rw [EvL_eq Zms.eq_1]
   exact ⟨out,by simp⟩
  have hk:0<k:=by omega
  have e:k.tdiv 10=k / 10:=Int.tdiv_eq_ediv_of_nonneg h3
  have e2:IntKind.wrap .i64 (k / 10)=k / 10:=wrap64 (by omega) (by omega)
  generalize hx:IntKind.wrap .u8 (IntKind.wrap .i64 (48+k.tmod 10))=x
  have s1:=strB_one x
  have c:1+out.size≤9223372036854775807:=by omega
  obtain ⟨s,hs,hr⟩:=ih (k / 10) (strB [x]++out) (by omega) (by rw [ByteArray.size_append,s1];omega) (by omega)
  rw [ByteArray.size_append,s1] at hs
  refine ⟨s,by omega,?_⟩
  rw [EvL_eq Zms.eq_1]
  simp [hk,hx,s1,c,e,e2,hr]
theorem Zbie (k:Int) (h1:0≤k) (h2:k≤4000000000000000000):∃ s,C Zpd [I k] []=some (.t (.str s),[]):=by
 by_cases h0:k=0
 ·subst h0
  refine ⟨⟨#[109,48]⟩,run Z46 rfl ?_⟩
  simp [Zun]
 ·have h3:¬ k≤0:=by omega
  obtain ⟨s,hs,hr⟩:=Zbid [.blk 0,.seq (.seq (.reg [⟨some 18,none,.mov (.s 3)⟩,⟨some 19,none,.bin .add (.c (.t (.str ⟨#[109]⟩))) (.s 18)⟩,⟨some 2,none,.mov (.s 19)⟩] [2]) .ret),.fin 0 [.tmp 2]] k.toNat k ⟨#[]⟩ (Nat.le_refl _) (by simp [ByteArray.size];omega) h1
  have c:(⟨#[109]⟩:ByteArray).size+s.size≤9223372036854775807:=by
   have:(⟨#[]⟩:ByteArray).size=0:=rfl
   have:(⟨#[109]⟩:ByteArray).size=1:=rfl
   omega
  refine ⟨⟨#[109]⟩++s,run Z46 rfl ?_⟩
  simp at hr
  simp [Zun,h3,hr,c]
noncomputable def mtext (k:Int):ByteArray:=match C Zpd [I k] [] with
 | some (.t (.str s),[])=>s
 | _=>⟨#[]⟩
theorem Zbif (k:Int) (h1:0≤k) (h2:k≤4000000000000000000):C Zpd [I k] []=some (.t (.str (mtext k)),[]):=by
 obtain ⟨s,h⟩:=Zbie k h1 h2
 have:mtext k=s:=by unfold mtext;rw [h]
 rw [this,h]
end Go.Proofs.YtbapkgocloaaeaaGreat
/- part: MR -/
namespace Go.Proofs.YtbapkgocloaaeaaGreat
open Go.AM
theorem Z5d (xs:List Int) (k:Int) (h1:0≤k) (h2:k+(xs.length:Int)≤4000000000000000000) (h3:SmA xs):C Zvc [L 1 ((mkI xs k).map ic),I k] []=some (I (k+xs.length),[]):=by
 refine run Z4a rfl ?_
 have h4:=fun fr=>Zbic fr xs [] k h1 (by omega) (by have:xs.length≤4294967296:=h3;simp;omega)
 simp at h4
 simp [Zub,h4]
theorem Zbig (k:Int):C Zvc [.t .nil,I k] []=some (I k,[]):=by
 refine run Z4a rfl ?_
 simp [Zub,EvL_eq Zmo.eq_1]
theorem Zbih (xs:List Int) (k:Int) (h1:0≤k) (h2:k+(xs.length:Int)≤4000000000000000000) (h3:SmA xs):(xs.map ic=[]∧(mkI xs (k)).map ic=[]∧C Zj0 [.t (.lst 1 []),I k] []=some (I (k+(xs.length:Int)),[]))∨∃ y ys,xs.map ic=y::ys∧True∧C Zj0 [.own 0,I k] [.xarr unk 1 (y::ys)]=some (I (k+(xs.length:Int)),[.xarr unk 1 ((mkI xs (k)).map ic)]):=by
 have c:=Zo0 unk xs k h1 (by omega) h3
 cases xs with
 | nil=>exact .inl ⟨rfl,rfl,by have:=Zbia 1 k;simpa [mkI,mkL] using this⟩
 | cons y ys=>exact .inr ⟨_,_,rfl,trivial,c⟩
noncomputable def Zmv (a:Atom) (k:Int):Atom:=⟨mtext (k),mkI a.Vars (k+1)⟩
def Zd8 (a:Atom):Nat:=1+a.Vars.length
noncomputable def Zju (xs:List Atom) (k:Int):List Atom:=mkL Zmv Zd8 xs k
def Zbw (xs:List Atom):Nat:=cnL Zd8 xs
theorem Zbii (x:Atom) (xs:List Atom) (k:Int):Zju (x::xs) k=Zmv x k::Zju xs (k+(Zd8 x:Int)):=rfl
theorem Zbij (e:Nat) (fr:List Fr):∀ (xs d:List Atom) (k:Int),0≤k→k+(Zbw xs:Int)≤4000000000000000000→d.length+xs.length≤4294967296→(∀ x∈xs,x.small)→EvL C fr [0,1,5] Zou ⟨[(0,.own 0),(1,I k),(5,I d.length)],[[(0,.own 0)]],[.xarr e 2 ((d++xs).map Atom.c)]⟩ =
  EvX C fr (.x 0) ⟨[(0,.own 0),(1,I (k+Zbw xs)),(5,I (d.length+xs.length)),(9,Bo false)],[[(0,.own 0)]],[.xarr e 2 ((d++Zju xs k).map Atom.c)]⟩:=by
 intro xs
 induction xs with
 | nil =>
  intro d k h1 h2 h3 h4
  rw [EvL_eq Zou.eq_1]
  simp [Zju,Zbw,cnL,mkL]
 | cons x xs ih =>
  intro d k h1 h2 h3 h4
  have hx:=h4 x (by simp)
  have e0:Zbw (x::xs)=Zd8 x+Zbw xs:=rfl
  rw [e0] at h2
  simp only [List.length_cons] at h3
  rcases x with ⟨x0,x1⟩
  have e1:Zd8 ⟨x0,x1⟩=1+x1.length:=rfl
  have eK:k+(Zd8 ⟨x0,x1⟩:Int)=k+1+(x1.length:Int):=by omega
  have eL:k+(Zbw (⟨x0,x1⟩::xs):Int)=k+1+(x1.length:Int)+(Zbw xs:Int):=by omega
  have ih':=ih (d++[Zmv ⟨x0,x1⟩ k]) (k+1+(x1.length:Int)) (by omega) (by omega) (by simp;omega) (fun y hy=>h4 y (by simp [hy]))
  rw [EvL_eq Zou.eq_1,eL,Zbii,eK]
  have g1:IntKind.wrap .i64 ((d.length:Int)+1)=(d.length:Int)+1:=wrap64 (by omega) (by omega)
  have g3:(d.length:Int)<(d.length:Int)+((xs.length:Int)+1):=by omega
  have g5:(d.length:Int)+1+(xs.length:Int)=(d.length:Int)+((xs.length:Int)+1):=by omega
  have w0:IntKind.wrap .i64 (k+1)=k+1:=wrap64 (by omega) (by omega)
  have t0:=Zbif (k) (by omega) (by omega)
  have m0:=Zbih x1 (k+1) (by omega) (by omega) (by first | exact hx | exact hx.1 | exact hx.2 | exact hx.2.1 | exact hx.2.2 | exact hx.2.2.1 | exact hx.2.2.2 | exact hx.2.2.2.1 | exact hx.2.2.2.2 | exact hx.2.2.2.2.1 | exact hx.2.2.2.2.2)
  rcases m0 with ⟨r0,s0,m0⟩ | ⟨y0,ys0,r0,s0,m0⟩
  all_goals (simp [g5,Zmv,tI,r0,s0] at ih';simp [g1,g3,w0,t0,m0,r0,s0,ih',Zmv,tI])
theorem Zbik (e:Nat) (xs:List Atom) (k:Int) (h1:0≤k) (h2:k+(Zbw xs:Int)≤4000000000000000000) (h3:SmL Atom.small xs):C Z6f [.own 0,I k] [.xarr e 2 (xs.map Atom.c)]=some (I (k+Zbw xs),[.xarr e 2 ((Zju xs k).map Atom.c)]):=by
 refine runM Zbg4 rfl ?_
 have h4:=fun fr=>Zbij e fr xs [] k h1 h2 (by have:xs.length≤4294967296:=h3.1;simp;omega) h3.2
 simp at h4
 simp [Z4t,h4]
noncomputable def Zmw (a:Zf) (k:Int):Zf:=⟨k,k+1⟩
def Zjv (a:Zf):Nat:=1+1
noncomputable def Zd9 (xs:List Zf) (k:Int):List Zf:=mkL Zmw Zjv xs k
def Zo (xs:List Zf):Nat:=cnL Zjv xs
theorem Zbil (x:Zf) (xs:List Zf) (k:Int):Zd9 (x::xs) k=Zmw x k::Zd9 xs (k+(Zjv x:Int)):=rfl
theorem Zbim (e:Nat) (fr:List Fr):∀ (xs d:List Zf) (k:Int),0≤k→k+(Zo xs:Int)≤4000000000000000000→d.length+xs.length≤4294967296→(∀ x∈xs,x.small)→EvL C fr [0,1,5] Zox ⟨[(0,.own 0),(1,I k),(5,I d.length)],[[(0,.own 0)]],[.xarr e 2 ((d++xs).map Zf.c)]⟩ =
  EvX C fr (.x 0) ⟨[(0,.own 0),(1,I (k+Zo xs)),(5,I (d.length+xs.length)),(9,Bo false)],[[(0,.own 0)]],[.xarr e 2 ((d++Zd9 xs k).map Zf.c)]⟩:=by
 intro xs
 induction xs with
 | nil =>
  intro d k h1 h2 h3 h4
  rw [EvL_eq Zox.eq_1]
  simp [Zd9,Zo,cnL,mkL]
 | cons x xs ih =>
  intro d k h1 h2 h3 h4
  have hx:=h4 x (by simp)
  have e0:Zo (x::xs)=Zjv x+Zo xs:=rfl
  rw [e0] at h2
  simp only [List.length_cons] at h3
  rcases x with ⟨x0,x1⟩
  have e1:Zjv ⟨x0,x1⟩=1+1:=rfl
  have eK:k+(Zjv ⟨x0,x1⟩:Int)=k+1+1:=by omega
  have eL:k+(Zo (⟨x0,x1⟩::xs):Int)=k+1+1+(Zo xs:Int):=by omega
  have ih':=ih (d++[Zmw ⟨x0,x1⟩ k]) (k+1+1) (by omega) (by omega) (by simp;omega) (fun y hy=>h4 y (by simp [hy]))
  rw [EvL_eq Zox.eq_1,eL,Zbil,eK]
  have g1:IntKind.wrap .i64 ((d.length:Int)+1)=(d.length:Int)+1:=wrap64 (by omega) (by omega)
  have g3:(d.length:Int)<(d.length:Int)+((xs.length:Int)+1):=by omega
  have g5:(d.length:Int)+1+(xs.length:Int)=(d.length:Int)+((xs.length:Int)+1):=by omega
  have w0:IntKind.wrap .i64 (k+1)=k+1:=wrap64 (by omega) (by omega)
  have w1:IntKind.wrap .i64 (k+1+1)=k+1+1:=wrap64 (by omega) (by omega)
  (simp [g5,Zmw,tI] at ih';simp [g1,g3,w0,w1,ih',Zmw,tI])
theorem Zbin (e:Nat) (xs:List Zf) (k:Int) (h1:0≤k) (h2:k+(Zo xs:Int)≤4000000000000000000) (h3:SmA xs):C Z6p [.own 0,I k] [.xarr e 2 (xs.map Zf.c)]=some (I (k+Zo xs),[.xarr e 2 ((Zd9 xs k).map Zf.c)]):=by
 refine runM Zbhe rfl ?_
 have h4:=fun fr=>Zbim e fr xs [] k h1 h2 (by have:xs.length≤4294967296:=h3;simp;omega) (fun _ _=>trivial)
 simp at h4
 simp [Z45,h4]
noncomputable def Zg3 (a:Zb) (k:Int):Zb:=⟨k,k+1,k+1+1⟩
def Zfm (a:Zb):Nat:=1+1+1
noncomputable def Zc0 (xs:List Zb) (k:Int):List Zb:=mkL Zg3 Zfm xs k
def Zv (xs:List Zb):Nat:=cnL Zfm xs
theorem Z5e (x:Zb) (xs:List Zb) (k:Int):Zc0 (x::xs) k=Zg3 x k::Zc0 xs (k+(Zfm x:Int)):=rfl
theorem Zbio (e:Nat) (fr:List Fr):∀ (xs d:List Zb) (k:Int),0≤k→k+(Zv xs:Int)≤4000000000000000000→d.length+xs.length≤4294967296→(∀ x∈xs,x.small)→EvL C fr [0,1,5] Zmq ⟨[(0,.own 0),(1,I k),(5,I d.length)],[[(0,.own 0)]],[.xarr e 3 ((d++xs).map Zb.c)]⟩ =
  EvX C fr (.x 0) ⟨[(0,.own 0),(1,I (k+Zv xs)),(5,I (d.length+xs.length)),(9,Bo false)],[[(0,.own 0)]],[.xarr e 3 ((d++Zc0 xs k).map Zb.c)]⟩:=by
 intro xs
 induction xs with
 | nil =>
  intro d k h1 h2 h3 h4
  rw [EvL_eq Zmq.eq_1]
  simp [Zc0,Zv,cnL,mkL]
 | cons x xs ih =>
  intro d k h1 h2 h3 h4
  have hx:=h4 x (by simp)
  have e0:Zv (x::xs)=Zfm x+Zv xs:=rfl
  rw [e0] at h2
  simp only [List.length_cons] at h3
  rcases x with ⟨x0,x1,x2⟩
  have e1:Zfm ⟨x0,x1,x2⟩=1+1+1:=rfl
  have eK:k+(Zfm ⟨x0,x1,x2⟩:Int)=k+1+1+1:=by omega
  have eL:k+(Zv (⟨x0,x1,x2⟩::xs):Int)=k+1+1+1+(Zv xs:Int):=by omega
  have ih':=ih (d++[Zg3 ⟨x0,x1,x2⟩ k]) (k+1+1+1) (by omega) (by omega) (by simp;omega) (fun y hy=>h4 y (by simp [hy]))
  rw [EvL_eq Zmq.eq_1,eL,Z5e,eK]
  have g1:IntKind.wrap .i64 ((d.length:Int)+1)=(d.length:Int)+1:=wrap64 (by omega) (by omega)
  have g3:(d.length:Int)<(d.length:Int)+((xs.length:Int)+1):=by omega
  have g5:(d.length:Int)+1+(xs.length:Int)=(d.length:Int)+((xs.length:Int)+1):=by omega
  have w0:IntKind.wrap .i64 (k+1)=k+1:=wrap64 (by omega) (by omega)
  have w1:IntKind.wrap .i64 (k+1+1)=k+1+1:=wrap64 (by omega) (by omega)
  have w2:IntKind.wrap .i64 (k+1+1+1)=k+1+1+1:=wrap64 (by omega) (by omega)
  (simp [g5,Zg3,tI] at ih';simp [g1,g3,w0,w1,w2,ih',Zg3,tI])
theorem Zbip (e:Nat) (xs:List Zb) (k:Int) (h1:0≤k) (h2:k+(Zv xs:Int)≤4000000000000000000) (h3:SmA xs):C Zvk [.own 0,I k] [.xarr e 3 (xs.map Zb.c)]=some (I (k+Zv xs),[.xarr e 3 ((Zc0 xs k).map Zb.c)]):=by
 refine runM Z4u rfl ?_
 have h4:=fun fr=>Zbio e fr xs [] k h1 h2 (by have:xs.length≤4294967296:=h3;simp;omega) (fun _ _=>trivial)
 simp at h4
 simp [Zuj,h4]
theorem Zbiq (k:Int):C Zvk [.t .nil,I k] []=some (I k,[]):=by
 refine run Z4u rfl ?_
 simp [Zuj,EvL_eq Zmq.eq_1]
theorem Zbir (fr:List Fr):∀ (xs d:List Zb) (k:Int),0≤k→k+(Zv xs:Int)≤4000000000000000000→d.length+xs.length≤4294967296→(∀ x∈xs,x.small)→EvL C fr [0,1,5] Zmr ⟨[(0,L 3 ((d++Zc0 xs k).map Zb.c)),(1,I k),(5,I d.length)],[[]],[]⟩ =
  EvX C fr (.x 0) ⟨[(0,L 3 ((d++Zc0 xs k).map Zb.c)),(1,I (k+Zv xs)),(5,I (d.length+xs.length)),(9,Bo false)],[[]],[]⟩:=by
 intro xs
 induction xs with
 | nil =>
  intro d k h1 h2 h3 h4
  rw [EvL_eq Zmr.eq_1]
  simp [Zc0,Zv,cnL,mkL]
 | cons x xs ih =>
  intro d k h1 h2 h3 h4
  have hx:=h4 x (by simp)
  have e0:Zv (x::xs)=Zfm x+Zv xs:=rfl
  rw [e0] at h2
  simp only [List.length_cons] at h3
  rcases x with ⟨x0,x1,x2⟩
  have e1:Zfm ⟨x0,x1,x2⟩=1+1+1:=rfl
  have eK:k+(Zfm ⟨x0,x1,x2⟩:Int)=k+1+1+1:=by omega
  have eL:k+(Zv (⟨x0,x1,x2⟩::xs):Int)=k+1+1+1+(Zv xs:Int):=by omega
  have ih':=ih (d++[Zg3 ⟨x0,x1,x2⟩ k]) (k+1+1+1) (by omega) (by omega) (by simp;omega) (fun y hy=>h4 y (by simp [hy]))
  rw [EvL_eq Zmr.eq_1,eL,Z5e,eK]
  have g1:IntKind.wrap .i64 ((d.length:Int)+1)=(d.length:Int)+1:=wrap64 (by omega) (by omega)
  have g3:(d.length:Int)<(d.length:Int)+(((Zc0 xs (k+1+1+1)).length:Int)+1):=by omega
  have g5:(d.length:Int)+1+(xs.length:Int)=(d.length:Int)+((xs.length:Int)+1):=by omega
  have w0:IntKind.wrap .i64 (k+1)=k+1:=wrap64 (by omega) (by omega)
  have w1:IntKind.wrap .i64 (k+1+1)=k+1+1:=wrap64 (by omega) (by omega)
  have w2:IntKind.wrap .i64 (k+1+1+1)=k+1+1+1:=wrap64 (by omega) (by omega)
  simp [g5,Zg3,tI] at ih'
  simp [g1,g3,w0,w1,w2,ih',Zg3,tI]
theorem Zbis (xs:List Zb) (k:Int) (h1:0≤k) (h2:k+(Zv xs:Int)≤4000000000000000000) (h3:SmA xs):C Zvm [L 3 ((Zc0 xs k).map Zb.c),I k] []=some (I (k+Zv xs),[]):=by
 refine run Z4x rfl ?_
 have h4:=fun fr=>Zbir fr xs [] k h1 h2 (by have:xs.length≤4294967296:=h3;simp;omega) (fun _ _=>trivial)
 simp at h4
 simp [Zul,h4]
theorem Zbit (k:Int):C Zvm [.t .nil,I k] []=some (I k,[]):=by
 refine run Z4x rfl ?_
 simp [Zul,EvL_eq Zmr.eq_1]
theorem Z5f (e0 e1:Nat) (x0:List Int) (x1:List Int) (k:Int) (h1:0≤k) (h2:k+(x0.length:Int)+(x1.length:Int)≤4000000000000000000) (sx0:SmA x0) (sx1:SmA x1):C Zvf [.agg [.own 0,.own 1],I k] [.xarr e0 1 (x0.map ic),.xarr e1 1 (x1.map ic)]=some (I (k+(x0.length:Int)+(x1.length:Int)),[.xarr e0 1 ((mkI x0 (k)).map ic),.xarr e1 1 ((mkI x1 (k+(x0.length:Int))).map ic)]):=by
 refine runM Z4g rfl ?_
 have m0:=Zo0 e0 x0 (k) (by omega) (by omega) sx0
 have m1:=Zo0 e1 x1 (k+(x0.length:Int)) (by omega) (by omega) sx1
 simp [Zue,m0,m1]
theorem Zbiu  (k:Int):C Zvf [.agg [.t .nil,.t .nil],I k] []=some (I k,[]):=by
 refine run Z4g rfl ?_
 simp [Zue,Zbib]
theorem Zbiv (x0:List Int) (x1:List Int) (k:Int) (h1:0≤k) (h2:k+(x0.length:Int)+(x1.length:Int)≤4000000000000000000) (sx0:SmA x0) (sx1:SmA x1):C Zvl [.agg [.t (tI (mkI x0 (k))),.t (tI (mkI x1 (k+(x0.length:Int))))],I k] []=some (I (k+(x0.length:Int)+(x1.length:Int)),[]):=by
 refine run Z4w rfl ?_
 have m0:=Z5d x0 (k) (by omega) (by omega) sx0
 have z0:¬ (k+(x0.length:Int)<0):=by omega
 have m1:=Z5d x1 (k+(x0.length:Int)) (by omega) (by omega) sx1
 have z1:¬ (k+(x0.length:Int)+(x1.length:Int)<0):=by omega
 simp [Zuk,tI,m0,z0,m1,z1]
theorem Zbiw  (k:Int) (h1:0≤k):C Zvl [.agg [.t .nil,.t .nil],I k] []=some (I k,[]):=by
 refine run Z4w rfl ?_
 have z:¬ (k<0):=by omega
 simp [Zuk,z,h1,Zbig]
theorem Zmx (e0:Nat) (x0:Int) (x1:Int) (x2:Int) (x3:Int) (x4:Int) (x5:List Zf) (k:Int) (h1:0≤k) (h2:k+(Zo x5:Int)≤4000000000000000000) (sx5:SmA x5):C Z6e [.agg [I x0,I x1,I x2,I x3,I x4,.own 0],I k] [.xarr e0 2 (x5.map Zf.c)]=some (I (k+(Zo x5:Int)),[.xarr e0 2 ((Zd9 x5 (k)).map Zf.c)]):=by
 refine runM Zbg3 rfl ?_
 have m0:=Zbin e0 x5 (k) (by omega) (by omega) sx5
 simp [Z4s,m0]
theorem Zbix (e0 e1 e2 e3 e4:Nat) (x0:Int) (x1:Int) (x2:Int) (x3:Int) (x4:Int) (x5:List Zf) (x6:Int) (x7:Int) (x8:Int) (x9:Int) (x10:Int) (x11:List Zf) (x12:Int) (x13:Int) (x14:Int) (x15:Int) (x16:Int) (x17:List Zf) (x18:Int) (x19:Int) (x20:Int) (x21:Int) (x22:Int) (x23:List Zf) (x24:Int) (x25:Int) (x26:Int) (x27:Int) (x28:Int) (x29:List Zf) (k:Int) (h1:0≤k) (h2:k+(Zo x5:Int)+(Zo x11:Int)+(Zo x17:Int)+(Zo x23:Int)+(Zo x29:Int)≤4000000000000000000) (sx5:SmA x5) (sx11:SmA x11) (sx17:SmA x17) (sx23:SmA x23) (sx29:SmA x29):C Z51 [.agg [I x0,I x1,I x2,I x3,I x4,.own 0,I x6,I x7,I x8,I x9,I x10,.own 1,I x12,I x13,I x14,I x15,I x16,.own 2,I x18,I x19,I x20,I x21,I x22,.own 3,I x24,I x25,I x26,I x27,I x28,.own 4],I k] [.xarr e0 2 (x5.map Zf.c),.xarr e1 2 (x11.map Zf.c),.xarr e2 2 (x17.map Zf.c),.xarr e3 2 (x23.map Zf.c),.xarr e4 2 (x29.map Zf.c)]=some (I (k+(Zo x5:Int)+(Zo x11:Int)+(Zo x17:Int)+(Zo x23:Int)+(Zo x29:Int)),[.xarr e0 2 ((Zd9 x5 (k)).map Zf.c),.xarr e1 2 ((Zd9 x11 (k+(Zo x5:Int))).map Zf.c),.xarr e2 2 ((Zd9 x17 (k+(Zo x5:Int)+(Zo x11:Int))).map Zf.c),.xarr e3 2 ((Zd9 x23 (k+(Zo x5:Int)+(Zo x11:Int)+(Zo x17:Int))).map Zf.c),.xarr e4 2 ((Zd9 x29 (k+(Zo x5:Int)+(Zo x11:Int)+(Zo x17:Int)+(Zo x23:Int))).map Zf.c)]):=by
 refine runM Zbgq rfl ?_
 have m0:=Zmx e0 x0 x1 x2 x3 x4 x5 (k) (by omega) (by omega) sx5
 have m1:=Zmx e1 x6 x7 x8 x9 x10 x11 (k+(Zo x5:Int)) (by omega) (by omega) sx11
 have m2:=Zmx e2 x12 x13 x14 x15 x16 x17 (k+(Zo x5:Int)+(Zo x11:Int)) (by omega) (by omega) sx17
 have m3:=Zmx e3 x18 x19 x20 x21 x22 x23 (k+(Zo x5:Int)+(Zo x11:Int)+(Zo x17:Int)) (by omega) (by omega) sx23
 have m4:=Zmx e4 x24 x25 x26 x27 x28 x29 (k+(Zo x5:Int)+(Zo x11:Int)+(Zo x17:Int)+(Zo x23:Int)) (by omega) (by omega) sx29
 simp [Z37,m0,m1,m2,m3,m4]
theorem Z5g (e0:Nat) (x0:List Zb) (k:Int) (h1:0≤k) (h2:k+(Zv x0:Int)≤4000000000000000000) (sx0:SmA x0):C Zvb [.agg [.own 0],I k] [.xarr e0 3 (x0.map Zb.c)]=some (I (k+(Zv x0:Int)),[.xarr e0 3 ((Zc0 x0 (k)).map Zb.c)]):=by
 refine runM Z39 rfl ?_
 have m0:=Zbip e0 x0 (k) (by omega) (by omega) sx0
 simp [Zt9,m0]
theorem Zbiy  (k:Int):C Zvb [.agg [.t .nil],I k] []=some (I k,[]):=by
 refine run Z39 rfl ?_
 simp [Zt9,Zbiq]
theorem Zbiz (x0:List Zb) (k:Int) (h1:0≤k) (h2:k+(Zv x0:Int)≤4000000000000000000) (sx0:SmA x0):C Zvi [.agg [.t (.lst 3 ((Zc0 x0 (k)).map Zb.c))],I k] []=some (I (k+(Zv x0:Int)),[]):=by
 refine run Z4j rfl ?_
 have m0:=Zbis x0 (k) (by omega) (by omega) sx0
 have z0:¬ (k+(Zv x0:Int)<0):=by omega
 simp [Zuh,tI,m0,z0]
theorem Zbi0  (k:Int) (h1:0≤k):C Zvi [.agg [.t .nil],I k] []=some (I k,[]):=by
 refine run Z4j rfl ?_
 have z:¬ (k<0):=by omega
 simp [Zuh,z,h1,Zbit]
theorem Zbi1 (e0:Nat) (x0:Int) (x1:List Atom) (k:Int) (h1:0≤k) (h2:k+(Zbw x1:Int)≤4000000000000000000) (sx1:SmL Atom.small x1):C Z52 [.agg [I x0,.own 0],I k] [.xarr e0 2 (x1.map Atom.c)]=some (I (k+(Zbw x1:Int)),[.xarr e0 2 ((Zju x1 (k)).map Atom.c)]):=by
 refine runM Zbgr rfl ?_
 have m0:=Zbik e0 x1 (k) (by omega) (by omega) sx1
 simp [Z38,m0]
theorem Zbi2 (e0 e1 e2:Nat) (x0:List Zb) (x1:List Int) (x2:List Int) (x3:Int) (k:Int) (h1:0≤k) (h2:k+(Zv x0:Int)+(x1.length:Int)+(x2.length:Int)≤4000000000000000000) (sx0:SmA x0) (sx1:SmA x1) (sx2:SmA x2):C Zvg [.agg [.own 0,.own 1,.own 2,I x3],I k] [.xarr e0 3 (x0.map Zb.c),.xarr e1 1 (x1.map ic),.xarr e2 1 (x2.map ic)]=some (I (k+(Zv x0:Int)+(x1.length:Int)+(x2.length:Int)),[.xarr e0 3 ((Zc0 x0 (k)).map Zb.c),.xarr e1 1 ((mkI x1 (k+(Zv x0:Int))).map ic),.xarr e2 1 ((mkI x2 (k+(Zv x0:Int)+(x1.length:Int))).map ic)]):=by
 refine runM Z4h rfl ?_
 have m0:=Z5g e0 x0 (k) (by omega) (by omega) sx0
 have m1:=Z5f e1 e2 x1 x2 (k+(Zv x0:Int)) (by omega) (by omega) sx1 sx2
 simp [Zuf,m0,m1]
theorem Zbi3 (x3:Int) (k:Int):C Zvg [.agg [.t .nil,.t .nil,.t .nil,I x3],I k] []=some (I k,[]):=by
 refine run Z4h rfl ?_
 simp [Zuf,Zbiy,Zbiu]
theorem Zbi4 (x0:List Zb) (x1:List Int) (x2:List Int) (x3:Int) (k:Int) (h1:0≤k) (h2:k+(Zv x0:Int)+(x1.length:Int)+(x2.length:Int)≤4000000000000000000) (sx0:SmA x0) (sx1:SmA x1) (sx2:SmA x2):C Zvh [.agg [.t (.lst 3 ((Zc0 x0 (k)).map Zb.c)),.t (tI (mkI x1 (k+(Zv x0:Int)))),.t (tI (mkI x2 (k+(Zv x0:Int)+(x1.length:Int)))),I x3],I k] []=some (I (k+(Zv x0:Int)+(x1.length:Int)+(x2.length:Int)),[]):=by
 refine run Z4i rfl ?_
 have m0:=Zbiz x0 (k) (by omega) (by omega) sx0
 have z0:¬ (k+(Zv x0:Int)<0):=by omega
 have m1:=Zbiv x1 x2 (k+(Zv x0:Int)) (by omega) (by omega) sx1 sx2
 have z1:¬ (k+(Zv x0:Int)+(x1.length:Int)+(x2.length:Int)<0):=by omega
 simp [Zug,tI,m0,z0,m1,z1]
theorem Zbi5 (x3:Int) (k:Int) (h1:0≤k):C Zvh [.agg [.t .nil,.t .nil,.t .nil,I x3],I k] []=some (I k,[]):=by
 refine run Z4i rfl ?_
 have z:¬ (k<0):=by omega
 simp [Zug,z,h1,Zbi0,Zbiw]
theorem Zio {n:Nat} {left:Int} (hn:n≤maxLen) (h0:0≤left) (h1:left≤1048576) (h:0≤sz1 n left):sz1 n left≤left∧(n:Int)≤left - sz1 n left:=by
 unfold maxLen at hn
 have hw:IntKind.wrap .i64 (left - n)=left - n:=wrap64 (by omega) (by omega)
 unfold sz1 at h ⊢
 rw [hw] at h ⊢
 split at h
 ·omega
 ·rename_i hx;rw [if_neg hx];omega
theorem Z5h {α:Type} {f:α→Int→Int} {n:α→Nat} {M:Int}:∀ (xs:List α) (left:Int),(∀ x∈xs,∀ l,0≤l→l≤M→0≤f x l→f x l≤l∧(n x:Int)≤16+16*(l - f x l))→0≤left→left≤M→0≤szFold f xs left→szFold f xs left≤left∧(cnL n xs:Int)≤16*(xs.length:Int)+16*(left - szFold f xs left)
 | [],left,_,_,_,h=>by simp [szFold,cnL]
 | x::xs,left,hf,h0,h1,h=>by
  unfold szFold at h ⊢
  split at h
  ·omega
  ·rename_i hx
   rw [if_neg hx]
   obtain ⟨h2,h3⟩:=hf x (by simp) left h0 h1 (by omega)
   obtain ⟨h4,h5⟩:=Z5h xs (f x left) (fun y hy=>hf y (by simp [hy])) (by omega) (by omega) h
   have e:cnL n (x::xs)=n x+cnL n xs:=rfl
   rw [e,List.length_cons]
   omega
theorem szL_ct {α:Type} {f:α→Int→Int} {n:α→Nat} {xs:List α} {left:Int} (hn:xs.length≤maxLen) (hf:∀ x∈xs,∀ l,0≤l→l≤1048576→0≤f x l→f x l≤l∧(n x:Int)≤16+16*(l - f x l)) (h0:0≤left) (h1:left≤1048576) (h:0≤szL f xs left) :
  szL f xs left≤left∧(cnL n xs:Int)≤16*(left - szL f xs left):=by
 unfold szL andSz at h ⊢
 split at h
 ·omega
 ·rename_i hx
  rw [if_neg hx]
  have a:=Zio hn h0 h1 (by omega)
  have b:=Z5h xs _ hf (by omega) (by omega) h
  omega
theorem Zuo {α:Type} {n:α→Nat} {c:Nat} (h:∀ x,n x=c):∀ xs:List α,cnL n xs=c*xs.length
 | []=>rfl
 | x::xs=>by
  have e:cnL n (x::xs)=n x+cnL n xs:=rfl
  rw [e,h,Zuo h xs,List.length_cons,Nat.mul_succ,Nat.add_comm]
def Zup (x:Atom):Nat:=x.Vars.length
theorem Atom.ct (x:Atom) (l:Int) (hx:x.okay) (h0:0≤l) (h1:l≤1048576) (h:0≤x.sz l):x.sz l≤l∧(Zup x:Int)≤16*(l - x.sz l):=by
 unfold Atom.sz at h ⊢
 simp only [andSz] at h ⊢
 split at h
 ·omega
 rename_i q0
 rw [if_neg q0]
 have s0:=Zio hx.1 h0 h1 (Int.not_lt.1 q0)
 split at h
 ·omega
 rename_i q1
 rw [if_neg q1]
 have s1:=Zio hx.2.1 (by omega) (by omega) (Int.not_lt.1 q1)
 refine ⟨by omega,?_⟩
 unfold Zup
 omega
theorem Zbi6 (x:Atom) (l:Int) (hx:x.okay) (h0:0≤l) (h1:l≤1048576) (h:0≤x.sz l):x.sz l≤l∧(Zd8 x:Int)≤16+16*(l - x.sz l):=by
 have a:=Atom.ct x l hx h0 h1 h
 unfold Zup at a
 unfold Zd8
 omega
def Zo1 (x:Zc):Nat:=Zbw x.Atoms
theorem Zc.ct (x:Zc) (l:Int) (hx:x.okay) (h0:0≤l) (h1:l≤1048576) (h:0≤x.sz l):x.sz l≤l∧(Zo1 x:Int)≤16*(l - x.sz l):=by
 unfold Zc.sz at h ⊢
 simp only [andSz] at h ⊢
 split at h
 ·omega
 rename_i q0
 rw [if_neg q0]
 have s0:=szL_ct (n:=Zd8) hx.2.1 (fun y hy l a b c=>Zbi6 y l (hx.2.2 y hy) a b c) h0 h1 (Int.not_lt.1 q0)
 refine ⟨by omega,?_⟩
 unfold Zo1
 have v0:Zbw x.Atoms=cnL Zd8 x.Atoms:=rfl
 omega
def Zo2 (x:Box):Nat:=x.Low.length+x.High.length
theorem Box.ct (x:Box) (l:Int) (hx:x.okay) (h0:0≤l) (h1:l≤1048576) (h:0≤x.sz l):x.sz l≤l∧(Zo2 x:Int)≤16*(l - x.sz l):=by
 unfold Box.sz at h ⊢
 simp only [andSz] at h ⊢
 split at h
 ·omega
 rename_i q0
 rw [if_neg q0]
 have s0:=Zio hx.1.1 h0 h1 (Int.not_lt.1 q0)
 split at h
 ·omega
 rename_i q1
 rw [if_neg q1]
 have s1:=Zio hx.2.1 (by omega) (by omega) (Int.not_lt.1 q1)
 refine ⟨by omega,?_⟩
 unfold Zo2
 omega
theorem Zjw (xs:List Zf):Zo xs=2*xs.length:=Zuo (fun _=>rfl) xs
def Zip (x:Zh):Nat:=Zo x.Steps
theorem Zh.ct (x:Zh) (l:Int) (hx:x.okay) (h0:0≤l) (h1:l≤1048576) (h:0≤x.sz l):x.sz l≤l∧(Zip x:Int)≤16*(l - x.sz l):=by
 unfold Zh.sz at h ⊢
 simp only [andSz] at h ⊢
 split at h
 ·omega
 rename_i q0
 rw [if_neg q0]
 have s0:=Zio hx.2.2.2.2.2.1 h0 h1 (Int.not_lt.1 q0)
 refine ⟨by omega,?_⟩
 unfold Zip
 have v0:=Zjw x.Steps
 omega
def Zuq (x:Zd):Nat:=Zo x.Scan.Steps+Zo x.Sort_.Steps+Zo x.Hash.Steps+Zo x.Merge.Steps+Zo x.Nested.Steps
theorem Zd.ct (x:Zd) (l:Int) (hx:x.okay) (h0:0≤l) (h1:l≤1048576) (h:0≤x.sz l):x.sz l≤l∧(Zuq x:Int)≤16*(l - x.sz l):=by
 unfold Zd.sz at h ⊢
 simp only [andSz] at h ⊢
 split at h
 ·omega
 rename_i q0
 rw [if_neg q0]
 have s0:=Zh.ct x.Scan _ ⟨hx.1,hx.2.1,hx.2.2.1,hx.2.2.2.1,hx.2.2.2.2.1,hx.2.2.2.2.2.1⟩ h0 h1 (Int.not_lt.1 q0)
 split at h
 ·omega
 rename_i q1
 rw [if_neg q1]
 have s1:=Zh.ct x.Sort_ _ ⟨hx.2.2.2.2.2.2.1,hx.2.2.2.2.2.2.2.1,hx.2.2.2.2.2.2.2.2.1,hx.2.2.2.2.2.2.2.2.2.1,hx.2.2.2.2.2.2.2.2.2.2.1,hx.2.2.2.2.2.2.2.2.2.2.2.1⟩ (by omega) (by omega) (Int.not_lt.1 q1)
 split at h
 ·omega
 rename_i q2
 rw [if_neg q2]
 have s2:=Zh.ct x.Hash _ ⟨hx.2.2.2.2.2.2.2.2.2.2.2.2.1,hx.2.2.2.2.2.2.2.2.2.2.2.2.2.1,hx.2.2.2.2.2.2.2.2.2.2.2.2.2.2.1,hx.2.2.2.2.2.2.2.2.2.2.2.2.2.2.2.1,hx.2.2.2.2.2.2.2.2.2.2.2.2.2.2.2.2.1,hx.2.2.2.2.2.2.2.2.2.2.2.2.2.2.2.2.2.1⟩ (by omega) (by omega) (Int.not_lt.1 q2)
 split at h
 ·omega
 rename_i q3
 rw [if_neg q3]
 have s3:=Zh.ct x.Merge _ ⟨hx.2.2.2.2.2.2.2.2.2.2.2.2.2.2.2.2.2.2.1,hx.2.2.2.2.2.2.2.2.2.2.2.2.2.2.2.2.2.2.2.1,hx.2.2.2.2.2.2.2.2.2.2.2.2.2.2.2.2.2.2.2.2.1,hx.2.2.2.2.2.2.2.2.2.2.2.2.2.2.2.2.2.2.2.2.2.1,hx.2.2.2.2.2.2.2.2.2.2.2.2.2.2.2.2.2.2.2.2.2.2.1,hx.2.2.2.2.2.2.2.2.2.2.2.2.2.2.2.2.2.2.2.2.2.2.2.1⟩ (by omega) (by omega) (Int.not_lt.1 q3)
 split at h
 ·omega
 rename_i q4
 rw [if_neg q4]
 have s4:=Zh.ct x.Nested _ ⟨hx.2.2.2.2.2.2.2.2.2.2.2.2.2.2.2.2.2.2.2.2.2.2.2.2.1,hx.2.2.2.2.2.2.2.2.2.2.2.2.2.2.2.2.2.2.2.2.2.2.2.2.2.1,hx.2.2.2.2.2.2.2.2.2.2.2.2.2.2.2.2.2.2.2.2.2.2.2.2.2.2.1,hx.2.2.2.2.2.2.2.2.2.2.2.2.2.2.2.2.2.2.2.2.2.2.2.2.2.2.2.1,hx.2.2.2.2.2.2.2.2.2.2.2.2.2.2.2.2.2.2.2.2.2.2.2.2.2.2.2.2.1,hx.2.2.2.2.2.2.2.2.2.2.2.2.2.2.2.2.2.2.2.2.2.2.2.2.2.2.2.2.2⟩ (by omega) (by omega) (Int.not_lt.1 q4)
 refine ⟨by omega,?_⟩
 unfold Zuq
 have v0:Zip x.Scan=Zo x.Scan.Steps:=rfl
 have v1:Zip x.Sort_=Zo x.Sort_.Steps:=rfl
 have v2:Zip x.Hash=Zo x.Hash.Steps:=rfl
 have v3:Zip x.Merge=Zo x.Merge.Steps:=rfl
 have v4:Zip x.Nested=Zo x.Nested.Steps:=rfl
 have v5:=Zjw x.Scan.Steps
 have v6:=Zjw x.Sort_.Steps
 have v7:=Zjw x.Hash.Steps
 have v8:=Zjw x.Merge.Steps
 have v9:=Zjw x.Nested.Steps
 omega
theorem Zo3 (xs:List Zb):Zv xs=3*xs.length:=Zuo (fun _=>rfl) xs
def Zo4 (x:Plan):Nat:=Zv x.Steps
theorem Plan.ct (x:Plan) (l:Int) (hx:x.okay) (h0:0≤l) (h1:l≤1048576) (h:0≤x.sz l):x.sz l≤l∧(Zo4 x:Int)≤16*(l - x.sz l):=by
 unfold Plan.sz at h ⊢
 simp only [andSz] at h ⊢
 split at h
 ·omega
 rename_i q0
 rw [if_neg q0]
 have s0:=Zio hx.1 h0 h1 (Int.not_lt.1 q0)
 refine ⟨by omega,?_⟩
 unfold Zo4
 have v0:=Zo3 x.Steps
 omega
def Zur (x:Region):Nat:=Zv x.Plan.Steps+x.Box.Low.length+x.Box.High.length
theorem Region.ct (x:Region) (l:Int) (hx:x.okay) (h0:0≤l) (h1:l≤1048576) (h:0≤x.sz l):x.sz l≤l∧(Zur x:Int)≤16*(l - x.sz l):=by
 unfold Region.sz at h ⊢
 simp only [andSz] at h ⊢
 split at h
 ·omega
 rename_i q0
 rw [if_neg q0]
 have s0:=Plan.ct x.Plan _ hx.1 h0 h1 (Int.not_lt.1 q0)
 split at h
 ·omega
 rename_i q1
 rw [if_neg q1]
 have s1:=Box.ct x.Box _ ⟨hx.2.1,hx.2.2.1⟩ (by omega) (by omega) (Int.not_lt.1 q1)
 refine ⟨by omega,?_⟩
 unfold Zur
 have v0:Zo4 x.Plan=Zv x.Plan.Steps:=rfl
 have v1:Zo2 x.Box=x.Box.Low.length+x.Box.High.length:=rfl
 have v2:=Zo3 x.Plan.Steps
 omega
def Z5i (x:Z3):Nat:=Zbw x.Zc.Atoms+Zv x.Region.Plan.Steps+x.Region.Box.Low.length+x.Region.Box.High.length
theorem Z3.ct (x:Z3) (l:Int) (hx:x.okay) (h0:0≤l) (h1:l≤1048576) (h:0≤x.sz l):x.sz l≤l∧(Z5i x:Int)≤16*(l - x.sz l):=by
 unfold Z3.sz at h ⊢
 simp only [andSz] at h ⊢
 split at h
 ·omega
 rename_i q0
 rw [if_neg q0]
 have s0:=Zc.ct x.Zc _ ⟨hx.1,hx.2.1⟩ h0 h1 (Int.not_lt.1 q0)
 split at h
 ·omega
 rename_i q1
 rw [if_neg q1]
 have s1:=Region.ct x.Region _ ⟨hx.2.2.1,hx.2.2.2.1,hx.2.2.2.2.1,hx.2.2.2.2.2.1⟩ (by omega) (by omega) (Int.not_lt.1 q1)
 refine ⟨by omega,?_⟩
 unfold Z5i
 have v0:Zo1 x.Zc=Zbw x.Zc.Atoms:=rfl
 have v1:Zur x.Region=Zv x.Region.Plan.Steps+x.Region.Box.Low.length+x.Region.Box.High.length:=rfl
 have v2:Zbw x.Zc.Atoms=cnL Zd8 x.Zc.Atoms:=rfl
 have v3:=Zo3 x.Region.Plan.Steps
 omega
end Go.Proofs.YtbapkgocloaaeaaGreat
/- part: L24 -/
namespace Go.Proofs.YtbapkgocloaaeaaGreat
open Go.AM
theorem Zbi7:C Zu9 [.t .nil,.t .nil] []=some (Bo true,[]):=by
 refine run Z33 rfl ?_
 simp [Zon,EvL_eq Zmn.eq_1]
theorem Zbi8:C Zvj [.t .nil,.t .nil] []=some (Bo true,[]):=by
 refine run Z4r rfl ?_
 simp [Zot,EvL_eq Zmp.eq_1]
theorem Zbi9:C Zva [.agg [.t .nil],.agg [.t .nil]] []=some (Bo true,[]):=by
 refine run Z36 rfl ?_
 simp [Zt8,Zbi8]
theorem Zbja:C Zve [.agg [.t .nil,.t .nil],.agg [.t .nil,.t .nil]] []=some (Bo true,[]):=by
 refine run Z4f rfl ?_
 simp [Zud,Zbi7]
theorem Zbjb:C Zvd [.agg [.t .nil,.t .nil,.t .nil,I 0],.agg [.t .nil,.t .nil,.t .nil,I 0]] []=some (Bo true,[]):=by
 refine run Z4b rfl ?_
 simp [Zuc,Zbi9,Zbja]
theorem Z5j (m:Zd) (q:Zc) (p:Plan) (b:Box) (l:List Int) (pc:Int) (hm:m.okay) (hq:q.okay) (hp:p.okay) (hb:b.okay) (hl:OkL OkI l) (hpc:OkI pc):C Z5r [.agg (m.c.map .t),.agg (q.c.map .t),.agg (p.c.map .t),.agg (b.c.map .t),L 1 (l.map ic),I pc] []=some (Bo true,[]):=by
 refine run Zbgg rfl ?_
 by_cases hl0:(1048576:Int)<(l.length:Int)
 ·simp [Zg2,hl0]
 have hl1:l.length≤4294967296:=by omega
 have e1:=fun l=>Zbh0 m.Scan.Fixed m.Scan.Zi m.Scan.Zj m.Scan.Zl m.Scan.Zk m.Scan.Steps m.Sort_.Fixed m.Sort_.Zi m.Sort_.Zj m.Sort_.Zl m.Sort_.Zk m.Sort_.Steps m.Hash.Fixed m.Hash.Zi m.Hash.Zj m.Hash.Zl m.Hash.Zk m.Hash.Steps m.Merge.Fixed m.Merge.Zi m.Merge.Zj m.Merge.Zl m.Merge.Zk m.Merge.Steps m.Nested.Fixed m.Nested.Zi m.Nested.Zj m.Nested.Zl m.Nested.Zk m.Nested.Steps l
 by_cases h1:Zd.sz m (1048576)<0
 ·simp [Zg2,hl0,e1,h1]
 obtain ⟨b1,g1⟩:=Zd.Zbc m _ hm (by omega) (by omega) (by omega:0≤Zd.sz m (1048576))
 have u1:=(Zd.ct m _ hm (by omega) (by omega) (by omega:0≤Zd.sz m (1048576))).2
 unfold Zuq at u1
 have e2:=fun l=>Zbhp q.Ze q.Atoms l (hq.2)
 by_cases h2:Zc.sz q (Zd.sz m (1048576))<0
 ·simp [Zg2,hl0,e1,h1,e2,h2]
 obtain ⟨b2,g2⟩:=Zc.Zbc q _ hq (by omega) (by omega) (by omega:0≤Zc.sz q (Zd.sz m (1048576)))
 have u2:=(Zc.ct q _ hq (by omega) (by omega) (by omega:0≤Zc.sz q (Zd.sz m (1048576)))).2
 unfold Zo1 at u2
 have e3:=fun l=>c_szPlan p.Steps l
 by_cases h3:Plan.sz p (Zc.sz q (Zd.sz m (1048576)))<0
 ·simp [Zg2,hl0,e1,h1,e2,h2,e3,h3]
 obtain ⟨b3,g3⟩:=Plan.Zbc p _ hp (by omega) (by omega) (by omega:0≤Plan.sz p (Zc.sz q (Zd.sz m (1048576))))
 have u3:=(Plan.ct p _ hp (by omega) (by omega) (by omega:0≤Plan.sz p (Zc.sz q (Zd.sz m (1048576))))).2
 unfold Zo4 at u3
 have e4:=fun l=>c_szBox b.Low b.High l
 by_cases h4:Box.sz b (Plan.sz p (Zc.sz q (Zd.sz m (1048576))))<0
 ·simp [Zg2,hl0,e1,h1,e2,h2,e3,h3,e4,h4]
 obtain ⟨b4,g4⟩:=Box.Zbc b _ hb (by omega) (by omega) (by omega:0≤Box.sz b (Plan.sz p (Zc.sz q (Zd.sz m (1048576)))))
 have u4:=(Box.ct b _ hb (by omega) (by omega) (by omega:0≤Box.sz b (Plan.sz p (Zc.sz q (Zd.sz m (1048576)))))).2
 unfold Zo2 at u4
 have t1:=Zbhy m.Scan.Fixed m.Scan.Zi m.Scan.Zj m.Scan.Zl m.Scan.Zk m.Scan.Steps m.Sort_.Fixed m.Sort_.Zi m.Sort_.Zj m.Sort_.Zl m.Sort_.Zk m.Sort_.Steps m.Hash.Fixed m.Hash.Zi m.Hash.Zj m.Hash.Zl m.Hash.Zk m.Hash.Steps m.Merge.Fixed m.Merge.Zi m.Merge.Zj m.Merge.Zl m.Merge.Zk m.Merge.Steps m.Nested.Fixed m.Nested.Zi m.Nested.Zj m.Nested.Zl m.Nested.Zk m.Nested.Steps (g1.1) (g1.2.1) (g1.2.2.1) (g1.2.2.2.1) (g1.2.2.2.2)
 have q1:=fun y0 y1 y2 y3 y4 y5 y6 y7 y8 y9 y10 y11 y12 y13 y14 y15 y16 y17 y18 y19 y20 y21 y22 y23 y24 y25 y26 y27 y28 y29=>Zbhz m.Scan.Fixed m.Scan.Zi m.Scan.Zj m.Scan.Zl m.Scan.Zk m.Scan.Steps m.Sort_.Fixed m.Sort_.Zi m.Sort_.Zj m.Sort_.Zl m.Sort_.Zk m.Sort_.Steps m.Hash.Fixed m.Hash.Zi m.Hash.Zj m.Hash.Zl m.Hash.Zk m.Hash.Steps m.Merge.Fixed m.Merge.Zi m.Merge.Zj m.Merge.Zl m.Merge.Zk m.Merge.Steps m.Nested.Fixed m.Nested.Zi m.Nested.Zj m.Nested.Zl m.Nested.Zk m.Nested.Steps y0 y1 y2 y3 y4 y5 y6 y7 y8 y9 y10 y11 y12 y13 y14 y15 y16 y17 y18 y19 y20 y21 y22 y23 y24 y25 y26 y27 y28 y29 (g1.1) (g1.2.1) (g1.2.2.1) (g1.2.2.2.1) (g1.2.2.2.2)
 have t2:=Zbhn q.Ze q.Atoms (g2)
 have q2:=fun y0 y1=>Zbho q.Ze q.Atoms y0 y1 (g2)
 have t3:=c_toPlan p.Steps (g3)
 have q3:=fun y0=>Z5b p.Steps y0 (g3)
 have t4:=c_toBox b.Low b.High (g4.1) (g4.2)
 have q4:=fun y0 y1=>Z5a b.Low b.High y0 y1 (g4.1) (g4.2)
 have t5:=Zoy l hl1
 have q5:=fun y=>Zoz l y hl1
 have m1:=fun a0 a1 a2 a3 a4=>Zbix a0 a1 a2 a3 a4 m.Scan.Fixed m.Scan.Zi m.Scan.Zj m.Scan.Zl m.Scan.Zk m.Scan.Steps m.Sort_.Fixed m.Sort_.Zi m.Sort_.Zj m.Sort_.Zl m.Sort_.Zk m.Sort_.Steps m.Hash.Fixed m.Hash.Zi m.Hash.Zj m.Hash.Zl m.Hash.Zk m.Hash.Steps m.Merge.Fixed m.Merge.Zi m.Merge.Zj m.Merge.Zl m.Merge.Zk m.Merge.Steps m.Nested.Fixed m.Nested.Zi m.Nested.Zj m.Nested.Zl m.Nested.Zk m.Nested.Steps (1) (by omega) (by omega) (g1.1) (g1.2.1) (g1.2.2.1) (g1.2.2.2.1) (g1.2.2.2.2)
 have m2:=fun a0=>Zbi1 a0 q.Ze q.Atoms (1+(Zo m.Scan.Steps:Int)+(Zo m.Sort_.Steps:Int)+(Zo m.Hash.Steps:Int)+(Zo m.Merge.Steps:Int)+(Zo m.Nested.Steps:Int)) (by omega) (by omega) (g2)
 have m3:=fun a0=>Z5g a0 p.Steps (1+(Zo m.Scan.Steps:Int)+(Zo m.Sort_.Steps:Int)+(Zo m.Hash.Steps:Int)+(Zo m.Merge.Steps:Int)+(Zo m.Nested.Steps:Int)+(Zbw q.Atoms:Int)) (by omega) (by omega) (g3)
 have m4:=fun a0 a1=>Z5f a0 a1 b.Low b.High (1+(Zo m.Scan.Steps:Int)+(Zo m.Sort_.Steps:Int)+(Zo m.Hash.Steps:Int)+(Zo m.Merge.Steps:Int)+(Zo m.Nested.Steps:Int)+(Zbw q.Atoms:Int)+(Zv p.Steps:Int)) (by omega) (by omega) (g4.1) (g4.2)
 have m5:=fun a0=>Zo0 a0 l (1+(Zo m.Scan.Steps:Int)+(Zo m.Sort_.Steps:Int)+(Zo m.Hash.Steps:Int)+(Zo m.Merge.Steps:Int)+(Zo m.Nested.Steps:Int)+(Zbw q.Atoms:Int)+(Zv p.Steps:Int)+(b.Low.length:Int)+(b.High.length:Int)) (by omega) (by omega) hl1
 have z1:¬ (1+(Zo m.Scan.Steps:Int)+(Zo m.Sort_.Steps:Int)+(Zo m.Hash.Steps:Int)+(Zo m.Merge.Steps:Int)+(Zo m.Nested.Steps:Int)+(Zbw q.Atoms:Int)+(Zv p.Steps:Int)+(b.Low.length:Int)+(b.High.length:Int)+(l.length:Int)<0):=by omega
 have n1:LeM m:=⟨by have:=g1.1;omega,by have:=g1.2.1;omega,by have:=g1.2.2.1;omega,by have:=g1.2.2.2.1;omega,by have:=g1.2.2.2.2;omega⟩
 have n2:LeQ q:=⟨by have:=g2.1;omega,fun x hx=>by have:=(g2.2 x hx).2;omega⟩
 have n3:p.Steps.length≤4294967296:=g3
 have n4:LeX b:=⟨by have:=g4.1;omega,by have:=g4.2;omega⟩
 rcases Zbgf n1 n2 p n3 b n4 l hl1 pc with ⟨s1,s0⟩ | ⟨lo,hi,i0,i1,i2,s1,s0⟩
 ·unfold Zi8 Zom at s0
  unfold Zi7 Zom at s1
  simp only [Zd.c_def,Zc.c_def,Plan.c_def,Box.c_def,List.map_cons,List.map_nil] at s0 s1
  simp +decide [Zg2,hl0,e1,h1,e2,h2,e3,h3,e4,h4,t1,q1,t2,q2,t3,q3,t4,q4,t5,q5,m1,m2,m3,m4,m5,z1,s0,s1,Zbjb,Zbi3,Zbi5]
 ·unfold Zi8 grown at s0
  unfold Zi7 grown at s1
  simp only [Zd.c_def,Zc.c_def,Plan.c_def,Box.c_def,List.map_cons,List.map_nil] at s0 s1
  have v1:=Zo3 p.Steps
  have q6:=Zbh8 p.Steps lo hi pc p.Steps lo hi pc n3 (by omega) (by omega)
  have m6:=fun a0 a1 a2=>Zbi2 a0 a1 a2 p.Steps lo hi pc 1 (by omega) (by omega) n3 (by omega) (by omega)
  have m7:=Zbi4 p.Steps lo hi pc 1 (by omega) (by omega) n3 (by omega) (by omega)
  have z2:¬ (1+(Zv p.Steps:Int)+(lo.length:Int)+(hi.length:Int)<0):=by omega
  simp +decide [Zg2,hl0,e1,h1,e2,h2,e3,h3,e4,h4,t1,q1,t2,q2,t3,q3,t4,q4,t5,q5,m1,m2,m3,m4,m5,z1,s0,s1,q6,m6,m7,z2]
end Go.Proofs.YtbapkgocloaaeaaGreat
