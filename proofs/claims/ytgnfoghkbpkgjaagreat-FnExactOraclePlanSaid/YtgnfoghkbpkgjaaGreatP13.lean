/-
  Parts of the proofs for this seat: IA IC IF IG IH IJ IK IL ET EO CR.
-/
import Derived.Deep.LoopGhost
import Derived.Deep.RegionLaw
import Derived.Lib.SlBy
import Derived.Lib.SliceRun
import Derived.Lib.Walk
import Derived.Shelf.RegionOpenPlain
import Derived.Test.YtgnfoghkbpkgjaaGreatChecked
import Derived.WalkKit
import Derived.Test.YtgnfoghkbpkgjaaGreatP7
import Derived.Test.YtgnfoghkbpkgjaaGreatP12
set_option linter.unusedSimpArgs false
set_option linter.unusedVariables false
set_option maxRecDepth 100000
set_option maxHeartbeats 4000000
namespace Go.Proofs.YtgnfoghkbpkgjaaGreat
open Go.AM
structure Base (m:Zd) (q:Zc) (sizes:List Int):Prop where
 hm:LeM m
 hg:Z9 m.Sort_
 hq:LeQ q
 hv:Zq q.Ze q.Atoms=true
 hs:Le sizes
 hcl:Zcq sizes
 hsv:Zbv q.Ze q.Atoms sizes=true
theorem i_merges {m:Zd} {q:Zc} {sizes:List Int} (b:Base m q sizes) {A B M:Int} (hM16:M16 M) (hM:M≠0) (hp:Pair q.Atoms A B M) {E F:List Za} (hE:Held m sizes q.Atoms A E) (hF:Held m sizes q.Atoms B F)
  (sh:List Int) (hl4:sh.length≤1000) (hv:∀ v∈sh,(-1≤v∧v≤3)∧vin q.Atoms A v=true∧vin q.Atoms B v=true)
  (fr:Bool) (table:List (List Za)) (fr1:Bool) (out:List Za) (x x1:List Int) (x3 x4 x5 x6:Int) (r:AV×List Blk) :
  ∀ i,i≤sh.length→∀ a0 a1 a2 a3 a4:Za,(∀ b0 b1 b2 b3 b4,(sh.drop i).foldl (Zem m sizes A B E F) [a0,a1,a2,a3,a4]=[b0,b1,b2,b3,b4] →
   Zef m q fr table fr1 out m q sizes M b0 b1 b2 b3 b4 (sm b0) (sm b1) (sm b2) (sm b3) (sm b4) x x1 sizes M x3 x4 x5 (w (x6+1))=some r) →
  Zcu m q fr table fr1 out m q sizes M a0 a1 a2 a3 a4 (sm a0) (sm a1) (sm a2) (sm a3) (sm a4) x x1 sh sizes M E F x3 x4 x5 x6 sh.length i=some r:=by
 have pA:=Zci hp.a16
 have pB:=Zci hp.b16
 refine down _ ?_ ?_
 ·intro a0 a1 a2 a3 a4 h
  refine Z4r _ _ _ _ _ _ _ _ _ _ _ _ _ _ _ _ _ _ _ _ _ _ _ _ _ _ _ _ _ _ _ _ _ _ ?_
  rw [if_neg (by omega)]
  exact h _ _ _ _ _ (by simp)
 ·intro i hi ih a0 a1 a2 a3 a4 h
  have h4:=inc64 (i:=i) (by omega)
  have hw:w ((i:Int)+1)=((i+1:Nat):Int):=by rw [show w ((i:Int)+1)=(i:Int)+1 from h4];simp
  rw [List.drop_eq_getElem_cons hi,List.foldl_cons] at h
  obtain ⟨v1,v2,v3⟩:=hv sh[i] (List.getElem_mem hi)
  obtain ⟨k1,k2,k3,k4,k5⟩:=Zgf hE b.hg b.hcl hp.a16 v2
  obtain ⟨j1,j2,j3,j4,j5⟩:=Zgf hF b.hg b.hcl hp.b16 v3
  obtain ⟨b0,b1,b2,b3,b4,t,hJ,ht,hx⟩:=x_offJ m b.hm q b.hq b.hv sizes b.hs b.hsv hM16 hM hp (a:=inp m sizes A E sh[i]) (b:=inp m sizes B F sh[i]) (k:=4) (v:=sh[i]) v1 (by omega) k1 j1 k3 j3 (Z7q v2 v3 rfl rfl) ⟨k5,j5⟩ a0 a1 a2 a3 a4
  rw [show Zem m sizes A B E F [a0,a1,a2,a3,a4] sh[i]=[b0,b1,b2,b3,b4] from hJ] at h
  have ih:=ih b0 b1 b2 b3 b4 h
  refine Z4r _ _ _ _ _ _ _ _ _ _ _ _ _ _ _ _ _ _ _ _ _ _ _ _ _ _ _ _ _ _ _ _ _ _ ?_
  rw [if_pos (by omega)]
  refine ⟨by omega,sh[i],by rw [Int.toNat_natCast];exact List.getElem?_eq_getElem hi,?_⟩
  rw [hw]
  rcases Zw4 m b.hm b.hg q b.hq b.hv sizes b.hs b.hcl b.hsv hp.a16 hE v2 with ha | ha
  ·refine .inl ⟨_,ha,?_⟩
   rcases Zw4 m b.hm b.hg q b.hq b.hv sizes b.hs b.hcl b.hsv hp.b16 hF v3 with hb | hb
   ·refine .inl ⟨_,hb,_,Zka _ _ _ _ (by omega) (by omega),?_⟩
    rcases ht with rfl | rfl
    ·exact .inl ⟨m,q,sizes,M,b0,b1,b2,b3,b4,_,_,_,_,_,hx,ih⟩
    ·exact .inr ⟨m,q,sizes,M,b0,b1,b2,b3,b4,_,_,_,_,_,_,hx,ih⟩
   ·refine .inr ⟨_,hb,_,Zka _ ⟨(inp m sizes B F sh[i]).Plan.Steps⟩ _ _ (by omega) (by show (inp m sizes B F sh[i]).Plan.Steps.length≤1000;omega),?_⟩
    rcases ht with rfl | rfl
    ·exact .inl ⟨m,q,sizes,M,b0,b1,b2,b3,b4,_,_,_,_,_,hx,ih⟩
    ·exact .inr ⟨m,q,sizes,M,b0,b1,b2,b3,b4,_,_,_,_,_,_,hx,ih⟩
  ·refine .inr ⟨_,ha,?_⟩
   rcases Zw4 m b.hm b.hg q b.hq b.hv sizes b.hs b.hcl b.hsv hp.b16 hF v3 with hb | hb
   ·refine .inl ⟨_,hb,_,Zka ⟨(inp m sizes A E sh[i]).Plan.Steps⟩ _ _ _ (by show (inp m sizes A E sh[i]).Plan.Steps.length≤1000;omega) (by omega),?_⟩
    rcases ht with rfl | rfl
    ·exact .inl ⟨m,q,sizes,M,b0,b1,b2,b3,b4,_,_,_,_,_,hx,ih⟩
    ·exact .inr ⟨m,q,sizes,M,b0,b1,b2,b3,b4,_,_,_,_,_,_,hx,ih⟩
   ·refine .inr ⟨_,hb,_,Zka ⟨(inp m sizes A E sh[i]).Plan.Steps⟩ ⟨(inp m sizes B F sh[i]).Plan.Steps⟩ _ _ (by show (inp m sizes A E sh[i]).Plan.Steps.length≤1000;omega) (by show (inp m sizes B F sh[i]).Plan.Steps.length≤1000;omega),?_⟩
    rcases ht with rfl | rfl
    ·exact .inl ⟨m,q,sizes,M,b0,b1,b2,b3,b4,_,_,_,_,_,hx,ih⟩
    ·exact .inr ⟨m,q,sizes,M,b0,b1,b2,b3,b4,_,_,_,_,_,_,hx,ih⟩
theorem i_nested {m:Zd} {q:Zc} {sizes:List Int} (b:Base m q sizes) {A B M:Int} (hM16:M16 M) (hM:M≠0) (hp:Pair q.Atoms A B M) {E F:List Za} (hE:Held m sizes q.Atoms A E) (hF:Held m sizes q.Atoms B F)
  (sh:List Int) (hsh:Zg7 q A (andNotI M A)=some (.own 0,[.arr 3 1 true (sh.map ic)]))
  (fr:Bool) (table:List (List Za)) (fr1:Bool) (out:List Za) (x x1:List Int) (x3 x4 x5 x6:Int) (r:AV×List Blk) :
  ∀ i,i≤E.length→∀ a0 a1 a2 a3 a4:Za,(∀ b0 b1 b2 b3 b4,(E.drop i).foldl (Zd8 m sizes (Zv F)) [a0,a1,a2,a3,a4]=[b0,b1,b2,b3,b4] →
   Zcu m q fr table fr1 out m q sizes M b0 b1 b2 b3 b4 (sm b0) (sm b1) (sm b2) (sm b3) (sm b4) x x1 sh sizes M E F x3 x4 x5 x6 sh.length 0=some r) →
  Zfx m q fr table fr1 out m q sizes M a0 a1 a2 a3 a4 (sm a0) (sm a1) (sm a2) (sm a3) (sm a4) (Zv F).Plan x x1 sizes M A E F x3 x4 x5 x6 E E.length i=some r:=by
 have pA:=Zci hp.a16
 have pB:=Zci hp.b16
 have lF:=hF.len _ hF.best
 have hle:=hE.le
 refine down _ ?_ ?_
 ·intro a0 a1 a2 a3 a4 h
  refine Z4q _ _ _ _ _ _ _ _ _ _ _ _ _ _ _ _ _ _ _ _ _ _ _ _ _ _ _ _ _ _ _ _ _ _ _ _ ?_
  rw [if_neg (by omega)]
  exact ⟨sh,hsh,h _ _ _ _ _ (by simp)⟩
 ·intro i hi ih a0 a1 a2 a3 a4 h
  have h4:=inc64 (i:=i) (by omega)
  have hw:w ((i:Int)+1)=((i+1:Nat):Int):=by rw [show w ((i:Int)+1)=(i:Int)+1 from h4];simp
  rw [List.drop_eq_getElem_cons hi,List.foldl_cons] at h
  have hmem:=List.getElem_mem hi
  have lE:=hE.len _ hmem
  obtain ⟨b0,b1,b2,b3,b4,t,hJ,ht,hx⟩:=x_offJ m b.hm q b.hq b.hv sizes b.hs b.hsv hM16 hM hp (a:=E[i]) (b:=Zv F) (k:=5) (v:=0) (hE.ord _ hmem) (by omega) (hE.mask _ hmem) (hF.mask _ hF.best) (hE.makes _ hmem) (hF.makes _ hF.best) nest_p ⟨by omega,by omega⟩ a0 a1 a2 a3 a4
  rw [show Zd8 m sizes (Zv F) [a0,a1,a2,a3,a4] E[i]=[b0,b1,b2,b3,b4] from hJ] at h
  have ih:=ih b0 b1 b2 b3 b4 h
  refine Z4q _ _ _ _ _ _ _ _ _ _ _ _ _ _ _ _ _ _ _ _ _ _ _ _ _ _ _ _ _ _ _ _ _ _ _ _ ?_
  rw [if_pos (by omega)]
  refine ⟨by omega,E[i],by rw [Int.toNat_natCast];exact List.getElem?_eq_getElem hi,?_⟩
  rw [hw]
  refine ⟨_,Zka _ _ _ _ (by omega) (by omega),?_⟩
  rcases ht with rfl | rfl
  ·exact .inl ⟨m,q,sizes,M,b0,b1,b2,b3,b4,_,_,_,_,_,hx,ih⟩
  ·exact .inr ⟨m,q,sizes,M,b0,b1,b2,b3,b4,_,_,_,_,_,_,hx,ih⟩
structure Z76 (m:Zd) (q:Zc) (sizes:List Int) (out:List Za) (table:List (List Za)) (M A:Int) (sh:List Int):Prop where
 ok:Zhx m sizes q.Atoms out M A sh
 diff:andNotI M A=M - A
 sh:Zg7 q A (andNotI M A)=some (.own 0,[.arr 3 1 true (sh.map ic)])
 tA:table[A.toNat]?=some (ofM out A)
 tB:table[(M - A).toNat]?=some (ofM out (M - A))
theorem i_splits {m:Zd} {q:Zc} {sizes:List Int} (b:Base m q sizes) {M:Int} (hM16:M16 M) (hM:M≠0) (table:List (List Za)) (ht:M.toNat<table.length) (out:List Za) (hout:out.length≤1000) (ps:List (Int×List Int)) (hps:ps.length≤100)
  (ok:∀ p∈ps,Z76 m q sizes out table M p.1 p.2) (fr fr1:Bool) (x:List Int) (x2 x3:Int) (r:AV×List Blk) :
  ∀ i,i≤ps.length→∀ a0 a1 a2 a3 a4:Za,(∀ f1 E,((ps.drop i).foldl (oneJ m sizes M out) [a0,a1,a2,a3,a4]).filter sm=E →
   Zfw m q f1 (table.set M.toNat E) (fr1 && flat (E.map Za.c)) (out++E) x sizes x2 (w (x3+1))=some r) →
  Zef m q fr table fr1 out m q sizes M a0 a1 a2 a3 a4 (sm a0) (sm a1) (sm a2) (sm a3) (sm a4) x (ps.map Prod.fst) sizes M x2 x3 ps.length i=some r:=by
 refine down _ ?_ ?_
 ·intro a0 a1 a2 a3 a4 h
  refine Z4o _ _ _ _ _ _ _ _ _ _ _ _ _ _ _ _ _ _ _ _ _ _ _ _ _ _ _ _ _ ?_
  rw [if_neg (by omega)]
  obtain ⟨fr',he⟩:=Zblj m q sizes M a0 a1 a2 a3 a4
  have hl:(there a0 a1 a2 a3 a4).length≤5:=List.length_filter_le _ _
  exact ⟨fr',there a0 a1 a2 a3 a4,he,by omega,_,List.getElem?_eq_getElem ht,by omega,h _ _ (by rw [List.drop_length];rfl)⟩
 ·intro i hi ih a0 a1 a2 a3 a4 h
  have h4:=inc64 (i:=i) (by omega)
  have hw:w ((i:Int)+1)=((i+1:Nat):Int):=by rw [show w ((i:Int)+1)=(i:Int)+1 from h4];simp
  rw [List.drop_eq_getElem_cons hi,List.foldl_cons] at h
  obtain ⟨o,hd,hsh,tA,tB⟩:=ok _ (List.getElem_mem hi)
  have hget:(ps.map Prod.fst)[i]?=some ps[i].1:=by rw [List.getElem?_map,List.getElem?_eq_getElem hi];rfl
  generalize ps[i]=p at *
  obtain ⟨A,sh⟩:=p
  simp only at o hd hsh tA tB hget
  have hp:=o.pair
  have hE:=o.left
  have hF:=o.right
  have pA:=Zci hp.a16
  have pB:=Zci hp.b16
  have lE:=hE.len _ hE.best
  have lF:=hF.len _ hF.best
  have leE:=hE.le
  have leF:=hF.le
  obtain ⟨b0,b1,b2,b3,b4,t,hJ,htt,hx⟩:=x_offJ m b.hm q b.hq b.hv sizes b.hs b.hsv hM16 hM hp (a:=Zv (ofM out A)) (b:=Zv (ofM out (M - A))) (k:=3) (v:=0) (o:=-1) (by omega) (by omega) (hE.mask _ hE.best) (hF.mask _ hF.best) (hE.makes _ hE.best) (hF.makes _ hF.best) hash_p ⟨by omega,by omega⟩ a0 a1 a2 a3 a4
  have hone:oneJ m sizes M out [a0,a1,a2,a3,a4] (A,sh)=sh.foldl (Zem m sizes A (M - A) (ofM out A) (ofM out (M - A))) ((ofM out A).foldl (Zd8 m sizes (Zv (ofM out (M - A)))) [b0,b1,b2,b3,b4]):=by
   unfold oneJ Zhw
   rw [← hJ]
  rw [hone] at h
  have hnext:Zfx m q fr table fr1 out m q sizes M b0 b1 b2 b3 b4 (sm b0) (sm b1) (sm b2) (sm b3) (sm b4) (Zv (ofM out (M - A))).Plan x (ps.map Prod.fst) sizes M A (ofM out A) (ofM out (M - A)) x2 x3 ps.length i (ofM out A) (ofM out A).length 0=some r:=by
   refine i_nested b hM16 hM hp hE hF sh hsh fr table fr1 out x _ x2 x3 _ _ r 0 (Nat.zero_le _) b0 b1 b2 b3 b4 ?_
   intro c0 c1 c2 c3 c4 hc
   refine i_merges b hM16 hM hp hE hF sh o.len o.vars fr table fr1 out x _ x2 x3 _ _ r 0 (Nat.zero_le _) c0 c1 c2 c3 c4 ?_
   intro d0 d1 d2 d3 d4 hdd
   rw [hw]
   rw [List.drop_zero] at hc hdd
   rw [hc,hdd] at h
   exact ih d0 d1 d2 d3 d4 h
  refine Z4o _ _ _ _ _ _ _ _ _ _ _ _ _ _ _ _ _ _ _ _ _ _ _ _ _ _ _ _ _ ?_
  rw [if_pos (by omega)]
  refine ⟨by omega,A,by rw [Int.toNat_natCast];exact hget,hp.a16.1,_,tA,by rw [hd];exact hp.b16.1,_,by rw [hd];exact tB,_,Zql _ hF.ne (by omega),_,Zql _ hE.ne (by omega),_,Zka _ _ _ _ (by omega) (by omega),?_⟩
  rcases htt with rfl | rfl
  ·exact .inl ⟨m,q,sizes,M,b0,b1,b2,b3,b4,_,_,_,_,_,hx,hnext⟩
  ·exact .inr ⟨m,q,sizes,M,b0,b1,b2,b3,b4,_,_,_,_,_,_,hx,hnext⟩
def Zby (q:Zc) (M:Int):List (Int×List Int):=(Zs q.Atoms M).map fun A=>(A,Zd6 q A (M - A))
def Zgg (m:Zd) (sizes:List Int) (q:Zc) (M a:Int):Za:=⟨M,((q.Atoms[a.toNat]?).map fun x=>x.Vars.headD 0).getD 0,Z5 m.Scan (szAt sizes M) 0 (szAt sizes M),⟨[⟨1,a,0⟩]⟩⟩
def entM (m:Zd) (sizes:List Int) (q:Zc) (out:List Za) (M:Int):List Za:=match Zca M with
 | [a]=>[Zgg m sizes q M a]
 | _=>(Zkc m sizes M out (Zby q M)).filter sm
theorem Z77:∀ a:Fin 16,(oneB (ofI (a.1:Int))=true→(Zca (a.1:Int)=[((0:Nat):Int)]∧(a.1:Int)=shlI 1 (0:Nat))∨(Zca (a.1:Int)=[((1:Nat):Int)]∧(a.1:Int)=shlI 1 (1:Nat))∨(Zca (a.1:Int)=[((2:Nat):Int)]∧(a.1:Int)=shlI 1 (2:Nat))∨(Zca (a.1:Int)=[((3:Nat):Int)]∧(a.1:Int)=shlI 1 (3:Nat)))∧(oneB (ofI (a.1:Int))=false→(Zca (a.1:Int)).length≠1):=by decide
theorem Zxd {M:Int} (h:M16 M) (ho:oneB (ofI M)=true):∃ i:Nat,i<4∧Zca M=[(i:Int)]∧M=shlI 1 i:=by
 obtain ⟨a,rfl⟩:=m16 h
 rcases (Z77 a).1 ho with h | h | h | h
 ·exact ⟨0,by omega,h⟩
 ·exact ⟨1,by omega,h⟩
 ·exact ⟨2,by omega,h⟩
 ·exact ⟨3,by omega,h⟩
theorem Zxe {M:Int} (h:M16 M) (ho:oneB (ofI M)=false):(Zca M).length≠1:=by
 obtain ⟨a,rfl⟩:=m16 h
 exact (Z77 a).2 ho
theorem Zxf {m:Zd} {sizes:List Int} {q:Zc} {out:List Za} {M a:Int} (h:Zca M=[a]):entM m sizes q out M=[Zgg m sizes q M a]:=by unfold entM;rw [h]
theorem Zxg {m:Zd} {sizes:List Int} {q:Zc} {out:List Za} {M:Int} (h:(Zca M).length≠1):entM m sizes q out M=(Zkc m sizes M out (Zby q M)).filter sm:=by
 unfold entM
 split
 ·rename_i a e;rw [e] at h;simp at h
 ·rfl
theorem Zxh {m:Zd} {sizes:List Int} {a b:Za} {k v o:Int} (ho:-1≤o∧o≤3) (hM:orI a.Mask b.Mask≠0) {mine:List Za} (h5:mine.length=5):(offJ m sizes a b k v o mine).filter sm≠[]:=by
 refine List.ne_nil_of_mem (a:=offE ((mine[(o+1).toNat]?).getD zE) (orI a.Mask b.Mask) o (jc m sizes a b k) (Zbj a.Plan.Steps b.Plan.Steps k v)) (List.mem_filter.2 ⟨?_,sm_off hM⟩)
 unfold offJ
 exact List.mem_set (by omega) _
theorem Z78 {m:Zd} {sizes:List Int} {b:Za}:∀ {E mine:List Za},(∀ e∈E,(-1≤e.Order∧e.Order≤3)∧orI e.Mask b.Mask≠0)→mine.length=5→mine.filter sm≠[]→(E.foldl (Zd8 m sizes b) mine).filter sm≠[]
 | [],_,_,_,h=>h
 | e::E,mine,he,h5,h=>by
  rw [List.foldl_cons]
  obtain ⟨e1,e2⟩:=he e (by simp)
  exact Z78 (fun x hx=>he x (by simp [hx])) (by rw [show (Zd8 m sizes b mine e).length=mine.length from Zdu];exact h5) (Zxh e1 e2 h5)
theorem Z79 {m:Zd} {sizes:List Int} {A B:Int} {E F:List Za}:∀ {sh:List Int} {mine:List Za},(∀ v∈sh,(-1≤v∧v≤3)∧orI (inp m sizes A E v).Mask (inp m sizes B F v).Mask≠0)→mine.length=5→mine.filter sm≠[]→(sh.foldl (Zem m sizes A B E F) mine).filter sm≠[]
 | [],_,_,_,h=>h
 | v::sh,mine,he,h5,h=>by
  rw [List.foldl_cons]
  obtain ⟨e1,e2⟩:=he v (by simp)
  exact Z79 (fun x hx=>he x (by simp [hx])) (by rw [show (Zem m sizes A B E F mine v).length=mine.length from Zdu];exact h5) (Zxh e1 e2 h5)
theorem one_some {m:Zd} {sizes:List Int} {qa:List Atom} {M:Int} {l:List Za} {p:Int×List Int} (hM:M≠0) (hg:Z9 m.Sort_) (hcl:Zcq sizes) (o:Zhx m sizes qa l M p.1 p.2) {mine:List Za} (h5:mine.length=5):(oneJ m sizes M l mine p).filter sm≠[]:=by
 have hp:=o.pair
 unfold oneJ Zhw
 refine Z79 (fun v hv=>⟨(o.vars v hv).1,?_⟩) (by rw [Zqp,Zdu];exact h5) (Z78 (fun e he=>⟨o.left.ord e he,?_⟩) (by rw [Zdu];exact h5) (Zxh (by omega) ?_ h5))
 ·rw [(Zgf o.left hg hcl hp.a16 (o.vars v hv).2.1).1,(Zgf o.right hg hcl hp.b16 (o.vars v hv).2.2).1,hp.or];exact hM
 ·rw [o.left.mask e he,o.right.mask _ o.right.best,hp.or];exact hM
 ·rw [o.left.mask _ o.left.best,o.right.mask _ o.right.best,hp.or];exact hM
theorem Z8a {m:Zd} {sizes:List Int} {qa:List Atom} {M:Int} {l:List Za} (hM:M≠0) (hg:Z9 m.Sort_) (hcl:Zcq sizes):∀ {ps:List (Int×List Int)} {mine:List Za},(∀ p∈ps,Zhx m sizes qa l M p.1 p.2)→mine.length=5→(ps≠[]∨mine.filter sm≠[])→(ps.foldl (oneJ m sizes M l) mine).filter sm≠[]
 | [],_,_,_,h=>by rcases h with h | h;exact absurd rfl h;exact h
 | p::ps,mine,hp,h5,_=>by
  rw [List.foldl_cons]
  exact Z8a hM hg hcl (fun x hx=>hp x (by simp [hx])) (by rw [show (oneJ m sizes M l mine p).length=mine.length from Z72];exact h5) (.inr (one_some hM hg hcl (hp p (by simp)) h5))
structure Inv (m:Zd) (sizes:List Int) (q:Zc) (done:List Int) (out:List Za):Prop where
 held:∀ M∈done,Held m sizes q.Atoms M (ofM out M)
 only:∀ e∈out,e.Mask∈done
 len:out.length≤5*done.length
theorem Zbl1 {q:Zc} (hv:Zq q.Ze q.Atoms=true) {A B:Int}:∀ v∈Zd6 q A B,(-1≤v∧v≤3)∧vin q.Atoms A v=true∧vin q.Atoms B v=true:=by
 intro v hvm
 unfold Zd6 at hvm
 rw [List.mem_filter] at hvm
 obtain ⟨h1,h2⟩:=hvm
 rw [Zes] at h2
 have key:∀ m,v∈Zz q m→(0≤v∧v≤3)∧vin q.Atoms m v=true:=by
  intro m hm
  unfold Zz varL at hm
  rw [List.mem_map] at hm
  obtain ⟨u,hu,rfl⟩:=hm
  rw [List.mem_filter,List.mem_range] at hu
  have hn:=Zcl hv
  refine ⟨by omega,?_⟩
  unfold vin
  rw [Bool.and_eq_true]
  exact ⟨by simp [inR];omega,by rw [Int.toNat_natCast];exact hu.2⟩
 obtain ⟨k1,k2⟩:=key A h1
 obtain ⟨k3,k4⟩:=key B h2
 exact ⟨by omega,k2,k4⟩
theorem Zbl2 {q:Zc} (hv:Zq q.Ze q.Atoms=true) (A B:Int):(Zd6 q A B).length≤1000:=by
 have:=Zhv q hv A
 unfold Zd6
 have:=List.length_filter_le (has (Zz q B)) (Zz q A)
 omega
theorem Zbn {q:Zc} {sizes:List Int} (hsv:Zbv q.Ze q.Atoms sizes=true) {M:Int} (h:MQ q.Atoms M):SzOk sizes M:=by
 unfold Zbv at hsv
 simp only [Bool.and_eq_true,decide_eq_true_eq] at hsv
 have hf:=Zcx hsv.1.1
 have h1:=h.1
 have h2:=h.2
 have hl:M.toNat<sizes.length:=by omega
 refine ⟨h1,?_⟩
 unfold szAt
 rw [List.getElem?_eq_getElem hl];rfl
theorem Zxi {qa:List Atom} {M A:Int} (hM:MQ qa M) (h:A∈Zs qa M):MQ qa A∧MQ qa (M - A):=by
 obtain ⟨h1,h2,_⟩:=Zm8 h
 have:=hM.2
 exact ⟨⟨by omega,by omega⟩,⟨by omega,by omega⟩⟩
theorem Zxj {m:Zd} {q:Zc} {sizes:List Int} (b:Base m q sizes) {done:List Int} {out:List Za} (hi:Inv m sizes q done out) {M:Int} (hM:MQ q.Atoms M) (hc:conn q.Atoms M=true) (hd:∀ A∈Zs q.Atoms M,A∈done∧M - A∈done):∀ p∈Zby q M,Zhx m sizes q.Atoms out M p.1 p.2:=by
 intro p hp
 unfold Zby at hp
 rw [List.mem_map] at hp
 obtain ⟨A,hA,rfl⟩:=hp
 obtain ⟨d1,d2⟩:=hd A hA
 obtain ⟨q1,q2⟩:=Zxi hM hA
 exact ⟨Zbl0 b.hv hM hc hA,hi.held A d1,hi.held _ d2,Zbn b.hsv q1,Zbn b.hsv q2,Zbl2 b.hv _ _,Zbl1 b.hv⟩
theorem Zxk {m:Zd} {q:Zc} {sizes:List Int} (b:Base m q sizes) {done:List Int} {out:List Za} (hi:Inv m sizes q done out) {M:Int} (hM:MQ q.Atoms M) (h0:M≠0) (hc:conn q.Atoms M=true) (hd:∀ A∈Zs q.Atoms M,A∈done∧M - A∈done):Held m sizes q.Atoms M (entM m sizes q out M):=by
 have h16:=(hM.m16 b.hv).1
 cases ho:oneB (ofI M) with
 | true =>
  obtain ⟨i,hi4,ha,rfl⟩:=Zxd h16 ho
  rw [Zxf ha]
  have hl:i<q.Atoms.length:=by
   have h2:=hM.2
   have hl4:=Zbe b.hv
   have e:shlI 1 (i:Nat)=2 ^ i:=by
    have:i=0∨i=1∨i=2∨i=3:=by omega
    rcases this with rfl | rfl | rfl | rfl <;> decide
   rw [e] at h2
   have h3:(2:Int) ^ i<2 ^ q.Atoms.length:=h2
   rw [← Zd5,← Zd5] at h3
   have h4:2 ^ i<2 ^ q.Atoms.length:=by omega
   exact (Nat.pow_lt_pow_iff_right (by omega)).1 h4
  have hmk:=Zbli (m:=m) (sizes:=sizes) hl
  have hu:=Zkb m.Scan (szAt sizes (shlI 1 i)) 0 (szAt sizes (shlI 1 i))
  rw [w_id (by omega) (by omega)] at hmk
  have hvar:=Zkm b.hv _ (List.getElem_mem hl)
  have he:Zgg m sizes q (shlI 1 i) (i:Int)=⟨shlI 1 i,q.Atoms[i].Vars.headD 0,Z5 m.Scan (szAt sizes (shlI 1 i)) 0 (szAt sizes (shlI 1 i)),⟨[⟨1,i,0⟩]⟩⟩:=by
   simp [Zgg,List.getElem?_eq_getElem hl]
  have hpop:popc (shlI 1 (i:Nat))=1:=by
   have:i=0∨i=1∨i=2∨i=3:=by omega
   rcases this with rfl | rfl | rfl | rfl <;> decide
  have hord:0≤q.Atoms[i].Vars.headD 0∧q.Atoms[i].Vars.headD 0≤3:=by
   cases hvs:q.Atoms[i].Vars with
   | nil=>rw [hvs] at hvar;simp at hvar
   | cons v vs =>
    have:=Zgk b.hv _ (List.getElem_mem hl) v (by rw [hvs];simp)
    have hn:=Zcl b.hv
    simp [inR] at this
    simp only [List.headD_cons]
    omega
  rw [he]
  refine ⟨by simp,by simp,?_,?_,?_,?_⟩
  ·intro e hm;rw [List.mem_singleton.1 hm]
  ·intro e hm;rw [List.mem_singleton.1 hm];exact ⟨by show -1≤q.Atoms[i].Vars.headD 0;omega,hord.2⟩
  ·intro e hm;rw [List.mem_singleton.1 hm];exact hmk
  ·intro e hm;rw [List.mem_singleton.1 hm];simp [hpop]
 | false =>
  rw [Zxg (Zxe h16 ho)]
  have ok:=Zxj b hi hM hc hd
  have hne:=split_ne b.hv hM h0 hc ho
  refine Zbls (Zxb b.hg b.hcl ok (Z73 m sizes q.Atoms M)) (Z8a h0 b.hg b.hcl ok (by simp) (.inl ?_))
  unfold Zby
  intro hh
  exact hne (List.map_eq_nil_iff.1 hh)
theorem Z8b (a b:List Za) (M:Int):ofM (a++b) M=ofM a M++ofM b M:=by simp [ofM]
theorem ofM_all {l:List Za} {M:Int} (h:∀ e∈l,e.Mask=M):ofM l M=l:=by
 unfold ofM
 rw [List.filter_eq_self]
 intro e he
 simp [h e he]
theorem ofM_no {l:List Za} {M:Int} (h:∀ e∈l,e.Mask≠M):ofM l M=[]:=by
 unfold ofM
 rw [List.filter_eq_nil_iff]
 intro e he
 simp [h e he]
theorem Z8c {m:Zd} {q:Zc} {sizes:List Int} (b:Base m q sizes) {done:List Int} {out:List Za} (hi:Inv m sizes q done out) {M:Int} (hM:MQ q.Atoms M) (h0:M≠0) (hc:conn q.Atoms M=true) (hd:∀ A∈Zs q.Atoms M,A∈done∧M - A∈done) (hn:M ∉ done) :
  Inv m sizes q (done++[M]) (out++entM m sizes q out M)∧(∀ A∈done,ofM (out++entM m sizes q out M) A=ofM out A)∧ofM (out++entM m sizes q out M) M=entM m sizes q out M:=by
 have hh:=Zxk b hi hM h0 hc hd
 have e1:∀ A∈done,ofM (out++entM m sizes q out M) A=ofM out A:=by
  intro A hA
  rw [Z8b,ofM_no (l:=entM m sizes q out M),List.append_nil]
  intro e he
  rw [hh.mask e he]
  intro h
  exact hn (h ▸ hA)
 have e2:ofM (out++entM m sizes q out M) M=entM m sizes q out M:=by
  rw [Z8b,ofM_all hh.mask,ofM_no (l:=out),List.nil_append]
  intro e he h
  exact hn (h ▸ hi.only e he)
 refine ⟨⟨?_,?_,?_⟩,e1,e2⟩
 ·intro A hA
  rcases List.mem_append.1 hA with hA | hA
  ·rw [e1 A hA];exact hi.held A hA
  ·simp at hA;subst hA;rw [e2];exact hh
 ·intro e he
  rcases List.mem_append.1 he with he | he
  ·exact List.mem_append_left _ (hi.only e he)
  ·rw [hh.mask e he];simp
 ·have:=hh.le
  have:=hi.len
  simp only [List.length_append,List.length_cons,List.length_nil]
  omega
theorem Zd9 {qa:List Atom} {M:Int}:M∈Zp qa↔1≤M∧M<2 ^ qa.length∧conn qa M=true:=by
 unfold Zp Zdq
 rw [List.mem_map]
 have hp:=Zd5 qa.length
 constructor
 ·rintro ⟨k,hk,rfl⟩
  rw [List.mem_filter,List.mem_range'_1] at hk
  exact ⟨by omega,by omega,hk.2⟩
 ·rintro ⟨h1,h2,h3⟩
  refine ⟨M.toNat,?_,by omega⟩
  rw [List.mem_filter,List.mem_range'_1]
  have e:((M.toNat:Nat):Int)=M:=by omega
  exact ⟨by omega,by rw [e];exact h3⟩
theorem Zm9 (qa:List Atom):(Zp qa).Pairwise (·<·):=by
 unfold Zp Zdq
 rw [List.pairwise_map]
 refine List.Pairwise.filter _ ?_
 refine (List.pairwise_lt_range' (s:=1) (n:=2 ^ qa.length - 1)).imp ?_
 intro a b h
 omega
theorem Zna {n:Int} {qa:List Atom} (hv:Zq n qa=true):(Zp qa).length≤15:=by
 have h16:2 ^ qa.length≤16:=Nat.pow_le_pow_right (by omega:0<2) (Zbe hv).2
 have:=Zbkh (qa:=qa) (k:=1) (n:=2 ^ qa.length - 1)
 unfold Zp
 omega
theorem Z8d {Ms:List Int} (hu:Ms.Pairwise (·<·)) {i:Nat} (hi:i<Ms.length) {A:Int} (hA:A∈Ms) (h:A<Ms[i]):A∈Ms.take i:=by
 obtain ⟨j,hj,rfl⟩:=List.mem_iff_getElem.1 hA
 rw [List.pairwise_iff_getElem] at hu
 have hji:j<i:=by
  rcases Nat.lt_trichotomy j i with q | rfl | q
  ·exact q
  ·omega
  ·have:=hu i j hi hj q;omega
 rw [List.mem_take_iff_getElem]
 exact ⟨j,by omega,rfl⟩
theorem Zxl {Ms:List Int} (hu:Ms.Pairwise (·<·)) {i:Nat} (hi:i<Ms.length):Ms[i] ∉ Ms.take i:=by
 intro h
 rw [List.mem_take_iff_getElem] at h
 obtain ⟨j,hj,e⟩:=h
 rw [List.pairwise_iff_getElem] at hu
 have:=hu j i (by omega) hi (by omega)
 omega
def Z0 (m:Zd) (sizes:List Int) (q:Zc):Nat→List Za
 | 0=>[]
 | i+1=>Z0 m sizes q i++entM m sizes q (Z0 m sizes q i) ((Zp q.Atoms).getD i 0)
theorem Zkd {q:Zc} {i:Nat} (hi:i<(Zp q.Atoms).length):MQ q.Atoms (Zp q.Atoms)[i]∧(Zp q.Atoms)[i]≠0∧conn q.Atoms (Zp q.Atoms)[i]=true∧∀ A∈Zs q.Atoms (Zp q.Atoms)[i],A∈(Zp q.Atoms).take i∧(Zp q.Atoms)[i] - A∈(Zp q.Atoms).take i:=by
 obtain ⟨h1,h2,h3⟩:=Zd9.1 (List.getElem_mem hi)
 refine ⟨⟨by omega,h2⟩,by omega,h3,?_⟩
 intro A hA
 obtain ⟨a1,a2,a3,a4,a5⟩:=Zm8 hA
 exact ⟨Z8d (Zm9 _) hi (Zd9.2 ⟨a1,by omega,a4⟩) a2,Z8d (Zm9 _) hi (Zd9.2 ⟨by omega,by omega,a5⟩) (by omega)⟩
theorem Zke {m:Zd} {q:Zc} {sizes:List Int} (b:Base m q sizes):∀ i,i≤(Zp q.Atoms).length→Inv m sizes q ((Zp q.Atoms).take i) (Z0 m sizes q i)
 | 0,_=>⟨by simp,by simp [Z0],by simp [Z0]⟩
 | i+1,h=>by
  have hi:i<(Zp q.Atoms).length:=by omega
  obtain ⟨c1,c2,c3,c4⟩:=Zkd hi
  have:=(Z8c b (Zke b i (by omega)) c1 c2 c3 c4 (Zxl (Zm9 _) hi)).1
  rw [Z0,List.take_succ_eq_append_getElem hi]
  have e:(Zp q.Atoms).getD i 0=(Zp q.Atoms)[i]:=by simp [List.getD,hi]
  rw [e]
  exact this
theorem Znb {m:Zd} {q:Zc} {sizes:List Int} (b:Base m q sizes) {i:Nat} (hi:i≤(Zp q.Atoms).length):(Z0 m sizes q i).length≤75:=by
 have h1:=(Zke b i hi).len
 have h2:=Zna b.hv
 rw [List.length_take] at h1
 omega
theorem Zbl3 {M v c:Int} {x:List Zb} (hM:M≠0) (hv:0≤v∧v≤3):[offK 0 zE M v c x,offK 1 zE M v c x,offK 2 zE M v c x,offK 3 zE M v c x,offK 4 zE M v c x].filter sm=[⟨M,v,c,⟨x⟩⟩]:=by
 have h:v=0∨v=1∨v=2∨v=3:=by omega
 rcases h with rfl | rfl | rfl | rfl <;> simp [offK,offE,sm,zE,hM]
theorem Zbl4:∀ (i:Fin 4) (a:Fin 16),1≤a.1→(a.1:Int)<shlI 1 (i.1:Nat)→andI (a.1:Int) (shlI 1 (i.1:Nat))≠a.1:=by decide
theorem Zbl5 {qa:List Atom} {i:Nat} (hi:i<4):Zs qa (shlI 1 i)=[]:=by
 cases h:Zs qa (shlI 1 i) with
 | nil=>rfl
 | cons A l =>
  exfalso
  obtain ⟨h1,h2,h3,_⟩:=Zm8 (qa:=qa) (M:=shlI 1 i) (A:=A) (by rw [h];simp)
  have h16:M16 (shlI 1 (i:Nat)):=(f_shl ⟨i,hi⟩ ⟨0,by omega⟩).2
  obtain ⟨a,rfl⟩:=m16 (x:=A) (by omega)
  exact Zbl4 ⟨i,hi⟩ a (by omega) h2 h3
theorem flat_ne {E:List Za} (h:E≠[]):flat (E.map Za.c)=false:=by
 cases E with
 | nil=>exact absurd rfl h
 | cons e E=>simp [flat,Za.c,scalar]
theorem Zbl6 {qa:List Atom} {n:Int} (hv:Zq n qa=true) {M A:Int} (hM:MQ qa M) (h:A∈Zs qa M):andNotI M A=M - A:=by
 obtain ⟨h1,h2,h3,_⟩:=Zm8 h
 have h16:=(hM.m16 hv).1
 obtain ⟨a,rfl⟩:=m16 (x:=A) (by omega)
 obtain ⟨b,rfl⟩:=m16 h16
 exact (f_diff a b h3).1
theorem l_copyT (fr:Bool) (out:List Za) (hl:out.length≤1000) (hs:∀ e∈out,e.Plan.Steps.length≤1000):∀ i,i≤out.length→Zln fr out out.length i=some (.own 0,[.arr 145 4 fr (out.map Za.c)]):=by
 refine down _ ?_ ?_
 ·refine Z4p _ _ _ _ _ ?_
  rw [if_neg (by omega)]
 ·intro i hi ih
  have h4:=inc64 (i:=i) (by omega)
  have hw:w ((i:Int)+1)=((i+1:Nat):Int):=by rw [show w ((i:Int)+1)=(i:Int)+1 from h4];simp
  refine Z4p _ _ _ _ _ ?_
  rw [if_pos (by omega),hw]
  refine ⟨by omega,out[i],by rw [Int.toNat_natCast];exact List.getElem?_eq_getElem hi,_,Zqi _ (hs _ (List.getElem_mem hi)),?_⟩
  rw [Int.toNat_natCast]
  have:out.set i (⟨out[i].Mask,out[i].Order,out[i].Cost,(⟨out[i].Plan.Steps⟩:Plan)⟩:Za)=out:=Zm7 (List.getElem?_eq_getElem hi)
  rw [this]
  exact ih
theorem Inv.steps {m:Zd} {q:Zc} {sizes:List Int} {done:List Int} {out:List Za} (h:Inv m sizes q done out) (h16:∀ M∈done,M16 M):∀ e∈out,e.Plan.Steps.length≤1000:=by
 intro e he
 have hd:=h.only e he
 have hh:=(h.held _ hd).len e (List.mem_filter.2 ⟨he,by simp⟩)
 have:=Zci (h16 _ hd)
 omega
theorem conn_16 {n:Int} {qa:List Atom} (hv:Zq n qa=true):∀ M∈Zp qa,M16 M:=by
 intro M hM
 obtain ⟨h1,h2,_⟩:=Zd9.1 hM
 exact (MQ.m16 hv ⟨by omega,h2⟩).1
theorem Zqq {m:Zd} {q:Zc} {sizes:List Int} (b:Base m q sizes) {i:Nat} (hi:i≤(Zp q.Atoms).length):∀ e∈Z0 m sizes q i,e.Plan.Steps.length≤1000 :=
 (Zke b i hi).steps fun M hM=>conn_16 b.hv M (List.mem_of_mem_take hM)
theorem i_table {m:Zd} {q:Zc} {sizes:List Int} (b:Base m q sizes):∀ i,i≤(Zp q.Atoms).length→∀ (table:List (List Za)) (fr fr1:Bool),table.length=2 ^ q.Atoms.length→(∀ M∈(Zp q.Atoms).take i,table[M.toNat]?=some (ofM (Z0 m sizes q i) M))→(i=(Zp q.Atoms).length→fr1=false) →
  Zfw m q fr table fr1 (Z0 m sizes q i) (Zp q.Atoms) sizes (Zp q.Atoms).length i=some (.own 0,[.arr 145 4 false ((Z0 m sizes q (Zp q.Atoms).length).map Za.c)]):=by
 have hcl:=Zna b.hv
 refine down _ ?_ ?_
 ·intro table fr fr1 _ _ hf
  rw [hf rfl]
  refine Z4n _ _ _ _ _ _ _ _ _ _ _ ?_
  rw [if_neg (by omega)]
  exact l_copyT false _ (by have:=Znb b (Nat.le_refl (Zp q.Atoms).length);omega) (Zqq b (Nat.le_refl _)) 0 (Nat.zero_le _)
 ·intro i hi ih table fr fr1 htl hT hf
  have h4:=inc64 (i:=i) (by omega)
  have hw:w ((i:Int)+1)=((i+1:Nat):Int):=by rw [show w ((i:Int)+1)=(i:Int)+1 from h4];simp
  obtain ⟨c1,c2,c3,c4⟩:=Zkd hi
  have hinv:=Zke b i (by omega)
  have hstep:=Z8c b hinv c1 c2 c3 c4 (Zxl (Zm9 _) hi)
  have hheld:=Zxk b hinv c1 c2 c3 c4
  have hnext:Z0 m sizes q (i+1)=Z0 m sizes q i++entM m sizes q (Z0 m sizes q i) (Zp q.Atoms)[i]:=by
   rw [Z0]
   congr 2
   simp [List.getD,hi]
  have hlen:=Znb b (i:=i) (by omega)
  have h16:=(c1.m16 b.hv).1
  have hpw:=Zd5 q.Atoms.length
  have hMt:(Zp q.Atoms)[i].toNat<table.length:=by have:=c1.1;have:=c1.2;omega
  have key:∀ f1 E,E=entM m sizes q (Z0 m sizes q i) (Zp q.Atoms)[i]→Zfw m q f1 (table.set (Zp q.Atoms)[i].toNat E) (fr1 && flat (E.map Za.c)) (Z0 m sizes q i++E) (Zp q.Atoms) sizes (Zp q.Atoms).length (w ((i:Int)+1))=some (.own 0,[.arr 145 4 false ((Z0 m sizes q (Zp q.Atoms).length).map Za.c)]):=by
   intro f1 E hE
   subst hE
   rw [hw,flat_ne hheld.ne,Bool.and_false,← hnext]
   refine ih _ _ _ (by rw [List.length_set];exact htl) ?_ (fun _=>rfl)
   intro A hA
   rw [List.take_succ_eq_append_getElem hi] at hA
   rcases List.mem_append.1 hA with hA | hA
   ·have hne:A≠(Zp q.Atoms)[i]:=fun h=>Zxl (Zm9 _) hi (h ▸ hA)
    have hA0:=(Zd9.1 (List.mem_of_mem_take hA)).1
    have:=c1.1
    rw [List.getElem?_set_ne (by omega),hT A hA,hnext,hstep.2.1 A hA]
   ·rw [List.mem_singleton.1 hA,List.getElem?_set_self hMt,hnext,hstep.2.2]
  have hget:(Zp q.Atoms)[i]?=some (Zp q.Atoms)[i]:=List.getElem?_eq_getElem hi
  generalize (Zp q.Atoms)[i]=M at *
  have hic:Zbb q.Ze q.Atoms M=true:=by
   unfold Zbb
   rw [b.hv,c3,Zcx b.hv]
   have h1:=c1.1
   have h2:=c1.2
   simp [inR,c2,h1]
   omega
  have e1:(Zby q M).map Prod.fst=Zs q.Atoms M:=by
   unfold Zby
   rw [List.map_map]
   exact List.map_id _
  have e2:(Zby q M).length=(Zs q.Atoms M).length:=by unfold Zby;rw [List.length_map]
  have hps:(Zby q M).length≤100:=by rw [e2];have:=Zxc (qa:=q.Atoms) h16;omega
  have hok:∀ p∈Zby q M,Z76 m q sizes (Z0 m sizes q i) table M p.1 p.2:=by
   intro p hp
   have o:=Zxj b hinv c1 c3 c4 p hp
   unfold Zby at hp
   rw [List.mem_map] at hp
   obtain ⟨A,hA,rfl⟩:=hp
   have hd:=Zbl6 b.hv c1 hA
   obtain ⟨q1,q2⟩:=Zxi c1 hA
   refine ⟨o,hd,?_,hT A (c4 A hA).1,hT _ (c4 A hA).2⟩
   rw [hd]
   exact Zbk5 q b.hq b.hv A (M - A) q1 q2
  have hgo:∀ a0 a1 a2 a3 a4:Za,((Zby q M).foldl (oneJ m sizes M (Z0 m sizes q i)) [a0,a1,a2,a3,a4]).filter sm=entM m sizes q (Z0 m sizes q i) M →
    Zef m q fr table fr1 (Z0 m sizes q i) m q sizes M a0 a1 a2 a3 a4 (sm a0) (sm a1) (sm a2) (sm a3) (sm a4) (Zp q.Atoms) (Zs q.Atoms M) sizes M (Zp q.Atoms).length i (Zs q.Atoms M).length 0=some (.own 0,[.arr 145 4 false ((Z0 m sizes q (Zp q.Atoms).length).map Za.c)]):=by
   intro a0 a1 a2 a3 a4 hE
   have:=i_splits b h16 c2 table hMt (Z0 m sizes q i) (by omega) (Zby q M) hps hok fr fr1 (Zp q.Atoms) (Zp q.Atoms).length i _ 0 (Nat.zero_le _) a0 a1 a2 a3 a4 (fun f1 E h=>key f1 E (by rw [List.drop_zero,hE] at h;exact h.symm))
   rw [e1,e2] at this
   exact this
  refine Z4n _ _ _ _ _ _ _ _ _ _ _ ?_
  rw [if_pos (by omega)]
  refine ⟨by omega,M,by rw [Int.toNat_natCast];exact hget,.inr ⟨Zca M,Zbkp h16,?_⟩⟩
  cases ho:oneB (ofI M) with
  | true =>
   obtain ⟨j,hj4,ha,hMj⟩:=Zxd h16 ho
   have hent:=Zxf (m:=m) (sizes:=sizes) (q:=q) (out:=Z0 m sizes q i) ha
   have hE:=hheld
   rw [hent] at hE
   have hlen1:=hE.len _ (List.mem_singleton.2 rfl)
   have hmk:=hE.makes _ (List.mem_singleton.2 rfl)
   have hod:=hE.ord _ (List.mem_singleton.2 rfl)
   have hjl:j<q.Atoms.length:=by
    have h2:=c1.2
    have e:shlI 1 (j:Nat)=2 ^ j:=by
     have:j=0∨j=1∨j=2∨j=3:=by omega
     rcases this with rfl | rfl | rfl | rfl <;> decide
    rw [hMj,e] at h2
    have h3:(2:Int) ^ j<2 ^ q.Atoms.length:=h2
    rw [← Zd5,← Zd5] at h3
    exact (Nat.pow_lt_pow_iff_right (by omega)).1 (by omega:2 ^ j<2 ^ q.Atoms.length)
   have hvar:=Zkm b.hv _ (List.getElem_mem hjl)
   obtain ⟨v,vs,hvs⟩:∃ v vs,q.Atoms[j].Vars=v::vs:=by
    cases hh:q.Atoms[j].Vars with
    | nil=>rw [hh] at hvar;simp at hvar
    | cons v vs=>exact ⟨v,vs,rfl⟩
   have hv3:0≤v∧v≤3:=by
    have:=Zgk b.hv _ (List.getElem_mem hjl) v (by rw [hvs];simp)
    have hn:=Zcl b.hv
    simp [inR] at this
    omega
   have hse:Zgg m sizes q M (j:Int)=⟨M,v,Z5 m.Scan (szAt sizes M) 0 (szAt sizes M),⟨[⟨1,j,0⟩]⟩⟩:=by
    simp [Zgg,List.getElem?_eq_getElem hjl,hvs]
   rw [hse] at hmk
   have hcost:=Z3.cost hmk b.hv (by simp) b.hsv
   obtain ⟨t,ht,hx⟩:=Z7r m b.hm q b.hq sizes b.hs M c2 zE zE zE zE zE [⟨1,j,0⟩] v (by omega) _ hcost
   rw [show sm zE=false from rfl] at hx
   have hnx:=hgo _ _ _ _ _ (by
    have hsp:Zby q M=[]:=by unfold Zby;rw [hMj,Zbl5 hj4];rfl
    rw [hsp,List.foldl_nil,hent,hse]
    exact Zbl3 (c:=Z5 m.Scan (szAt sizes M) 0 (szAt sizes M)) (x:=[⟨1,j,0⟩]) c2 hv3)
   rw [ha,if_pos (by simp)]
   refine ⟨(j:Int),rfl,_,Zblb _,by omega,q.Atoms[j],by rw [Int.toNat_natCast];exact List.getElem?_eq_getElem hjl,v,by rw [hvs];rfl,?_⟩
   rcases ht with rfl | rfl
   ·exact .inl ⟨m,q,sizes,M,_,_,_,_,_,_,_,_,_,_,hx,.inr ⟨_,Zwu q b.hq M hic,hnx⟩⟩
   ·exact .inr ⟨m,q,sizes,M,_,_,_,_,_,_,_,_,_,_,_,hx,.inr ⟨_,Zwu q b.hq M hic,hnx⟩⟩
  | false =>
   have hne:=Zxe h16 ho
   rw [if_neg (by omega)]
   have hnx:=hgo zE zE zE zE zE (by rw [Zxg hne];rfl)
   rw [show sm zE=false from rfl] at hnx
   exact .inr ⟨_,Zwu q b.hq M hic,hnx⟩
theorem Zbl7 {m:Zd} {q:Zc} {sizes:List Int} (b:Base m q sizes) (ha:Zch m):Zi0 m q sizes=some (.own 0,[.arr 145 4 false ((Z0 m sizes q (Zp q.Atoms).length).map Za.c)]):=by
 have hf:=Zcx b.hv
 have hpw:=Zd5 q.Atoms.length
 have h16:2 ^ q.Atoms.length≤16:=Nat.pow_le_pow_right (by omega:0<2) (Zbe b.hv).2
 have hp1:1≤2 ^ q.Atoms.length:=Nat.one_le_two_pow
 have e1:w (Zu q.Ze q.Atoms+1)=2 ^ q.Atoms.length:=by rw [w_id (by omega) (by omega)];omega
 have hr:room=140737488355328:=rfl
 refine Zbhi _ _ _ _ ⟨_,Z6h m b.hm,?_⟩
 rw [if_pos (by simpa using ha)]
 refine ⟨_,Z64 q b.hq sizes b.hs,?_⟩
 rw [if_pos b.hsv]
 refine ⟨_,Zhr q b.hq,?_⟩
 rw [e1]
 have e2:((2:Int) ^ q.Atoms.length).toNat=2 ^ q.Atoms.length:=by omega
 rw [e2]
 refine ⟨by omega,by omega,by rw [hr];omega,by omega,_,Z6z q b.hq b.hv,?_⟩
 refine i_table b 0 (Nat.zero_le _) _ true true (by simp) (by simp) ?_
 intro h
 exfalso
 have:(1:Int)∈Zp q.Atoms:=by
  refine Zd9.2 ⟨by omega,?_,?_⟩
  ·have:2 ^ 1≤2 ^ q.Atoms.length:=Nat.pow_le_pow_right (by omega) (Zbe b.hv).1
   omega
  ·have h1:=Zm5 b.hv (true,false,false,false)
   rw [show toI (true,false,false,false)=1 from rfl] at h1
   rw [h1]
   have key:∀ a b c d e f:Bool,∀ n:Fin 5,Zbw ⟨a,b,c,d,e,f⟩ n.1 (true,false,false,false)=true:=by decide
   exact key _ _ _ _ _ _ ⟨q.Atoms.length,by have:=(Zbe b.hv).2;omega⟩
 rw [List.length_eq_zero_iff.1 h.symm] at this
 cases this
def shOf (q:Zc) (M:Int):List (List Int):=(Zs q.Atoms M).map fun A=>Zd6 q A (M - A)
def Zcj (q:Zc) (M:Int):Zx:=⟨M,Zs q.Atoms M,shOf q M⟩
def shapes (q:Zc):List Zx:=(Zp q.Atoms).map (Zcj q)
theorem Zbl8 {q:Zc} (hv:Zq q.Ze q.Atoms=true) {M:Int} (c1:MQ q.Atoms M) (c2:M≠0) (c3:conn q.Atoms M=true):Zbb q.Ze q.Atoms M=true:=by
 unfold Zbb
 rw [hv,c3,Zcx hv]
 have h1:=c1.1
 have h2:=c1.2
 simp [inR,c2,h1]
 omega
section
variable (q:Zc) (hq:LeQ q) (hv:Zq q.Ze q.Atoms=true)
include hq hv
theorem Z8e {M:Int} (hM:MQ q.Atoms M) {A:Int} (hA:A∈Zs q.Atoms M):Zjr q A (w (M - A))=some (.own 0,[.arr 3 1 true ((Zd6 q A (M - A)).map ic)]):=by
 obtain ⟨q1,q2⟩:=Zxi hM hA
 have h16:=(q2.m16 hv).1
 rw [w_id (by omega) (by omega)]
 exact Zbk7 q hq hv A (M - A) q1 q2
theorem Zbl9 (out:List Zx) (hout:out.length≤1000) {i:Nat} (hi:i<(Zp q.Atoms).length) (r:AV×List Blk) (h:Zf0 q (out++[Zcj q (Zp q.Atoms)[i]]) (Zp q.Atoms) (w ((i:Int)+1))=some r) :
  ∀ k,k≤(Zs q.Atoms (Zp q.Atoms)[i]).length→Zmh q out (Zp q.Atoms) (Zp q.Atoms)[i] (Zs q.Atoms (Zp q.Atoms)[i]) ((shOf q (Zp q.Atoms)[i]).take k) i k=some r:=by
 obtain ⟨c1,c2,c3,c4⟩:=Zkd hi
 have hsl:=Zxc (qa:=q.Atoms) (c1.m16 hv).1
 have hlen:(shOf q (Zp q.Atoms)[i]).length=(Zs q.Atoms (Zp q.Atoms)[i]).length:=by simp [shOf]
 refine down _ ?_ ?_
 ·refine Z5w _ _ _ _ _ _ _ _ _ ?_
  rw [if_neg (by omega)]
  refine ⟨by omega,?_⟩
  rw [← hlen,List.take_length]
  exact h
 ·intro k hk ih
  have h4:=inc64 (i:=k) (by omega)
  have hw:w ((k:Int)+1)=((k+1:Nat):Int):=by rw [show w ((k:Int)+1)=(k:Int)+1 from h4];simp
  refine Z5w _ _ _ _ _ _ _ _ _ ?_
  rw [if_pos (by omega),hw]
  refine ⟨by omega,_,by rw [Int.toNat_natCast];exact List.getElem?_eq_getElem hk,by omega,_,by rw [Int.toNat_natCast];exact List.getElem?_eq_getElem hi,_,Z8e q hq hv c1 (List.getElem_mem hk),?_,?_⟩
  ·rw [List.length_take];omega
  ·rw [List.take_succ_eq_append_getElem (by omega)] at ih
   simpa [shOf] using ih
theorem Zbma (out:List Zx) (hout:out.length≤1000) {i:Nat} (hi:i<(Zp q.Atoms).length) (r:AV×List Blk) (h:Zf0 q (out++[Zcj q (Zp q.Atoms)[i]]) (Zp q.Atoms) (w ((i:Int)+1))=some r) :
  Zpv q out (Zp q.Atoms) (Zp q.Atoms)[i] (Zs q.Atoms (Zp q.Atoms)[i]) i 0=some r:=by
 obtain ⟨c1,c2,c3,c4⟩:=Zkd hi
 refine Zbir _ _ _ _ _ _ _ _ ?_
 by_cases h0:(Zs q.Atoms (Zp q.Atoms)[i]).length=0
 ·rw [if_neg (by omega)]
  refine ⟨by omega,?_⟩
  have:Zcj q (Zp q.Atoms)[i]=⟨(Zp q.Atoms)[i],Zs q.Atoms (Zp q.Atoms)[i],[]⟩:=by
   unfold Zcj shOf
   rw [List.length_eq_zero_iff.1 h0];rfl
  rw [← this]
  exact h
 ·rw [if_pos (by omega)]
  have hk:0<(Zs q.Atoms (Zp q.Atoms)[i]).length:=by omega
  have:=Zbl9 q hq hv out hout hi r h 1 (by omega)
  refine ⟨by omega,_,List.getElem?_eq_getElem hk,by omega,_,by rw [Int.toNat_natCast];exact List.getElem?_eq_getElem hi,_,Z8e q hq hv c1 (List.getElem_mem hk),?_⟩
  rw [show w ((0:Int)+1)=((1:Nat):Int) from by decide]
  have e:(shOf q (Zp q.Atoms)[i]).take 1=[Zd6 q (Zs q.Atoms (Zp q.Atoms)[i])[0] ((Zp q.Atoms)[i] - (Zs q.Atoms (Zp q.Atoms)[i])[0])]:=by
   rw [List.take_succ_eq_append_getElem (by simp [shOf];omega)]
   simp [shOf]
  rw [e] at this
  exact this
theorem l_shapes:∀ i,i≤(Zp q.Atoms).length→Zf0 q ((shapes q).take i) (Zp q.Atoms) i=some (.own 0,[.arr 257 3 true ((shapes q).map Zx.c)]):=by
 have hcl:=Zna hv
 have hlen:(shapes q).length=(Zp q.Atoms).length:=by simp [shapes]
 refine down _ ?_ ?_
 ·refine Z5v _ _ _ _ _ ?_
  rw [if_neg (by omega),← hlen,List.take_length]
 ·intro i hi ih
  have h4:=inc64 (i:=i) (by omega)
  have hw:w ((i:Int)+1)=((i+1:Nat):Int):=by rw [show w ((i:Int)+1)=(i:Int)+1 from h4];simp
  obtain ⟨c1,c2,c3,c4⟩:=Zkd hi
  refine Z5v _ _ _ _ _ ?_
  rw [if_pos (by omega)]
  refine ⟨by omega,_,by rw [Int.toNat_natCast];exact List.getElem?_eq_getElem hi,_,Zbkn q hq _ (Zbl8 hv c1 c2 c3),?_⟩
  refine Zbma q hq hv _ (by rw [List.length_take];omega) hi _ ?_
  rw [hw]
  rw [List.take_succ_eq_append_getElem (by omega)] at ih
  simpa [shapes] using ih
theorem Zbmb:Zmg q=some (.own 0,[.arr 257 3 true ((shapes q).map Zx.c)]) :=
 Zbis _ _ ⟨_,Zbkk q hq hv,by simpa using l_shapes q hq hv 0 (Nat.zero_le _)⟩
end
theorem f_one:∀ a:Fin 16,1≤a.1→(andI (a.1:Int) (w ((a.1:Int) - 1))=0↔oneB (ofI (a.1:Int))=true):=by decide
theorem Z8f {α β:Type} (f:α→β):∀ l:List α,l.zip (l.map f)=l.map fun a=>(a,f a)
 | []=>rfl
 | a::l=>by simp [Z8f f l]
theorem s_table {m:Zd} {q:Zc} {sizes:List Int} (b:Base m q sizes):∀ i,i≤(Zp q.Atoms).length→∀ fr:Bool,∃ fr',Zjz (shapes q) sizes m q fr (Z0 m sizes q i) i=some (.own 2,[.arr 257 3 true ((shapes q).map Zx.c),.arr 3 1 true (sizes.map ic),.arr 145 4 fr' ((Z0 m sizes q (Zp q.Atoms).length).map Za.c)]):=by
 have hcl:=Zna b.hv
 have hlen:(shapes q).length=(Zp q.Atoms).length:=by simp [shapes]
 refine down _ ?_ ?_
 ·intro fr
  refine ⟨fr,Zwl _ _ _ _ _ _ _ _ ?_⟩
  rw [if_neg (by omega)]
 ·intro i hi ih fr
  have h4:=inc64 (i:=i) (by omega)
  have hw:w ((i:Int)+1)=((i+1:Nat):Int):=by rw [show w ((i:Int)+1)=(i:Int)+1 from h4];simp
  obtain ⟨c1,c2,c3,c4⟩:=Zkd hi
  have hinv:=Zke b i (by omega)
  have hheld:=Zxk b hinv c1 c2 c3 c4
  have hnext:Z0 m sizes q (i+1)=Z0 m sizes q i++entM m sizes q (Z0 m sizes q i) (Zp q.Atoms)[i]:=by
   rw [Z0]
   congr 2
   simp [List.getD,hi]
  have hol:=Znb b (i:=i) (by omega)
  have h16:=(c1.m16 b.hv).1
  have hget:(shapes q)[i]?=some (Zcj q (Zp q.Atoms)[i]):=by
   unfold shapes
   rw [List.getElem?_map,List.getElem?_eq_getElem hi];rfl
  rw [hnext] at ih
  generalize (Zp q.Atoms)[i]=M at *
  have hz:=Zbn b.hsv c1
  have h1:(andI M (w (M - 1))=0↔oneB (ofI M)=true):=by
   have q1:=c1.1
   obtain ⟨a,rfl⟩:=m16 h16
   exact f_one a (by omega)
  have hle:=hheld.le
  cases ho:oneB (ofI M) with
  | true =>
   obtain ⟨j,hj4,ha,hMj⟩:=Zxd h16 ho
   have hent:=Zxf (m:=m) (sizes:=sizes) (q:=q) (out:=Z0 m sizes q i) ha
   have hjl:j<q.Atoms.length:=by
    have h2:=c1.2
    have e:shlI 1 (j:Nat)=2 ^ j:=by
     have:j=0∨j=1∨j=2∨j=3:=by omega
     rcases this with rfl | rfl | rfl | rfl <;> decide
    rw [hMj,e] at h2
    have h3:(2:Int) ^ j<2 ^ q.Atoms.length:=h2
    rw [← Zd5,← Zd5] at h3
    exact (Nat.pow_lt_pow_iff_right (by omega)).1 (by omega:2 ^ j<2 ^ q.Atoms.length)
   have hvar:=Zkm b.hv _ (List.getElem_mem hjl)
   obtain ⟨v,vs,hvs⟩:∃ v vs,q.Atoms[j].Vars=v::vs:=by
    cases hh:q.Atoms[j].Vars with
    | nil=>rw [hh] at hvar;simp at hvar
    | cons v vs=>exact ⟨v,vs,rfl⟩
   have hse:Zgg m sizes q M (j:Int)=⟨M,v,Z5 m.Scan (szAt sizes M) 0 (szAt sizes M),⟨[⟨1,j,0⟩]⟩⟩:=by
    simp [Zgg,List.getElem?_eq_getElem hjl,hvs]
   rw [hent,hse] at ih
   obtain ⟨fr',hr⟩:=ih fr
   refine ⟨fr',Zwl _ _ _ _ _ _ _ _ ?_⟩
   rw [if_pos (by omega)]
   refine ⟨by omega,_,by rw [Int.toNat_natCast];exact hget,?_⟩
   have h1':andI (Zcj q M).mask (w ((Zcj q M).mask - 1))=0:=h1.2 ho
   rw [if_pos h1',hw]
   refine ⟨_,Zbkr h16,(j:Int),by rw [show Zca (Zcj q M).mask=[(j:Int)] from ha];rfl,by omega,q.Atoms[j],by rw [Int.toNat_natCast];exact List.getElem?_eq_getElem hjl,v,by rw [hvs];rfl,hz.1,_,hz.2,_,Zf8 _ b.hm.1 _ _ _,_,Zblc _,by omega,?_⟩
   exact hr
  | false =>
   have hne:=Zxe h16 ho
   have ok:=Zxj b hinv c1 c3 c4
   have hzip:(Zcj q M).Zs.zip (Zcj q M).shared=Zby q M:=Z8f _ _
   have hsl:=Zxc (qa:=q.Atoms) h16
   obtain ⟨f1,hJ⟩:=Zblw m b.hm b.hg sizes b.hcl q.Atoms fr (Z0 m sizes q i) (by omega) (Zcj q M) hz h16 (by show 0<M;have:=c1.1;omega) (by simp [Zcj,shOf]) (by show (Zs q.Atoms M).length≤100;omega) (by rw [hzip];exact ok)
   rw [hzip] at hJ
   have hent:=Zxg (m:=m) (sizes:=sizes) (q:=q) (out:=Z0 m sizes q i) hne
   rw [hent] at ih hle
   obtain ⟨fr',hr⟩:=ih (fr && flat (((Zkc m sizes M (Z0 m sizes q i) (Zby q M)).filter sm).map Za.c))
   refine ⟨fr',Zwl _ _ _ _ _ _ _ _ ?_⟩
   rw [if_pos (by omega)]
   refine ⟨by omega,_,by rw [Int.toNat_natCast];exact hget,?_⟩
   have h1':¬ andI (Zcj q M).mask (w ((Zcj q M).mask - 1))=0:=fun h=>by have:=h1.1 h;rw [ho] at this;cases this
   rw [if_neg h1',hw]
   exact ⟨_,_,hJ,by show (Z0 m sizes q i).length+((Zkc m sizes M (Z0 m sizes q i) (Zby q M)).filter sm).length≤68719476736;omega,hr⟩
theorem Zbmc {m:Zd} {q:Zc} {sizes:List Int} (b:Base m q sizes):∃ fr',Zpy (shapes q) sizes m q=some (.own 2,[.arr 257 3 true ((shapes q).map Zx.c),.arr 3 1 true (sizes.map ic),.arr 145 4 fr' ((Z0 m sizes q (Zp q.Atoms).length).map Za.c)]):=by
 obtain ⟨fr',h⟩:=s_table b 0 (Nat.zero_le _) true
 exact ⟨fr',Zbi4 _ _ _ _ _ h⟩
theorem Zbmd (a b c:Int) (fr:Bool) (l:List Za) (hl:l.length≤1000):∀ i,i≤l.length→∀ best,Zi1 a b c best fr l l.length i=some (.agg (((l.drop i).foldl Zb2 best).c.map .t),[.arr 145 4 fr (l.map Za.c)]):=by
 refine down _ ?_ ?_
 ·intro best
  refine Z4s _ _ _ _ _ _ _ _ _ ?_
  rw [if_neg (by omega)];simp
 ·intro i hi ih best
  have h4:=inc64 (i:=i) (by omega)
  refine Z4s _ _ _ _ _ _ _ _ _ ?_
  rw [if_pos (by omega),List.drop_eq_getElem_cons hi,List.foldl_cons]
  refine ⟨by omega,l[i],by rw [Int.toNat_natCast];exact List.getElem?_eq_getElem hi,?_⟩
  rw [show w ((i:Int)+1)=((i+1:Nat):Int) from by rw [show w ((i:Int)+1)=(i:Int)+1 from h4];simp]
  by_cases e:l[i].Cost<best.Cost
  ·rw [if_pos e,show Zb2 best l[i]=l[i] by simp [Zb2,e]];exact ih _
  ·rw [if_neg e,show Zb2 best l[i]=best by simp [Zb2,e]];exact ih _
theorem Zbme (fr:Bool) (l:List Za) (h0:l≠[]) (hl:l.length≤1000):Zoz fr l=some (.agg ((Zv l).c.map .t),[.arr 145 4 fr (l.map Za.c)]):=by
 cases l with
 | nil=>exact absurd rfl h0
 | cons e l =>
  refine Zbhj _ _ _ ⟨e,rfl,?_⟩
  have:=Zbmd 0 0 0 fr (e::l) hl 0 (Nat.zero_le _) e
  simpa [Zv] using this
theorem l_best (l:List Za) (mask:Int) (hl:l.length≤1000) (hne:ofM l mask≠[]) (hs:∀ e∈l,e.Plan.Steps.length≤1000):∀ i,i≤l.length→∀ fr,Zi2 0 0 0 fr (ofM (l.take i) mask) mask l l.length i=some (.tup [.agg [I (Zv (ofM l mask)).Mask,I (Zv (ofM l mask)).Order,I (Zv (ofM l mask)).Cost,.own 0],Bo true],[.arr 194 3 true ((Zv (ofM l mask)).Plan.Steps.map Zb.c)]):=by
 refine down _ ?_ ?_
 ·intro fr
  refine Z4t _ _ _ _ _ _ _ _ _ _ ?_
  rw [if_neg (by omega),List.take_length]
  have h1:(ofM l mask).length≠0:=fun h=>hne (List.length_eq_zero_iff.1 h)
  have h2:(ofM l mask).length≤l.length:=List.length_filter_le _ _
  rw [if_neg (by omega)]
  have hmem:=Zqm hne
  exact ⟨_,Zbme fr _ hne (by omega),_,Zqi _ (hs _ (List.mem_filter.1 hmem).1),rfl⟩
 ·intro i hi ih fr
  have h4:=inc64 (i:=i) (by omega)
  have hw:w ((i:Int)+1)=((i+1:Nat):Int):=by rw [show w ((i:Int)+1)=(i:Int)+1 from h4];simp
  rw [Z7s l mask hi] at ih
  have h2:(ofM (l.take i) mask).length≤(l.take i).length:=List.length_filter_le _ _
  rw [List.length_take] at h2
  refine Z4t _ _ _ _ _ _ _ _ _ _ ?_
  rw [if_pos (by omega),hw]
  refine ⟨by omega,l[i],by rw [Int.toNat_natCast];exact List.getElem?_eq_getElem hi,?_⟩
  by_cases e:l[i].Mask=mask
  ·rw [if_pos e]
   rw [if_pos e] at ih
   exact ⟨by omega,ih false⟩
  ·rw [if_neg e]
   rw [if_neg e,List.append_nil] at ih
   exact ih fr
theorem Zbmf (l:List Za) (mask:Int) (hl:l.length≤1000) (hne:ofM l mask≠[]) (hs:∀ e∈l,e.Plan.Steps.length≤1000):Zlo l mask=some (.tup [.agg [I (Zv (ofM l mask)).Mask,I (Zv (ofM l mask)).Order,I (Zv (ofM l mask)).Cost,.own 0],Bo true],[.arr 194 3 true ((Zv (ofM l mask)).Plan.Steps.map Zb.c)]) :=
 Zbhk _ _ _ (by simpa [ofM] using l_best l mask hl hne hs 0 (Nat.zero_le _) true)
theorem Zbmg (l:List Za) (mask:Int) (hl:l.length≤1000) (hne:ofM l mask≠[]) (hs:∀ e∈l,e.Plan.Steps.length≤1000):Zf3 l mask=some (.tup [.agg [I (Zv (ofM l mask)).Mask,I (Zv (ofM l mask)).Order,I (Zv (ofM l mask)).Cost,.own 0],Bo true],[.arr 194 3 true ((Zv (ofM l mask)).Plan.Steps.map Zb.c)]):=by
 obtain ⟨k1,k2⟩:=Zqn hne
 have hmem:=Zqm hne
 have:=hs _ (List.mem_filter.1 hmem).1
 refine Z54 _ _ _ ⟨_,x_low l mask hl,?_⟩
 rw [if_neg (by omega)]
 exact ⟨k1,_,k2,by omega,rfl⟩
def tab (m:Zd) (q:Zc) (sizes:List Int):List Za:=Z0 m sizes q (Zp q.Atoms).length
def opt (m:Zd) (q:Zc) (sizes:List Int):Za:=Zv (ofM (tab m q sizes) (Zu q.Ze q.Atoms))
theorem full_MQ {q:Zc} (hv:Zq q.Ze q.Atoms=true):MQ q.Atoms (Zu q.Ze q.Atoms):=by
 have:=Zcx hv
 have:=Zrj hv
 exact ⟨by omega,by omega⟩
theorem Zxm {m:Zd} {q:Zc} {sizes:List Int} (b:Base m q sizes) (hc:Zbb q.Ze q.Atoms (Zu q.Ze q.Atoms)=true):Held m sizes q.Atoms (Zu q.Ze q.Atoms) (ofM (tab m q sizes) (Zu q.Ze q.Atoms)):=by
 refine (Zke b _ (Nat.le_refl _)).held _ ?_
 rw [List.take_length]
 have hp:=Zrj b.hv
 have hq:=full_MQ b.hv
 unfold Zbb at hc
 simp only [Bool.and_eq_true] at hc
 exact Zd9.2 ⟨by omega,hq.2,hc.2⟩
theorem Zbmh {m:Zd} {q:Zc} {sizes:List Int} (b:Base m q sizes) (ha:Zch m) (hc:Zbb q.Ze q.Atoms (Zu q.Ze q.Atoms)=true):Zi3 m q sizes=some (.tup [.agg [I (opt m q sizes).Mask,I (opt m q sizes).Order,I (opt m q sizes).Cost,.own 0],Bo true],[.arr 194 3 true ((opt m q sizes).Plan.Steps.map Zb.c)]):=by
 have hl:=Znb b (Nat.le_refl (Zp q.Atoms).length)
 refine Zbhl _ _ _ _ (.inr ⟨_,_,Zbl7 b ha,_,Zhr q b.hq,.inr ⟨_,_,_,_,Zbmf _ _ (by omega) (Zxm b hc).ne (Zqq b (Nat.le_refl _)),rfl⟩⟩)
theorem class_le {a:Int} (h:0≤a∧a≤7):inR (Z1 a) 0 4096=true:=by
 have:a=0∨a=1∨a=2∨a=3∨a=4∨a=5∨a=6∨a=7:=by omega
 rcases this with rfl | rfl | rfl | rfl | rfl | rfl | rfl | rfl <;> decide
theorem Zxn {m:Zd} (hm:LeM m) (ha:Zch m) {q:Zc} (hq:LeQ q) (hv:Zq q.Ze q.Atoms=true) {l:List Int} (h:Zbz l=true) (hl:(l.length:Int)=Zu q.Ze q.Atoms+1):Base m q (Zds l):=by
 have hll:(l.length:Int)≤16:=by simp only [Zbz,Bool.and_eq_true,decide_eq_true_eq] at h;exact h.2
 have hc:=Zblm h
 refine ⟨hm,ha.2.1,hq,hv,by simp [Zds];omega,hc,?_⟩
 unfold Zbv Zgb
 rw [hv]
 have:(Zds l).all (fun x=>inR x 0 4096)=true:=by
  rw [List.all_eq_true]
  intro s hs
  obtain ⟨a,h1,rfl⟩:=hc s hs
  exact class_le h1
 rw [this]
 simp [Zds,hl]
theorem Zbmi (n:Int):Zph n=some (I (Zdw n),[]):=by
 refine Zbic _ _ ?_
 unfold Zdw
 by_cases h0:n<0
 ·rw [if_pos h0,if_pos h0]
 rw [if_neg h0,if_neg h0]
 refine Ze7 _ _ _ ?_
 rw [if_pos (by decide)];refine ⟨_,Zfc _,?_⟩;rw [show Z1 0=0 from by decide]
 by_cases h1:n≤0
 ·rw [if_pos h1,if_pos h1]
 rw [if_neg h1,if_neg h1,show w (0+1)=1 from by decide]
 refine Ze7 _ _ _ ?_
 rw [if_pos (by decide)];refine ⟨_,Zfc _,?_⟩;rw [show Z1 1=1 from by decide]
 by_cases h1:n≤1
 ·rw [if_pos h1,if_pos h1]
 rw [if_neg h1,if_neg h1,show w (1+1)=2 from by decide]
 refine Ze7 _ _ _ ?_
 rw [if_pos (by decide)];refine ⟨_,Zfc _,?_⟩;rw [show Z1 2=4 from by decide]
 by_cases h1:n≤4
 ·rw [if_pos h1,if_pos h1]
 rw [if_neg h1,if_neg h1,show w (2+1)=3 from by decide]
 refine Ze7 _ _ _ ?_
 rw [if_pos (by decide)];refine ⟨_,Zfc _,?_⟩;rw [show Z1 3=16 from by decide]
 by_cases h1:n≤16
 ·rw [if_pos h1,if_pos h1]
 rw [if_neg h1,if_neg h1,show w (3+1)=4 from by decide]
 refine Ze7 _ _ _ ?_
 rw [if_pos (by decide)];refine ⟨_,Zfc _,?_⟩;rw [show Z1 4=64 from by decide]
 by_cases h1:n≤64
 ·rw [if_pos h1,if_pos h1]
 rw [if_neg h1,if_neg h1,show w (4+1)=5 from by decide]
 refine Ze7 _ _ _ ?_
 rw [if_pos (by decide)];refine ⟨_,Zfc _,?_⟩;rw [show Z1 5=256 from by decide]
 by_cases h1:n≤256
 ·rw [if_pos h1,if_pos h1]
 rw [if_neg h1,if_neg h1,show w (5+1)=6 from by decide]
 refine Ze7 _ _ _ ?_
 rw [if_pos (by decide)];refine ⟨_,Zfc _,?_⟩;rw [show Z1 6=1024 from by decide]
 by_cases h1:n≤1024
 ·rw [if_pos h1,if_pos h1]
 rw [if_neg h1,if_neg h1,show w (6+1)=7 from by decide]
 refine Ze7 _ _ _ ?_
 rw [if_pos (by decide)];refine ⟨_,Zfc _,?_⟩;rw [show Z1 7=4096 from by decide]
 by_cases h1:n≤4096
 ·rw [if_pos h1,if_pos h1]
 rw [if_neg h1,if_neg h1,show w (7+1)=8 from by decide]
 refine Ze7 _ _ _ ?_
 rw [if_neg (by decide)]
theorem Zbmj (n:Int):Zos n=some (I (Zdw n),[]):=by
 refine Zbgw _ _ ⟨_,Zcg _ _ _,?_⟩
 unfold Zdw
 by_cases hr:inR n 0 4096=true
 ·rw [hr,if_pos rfl]
  simp only [inR,Bool.and_eq_true,decide_eq_true_eq] at hr
  rw [if_neg (by omega)]
  refine Zf4 _ _ _ ⟨_,Zfb _,?_⟩;rw [show Z1 0=0 from by decide]
  by_cases h1:n≤0
  ·rw [if_pos h1,if_pos h1]
  rw [if_neg h1,if_neg h1,show w (0+1)=1 from by decide]
  refine Zf4 _ _ _ ⟨_,Zfb _,?_⟩;rw [show Z1 1=1 from by decide]
  by_cases h1:n≤1
  ·rw [if_pos h1,if_pos h1]
  rw [if_neg h1,if_neg h1,show w (1+1)=2 from by decide]
  refine Zf4 _ _ _ ⟨_,Zfb _,?_⟩;rw [show Z1 2=4 from by decide]
  by_cases h1:n≤4
  ·rw [if_pos h1,if_pos h1]
  rw [if_neg h1,if_neg h1,show w (2+1)=3 from by decide]
  refine Zf4 _ _ _ ⟨_,Zfb _,?_⟩;rw [show Z1 3=16 from by decide]
  by_cases h1:n≤16
  ·rw [if_pos h1,if_pos h1]
  rw [if_neg h1,if_neg h1,show w (3+1)=4 from by decide]
  refine Zf4 _ _ _ ⟨_,Zfb _,?_⟩;rw [show Z1 4=64 from by decide]
  by_cases h1:n≤64
  ·rw [if_pos h1,if_pos h1]
  rw [if_neg h1,if_neg h1,show w (4+1)=5 from by decide]
  refine Zf4 _ _ _ ⟨_,Zfb _,?_⟩;rw [show Z1 5=256 from by decide]
  by_cases h1:n≤256
  ·rw [if_pos h1,if_pos h1]
  rw [if_neg h1,if_neg h1,show w (5+1)=6 from by decide]
  refine Zf4 _ _ _ ⟨_,Zfb _,?_⟩;rw [show Z1 6=1024 from by decide]
  by_cases h1:n≤1024
  ·rw [if_pos h1,if_pos h1]
  rw [if_neg h1,if_neg h1,show w (6+1)=7 from by decide]
  refine Zf4 _ _ _ ⟨_,Zfb _,?_⟩;rw [show Z1 7=4096 from by decide]
  rw [if_pos hr.2,if_pos hr.2]
 ·rw [show inR n 0 4096=false from by simpa using hr,if_neg (by simp)]
  simp only [inR,Bool.and_eq_true,decide_eq_true_eq] at hr
  by_cases h0:n<0
  ·rw [if_pos h0]
  ·rw [if_neg h0,if_neg (by omega),if_neg (by omega),if_neg (by omega),if_neg (by omega),if_neg (by omega),if_neg (by omega),if_neg (by omega),if_neg (by omega)]
theorem Zbmk (xs:List Int) (hl:xs.length≤1000):∀ i,i≤xs.length→Zk8 ((xs.take i).map Zdw) xs xs.length i=some (.own 0,[.arr 3 1 true ((xs.map Zdw).map ic)]):=by
 refine down _ ?_ ?_
 ·refine Z4c _ _ _ _ _ ?_
  rw [if_neg (by omega),List.take_length]
 ·intro i hi ih
  refine Z4c _ _ _ _ _ ?_
  rw [if_pos (by omega),wS hi (by omega)]
  refine ⟨by omega,_,gE hi,_,Zbmj _,by simp;omega,?_⟩
  rw [List.take_succ_eq_append_getElem hi,List.map_append] at ih
  exact ih
theorem Z8g (xs:List Int) (hl:xs.length≤1000):∀ i,i≤xs.length→Zl3 ((xs.take i).map Zdw) xs i=some (.own 0,[.arr 3 1 true ((xs.map Zdw).map ic)]):=by
 refine down _ ?_ ?_
 ·refine Z5e _ _ _ _ ?_
  rw [if_neg (by omega),List.take_length]
 ·intro i hi ih
  refine Z5e _ _ _ _ ?_
  rw [if_pos (by omega),wS hi (by omega)]
  refine ⟨by omega,_,gE hi,_,Zbmi _,by simp;omega,?_⟩
  rw [List.take_succ_eq_append_getElem hi,List.map_append] at ih
  exact ih
def HSort:Prop:=∀ xs:List (List Int),xs.length≤4096→(∀ r∈xs,r.length≤4)→∃ ys:List (List Int),SrtOK xs ys∧ys.Nodup∧(∀ y,y∈ys↔y∈xs)∧ys.length≤xs.length
def HRep:Prop:=∀ n:Int,1≤n→n≤4→Zss ([(-1)]) n=some (.own 0,[.arr 3 1 true ((List.replicate n.toNat (-1:Int)).map ic)])
theorem Z8h (hS:HSort) (hR:HRep) {d:Zi} (hd:LeD d) {q:Zc} (hq:LeQ q) (hf:qFor d q=true) {m:Int} (hm:MQ q.Atoms m):∃ ys:List (List Int),Zor d q m=some (.agg [.own 0,.own 1],[.arr 3 1 true ((Zz q m).map ic),.arr 30 1 true (ys.map isc)])∧ys.length=(specR d q m).length∧ys.length≤4096:=by
 have hf':=hf
 unfold qFor at hf'
 simp only [Bool.and_eq_true,List.all_eq_true] at hf'
 obtain ⟨hv,hfo⟩:=hf'
 have h4:=Zbe hv
 have hn:=Zcl hv
 have h16:=(hm.m16 hv).1
 have hinv:=Zqb d m q.Ze.toNat q.Atoms 0 [List.replicate q.Ze.toNat (-1)] hfo (by simp)
 have hp:8 ^ q.Atoms.length≤4096:=Nat.le_trans (Nat.pow_le_pow_right (by omega) h4.2) (by decide)
 have hE:(evalX d q m).length≤4096:=by
  have:=hinv.2
  simp only [List.length_singleton,Nat.mul_one] at this
  exact Nat.le_trans this hp
 have hvl:=Zhv q hv m
 obtain ⟨ys,hs,hnd,hmem,hle⟩:=hS (evalP d q m) (by unfold evalP;rw [List.length_map];exact hE) (by
  intro r hr
  unfold evalP at hr
  obtain ⟨x,_,rfl⟩:=List.mem_map.1 hr
  show (selC x (Zz q m)).length≤4
  unfold selC
  rw [List.length_map];omega)
 refine ⟨ys,Zbgv _ _ _ _ ⟨_,Zj2 q m hq hv,_,hR _ hn.1 hn.2,?_⟩,same_len d q hf m h16 ys hnd hmem,Nat.le_trans hle (by unfold evalP;rw [List.length_map];exact hE)⟩
 have hav:∀ a∈q.Atoms,Le a.Vars∧(∀ v∈a.Vars,0≤v∧v<(q.Ze.toNat:Nat))∧Zbh d a=true:=fun a ha=>⟨hq.2 a ha,fun v hv1=>by
  have:=Zgk hv a ha v hv1
  simp only [inR,Bool.and_eq_true,decide_eq_true_eq] at this
  omega,hfo a ha⟩
 refine l_ev3 d hd (Zz q m) m q.Atoms _ q.Ze.toNat (by omega) hav h4.2 0 (Nat.zero_le _) [List.replicate q.Ze.toNat (-1)] (by simp) (by simp) ?_
 rw [List.drop_zero]
 refine x_ev4 (Zz q m) (evalX d q m) ys q.Ze.toNat (by omega) (by omega) ?_ hinv.1 hE hs
 intro c hc
 exact ((Zwz d q hfo m c).1 hc).1
def Zff (f:Int→Int):List Int→List Int→List Int
 | [],out=>out
 | M::ms,out=>Zff f ms (out.set M.toNat (f M))
theorem Zqr (f:Int→Int):∀ ms out,(Zff f ms out).length=out.length
 | [],_=>rfl
 | M::ms,out=>by rw [Zff,Zqr,List.length_set]
theorem Z8i (f:Int→Int):∀ (ms out:List Int),(∀ M∈ms,0≤M∧M<out.length)→∀ u:Int,0≤u→gi (Zff f ms out) u=if u∈ms then f u else gi out u
 | [],out,_,u,_=>by simp [Zff]
 | M::ms,out,h,u,hu=>by
  have hM:=h M (by simp)
  rw [Zff,Z8i f ms _ (by rw [List.length_set];exact fun N hN=>h N (by simp [hN])) u hu,Zj9 hM hu]
  by_cases e1:u∈ms
  ·rw [if_pos e1,if_pos (by simp [e1])]
  ·rw [if_neg e1]
   by_cases e2:u=M
   ·rw [if_pos e2,if_pos (by simp [e2]),e2]
   ·rw [if_neg e2,if_neg (by simp [e1,e2])]
def cntM (d:Zi) (q:Zc) (m:Int):Int:=((specR d q m).length:Int)
def szN (q:Zc):Nat:=2 ^ q.Atoms.length
theorem Zxo (q:Zc):(2:Int) ^ q.Atoms.length=(szN q:Int):=by unfold szN;simp
theorem Znc {q:Zc} (hv:Zq q.Ze q.Atoms=true):Zu q.Ze q.Atoms=(szN q:Int) - 1∧szN q≤16∧2≤szN q:=by
 have h4:=Zbe hv
 refine ⟨by rw [Zcx hv,Zxo],Nat.le_trans (Nat.pow_le_pow_right (by omega) h4.2) (by decide),?_⟩
 exact Nat.le_trans (show 2≤2 ^ 1 by decide) (Nat.pow_le_pow_right (by omega) h4.1)
def Zcr (d:Zi) (q:Zc):List Int:=(List.range (szN q)).map fun m:Nat=>if Zbb q.Ze q.Atoms m=true then cntM d q m else 0
theorem Zkf (d:Zi) (q:Zc):(Zcr d q).length=szN q:=by simp [Zcr]
theorem Z8j (d:Zi) (q:Zc) {i:Nat} (h:i<(Zcr d q).length):(Zcr d q)[i]=if Zbb q.Ze q.Atoms i=true then cntM d q i else 0:=by simp [Zcr]
theorem Zqs {q:Zc} (hv:Zq q.Ze q.Atoms=true) {m:Int} (h0:0≤m):Zbb q.Ze q.Atoms m=true↔m∈Zp q.Atoms:=by
 have:=Zcx hv
 unfold Zbb
 rw [Zd9,hv]
 simp only [Bool.and_eq_true,decide_eq_true_eq,inR,true_and,this]
 constructor
 ·rintro ⟨⟨h1,h2⟩,h3⟩;exact ⟨by omega,by omega,h3⟩
 ·rintro ⟨h1,h2,h3⟩;exact ⟨⟨⟨by omega,by omega⟩,by omega⟩,h3⟩
theorem Zbml (hS:HSort) (hR:HRep) {d:Zi} (hd:LeD d) {q:Zc} (hq:LeQ q) (hf:qFor d q=true):Zin d q=some (.own 0,[.arr 3 1 true ((Zcr d q).map ic)]):=by
 have hf':=hf
 unfold qFor at hf'
 simp only [Bool.and_eq_true,List.all_eq_true] at hf'
 obtain ⟨hv,hfo⟩:=hf'
 obtain ⟨hfe,hp,hp2⟩:=Znc hv
 have hp':=Zxo q
 have hw:w (Zu q.Ze q.Atoms+1)=(szN q:Int):=by
  rw [hfe,show w ((szN q:Int) - 1+1)=(szN q:Int) - 1+1 from wrap64 (by omega) (by omega)];omega
 have hc15:=Zna hv
 have hcm:∀ M∈Zp q.Atoms,0≤M∧M<(szN q:Int):=fun M hM=>by
  have:=Zd9.1 hM
  rw [hp'] at this
  exact ⟨by omega,this.2.1⟩
 have hloop:∀ i,i≤(Zp q.Atoms).length→∀ out:List Int,out.length=szN q→Zio d q out (Zp q.Atoms) (Zp q.Atoms).length i=some (.own 0,[.arr 3 1 true ((Zff (cntM d q) ((Zp q.Atoms).drop i) out).map ic)]):=by
  refine down _ ?_ ?_
  ·intro out ho
   refine Z4b _ _ _ _ _ _ _ ?_
   rw [if_neg (by omega),List.drop_length];rfl
  ·intro i hi ih out ho
   have hM:=hcm _ (List.getElem_mem hi)
   refine Z4b _ _ _ _ _ _ _ ?_
   rw [if_pos (by omega),wS hi (by omega)]
   obtain ⟨ys,h1,h2,h3⟩:=Z8h hS hR hd hq hf (m:=(Zp q.Atoms)[i]) ⟨hM.1,by rw [hp'];exact hM.2⟩
   refine ⟨by omega,_,gE hi,_,_,h1,hM.1,_,gD (by omega),?_⟩
   rw [List.drop_eq_getElem_cons hi,Zff,h2]
   exact ih _ (by rw [List.length_set];exact ho)
 have hfin:Zff (cntM d q) (Zp q.Atoms) (List.replicate (szN q) 0)=Zcr d q:=by
  refine List.ext_getElem (by rw [Zqr,Zkf];simp) fun i h1 h2=>?_
  have h3:=Z8i (cntM d q) (Zp q.Atoms) (List.replicate (szN q) 0) (by rw [List.length_replicate];exact hcm) i (by omega)
  rw [Zqr,List.length_replicate] at h1
  unfold gi at h3
  rw [Int.toNat_natCast] at h3
  rw [List.getD_eq_getElem?_getD,List.getElem?_eq_getElem (by rw [Zqr,List.length_replicate];exact h1),List.getD_eq_getElem?_getD,List.getElem?_replicate,if_pos h1] at h3
  simp only [Option.getD_some] at h3
  rw [h3]
  rw [Z8j]
  by_cases e:(i:Int)∈Zp q.Atoms
  ·rw [if_pos e,if_pos ((Zqs hv (by omega)).2 e)]
  ·rw [if_neg e,if_neg (fun e2=>e ((Zqs hv (by omega)).1 e2))]
 refine Zbg3 _ _ _ ⟨_,Z6o d hd q hq,?_⟩
 rw [hf,if_pos rfl]
 refine ⟨_,Zhr q hq,?_⟩
 rw [hw]
 have hr:room=140737488355328:=rfl
 refine ⟨by omega,by omega,by rw [hr,Int.toNat_natCast];omega,by omega,_,Z6z q hq hv,?_⟩
 rw [Int.toNat_natCast]
 have:=hloop 0 (Nat.zero_le _) (List.replicate (szN q) 0) (by simp)
 rw [List.drop_zero,hfin] at this
 exact this
theorem Zbmm {d:Zi} (hd:LeD d) {q:Zc} (hq:LeQ q) (hf:qFor d q=true):Zl1 d q=some (.own 0,[.arr 3 1 true ((Zcr d q).map ic)]):=by
 have hf':=hf
 unfold qFor at hf'
 simp only [Bool.and_eq_true,List.all_eq_true] at hf'
 obtain ⟨hv,hfo⟩:=hf'
 obtain ⟨hfe,hp,hp2⟩:=Znc hv
 have hp':=Zxo q
 have hloop:∀ i,i≤szN q→Zjg d q ((Zcr d q).take i) i=some (.own 0,[.arr 3 1 true ((Zcr d q).map ic)]):=by
  have hsl:=Zkf d q
  refine down _ ?_ ?_
  ·refine Zwf _ _ _ _ _ ⟨_,Ze9 q hq,?_⟩
   rw [if_neg (by omega),List.take_of_length_le (by omega)]
  ·intro i hi ih
   refine Zwf _ _ _ _ _ ⟨_,Ze9 q hq,?_⟩
   rw [if_pos (by omega)]
   refine ⟨_,Zwq d hd q hq,?_⟩
   rw [hf,if_pos rfl,wS hi (by omega)]
   refine ⟨_,Zwt q hq _,?_⟩
   rw [List.take_succ_eq_append_getElem (by omega)] at ih
   rw [Z8j] at ih
   rcases tf (Zbb q.Ze q.Atoms i) with e | e
   ·rw [e] at ih ⊢
    rw [if_neg (by simp)] at ih ⊢
    exact ⟨by rw [List.length_take];omega,ih⟩
   ·have hmc:=Zd9.1 ((Zqs hv (by omega)).1 e)
    rw [e] at ih ⊢
    rw [if_pos rfl] at ih ⊢
    exact ⟨_,Zbk8 d hd q hq hf i hmc.1 ⟨by omega,hmc.2.1⟩ (by omega),by rw [List.length_take];omega,ih⟩
 have:=hloop 0 (Nat.zero_le _)
 exact Z5d _ _ _ (by simpa using this)
def locT (d:Zi) (q:Zc):List Int:=(Zcr d q).map Zdw
theorem Zbmn (hS:HSort) (hR:HRep) {d:Zi} (hd:LeD d) {q:Zc} (hq:LeQ q) (hf:qFor d q=true) (h16:szN q≤16):Zk9 d q=some (.own 0,[.arr 3 1 true ((locT d q).map ic)]):=by
 refine Zbgy _ _ _ (.inr ⟨_,Zbml hS hR hd hq hf,_,?_,rfl⟩)
 have:=Zbmk (Zcr d q) (by rw [Zkf];omega) 0 (Nat.zero_le _)
 exact Zbgx _ _ this
theorem Zbmo {d:Zi} (hd:LeD d) {q:Zc} (hq:LeQ q) (hf:qFor d q=true) (h16:szN q≤16):Zl2 d q=some (.own 0,[.arr 3 1 true ((locT d q).map ic)]):=by
 refine Z5f _ _ _ ⟨_,Zbmm hd hq hf,?_⟩
 exact Z8g (Zcr d q) (by rw [Zkf];omega) 0 (Nat.zero_le _)
theorem Z8k {n:Int} (h0:0≤n) (h1:n≤4096):inR (Zdw n) 0 7=true:=by
 unfold Zdw
 rw [if_neg (by omega)]
 repeat' split
 all_goals first | rfl | (exfalso;omega)
theorem Zxp (hS:HSort) (hR:HRep) {d:Zi} (hd:LeD d) {q:Zc} (hq:LeQ q) (hf:qFor d q=true):Zbz (locT d q)=true∧((locT d q).length:Int)=Zu q.Ze q.Atoms+1:=by
 have hf':=hf
 unfold qFor at hf'
 simp only [Bool.and_eq_true,List.all_eq_true] at hf'
 obtain ⟨hv,hfo⟩:=hf'
 obtain ⟨h1,h2,h3⟩:=Znc hv
 have hl:(locT d q).length=szN q:=by unfold locT;rw [List.length_map,Zkf]
 refine ⟨?_,by omega⟩
 unfold Zbz Zer
 simp only [Bool.and_eq_true,decide_eq_true_eq,List.all_eq_true]
 refine ⟨fun x hx=>?_,by omega⟩
 obtain ⟨n,hn,rfl⟩:=List.mem_map.1 hx
 unfold Zcr at hn
 obtain ⟨m,hm,rfl⟩:=List.mem_map.1 hn
 split
 ·rename_i e
  have hmc:=Zd9.1 ((Zqs hv (by omega)).1 e)
  obtain ⟨ys,_,g1,g2⟩:=Z8h hS hR hd hq hf (m:=(m:Int)) ⟨by omega,hmc.2.1⟩
  unfold cntM
  exact Z8k (by omega) (by omega)
 ·exact Z8k (by decide) (by decide)
theorem fullM_nn (n:Int) (qa:List Atom):0≤Zu n qa:=by
 rcases tf (Zq n qa) with e | e
 ·unfold Zu;rw [e,if_neg (by simp)];decide
 ·have:=Zrj e;omega
end Go.Proofs.YtgnfoghkbpkgjaaGreat
namespace Go.Proofs.YtgnfoghkbpkgjaaGreat
open Go.RowKit Go.Lib
theorem Z8l (x:Int) (w:World):Calls Tryz.prog 438 #[.int .i64 x] w fun e w'=>e=.returned (.bool false)∧w'=w:=by
 go_enter Tryz.func438,Tryz.ntmps438
 go_wp2
 go_ret
 exact ⟨by simp,rfl⟩
def c3 (x y:Int):Int:=if x<y then -1 else if y<x then 1 else 0
theorem cmp_walk (x y:Int) (w:World):Calls Tryz.prog 428 #[.int .i64 x,.int .i64 y] w fun e w'=>e=.returned (.int .i64 (c3 x y))∧w'=w:=by
 have h1:=Z8l x w
 have h2:=Z8l y w
 by_cases e1:x<y
 ·go_enter Tryz.func428,Tryz.ntmps428
  go_wp2_with (first | (refine h1.mono ?_;rintro e w' ⟨rfl,rfl⟩) | (refine h2.mono ?_;rintro e w' ⟨rfl,rfl⟩))
  go_ret
  exact ⟨by simp [c3,e1],rfl⟩
 ·by_cases e2:y<x
  ·go_enter Tryz.func428,Tryz.ntmps428
   go_wp2_with (first | (refine h1.mono ?_;rintro e w' ⟨rfl,rfl⟩) | (refine h2.mono ?_;rintro e w' ⟨rfl,rfl⟩))
   go_ret
   exact ⟨by simp [c3,e1,e2],rfl⟩
  ·have hc:c3 x y=0:=by unfold c3;rw [if_neg e1,if_neg e2]
   rw [hc]
   clear hc
   go_enter Tryz.func428,Tryz.ntmps428
   go_wp2_with (first | (refine h1.mono ?_;rintro e w' ⟨rfl,rfl⟩) | (refine h2.mono ?_;rintro e w' ⟨rfl,rfl⟩))
   go_ret
   exact ⟨rfl,rfl⟩
def Zfg (w:World) (v:Value) (r:List Int):Prop:=∃ a c,v=.slice a r.length c∧∀ j (h:j<r.length),∃ g off,a=some ⟨g,off,none⟩∧w.cell? ⟨g,off+j,none⟩=some (.int .i64 r[j])
theorem Zbmp {a b:List Int} {k:Nat} (h1:k<a.length) (h2:k<b.length):cmpR (a.drop k) (b.drop k)=if c3 a[k] b[k]=0 then cmpR (a.drop (k+1)) (b.drop (k+1)) else c3 a[k] b[k]:=by
 rw [List.drop_eq_getElem_cons h1,List.drop_eq_getElem_cons h2]
 conv=>lhs;unfold cmpR
 unfold c3
 by_cases e1:a[k]<b[k]
 ·simp [e1]
 ·rw [if_neg e1,if_neg e1]
  by_cases e2:b[k]<a[k]
  ·simp [e2]
  ·simp [e2]
theorem Zbmq (v1 v2:Value) (a b:List Int) (w:World) (h1:Zfg w v1 a) (h2:Zfg w v2 b) (hl1:a.length<2305843009213693952) (hl2:b.length<2305843009213693952) :
  Calls Tryz.prog 394 #[v1,v2] w fun e w'=>e=.returned (.int .i64 (cmpR a b))∧w'=w:=by
 obtain ⟨p1,c1,rfl,r1⟩:=h1
 obtain ⟨p2,c2,rfl,r2⟩:=h2
 have mixed:Tryz.prog.follows Departure.mixedOrders=true:=by kernel_rfl
 have hc:=fun x y=>cmp_walk x y w
 generalize hR:cmpR a b=R
 have HR:Aside (cmpR (a.drop 0) (b.drop 0)=R):=hR
 clear hR
 go_enter Tryz.func394,Tryz.ntmps394
 go_wp2
 go_loopg [5,6,7,8,11] a.length (fun gg _ _ _ _ s11 wr=>∃ kk:Nat,kk≤a.length∧a.length - kk≤gg∧s11=.int .i64 kk∧wr=w∧Aside (kk≤b.length)∧Aside (cmpR (a.drop kk) (b.drop kk)=R))
 case atStart=>exact ⟨0,Nat.zero_le _,by omega,rfl,rfl,Nat.zero_le _,HR⟩
 case round =>
  obtain ⟨kk,hkk,hg,rfl,rfl,A,B⟩:=hrel
  by_cases hlt:kk<a.length
  ·have hltz:(kk:Int)<(a.length:Int):=by omega
   obtain ⟨g1,o1,rfl,d1⟩:=r1 kk hlt
   by_cases hlb:kk<b.length
   ·have hltb:¬ (b.length:Int)≤(kk:Int):=by omega
    obtain ⟨g2,o2,rfl,d2⟩:=r2 kk hlb
    have hs:=Zbmp hlt hlb
    have hcall:=hc a[kk] b[kk]
    have S:Aside (cmpR (a.drop kk) (b.drop kk)=if c3 a[kk] b[kk]=0 then cmpR (a.drop (kk+1)) (b.drop (kk+1)) else c3 a[kk] b[kk]):=hs
    clear hs hc r1 r2
    generalize c3 a[kk] b[kk]=z at hcall S
    generalize a[kk]=x at hcall d1
    generalize b[kk]=y at hcall d2
    by_cases hz:z=0
    ·subst hz
     go_wp2_with (refine hcall.mono ?_;rintro e w' ⟨rfl,rfl⟩)
     go_roundg (a.length - (kk+1))
     case measure=>omega
     case rel =>
      refine ⟨kk+1,by omega,by omega,by go_num,rfl,(show Aside _ from by show kk+1≤b.length;omega),(show Aside _ from ?_)⟩
      have:=S.out
      rw [B.out] at this
      show cmpR (a.drop (kk+1)) (b.drop (kk+1))=R
      simpa using this.symm
    ·have hr:R=z:=by rw [← B.out,S.out,if_neg hz]
     go_wp2_with (refine hcall.mono ?_;rintro e w' ⟨rfl,rfl⟩)
     go_ret
     exact ⟨by subst hr;rfl,rfl⟩
   ·have hltb:(b.length:Int)≤(kk:Int):=by omega
    have hr:R=1:=by
     rw [← B.out,List.drop_eq_getElem_cons hlt,show b.drop kk=[] from List.drop_of_length_le (by omega)];rfl
    clear hc r2
    go_wp2
    go_ret
    exact ⟨by subst hr;rfl,rfl⟩
  ·have hltz:¬ (kk:Int)<(a.length:Int):=by omega
   have he:kk=a.length:=by omega
   have hA:=A.out
   by_cases hlb:(a.length:Int)<(b.length:Int)
   ·have hr:R=-1:=by
     rw [← B.out,he,List.drop_length,List.drop_eq_getElem_cons (l:=b) (i:=a.length) (by omega)];rfl
    clear hc r1 r2
    go_wp2
    go_ret
    exact ⟨by subst hr;rfl,rfl⟩
   ·have hr:R=0:=by
     rw [← B.out,he,List.drop_length,show b.drop a.length=[] from List.drop_of_length_le (by omega)];rfl
    clear hc r1 r2
    go_wp2
    go_ret
    exact ⟨by subst hr;rfl,rfl⟩
theorem Zbmr (v1 v2:Value) (a b:List Int) (w:World) (h1:Zfg w v1 a) (h2:Zfg w v2 b) (hl1:a.length<2305843009213693952) (hl2:b.length<2305843009213693952) :
  Calls Tryz.prog 331 #[v1,v2] w fun e w'=>e=.returned (.int .i64 (cmpR a b))∧w'=w:=by
 have hc:=Zbmq v1 v2 a b w h1 h2 hl1 hl2
 generalize cmpR a b=R at hc ⊢
 obtain ⟨p1,c1,rfl,r1⟩:=h1
 obtain ⟨p2,c2,rfl,r2⟩:=h2
 clear r1 r2
 go_enter Tryz.func331,Tryz.ntmps331
 go_wp2_with (refine hc.mono ?_;rintro e w' ⟨rfl,rfl⟩)
 go_ret
 exact ⟨rfl,rfl⟩
end Go.Proofs.YtgnfoghkbpkgjaaGreat
