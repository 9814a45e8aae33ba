/-
  Parts of the proofs for this seat: IC IF IG IH IJ IK IL K.
-/
import Derived.Test.YtgnfoghkbpkgjaaGreatP6
import Derived.Test.YtgnfoghkbpkgjaaGreatP7
import Derived.Test.YtgnfoghkbpkgjaaGreatP12
set_option linter.unusedSimpArgs false
set_option linter.unusedVariables false
set_option maxRecDepth 100000
set_option maxHeartbeats 4000000
namespace Go.Proofs.YtgnfoghkbpkgjaaGreat
open Go.AM
structure Z7n (m:Zd) (q:Zc) (sizes:List Int) (out:List Za) (table:List (List Za)) (M A:Int) (sh:List Int):Prop where
 ok:Zh7 m sizes q.Atoms out M A sh
 diff:andNotI M A=M - A
 sh:Zhc q A (andNotI M A)=some (.own 0,[.arr 3 1 true (sh.map ic)])
 tA:table[A.toNat]?=some (ofM out A)
 tB:table[(M - A).toNat]?=some (ofM out (M - A))
theorem i_splits {m:Zd} {q:Zc} {sizes:List Int} (b:Base m q sizes) {M:Int} (hM16:M16 M) (hM:M≠0) (table:List (List Za)) (ht:M.toNat<table.length) (out:List Za) (hout:out.length≤1000) (ps:List (Int×List Int)) (hps:ps.length≤100)
  (ok:∀ p∈ps,Z7n m q sizes out table M p.1 p.2) (fr fr1:Bool) (x:List Int) (x2 x3:Int) (r:AV×List Blk) :
  ∀ i,i≤ps.length→∀ a0 a1 a2 a3 a4:Za,(∀ f1 E,((ps.drop i).foldl (oneJ m sizes M out) [a0,a1,a2,a3,a4]).filter sm=E →
   Zf2 m q f1 (table.set M.toNat E) (fr1 && flat (E.map Za.c)) (out++E) x sizes x2 (w (x3+1))=some r) →
  Zen m q fr table fr1 out m q sizes M a0 a1 a2 a3 a4 (sm a0) (sm a1) (sm a2) (sm a3) (sm a4) x (ps.map Prod.fst) sizes M x2 x3 ps.length i=some r:=by
 refine down _ ?_ ?_
 ·intro a0 a1 a2 a3 a4 h
  refine Z36 _ _ _ _ _ _ _ _ _ _ _ _ _ _ _ _ _ _ _ _ _ _ _ _ _ _ _ _ _ ?_
  rw [if_neg (by omega)]
  obtain ⟨fr',he⟩:=Zbk7 m q sizes M a0 a1 a2 a3 a4
  have hl:(there a0 a1 a2 a3 a4).length≤5:=List.length_filter_le _ _
  exact ⟨fr',there a0 a1 a2 a3 a4,he,by omega,_,List.getElem?_eq_getElem ht,by omega,h _ _ (by rw [List.drop_length];rfl)⟩
 ·intro i hi ih a0 a1 a2 a3 a4 h
  have h4:=inc64 (i:=i) (by omega)
  have hw:w ((i:Int)+1)=((i+1:Nat):Int):=by rw [show w ((i:Int)+1)=(i:Int)+1 from h4];simp
  rw [List.drop_eq_getElem_cons hi,List.foldl_cons] at h
  obtain ⟨o,hd,hsh,tA,tB⟩:=ok _ (List.getElem_mem hi)
  have hget:(ps.map Prod.fst)[i]?=some ps[i].1:=by rw [List.getElem?_map,List.getElem?_eq_getElem hi];rfl
  generalize ps[i]=p at *
  obtain ⟨A,sh⟩:=p
  simp only at o hd hsh tA tB hget
  have hp:=o.pair
  have hE:=o.left
  have hF:=o.right
  have pA:=Zcl hp.a16
  have pB:=Zcl hp.b16
  have lE:=hE.len _ hE.best
  have lF:=hF.len _ hF.best
  have leE:=hE.le
  have leF:=hF.le
  obtain ⟨b0,b1,b2,b3,b4,t,hJ,htt,hx⟩:=x_offJ m b.hm q b.hq b.hv sizes b.hs b.hsv hM16 hM hp (a:=Zx (ofM out A)) (b:=Zx (ofM out (M - A))) (k:=3) (v:=0) (o:=-1) (by omega) (by omega) (hE.mask _ hE.best) (hF.mask _ hF.best) (hE.makes _ hE.best) (hF.makes _ hF.best) hash_p ⟨by omega,by omega⟩ a0 a1 a2 a3 a4
  have hone:oneJ m sizes M out [a0,a1,a2,a3,a4] (A,sh)=sh.foldl (Zex m sizes A (M - A) (ofM out A) (ofM out (M - A))) ((ofM out A).foldl (Zeg m sizes (Zx (ofM out (M - A)))) [b0,b1,b2,b3,b4]):=by
   unfold oneJ Zh6
   rw [← hJ]
  rw [hone] at h
  have hnext:Zf3 m q fr table fr1 out m q sizes M b0 b1 b2 b3 b4 (sm b0) (sm b1) (sm b2) (sm b3) (sm b4) (Zx (ofM out (M - A))).Plan x (ps.map Prod.fst) sizes M A (ofM out A) (ofM out (M - A)) x2 x3 ps.length i (ofM out A) (ofM out A).length 0=some r:=by
   refine i_nested b hM16 hM hp hE hF sh hsh fr table fr1 out x _ x2 x3 _ _ r 0 (Nat.zero_le _) b0 b1 b2 b3 b4 ?_
   intro c0 c1 c2 c3 c4 hc
   refine i_merges b hM16 hM hp hE hF sh o.len o.vars fr table fr1 out x _ x2 x3 _ _ r 0 (Nat.zero_le _) c0 c1 c2 c3 c4 ?_
   intro d0 d1 d2 d3 d4 hdd
   rw [hw]
   rw [List.drop_zero] at hc hdd
   rw [hc,hdd] at h
   exact ih d0 d1 d2 d3 d4 h
  refine Z36 _ _ _ _ _ _ _ _ _ _ _ _ _ _ _ _ _ _ _ _ _ _ _ _ _ _ _ _ _ ?_
  rw [if_pos (by omega)]
  refine ⟨by omega,A,by rw [Int.toNat_natCast];exact hget,hp.a16.1,_,tA,by rw [hd];exact hp.b16.1,_,by rw [hd];exact tB,_,Zqp _ hF.ne (by omega),_,Zqp _ hE.ne (by omega),_,Zkh _ _ _ _ (by omega) (by omega),?_⟩
  rcases htt with rfl | rfl
  ·exact .inl ⟨m,q,sizes,M,b0,b1,b2,b3,b4,_,_,_,_,_,hx,hnext⟩
  ·exact .inr ⟨m,q,sizes,M,b0,b1,b2,b3,b4,_,_,_,_,_,_,hx,hnext⟩
def Zb5 (q:Zc) (M:Int):List (Int×List Int):=(Zq q.Atoms M).map fun A=>(A,Zee q A (M - A))
def Zgm (m:Zd) (sizes:List Int) (q:Zc) (M a:Int):Za:=⟨M,((q.Atoms[a.toNat]?).map fun x=>x.Vars.headD 0).getD 0,Z6 m.Scan (szAt sizes M) 0 (szAt sizes M),⟨[⟨1,a,0⟩]⟩⟩
def entM (m:Zd) (sizes:List Int) (q:Zc) (out:List Za) (M:Int):List Za:=match Zck M with
 | [a]=>[Zgm m sizes q M a]
 | _=>(Zki m sizes M out (Zb5 q M)).filter sm
theorem Z7o:∀ a:Fin 16,(oneB (ofI (a.1:Int))=true→(Zck (a.1:Int)=[((0:Nat):Int)]∧(a.1:Int)=shlI 1 (0:Nat))∨(Zck (a.1:Int)=[((1:Nat):Int)]∧(a.1:Int)=shlI 1 (1:Nat))∨(Zck (a.1:Int)=[((2:Nat):Int)]∧(a.1:Int)=shlI 1 (2:Nat))∨(Zck (a.1:Int)=[((3:Nat):Int)]∧(a.1:Int)=shlI 1 (3:Nat)))∧(oneB (ofI (a.1:Int))=false→(Zck (a.1:Int)).length≠1):=by decide
theorem Zw7 {M:Int} (h:M16 M) (ho:oneB (ofI M)=true):∃ i:Nat,i<4∧Zck M=[(i:Int)]∧M=shlI 1 i:=by
 obtain ⟨a,rfl⟩:=m16 h
 rcases (Z7o a).1 ho with h | h | h | h
 ·exact ⟨0,by omega,h⟩
 ·exact ⟨1,by omega,h⟩
 ·exact ⟨2,by omega,h⟩
 ·exact ⟨3,by omega,h⟩
theorem Zw8 {M:Int} (h:M16 M) (ho:oneB (ofI M)=false):(Zck M).length≠1:=by
 obtain ⟨a,rfl⟩:=m16 h
 exact (Z7o a).2 ho
theorem Zw9 {m:Zd} {sizes:List Int} {q:Zc} {out:List Za} {M a:Int} (h:Zck M=[a]):entM m sizes q out M=[Zgm m sizes q M a]:=by unfold entM;rw [h]
theorem Zxa {m:Zd} {sizes:List Int} {q:Zc} {out:List Za} {M:Int} (h:(Zck M).length≠1):entM m sizes q out M=(Zki m sizes M out (Zb5 q M)).filter sm:=by
 unfold entM
 split
 ·rename_i a e;rw [e] at h;simp at h
 ·rfl
theorem Zxb {m:Zd} {sizes:List Int} {a b:Za} {k v o:Int} (ho:-1≤o∧o≤3) (hM:orI a.Mask b.Mask≠0) {mine:List Za} (h5:mine.length=5):(offJ m sizes a b k v o mine).filter sm≠[]:=by
 refine List.ne_nil_of_mem (a:=offE ((mine[(o+1).toNat]?).getD zE) (orI a.Mask b.Mask) o (jc m sizes a b k) (Zbr a.Plan.Steps b.Plan.Steps k v)) (List.mem_filter.2 ⟨?_,sm_off hM⟩)
 unfold offJ
 exact List.mem_set (by omega) _
theorem Z7p {m:Zd} {sizes:List Int} {b:Za}:∀ {E mine:List Za},(∀ e∈E,(-1≤e.Order∧e.Order≤3)∧orI e.Mask b.Mask≠0)→mine.length=5→mine.filter sm≠[]→(E.foldl (Zeg m sizes b) mine).filter sm≠[]
 | [],_,_,_,h=>h
 | e::E,mine,he,h5,h=>by
  rw [List.foldl_cons]
  obtain ⟨e1,e2⟩:=he e (by simp)
  exact Z7p (fun x hx=>he x (by simp [hx])) (by rw [show (Zeg m sizes b mine e).length=mine.length from Zd3];exact h5) (Zxb e1 e2 h5)
theorem Z7q {m:Zd} {sizes:List Int} {A B:Int} {E F:List Za}:∀ {sh:List Int} {mine:List Za},(∀ v∈sh,(-1≤v∧v≤3)∧orI (inp m sizes A E v).Mask (inp m sizes B F v).Mask≠0)→mine.length=5→mine.filter sm≠[]→(sh.foldl (Zex m sizes A B E F) mine).filter sm≠[]
 | [],_,_,_,h=>h
 | v::sh,mine,he,h5,h=>by
  rw [List.foldl_cons]
  obtain ⟨e1,e2⟩:=he v (by simp)
  exact Z7q (fun x hx=>he x (by simp [hx])) (by rw [show (Zex m sizes A B E F mine v).length=mine.length from Zd3];exact h5) (Zxb e1 e2 h5)
theorem one_some {m:Zd} {sizes:List Int} {qa:List Atom} {M:Int} {l:List Za} {p:Int×List Int} (hM:M≠0) (hg:Zbc m.Sort_) (hcl:Zcc sizes) (o:Zh7 m sizes qa l M p.1 p.2) {mine:List Za} (h5:mine.length=5):(oneJ m sizes M l mine p).filter sm≠[]:=by
 have hp:=o.pair
 unfold oneJ Zh6
 refine Z7q (fun v hv=>⟨(o.vars v hv).1,?_⟩) (by rw [Zqs,Zd3];exact h5) (Z7p (fun e he=>⟨o.left.ord e he,?_⟩) (by rw [Zd3];exact h5) (Zxb (by omega) ?_ h5))
 ·rw [(Zgl o.left hg hcl hp.a16 (o.vars v hv).2.1).1,(Zgl o.right hg hcl hp.b16 (o.vars v hv).2.2).1,hp.or];exact hM
 ·rw [o.left.mask e he,o.right.mask _ o.right.best,hp.or];exact hM
 ·rw [o.left.mask _ o.left.best,o.right.mask _ o.right.best,hp.or];exact hM
theorem Z7r {m:Zd} {sizes:List Int} {qa:List Atom} {M:Int} {l:List Za} (hM:M≠0) (hg:Zbc m.Sort_) (hcl:Zcc sizes):∀ {ps:List (Int×List Int)} {mine:List Za},(∀ p∈ps,Zh7 m sizes qa l M p.1 p.2)→mine.length=5→(ps≠[]∨mine.filter sm≠[])→(ps.foldl (oneJ m sizes M l) mine).filter sm≠[]
 | [],_,_,_,h=>by rcases h with h | h;exact absurd rfl h;exact h
 | p::ps,mine,hp,h5,_=>by
  rw [List.foldl_cons]
  exact Z7r hM hg hcl (fun x hx=>hp x (by simp [hx])) (by rw [show (oneJ m sizes M l mine p).length=mine.length from Z7j];exact h5) (.inr (one_some hM hg hcl (hp p (by simp)) h5))
structure Inv (m:Zd) (sizes:List Int) (q:Zc) (done:List Int) (out:List Za):Prop where
 held:∀ M∈done,Held m sizes q.Atoms M (ofM out M)
 only:∀ e∈out,e.Mask∈done
 len:out.length≤5*done.length
theorem Zblp {q:Zc} (hv:Zn q.Ze q.Atoms=true) {A B:Int}:∀ v∈Zee q A B,(-1≤v∧v≤3)∧vin q.Atoms A v=true∧vin q.Atoms B v=true:=by
 intro v hvm
 unfold Zee at hvm
 rw [List.mem_filter] at hvm
 obtain ⟨h1,h2⟩:=hvm
 rw [Zfq] at h2
 have key:∀ m,v∈Zcy q m→(0≤v∧v≤3)∧vin q.Atoms m v=true:=by
  intro m hm
  unfold Zcy varL at hm
  rw [List.mem_map] at hm
  obtain ⟨u,hu,rfl⟩:=hm
  rw [List.mem_filter,List.mem_range] at hu
  have hn:=Zda hv
  refine ⟨by omega,?_⟩
  unfold vin
  rw [Bool.and_eq_true]
  exact ⟨by simp [inR];omega,by rw [Int.toNat_natCast];exact hu.2⟩
 obtain ⟨k1,k2⟩:=key A h1
 obtain ⟨k3,k4⟩:=key B h2
 exact ⟨by omega,k2,k4⟩
theorem Zblq {q:Zc} (hv:Zn q.Ze q.Atoms=true) (A B:Int):(Zee q A B).length≤1000:=by
 have:=Znc q hv A
 unfold Zee
 have:=List.length_filter_le (has (Zcy q B)) (Zcy q A)
 omega
theorem Zbl {q:Zc} {sizes:List Int} (hsv:Zbn q.Ze q.Atoms sizes=true) {M:Int} (h:MQ q.Atoms M):SzOk sizes M:=by
 unfold Zbn at hsv
 simp only [Bool.and_eq_true,decide_eq_true_eq] at hsv
 have hf:=Zeb hsv.1.1
 have h1:=h.1
 have h2:=h.2
 have hl:M.toNat<sizes.length:=by omega
 refine ⟨h1,?_⟩
 unfold szAt
 rw [List.getElem?_eq_getElem hl];rfl
theorem Zxc {qa:List Atom} {M A:Int} (hM:MQ qa M) (h:A∈Zq qa M):MQ qa A∧MQ qa (M - A):=by
 obtain ⟨h1,h2,_⟩:=Zni h
 have:=hM.2
 exact ⟨⟨by omega,by omega⟩,⟨by omega,by omega⟩⟩
theorem Zxd {m:Zd} {q:Zc} {sizes:List Int} (b:Base m q sizes) {done:List Int} {out:List Za} (hi:Inv m sizes q done out) {M:Int} (hM:MQ q.Atoms M) (hc:conn q.Atoms M=true) (hd:∀ A∈Zq q.Atoms M,A∈done∧M - A∈done):∀ p∈Zb5 q M,Zh7 m sizes q.Atoms out M p.1 p.2:=by
 intro p hp
 unfold Zb5 at hp
 rw [List.mem_map] at hp
 obtain ⟨A,hA,rfl⟩:=hp
 obtain ⟨d1,d2⟩:=hd A hA
 obtain ⟨q1,q2⟩:=Zxc hM hA
 exact ⟨Zblo b.hv hM hc hA,hi.held A d1,hi.held _ d2,Zbl b.hsv q1,Zbl b.hsv q2,Zblq b.hv _ _,Zblp b.hv⟩
theorem Zxe {m:Zd} {q:Zc} {sizes:List Int} (b:Base m q sizes) {done:List Int} {out:List Za} (hi:Inv m sizes q done out) {M:Int} (hM:MQ q.Atoms M) (h0:M≠0) (hc:conn q.Atoms M=true) (hd:∀ A∈Zq q.Atoms M,A∈done∧M - A∈done):Held m sizes q.Atoms M (entM m sizes q out M):=by
 have h16:=(hM.m16 b.hv).1
 cases ho:oneB (ofI M) with
 | true =>
  obtain ⟨i,hi4,ha,rfl⟩:=Zw7 h16 ho
  rw [Zw9 ha]
  have hl:i<q.Atoms.length:=by
   have h2:=hM.2
   have hl4:=Zbt b.hv
   have e:shlI 1 (i:Nat)=2 ^ i:=by
    have:i=0∨i=1∨i=2∨i=3:=by omega
    rcases this with rfl | rfl | rfl | rfl <;> decide
   rw [e] at h2
   have h3:(2:Int) ^ i<2 ^ q.Atoms.length:=h2
   rw [← Zec,← Zec] at h3
   have h4:2 ^ i<2 ^ q.Atoms.length:=by omega
   exact (Nat.pow_lt_pow_iff_right (by omega)).1 h4
  have hmk:=Zbk6 (m:=m) (sizes:=sizes) hl
  have hu:=Zh5 m.Scan (szAt sizes (shlI 1 i)) 0 (szAt sizes (shlI 1 i))
  rw [w_id (by omega) (by omega)] at hmk
  have hvar:=Zif b.hv _ (List.getElem_mem hl)
  have he:Zgm m sizes q (shlI 1 i) (i:Int)=⟨shlI 1 i,q.Atoms[i].Vars.headD 0,Z6 m.Scan (szAt sizes (shlI 1 i)) 0 (szAt sizes (shlI 1 i)),⟨[⟨1,i,0⟩]⟩⟩:=by
   simp [Zgm,List.getElem?_eq_getElem hl]
  have hpop:popc (shlI 1 (i:Nat))=1:=by
   have:i=0∨i=1∨i=2∨i=3:=by omega
   rcases this with rfl | rfl | rfl | rfl <;> decide
  have hord:0≤q.Atoms[i].Vars.headD 0∧q.Atoms[i].Vars.headD 0≤3:=by
   cases hvs:q.Atoms[i].Vars with
   | nil=>rw [hvs] at hvar;simp at hvar
   | cons v vs =>
    have:=Zn6 b.hv _ (List.getElem_mem hl) v (by rw [hvs];simp)
    have hn:=Zda b.hv
    simp [inR] at this
    simp only [List.headD_cons]
    omega
  rw [he]
  refine ⟨by simp,by simp,?_,?_,?_,?_⟩
  ·intro e hm;rw [List.mem_singleton.1 hm]
  ·intro e hm;rw [List.mem_singleton.1 hm];exact ⟨by show -1≤q.Atoms[i].Vars.headD 0;omega,hord.2⟩
  ·intro e hm;rw [List.mem_singleton.1 hm];exact hmk
  ·intro e hm;rw [List.mem_singleton.1 hm];simp [hpop]
 | false =>
  rw [Zxa (Zw8 h16 ho)]
  have ok:=Zxd b hi hM hc hd
  have hne:=split_ne b.hv hM h0 hc ho
  refine Zblg (Zw5 b.hg b.hcl ok (Z7k m sizes q.Atoms M)) (Z7r h0 b.hg b.hcl ok (by simp) (.inl ?_))
  unfold Zb5
  intro hh
  exact hne (List.map_eq_nil_iff.1 hh)
theorem Z7s (a b:List Za) (M:Int):ofM (a++b) M=ofM a M++ofM b M:=by simp [ofM]
theorem ofM_all {l:List Za} {M:Int} (h:∀ e∈l,e.Mask=M):ofM l M=l:=by
 unfold ofM
 rw [List.filter_eq_self]
 intro e he
 simp [h e he]
theorem ofM_no {l:List Za} {M:Int} (h:∀ e∈l,e.Mask≠M):ofM l M=[]:=by
 unfold ofM
 rw [List.filter_eq_nil_iff]
 intro e he
 simp [h e he]
theorem Z7t {m:Zd} {q:Zc} {sizes:List Int} (b:Base m q sizes) {done:List Int} {out:List Za} (hi:Inv m sizes q done out) {M:Int} (hM:MQ q.Atoms M) (h0:M≠0) (hc:conn q.Atoms M=true) (hd:∀ A∈Zq q.Atoms M,A∈done∧M - A∈done) (hn:M ∉ done) :
  Inv m sizes q (done++[M]) (out++entM m sizes q out M)∧(∀ A∈done,ofM (out++entM m sizes q out M) A=ofM out A)∧ofM (out++entM m sizes q out M) M=entM m sizes q out M:=by
 have hh:=Zxe b hi hM h0 hc hd
 have e1:∀ A∈done,ofM (out++entM m sizes q out M) A=ofM out A:=by
  intro A hA
  rw [Z7s,ofM_no (l:=entM m sizes q out M),List.append_nil]
  intro e he
  rw [hh.mask e he]
  intro h
  exact hn (h ▸ hA)
 have e2:ofM (out++entM m sizes q out M) M=entM m sizes q out M:=by
  rw [Z7s,ofM_all hh.mask,ofM_no (l:=out),List.nil_append]
  intro e he h
  exact hn (h ▸ hi.only e he)
 refine ⟨⟨?_,?_,?_⟩,e1,e2⟩
 ·intro A hA
  rcases List.mem_append.1 hA with hA | hA
  ·rw [e1 A hA];exact hi.held A hA
  ·simp at hA;subst hA;rw [e2];exact hh
 ·intro e he
  rcases List.mem_append.1 he with he | he
  ·exact List.mem_append_left _ (hi.only e he)
  ·rw [hh.mask e he];simp
 ·have:=hh.le
  have:=hi.len
  simp only [List.length_append,List.length_cons,List.length_nil]
  omega
theorem Zh8 {qa:List Atom} {M:Int}:M∈Zo qa↔1≤M∧M<2 ^ qa.length∧conn qa M=true:=by
 unfold Zo Zd1
 rw [List.mem_map]
 have hp:=Zec qa.length
 constructor
 ·rintro ⟨k,hk,rfl⟩
  rw [List.mem_filter,List.mem_range'_1] at hk
  exact ⟨by omega,by omega,hk.2⟩
 ·rintro ⟨h1,h2,h3⟩
  refine ⟨M.toNat,?_,by omega⟩
  rw [List.mem_filter,List.mem_range'_1]
  have e:((M.toNat:Nat):Int)=M:=by omega
  exact ⟨by omega,by rw [e];exact h3⟩
theorem Znj (qa:List Atom):(Zo qa).Pairwise (·<·):=by
 unfold Zo Zd1
 rw [List.pairwise_map]
 refine List.Pairwise.filter _ ?_
 refine (List.pairwise_lt_range' (s:=1) (n:=2 ^ qa.length - 1)).imp ?_
 intro a b h
 omega
theorem Zqt {n:Int} {qa:List Atom} (hv:Zn n qa=true):(Zo qa).length≤15:=by
 have h16:2 ^ qa.length≤16:=Nat.pow_le_pow_right (by omega:0<2) (Zbt hv).2
 have:=Zbj9 (qa:=qa) (k:=1) (n:=2 ^ qa.length - 1)
 unfold Zo
 omega
theorem Z7u {Ms:List Int} (hu:Ms.Pairwise (·<·)) {i:Nat} (hi:i<Ms.length) {A:Int} (hA:A∈Ms) (h:A<Ms[i]):A∈Ms.take i:=by
 obtain ⟨j,hj,rfl⟩:=List.mem_iff_getElem.1 hA
 rw [List.pairwise_iff_getElem] at hu
 have hji:j<i:=by
  rcases Nat.lt_trichotomy j i with q | rfl | q
  ·exact q
  ·omega
  ·have:=hu i j hi hj q;omega
 rw [List.mem_take_iff_getElem]
 exact ⟨j,by omega,rfl⟩
theorem Zxf {Ms:List Int} (hu:Ms.Pairwise (·<·)) {i:Nat} (hi:i<Ms.length):Ms[i] ∉ Ms.take i:=by
 intro h
 rw [List.mem_take_iff_getElem] at h
 obtain ⟨j,hj,e⟩:=h
 rw [List.pairwise_iff_getElem] at hu
 have:=hu j i (by omega) hi (by omega)
 omega
def Z0 (m:Zd) (sizes:List Int) (q:Zc):Nat→List Za
 | 0=>[]
 | i+1=>Z0 m sizes q i++entM m sizes q (Z0 m sizes q i) ((Zo q.Atoms).getD i 0)
theorem Zkj {q:Zc} {i:Nat} (hi:i<(Zo q.Atoms).length):MQ q.Atoms (Zo q.Atoms)[i]∧(Zo q.Atoms)[i]≠0∧conn q.Atoms (Zo q.Atoms)[i]=true∧∀ A∈Zq q.Atoms (Zo q.Atoms)[i],A∈(Zo q.Atoms).take i∧(Zo q.Atoms)[i] - A∈(Zo q.Atoms).take i:=by
 obtain ⟨h1,h2,h3⟩:=Zh8.1 (List.getElem_mem hi)
 refine ⟨⟨by omega,h2⟩,by omega,h3,?_⟩
 intro A hA
 obtain ⟨a1,a2,a3,a4,a5⟩:=Zni hA
 exact ⟨Z7u (Znj _) hi (Zh8.2 ⟨a1,by omega,a4⟩) a2,Z7u (Znj _) hi (Zh8.2 ⟨by omega,by omega,a5⟩) (by omega)⟩
theorem Zkk {m:Zd} {q:Zc} {sizes:List Int} (b:Base m q sizes):∀ i,i≤(Zo q.Atoms).length→Inv m sizes q ((Zo q.Atoms).take i) (Z0 m sizes q i)
 | 0,_=>⟨by simp,by simp [Z0],by simp [Z0]⟩
 | i+1,h=>by
  have hi:i<(Zo q.Atoms).length:=by omega
  obtain ⟨c1,c2,c3,c4⟩:=Zkj hi
  have:=(Z7t b (Zkk b i (by omega)) c1 c2 c3 c4 (Zxf (Znj _) hi)).1
  rw [Z0,List.take_succ_eq_append_getElem hi]
  have e:(Zo q.Atoms).getD i 0=(Zo q.Atoms)[i]:=by simp [List.getD,hi]
  rw [e]
  exact this
theorem Zh9 {m:Zd} {q:Zc} {sizes:List Int} (b:Base m q sizes) {i:Nat} (hi:i≤(Zo q.Atoms).length):(Z0 m sizes q i).length≤75:=by
 have h1:=(Zkk b i hi).len
 have h2:=Zqt b.hv
 rw [List.length_take] at h1
 omega
theorem Zblr {M v c:Int} {x:List Zb} (hM:M≠0) (hv:0≤v∧v≤3):[offK 0 zE M v c x,offK 1 zE M v c x,offK 2 zE M v c x,offK 3 zE M v c x,offK 4 zE M v c x].filter sm=[⟨M,v,c,⟨x⟩⟩]:=by
 have h:v=0∨v=1∨v=2∨v=3:=by omega
 rcases h with rfl | rfl | rfl | rfl <;> simp [offK,offE,sm,zE,hM]
theorem Zbls:∀ (i:Fin 4) (a:Fin 16),1≤a.1→(a.1:Int)<shlI 1 (i.1:Nat)→andI (a.1:Int) (shlI 1 (i.1:Nat))≠a.1:=by decide
theorem Zblt {qa:List Atom} {i:Nat} (hi:i<4):Zq qa (shlI 1 i)=[]:=by
 cases h:Zq qa (shlI 1 i) with
 | nil=>rfl
 | cons A l =>
  exfalso
  obtain ⟨h1,h2,h3,_⟩:=Zni (qa:=qa) (M:=shlI 1 i) (A:=A) (by rw [h];simp)
  have h16:M16 (shlI 1 (i:Nat)):=(f_shl ⟨i,hi⟩ ⟨0,by omega⟩).2
  obtain ⟨a,rfl⟩:=m16 (x:=A) (by omega)
  exact Zbls ⟨i,hi⟩ a (by omega) h2 h3
theorem flat_ne {E:List Za} (h:E≠[]):flat (E.map Za.c)=false:=by
 cases E with
 | nil=>exact absurd rfl h
 | cons e E=>simp [flat,Za.c,scalar]
theorem Zblu {qa:List Atom} {n:Int} (hv:Zn n qa=true) {M A:Int} (hM:MQ qa M) (h:A∈Zq qa M):andNotI M A=M - A:=by
 obtain ⟨h1,h2,h3,_⟩:=Zni h
 have h16:=(hM.m16 hv).1
 obtain ⟨a,rfl⟩:=m16 (x:=A) (by omega)
 obtain ⟨b,rfl⟩:=m16 h16
 exact (f_diff a b h3).1
theorem l_copyT (fr:Bool) (out:List Za) (hl:out.length≤1000) (hs:∀ e∈out,e.Plan.Steps.length≤1000):∀ i,i≤out.length→Zlm fr out out.length i=some (.own 0,[.arr 145 4 fr (out.map Za.c)]):=by
 refine down _ ?_ ?_
 ·refine Z37 _ _ _ _ _ ?_
  rw [if_neg (by omega)]
 ·intro i hi ih
  have h4:=inc64 (i:=i) (by omega)
  have hw:w ((i:Int)+1)=((i+1:Nat):Int):=by rw [show w ((i:Int)+1)=(i:Int)+1 from h4];simp
  refine Z37 _ _ _ _ _ ?_
  rw [if_pos (by omega),hw]
  refine ⟨by omega,out[i],by rw [Int.toNat_natCast];exact List.getElem?_eq_getElem hi,_,Zqm _ (hs _ (List.getElem_mem hi)),?_⟩
  rw [Int.toNat_natCast]
  have:out.set i (⟨out[i].Mask,out[i].Order,out[i].Cost,(⟨out[i].Plan.Steps⟩:Plan)⟩:Za)=out:=Znh (List.getElem?_eq_getElem hi)
  rw [this]
  exact ih
theorem Inv.steps {m:Zd} {q:Zc} {sizes:List Int} {done:List Int} {out:List Za} (h:Inv m sizes q done out) (h16:∀ M∈done,M16 M):∀ e∈out,e.Plan.Steps.length≤1000:=by
 intro e he
 have hd:=h.only e he
 have hh:=(h.held _ hd).len e (List.mem_filter.2 ⟨he,by simp⟩)
 have:=Zcl (h16 _ hd)
 omega
theorem conn_16 {n:Int} {qa:List Atom} (hv:Zn n qa=true):∀ M∈Zo qa,M16 M:=by
 intro M hM
 obtain ⟨h1,h2,_⟩:=Zh8.1 hM
 exact (MQ.m16 hv ⟨by omega,h2⟩).1
theorem Znk {m:Zd} {q:Zc} {sizes:List Int} (b:Base m q sizes) {i:Nat} (hi:i≤(Zo q.Atoms).length):∀ e∈Z0 m sizes q i,e.Plan.Steps.length≤1000 :=
 (Zkk b i hi).steps fun M hM=>conn_16 b.hv M (List.mem_of_mem_take hM)
theorem i_table {m:Zd} {q:Zc} {sizes:List Int} (b:Base m q sizes):∀ i,i≤(Zo q.Atoms).length→∀ (table:List (List Za)) (fr fr1:Bool),table.length=2 ^ q.Atoms.length→(∀ M∈(Zo q.Atoms).take i,table[M.toNat]?=some (ofM (Z0 m sizes q i) M))→(i=(Zo q.Atoms).length→fr1=false) →
  Zf2 m q fr table fr1 (Z0 m sizes q i) (Zo q.Atoms) sizes (Zo q.Atoms).length i=some (.own 0,[.arr 145 4 false ((Z0 m sizes q (Zo q.Atoms).length).map Za.c)]):=by
 have hcl:=Zqt b.hv
 refine down _ ?_ ?_
 ·intro table fr fr1 _ _ hf
  rw [hf rfl]
  refine Z35 _ _ _ _ _ _ _ _ _ _ _ ?_
  rw [if_neg (by omega)]
  exact l_copyT false _ (by have:=Zh9 b (Nat.le_refl (Zo q.Atoms).length);omega) (Znk b (Nat.le_refl _)) 0 (Nat.zero_le _)
 ·intro i hi ih table fr fr1 htl hT hf
  have h4:=inc64 (i:=i) (by omega)
  have hw:w ((i:Int)+1)=((i+1:Nat):Int):=by rw [show w ((i:Int)+1)=(i:Int)+1 from h4];simp
  obtain ⟨c1,c2,c3,c4⟩:=Zkj hi
  have hinv:=Zkk b i (by omega)
  have hstep:=Z7t b hinv c1 c2 c3 c4 (Zxf (Znj _) hi)
  have hheld:=Zxe b hinv c1 c2 c3 c4
  have hnext:Z0 m sizes q (i+1)=Z0 m sizes q i++entM m sizes q (Z0 m sizes q i) (Zo q.Atoms)[i]:=by
   rw [Z0]
   congr 2
   simp [List.getD,hi]
  have hlen:=Zh9 b (i:=i) (by omega)
  have h16:=(c1.m16 b.hv).1
  have hpw:=Zec q.Atoms.length
  have hMt:(Zo q.Atoms)[i].toNat<table.length:=by have:=c1.1;have:=c1.2;omega
  have key:∀ f1 E,E=entM m sizes q (Z0 m sizes q i) (Zo q.Atoms)[i]→Zf2 m q f1 (table.set (Zo q.Atoms)[i].toNat E) (fr1 && flat (E.map Za.c)) (Z0 m sizes q i++E) (Zo q.Atoms) sizes (Zo q.Atoms).length (w ((i:Int)+1))=some (.own 0,[.arr 145 4 false ((Z0 m sizes q (Zo q.Atoms).length).map Za.c)]):=by
   intro f1 E hE
   subst hE
   rw [hw,flat_ne hheld.ne,Bool.and_false,← hnext]
   refine ih _ _ _ (by rw [List.length_set];exact htl) ?_ (fun _=>rfl)
   intro A hA
   rw [List.take_succ_eq_append_getElem hi] at hA
   rcases List.mem_append.1 hA with hA | hA
   ·have hne:A≠(Zo q.Atoms)[i]:=fun h=>Zxf (Znj _) hi (h ▸ hA)
    have hA0:=(Zh8.1 (List.mem_of_mem_take hA)).1
    have:=c1.1
    rw [List.getElem?_set_ne (by omega),hT A hA,hnext,hstep.2.1 A hA]
   ·rw [List.mem_singleton.1 hA,List.getElem?_set_self hMt,hnext,hstep.2.2]
  have hget:(Zo q.Atoms)[i]?=some (Zo q.Atoms)[i]:=List.getElem?_eq_getElem hi
  generalize (Zo q.Atoms)[i]=M at *
  have hic:Zbq q.Ze q.Atoms M=true:=by
   unfold Zbq
   rw [b.hv,c3,Zeb b.hv]
   have h1:=c1.1
   have h2:=c1.2
   simp [inR,c2,h1]
   omega
  have e1:(Zb5 q M).map Prod.fst=Zq q.Atoms M:=by
   unfold Zb5
   rw [List.map_map]
   exact List.map_id _
  have e2:(Zb5 q M).length=(Zq q.Atoms M).length:=by unfold Zb5;rw [List.length_map]
  have hps:(Zb5 q M).length≤100:=by rw [e2];have:=Zw6 (qa:=q.Atoms) h16;omega
  have hok:∀ p∈Zb5 q M,Z7n m q sizes (Z0 m sizes q i) table M p.1 p.2:=by
   intro p hp
   have o:=Zxd b hinv c1 c3 c4 p hp
   unfold Zb5 at hp
   rw [List.mem_map] at hp
   obtain ⟨A,hA,rfl⟩:=hp
   have hd:=Zblu b.hv c1 hA
   obtain ⟨q1,q2⟩:=Zxc c1 hA
   refine ⟨o,hd,?_,hT A (c4 A hA).1,hT _ (c4 A hA).2⟩
   rw [hd]
   exact Zbkw q b.hq b.hv A (M - A) q1 q2
  have hgo:∀ a0 a1 a2 a3 a4:Za,((Zb5 q M).foldl (oneJ m sizes M (Z0 m sizes q i)) [a0,a1,a2,a3,a4]).filter sm=entM m sizes q (Z0 m sizes q i) M →
    Zen m q fr table fr1 (Z0 m sizes q i) m q sizes M a0 a1 a2 a3 a4 (sm a0) (sm a1) (sm a2) (sm a3) (sm a4) (Zo q.Atoms) (Zq q.Atoms M) sizes M (Zo q.Atoms).length i (Zq q.Atoms M).length 0=some (.own 0,[.arr 145 4 false ((Z0 m sizes q (Zo q.Atoms).length).map Za.c)]):=by
   intro a0 a1 a2 a3 a4 hE
   have:=i_splits b h16 c2 table hMt (Z0 m sizes q i) (by omega) (Zb5 q M) hps hok fr fr1 (Zo q.Atoms) (Zo q.Atoms).length i _ 0 (Nat.zero_le _) a0 a1 a2 a3 a4 (fun f1 E h=>key f1 E (by rw [List.drop_zero,hE] at h;exact h.symm))
   rw [e1,e2] at this
   exact this
  refine Z35 _ _ _ _ _ _ _ _ _ _ _ ?_
  rw [if_pos (by omega)]
  refine ⟨by omega,M,by rw [Int.toNat_natCast];exact hget,.inr ⟨Zck M,Zbki h16,?_⟩⟩
  cases ho:oneB (ofI M) with
  | true =>
   obtain ⟨j,hj4,ha,hMj⟩:=Zw7 h16 ho
   have hent:=Zw9 (m:=m) (sizes:=sizes) (q:=q) (out:=Z0 m sizes q i) ha
   have hE:=hheld
   rw [hent] at hE
   have hlen1:=hE.len _ (List.mem_singleton.2 rfl)
   have hmk:=hE.makes _ (List.mem_singleton.2 rfl)
   have hod:=hE.ord _ (List.mem_singleton.2 rfl)
   have hjl:j<q.Atoms.length:=by
    have h2:=c1.2
    have e:shlI 1 (j:Nat)=2 ^ j:=by
     have:j=0∨j=1∨j=2∨j=3:=by omega
     rcases this with rfl | rfl | rfl | rfl <;> decide
    rw [hMj,e] at h2
    have h3:(2:Int) ^ j<2 ^ q.Atoms.length:=h2
    rw [← Zec,← Zec] at h3
    exact (Nat.pow_lt_pow_iff_right (by omega)).1 (by omega:2 ^ j<2 ^ q.Atoms.length)
   have hvar:=Zif b.hv _ (List.getElem_mem hjl)
   obtain ⟨v,vs,hvs⟩:∃ v vs,q.Atoms[j].Vars=v::vs:=by
    cases hh:q.Atoms[j].Vars with
    | nil=>rw [hh] at hvar;simp at hvar
    | cons v vs=>exact ⟨v,vs,rfl⟩
   have hv3:0≤v∧v≤3:=by
    have:=Zn6 b.hv _ (List.getElem_mem hjl) v (by rw [hvs];simp)
    have hn:=Zda b.hv
    simp [inR] at this
    omega
   have hse:Zgm m sizes q M (j:Int)=⟨M,v,Z6 m.Scan (szAt sizes M) 0 (szAt sizes M),⟨[⟨1,j,0⟩]⟩⟩:=by
    simp [Zgm,List.getElem?_eq_getElem hjl,hvs]
   rw [hse] at hmk
   have hcost:=Z3.cost hmk b.hv (by simp) b.hsv
   obtain ⟨t,ht,hx⟩:=Z68 m b.hm q b.hq sizes b.hs M c2 zE zE zE zE zE [⟨1,j,0⟩] v (by omega) _ hcost
   rw [show sm zE=false from rfl] at hx
   have hnx:=hgo _ _ _ _ _ (by
    have hsp:Zb5 q M=[]:=by unfold Zb5;rw [hMj,Zblt hj4];rfl
    rw [hsp,List.foldl_nil,hent,hse]
    exact Zblr (c:=Z6 m.Scan (szAt sizes M) 0 (szAt sizes M)) (x:=[⟨1,j,0⟩]) c2 hv3)
   rw [ha,if_pos (by simp)]
   refine ⟨(j:Int),rfl,_,Zbkz _,by omega,q.Atoms[j],by rw [Int.toNat_natCast];exact List.getElem?_eq_getElem hjl,v,by rw [hvs];rfl,?_⟩
   rcases ht with rfl | rfl
   ·exact .inl ⟨m,q,sizes,M,_,_,_,_,_,_,_,_,_,_,hx,.inr ⟨_,Zwq q b.hq M hic,hnx⟩⟩
   ·exact .inr ⟨m,q,sizes,M,_,_,_,_,_,_,_,_,_,_,_,hx,.inr ⟨_,Zwq q b.hq M hic,hnx⟩⟩
  | false =>
   have hne:=Zw8 h16 ho
   rw [if_neg (by omega)]
   have hnx:=hgo zE zE zE zE zE (by rw [Zxa hne];rfl)
   rw [show sm zE=false from rfl] at hnx
   exact .inr ⟨_,Zwq q b.hq M hic,hnx⟩
theorem Zblv {m:Zd} {q:Zc} {sizes:List Int} (b:Base m q sizes) (ha:Zbv m):Zi5 m q sizes=some (.own 0,[.arr 145 4 false ((Z0 m sizes q (Zo q.Atoms).length).map Za.c)]):=by
 have hf:=Zeb b.hv
 have hpw:=Zec q.Atoms.length
 have h16:2 ^ q.Atoms.length≤16:=Nat.pow_le_pow_right (by omega:0<2) (Zbt b.hv).2
 have hp1:1≤2 ^ q.Atoms.length:=Nat.one_le_two_pow
 have e1:w (Zr q.Ze q.Atoms+1)=2 ^ q.Atoms.length:=by rw [w_id (by omega) (by omega)];omega
 have hr:room=140737488355328:=rfl
 refine Zbgu _ _ _ _ ⟨_,Z59 m b.hm,?_⟩
 rw [if_pos (by simpa using ha)]
 refine ⟨_,Z6o q b.hq sizes b.hs,?_⟩
 rw [if_pos b.hsv]
 refine ⟨_,Zgg q b.hq,?_⟩
 rw [e1]
 have e2:((2:Int) ^ q.Atoms.length).toNat=2 ^ q.Atoms.length:=by omega
 rw [e2]
 refine ⟨by omega,by omega,by rw [hr];omega,by omega,_,Zbkb q b.hq b.hv,?_⟩
 refine i_table b 0 (Nat.zero_le _) _ true true (by simp) (by simp) ?_
 intro h
 exfalso
 have:(1:Int)∈Zo q.Atoms:=by
  refine Zh8.2 ⟨by omega,?_,?_⟩
  ·have:2 ^ 1≤2 ^ q.Atoms.length:=Nat.pow_le_pow_right (by omega) (Zbt b.hv).1
   omega
  ·have h1:=Zne b.hv (true,false,false,false)
   rw [show toI (true,false,false,false)=1 from rfl] at h1
   rw [h1]
   have key:∀ a b c d e f:Bool,∀ n:Fin 5,Zb3 ⟨a,b,c,d,e,f⟩ n.1 (true,false,false,false)=true:=by decide
   exact key _ _ _ _ _ _ ⟨q.Atoms.length,by have:=(Zbt b.hv).2;omega⟩
 rw [List.length_eq_zero_iff.1 h.symm] at this
 cases this
def shOf (q:Zc) (M:Int):List (List Int):=(Zq q.Atoms M).map fun A=>Zee q A (M - A)
def Zct (q:Zc) (M:Int):Zu:=⟨M,Zq q.Atoms M,shOf q M⟩
def shapes (q:Zc):List Zu:=(Zo q.Atoms).map (Zct q)
theorem Zblw {q:Zc} (hv:Zn q.Ze q.Atoms=true) {M:Int} (c1:MQ q.Atoms M) (c2:M≠0) (c3:conn q.Atoms M=true):Zbq q.Ze q.Atoms M=true:=by
 unfold Zbq
 rw [hv,c3,Zeb hv]
 have h1:=c1.1
 have h2:=c1.2
 simp [inR,c2,h1]
 omega
section
variable (q:Zc) (hq:LeQ q) (hv:Zn q.Ze q.Atoms=true)
include hq hv
theorem Z7v {M:Int} (hM:MQ q.Atoms M) {A:Int} (hA:A∈Zq q.Atoms M):Zjr q A (w (M - A))=some (.own 0,[.arr 3 1 true ((Zee q A (M - A)).map ic)]):=by
 obtain ⟨q1,q2⟩:=Zxc hM hA
 have h16:=(q2.m16 hv).1
 rw [w_id (by omega) (by omega)]
 exact Zbky q hq hv A (M - A) q1 q2
theorem Zblx (out:List Zu) (hout:out.length≤1000) {i:Nat} (hi:i<(Zo q.Atoms).length) (r:AV×List Blk) (h:Zf9 q (out++[Zct q (Zo q.Atoms)[i]]) (Zo q.Atoms) (w ((i:Int)+1))=some r) :
  ∀ k,k≤(Zq q.Atoms (Zo q.Atoms)[i]).length→Zmf q out (Zo q.Atoms) (Zo q.Atoms)[i] (Zq q.Atoms (Zo q.Atoms)[i]) ((shOf q (Zo q.Atoms)[i]).take k) i k=some r:=by
 obtain ⟨c1,c2,c3,c4⟩:=Zkj hi
 have hsl:=Zw6 (qa:=q.Atoms) (c1.m16 hv).1
 have hlen:(shOf q (Zo q.Atoms)[i]).length=(Zq q.Atoms (Zo q.Atoms)[i]).length:=by simp [shOf]
 refine down _ ?_ ?_
 ·refine Z5b _ _ _ _ _ _ _ _ _ ?_
  rw [if_neg (by omega)]
  refine ⟨by omega,?_⟩
  rw [← hlen,List.take_length]
  exact h
 ·intro k hk ih
  have h4:=inc64 (i:=k) (by omega)
  have hw:w ((k:Int)+1)=((k+1:Nat):Int):=by rw [show w ((k:Int)+1)=(k:Int)+1 from h4];simp
  refine Z5b _ _ _ _ _ _ _ _ _ ?_
  rw [if_pos (by omega),hw]
  refine ⟨by omega,_,by rw [Int.toNat_natCast];exact List.getElem?_eq_getElem hk,by omega,_,by rw [Int.toNat_natCast];exact List.getElem?_eq_getElem hi,_,Z7v q hq hv c1 (List.getElem_mem hk),?_,?_⟩
  ·rw [List.length_take];omega
  ·rw [List.take_succ_eq_append_getElem (by omega)] at ih
   simpa [shOf] using ih
theorem Zbly (out:List Zu) (hout:out.length≤1000) {i:Nat} (hi:i<(Zo q.Atoms).length) (r:AV×List Blk) (h:Zf9 q (out++[Zct q (Zo q.Atoms)[i]]) (Zo q.Atoms) (w ((i:Int)+1))=some r) :
  Zpr q out (Zo q.Atoms) (Zo q.Atoms)[i] (Zq q.Atoms (Zo q.Atoms)[i]) i 0=some r:=by
 obtain ⟨c1,c2,c3,c4⟩:=Zkj hi
 refine Zbia _ _ _ _ _ _ _ _ ?_
 by_cases h0:(Zq q.Atoms (Zo q.Atoms)[i]).length=0
 ·rw [if_neg (by omega)]
  refine ⟨by omega,?_⟩
  have:Zct q (Zo q.Atoms)[i]=⟨(Zo q.Atoms)[i],Zq q.Atoms (Zo q.Atoms)[i],[]⟩:=by
   unfold Zct shOf
   rw [List.length_eq_zero_iff.1 h0];rfl
  rw [← this]
  exact h
 ·rw [if_pos (by omega)]
  have hk:0<(Zq q.Atoms (Zo q.Atoms)[i]).length:=by omega
  have:=Zblx q hq hv out hout hi r h 1 (by omega)
  refine ⟨by omega,_,List.getElem?_eq_getElem hk,by omega,_,by rw [Int.toNat_natCast];exact List.getElem?_eq_getElem hi,_,Z7v q hq hv c1 (List.getElem_mem hk),?_⟩
  rw [show w ((0:Int)+1)=((1:Nat):Int) from by decide]
  have e:(shOf q (Zo q.Atoms)[i]).take 1=[Zee q (Zq q.Atoms (Zo q.Atoms)[i])[0] ((Zo q.Atoms)[i] - (Zq q.Atoms (Zo q.Atoms)[i])[0])]:=by
   rw [List.take_succ_eq_append_getElem (by simp [shOf];omega)]
   simp [shOf]
  rw [e] at this
  exact this
theorem l_shapes:∀ i,i≤(Zo q.Atoms).length→Zf9 q ((shapes q).take i) (Zo q.Atoms) i=some (.own 0,[.arr 257 3 true ((shapes q).map Zu.c)]):=by
 have hcl:=Zqt hv
 have hlen:(shapes q).length=(Zo q.Atoms).length:=by simp [shapes]
 refine down _ ?_ ?_
 ·refine Z5a _ _ _ _ _ ?_
  rw [if_neg (by omega),← hlen,List.take_length]
 ·intro i hi ih
  have h4:=inc64 (i:=i) (by omega)
  have hw:w ((i:Int)+1)=((i+1:Nat):Int):=by rw [show w ((i:Int)+1)=(i:Int)+1 from h4];simp
  obtain ⟨c1,c2,c3,c4⟩:=Zkj hi
  refine Z5a _ _ _ _ _ ?_
  rw [if_pos (by omega)]
  refine ⟨by omega,_,by rw [Int.toNat_natCast];exact List.getElem?_eq_getElem hi,_,Zbkg q hq _ (Zblw hv c1 c2 c3),?_⟩
  refine Zbly q hq hv _ (by rw [List.length_take];omega) hi _ ?_
  rw [hw]
  rw [List.take_succ_eq_append_getElem (by omega)] at ih
  simpa [shapes] using ih
theorem Zxg:Zfi q=some (.own 0,[.arr 257 3 true ((shapes q).map Zu.c)]) :=
 Zbib _ _ ⟨_,Zbkd q hq hv,by simpa using l_shapes q hq hv 0 (Nat.zero_le _)⟩
end
theorem f_one:∀ a:Fin 16,1≤a.1→(andI (a.1:Int) (w ((a.1:Int) - 1))=0↔oneB (ofI (a.1:Int))=true):=by decide
theorem Z7w {α β:Type} (f:α→β):∀ l:List α,l.zip (l.map f)=l.map fun a=>(a,f a)
 | []=>rfl
 | a::l=>by simp [Z7w f l]
theorem s_table {m:Zd} {q:Zc} {sizes:List Int} (b:Base m q sizes):∀ i,i≤(Zo q.Atoms).length→∀ fr:Bool,∃ fr',Zjz (shapes q) sizes m q fr (Z0 m sizes q i) i=some (.own 2,[.arr 257 3 true ((shapes q).map Zu.c),.arr 3 1 true (sizes.map ic),.arr 145 4 fr' ((Z0 m sizes q (Zo q.Atoms).length).map Za.c)]):=by
 have hcl:=Zqt b.hv
 have hlen:(shapes q).length=(Zo q.Atoms).length:=by simp [shapes]
 refine down _ ?_ ?_
 ·intro fr
  refine ⟨fr,Zwj _ _ _ _ _ _ _ _ ?_⟩
  rw [if_neg (by omega)]
 ·intro i hi ih fr
  have h4:=inc64 (i:=i) (by omega)
  have hw:w ((i:Int)+1)=((i+1:Nat):Int):=by rw [show w ((i:Int)+1)=(i:Int)+1 from h4];simp
  obtain ⟨c1,c2,c3,c4⟩:=Zkj hi
  have hinv:=Zkk b i (by omega)
  have hheld:=Zxe b hinv c1 c2 c3 c4
  have hnext:Z0 m sizes q (i+1)=Z0 m sizes q i++entM m sizes q (Z0 m sizes q i) (Zo q.Atoms)[i]:=by
   rw [Z0]
   congr 2
   simp [List.getD,hi]
  have hol:=Zh9 b (i:=i) (by omega)
  have h16:=(c1.m16 b.hv).1
  have hget:(shapes q)[i]?=some (Zct q (Zo q.Atoms)[i]):=by
   unfold shapes
   rw [List.getElem?_map,List.getElem?_eq_getElem hi];rfl
  rw [hnext] at ih
  generalize (Zo q.Atoms)[i]=M at *
  have hz:=Zbl b.hsv c1
  have h1:(andI M (w (M - 1))=0↔oneB (ofI M)=true):=by
   have q1:=c1.1
   obtain ⟨a,rfl⟩:=m16 h16
   exact f_one a (by omega)
  have hle:=hheld.le
  cases ho:oneB (ofI M) with
  | true =>
   obtain ⟨j,hj4,ha,hMj⟩:=Zw7 h16 ho
   have hent:=Zw9 (m:=m) (sizes:=sizes) (q:=q) (out:=Z0 m sizes q i) ha
   have hjl:j<q.Atoms.length:=by
    have h2:=c1.2
    have e:shlI 1 (j:Nat)=2 ^ j:=by
     have:j=0∨j=1∨j=2∨j=3:=by omega
     rcases this with rfl | rfl | rfl | rfl <;> decide
    rw [hMj,e] at h2
    have h3:(2:Int) ^ j<2 ^ q.Atoms.length:=h2
    rw [← Zec,← Zec] at h3
    exact (Nat.pow_lt_pow_iff_right (by omega)).1 (by omega:2 ^ j<2 ^ q.Atoms.length)
   have hvar:=Zif b.hv _ (List.getElem_mem hjl)
   obtain ⟨v,vs,hvs⟩:∃ v vs,q.Atoms[j].Vars=v::vs:=by
    cases hh:q.Atoms[j].Vars with
    | nil=>rw [hh] at hvar;simp at hvar
    | cons v vs=>exact ⟨v,vs,rfl⟩
   have hse:Zgm m sizes q M (j:Int)=⟨M,v,Z6 m.Scan (szAt sizes M) 0 (szAt sizes M),⟨[⟨1,j,0⟩]⟩⟩:=by
    simp [Zgm,List.getElem?_eq_getElem hjl,hvs]
   rw [hent,hse] at ih
   obtain ⟨fr',hr⟩:=ih fr
   refine ⟨fr',Zwj _ _ _ _ _ _ _ _ ?_⟩
   rw [if_pos (by omega)]
   refine ⟨by omega,_,by rw [Int.toNat_natCast];exact hget,?_⟩
   have h1':andI (Zct q M).mask (w ((Zct q M).mask - 1))=0:=h1.2 ho
   rw [if_pos h1',hw]
   refine ⟨_,Zbkk h16,(j:Int),by rw [show Zck (Zct q M).mask=[(j:Int)] from ha];rfl,by omega,q.Atoms[j],by rw [Int.toNat_natCast];exact List.getElem?_eq_getElem hjl,v,by rw [hvs];rfl,hz.1,_,hz.2,_,Zd9 _ b.hm.1 _ _ _,_,Zbk0 _,by omega,?_⟩
   exact hr
  | false =>
   have hne:=Zw8 h16 ho
   have ok:=Zxd b hinv c1 c3 c4
   have hzip:(Zct q M).Zq.zip (Zct q M).shared=Zb5 q M:=Z7w _ _
   have hsl:=Zw6 (qa:=q.Atoms) h16
   obtain ⟨f1,hJ⟩:=Zblk m b.hm b.hg sizes b.hcl q.Atoms fr (Z0 m sizes q i) (by omega) (Zct q M) hz h16 (by show 0<M;have:=c1.1;omega) (by simp [Zct,shOf]) (by show (Zq q.Atoms M).length≤100;omega) (by rw [hzip];exact ok)
   rw [hzip] at hJ
   have hent:=Zxa (m:=m) (sizes:=sizes) (q:=q) (out:=Z0 m sizes q i) hne
   rw [hent] at ih hle
   obtain ⟨fr',hr⟩:=ih (fr && flat (((Zki m sizes M (Z0 m sizes q i) (Zb5 q M)).filter sm).map Za.c))
   refine ⟨fr',Zwj _ _ _ _ _ _ _ _ ?_⟩
   rw [if_pos (by omega)]
   refine ⟨by omega,_,by rw [Int.toNat_natCast];exact hget,?_⟩
   have h1':¬ andI (Zct q M).mask (w ((Zct q M).mask - 1))=0:=fun h=>by have:=h1.1 h;rw [ho] at this;cases this
   rw [if_neg h1',hw]
   exact ⟨_,_,hJ,by show (Z0 m sizes q i).length+((Zki m sizes M (Z0 m sizes q i) (Zb5 q M)).filter sm).length≤68719476736;omega,hr⟩
theorem Zxh {m:Zd} {q:Zc} {sizes:List Int} (b:Base m q sizes):∃ fr',Zgb (shapes q) sizes m q=some (.own 2,[.arr 257 3 true ((shapes q).map Zu.c),.arr 3 1 true (sizes.map ic),.arr 145 4 fr' ((Z0 m sizes q (Zo q.Atoms).length).map Za.c)]):=by
 obtain ⟨fr',h⟩:=s_table b 0 (Nat.zero_le _) true
 exact ⟨fr',Zbin _ _ _ _ _ h⟩
theorem Zblz (a b c:Int) (fr:Bool) (l:List Za) (hl:l.length≤1000):∀ i,i≤l.length→∀ best,Zi6 a b c best fr l l.length i=some (.agg (((l.drop i).foldl Zca best).c.map .t),[.arr 145 4 fr (l.map Za.c)]):=by
 refine down _ ?_ ?_
 ·intro best
  refine Z4a _ _ _ _ _ _ _ _ _ ?_
  rw [if_neg (by omega)];simp
 ·intro i hi ih best
  have h4:=inc64 (i:=i) (by omega)
  refine Z4a _ _ _ _ _ _ _ _ _ ?_
  rw [if_pos (by omega),List.drop_eq_getElem_cons hi,List.foldl_cons]
  refine ⟨by omega,l[i],by rw [Int.toNat_natCast];exact List.getElem?_eq_getElem hi,?_⟩
  rw [show w ((i:Int)+1)=((i+1:Nat):Int) from by rw [show w ((i:Int)+1)=(i:Int)+1 from h4];simp]
  by_cases e:l[i].Cost<best.Cost
  ·rw [if_pos e,show Zca best l[i]=l[i] by simp [Zca,e]];exact ih _
  ·rw [if_neg e,show Zca best l[i]=best by simp [Zca,e]];exact ih _
theorem Zbl0 (fr:Bool) (l:List Za) (h0:l≠[]) (hl:l.length≤1000):Zow fr l=some (.agg ((Zx l).c.map .t),[.arr 145 4 fr (l.map Za.c)]):=by
 cases l with
 | nil=>exact absurd rfl h0
 | cons e l =>
  refine Zbgv _ _ _ ⟨e,rfl,?_⟩
  have:=Zblz 0 0 0 fr (e::l) hl 0 (Nat.zero_le _) e
  simpa [Zx] using this
theorem l_best (l:List Za) (mask:Int) (hl:l.length≤1000) (hne:ofM l mask≠[]) (hs:∀ e∈l,e.Plan.Steps.length≤1000):∀ i,i≤l.length→∀ fr,Zi7 0 0 0 fr (ofM (l.take i) mask) mask l l.length i=some (.tup [.agg [I (Zx (ofM l mask)).Mask,I (Zx (ofM l mask)).Order,I (Zx (ofM l mask)).Cost,.own 0],Bo true],[.arr 194 3 true ((Zx (ofM l mask)).Plan.Steps.map Zb.c)]):=by
 refine down _ ?_ ?_
 ·intro fr
  refine Z4b _ _ _ _ _ _ _ _ _ _ ?_
  rw [if_neg (by omega),List.take_length]
  have h1:(ofM l mask).length≠0:=fun h=>hne (List.length_eq_zero_iff.1 h)
  have h2:(ofM l mask).length≤l.length:=List.length_filter_le _ _
  rw [if_neg (by omega)]
  have hmem:=Zwx hne
  exact ⟨_,Zbl0 fr _ hne (by omega),_,Zqm _ (hs _ (List.mem_filter.1 hmem).1),rfl⟩
 ·intro i hi ih fr
  have h4:=inc64 (i:=i) (by omega)
  have hw:w ((i:Int)+1)=((i+1:Nat):Int):=by rw [show w ((i:Int)+1)=(i:Int)+1 from h4];simp
  rw [Z69 l mask hi] at ih
  have h2:(ofM (l.take i) mask).length≤(l.take i).length:=List.length_filter_le _ _
  rw [List.length_take] at h2
  refine Z4b _ _ _ _ _ _ _ _ _ _ ?_
  rw [if_pos (by omega),hw]
  refine ⟨by omega,l[i],by rw [Int.toNat_natCast];exact List.getElem?_eq_getElem hi,?_⟩
  by_cases e:l[i].Mask=mask
  ·rw [if_pos e]
   rw [if_pos e] at ih
   exact ⟨by omega,ih false⟩
  ·rw [if_neg e]
   rw [if_neg e,List.append_nil] at ih
   exact ih fr
theorem Zbl1 (l:List Za) (mask:Int) (hl:l.length≤1000) (hne:ofM l mask≠[]) (hs:∀ e∈l,e.Plan.Steps.length≤1000):Zln l mask=some (.tup [.agg [I (Zx (ofM l mask)).Mask,I (Zx (ofM l mask)).Order,I (Zx (ofM l mask)).Cost,.own 0],Bo true],[.arr 194 3 true ((Zx (ofM l mask)).Plan.Steps.map Zb.c)]) :=
 Zbgw _ _ _ (by simpa [ofM] using l_best l mask hl hne hs 0 (Nat.zero_le _) true)
theorem Zxi (l:List Za) (mask:Int) (hl:l.length≤1000) (hne:ofM l mask≠[]) (hs:∀ e∈l,e.Plan.Steps.length≤1000):Zc4 l mask=some (.tup [.agg [I (Zx (ofM l mask)).Mask,I (Zx (ofM l mask)).Order,I (Zx (ofM l mask)).Cost,.own 0],Bo true],[.arr 194 3 true ((Zx (ofM l mask)).Plan.Steps.map Zb.c)]):=by
 obtain ⟨k1,k2⟩:=Zqq hne
 have hmem:=Zwx hne
 have:=hs _ (List.mem_filter.1 hmem).1
 refine Zbip _ _ _ ⟨_,x_low l mask hl,?_⟩
 rw [if_neg (by omega)]
 exact ⟨k1,_,k2,by omega,rfl⟩
def tab (m:Zd) (q:Zc) (sizes:List Int):List Za:=Z0 m sizes q (Zo q.Atoms).length
def opt (m:Zd) (q:Zc) (sizes:List Int):Za:=Zx (ofM (tab m q sizes) (Zr q.Ze q.Atoms))
theorem Z7x {q:Zc} (hv:Zn q.Ze q.Atoms=true):MQ q.Atoms (Zr q.Ze q.Atoms):=by
 have:=Zeb hv
 have:=Zih hv
 exact ⟨by omega,by omega⟩
theorem Znl {m:Zd} {q:Zc} {sizes:List Int} (b:Base m q sizes) (hc:Zbq q.Ze q.Atoms (Zr q.Ze q.Atoms)=true):Held m sizes q.Atoms (Zr q.Ze q.Atoms) (ofM (tab m q sizes) (Zr q.Ze q.Atoms)):=by
 refine (Zkk b _ (Nat.le_refl _)).held _ ?_
 rw [List.take_length]
 have hp:=Zih b.hv
 have hq:=Z7x b.hv
 unfold Zbq at hc
 simp only [Bool.and_eq_true] at hc
 exact Zh8.2 ⟨by omega,hq.2,hc.2⟩
theorem Zbl2 {m:Zd} {q:Zc} {sizes:List Int} (b:Base m q sizes) (ha:Zbv m) (hc:Zbq q.Ze q.Atoms (Zr q.Ze q.Atoms)=true):Zlo m q sizes=some (.tup [.agg [I (opt m q sizes).Mask,I (opt m q sizes).Order,I (opt m q sizes).Cost,.own 0],Bo true],[.arr 194 3 true ((opt m q sizes).Plan.Steps.map Zb.c)]):=by
 have hl:=Zh9 b (Nat.le_refl (Zo q.Atoms).length)
 refine Zbgx _ _ _ _ (.inr ⟨_,_,Zblv b ha,_,Zgg q b.hq,.inr ⟨_,_,_,_,Zbl1 _ _ (by omega) (Znl b hc).ne (Znk b (Nat.le_refl _)),rfl⟩⟩)
theorem Zbl3 {m:Zd} {q:Zc} {sizes:List Int} (b:Base m q sizes) (ha:Zbv m) (hc:Zbq q.Ze q.Atoms (Zr q.Ze q.Atoms)=true):Zox m q sizes=some (I (opt m q sizes).Cost,[]) :=
 Zbgy _ _ _ _ (.inr ⟨_,_,_,_,Zbl2 b ha hc,rfl⟩)
theorem Zqu {m:Zd} {q:Zc} {l:List Int} (hl:l.length≤4294967296) (h:Zy l=true) (b:Base m q (Zt l)) (ha:Zbv m) (hc:Zbq q.Ze q.Atoms (Zr q.Ze q.Atoms)=true):Zf4 m q l=some (I (opt m q (Zt l)).Cost,[]):=by
 have hb:=Z6s l hl
 rw [h,if_pos rfl] at hb
 exact Zbgz _ _ _ _ (.inl ⟨_,hb,_,Zbl3 b ha hc,rfl⟩)
theorem Zd4 {l:List Int} (h:Zy l=true):l.length≤16:=by
 simp only [Zy,Bool.and_eq_true,decide_eq_true_eq] at h
 omega
theorem class_le {a:Int} (h:0≤a∧a≤7):inR (Zbi a) 0 4096=true:=by
 have:a=0∨a=1∨a=2∨a=3∨a=4∨a=5∨a=6∨a=7:=by omega
 rcases this with rfl | rfl | rfl | rfl | rfl | rfl | rfl | rfl <;> decide
theorem base_of {m:Zd} (hm:LeM m) (ha:Zbv m) {q:Zc} (hq:LeQ q) (hv:Zn q.Ze q.Atoms=true) {l:List Int} (h:Zy l=true) (hl:(l.length:Int)=Zr q.Ze q.Atoms+1):Base m q (Zt l):=by
 have hll:(l.length:Int)≤16:=by simp only [Zy,Bool.and_eq_true,decide_eq_true_eq] at h;exact h.2
 have hc:=Zbla h
 refine ⟨hm,ha.2.1,hq,hv,by simp [Zt];omega,hc,?_⟩
 unfold Zbn Zgi
 rw [hv]
 have:(Zt l).all (fun x=>inR x 0 4096)=true:=by
  rw [List.all_eq_true]
  intro s hs
  obtain ⟨a,h1,rfl⟩:=hc s hs
  exact class_le h1
 rw [this]
 simp [Zt,hl]
def dimD (lo hi:List Int) (k:Nat):Int:=hi.getD k 0 - lo.getD k 0+1
def locK (lo hi:List Int):Nat→Int→List Int→List Int
 | 0,_,out=>out
 | k+1,idx,out=>locK lo hi k (idx / dimD lo hi k) (out.set k (lo.getD k 0+idx % dimD lo hi k))
def volK (lo hi:List Int):Nat→Int
 | 0=>1
 | k+1=>volK lo hi k*dimD lo hi k
def locB (b:Box) (idx:Int):List Int:=locK b.Low b.High b.Low.length idx b.Low
theorem Zqv {lo hi:List Int} (h:Z8 lo hi=true) {k:Nat} (hk:k<lo.length):1≤dimD lo hi k∧dimD lo hi k≤8∧lo.getD k 0=lo[k]∧0≤lo.getD k 0∧lo.getD k 0+dimD lo hi k≤8:=by
 obtain ⟨b1,b2,b3,b4⟩:=Zc0 h
 have h2:k<hi.length:=by omega
 have:=b4 k hk h2
 have e1:lo.getD k 0=lo[k]:=by simp [List.getD,hk]
 have e2:hi.getD k 0=hi[k]:=by simp [List.getD,h2]
 unfold dimD
 rw [e1,e2]
 refine ⟨?_,?_,rfl,?_,?_⟩ <;> omega
theorem Z7y {lo hi:List Int} (h:Z8 lo hi=true):∀ k,k≤lo.length→volK lo hi k*vol (lo.drop k) (hi.drop k)=vol lo hi
 | 0,_=>by simp [volK]
 | k+1,hk=>by
  obtain ⟨b1,b2,b3,b4⟩:=Zc0 h
  have ih:=Z7y h k (by omega)
  have h2:k<hi.length:=by omega
  rw [Zru (by omega) h2] at ih
  rw [volK,← ih,Int.mul_assoc]
  unfold dimD
  rw [show lo.getD k 0=lo[k] by simp [List.getD,show k<lo.length by omega],show hi.getD k 0=hi[k] by simp [List.getD,h2]]
theorem Z7z {lo hi:List Int} (h:Z8 lo hi=true):volK lo hi lo.length=vol lo hi:=by
 obtain ⟨b1,_⟩:=Zc0 h
 have:=Z7y h lo.length (Nat.le_refl _)
 rw [List.drop_length,← b1,List.drop_length,Zrt,Int.mul_one] at this
 rw [← this,b1]
theorem Zxj {lo hi:List Int} (h:Z8 lo hi=true):∀ k,k≤lo.length→1≤volK lo hi k∧volK lo hi k≤8 ^ k
 | 0,_=>by simp [volK]
 | k+1,hk=>by
  obtain ⟨i1,i2⟩:=Zxj h k (by omega)
  obtain ⟨d1,d2,_⟩:=Zqv h (k:=k) (by omega)
  rw [volK]
  constructor
  ·have:=Int.mul_le_mul i1 d1 (by omega) (by omega);omega
  ·have:=Int.mul_le_mul i2 d2 (by omega) (Int.pow_nonneg (by omega))
   rw [Int.pow_succ];exact this
theorem Z70 {lo hi:List Int}:∀ (k:Nat) (idx:Int) (out:List Int),(locK lo hi k idx out).length=out.length
 | 0,_,_=>rfl
 | k+1,idx,out=>by rw [locK,Z70 k];simp
theorem Z71 {lo hi:List Int} (h:Z8 lo hi=true):∀ k,k≤lo.length→∀ (idx:Int) (out:List Int),0≤idx→(∀ x∈out,0≤x∧x≤7)→∀ x∈locK lo hi k idx out,0≤x∧x≤7
 | 0,_,idx,out,_,ho=>ho
 | k+1,hk,idx,out,h0,ho=>by
  obtain ⟨d1,d2,_,d3,d4⟩:=Zqv h (k:=k) (by omega)
  rw [locK]
  refine Z71 h k (by omega) _ _ (Int.ediv_nonneg h0 (by omega)) ?_
  intro x hx
  rcases List.mem_or_eq_of_mem_set hx with hx | hx
  ·exact ho x hx
  ·have m1:=Int.emod_nonneg idx (show dimD lo hi k≠0 by omega)
   have m2:=Int.emod_lt_of_pos idx (show 0<dimD lo hi k by omega)
   omega
theorem loc_B {b:Box} (h:Z8 b.Low b.High=true) {idx:Int} (h0:0≤idx):Zy (locB b idx)=true∧(locB b idx).length=b.Low.length:=by
 obtain ⟨b1,b2,b3,b4⟩:=Zc0 h
 have hlen:(locB b idx).length=b.Low.length:=Z70 _ _ _
 refine ⟨?_,hlen⟩
 have hin:=Z71 h b.Low.length (Nat.le_refl _) idx b.Low h0 (fun x hx=>by
  obtain ⟨i,hi,rfl⟩:=List.mem_iff_getElem.1 hx
  have:=b4 i hi (by omega)
  omega)
 unfold Zy Zej
 rw [Bool.and_eq_true,List.all_eq_true]
 refine ⟨fun x hx=>?_,by simp;omega⟩
 have:=hin x hx
 simp [inR];omega
theorem Zc8 {x:Int} (h1:-1000000000000000≤x) (h2:x≤1000000000000000):w x=x:=w_id (by omega) (by omega)
theorem Z72 (b:Box) (h:Z8 b.Low b.High=true):∀ k,k≤b.Low.length→∀ (idx:Int) (out:List Int),0≤idx→idx<281474976710656→out.length=b.Low.length→(∀ j,j<k→out[j]?=b.Low[j]?)→Zlq b out idx ((k:Int) - 1)=some (.tup [.own 0,Bo true],[.arr 3 1 true ((locK b.Low b.High k idx out).map ic)])
 | 0,_,idx,out,_,_,_,_=>by
  refine Z4c _ _ _ _ _ ?_
  rw [if_neg (by omega)];rfl
 | k+1,hk,idx,out,h0,h1,hl,ho=>by
  obtain ⟨b1,b2,b3,b4⟩:=Zc0 h
  have hlt:k<b.Low.length:=by omega
  have hlt2:k<b.High.length:=by omega
  obtain ⟨d1,d2,e1,d3,d4⟩:=Zqv h hlt
  have hd:dimD b.Low b.High k=b.High[k] - b.Low[k]+1:=by
   unfold dimD
   rw [e1,show b.High.getD k 0=b.High[k] by simp [List.getD,hlt2]]
  have hk1:(((k+1:Nat):Int) - 1)=(k:Int):=by omega
  have m1:=Int.emod_nonneg idx (show dimD b.Low b.High k≠0 by omega)
  have m2:=Int.emod_lt_of_pos idx (show 0<dimD b.Low b.High k by omega)
  have q1:=Int.ediv_nonneg h0 (show 0≤dimD b.Low b.High k by omega)
  have q2:idx / dimD b.Low b.High k≤idx:=Int.ediv_le_self _ h0
  have g3:=b4 k hlt hlt2
  have w1:w (w (b.High[k] - b.Low[k])+1)=dimD b.Low b.High k:=by rw [Zc8 (x:=b.High[k] - b.Low[k]) (by omega) (by omega),Zc8 (by omega) (by omega),hd]
  refine Z4c _ _ _ _ _ ?_
  rw [hk1,if_pos (by omega)]
  refine ⟨b.High[k],by rw [Int.toNat_natCast];exact List.getElem?_eq_getElem hlt2,b.Low[k],by rw [Int.toNat_natCast];exact List.getElem?_eq_getElem hlt,b.Low[k],by rw [Int.toNat_natCast,ho k (by omega)];exact List.getElem?_eq_getElem hlt,by rw [w1];omega,?_⟩
  rw [w1,Int.toNat_natCast,Int.tmod_eq_emod_of_nonneg h0,Int.tdiv_eq_ediv_of_nonneg h0,Zc8 (x:=b.Low[k]+idx % dimD b.Low b.High k) (by omega) (by omega),Zc8 (x:=idx / dimD b.Low b.High k) (by omega) (by omega),Zc8 (x:=(k:Int) - 1) (by omega) (by omega),← e1]
  have ih:=Z72 b h k (by omega) (idx / dimD b.Low b.High k) (out.set k (b.Low.getD k 0+idx % dimD b.Low b.High k)) q1 (by omega) (by simp [hl]) (fun j hj=>by rw [List.getElem?_set_ne (by omega)];exact ho j (by omega))
  rw [locK]
  exact ih
theorem Z73 (b:Box) (h:Z8 b.Low b.High=true):∀ k,k≤b.Low.length→∀ (idx:Int) (out:List Int),0≤idx→idx<volK b.Low b.High k→out.length=b.Low.length→Zmn b out idx ((k:Int) - 1)=some (.tup [.own 0,Bo true],[.arr 3 1 true ((locK b.Low b.High k idx out).map ic)])
 | 0,_,idx,out,h0,h1,_=>by
  refine Z5j _ _ _ _ _ ?_
  rw [volK] at h1
  rw [if_neg (by omega),if_neg (by omega)];rfl
 | k+1,hk,idx,out,h0,h1,hl=>by
  obtain ⟨b1,b2,b3,b4⟩:=Zc0 h
  have hlt:k<b.Low.length:=by omega
  have hlt2:k<b.High.length:=by omega
  obtain ⟨d1,d2,e1,d3,d4⟩:=Zqv h hlt
  have hd:dimD b.Low b.High k=b.High[k] - b.Low[k]+1:=by
   unfold dimD
   rw [e1,show b.High.getD k 0=b.High[k] by simp [List.getD,hlt2]]
  have hk1:(((k+1:Nat):Int) - 1)=(k:Int):=by omega
  have m1:=Int.emod_nonneg idx (show dimD b.Low b.High k≠0 by omega)
  have m2:=Int.emod_lt_of_pos idx (show 0<dimD b.Low b.High k by omega)
  have q1:=Int.ediv_nonneg h0 (show 0≤dimD b.Low b.High k by omega)
  have q2:idx / dimD b.Low b.High k≤idx:=Int.ediv_le_self _ h0
  have hv:=Zxj h (k+1) hk
  have hp:=pow8 (show k+1≤16 by omega)
  have g3:=b4 k hlt hlt2
  have w1:w (w (b.High[k] - b.Low[k])+1)=dimD b.Low b.High k:=by rw [Zc8 (x:=b.High[k] - b.Low[k]) (by omega) (by omega),Zc8 (by omega) (by omega),hd]
  refine Z5j _ _ _ _ _ ?_
  rw [hk1,if_pos (by omega)]
  refine ⟨b.High[k],by rw [Int.toNat_natCast];exact List.getElem?_eq_getElem hlt2,b.Low[k],by rw [Int.toNat_natCast];exact List.getElem?_eq_getElem hlt,by rw [w1];omega,out[k],by rw [Int.toNat_natCast];exact List.getElem?_eq_getElem (by omega),?_⟩
  rw [w1,Int.toNat_natCast,Int.tmod_eq_emod_of_nonneg h0,Int.tdiv_eq_ediv_of_nonneg h0,Zc8 (x:=b.Low[k]+idx % dimD b.Low b.High k) (by omega) (by omega),Zc8 (x:=idx / dimD b.Low b.High k) (by omega) (by omega),Zc8 (x:=(k:Int) - 1) (by omega) (by omega),← e1]
  rw [volK] at h1
  have ih:=Z73 b h k (by omega) (idx / dimD b.Low b.High k) (out.set k (b.Low.getD k 0+idx % dimD b.Low b.High k)) q1 (Int.ediv_lt_of_lt_mul (by omega) h1) (by simp [hl])
  rw [locK]
  exact ih
theorem vol_lt {lo hi:List Int} (h:Z8 lo hi=true):1≤vol lo hi∧vol lo hi≤281474976710656:=by
 obtain ⟨b1,b2,b3,b4⟩:=Zc0 h
 have h1:=Zxj h lo.length (Nat.le_refl _)
 have h2:=pow8 b3
 rw [Z7z h] at h1
 exact ⟨h1.1,by omega⟩
theorem x_volume (b:Box) (e:Z8 b.Low b.High=true):Zgw b=some (I (vol b.Low b.High),[]):=by
 have q2:=Z5z b e 0 (Nat.zero_le _) 1 (by omega) (by decide)
 exact Z25 _ _ (by simpa using q2)
theorem Zbl4 (b:Box) (hb:LeX b) (e:Z8 b.Low b.High=true) {idx:Int} (h0:0≤idx) (h1:idx<vol b.Low b.High):Zlp b idx=some (.tup [.own 0,Bo true],[.arr 3 1 true ((locB b idx).map ic)]):=by
 obtain ⟨b1,b2,b3,b4⟩:=Zc0 e
 obtain ⟨v1,v2⟩:=vol_lt e
 refine Zbg0 _ _ _ ⟨_,Z5x b hb,?_⟩
 rw [e,if_pos rfl]
 refine ⟨_,x_volume b e,_,Zcw _ _ _,?_⟩
 rw [Zc8 (by omega) (by omega),if_pos (by simp [inR];omega)]
 refine ⟨_,Z3m _ _ ⟨by omega,rfl⟩,?_⟩
 rw [Zc8 (by omega) (by omega)]
 exact Z72 b e b.Low.length (Nat.le_refl _) idx b.Low h0 (by omega) rfl (fun _ _=>rfl)
theorem Z74 (b:Box) (hb:LeX b) (e:Z8 b.Low b.High=true) {idx:Int} (h0:0≤idx) (h1:idx<vol b.Low b.High):Zhz b idx=some (.tup [.own 0,Bo true],[.arr 3 1 true ((locB b idx).map ic)]):=by
 obtain ⟨b1,b2,b3,b4⟩:=Zc0 e
 obtain ⟨v1,v2⟩:=vol_lt e
 refine Zbit _ _ _ ⟨_,Z5y b hb,?_⟩
 rw [e,if_pos rfl,if_neg (by omega)]
 refine ⟨by omega,?_⟩
 rw [Zc8 (by omega) (by omega)]
 exact Z73 b e b.Low.length (Nat.le_refl _) idx b.Low h0 (by rw [Z7z e];exact h1) rfl
def Z1 (b:Box):List (List Int):=(List.range (Z7 b.Low b.High).toNat).map fun i:Nat=>locB b i
theorem l_locs (b:Box) (hb:LeX b) (h4:Z7 b.Low b.High≤400) (hn:0≤Z7 b.Low b.High):∀ i,i≤(Z7 b.Low b.High).toNat→Zi8 b ((Z1 b).take i) (Z7 b.Low b.High) i=some (.own 0,[.arr 30 1 true ((Z1 b).map isc)]):=by
 have hlen:(Z1 b).length=(Z7 b.Low b.High).toNat:=by simp [Z1]
 refine down _ ?_ ?_
 ·refine Z4d _ _ _ _ _ ?_
  rw [if_neg (by omega),← hlen,List.take_length]
 ·intro i hi ih
  have h5:=inc64 (i:=i) (by omega)
  have e:Z8 b.Low b.High=true:=by
   rcases tf (Z8 b.Low b.High) with e | e
   ·unfold Z7 at hi;rw [e] at hi;simp at hi
   ·exact e
  have hv:Z7 b.Low b.High≤vol b.Low b.High:=by
   unfold Z7 capV
   rw [if_pos e]
   split <;> omega
  refine Z4d _ _ _ _ _ ?_
  rw [if_pos (by omega)]
  refine .inr ⟨_,Zbl4 b hb e (by omega) (by omega),by rw [List.length_take];omega,?_⟩
  rw [show w ((i:Int)+1)=((i+1:Nat):Int) from by rw [show w ((i:Int)+1)=(i:Int)+1 from h5];simp]
  rw [List.take_succ_eq_append_getElem (by omega)] at ih
  simpa [Z1] using ih
theorem Zbl5 (b:Box):0≤Z7 b.Low b.High:=by
 unfold Z7
 split
 ·rename_i e
  have:=vol_lt e
  unfold capV
  split <;> omega
 ·omega
theorem Z75 (b:Box) (hb:LeX b):Zhf b=if Z7 b.Low b.High≤400 then some (.own 0,[.arr 30 1 true ((Z1 b).map isc)]) else some (.t .nil,[]):=by
 by_cases h4:Z7 b.Low b.High≤400
 ·rw [if_pos h4]
  refine Z4e _ _ ⟨_,Zwm b hb,?_⟩
  rw [if_neg (by omega)]
  simpa using l_locs b hb h4 (Zbl5 b) 0 (Nat.zero_le _)
 ·rw [if_neg h4]
  refine Z4e _ _ ⟨_,Zwm b hb,?_⟩
  rw [if_pos (by omega)]
def Zkl:MFun:=⟨3,142,[.tmp 6],.r [.bx 3 0,.bx 4 1,.bx 5 2,.o 6 (.mov (.q false))] [3,4,5] (.r [.mk' 7 1048576] [3,4,5,7] (.r [.ln 20 30 3,.m 21 7,.cl 22 11 [20,21],.m 7 22] [3,4,5,7] (.wc [.m 23 7,.bk 24 .lss 23 0] [3,4,5,7,24] 24 (.r [.o 6 (.mov (.q true))] [6] .ret) (.r [.ln 25 2 4,.m 26 7,.cl 27 12 [25,26],.m 7 27] [3,4,5,7] (.wc [.m 28 7,.bk 29 .lss 28 0] [3,4,5,7,29] 29 (.r [.o 6 (.mov (.q true))] [6] .ret) (.r [.ln 30 8 5,.m 31 7,.cl 32 13 [30,31],.m 7 32] [3,4,5,7] (.wc [.m 33 7,.bk 34 .lss 33 0] [3,4,5,34] 34 (.r [.o 6 (.mov (.q true))] [6] .ret) (.seq (.drw [.ln 36 30 3,.xl 37 15 [36],.ln 38 2 4,.xl 39 16 [38],.ln 40 8 5,.xl 41 17 [40],.cl 42 14 [37,39,41],.m 35 42,.o 43 (.ext (.s 35) 0),.o 44 (.ext (.s 35) 1),.m 8 43,.m 9 44] [[],[0],[],[2,1],[],[4,3],[1,3,5,5],[6],[7],[7],[8,6,0,1,2,3,4,5,6,7,8],[9,10,0,1,2,3,4,5,6,7,8,9,10]] [3,4,5,8,9]) (.r [.ln 45 30 3,.xl 46 15 [45],.o 10 (.alloc [.t .z,.t .z,.t .z,.t .z,.t .z,.t .nil,.t .z,.t .z,.t .z,.t .z,.t .z,.t .nil,.t .z,.t .z,.t .z,.t .z,.t .z,.t .nil,.t .z,.t .z,.t .z,.t .z,.t .z,.t .nil,.t .z,.t .z,.t .z,.t .z,.t .z,.t .nil]),.st 30 10 46] [3,4,5,8,9,10] (.r [.ln 47 2 4,.xl 48 16 [47],.o 11 (.alloc [.t .z,.t .nil]),.st 2 11 48] [3,4,5,8,9,10,11] (.r [.ln 49 8 5,.xl 50 17 [49],.o 12 (.alloc [.t .z,.t .z,.t .z,.t .nil,.t .nil,.t .nil,.t .nil,.t .nil]),.st 8 12 50] [3,4,5,8,9,10,11,12] (.r [.ln 52 30 10,.ln 53 2 11,.ln 54 8 12,.xl 55 18 [52,53,54],.m 51 55,.o 56 (.ext (.s 51) 0),.o 57 (.ext (.s 51) 1),.m 13 56,.m 14 57] [3,4,5,8,9,10,11,12,13,14] (.wc [.m 58 13,.m 59 8,.cl 60 19 [58,59],.o 61 (.un .not (.s 60)),.m 62 61,.h 63 62 (.mov (.s 14)),.h 64 62 (.mov (.s 9)),.h 65 62 (.beq true (.s 63) (.s 64)),.o 66 (.pick (.s 62) (.q true) (.s 65))] [3,4,5,8,9,10,11,12,13,14,66] 66 (.r [.o 6 (.mov (.q false))] [6] .ret) (.seq (.seq (.drw [.ln 67 30 10,.ln 68 30 3,.xl 69 15 [68],.cl 70 20 [67,69],.o 71 (.un .not (.s 70))] [[],[],[1],[0,2,2],[3]] [3,4,5,8,9,10,11,12,13,14,71]) (.cond (.s 71) (.r [.o 6 (.mov (.q false))] [6] .ret) .skip)) (.seq (.seq (.drw [.ln 72 2 11,.ln 73 2 4,.xl 74 16 [73],.cl 75 21 [72,74],.o 76 (.un .not (.s 75))] [[],[],[1],[0,2,2],[3]] [3,4,5,8,9,10,11,12,13,14,76]) (.cond (.s 76) (.r [.o 6 (.mov (.q false))] [6] .ret) .skip)) (.seq (.seq (.drw [.ln 77 8 12,.ln 78 8 5,.xl 79 17 [78],.cl 80 22 [77,79],.o 81 (.un .not (.s 80))] [[],[],[1],[0,2,2],[3]] [3,4,5,8,9,10,11,12,13,14,81]) (.cond (.s 81) (.r [.o 6 (.mov (.q false))] [6] .ret) .skip)) (.r [.mk' 15 1] [3,4,5,8,9,10,11,12,13,14,15] (.r [.ln 82 30 10,.m 83 15,.o 84 (.icall 23 [.s 82,.s 83]),.m 15 84] [3,4,5,8,9,11,12,13,14,15] (.r [.ln 85 2 11,.m 86 15,.o 87 (.icall 24 [.s 85,.s 86]),.m 15 87] [3,4,5,8,9,12,13,14,15] (.r [.ln 88 8 12,.m 89 15,.o 90 (.icall 25 [.s 88,.s 89]),.m 15 90] [3,4,5,8,9,13,14,15] (.wc [.m 91 15,.bk 92 .lss 91 0,.m 93 92,.h 94 93 (.mov (.s 13)),.h 95 93 (.mov (.s 8)),.h 96 93 (.cl 19 [94,95]),.h 97 93 (.un .not (.s 96)),.o 98 (.pick (.s 93) (.q true) (.s 97)),.m 99 98,.h 100 99 (.mov (.s 14)),.h 101 99 (.mov (.s 9)),.h 102 99 (.beq true (.s 100) (.s 101)),.o 103 (.pick (.s 99) (.q true) (.s 102))] [3,4,5,8,9,13,103] 103 (.r [.o 6 (.mov (.q false))] [6] .ret) (.r [.mk' 16 1] [3,4,5,8,9,13,16] (.r [.m 104 13,.m 105 16,.o 106 (.icall 26 [.s 104,.s 105]),.m 16 106] [3,4,5,8,9,13,16] (.r [.mk' 17 1] [3,4,5,8,9,13,16,17] (.r [.m 107 13,.m 108 17,.cl 109 27 [107,108],.m 17 109] [3,4,5,8,9,13,16,17] (.wc [.m 110 17,.bk 111 .lss 110 0] [3,4,5,8,9,13,16,17,111] 111 (.r [.o 6 (.mov (.q false))] [6] .ret) (.wc [.m 112 17,.m 113 16,.b 114 .neq 112 113] [3,4,5,8,9,13,16,114] 114 (.r [.o 6 (.mov (.q false))] [6] .ret) (.seq (.drw [.ln 116 30 3,.xl 117 15 [116],.ln 118 2 4,.xl 119 16 [118],.ln 120 8 5,.xl 121 17 [120],.xl 122 18 [117,119,121],.m 115 122,.o 123 (.ext (.s 115) 0),.o 124 (.ext (.s 115) 1),.m 18 123,.m 19 124] [[],[0],[],[2,1],[],[4,3],[1,3,5,5],[6],[7],[7],[8,6,0,1,2,3,4,5,6,7,8],[9,10,0,1,2,3,4,5,6,7,8,9,10]] [8,9,13,16,18,19]) (.wc [.m 125 18,.m 126 8,.cl 127 19 [125,126],.o 128 (.un .not (.s 127)),.m 129 128,.h 130 129 (.mov (.s 19)),.h 131 129 (.mov (.s 9)),.h 132 129 (.beq true (.s 130) (.s 131)),.o 133 (.pick (.s 129) (.q true) (.s 132))] [13,16,133] 133 (.r [.o 6 (.mov (.q false))] [6] .ret) (.r [.mk' 17 1] [13,16,17] (.r [.m 134 13,.m 135 17,.cl 136 27 [134,135],.m 17 136] [16,17] (.wc [.m 137 17,.bk 138 .lss 137 0] [16,17,138] 138 (.r [.o 6 (.mov (.q false))] [6] .ret) (.wc [.m 139 17,.m 140 16,.b 141 .neq 139 140] [141] 141 (.r [.o 6 (.mov (.q false))] [6] .ret) (.r [.o 6 (.mov (.q true))] [6] .ret))))))))))))))))))))))))))))))))))⟩
theorem Zbl6:tbl 3=some Zkl:=tblOf_eq Tryz.func3 (by kernel_rfl) (by kernel_rfl)
def Z76:MFun:=⟨2,36,[.tmp 4],.r [.bx 2 0,.mk' 4 0] [1,2] (.r [.fa 5 0 2,.ln 6 6 5,.m 7 1,.cl 8 74 [6,7],.m 1 8] [1,2] (.wc [.m 9 1,.bk 10 .lss 9 0] [1,2,10] 10 (.r [.mk' 4 (-1)] [4] .ret) (.r [.fa 11 6 2,.ln 12 6 11,.m 13 1,.cl 14 74 [12,13],.m 1 14] [1,2] (.wc [.m 15 1,.bk 16 .lss 15 0] [1,2,16] 16 (.r [.mk' 4 (-1)] [4] .ret) (.r [.fa 17 12 2,.ln 18 6 17,.m 19 1,.cl 20 74 [18,19],.m 1 20] [1,2] (.wc [.m 21 1,.bk 22 .lss 21 0] [1,2,22] 22 (.r [.mk' 4 (-1)] [4] .ret) (.r [.fa 23 18 2,.ln 24 6 23,.m 25 1,.cl 26 74 [24,25],.m 1 26] [1,2] (.wc [.m 27 1,.bk 28 .lss 27 0] [1,2,28] 28 (.r [.mk' 4 (-1)] [4] .ret) (.r [.fa 29 24 2,.ln 30 6 29,.m 31 1,.cl 32 74 [30,31],.m 1 32] [1] (.wc [.m 33 1,.bk 34 .lss 33 0] [1,34] 34 (.r [.mk' 4 (-1)] [4] .ret) (.r [.m 35 1,.m 4 35] [4] .ret)))))))))))⟩
theorem Zbl7:tbl 11=some Z76:=tblOf_eq Tryz.func11 (by kernel_rfl) (by kernel_rfl)
def Z77:MFun:=⟨2,12,[.tmp 4],.r [.bx 2 0,.mk' 4 0] [1,2] (.r [.fa 5 1 2,.l 6 5,.m 7 1,.cl 8 75 [6,7],.m 1 8] [1] (.wc [.m 9 1,.bk 10 .lss 9 0] [1,10] 10 (.r [.mk' 4 (-1)] [4] .ret) (.r [.m 11 1,.m 4 11] [4] .ret)))⟩
theorem Zbl8:tbl 12=some Z77:=tblOf_eq Tryz.func12 (by kernel_rfl) (by kernel_rfl)
def Z78:MFun:=⟨2,30,[.tmp 4],.r [.bx 2 0,.mk' 4 0] [1,2] (.r [.fa 5 3 2,.ln 6 2 5,.m 7 1,.cl 8 62 [6,7],.m 1 8] [1,2] (.wc [.m 9 1,.bk 10 .lss 9 0] [1,2,10] 10 (.r [.mk' 4 (-1)] [4] .ret) (.r [.fa 11 5 2,.l 12 11,.m 13 1,.cl 14 76 [12,13],.m 1 14] [1,2] (.wc [.m 15 1,.bk 16 .lss 15 0] [1,2,16] 16 (.r [.mk' 4 (-1)] [4] .ret) (.r [.fa 17 6 2,.l 18 17,.m 19 1,.cl 20 77 [18,19],.m 1 20] [1,2] (.wc [.m 21 1,.bk 22 .lss 21 0] [1,2,22] 22 (.r [.mk' 4 (-1)] [4] .ret) (.r [.fa 23 7 2,.l 24 23,.m 25 1,.cl 26 78 [24,25],.m 1 26] [1] (.wc [.m 27 1,.bk 28 .lss 27 0] [1,28] 28 (.r [.mk' 4 (-1)] [4] .ret) (.r [.m 29 1,.m 4 29] [4] .ret)))))))))⟩
theorem Zbl9:tbl 13=some Z78:=tblOf_eq Tryz.func13 (by kernel_rfl) (by kernel_rfl)
def Z79:MFun:=⟨1,25,[.cell 2 (some 30)],.r [.bx 1 0,.o 2 (.alloc [.t .z,.t .z,.t .z,.t .z,.t .z,.t .nil,.t .z,.t .z,.t .z,.t .z,.t .z,.t .nil,.t .z,.t .z,.t .z,.t .z,.t .z,.t .nil,.t .z,.t .z,.t .z,.t .z,.t .z,.t .nil,.t .z,.t .z,.t .z,.t .z,.t .z,.t .nil])] [1,2] (.r [.o 3 (.alloc [.t .z,.t .z,.t .z,.t .z,.t .z,.t .nil,.t .z,.t .z,.t .z,.t .z,.t .z,.t .nil,.t .z,.t .z,.t .z,.t .z,.t .z,.t .nil,.t .z,.t .z,.t .z,.t .z,.t .z,.t .nil,.t .z,.t .z,.t .z,.t .z,.t .z,.t .nil])] [1,2,3] (.r [.fa 4 0 1,.ln 5 6 4,.cl 6 89 [5],.fa 7 0 3,.st 6 7 6] [1,2,3] (.r [.fa 8 6 1,.ln 9 6 8,.cl 10 89 [9],.fa 11 6 3,.st 6 11 10] [1,2,3] (.r [.fa 12 12 1,.ln 13 6 12,.cl 14 89 [13],.fa 15 12 3,.st 6 15 14] [1,2,3] (.r [.fa 16 18 1,.ln 17 6 16,.cl 18 89 [17],.fa 19 18 3,.st 6 19 18] [1,2,3] (.r [.fa 20 24 1,.ln 21 6 20,.cl 22 89 [21],.fa 23 24 3,.st 6 23 22] [2,3] (.r [.ln 24 30 3,.st 30 2 24] [2] .ret)))))))⟩
theorem Zbma:tbl 15=some Z79:=tblOf_eq Tryz.func15 (by kernel_rfl) (by kernel_rfl)
def Z8a:MFun:=⟨1,12,[.cell 2 (some 2)],.r [.bx 1 0,.o 2 (.alloc [.t .z,.t .nil])] [1,2] (.r [.o 3 (.alloc [.t .z,.t .nil])] [1,2,3] (.r [.fa 4 0 1,.l 5 4,.fa 6 0 3,.st 1 6 5] [1,2,3] (.r [.fa 7 1 1,.l 8 7,.cl 9 90 [8],.fa 10 1 3,.st 1 10 9] [2,3] (.r [.ln 11 2 3,.st 2 2 11] [2] .ret))))⟩
theorem Zbmb:tbl 16=some Z8a:=tblOf_eq Tryz.func16 (by kernel_rfl) (by kernel_rfl)
def Z8b:MFun:=⟨1,30,[.cell 2 (some 8)],.r [.bx 1 0,.o 2 (.alloc [.t .z,.t .z,.t .z,.t .nil,.t .nil,.t .nil,.t .nil,.t .nil])] [1,2] (.r [.o 3 (.alloc [.t .z,.t .z,.t .z,.t .nil,.t .nil,.t .nil,.t .nil,.t .nil])] [1,2,3] (.r [.fa 4 0 1,.l 5 4,.fa 6 0 3,.st 1 6 5] [1,2,3] (.r [.fa 7 1 1,.l 8 7,.fa 9 1 3,.st 1 9 8] [1,2,3] (.r [.fa 10 2 1,.l 11 10,.fa 12 2 3,.st 1 12 11] [1,2,3] (.r [.fa 13 3 1,.ln 14 2 13,.cl 15 64 [14],.fa 16 3 3,.st 2 16 15] [1,2,3] (.r [.fa 17 5 1,.l 18 17,.cl 19 91 [18],.fa 20 5 3,.st 1 20 19] [1,2,3] (.r [.fa 21 6 1,.l 22 21,.cl 23 92 [22],.fa 24 6 3,.st 1 24 23] [1,2,3] (.r [.fa 25 7 1,.l 26 25,.cl 27 93 [26],.fa 28 7 3,.st 1 28 27] [2,3] (.r [.ln 29 8 3,.st 8 2 29] [2] .ret)))))))))⟩
theorem Zbmc:tbl 17=some Z8b:=tblOf_eq Tryz.func17 (by kernel_rfl) (by kernel_rfl)
def Znm:MCode :=.we [.m 11 5,.m 12 0,.ll 13 12,.b 14 .lss 11 13] [0,1,5,14] 14 0 (.seq (.block 1 (.seq (.drw [.m 17 0,.m 18 5,.ia 19 1 17 18,.l 20 19,.m 21 1,.m 22 5,.ia 23 1 21 22,.l 24 23,.b 25 .neq 20 24] [[],[],[0,1],[2],[],[],[4,5],[6],[3,7]] [0,1,5,25]) (.cond (.s 25) (.r [.o 4 (.mov (.q false))] [4] .ret) .skip))) (.reg [.m 15 5,.bk 16 .add 15 1,.m 5 16] [0,1,5]))
def Zqw:MFun:=⟨2,26,[.tmp 4],.r [.o 4 (.mov (.q false))] [0,1] (.wc [.m 6 0,.ll 7 6,.m 8 1,.ll 9 8,.b 10 .neq 7 9] [0,1,10] 10 (.r [.o 4 (.mov (.q false))] [4] .ret) (.seq (.r [.mk' 5 0] [0,1,5] (.block 0 (.loop [0,1,5] Znm))) (.r [.o 4 (.mov (.q true))] [4] .ret)))⟩
theorem Z8c:tbl 19=some Zqw:=tblOf_eq Tryz.func19 (by kernel_rfl) (by kernel_rfl)
def Z8d:MFun:=⟨2,35,[.tmp 4],.r [.bx 2 0,.bx 3 1,.o 4 (.mov (.q false))] [2,3] (.wc [.fa 5 0 2,.ln 6 6 5,.fa 7 0 3,.ln 8 6 7,.cl 9 99 [6,8],.o 10 (.un .not (.s 9))] [2,3,10] 10 (.r [.o 4 (.mov (.q false))] [4] .ret) (.wc [.fa 11 6 2,.ln 12 6 11,.fa 13 6 3,.ln 14 6 13,.cl 15 99 [12,14],.o 16 (.un .not (.s 15))] [2,3,16] 16 (.r [.o 4 (.mov (.q false))] [4] .ret) (.wc [.fa 17 12 2,.ln 18 6 17,.fa 19 12 3,.ln 20 6 19,.cl 21 99 [18,20],.o 22 (.un .not (.s 21))] [2,3,22] 22 (.r [.o 4 (.mov (.q false))] [4] .ret) (.wc [.fa 23 18 2,.ln 24 6 23,.fa 25 18 3,.ln 26 6 25,.cl 27 99 [24,26],.o 28 (.un .not (.s 27))] [2,3,28] 28 (.r [.o 4 (.mov (.q false))] [4] .ret) (.wc [.fa 29 24 2,.ln 30 6 29,.fa 31 24 3,.ln 32 6 31,.cl 33 99 [30,32],.o 34 (.un .not (.s 33))] [34] 34 (.r [.o 4 (.mov (.q false))] [4] .ret) (.r [.o 4 (.mov (.q true))] [4] .ret))))))⟩
theorem Zbmd:tbl 20=some Z8d:=tblOf_eq Tryz.func20 (by kernel_rfl) (by kernel_rfl)
def Z8e:MFun:=⟨2,16,[.tmp 4],.r [.bx 2 0,.bx 3 1,.o 4 (.mov (.q false))] [2,3] (.wc [.fa 5 0 2,.l 6 5,.fa 7 0 3,.l 8 7,.b 9 .neq 6 8] [2,3,9] 9 (.r [.o 4 (.mov (.q false))] [4] .ret) (.wc [.fa 10 1 2,.l 11 10,.fa 12 1 3,.l 13 12,.cl 14 100 [11,13],.o 15 (.un .not (.s 14))] [15] 15 (.r [.o 4 (.mov (.q false))] [4] .ret) (.r [.o 4 (.mov (.q true))] [4] .ret)))⟩
theorem Zbme:tbl 21=some Z8e:=tblOf_eq Tryz.func21 (by kernel_rfl) (by kernel_rfl)
def Z8f:MFun:=⟨2,44,[.tmp 4],.r [.bx 2 0,.bx 3 1,.o 4 (.mov (.q false))] [2,3] (.wc [.fa 5 0 2,.l 6 5,.fa 7 0 3,.l 8 7,.b 9 .neq 6 8] [2,3,9] 9 (.r [.o 4 (.mov (.q false))] [4] .ret) (.wc [.fa 10 1 2,.l 11 10,.fa 12 1 3,.l 13 12,.b 14 .neq 11 13] [2,3,14] 14 (.r [.o 4 (.mov (.q false))] [4] .ret) (.wc [.fa 15 2 2,.l 16 15,.fa 17 2 3,.l 18 17,.b 19 .neq 16 18] [2,3,19] 19 (.r [.o 4 (.mov (.q false))] [4] .ret) (.wc [.fa 20 3 2,.ln 21 2 20,.fa 22 3 3,.ln 23 2 22,.cl 24 66 [21,23],.o 25 (.un .not (.s 24))] [2,3,25] 25 (.r [.o 4 (.mov (.q false))] [4] .ret) (.wc [.fa 26 5 2,.l 27 26,.fa 28 5 3,.l 29 28,.cl 30 19 [27,29],.o 31 (.un .not (.s 30))] [2,3,31] 31 (.r [.o 4 (.mov (.q false))] [4] .ret) (.wc [.fa 32 6 2,.l 33 32,.fa 34 6 3,.l 35 34,.cl 36 101 [33,35],.o 37 (.un .not (.s 36))] [2,3,37] 37 (.r [.o 4 (.mov (.q false))] [4] .ret) (.wc [.fa 38 7 2,.l 39 38,.fa 40 7 3,.l 41 40,.cl 42 102 [39,41],.o 43 (.un .not (.s 42))] [43] 43 (.r [.o 4 (.mov (.q false))] [4] .ret) (.r [.o 4 (.mov (.q true))] [4] .ret))))))))⟩
theorem Zbmf:tbl 22=some Z8f:=tblOf_eq Tryz.func22 (by kernel_rfl) (by kernel_rfl)
def Z8g:MFun:=⟨2,26,[.tmp 4],.r [.bx 2 0,.mk' 4 0] [1,2] (.r [.fa 5 0 2,.ln 6 6 5,.m 7 1,.o 8 (.icall 103 [.s 6,.s 7]),.m 1 8] [1,2] (.r [.fa 9 6 2,.ln 10 6 9,.m 11 1,.o 12 (.icall 103 [.s 10,.s 11]),.m 1 12] [1,2] (.r [.fa 13 12 2,.ln 14 6 13,.m 15 1,.o 16 (.icall 103 [.s 14,.s 15]),.m 1 16] [1,2] (.r [.fa 17 18 2,.ln 18 6 17,.m 19 1,.o 20 (.icall 103 [.s 18,.s 19]),.m 1 20] [1,2] (.r [.fa 21 24 2,.ln 22 6 21,.m 23 1,.o 24 (.icall 103 [.s 22,.s 23]),.m 1 24] [1] (.r [.m 25 1,.m 4 25] [4] .ret))))))⟩
theorem Zbmg:tbl 23=some Z8g:=tblOf_eq Tryz.func23 (by kernel_rfl) (by kernel_rfl)
def Z8h:MFun:=⟨2,10,[.tmp 4],.r [.bx 2 0,.mk' 4 0] [1,2] (.r [.fa 5 1 2,.o 6 (.loadU false (.s 5)),.m 7 1,.o 8 (.scall 104 [.s 6,.s 7] (.s 5)),.m 1 8] [1] (.r [.m 9 1,.m 4 9] [4] .ret))⟩
theorem Zbmh:tbl 24=some Z8h:=tblOf_eq Tryz.func24 (by kernel_rfl) (by kernel_rfl)
def Z8i:MFun:=⟨2,22,[.tmp 4],.r [.bx 2 0,.mk' 4 0] [1,2] (.r [.fa 5 3 2,.ln 6 2 5,.m 7 1,.o 8 (.icall 67 [.s 6,.s 7]),.m 1 8] [1,2] (.r [.fa 9 5 2,.o 10 (.loadU false (.s 9)),.m 11 1,.o 12 (.scall 26 [.s 10,.s 11] (.s 9)),.m 1 12] [1,2] (.r [.fa 13 6 2,.o 14 (.loadU false (.s 13)),.m 15 1,.o 16 (.scall 105 [.s 14,.s 15] (.s 13)),.m 1 16] [1,2] (.r [.fa 17 7 2,.o 18 (.loadU false (.s 17)),.m 19 1,.o 20 (.scall 106 [.s 18,.s 19] (.s 17)),.m 1 20] [1] (.r [.m 21 1,.m 4 21] [4] .ret)))))⟩
theorem Zbmi:tbl 25=some Z8i:=tblOf_eq Tryz.func25 (by kernel_rfl) (by kernel_rfl)
def Zkm:MCode :=.we [.m 6 5,.m 7 0,.ll 8 7,.b 9 .lss 6 8] [0,1,5,9] 9 0 (.seq (.block 1 (.r [.m 12 0,.m 13 5,.m 14 1,.ia 15 1 12 13,.st 1 15 14] [0,1,5] (.reg [.m 16 1,.bk 17 .add 16 1,.m 1 17] [0,1,5]))) (.reg [.m 10 5,.bk 11 .add 10 1,.m 5 11] [0,1,5]))
def Zqx:MFun:=⟨2,19,[.tmp 4],.r [.mk' 4 0] [0,1] (.seq (.r [.mk' 5 0] [0,1,5] (.block 0 (.loop [0,1,5] Zkm))) (.r [.m 18 1,.m 4 18] [4] .ret))⟩
theorem Zxk:tbl 26=some Zqx:=tblOf_eq Tryz.func26 (by kernel_rfl) (by kernel_rfl)
def Znn:MCode :=.we [.m 6 5,.m 7 0,.ll 8 7,.b 9 .lss 6 8] [0,1,5,9] 9 0 (.seq (.block 1 (.wc [.m 12 0,.m 13 5,.ia 14 1 12 13,.l 15 14,.m 16 1,.b 17 .neq 15 16] [0,1,5,17] 17 (.r [.mk' 4 (-1)] [4] .ret) (.reg [.m 18 1,.bk 19 .add 18 1,.m 1 19] [0,1,5]))) (.reg [.m 10 5,.bk 11 .add 10 1,.m 5 11] [0,1,5]))
def Zxl:MFun:=⟨2,21,[.tmp 4],.r [.mk' 4 0] [0,1] (.seq (.r [.mk' 5 0] [0,1,5] (.block 0 (.loop [0,1,5] Znn))) (.r [.m 20 1,.m 4 20] [4] .ret))⟩
theorem Z8j:tbl 27=some Zxl:=tblOf_eq Tryz.func27 (by kernel_rfl) (by kernel_rfl)
def Z8k:MFun:=⟨2,11,[.tmp 4],.r [.bx 2 0,.bx 3 1,.o 4 (.mov (.q false))] [2,3] (.wc [.fa 5 0 2,.l 6 5,.fa 7 0 3,.l 8 7,.cl 9 118 [6,8],.o 10 (.un .not (.s 9))] [10] 10 (.r [.o 4 (.mov (.q false))] [4] .ret) (.r [.o 4 (.mov (.q true))] [4] .ret))⟩
theorem Zbmj:tbl 35=some Z8k:=tblOf_eq Tryz.func35 (by kernel_rfl) (by kernel_rfl)
def Z8l:MFun:=⟨2,12,[.tmp 4],.r [.bx 2 0,.mk' 4 0] [1,2] (.r [.fa 5 0 2,.l 6 5,.m 7 1,.cl 8 168 [6,7],.m 1 8] [1] (.wc [.m 9 1,.bk 10 .lss 9 0] [1,10] 10 (.r [.mk' 4 (-1)] [4] .ret) (.r [.m 11 1,.m 4 11] [4] .ret)))⟩
theorem Zbmk:tbl 55=some Z8l:=tblOf_eq Tryz.func55 (by kernel_rfl) (by kernel_rfl)
def Z8m:MFun:=⟨1,9,[.cell 2 (some 1)],.r [.bx 1 0,.o 2 (.alloc [.t .nil])] [1,2] (.r [.o 3 (.alloc [.t .nil])] [1,2,3] (.r [.fa 4 0 1,.l 5 4,.cl 6 170 [5],.fa 7 0 3,.st 1 7 6] [2,3] (.r [.ln 8 1 3,.st 1 2 8] [2] .ret)))⟩
theorem Zbml:tbl 57=some Z8m:=tblOf_eq Tryz.func57 (by kernel_rfl) (by kernel_rfl)
def Z8n:MFun:=⟨2,18,[.tmp 4],.r [.bx 2 0,.mk' 4 0] [1,2] (.r [.fa 5 0 2,.l 6 5,.m 7 1,.cl 8 76 [6,7],.m 1 8] [1,2] (.wc [.m 9 1,.bk 10 .lss 9 0] [1,2,10] 10 (.r [.mk' 4 (-1)] [4] .ret) (.r [.fa 11 1 2,.l 12 11,.m 13 1,.cl 14 76 [12,13],.m 1 14] [1] (.wc [.m 15 1,.bk 16 .lss 15 0] [1,16] 16 (.r [.mk' 4 (-1)] [4] .ret) (.r [.m 17 1,.m 4 17] [4] .ret)))))⟩
theorem Zbmm:tbl 62=some Z8n:=tblOf_eq Tryz.func62 (by kernel_rfl) (by kernel_rfl)
def Z8o:MFun:=⟨1,13,[.cell 2 (some 2)],.r [.bx 1 0,.o 2 (.alloc [.t .nil,.t .nil])] [1,2] (.r [.o 3 (.alloc [.t .nil,.t .nil])] [1,2,3] (.r [.fa 4 0 1,.l 5 4,.cl 6 91 [5],.fa 7 0 3,.st 1 7 6] [1,2,3] (.r [.fa 8 1 1,.l 9 8,.cl 10 91 [9],.fa 11 1 3,.st 1 11 10] [2,3] (.r [.ln 12 2 3,.st 2 2 12] [2] .ret))))⟩
theorem Zbmn:tbl 64=some Z8o:=tblOf_eq Tryz.func64 (by kernel_rfl) (by kernel_rfl)
def Z8p:MFun:=⟨2,17,[.tmp 4],.r [.bx 2 0,.bx 3 1,.o 4 (.mov (.q false))] [2,3] (.wc [.fa 5 0 2,.l 6 5,.fa 7 0 3,.l 8 7,.cl 9 19 [6,8],.o 10 (.un .not (.s 9))] [2,3,10] 10 (.r [.o 4 (.mov (.q false))] [4] .ret) (.wc [.fa 11 1 2,.l 12 11,.fa 13 1 3,.l 14 13,.cl 15 19 [12,14],.o 16 (.un .not (.s 15))] [16] 16 (.r [.o 4 (.mov (.q false))] [4] .ret) (.r [.o 4 (.mov (.q true))] [4] .ret)))⟩
theorem Zbmo:tbl 66=some Z8p:=tblOf_eq Tryz.func66 (by kernel_rfl) (by kernel_rfl)
def Z8q:MFun:=⟨2,14,[.tmp 4],.r [.bx 2 0,.mk' 4 0] [1,2] (.r [.fa 5 0 2,.o 6 (.loadU false (.s 5)),.m 7 1,.o 8 (.scall 26 [.s 6,.s 7] (.s 5)),.m 1 8] [1,2] (.r [.fa 9 1 2,.o 10 (.loadU false (.s 9)),.m 11 1,.o 12 (.scall 26 [.s 10,.s 11] (.s 9)),.m 1 12] [1] (.r [.m 13 1,.m 4 13] [4] .ret)))⟩
theorem Zbmp:tbl 67=some Z8q:=tblOf_eq Tryz.func67 (by kernel_rfl) (by kernel_rfl)
def Z8r:MFun:=⟨2,12,[.tmp 4],.r [.bx 2 0,.mk' 4 0] [1,2] (.r [.fa 5 5 2,.l 6 5,.m 7 1,.cl 8 192 [6,7],.m 1 8] [1] (.wc [.m 9 1,.bk 10 .lss 9 0] [1,10] 10 (.r [.mk' 4 (-1)] [4] .ret) (.r [.m 11 1,.m 4 11] [4] .ret)))⟩
theorem Zbmq:tbl 74=some Z8r:=tblOf_eq Tryz.func74 (by kernel_rfl) (by kernel_rfl)
def Zia:MCode :=.we [.m 12 5,.m 13 0,.ll 14 13,.b 15 .lss 12 14] [0,1,5,15] 15 0 (.seq (.block 1 (.r [.m 18 0,.m 19 5,.ia 20 2 18 19,.ln 21 2 20,.m 22 1,.cl 23 193 [21,22],.m 1 23] [0,1,5] (.r [.m 24 1,.bk 25 .lss 24 0] [0,1,5,25] (.cond (.s 25) (.r [.mk' 4 (-1)] [4] .ret) .skip)))) (.reg [.m 16 5,.bk 17 .add 16 1,.m 5 17] [0,1,5]))
def Z8s:MFun:=⟨2,27,[.tmp 4],.r [.mk' 4 0] [0,1] (.r [.m 6 1,.m 7 0,.ll 8 7,.b 9 .sub 6 8,.m 1 9] [0,1] (.wc [.m 10 1,.bk 11 .lss 10 0] [0,1,11] 11 (.r [.mk' 4 (-1)] [4] .ret) (.seq (.r [.mk' 5 0] [0,1,5] (.block 0 (.loop [0,1,5] Zia))) (.r [.m 26 1,.m 4 26] [4] .ret))))⟩
theorem Zbmr:tbl 75=some Z8s:=tblOf_eq Tryz.func75 (by kernel_rfl) (by kernel_rfl)
def Z8t:MFun:=⟨2,12,[.tmp 4],.r [.mk' 4 0] [0,1] (.r [.m 5 1,.m 6 0,.ll 7 6,.b 8 .sub 5 7,.m 1 8] [1] (.wc [.m 9 1,.bk 10 .lss 9 0] [1,10] 10 (.r [.mk' 4 (-1)] [4] .ret) (.r [.m 11 1,.m 4 11] [4] .ret)))⟩
theorem Zbms:tbl 76=some Z8t:=tblOf_eq Tryz.func76 (by kernel_rfl) (by kernel_rfl)
def Zib:MCode :=.we [.m 12 5,.m 13 0,.ll 14 13,.b 15 .lss 12 14] [0,1,5,15] 15 0 (.seq (.block 1 (.r [.m 18 0,.m 19 5,.ia 20 1 18 19,.ln 21 1 20,.m 22 1,.cl 23 55 [21,22],.m 1 23] [0,1,5] (.r [.m 24 1,.bk 25 .lss 24 0] [0,1,5,25] (.cond (.s 25) (.r [.mk' 4 (-1)] [4] .ret) .skip)))) (.reg [.m 16 5,.bk 17 .add 16 1,.m 5 17] [0,1,5]))
def Z8u:MFun:=⟨2,27,[.tmp 4],.r [.mk' 4 0] [0,1] (.r [.m 6 1,.m 7 0,.ll 8 7,.b 9 .sub 6 8,.m 1 9] [0,1] (.wc [.m 10 1,.bk 11 .lss 10 0] [0,1,11] 11 (.r [.mk' 4 (-1)] [4] .ret) (.seq (.r [.mk' 5 0] [0,1,5] (.block 0 (.loop [0,1,5] Zib))) (.r [.m 26 1,.m 4 26] [4] .ret))))⟩
theorem Zbmt:tbl 77=some Z8u:=tblOf_eq Tryz.func77 (by kernel_rfl) (by kernel_rfl)
def Zic:MCode :=.we [.m 12 5,.m 13 0,.ll 14 13,.b 15 .lss 12 14] [0,1,5,15] 15 0 (.seq (.block 1 (.r [.m 18 0,.m 19 5,.ia 20 1 18 19,.l 21 20,.m 22 1,.cl 23 76 [21,22],.m 1 23] [0,1,5] (.r [.m 24 1,.bk 25 .lss 24 0] [0,1,5,25] (.cond (.s 25) (.r [.mk' 4 (-1)] [4] .ret) .skip)))) (.reg [.m 16 5,.bk 17 .add 16 1,.m 5 17] [0,1,5]))
def Z8v:MFun:=⟨2,27,[.tmp 4],.r [.mk' 4 0] [0,1] (.r [.m 6 1,.m 7 0,.ll 8 7,.b 9 .sub 6 8,.m 1 9] [0,1] (.wc [.m 10 1,.bk 11 .lss 10 0] [0,1,11] 11 (.r [.mk' 4 (-1)] [4] .ret) (.seq (.r [.mk' 5 0] [0,1,5] (.block 0 (.loop [0,1,5] Zic))) (.r [.m 26 1,.m 4 26] [4] .ret))))⟩
theorem Zbmu:tbl 78=some Z8v:=tblOf_eq Tryz.func78 (by kernel_rfl) (by kernel_rfl)
def Z8w:MFun:=⟨1,24,[.cell 2 (some 6)],.r [.bx 1 0,.o 2 (.alloc [.t .z,.t .z,.t .z,.t .z,.t .z,.t .nil])] [1,2] (.r [.o 3 (.alloc [.t .z,.t .z,.t .z,.t .z,.t .z,.t .nil])] [1,2,3] (.r [.fa 4 0 1,.l 5 4,.fa 6 0 3,.st 1 6 5] [1,2,3] (.r [.fa 7 1 1,.l 8 7,.fa 9 1 3,.st 1 9 8] [1,2,3] (.r [.fa 10 2 1,.l 11 10,.fa 12 2 3,.st 1 12 11] [1,2,3] (.r [.fa 13 3 1,.l 14 13,.fa 15 3 3,.st 1 15 14] [1,2,3] (.r [.fa 16 4 1,.l 17 16,.fa 18 4 3,.st 1 18 17] [1,2,3] (.r [.fa 19 5 1,.l 20 19,.cl 21 209 [20],.fa 22 5 3,.st 1 22 21] [2,3] (.r [.ln 23 6 3,.st 6 2 23] [2] .ret))))))))⟩
theorem Zbmv:tbl 89=some Z8w:=tblOf_eq Tryz.func89 (by kernel_rfl) (by kernel_rfl)
def Zqy:MCode :=.we [.m 8 4,.m 9 0,.ll 10 9,.b 11 .lss 8 10] [0,3,4,11] 11 0 (.seq (.block 1 (.reg [.m 14 3,.m 15 4,.m 16 0,.m 17 4,.ia 18 2 16 17,.ln 19 2 18,.cl 20 210 [19],.ia 21 2 14 15,.st 2 21 20] [0,3,4])) (.reg [.m 12 4,.bk 13 .add 12 1,.m 4 13] [0,3,4]))
def Z8x:MFun:=⟨1,23,[.tmp 2],.r [.o 2 (.mov (.c (.t .nil)))] [0] (.r [.m 5 0,.ll 6 5,.o 7 (.mkslice 264 2 40 [.str ⟨#[]⟩,.lst 1 []] (.s 6) (.s 6)),.m 3 7] [0,3] (.seq (.r [.mk' 4 0] [0,3,4] (.block 0 (.loop [0,3,4] Zqy))) (.r [.m 22 3,.m 2 22] [2] .ret)))⟩
theorem Zbmw:tbl 90=some Z8x:=tblOf_eq Tryz.func90 (by kernel_rfl) (by kernel_rfl)
def Zqz:MCode :=.we [.m 8 4,.m 9 0,.ll 10 9,.b 11 .lss 8 10] [0,3,4,11] 11 0 (.seq (.block 1 (.reg [.m 14 3,.m 15 4,.m 16 0,.m 17 4,.ia 18 1 16 17,.l 19 18,.ia 20 1 14 15,.st 1 20 19] [0,3,4])) (.reg [.m 12 4,.bk 13 .add 12 1,.m 4 13] [0,3,4]))
def Z8y:MFun:=⟨1,22,[.tmp 2],.r [.o 2 (.mov (.c (.t .nil)))] [0] (.r [.m 5 0,.ll 6 5,.o 7 (.mkslice 3 1 8 [.z] (.s 6) (.s 6)),.m 3 7] [0,3] (.seq (.r [.mk' 4 0] [0,3,4] (.block 0 (.loop [0,3,4] Zqz))) (.r [.m 21 3,.m 2 21] [2] .ret)))⟩
theorem Zbmx:tbl 91=some Z8y:=tblOf_eq Tryz.func91 (by kernel_rfl) (by kernel_rfl)
def Zq0:MCode :=.we [.m 8 4,.m 9 0,.ll 10 9,.b 11 .lss 8 10] [0,3,4,11] 11 0 (.seq (.block 1 (.reg [.m 14 3,.m 15 4,.m 16 0,.m 17 4,.ia 18 1 16 17,.ln 19 1 18,.cl 20 57 [19],.ia 21 1 14 15,.st 1 21 20] [0,3,4])) (.reg [.m 12 4,.bk 13 .add 12 1,.m 4 13] [0,3,4]))
def Z8z:MFun:=⟨1,23,[.tmp 2],.r [.o 2 (.mov (.c (.t .nil)))] [0] (.r [.m 5 0,.ll 6 5,.o 7 (.mkslice 79 1 24 [.lst 3 []] (.s 6) (.s 6)),.m 3 7] [0,3] (.seq (.r [.mk' 4 0] [0,3,4] (.block 0 (.loop [0,3,4] Zq0))) (.r [.m 22 3,.m 2 22] [2] .ret)))⟩
theorem Zbmy:tbl 92=some Z8z:=tblOf_eq Tryz.func92 (by kernel_rfl) (by kernel_rfl)
def Zq1:MCode :=.we [.m 8 4,.m 9 0,.ll 10 9,.b 11 .lss 8 10] [0,3,4,11] 11 0 (.seq (.block 1 (.reg [.m 14 3,.m 15 4,.m 16 0,.m 17 4,.ia 18 1 16 17,.l 19 18,.cl 20 91 [19],.ia 21 1 14 15,.st 1 21 20] [0,3,4])) (.reg [.m 12 4,.bk 13 .add 12 1,.m 4 13] [0,3,4]))
def Z80:MFun:=⟨1,23,[.tmp 2],.r [.o 2 (.mov (.c (.t .nil)))] [0] (.r [.m 5 0,.ll 6 5,.o 7 (.mkslice 30 1 24 [.lst 1 []] (.s 6) (.s 6)),.m 3 7] [0,3] (.seq (.r [.mk' 4 0] [0,3,4] (.block 0 (.loop [0,3,4] Zq1))) (.r [.m 22 3,.m 2 22] [2] .ret)))⟩
theorem Zbmz:tbl 93=some Z80:=tblOf_eq Tryz.func93 (by kernel_rfl) (by kernel_rfl)
def Z81:MFun:=⟨2,36,[.tmp 4],.r [.bx 2 0,.bx 3 1,.o 4 (.mov (.q false))] [2,3] (.wc [.fa 5 0 2,.l 6 5,.fa 7 0 3,.l 8 7,.b 9 .neq 6 8] [2,3,9] 9 (.r [.o 4 (.mov (.q false))] [4] .ret) (.wc [.fa 10 1 2,.l 11 10,.fa 12 1 3,.l 13 12,.b 14 .neq 11 13] [2,3,14] 14 (.r [.o 4 (.mov (.q false))] [4] .ret) (.wc [.fa 15 2 2,.l 16 15,.fa 17 2 3,.l 18 17,.b 19 .neq 16 18] [2,3,19] 19 (.r [.o 4 (.mov (.q false))] [4] .ret) (.wc [.fa 20 3 2,.l 21 20,.fa 22 3 3,.l 23 22,.b 24 .neq 21 23] [2,3,24] 24 (.r [.o 4 (.mov (.q false))] [4] .ret) (.wc [.fa 25 4 2,.l 26 25,.fa 27 4 3,.l 28 27,.b 29 .neq 26 28] [2,3,29] 29 (.r [.o 4 (.mov (.q false))] [4] .ret) (.wc [.fa 30 5 2,.l 31 30,.fa 32 5 3,.l 33 32,.cl 34 219 [31,33],.o 35 (.un .not (.s 34))] [35] 35 (.r [.o 4 (.mov (.q false))] [4] .ret) (.r [.o 4 (.mov (.q true))] [4] .ret)))))))⟩
theorem Zbm0:tbl 99=some Z81:=tblOf_eq Tryz.func99 (by kernel_rfl) (by kernel_rfl)
def Zq2:MCode :=.we [.m 11 5,.m 12 0,.ll 13 12,.b 14 .lss 11 13] [0,1,5,14] 14 0 (.seq (.block 1 (.seq (.drw [.m 17 0,.m 18 5,.ia 19 2 17 18,.ln 20 2 19,.m 21 1,.m 22 5,.ia 23 2 21 22,.ln 24 2 23,.cl 25 220 [20,24],.o 26 (.un .not (.s 25))] [[],[],[0,1],[2],[],[],[4,5],[6],[3,7],[8]] [0,1,5,26]) (.cond (.s 26) (.r [.o 4 (.mov (.q false))] [4] .ret) .skip))) (.reg [.m 15 5,.bk 16 .add 15 1,.m 5 16] [0,1,5]))
def Zxm:MFun:=⟨2,27,[.tmp 4],.r [.o 4 (.mov (.q false))] [0,1] (.wc [.m 6 0,.ll 7 6,.m 8 1,.ll 9 8,.b 10 .neq 7 9] [0,1,10] 10 (.r [.o 4 (.mov (.q false))] [4] .ret) (.seq (.r [.mk' 5 0] [0,1,5] (.block 0 (.loop [0,1,5] Zq2))) (.r [.o 4 (.mov (.q true))] [4] .ret)))⟩
theorem Zbm1:tbl 100=some Zxm:=tblOf_eq Tryz.func100 (by kernel_rfl) (by kernel_rfl)
def Zq3:MCode :=.we [.m 11 5,.m 12 0,.ll 13 12,.b 14 .lss 11 13] [0,1,5,14] 14 0 (.seq (.block 1 (.seq (.drw [.m 17 0,.m 18 5,.ia 19 1 17 18,.ln 20 1 19,.m 21 1,.m 22 5,.ia 23 1 21 22,.ln 24 1 23,.cl 25 35 [20,24],.o 26 (.un .not (.s 25))] [[],[],[0,1],[2],[],[],[4,5],[6],[3,7],[8]] [0,1,5,26]) (.cond (.s 26) (.r [.o 4 (.mov (.q false))] [4] .ret) .skip))) (.reg [.m 15 5,.bk 16 .add 15 1,.m 5 16] [0,1,5]))
def Zxn:MFun:=⟨2,27,[.tmp 4],.r [.o 4 (.mov (.q false))] [0,1] (.wc [.m 6 0,.ll 7 6,.m 8 1,.ll 9 8,.b 10 .neq 7 9] [0,1,10] 10 (.r [.o 4 (.mov (.q false))] [4] .ret) (.seq (.r [.mk' 5 0] [0,1,5] (.block 0 (.loop [0,1,5] Zq3))) (.r [.o 4 (.mov (.q true))] [4] .ret)))⟩
theorem Zbm2:tbl 101=some Zxn:=tblOf_eq Tryz.func101 (by kernel_rfl) (by kernel_rfl)
def Zq4:MCode :=.we [.m 11 5,.m 12 0,.ll 13 12,.b 14 .lss 11 13] [0,1,5,14] 14 0 (.seq (.block 1 (.seq (.drw [.m 17 0,.m 18 5,.ia 19 1 17 18,.l 20 19,.m 21 1,.m 22 5,.ia 23 1 21 22,.l 24 23,.cl 25 19 [20,24],.o 26 (.un .not (.s 25))] [[],[],[0,1],[2],[],[],[4,5],[6],[3,7],[8]] [0,1,5,26]) (.cond (.s 26) (.r [.o 4 (.mov (.q false))] [4] .ret) .skip))) (.reg [.m 15 5,.bk 16 .add 15 1,.m 5 16] [0,1,5]))
def Zxo:MFun:=⟨2,27,[.tmp 4],.r [.o 4 (.mov (.q false))] [0,1] (.wc [.m 6 0,.ll 7 6,.m 8 1,.ll 9 8,.b 10 .neq 7 9] [0,1,10] 10 (.r [.o 4 (.mov (.q false))] [4] .ret) (.seq (.r [.mk' 5 0] [0,1,5] (.block 0 (.loop [0,1,5] Zq4))) (.r [.o 4 (.mov (.q true))] [4] .ret)))⟩
theorem Zbm3:tbl 102=some Zxo:=tblOf_eq Tryz.func102 (by kernel_rfl) (by kernel_rfl)
def Z82:MFun:=⟨2,10,[.tmp 4],.r [.bx 2 0,.mk' 4 0] [1,2] (.r [.fa 5 5 2,.o 6 (.loadU false (.s 5)),.m 7 1,.o 8 (.scall 221 [.s 6,.s 7] (.s 5)),.m 1 8] [1] (.r [.m 9 1,.m 4 9] [4] .ret))⟩
theorem Zbm4:tbl 103=some Z82:=tblOf_eq Tryz.func103 (by kernel_rfl) (by kernel_rfl)
def Zq5:MCode :=.we [.m 6 5,.m 7 0,.ll 8 7,.b 9 .lss 6 8] [0,1,5,9] 9 0 (.seq (.block 1 (.r [.m 12 0,.m 13 5,.m 14 1,.cl 15 222 [14],.ia 16 2 12 13,.fa 17 0 16,.st 1 17 15] [0,1,5] (.r [.m 18 1,.bk 19 .add 18 1,.m 1 19] [0,1,5] (.reg [.m 20 0,.m 21 5,.ia 22 2 20 21,.fa 23 1 22,.o 24 (.loadU false (.s 23)),.m 25 1,.o 26 (.scall 26 [.s 24,.s 25] (.s 23)),.m 1 26] [0,1,5])))) (.reg [.m 10 5,.bk 11 .add 10 1,.m 5 11] [0,1,5]))
def Z83:MFun:=⟨2,28,[.tmp 4],.r [.mk' 4 0] [0,1] (.seq (.r [.mk' 5 0] [0,1,5] (.block 0 (.loop [0,1,5] Zq5))) (.r [.m 27 1,.m 4 27] [4] .ret))⟩
theorem Zbm5:tbl 104=some Z83:=tblOf_eq Tryz.func104 (by kernel_rfl) (by kernel_rfl)
def Zq6:MCode :=.we [.m 6 5,.m 7 0,.ll 8 7,.b 9 .lss 6 8] [0,1,5,9] 9 0 (.seq (.block 1 (.reg [.m 12 0,.m 13 5,.ia 14 1 12 13,.fa 15 0 14,.o 16 (.loadU false (.s 15)),.m 17 1,.o 18 (.scall 120 [.s 16,.s 17] (.s 15)),.m 1 18] [0,1,5])) (.reg [.m 10 5,.bk 11 .add 10 1,.m 5 11] [0,1,5]))
def Z84:MFun:=⟨2,20,[.tmp 4],.r [.mk' 4 0] [0,1] (.seq (.r [.mk' 5 0] [0,1,5] (.block 0 (.loop [0,1,5] Zq6))) (.r [.m 19 1,.m 4 19] [4] .ret))⟩
theorem Zbm6:tbl 105=some Z84:=tblOf_eq Tryz.func105 (by kernel_rfl) (by kernel_rfl)
def Zq7:MCode :=.we [.m 6 5,.m 7 0,.ll 8 7,.b 9 .lss 6 8] [0,1,5,9] 9 0 (.seq (.block 1 (.reg [.m 12 0,.m 13 5,.ia 14 1 12 13,.o 15 (.loadU false (.s 14)),.m 16 1,.o 17 (.scall 26 [.s 15,.s 16] (.s 14)),.m 1 17] [0,1,5])) (.reg [.m 10 5,.bk 11 .add 10 1,.m 5 11] [0,1,5]))
def Z85:MFun:=⟨2,19,[.tmp 4],.r [.mk' 4 0] [0,1] (.seq (.r [.mk' 5 0] [0,1,5] (.block 0 (.loop [0,1,5] Zq7))) (.r [.m 18 1,.m 4 18] [4] .ret))⟩
theorem Zbm7:tbl 106=some Z85:=tblOf_eq Tryz.func106 (by kernel_rfl) (by kernel_rfl)
def Zq8:MCode :=.we [.m 11 5,.m 12 0,.ll 13 12,.b 14 .lss 11 13] [0,1,5,14] 14 0 (.seq (.block 1 (.seq (.drw [.m 17 0,.m 18 5,.ia 19 3 17 18,.ln 20 3 19,.m 21 1,.m 22 5,.ia 23 3 21 22,.ln 24 3 23,.cl 25 238 [20,24],.o 26 (.un .not (.s 25))] [[],[],[0,1],[2],[],[],[4,5],[6],[3,7],[8]] [0,1,5,26]) (.cond (.s 26) (.r [.o 4 (.mov (.q false))] [4] .ret) .skip))) (.reg [.m 15 5,.bk 16 .add 15 1,.m 5 16] [0,1,5]))
def Zxp:MFun:=⟨2,27,[.tmp 4],.r [.o 4 (.mov (.q false))] [0,1] (.wc [.m 6 0,.ll 7 6,.m 8 1,.ll 9 8,.b 10 .neq 7 9] [0,1,10] 10 (.r [.o 4 (.mov (.q false))] [4] .ret) (.seq (.r [.mk' 5 0] [0,1,5] (.block 0 (.loop [0,1,5] Zq8))) (.r [.o 4 (.mov (.q true))] [4] .ret)))⟩
theorem Zbm8:tbl 118=some Zxp:=tblOf_eq Tryz.func118 (by kernel_rfl) (by kernel_rfl)
def Zno:MCode :=.we [.m 6 5,.m 7 0,.ll 8 7,.b 9 .lss 6 8] [0,1,5,9] 9 0 (.seq (.block 1 (.r [.m 12 0,.m 13 5,.m 14 1,.ia 15 3 12 13,.fa 16 0 15,.st 1 16 14] [0,1,5] (.r [.m 17 1,.bk 18 .add 17 1,.m 1 18] [0,1,5] (.r [.m 19 0,.m 20 5,.m 21 1,.ia 22 3 19 20,.fa 23 1 22,.st 1 23 21] [0,1,5] (.r [.m 24 1,.bk 25 .add 24 1,.m 1 25] [0,1,5] (.r [.m 26 0,.m 27 5,.m 28 1,.ia 29 3 26 27,.fa 30 2 29,.st 1 30 28] [0,1,5] (.reg [.m 31 1,.bk 32 .add 31 1,.m 1 32] [0,1,5]))))))) (.reg [.m 10 5,.bk 11 .add 10 1,.m 5 11] [0,1,5]))
def Zxq:MFun:=⟨2,34,[.tmp 4],.r [.mk' 4 0] [0,1] (.seq (.r [.mk' 5 0] [0,1,5] (.block 0 (.loop [0,1,5] Zno))) (.r [.m 33 1,.m 4 33] [4] .ret))⟩
theorem Z86:tbl 120=some Zxq:=tblOf_eq Tryz.func120 (by kernel_rfl) (by kernel_rfl)
def Z87:MFun:=⟨2,12,[.tmp 4],.r [.mk' 4 0] [0,1] (.r [.m 5 1,.m 6 0,.ll 7 6,.b 8 .sub 5 7,.m 1 8] [1] (.wc [.m 9 1,.bk 10 .lss 9 0] [1,10] 10 (.r [.mk' 4 (-1)] [4] .ret) (.r [.m 11 1,.m 4 11] [4] .ret)))⟩
theorem Zbm9:tbl 168=some Z87:=tblOf_eq Tryz.func168 (by kernel_rfl) (by kernel_rfl)
def Zq9:MCode :=.we [.m 8 4,.m 9 0,.ll 10 9,.b 11 .lss 8 10] [0,3,4,11] 11 0 (.seq (.block 1 (.reg [.m 14 3,.m 15 4,.m 16 0,.m 17 4,.ia 18 3 16 17,.ln 19 3 18,.cl 20 279 [19],.ia 21 3 14 15,.st 3 21 20] [0,3,4])) (.reg [.m 12 4,.bk 13 .add 12 1,.m 4 13] [0,3,4]))
def Z88:MFun:=⟨1,23,[.tmp 2],.r [.o 2 (.mov (.c (.t .nil)))] [0] (.r [.m 5 0,.ll 6 5,.o 7 (.mkslice 194 3 24 [.z,.z,.z] (.s 6) (.s 6)),.m 3 7] [0,3] (.seq (.r [.mk' 4 0] [0,3,4] (.block 0 (.loop [0,3,4] Zq9))) (.r [.m 22 3,.m 2 22] [2] .ret)))⟩
theorem Zbna:tbl 170=some Z88:=tblOf_eq Tryz.func170 (by kernel_rfl) (by kernel_rfl)
def Z89:MFun:=⟨2,12,[.tmp 4],.r [.mk' 4 0] [0,1] (.r [.m 5 1,.m 6 0,.ll 7 6,.b 8 .sub 5 7,.m 1 8] [1] (.wc [.m 9 1,.bk 10 .lss 9 0] [1,10] 10 (.r [.mk' 4 (-1)] [4] .ret) (.r [.m 11 1,.m 4 11] [4] .ret)))⟩
theorem Zbnb:tbl 192=some Z89:=tblOf_eq Tryz.func192 (by kernel_rfl) (by kernel_rfl)
def Z9a:MFun:=⟨2,19,[.tmp 4],.r [.bx 2 0,.mk' 4 0] [1,2] (.r [.m 5 1,.fa 6 0 2,.l 7 6,.o 8 (.len true (.s 7)),.b 9 .sub 5 8,.m 1 9] [1,2] (.wc [.m 10 1,.bk 11 .lss 10 0] [1,2,11] 11 (.r [.mk' 4 (-1)] [4] .ret) (.r [.fa 12 1 2,.l 13 12,.m 14 1,.cl 15 76 [13,14],.m 1 15] [1] (.wc [.m 16 1,.bk 17 .lss 16 0] [1,17] 17 (.r [.mk' 4 (-1)] [4] .ret) (.r [.m 18 1,.m 4 18] [4] .ret)))))⟩
theorem Zbnc:tbl 193=some Z9a:=tblOf_eq Tryz.func193 (by kernel_rfl) (by kernel_rfl)
def Zra:MCode :=.we [.m 8 4,.m 9 0,.ll 10 9,.b 11 .lss 8 10] [0,3,4,11] 11 0 (.seq (.block 1 (.reg [.m 14 3,.m 15 4,.m 16 0,.m 17 4,.ia 18 2 16 17,.ln 19 2 18,.cl 20 294 [19],.ia 21 2 14 15,.st 2 21 20] [0,3,4])) (.reg [.m 12 4,.bk 13 .add 12 1,.m 4 13] [0,3,4]))
def Z9b:MFun:=⟨1,23,[.tmp 2],.r [.o 2 (.mov (.c (.t .nil)))] [0] (.r [.m 5 0,.ll 6 5,.o 7 (.mkslice 307 2 16 [.z,.z] (.s 6) (.s 6)),.m 3 7] [0,3] (.seq (.r [.mk' 4 0] [0,3,4] (.block 0 (.loop [0,3,4] Zra))) (.r [.m 22 3,.m 2 22] [2] .ret)))⟩
theorem Zbnd:tbl 209=some Z9b:=tblOf_eq Tryz.func209 (by kernel_rfl) (by kernel_rfl)
def Z9c:MFun:=⟨1,12,[.cell 2 (some 2)],.r [.bx 1 0,.o 2 (.alloc [.t (.str ⟨#[]⟩),.t .nil])] [1,2] (.r [.o 3 (.alloc [.t (.str ⟨#[]⟩),.t .nil])] [1,2,3] (.r [.fa 4 0 1,.l 5 4,.fa 6 0 3,.st 1 6 5] [1,2,3] (.r [.fa 7 1 1,.l 8 7,.cl 9 91 [8],.fa 10 1 3,.st 1 10 9] [2,3] (.r [.ln 11 2 3,.st 2 2 11] [2] .ret))))⟩
theorem Zbne:tbl 210=some Z9c:=tblOf_eq Tryz.func210 (by kernel_rfl) (by kernel_rfl)
def Zrb:MCode :=.we [.m 11 5,.m 12 0,.ll 13 12,.b 14 .lss 11 13] [0,1,5,14] 14 0 (.seq (.block 1 (.seq (.drw [.m 17 0,.m 18 5,.ia 19 2 17 18,.ln 20 2 19,.m 21 1,.m 22 5,.ia 23 2 21 22,.ln 24 2 23,.cl 25 299 [20,24],.o 26 (.un .not (.s 25))] [[],[],[0,1],[2],[],[],[4,5],[6],[3,7],[8]] [0,1,5,26]) (.cond (.s 26) (.r [.o 4 (.mov (.q false))] [4] .ret) .skip))) (.reg [.m 15 5,.bk 16 .add 15 1,.m 5 16] [0,1,5]))
def Zxr:MFun:=⟨2,27,[.tmp 4],.r [.o 4 (.mov (.q false))] [0,1] (.wc [.m 6 0,.ll 7 6,.m 8 1,.ll 9 8,.b 10 .neq 7 9] [0,1,10] 10 (.r [.o 4 (.mov (.q false))] [4] .ret) (.seq (.r [.mk' 5 0] [0,1,5] (.block 0 (.loop [0,1,5] Zrb))) (.r [.o 4 (.mov (.q true))] [4] .ret)))⟩
theorem Zbnf:tbl 219=some Zxr:=tblOf_eq Tryz.func219 (by kernel_rfl) (by kernel_rfl)
def Z9d:MFun:=⟨2,16,[.tmp 4],.r [.bx 2 0,.bx 3 1,.o 4 (.mov (.q false))] [2,3] (.wc [.fa 5 0 2,.l 6 5,.fa 7 0 3,.l 8 7,.b 9 .neq 6 8] [2,3,9] 9 (.r [.o 4 (.mov (.q false))] [4] .ret) (.wc [.fa 10 1 2,.l 11 10,.fa 12 1 3,.l 13 12,.cl 14 19 [11,13],.o 15 (.un .not (.s 14))] [15] 15 (.r [.o 4 (.mov (.q false))] [4] .ret) (.r [.o 4 (.mov (.q true))] [4] .ret)))⟩
theorem Zbng:tbl 220=some Z9d:=tblOf_eq Tryz.func220 (by kernel_rfl) (by kernel_rfl)
def Zrc:MCode :=.we [.m 6 5,.m 7 0,.ll 8 7,.b 9 .lss 6 8] [0,1,5,9] 9 0 (.seq (.block 1 (.r [.m 12 0,.m 13 5,.m 14 1,.ia 15 2 12 13,.fa 16 0 15,.st 1 16 14] [0,1,5] (.r [.m 17 1,.bk 18 .add 17 1,.m 1 18] [0,1,5] (.r [.m 19 0,.m 20 5,.m 21 1,.ia 22 2 19 20,.fa 23 1 22,.st 1 23 21] [0,1,5] (.reg [.m 24 1,.bk 25 .add 24 1,.m 1 25] [0,1,5]))))) (.reg [.m 10 5,.bk 11 .add 10 1,.m 5 11] [0,1,5]))
def Z9e:MFun:=⟨2,27,[.tmp 4],.r [.mk' 4 0] [0,1] (.seq (.r [.mk' 5 0] [0,1,5] (.block 0 (.loop [0,1,5] Zrc))) (.r [.m 26 1,.m 4 26] [4] .ret))⟩
theorem Zbnh:tbl 221=some Z9e:=tblOf_eq Tryz.func221 (by kernel_rfl) (by kernel_rfl)
def Znp:MCode :=.we [.m 6 0,.bk 7 .gtr 6 0] [0,3,7] 7 0 (.block 1 (.r [.m 8 0,.bk 9 .rem 8 10,.o 10 (.bin .add (.k 48) (.s 9)),.o 11 (.conv .u8 (.s 10)),.o 12 (.bslice 5 1 1 [.int .u8 0] [(0,.s 11)]),.o 13 (.tostr (.s 12)),.m 14 3,.b 15 .add 13 14,.m 3 15] [0,3] (.reg [.m 16 0,.bk 17 .quo 16 10,.m 0 17] [0,3])))
def Zxs:MFun:=⟨1,20,[.tmp 2],.r [.o 2 (.mov (.c (.t (.str ⟨#[]⟩))))] [0] (.wc [.m 4 0,.bk 5 .leq 4 0] [0,5] 5 (.r [.o 2 (.mov (.c (.t (.str ⟨#[109,48]⟩))))] [2] .ret) (.r [.o 3 (.mov (.c (.t (.str ⟨#[]⟩))))] [0,3] (.seq (.block 0 (.loop [0,3] Znp)) (.r [.m 18 3,.o 19 (.bin .add (.c (.t (.str ⟨#[109]⟩))) (.s 18)),.m 2 19] [2] .ret))))⟩
theorem Z9f:tbl 222=some Zxs:=tblOf_eq Tryz.func222 (by kernel_rfl) (by kernel_rfl)
def Z9g:MFun:=⟨2,20,[.tmp 4],.r [.bx 2 0,.bx 3 1,.o 4 (.mov (.q false))] [2,3] (.wc [.fa 5 0 2,.l 6 5,.fa 7 0 3,.l 8 7,.b 9 .neq 6 8] [2,3,9] 9 (.r [.o 4 (.mov (.q false))] [4] .ret) (.wc [.fa 10 1 2,.l 11 10,.fa 12 1 3,.l 13 12,.b 14 .neq 11 13] [2,3,14] 14 (.r [.o 4 (.mov (.q false))] [4] .ret) (.wc [.fa 15 2 2,.l 16 15,.fa 17 2 3,.l 18 17,.b 19 .neq 16 18] [19] 19 (.r [.o 4 (.mov (.q false))] [4] .ret) (.r [.o 4 (.mov (.q true))] [4] .ret))))⟩
theorem Zbni:tbl 238=some Z9g:=tblOf_eq Tryz.func238 (by kernel_rfl) (by kernel_rfl)
def Z9h:MFun:=⟨1,14,[.cell 2 (some 3)],.r [.bx 1 0,.o 2 (.alloc [.t .z,.t .z,.t .z])] [1,2] (.r [.o 3 (.alloc [.t .z,.t .z,.t .z])] [1,2,3] (.r [.fa 4 0 1,.l 5 4,.fa 6 0 3,.st 1 6 5] [1,2,3] (.r [.fa 7 1 1,.l 8 7,.fa 9 1 3,.st 1 9 8] [1,2,3] (.r [.fa 10 2 1,.l 11 10,.fa 12 2 3,.st 1 12 11] [2,3] (.r [.ln 13 3 3,.st 3 2 13] [2] .ret)))))⟩
theorem Zbnj:tbl 279=some Z9h:=tblOf_eq Tryz.func279 (by kernel_rfl) (by kernel_rfl)
def Z9i:MFun:=⟨1,11,[.cell 2 (some 2)],.r [.bx 1 0,.o 2 (.alloc [.t .z,.t .z])] [1,2] (.r [.o 3 (.alloc [.t .z,.t .z])] [1,2,3] (.r [.fa 4 0 1,.l 5 4,.fa 6 0 3,.st 1 6 5] [1,2,3] (.r [.fa 7 1 1,.l 8 7,.fa 9 1 3,.st 1 9 8] [2,3] (.r [.ln 10 2 3,.st 2 2 10] [2] .ret))))⟩
theorem Zbnk:tbl 294=some Z9i:=tblOf_eq Tryz.func294 (by kernel_rfl) (by kernel_rfl)
def Z9j:MFun:=⟨2,15,[.tmp 4],.r [.bx 2 0,.bx 3 1,.o 4 (.mov (.q false))] [2,3] (.wc [.fa 5 0 2,.l 6 5,.fa 7 0 3,.l 8 7,.b 9 .neq 6 8] [2,3,9] 9 (.r [.o 4 (.mov (.q false))] [4] .ret) (.wc [.fa 10 1 2,.l 11 10,.fa 12 1 3,.l 13 12,.b 14 .neq 11 13] [14] 14 (.r [.o 4 (.mov (.q false))] [4] .ret) (.r [.o 4 (.mov (.q true))] [4] .ret)))⟩
theorem Zbnl:tbl 299=some Z9j:=tblOf_eq Tryz.func299 (by kernel_rfl) (by kernel_rfl)
end Go.Proofs.YtgnfoghkbpkgjaaGreat
