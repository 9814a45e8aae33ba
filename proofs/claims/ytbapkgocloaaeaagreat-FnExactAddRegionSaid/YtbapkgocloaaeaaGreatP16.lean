/-
  Parts of the proofs for this seat: DX SX AR K FA MP MQ.
-/
import Derived.Test.YtbapkgocloaaeaaGreatP3
import Derived.Test.YtbapkgocloaaeaaGreatP6
import Derived.Test.YtbapkgocloaaeaaGreatP7
import Derived.Test.YtbapkgocloaaeaaGreatP13
import Derived.Test.YtbapkgocloaaeaaGreatP14
import Derived.Test.YtbapkgocloaaeaaGreatP15
set_option linter.unusedSimpArgs false
set_option linter.unusedVariables false
set_option maxRecDepth 100000
set_option maxHeartbeats 4000000
namespace Go.Proofs.YtbapkgocloaaeaaGreat
open Go.RowKit Go.AM
theorem cutL {L news zs:List Value} {a a' b n:Nat} (ha:a'=a) (hb:b=a+news.length) (hz:b+zs.length=n) (hL:n≤L.length) :
  ((List.take b (L.take a'++news++L.drop (a'+news.length)).toArray.toList++zs++List.drop (b+zs.length) (L.take a'++news++L.drop (a'+news.length)).toArray.toList).toArray).toList=L.take a++news++zs++L.drop n:=by
 subst ha
 have e1:(L.take a'++news).length=b:=by rw [List.length_append,List.length_take,hb];omega
 show List.take b (L.take a'++news++L.drop (a'+news.length))++zs++List.drop (b+zs.length) (L.take a'++news++L.drop (a'+news.length))=_
 rw [List.take_left' e1,hz,List.drop_append,List.drop_drop,e1]
 rw [List.drop_eq_nil_of_le (by rw [e1];omega),List.nil_append]
 congr 2
 omega
theorem Zblw {fr:Bool} {es:List (List T)} {i j:Nat} (hij:i<j) (hj:j≤es.length):Sound Tryz.prog 165 [.own 0,.t (.int .i64 i),.t (.int .i64 j)] [.arr 114 8 fr es] (.own 1) [.dead,.arr 114 8 fr (es.take i++es.drop j)]:=by
 refine ⟨by decide +kernel,?_⟩
 intro N base w ρ vs R hdom hv hz
 obtain ⟨l⟩:=vs
 simp only at hv
 cases hv with | cons q0 hv =>
 cases hv with | cons q1 hv =>
 cases hv with | cons q2 hv =>
 cases hv
 cases q0 with | own hr h1 =>
 rename_i r
 cases q1 with | t q1 _ =>
 cases q1
 cases q2 with | t q2 _ =>
 cases q2
 have hb:gt [Blk.arr 114 8 fr es] 0=.arr 114 8 fr es:=by simp [gt]
 obtain ⟨r2,e1,e2⟩:=R.blk 0 (by rw [hb];intro hc;cases hc)
 rw [hr] at e1
 cases e1
 rw [hb] at e2
 obtain ⟨hex,e',xs,hel,ho,hsz,hlen,htr,hfree,hfr,how⟩:=e2
 obtain ⟨hxl,ho⟩:=ho
 rcases ho with ⟨_,hn⟩ | ⟨g,cap,cur,hrv,hbg,hg,hcap,hcm,hcur,htake⟩
 ·omega
 have hone:∀ t v,t<es.length*8→cur[t]?=some v→v.oneCell'=true:=by
  intro t v ht hv
  refine htr.one v ?_
  rw [← htake]
  refine List.mem_of_getElem? (i:=t) ?_
  rw [List.getElem?_take_of_lt ht,Array.getElem?_toList]
  exact hv
 rw [hrv]
 refine (del_walk g es.length cap i j cur e' w hg hcur hone hij hj hcap (by unfold maxLen at hcm;omega)).mono ?_
 rintro e w' ⟨rfl,rfl⟩
 have hcl:cur.toList.length=cap*8:=by simpa using hcur
 have m1:(es.length - j+i)*8+(j - i)*8=es.length*8:=by omega
 have hnl:((cur.toList.take (es.length*8)).drop (j*8)).length=(es.length - j)*8:=by
  rw [List.length_drop,List.length_take,hcl];omega
 have hno:∀ v∈(cur.toList.take (es.length*8)).drop (j*8),v.oneCell'=true:=by
  intro v hv
  have hv:=List.mem_of_mem_drop hv
  obtain ⟨t,ht⟩:=List.mem_iff_getElem?.1 hv
  rw [List.getElem?_take] at ht
  split at ht
  ·exact hone t v (by assumption) (by simpa using ht)
  ·cases ht
 have s1:=Zwb (w:=w.drew) (o:=0+i*8) hg (vs:=(cur.toList.take (es.length*8)).drop (j*8)) (by rw [hnl,hcur];omega) hno
 have g1:=setRow_heap w.drew g cur (cur.toList.take (0+i*8)++(cur.toList.take (es.length*8)).drop (j*8)++cur.toList.drop (0+i*8+((cur.toList.take (es.length*8)).drop (j*8)).length)).toArray e' (0,0) hg
 rw [s1]
 have hz8:=zero_len (es.length - (i+(es.length - j)))
 have s2:=Zwb (o:=(i+(es.length - j))*8) g1 (vs:=(Builtin.zeroCells zEnt.cells (es.length - (i+(es.length - j)))).toList) (by rw [hz8];simp only [List.size_toArray,List.length_append,List.length_take,List.length_drop,hcl,hnl];omega) (zero_one _)
 rw [s2,setRow_setRow]
 generalize hzs:(Builtin.zeroCells zEnt.cells (es.length - (i+(es.length - j)))).toList=zs at *
 have hfin:=cutL (L:=cur.toList) (news:=(cur.toList.take (es.length*8)).drop (j*8)) (zs:=zs) (a:=i*8) (a':=0+i*8) (b:=(i+(es.length - j))*8) (n:=es.length*8) (by omega) (by rw [hnl];omega) (by rw [hz8];omega) (by rw [hcl];omega)
 obtain ⟨fp',p1,p2,p3⟩:=del_rel R hr hdom hrv hg (Nat.le_of_lt hij) hj (zs:=zs) (by rw [hz8];congr 1;omega)
  (w':=w.drew.setRow g _) ⟨_,setRow_heap w.drew g cur _ e' (0,0) hg,hfin⟩ ⟨rfl,rfl,rfl,by rw [setRow_size];exact Nat.le_refl _,fun k _ hk=>setRow_other w.drew g k _ (fun e=>hk (by rw [e]))⟩
 refine ⟨_,_,rfl,⟨rfl,rfl,rfl,by rw [setRow_size];exact Nat.le_refl _,fun k hk=>setRow_other w.drew g k _ (by omega)⟩,p1,.own (b:=1) (r:=⟨.slice (some ⟨g,0,none⟩) (i+(es.length - j)) cap,fp',[]⟩) (by simp [updM]) rfl,?_,(show 1≤2 by decide),p3,fun gg hgg hzz=>p2.free gg hgg (hz gg hzz),?_⟩
 ·intro b hb
  simp at hb
  simp only [updM]
  rw [if_neg (by omega)]
  exact hdom b (by simp;omega)
 ·intro b r0 hb hr0
  have:b=0:=by simp at hb;omega
  subst this
  exact ⟨r0,by simp [updM,hr0],rfl⟩
theorem Zblx (f:Nat) (xs:List AV) (h0:List Blk) (r:AV) (hr:List Blk) (h:ext f xs h0=some (r,hr)):Sound Tryz.prog f xs h0 r hr:=by
 unfold ext at h
 split at h
 ·split at h
  ·rename_i i j fr es hc
   obtain ⟨rfl,h1,h2,h3⟩:=hc
   cases h
   have e1:i=(i.toNat:Int):=by omega
   have e2:j=(j.toNat:Int):=by omega
   have:=Zblw (fr:=fr) (es:=es) (i:=i.toNat) (j:=j.toNat) (by omega) (by omega)
   rw [← e1,← e2] at this
   exact this
  ·cases h
 ·cases h
theorem sound {f:Nat} {xs:List AV} {h0:List Blk} {r:AV} {hr:List Blk} (h:C f xs h0=some (r,hr)):Sound Tryz.prog f xs h0 r hr:=callC_sound (tblOK _ _) Zblx h
theorem tD:tbl 165=none:=by kernel_rfl
theorem x_Delete (es:List Ze) {k:Nat} (hk:k<es.length):Zpb es k ((k:Int)+1)=some (.own 1,[.dead,.arr 114 8 true ((es.take k++es.drop (k+1)).map Ze.c)]):=by
 unfold Zpb
 refine callC_ext tD ?_
 unfold ext
 simp only
 rw [if_pos ⟨trivial,by omega,by omega,by simp;omega⟩,List.map_append,List.map_take,List.map_drop]
 rw [show ((k:Int)).toNat=k by omega,show ((k:Int)+1).toNat=k+1 by omega]
def nextO (es:List Ze) (e:Ze) (i:Nat) (b:Int):Int:=if b<0 then i else match es[b.toNat]? with
 | some x=>if e.Used<x.Used then i else b
 | none=>b
def oldG (es:List Ze):List Ze→Nat→Int→Int
 | [],_,b=>b
 | e::r,i,b=>oldG es r (i+1) (nextO es e i b)
def Zbc (es:List Ze):Int:=oldG es es 0 (-1)
def InO (es:List Ze) (b:Int):Prop:=b<0∨b.toNat<es.length
theorem Zwc {es:List Ze} (e:Ze) {i:Nat} (hi:i<es.length) {b:Int} (hb:InO es b):InO es (nextO es e i b)∧0≤nextO es e i b:=by
 unfold nextO
 split
 ·exact ⟨.inr (by simpa using hi),by omega⟩
 ·rename_i h
  rcases hb with hb | hb
  ·exact absurd hb h
  rw [List.getElem?_eq_getElem hb]
  simp only
  split
  ·exact ⟨.inr (by simpa using hi),by omega⟩
  ·exact ⟨.inr hb,by omega⟩
theorem oldG_in {es:List Ze}:∀ i,i≤es.length→∀ b,InO es b→(0≤b∨i<es.length)→0≤oldG es (es.drop i) i b∧(oldG es (es.drop i) i b).toNat<es.length:=by
 refine down _ ?_ ?_
 ·intro b hb h0
  rw [List.drop_length,oldG]
  rcases hb with hb | hb
  ·omega
  ·exact ⟨by omega,hb⟩
 ·intro i hi ih b hb _
  rw [List.drop_eq_getElem_cons hi,oldG]
  obtain ⟨h1,h2⟩:=Zwc es[i] hi hb
  exact ih _ h1 (.inl h2)
theorem Zbly (c:Zn) (hl:c.Entries.length≤4294967296):∀ i,i≤c.Entries.length→∀ b,InO c.Entries b→Zfy c b c.Entries c.Entries.length i=some (I (oldG c.Entries (c.Entries.drop i) i b),[]):=by
 refine down _ ?_ ?_
 ·intro b hb
  refine Z4q _ _ _ _ _ _ ?_
  rw [if_neg (by omega),List.drop_length];rfl
 ·intro i hi ih b hb
  have h5:=inc64 (i:=i) (by omega)
  have hn:=(Zwc c.Entries[i] hi hb).1
  have ih:=ih _ hn
  refine Z4q _ _ _ _ _ _ ?_
  rw [if_pos (by omega)]
  refine ⟨by omega,_,List.getElem?_eq_getElem hi,?_⟩
  rw [List.drop_eq_getElem_cons hi,oldG,show w ((i:Int)+1)=((i+1:Nat):Int) from h5]
  unfold nextO at ih ⊢
  by_cases h:b<0
  ·rw [if_pos h] at ih ⊢;rw [if_pos h];exact ih
  ·rw [if_neg h] at ih ⊢;rw [if_neg h]
   rcases hb with hb | hb
   ·exact absurd hb h
   rw [List.getElem?_eq_getElem hb] at ih ⊢
   simp only at ih
   refine ⟨by omega,_,rfl,?_⟩
   simp only
   by_cases h2:c.Entries[i].Used<c.Entries[b.toNat].Used
   ·rw [if_pos h2] at ih ⊢;rw [if_pos (by simpa using h2)];exact ih
   ·rw [if_neg h2] at ih ⊢;rw [if_neg (by simpa using h2)];exact ih
theorem Zblz (c:Zn) (hl:c.Entries.length≤4294967296):Zmy c=some (I (Zbc c.Entries),[]):=Zbh8 _ _ (Zbly c hl 0 (Nat.zero_le _) (-1) (.inl (by decide)))
theorem Zbl0 (c:Zn) (hl:c.Entries.length≤4294967296):∀ i,i≤c.Entries.length→∀ b,InO c.Entries b→Zf0 c b i=some (I (oldG c.Entries (c.Entries.drop i) i b),[]):=by
 refine down _ ?_ ?_
 ·intro b hb
  refine Z4u _ _ _ _ ?_
  rw [if_neg (by omega),List.drop_length];rfl
 ·intro i hi ih b hb
  have h5:=inc64 (i:=i) (by omega)
  have hn:=(Zwc c.Entries[i] hi hb).1
  have ih:=ih _ hn
  refine Z4u _ _ _ _ ?_
  rw [if_pos (by omega)]
  rw [List.drop_eq_getElem_cons hi,oldG,show w ((i:Int)+1)=((i+1:Nat):Int) from h5]
  unfold nextO at ih ⊢
  by_cases h:b<0
  ·rw [if_pos h] at ih ⊢;rw [if_pos h];exact ih
  ·rw [if_neg h] at ih ⊢;rw [if_neg h]
   rcases hb with hb | hb
   ·exact absurd hb h
   rw [List.getElem?_eq_getElem hb] at ih ⊢
   simp only at ih
   refine ⟨by omega,_,List.getElem?_eq_getElem hi,by omega,_,rfl,?_⟩
   simp only
   by_cases h2:c.Entries[i].Used<c.Entries[b.toNat].Used
   ·rw [if_pos h2] at ih ⊢;rw [if_pos (by simpa using h2)];exact ih
   ·rw [if_neg h2] at ih ⊢;rw [if_neg (by simpa using h2)];exact ih
theorem Zbl1 (c:Zn) (hl:c.Entries.length≤4294967296):Zm4 c=some (I (Zbc c.Entries),[]):=Zbig _ _ (Zbl0 c hl 0 (Nat.zero_le _) (-1) (.inl (by decide)))
def Zdj (old:Int):List Ze→Nat→List Ze
 | [],_=>[]
 | e::r,i=>if (i:Int)=old then Zdj old r (i+1) else e::Zdj old r (i+1)
theorem Zwd {old:Int}:∀ (es:List Ze) (i:Nat),old<i→Zdj old es i=es
 | [],_,_=>rfl
 | e::r,i,h=>by
  unfold Zdj
  rw [if_neg (by omega),Zwd r (i+1) (by omega)]
theorem Z6w {k:Nat}:∀ (es:List Ze) (i:Nat),i≤k→Zdj k es i=es.take (k - i)++es.drop (k - i+1)
 | [],_,_=>by simp [Zdj]
 | e::r,i,h=>by
  unfold Zdj
  by_cases c:(i:Int)=k
  ·have:i=k:=by omega
   subst this
   rw [if_pos rfl,Zwd r (i+1) (by omega)]
   simp
  ·rw [if_neg c,Z6w r (i+1) (by omega)]
   rw [show k - i=(k - (i+1))+1 by omega]
   rfl
def Zbx (es:List Ze):List Ze:=if es.length=4 then es.take (Zbc es).toNat++es.drop ((Zbc es).toNat+1) else es
theorem Z6x (es:List Ze):(Zbx es).length≤es.length:=by
 unfold Zbx
 split
 ·rw [List.length_append,List.length_take,List.length_drop];omega
 ·exact Nat.le_refl _
theorem Zbl2 (es:List Ze):∀ x∈Zbx es,x∈es:=by
 unfold Zbx
 split
 ·intro x hx
  rcases List.mem_append.1 hx with hx | hx
  ·exact List.mem_of_mem_take hx
  ·exact List.mem_of_mem_drop hx
 ·exact fun _ h=>h
theorem Zwe {es:List Ze} (h:0<es.length):0≤Zbc es∧(Zbc es).toNat<es.length:=by
 have:=oldG_in (es:=es) 0 (Nat.zero_le _) (-1) (.inl (by decide)) (.inr h)
 simpa [Zbc] using this
abbrev newE (q:Zb) (r:Region) (v n:Int):Ze:=⟨q,r,v,n⟩
theorem newN (q:Zb) (r:Region) (v n:Int) (he:q.Atoms=[]):(⟨⟨q.Zf,[]⟩,⟨⟨r.Plan.Steps⟩,⟨r.Box.Low,r.Box.High⟩,r.Percent⟩,v,n⟩:Ze)=newE q r v n:=entE (newE q r v n) he
def adNo (c:Zn):AV×List Blk:=if c.Entries=[] then (.tup [.agg [I c.Clock,.t .nil],Bo false],[]) else (.tup [.agg [I c.Clock,.own 0],Bo false],[.arr 114 8 true (c.Entries.map Ze.c)])
def Zho (c:Zn) (q:Zb) (r:Region) (v:Int) (fr:Bool):AV×List Blk:=(.tup [.agg [I (c.Clock+1),.own 0],Bo true],[.arr 114 8 fr ((Zbx c.Entries++[newE q r v (c.Clock+1)]).map Ze.c)])
noncomputable def adOk (m:Zd) (c:Zn) (q:Zb) (r:Region) (v:Int):Bool:=Zdi m c && Zda m q r && inR v 1 999 && decide (c.Clock≠1000000)
theorem clk_w {m:Zd} {c:Zn} (hv:Zdi m c=true):w (c.Clock+1)=c.Clock+1∧c.Entries.length≤4:=by
 unfold Zdi at hv
 simp only [Bool.and_eq_true,decide_eq_true_eq] at hv
 have hk:=hv.1
 simp [inR] at hk
 exact ⟨wrap64 (by omega) (by omega),by omega⟩
theorem Zbl3 (m:Zd) (hm:LeM m) (c:Zn) (h:Lc c.Entries) (q:Zb) (hq:Lq q) (v:Int) (r:Region) (hr:Lr r) :
  Zpc m c q v r=some (if adOk m c q r v=true then Zho c q r v true else adNo c):=by
 have q1:=Zblq c h
 have q2:=Zblj m hm c h.le
 have q3:=Z6s (r:=r) hm hq.le ⟨by have:=hr.2.1;omega,by have:=hr.2.2;omega⟩
 have q4:=Zv6 q hq
 have q5:=Zv7 r hr
 unfold cRes at q1
 unfold qRes at q4
 unfold adOk
 refine Zbh9 _ _ _ _ _ _ ?_
 by_cases he:c.Entries=[]
 ·rw [if_pos he] at q1
  refine .inl ⟨_,q1,_,q2,?_⟩
  have no:(.tup [.agg [I c.Clock,.t .nil],Bo false],[])=adNo c:=by unfold adNo;rw [if_pos he]
  rcases tf (Zdi m c) with e | e
  ·rw [e,if_neg (by decide),no];simp
  rw [if_pos e]
  refine ⟨_,q3,?_⟩
  rcases tf (Zda m q r) with e2 | e2
  ·rw [e2,if_neg (by decide),no];simp
  rw [if_pos e2]
  refine ⟨_,Zcd _ _ _,?_⟩
  rcases tf (inR v 1 999) with e3 | e3
  ·rw [e3,if_neg (by decide),no];simp
  rw [if_pos e3]
  by_cases hc:c.Clock=1000000
  ·rw [if_pos hc,no];simp [hc]
  have hok:(Zdi m c && Zda m q r && inR v 1 999 && decide (c.Clock≠1000000))=true:=by simp [e,e2,e3,hc]
  rw [if_neg hc,if_pos hok]
  have hk:Zbx c.Entries=[]:=by rw [he];rfl
  unfold Zho
  rw [hk,(clk_w e).1]
  by_cases ha:q.Atoms=[]
  ·rw [if_pos ha] at q4
   exact .inl ⟨_,q4,_,_,_,_,q5,by rw [newN q r v _ ha];rfl⟩
  ·rw [if_neg ha] at q4
   exact .inr ⟨_,_,q4,_,_,_,_,q5,rfl⟩
 ·rw [if_neg he] at q1
  refine .inr ⟨_,_,q1,_,q2,?_⟩
  have no:(.tup [.agg [I c.Clock,.own 0],Bo false],[.arr 114 8 true (c.Entries.map Ze.c)])=adNo c:=by unfold adNo;rw [if_neg he]
  rcases tf (Zdi m c) with e | e
  ·rw [e,if_neg (by decide),no];simp
  rw [if_pos e]
  refine ⟨_,q3,?_⟩
  rcases tf (Zda m q r) with e2 | e2
  ·rw [e2,if_neg (by decide),no];simp
  rw [if_pos e2]
  refine ⟨_,Zcd _ _ _,?_⟩
  rcases tf (inR v 1 999) with e3 | e3
  ·rw [e3,if_neg (by decide),no];simp
  rw [if_pos e3]
  by_cases hc:c.Clock=1000000
  ·rw [if_pos hc,no];simp [hc]
  have hok:(Zdi m c && Zda m q r && inR v 1 999 && decide (c.Clock≠1000000))=true:=by simp [e,e2,e3,hc]
  rw [if_neg hc,if_pos hok]
  obtain ⟨hw,h4⟩:=clk_w e
  have hkl:=Z6x c.Entries
  unfold Zho
  rw [hw]
  by_cases hl:c.Entries.length=4
  ·obtain ⟨o1,o2⟩:=Zwe (es:=c.Entries) (by omega)
   have hke:Zbx c.Entries=c.Entries.take (Zbc c.Entries).toNat++c.Entries.drop ((Zbc c.Entries).toNat+1):=by unfold Zbx;rw [if_pos hl]
   have qo:=Zblz ⟨c.Clock+1,c.Entries⟩ (by show c.Entries.length≤_;omega)
   have qd:=x_Delete c.Entries o2
   rw [← hke,show (((Zbc c.Entries).toNat:Nat):Int)=Zbc c.Entries by omega] at qd
   rw [if_pos (show (c.Entries.length:Int)=4 by omega)]
   refine ⟨_,qo,_,by rw [show w (Zbc c.Entries+1)=Zbc c.Entries+1 from wrap64 (by omega) (by omega)];exact qd,?_⟩
   by_cases ha:q.Atoms=[]
   ·rw [if_pos ha] at q4
    exact .inl ⟨_,q4,_,_,_,_,q5,by omega,by rw [newN q r v _ ha]⟩
   ·rw [if_neg ha] at q4
    exact .inr ⟨_,_,q4,_,_,_,_,q5,by omega,rfl⟩
  ·have hke:Zbx c.Entries=c.Entries:=by unfold Zbx;rw [if_neg hl]
   rw [if_neg (show ¬ (c.Entries.length:Int)=4 by omega),hke]
   by_cases ha:q.Atoms=[]
   ·rw [if_pos ha] at q4
    exact .inl ⟨_,q4,_,_,_,_,q5,by omega,by rw [newN q r v _ ha]⟩
   ·rw [if_neg ha] at q4
    exact .inr ⟨_,_,q4,_,_,_,_,q5,by omega,rfl⟩
theorem Z6y (q:Zb) (hq:Lq q) (r:Region) (hr:Lr r) (a n:Int) (es:List Ze) (hl:es.length≤100) (v old:Int):∀ i,i≤es.length→∀ (fr:Bool) l,l.length≤i →
  ∃ fr2,Zf1 q r a n es fr l v old i=some (.tup [.agg [I n,.own 0],Bo true],[.arr 114 8 fr2 ((l++Zdj old (es.drop i) i++[newE q r v n]).map Ze.c)]):=by
 have q4:=Zv8 q hq
 have q5:=Zv9 r hr
 unfold qRes at q4
 refine down _ ?_ ?_
 ·intro fr l ho
  refine ⟨fr,Zuz _ _ _ _ _ _ _ _ _ _ _ ?_⟩
  rw [if_neg (by omega),List.drop_length,Zdj,List.append_nil]
  by_cases ha:q.Atoms=[]
  ·rw [if_pos ha] at q4
   exact .inl ⟨_,q4,_,_,_,_,q5,by omega,by rw [newN q r v _ ha]⟩
  ·rw [if_neg ha] at q4
   exact .inr ⟨_,_,q4,_,_,_,_,q5,by omega,rfl⟩
 ·intro i hi ih fr l ho
  have h5:=inc64 (i:=i) (by omega)
  by_cases c:(i:Int)=old
  ·obtain ⟨fr2,ih⟩:=ih fr l (by omega)
   refine ⟨fr2,Zuz _ _ _ _ _ _ _ _ _ _ _ ?_⟩
   rw [if_pos (by omega),if_pos c,List.drop_eq_getElem_cons hi,Zdj,if_pos c,show w ((i:Int)+1)=((i+1:Nat):Int) from h5]
   exact ih
  ·obtain ⟨fr2,ih⟩:=ih false (l++[es[i]]) (by simp;omega)
   refine ⟨fr2,Zuz _ _ _ _ _ _ _ _ _ _ _ ?_⟩
   rw [if_pos (by omega),if_neg c,List.drop_eq_getElem_cons hi,Zdj,if_neg c,show w ((i:Int)+1)=((i+1:Nat):Int) from h5]
   refine ⟨by omega,_,List.getElem?_eq_getElem hi,by omega,?_⟩
   rw [ih];simp
theorem Zbl4 (m:Zd) (hm:LeM m) (c:Zn) (h:Lc c.Entries) (q:Zb) (hq:Lq q) (v:Int) (r:Region) (hr:Lr r) :
  ∃ fr,Zpf m c q v r=some (if adOk m c q r v=true then Zho c q r v fr else adNo c):=by
 have q1:=Zblu c h
 have q2:=Zblm m hm c h.le
 have q3:=Z6t (r:=r) hm hq.le ⟨by have:=hr.2.1;omega,by have:=hr.2.2;omega⟩
 have q4:=Zv8 q hq
 have q5:=Zv9 r hr
 unfold cRes at q1
 unfold qRes at q4
 by_cases ok:adOk m c q r v=true
 ·simp only [if_pos ok]
  unfold adOk at ok
  simp only [Bool.and_eq_true,decide_eq_true_eq] at ok
  obtain ⟨⟨⟨e,e2⟩,e3⟩,hc⟩:=ok
  obtain ⟨hw,h4⟩:=clk_w e
  by_cases he:c.Entries=[]
  ·rw [if_pos he] at q1
   refine ⟨true,Zpk _ _ _ _ _ _ (.inl ⟨_,q1,_,q2,?_⟩)⟩
   rw [if_pos e]
   refine ⟨_,q3,?_⟩
   rw [if_pos e2]
   refine ⟨_,Zck _ _ _,?_⟩
   rw [if_pos e3,if_neg hc]
   refine Zbih _ _ _ _ _ _ _ _ _ ?_
   have hk:Zbx c.Entries=[]:=by rw [he];rfl
   unfold Zho
   rw [if_neg (by decide),hk,hw]
   by_cases ha:q.Atoms=[]
   ·rw [if_pos ha] at q4
    exact .inl ⟨_,q4,_,_,_,_,q5,by simp,by rw [newN q r v _ ha]⟩
   ·rw [if_neg ha] at q4
    exact .inr ⟨_,_,q4,_,_,_,_,q5,by simp,rfl⟩
  ·rw [if_neg he] at q1
   by_cases hl:c.Entries.length=4
   ·obtain ⟨o1,o2⟩:=Zwe (es:=c.Entries) (by omega)
    have hke:Zbx c.Entries=Zdj (Zbc c.Entries) c.Entries 0:=by
     unfold Zbx
     rw [if_pos hl]
     have:=Z6w (k:=(Zbc c.Entries).toNat) c.Entries 0 (Nat.zero_le _)
     rw [show (((Zbc c.Entries).toNat:Nat):Int)=Zbc c.Entries by omega] at this
     simpa using this.symm
    obtain ⟨fr,ql⟩:=Z6y q hq r hr 0 (w (c.Clock+1)) c.Entries (by omega) v (Zbc c.Entries) 0 (Nat.zero_le _) true [] (Nat.zero_le _)
    refine ⟨fr,Zpk _ _ _ _ _ _ (.inr ⟨_,_,q1,_,q2,?_⟩)⟩
    rw [if_pos e]
    refine ⟨_,q3,?_⟩
    rw [if_pos e2]
    refine ⟨_,Zck _ _ _,?_⟩
    rw [if_pos e3,if_neg hc,if_pos (show (c.Entries.length:Int)=4 by omega),hw]
    refine ⟨_,Zbl1 ⟨c.Clock+1,c.Entries⟩ (by show c.Entries.length≤_;omega),?_⟩
    unfold Zho
    rw [hw] at ql
    rw [hke]
    simpa using ql
   ·have hke:Zbx c.Entries=Zdj (-1) c.Entries 0:=by
     unfold Zbx
     rw [if_neg hl,Zwd _ _ (by decide)]
    obtain ⟨fr,ql⟩:=Z6y q hq r hr 0 (w (c.Clock+1)) c.Entries (by omega) v (-1) 0 (Nat.zero_le _) true [] (Nat.zero_le _)
    refine ⟨fr,Zpk _ _ _ _ _ _ (.inr ⟨_,_,q1,_,q2,?_⟩)⟩
    rw [if_pos e]
    refine ⟨_,q3,?_⟩
    rw [if_pos e2]
    refine ⟨_,Zck _ _ _,?_⟩
    rw [if_pos e3,if_neg hc,if_neg (show ¬ (c.Entries.length:Int)=4 by omega)]
    unfold Zho
    rw [hw] at ql ⊢
    rw [hke]
    simpa using ql
 ·simp only [if_neg ok]
  unfold adOk at ok
  refine ⟨true,Zpk _ _ _ _ _ _ ?_⟩
  by_cases he:c.Entries=[]
  ·rw [if_pos he] at q1
   have no:(.tup [.agg [I c.Clock,.t .nil],Bo false],[])=adNo c:=by unfold adNo;rw [if_pos he]
   refine .inl ⟨_,q1,_,q2,?_⟩
   rcases tf (Zdi m c) with e | e
   ·rw [e,if_neg (by decide),no]
   rw [if_pos e]
   refine ⟨_,q3,?_⟩
   rcases tf (Zda m q r) with e2 | e2
   ·rw [e2,if_neg (by decide),no]
   rw [if_pos e2]
   refine ⟨_,Zck _ _ _,?_⟩
   rcases tf (inR v 1 999) with e3 | e3
   ·rw [e3,if_neg (by decide),no]
   rw [if_pos e3]
   by_cases hc:c.Clock=1000000
   ·rw [if_pos hc,no]
   ·exact absurd (by simp [e,e2,e3,hc]) ok
  ·rw [if_neg he] at q1
   have no:(.tup [.agg [I c.Clock,.own 0],Bo false],[.arr 114 8 true (c.Entries.map Ze.c)])=adNo c:=by unfold adNo;rw [if_neg he]
   refine .inr ⟨_,_,q1,_,q2,?_⟩
   rcases tf (Zdi m c) with e | e
   ·rw [e,if_neg (by decide),no]
   rw [if_pos e]
   refine ⟨_,q3,?_⟩
   rcases tf (Zda m q r) with e2 | e2
   ·rw [e2,if_neg (by decide),no]
   rw [if_pos e2]
   refine ⟨_,Zck _ _ _,?_⟩
   rcases tf (inR v 1 999) with e3 | e3
   ·rw [e3,if_neg (by decide),no]
   rw [if_pos e3]
   by_cases hc:c.Clock=1000000
   ·rw [if_pos hc,no]
   ·exact absurd (by simp [e,e2,e3,hc]) ok
def Zhp:MFun:=⟨5,170,[.tmp 10],.r [.bx 5 0,.bx 6 1,.bx 7 2,.bx 9 4,.o 10 (.mov (.q false))] [3,5,6,7,9] (.r [.mk' 11 1048576] [3,5,6,7,9,11] (.r [.ln 25 30 5,.m 26 11,.cl 27 13 [25,26],.m 11 27] [3,5,6,7,9,11] (.wc [.m 28 11,.bk 29 .lss 28 0] [3,5,6,7,9,11,29] 29 (.r [.o 10 (.mov (.q true))] [10] .ret) (.r [.ln 30 2 6,.m 31 11,.cl 32 52 [30,31],.m 11 32] [3,5,6,7,9,11] (.wc [.m 33 11,.bk 34 .lss 33 0] [3,5,6,7,9,11,34] 34 (.r [.o 10 (.mov (.q true))] [10] .ret) (.r [.ln 35 2 7,.m 36 11,.cl 37 14 [35,36],.m 11 37] [3,5,6,7,9,11] (.wc [.m 38 11,.bk 39 .lss 38 0] [3,5,6,7,9,11,39] 39 (.r [.o 10 (.mov (.q true))] [10] .ret) (.r [.ln 40 4 9,.m 41 11,.cl 42 34 [40,41],.m 11 42] [3,5,6,7,9,11] (.wc [.m 43 11,.bk 44 .lss 43 0] [3,5,6,7,9,44] 44 (.r [.o 10 (.mov (.q true))] [10] .ret) (.seq (.drw [.ln 46 30 5,.xl 47 18 [46],.ln 48 2 6,.xl 49 54 [48],.ln 50 2 7,.xl 51 19 [50],.m 52 3,.ln 53 4 9,.xl 54 36 [53],.o 55 (.icall 74 [.s 47,.s 49,.s 51,.s 52,.s 54]),.m 45 55,.o 56 (.ext (.s 45) 0),.o 57 (.ext (.s 45) 1),.o 12 (.alloc [.t .z,.t .nil]),.st 2 12 56,.m 13 57] [[],[0],[],[2,1],[],[4,3],[],[],[7,5],[1,3,5,6,8,8],[9],[10],[10],[],[13,11,9,0,1,2,3,4,5,6,7,8,9,10,11,13],[12,14,0,1,2,3,4,5,6,7,8,9,10,11,12,13,14]] [3,5,6,7,9,12,13]) (.r [.ln 58 30 5,.xl 59 18 [58],.o 14 (.alloc [.t .z,.t .z,.t .z,.t .z,.t .z,.t .nil,.t .z,.t .z,.t .z,.t .z,.t .z,.t .nil,.t .z,.t .z,.t .z,.t .z,.t .z,.t .nil,.t .z,.t .z,.t .z,.t .z,.t .z,.t .nil,.t .z,.t .z,.t .z,.t .z,.t .z,.t .nil]),.st 30 14 59] [3,5,6,7,9,12,13,14] (.r [.ln 60 2 6,.xl 61 54 [60],.o 15 (.alloc [.t .z,.t .nil]),.st 2 15 61] [3,5,6,7,9,12,13,14,15] (.r [.ln 62 2 7,.xl 63 19 [62],.o 16 (.alloc [.t .z,.t .nil]),.st 2 16 63] [3,5,6,7,9,12,13,14,15,16] (.r [.ln 64 4 9,.xl 65 36 [64],.o 17 (.alloc [.t .nil,.t .nil,.t .nil,.t .z]),.st 4 17 65] [3,5,6,7,9,12,13,14,15,16,17] (.r [.ln 67 30 14,.ln 68 2 15,.ln 69 2 16,.m 70 3,.ln 71 4 17,.xl 72 73 [67,68,69,70,71],.m 66 72,.o 73 (.ext (.s 66) 0),.o 74 (.ext (.s 66) 1),.o 18 (.alloc [.t .z,.t .nil]),.st 2 18 73,.m 19 74] [3,5,6,7,9,12,13,14,15,16,17,18,19] (.wc [.ln 75 2 18,.ln 76 2 12,.cl 77 56 [75,76],.o 78 (.un .not (.s 77)),.m 79 78,.h 80 79 (.mov (.s 19)),.h 81 79 (.mov (.s 13)),.h 82 79 (.beq true (.s 80) (.s 81)),.o 83 (.pick (.s 79) (.q true) (.s 82))] [3,5,6,7,9,12,13,14,15,16,17,18,19,83] 83 (.r [.o 10 (.mov (.q false))] [10] .ret) (.seq (.seq (.drw [.ln 84 30 14,.ln 85 30 5,.xl 86 18 [85],.cl 87 24 [84,86],.o 88 (.un .not (.s 87))] [[],[],[1],[0,2,2],[3]] [3,5,6,7,9,12,13,14,15,16,17,18,19,88]) (.cond (.s 88) (.r [.o 10 (.mov (.q false))] [10] .ret) .skip)) (.seq (.seq (.drw [.ln 89 2 15,.ln 90 2 6,.xl 91 54 [90],.cl 92 56 [89,91],.o 93 (.un .not (.s 92))] [[],[],[1],[0,2,2],[3]] [3,5,6,7,9,12,13,14,15,16,17,18,19,93]) (.cond (.s 93) (.r [.o 10 (.mov (.q false))] [10] .ret) .skip)) (.seq (.seq (.drw [.ln 94 2 16,.ln 95 2 7,.xl 96 19 [95],.cl 97 25 [94,96],.o 98 (.un .not (.s 97))] [[],[],[1],[0,2,2],[3]] [3,5,6,7,9,12,13,14,15,16,17,18,19,98]) (.cond (.s 98) (.r [.o 10 (.mov (.q false))] [10] .ret) .skip)) (.seq (.seq (.drw [.ln 99 4 17,.ln 100 4 9,.xl 101 36 [100],.cl 102 38 [99,101],.o 103 (.un .not (.s 102))] [[],[],[1],[0,2,2],[3]] [3,5,6,7,9,12,13,14,15,16,17,18,19,103]) (.cond (.s 103) (.r [.o 10 (.mov (.q false))] [10] .ret) .skip)) (.r [.mk' 20 1] [3,5,6,7,9,12,13,14,15,16,17,18,19,20] (.r [.ln 104 30 14,.m 105 20,.o 106 (.icall 28 [.s 104,.s 105]),.m 20 106] [3,5,6,7,9,12,13,15,16,17,18,19,20] (.r [.ln 107 2 15,.m 108 20,.o 109 (.icall 81 [.s 107,.s 108]),.m 20 109] [3,5,6,7,9,12,13,16,17,18,19,20] (.r [.ln 110 2 16,.m 111 20,.o 112 (.icall 29 [.s 110,.s 111]),.m 20 112] [3,5,6,7,9,12,13,17,18,19,20] (.r [.ln 113 4 17,.m 114 20,.o 115 (.icall 62 [.s 113,.s 114]),.m 20 115] [3,5,6,7,9,12,13,18,19,20] (.wc [.m 116 20,.bk 117 .lss 116 0,.m 118 117,.h 119 118 (.ln 2 18),.h 120 118 (.ln 2 12),.h 121 118 (.cl 56 [119,120]),.h 122 118 (.un .not (.s 121)),.o 123 (.pick (.s 118) (.q true) (.s 122)),.m 124 123,.h 125 124 (.mov (.s 19)),.h 126 124 (.mov (.s 13)),.h 127 124 (.beq true (.s 125) (.s 126)),.o 128 (.pick (.s 124) (.q true) (.s 127))] [3,5,6,7,9,12,13,18,128] 128 (.r [.o 10 (.mov (.q false))] [10] .ret) (.r [.mk' 21 1] [3,5,6,7,9,12,13,18,21] (.r [.ln 129 2 18,.m 130 21,.o 131 (.icall 81 [.s 129,.s 130]),.m 21 131] [3,5,6,7,9,12,13,18,21] (.r [.mk' 22 1] [3,5,6,7,9,12,13,18,21,22] (.r [.ln 132 2 18,.m 133 22,.cl 134 82 [132,133],.m 22 134] [3,5,6,7,9,12,13,18,21,22] (.wc [.m 135 22,.bk 136 .lss 135 0] [3,5,6,7,9,12,13,18,21,22,136] 136 (.r [.o 10 (.mov (.q false))] [10] .ret) (.wc [.m 137 22,.m 138 21,.b 139 .neq 137 138] [3,5,6,7,9,12,13,18,21,139] 139 (.r [.o 10 (.mov (.q false))] [10] .ret) (.seq (.drw [.ln 141 30 5,.xl 142 18 [141],.ln 143 2 6,.xl 144 54 [143],.ln 145 2 7,.xl 146 19 [145],.m 147 3,.ln 148 4 9,.xl 149 36 [148],.xl 150 73 [142,144,146,147,149],.m 140 150,.o 151 (.ext (.s 140) 0),.o 152 (.ext (.s 140) 1),.o 23 (.alloc [.t .z,.t .nil]),.st 2 23 151,.m 24 152] [[],[0],[],[2,1],[],[4,3],[],[],[7,5],[1,3,5,6,8,8],[9],[10],[10],[],[13,11,9,0,1,2,3,4,5,6,7,8,9,10,11,13],[12,14,0,1,2,3,4,5,6,7,8,9,10,11,12,13,14]] [12,13,18,21,23,24]) (.wc [.ln 153 2 23,.ln 154 2 12,.cl 155 56 [153,154],.o 156 (.un .not (.s 155)),.m 157 156,.h 158 157 (.mov (.s 24)),.h 159 157 (.mov (.s 13)),.h 160 157 (.beq true (.s 158) (.s 159)),.o 161 (.pick (.s 157) (.q true) (.s 160))] [18,21,161] 161 (.r [.o 10 (.mov (.q false))] [10] .ret) (.r [.mk' 22 1] [18,21,22] (.r [.ln 162 2 18,.m 163 22,.cl 164 82 [162,163],.m 22 164] [21,22] (.wc [.m 165 22,.bk 166 .lss 165 0] [21,22,166] 166 (.r [.o 10 (.mov (.q false))] [10] .ret) (.wc [.m 167 22,.m 168 21,.b 169 .neq 167 168] [169] 169 (.r [.o 10 (.mov (.q false))] [10] .ret) (.r [.o 10 (.mov (.q true))] [10] .ret)))))))))))))))))))))))))))))))))))))))⟩
theorem Zbl5:tbl 11=some Zhp:=tblOf_eq Tryz.func11 (by kernel_rfl) (by kernel_rfl)
def Z6z:MFun:=⟨2,36,[.tmp 4],.r [.bx 2 0,.mk' 4 0] [1,2] (.r [.fa 5 0 2,.ln 6 6 5,.m 7 1,.cl 8 84 [6,7],.m 1 8] [1,2] (.wc [.m 9 1,.bk 10 .lss 9 0] [1,2,10] 10 (.r [.mk' 4 (-1)] [4] .ret) (.r [.fa 11 6 2,.ln 12 6 11,.m 13 1,.cl 14 84 [12,13],.m 1 14] [1,2] (.wc [.m 15 1,.bk 16 .lss 15 0] [1,2,16] 16 (.r [.mk' 4 (-1)] [4] .ret) (.r [.fa 17 12 2,.ln 18 6 17,.m 19 1,.cl 20 84 [18,19],.m 1 20] [1,2] (.wc [.m 21 1,.bk 22 .lss 21 0] [1,2,22] 22 (.r [.mk' 4 (-1)] [4] .ret) (.r [.fa 23 18 2,.ln 24 6 23,.m 25 1,.cl 26 84 [24,25],.m 1 26] [1,2] (.wc [.m 27 1,.bk 28 .lss 27 0] [1,2,28] 28 (.r [.mk' 4 (-1)] [4] .ret) (.r [.fa 29 24 2,.ln 30 6 29,.m 31 1,.cl 32 84 [30,31],.m 1 32] [1] (.wc [.m 33 1,.bk 34 .lss 33 0] [1,34] 34 (.r [.mk' 4 (-1)] [4] .ret) (.r [.m 35 1,.m 4 35] [4] .ret)))))))))))⟩
theorem Zbl6:tbl 13=some Z6z:=tblOf_eq Tryz.func13 (by kernel_rfl) (by kernel_rfl)
def Z60:MFun:=⟨2,12,[.tmp 4],.r [.bx 2 0,.mk' 4 0] [1,2] (.r [.fa 5 1 2,.l 6 5,.m 7 1,.cl 8 85 [6,7],.m 1 8] [1] (.wc [.m 9 1,.bk 10 .lss 9 0] [1,10] 10 (.r [.mk' 4 (-1)] [4] .ret) (.r [.m 11 1,.m 4 11] [4] .ret)))⟩
theorem Zbl7:tbl 14=some Z60:=tblOf_eq Tryz.func14 (by kernel_rfl) (by kernel_rfl)
def Z61:MFun:=⟨2,12,[.tmp 4],.r [.bx 2 0,.mk' 4 0] [1,2] (.r [.fa 5 0 2,.l 6 5,.m 7 1,.cl 8 86 [6,7],.m 1 8] [1] (.wc [.m 9 1,.bk 10 .lss 9 0] [1,10] 10 (.r [.mk' 4 (-1)] [4] .ret) (.r [.m 11 1,.m 4 11] [4] .ret)))⟩
theorem Zbl8:tbl 15=some Z61:=tblOf_eq Tryz.func15 (by kernel_rfl) (by kernel_rfl)
def Z62:MFun:=⟨1,25,[.cell 2 (some 30)],.r [.bx 1 0,.o 2 (.alloc [.t .z,.t .z,.t .z,.t .z,.t .z,.t .nil,.t .z,.t .z,.t .z,.t .z,.t .z,.t .nil,.t .z,.t .z,.t .z,.t .z,.t .z,.t .nil,.t .z,.t .z,.t .z,.t .z,.t .z,.t .nil,.t .z,.t .z,.t .z,.t .z,.t .z,.t .nil])] [1,2] (.r [.o 3 (.alloc [.t .z,.t .z,.t .z,.t .z,.t .z,.t .nil,.t .z,.t .z,.t .z,.t .z,.t .z,.t .nil,.t .z,.t .z,.t .z,.t .z,.t .z,.t .nil,.t .z,.t .z,.t .z,.t .z,.t .z,.t .nil,.t .z,.t .z,.t .z,.t .z,.t .z,.t .nil])] [1,2,3] (.r [.fa 4 0 1,.ln 5 6 4,.cl 6 95 [5],.fa 7 0 3,.st 6 7 6] [1,2,3] (.r [.fa 8 6 1,.ln 9 6 8,.cl 10 95 [9],.fa 11 6 3,.st 6 11 10] [1,2,3] (.r [.fa 12 12 1,.ln 13 6 12,.cl 14 95 [13],.fa 15 12 3,.st 6 15 14] [1,2,3] (.r [.fa 16 18 1,.ln 17 6 16,.cl 18 95 [17],.fa 19 18 3,.st 6 19 18] [1,2,3] (.r [.fa 20 24 1,.ln 21 6 20,.cl 22 95 [21],.fa 23 24 3,.st 6 23 22] [2,3] (.r [.ln 24 30 3,.st 30 2 24] [2] .ret)))))))⟩
theorem Zbl9:tbl 18=some Z62:=tblOf_eq Tryz.func18 (by kernel_rfl) (by kernel_rfl)
def Z63:MFun:=⟨1,12,[.cell 2 (some 2)],.r [.bx 1 0,.o 2 (.alloc [.t .z,.t .nil])] [1,2] (.r [.o 3 (.alloc [.t .z,.t .nil])] [1,2,3] (.r [.fa 4 0 1,.l 5 4,.fa 6 0 3,.st 1 6 5] [1,2,3] (.r [.fa 7 1 1,.l 8 7,.cl 9 96 [8],.fa 10 1 3,.st 1 10 9] [2,3] (.r [.ln 11 2 3,.st 2 2 11] [2] .ret))))⟩
theorem Zbma:tbl 19=some Z63:=tblOf_eq Tryz.func19 (by kernel_rfl) (by kernel_rfl)
def Z64:MFun:=⟨1,9,[.cell 2 (some 1)],.r [.bx 1 0,.o 2 (.alloc [.t .nil])] [1,2] (.r [.o 3 (.alloc [.t .nil])] [1,2,3] (.r [.fa 4 0 1,.l 5 4,.cl 6 97 [5],.fa 7 0 3,.st 1 7 6] [2,3] (.r [.ln 8 1 3,.st 1 2 8] [2] .ret)))⟩
theorem Zbmb:tbl 20=some Z64:=tblOf_eq Tryz.func20 (by kernel_rfl) (by kernel_rfl)
def Zqa:MCode :=.we [.m 11 5,.m 12 0,.ll 13 12,.b 14 .lss 11 13] [0,1,5,14] 14 0 (.seq (.block 1 (.seq (.drw [.m 17 0,.m 18 5,.ia 19 1 17 18,.l 20 19,.m 21 1,.m 22 5,.ia 23 1 21 22,.l 24 23,.b 25 .neq 20 24] [[],[],[0,1],[2],[],[],[4,5],[6],[3,7]] [0,1,5,25]) (.cond (.s 25) (.r [.o 4 (.mov (.q false))] [4] .ret) .skip))) (.reg [.m 15 5,.bk 16 .add 15 1,.m 5 16] [0,1,5]))
def Zwf:MFun:=⟨2,26,[.tmp 4],.r [.o 4 (.mov (.q false))] [0,1] (.wc [.m 6 0,.ll 7 6,.m 8 1,.ll 9 8,.b 10 .neq 7 9] [0,1,10] 10 (.r [.o 4 (.mov (.q false))] [4] .ret) (.seq (.r [.mk' 5 0] [0,1,5] (.block 0 (.loop [0,1,5] Zqa))) (.r [.o 4 (.mov (.q true))] [4] .ret)))⟩
theorem Zbmc:tbl 23=some Zwf:=tblOf_eq Tryz.func23 (by kernel_rfl) (by kernel_rfl)
def Z65:MFun:=⟨2,35,[.tmp 4],.r [.bx 2 0,.bx 3 1,.o 4 (.mov (.q false))] [2,3] (.wc [.fa 5 0 2,.ln 6 6 5,.fa 7 0 3,.ln 8 6 7,.cl 9 109 [6,8],.o 10 (.un .not (.s 9))] [2,3,10] 10 (.r [.o 4 (.mov (.q false))] [4] .ret) (.wc [.fa 11 6 2,.ln 12 6 11,.fa 13 6 3,.ln 14 6 13,.cl 15 109 [12,14],.o 16 (.un .not (.s 15))] [2,3,16] 16 (.r [.o 4 (.mov (.q false))] [4] .ret) (.wc [.fa 17 12 2,.ln 18 6 17,.fa 19 12 3,.ln 20 6 19,.cl 21 109 [18,20],.o 22 (.un .not (.s 21))] [2,3,22] 22 (.r [.o 4 (.mov (.q false))] [4] .ret) (.wc [.fa 23 18 2,.ln 24 6 23,.fa 25 18 3,.ln 26 6 25,.cl 27 109 [24,26],.o 28 (.un .not (.s 27))] [2,3,28] 28 (.r [.o 4 (.mov (.q false))] [4] .ret) (.wc [.fa 29 24 2,.ln 30 6 29,.fa 31 24 3,.ln 32 6 31,.cl 33 109 [30,32],.o 34 (.un .not (.s 33))] [34] 34 (.r [.o 4 (.mov (.q false))] [4] .ret) (.r [.o 4 (.mov (.q true))] [4] .ret))))))⟩
theorem Zbmd:tbl 24=some Z65:=tblOf_eq Tryz.func24 (by kernel_rfl) (by kernel_rfl)
def Z66:MFun:=⟨2,16,[.tmp 4],.r [.bx 2 0,.bx 3 1,.o 4 (.mov (.q false))] [2,3] (.wc [.fa 5 0 2,.l 6 5,.fa 7 0 3,.l 8 7,.b 9 .neq 6 8] [2,3,9] 9 (.r [.o 4 (.mov (.q false))] [4] .ret) (.wc [.fa 10 1 2,.l 11 10,.fa 12 1 3,.l 13 12,.cl 14 110 [11,13],.o 15 (.un .not (.s 14))] [15] 15 (.r [.o 4 (.mov (.q false))] [4] .ret) (.r [.o 4 (.mov (.q true))] [4] .ret)))⟩
theorem Zbme:tbl 25=some Z66:=tblOf_eq Tryz.func25 (by kernel_rfl) (by kernel_rfl)
def Z67:MFun:=⟨2,11,[.tmp 4],.r [.bx 2 0,.bx 3 1,.o 4 (.mov (.q false))] [2,3] (.wc [.fa 5 0 2,.l 6 5,.fa 7 0 3,.l 8 7,.cl 9 111 [6,8],.o 10 (.un .not (.s 9))] [10] 10 (.r [.o 4 (.mov (.q false))] [4] .ret) (.r [.o 4 (.mov (.q true))] [4] .ret))⟩
theorem Zbmf:tbl 26=some Z67:=tblOf_eq Tryz.func26 (by kernel_rfl) (by kernel_rfl)
def Z68:MFun:=⟨2,26,[.tmp 4],.r [.bx 2 0,.mk' 4 0] [1,2] (.r [.fa 5 0 2,.ln 6 6 5,.m 7 1,.o 8 (.icall 113 [.s 6,.s 7]),.m 1 8] [1,2] (.r [.fa 9 6 2,.ln 10 6 9,.m 11 1,.o 12 (.icall 113 [.s 10,.s 11]),.m 1 12] [1,2] (.r [.fa 13 12 2,.ln 14 6 13,.m 15 1,.o 16 (.icall 113 [.s 14,.s 15]),.m 1 16] [1,2] (.r [.fa 17 18 2,.ln 18 6 17,.m 19 1,.o 20 (.icall 113 [.s 18,.s 19]),.m 1 20] [1,2] (.r [.fa 21 24 2,.ln 22 6 21,.m 23 1,.o 24 (.icall 113 [.s 22,.s 23]),.m 1 24] [1] (.r [.m 25 1,.m 4 25] [4] .ret))))))⟩
theorem Zbmg:tbl 28=some Z68:=tblOf_eq Tryz.func28 (by kernel_rfl) (by kernel_rfl)
def Z69:MFun:=⟨2,10,[.tmp 4],.r [.bx 2 0,.mk' 4 0] [1,2] (.r [.fa 5 1 2,.o 6 (.loadU (.s 5)),.m 7 1,.o 8 (.scall 114 [.s 6,.s 7] (.s 5)),.m 1 8] [1] (.r [.m 9 1,.m 4 9] [4] .ret))⟩
theorem Zbmh:tbl 29=some Z69:=tblOf_eq Tryz.func29 (by kernel_rfl) (by kernel_rfl)
def Z7a:MFun:=⟨2,10,[.tmp 4],.r [.bx 2 0,.mk' 4 0] [1,2] (.r [.fa 5 0 2,.o 6 (.loadU (.s 5)),.m 7 1,.o 8 (.scall 115 [.s 6,.s 7] (.s 5)),.m 1 8] [1] (.r [.m 9 1,.m 4 9] [4] .ret))⟩
theorem Zbmi:tbl 30=some Z7a:=tblOf_eq Tryz.func30 (by kernel_rfl) (by kernel_rfl)
def Znr:MCode :=.we [.m 6 5,.m 7 0,.ll 8 7,.b 9 .lss 6 8] [0,1,5,9] 9 0 (.seq (.block 1 (.r [.m 12 0,.m 13 5,.m 14 1,.ia 15 1 12 13,.st 1 15 14] [0,1,5] (.reg [.m 16 1,.bk 17 .add 16 1,.m 1 17] [0,1,5]))) (.reg [.m 10 5,.bk 11 .add 10 1,.m 5 11] [0,1,5]))
def Zwg:MFun:=⟨2,19,[.tmp 4],.r [.mk' 4 0] [0,1] (.seq (.r [.mk' 5 0] [0,1,5] (.block 0 (.loop [0,1,5] Znr))) (.r [.m 18 1,.m 4 18] [4] .ret))⟩
theorem Z7b:tbl 32=some Zwg:=tblOf_eq Tryz.func32 (by kernel_rfl) (by kernel_rfl)
def Zqb:MCode :=.we [.m 6 5,.m 7 0,.ll 8 7,.b 9 .lss 6 8] [0,1,5,9] 9 0 (.seq (.block 1 (.wc [.m 12 0,.m 13 5,.ia 14 1 12 13,.l 15 14,.m 16 1,.b 17 .neq 15 16] [0,1,5,17] 17 (.r [.mk' 4 (-1)] [4] .ret) (.reg [.m 18 1,.bk 19 .add 18 1,.m 1 19] [0,1,5]))) (.reg [.m 10 5,.bk 11 .add 10 1,.m 5 11] [0,1,5]))
def Z7c:MFun:=⟨2,21,[.tmp 4],.r [.mk' 4 0] [0,1] (.seq (.r [.mk' 5 0] [0,1,5] (.block 0 (.loop [0,1,5] Zqb))) (.r [.m 20 1,.m 4 20] [4] .ret))⟩
theorem Zbmj:tbl 33=some Z7c:=tblOf_eq Tryz.func33 (by kernel_rfl) (by kernel_rfl)
def Z7d:MFun:=⟨2,18,[.tmp 4],.r [.bx 2 0,.mk' 4 0] [1,2] (.r [.fa 5 0 2,.ln 6 1 5,.m 7 1,.cl 8 15 [6,7],.m 1 8] [1,2] (.wc [.m 9 1,.bk 10 .lss 9 0] [1,2,10] 10 (.r [.mk' 4 (-1)] [4] .ret) (.r [.fa 11 1 2,.ln 12 2 11,.m 13 1,.cl 14 57 [12,13],.m 1 14] [1] (.wc [.m 15 1,.bk 16 .lss 15 0] [1,16] 16 (.r [.mk' 4 (-1)] [4] .ret) (.r [.m 17 1,.m 4 17] [4] .ret)))))⟩
theorem Zbmk:tbl 34=some Z7d:=tblOf_eq Tryz.func34 (by kernel_rfl) (by kernel_rfl)
def Z7e:MFun:=⟨1,16,[.cell 2 (some 4)],.r [.bx 1 0,.o 2 (.alloc [.t .nil,.t .nil,.t .nil,.t .z])] [1,2] (.r [.o 3 (.alloc [.t .nil,.t .nil,.t .nil,.t .z])] [1,2,3] (.r [.fa 4 0 1,.ln 5 1 4,.cl 6 20 [5],.fa 7 0 3,.st 1 7 6] [1,2,3] (.r [.fa 8 1 1,.ln 9 2 8,.cl 10 58 [9],.fa 11 1 3,.st 2 11 10] [1,2,3] (.r [.fa 12 3 1,.l 13 12,.fa 14 3 3,.st 1 14 13] [2,3] (.r [.ln 15 4 3,.st 4 2 15] [2] .ret)))))⟩
theorem Zbml:tbl 36=some Z7e:=tblOf_eq Tryz.func36 (by kernel_rfl) (by kernel_rfl)
def Z7f:MFun:=⟨2,22,[.tmp 4],.r [.bx 2 0,.bx 3 1,.o 4 (.mov (.q false))] [2,3] (.wc [.fa 5 0 2,.ln 6 1 5,.fa 7 0 3,.ln 8 1 7,.cl 9 26 [6,8],.o 10 (.un .not (.s 9))] [2,3,10] 10 (.r [.o 4 (.mov (.q false))] [4] .ret) (.wc [.fa 11 1 2,.ln 12 2 11,.fa 13 1 3,.ln 14 2 13,.cl 15 60 [12,14],.o 16 (.un .not (.s 15))] [2,3,16] 16 (.r [.o 4 (.mov (.q false))] [4] .ret) (.wc [.fa 17 3 2,.l 18 17,.fa 19 3 3,.l 20 19,.b 21 .neq 18 20] [21] 21 (.r [.o 4 (.mov (.q false))] [4] .ret) (.r [.o 4 (.mov (.q true))] [4] .ret))))⟩
theorem Zbmm:tbl 38=some Z7f:=tblOf_eq Tryz.func38 (by kernel_rfl) (by kernel_rfl)
def Z7g:MFun:=⟨2,12,[.tmp 4],.r [.bx 2 0,.mk' 4 0] [1,2] (.r [.fa 5 1 2,.l 6 5,.m 7 1,.cl 8 146 [6,7],.m 1 8] [1] (.wc [.m 9 1,.bk 10 .lss 9 0] [1,10] 10 (.r [.mk' 4 (-1)] [4] .ret) (.r [.m 11 1,.m 4 11] [4] .ret)))⟩
theorem Zbmn:tbl 52=some Z7g:=tblOf_eq Tryz.func52 (by kernel_rfl) (by kernel_rfl)
def Z7h:MFun:=⟨1,12,[.cell 2 (some 2)],.r [.bx 1 0,.o 2 (.alloc [.t .z,.t .nil])] [1,2] (.r [.o 3 (.alloc [.t .z,.t .nil])] [1,2,3] (.r [.fa 4 0 1,.l 5 4,.fa 6 0 3,.st 1 6 5] [1,2,3] (.r [.fa 7 1 1,.l 8 7,.cl 9 147 [8],.fa 10 1 3,.st 1 10 9] [2,3] (.r [.ln 11 2 3,.st 2 2 11] [2] .ret))))⟩
theorem Zbmo:tbl 54=some Z7h:=tblOf_eq Tryz.func54 (by kernel_rfl) (by kernel_rfl)
def Zwh:MFun:=⟨2,16,[.tmp 4],.r [.bx 2 0,.bx 3 1,.o 4 (.mov (.q false))] [2,3] (.wc [.fa 5 0 2,.l 6 5,.fa 7 0 3,.l 8 7,.b 9 .neq 6 8] [2,3,9] 9 (.r [.o 4 (.mov (.q false))] [4] .ret) (.wc [.fa 10 1 2,.l 11 10,.fa 12 1 3,.l 13 12,.cl 14 150 [11,13],.o 15 (.un .not (.s 14))] [15] 15 (.r [.o 4 (.mov (.q false))] [4] .ret) (.r [.o 4 (.mov (.q true))] [4] .ret)))⟩
theorem Z7i:tbl 56=some Zwh:=tblOf_eq Tryz.func56 (by kernel_rfl) (by kernel_rfl)
def Z7j:MFun:=⟨2,18,[.tmp 4],.r [.bx 2 0,.mk' 4 0] [1,2] (.r [.fa 5 0 2,.l 6 5,.m 7 1,.cl 8 151 [6,7],.m 1 8] [1,2] (.wc [.m 9 1,.bk 10 .lss 9 0] [1,2,10] 10 (.r [.mk' 4 (-1)] [4] .ret) (.r [.fa 11 1 2,.l 12 11,.m 13 1,.cl 14 151 [12,13],.m 1 14] [1] (.wc [.m 15 1,.bk 16 .lss 15 0] [1,16] 16 (.r [.mk' 4 (-1)] [4] .ret) (.r [.m 17 1,.m 4 17] [4] .ret)))))⟩
theorem Zbmp:tbl 57=some Z7j:=tblOf_eq Tryz.func57 (by kernel_rfl) (by kernel_rfl)
def Z7k:MFun:=⟨1,13,[.cell 2 (some 2)],.r [.bx 1 0,.o 2 (.alloc [.t .nil,.t .nil])] [1,2] (.r [.o 3 (.alloc [.t .nil,.t .nil])] [1,2,3] (.r [.fa 4 0 1,.l 5 4,.cl 6 59 [5],.fa 7 0 3,.st 1 7 6] [1,2,3] (.r [.fa 8 1 1,.l 9 8,.cl 10 59 [9],.fa 11 1 3,.st 1 11 10] [2,3] (.r [.ln 12 2 3,.st 2 2 12] [2] .ret))))⟩
theorem Zbmq:tbl 58=some Z7k:=tblOf_eq Tryz.func58 (by kernel_rfl) (by kernel_rfl)
def Zqc:MCode :=.we [.m 8 4,.m 9 0,.ll 10 9,.b 11 .lss 8 10] [0,3,4,11] 11 0 (.seq (.block 1 (.reg [.m 14 3,.m 15 4,.m 16 0,.m 17 4,.ia 18 1 16 17,.l 19 18,.ia 20 1 14 15,.st 1 20 19] [0,3,4])) (.reg [.m 12 4,.bk 13 .add 12 1,.m 4 13] [0,3,4]))
def Z7l:MFun:=⟨1,22,[.tmp 2],.r [.o 2 (.mov (.c (.t .nil)))] [0] (.r [.m 5 0,.ll 6 5,.o 7 (.mkslice 3 1 8 [.z] (.s 6) (.s 6)),.m 3 7] [0,3] (.seq (.r [.mk' 4 0] [0,3,4] (.block 0 (.loop [0,3,4] Zqc))) (.r [.m 21 3,.m 2 21] [2] .ret)))⟩
theorem Zbmr:tbl 59=some Z7l:=tblOf_eq Tryz.func59 (by kernel_rfl) (by kernel_rfl)
def Z7m:MFun:=⟨2,17,[.tmp 4],.r [.bx 2 0,.bx 3 1,.o 4 (.mov (.q false))] [2,3] (.wc [.fa 5 0 2,.l 6 5,.fa 7 0 3,.l 8 7,.cl 9 23 [6,8],.o 10 (.un .not (.s 9))] [2,3,10] 10 (.r [.o 4 (.mov (.q false))] [4] .ret) (.wc [.fa 11 1 2,.l 12 11,.fa 13 1 3,.l 14 13,.cl 15 23 [12,14],.o 16 (.un .not (.s 15))] [16] 16 (.r [.o 4 (.mov (.q false))] [4] .ret) (.r [.o 4 (.mov (.q true))] [4] .ret)))⟩
theorem Zbms:tbl 60=some Z7m:=tblOf_eq Tryz.func60 (by kernel_rfl) (by kernel_rfl)
def Z7n:MFun:=⟨2,14,[.tmp 4],.r [.bx 2 0,.mk' 4 0] [1,2] (.r [.fa 5 0 2,.o 6 (.loadU (.s 5)),.m 7 1,.o 8 (.scall 32 [.s 6,.s 7] (.s 5)),.m 1 8] [1,2] (.r [.fa 9 1 2,.o 10 (.loadU (.s 9)),.m 11 1,.o 12 (.scall 32 [.s 10,.s 11] (.s 9)),.m 1 12] [1] (.r [.m 13 1,.m 4 13] [4] .ret)))⟩
theorem Zbmt:tbl 61=some Z7n:=tblOf_eq Tryz.func61 (by kernel_rfl) (by kernel_rfl)
def Z7o:MFun:=⟨2,14,[.tmp 4],.r [.bx 2 0,.mk' 4 0] [1,2] (.r [.fa 5 0 2,.ln 6 1 5,.m 7 1,.o 8 (.icall 30 [.s 6,.s 7]),.m 1 8] [1,2] (.r [.fa 9 1 2,.ln 10 2 9,.m 11 1,.o 12 (.icall 61 [.s 10,.s 11]),.m 1 12] [1] (.r [.m 13 1,.m 4 13] [4] .ret)))⟩
theorem Zbmu:tbl 62=some Z7o:=tblOf_eq Tryz.func62 (by kernel_rfl) (by kernel_rfl)
def Zwi:MFun:=⟨2,10,[.tmp 4],.r [.bx 2 0,.mk' 4 0] [1,2] (.r [.fa 5 1 2,.o 6 (.loadU (.s 5)),.m 7 1,.o 8 (.scall 175 [.s 6,.s 7] (.s 5)),.m 1 8] [1] (.r [.m 9 1,.m 4 9] [4] .ret))⟩
theorem Z7p:tbl 81=some Zwi:=tblOf_eq Tryz.func81 (by kernel_rfl) (by kernel_rfl)
def Zwj:MFun:=⟨2,12,[.tmp 4],.r [.bx 2 0,.mk' 4 0] [1,2] (.r [.fa 5 1 2,.l 6 5,.m 7 1,.cl 8 176 [6,7],.m 1 8] [1] (.wc [.m 9 1,.bk 10 .lss 9 0] [1,10] 10 (.r [.mk' 4 (-1)] [4] .ret) (.r [.m 11 1,.m 4 11] [4] .ret)))⟩
theorem Z7q:tbl 82=some Zwj:=tblOf_eq Tryz.func82 (by kernel_rfl) (by kernel_rfl)
def Z7r:MFun:=⟨2,12,[.tmp 4],.r [.bx 2 0,.mk' 4 0] [1,2] (.r [.fa 5 5 2,.l 6 5,.m 7 1,.cl 8 178 [6,7],.m 1 8] [1] (.wc [.m 9 1,.bk 10 .lss 9 0] [1,10] 10 (.r [.mk' 4 (-1)] [4] .ret) (.r [.m 11 1,.m 4 11] [4] .ret)))⟩
theorem Zbmv:tbl 84=some Z7r:=tblOf_eq Tryz.func84 (by kernel_rfl) (by kernel_rfl)
def Zjh:MCode :=.we [.m 12 5,.m 13 0,.ll 14 13,.b 15 .lss 12 14] [0,1,5,15] 15 0 (.seq (.block 1 (.r [.m 18 0,.m 19 5,.ia 20 2 18 19,.ln 21 2 20,.m 22 1,.cl 23 179 [21,22],.m 1 23] [0,1,5] (.r [.m 24 1,.bk 25 .lss 24 0] [0,1,5,25] (.cond (.s 25) (.r [.mk' 4 (-1)] [4] .ret) .skip)))) (.reg [.m 16 5,.bk 17 .add 16 1,.m 5 17] [0,1,5]))
def Z7s:MFun:=⟨2,27,[.tmp 4],.r [.mk' 4 0] [0,1] (.r [.m 6 1,.m 7 0,.ll 8 7,.b 9 .sub 6 8,.m 1 9] [0,1] (.wc [.m 10 1,.bk 11 .lss 10 0] [0,1,11] 11 (.r [.mk' 4 (-1)] [4] .ret) (.seq (.r [.mk' 5 0] [0,1,5] (.block 0 (.loop [0,1,5] Zjh))) (.r [.m 26 1,.m 4 26] [4] .ret))))⟩
theorem Zbmw:tbl 85=some Z7s:=tblOf_eq Tryz.func85 (by kernel_rfl) (by kernel_rfl)
def Z7t:MFun:=⟨2,12,[.tmp 4],.r [.mk' 4 0] [0,1] (.r [.m 5 1,.m 6 0,.ll 7 6,.b 8 .sub 5 7,.m 1 8] [1] (.wc [.m 9 1,.bk 10 .lss 9 0] [1,10] 10 (.r [.mk' 4 (-1)] [4] .ret) (.r [.m 11 1,.m 4 11] [4] .ret)))⟩
theorem Zbmx:tbl 86=some Z7t:=tblOf_eq Tryz.func86 (by kernel_rfl) (by kernel_rfl)
def Z7u:MFun:=⟨1,24,[.cell 2 (some 6)],.r [.bx 1 0,.o 2 (.alloc [.t .z,.t .z,.t .z,.t .z,.t .z,.t .nil])] [1,2] (.r [.o 3 (.alloc [.t .z,.t .z,.t .z,.t .z,.t .z,.t .nil])] [1,2,3] (.r [.fa 4 0 1,.l 5 4,.fa 6 0 3,.st 1 6 5] [1,2,3] (.r [.fa 7 1 1,.l 8 7,.fa 9 1 3,.st 1 9 8] [1,2,3] (.r [.fa 10 2 1,.l 11 10,.fa 12 2 3,.st 1 12 11] [1,2,3] (.r [.fa 13 3 1,.l 14 13,.fa 15 3 3,.st 1 15 14] [1,2,3] (.r [.fa 16 4 1,.l 17 16,.fa 18 4 3,.st 1 18 17] [1,2,3] (.r [.fa 19 5 1,.l 20 19,.cl 21 186 [20],.fa 22 5 3,.st 1 22 21] [2,3] (.r [.ln 23 6 3,.st 6 2 23] [2] .ret))))))))⟩
theorem Zbmy:tbl 95=some Z7u:=tblOf_eq Tryz.func95 (by kernel_rfl) (by kernel_rfl)
def Zqd:MCode :=.we [.m 8 4,.m 9 0,.ll 10 9,.b 11 .lss 8 10] [0,3,4,11] 11 0 (.seq (.block 1 (.reg [.m 14 3,.m 15 4,.m 16 0,.m 17 4,.ia 18 2 16 17,.ln 19 2 18,.cl 20 187 [19],.ia 21 2 14 15,.st 2 21 20] [0,3,4])) (.reg [.m 12 4,.bk 13 .add 12 1,.m 4 13] [0,3,4]))
def Z7v:MFun:=⟨1,23,[.tmp 2],.r [.o 2 (.mov (.c (.t .nil)))] [0] (.r [.m 5 0,.ll 6 5,.o 7 (.mkslice 223 2 40 [.str ⟨#[]⟩,.lst 1 []] (.s 6) (.s 6)),.m 3 7] [0,3] (.seq (.r [.mk' 4 0] [0,3,4] (.block 0 (.loop [0,3,4] Zqd))) (.r [.m 22 3,.m 2 22] [2] .ret)))⟩
theorem Zbmz:tbl 96=some Z7v:=tblOf_eq Tryz.func96 (by kernel_rfl) (by kernel_rfl)
def Zqe:MCode :=.we [.m 8 4,.m 9 0,.ll 10 9,.b 11 .lss 8 10] [0,3,4,11] 11 0 (.seq (.block 1 (.reg [.m 14 3,.m 15 4,.m 16 0,.m 17 4,.ia 18 3 16 17,.ln 19 3 18,.cl 20 188 [19],.ia 21 3 14 15,.st 3 21 20] [0,3,4])) (.reg [.m 12 4,.bk 13 .add 12 1,.m 4 13] [0,3,4]))
def Z7w:MFun:=⟨1,23,[.tmp 2],.r [.o 2 (.mov (.c (.t .nil)))] [0] (.r [.m 5 0,.ll 6 5,.o 7 (.mkslice 142 3 24 [.z,.z,.z] (.s 6) (.s 6)),.m 3 7] [0,3] (.seq (.r [.mk' 4 0] [0,3,4] (.block 0 (.loop [0,3,4] Zqe))) (.r [.m 22 3,.m 2 22] [2] .ret)))⟩
theorem Zbm0:tbl 97=some Z7w:=tblOf_eq Tryz.func97 (by kernel_rfl) (by kernel_rfl)
def Z7x:MFun:=⟨2,36,[.tmp 4],.r [.bx 2 0,.bx 3 1,.o 4 (.mov (.q false))] [2,3] (.wc [.fa 5 0 2,.l 6 5,.fa 7 0 3,.l 8 7,.b 9 .neq 6 8] [2,3,9] 9 (.r [.o 4 (.mov (.q false))] [4] .ret) (.wc [.fa 10 1 2,.l 11 10,.fa 12 1 3,.l 13 12,.b 14 .neq 11 13] [2,3,14] 14 (.r [.o 4 (.mov (.q false))] [4] .ret) (.wc [.fa 15 2 2,.l 16 15,.fa 17 2 3,.l 18 17,.b 19 .neq 16 18] [2,3,19] 19 (.r [.o 4 (.mov (.q false))] [4] .ret) (.wc [.fa 20 3 2,.l 21 20,.fa 22 3 3,.l 23 22,.b 24 .neq 21 23] [2,3,24] 24 (.r [.o 4 (.mov (.q false))] [4] .ret) (.wc [.fa 25 4 2,.l 26 25,.fa 27 4 3,.l 28 27,.b 29 .neq 26 28] [2,3,29] 29 (.r [.o 4 (.mov (.q false))] [4] .ret) (.wc [.fa 30 5 2,.l 31 30,.fa 32 5 3,.l 33 32,.cl 34 197 [31,33],.o 35 (.un .not (.s 34))] [35] 35 (.r [.o 4 (.mov (.q false))] [4] .ret) (.r [.o 4 (.mov (.q true))] [4] .ret)))))))⟩
theorem Zbm1:tbl 109=some Z7x:=tblOf_eq Tryz.func109 (by kernel_rfl) (by kernel_rfl)
def Zqf:MCode :=.we [.m 11 5,.m 12 0,.ll 13 12,.b 14 .lss 11 13] [0,1,5,14] 14 0 (.seq (.block 1 (.seq (.drw [.m 17 0,.m 18 5,.ia 19 2 17 18,.ln 20 2 19,.m 21 1,.m 22 5,.ia 23 2 21 22,.ln 24 2 23,.cl 25 198 [20,24],.o 26 (.un .not (.s 25))] [[],[],[0,1],[2],[],[],[4,5],[6],[3,7],[8]] [0,1,5,26]) (.cond (.s 26) (.r [.o 4 (.mov (.q false))] [4] .ret) .skip))) (.reg [.m 15 5,.bk 16 .add 15 1,.m 5 16] [0,1,5]))
def Zwk:MFun:=⟨2,27,[.tmp 4],.r [.o 4 (.mov (.q false))] [0,1] (.wc [.m 6 0,.ll 7 6,.m 8 1,.ll 9 8,.b 10 .neq 7 9] [0,1,10] 10 (.r [.o 4 (.mov (.q false))] [4] .ret) (.seq (.r [.mk' 5 0] [0,1,5] (.block 0 (.loop [0,1,5] Zqf))) (.r [.o 4 (.mov (.q true))] [4] .ret)))⟩
theorem Zbm2:tbl 110=some Zwk:=tblOf_eq Tryz.func110 (by kernel_rfl) (by kernel_rfl)
def Zqg:MCode :=.we [.m 11 5,.m 12 0,.ll 13 12,.b 14 .lss 11 13] [0,1,5,14] 14 0 (.seq (.block 1 (.seq (.drw [.m 17 0,.m 18 5,.ia 19 3 17 18,.ln 20 3 19,.m 21 1,.m 22 5,.ia 23 3 21 22,.ln 24 3 23,.cl 25 199 [20,24],.o 26 (.un .not (.s 25))] [[],[],[0,1],[2],[],[],[4,5],[6],[3,7],[8]] [0,1,5,26]) (.cond (.s 26) (.r [.o 4 (.mov (.q false))] [4] .ret) .skip))) (.reg [.m 15 5,.bk 16 .add 15 1,.m 5 16] [0,1,5]))
def Zwl:MFun:=⟨2,27,[.tmp 4],.r [.o 4 (.mov (.q false))] [0,1] (.wc [.m 6 0,.ll 7 6,.m 8 1,.ll 9 8,.b 10 .neq 7 9] [0,1,10] 10 (.r [.o 4 (.mov (.q false))] [4] .ret) (.seq (.r [.mk' 5 0] [0,1,5] (.block 0 (.loop [0,1,5] Zqg))) (.r [.o 4 (.mov (.q true))] [4] .ret)))⟩
theorem Zbm3:tbl 111=some Zwl:=tblOf_eq Tryz.func111 (by kernel_rfl) (by kernel_rfl)
def Z7y:MFun:=⟨2,10,[.tmp 4],.r [.bx 2 0,.mk' 4 0] [1,2] (.r [.fa 5 5 2,.o 6 (.loadU (.s 5)),.m 7 1,.o 8 (.scall 200 [.s 6,.s 7] (.s 5)),.m 1 8] [1] (.r [.m 9 1,.m 4 9] [4] .ret))⟩
theorem Zbm4:tbl 113=some Z7y:=tblOf_eq Tryz.func113 (by kernel_rfl) (by kernel_rfl)
def Zns:MCode :=.we [.m 6 5,.m 7 0,.ll 8 7,.b 9 .lss 6 8] [0,1,5,9] 9 0 (.seq (.block 1 (.r [.m 12 0,.m 13 5,.m 14 1,.cl 15 201 [14],.ia 16 2 12 13,.fa 17 0 16,.st 1 17 15] [0,1,5] (.r [.m 18 1,.bk 19 .add 18 1,.m 1 19] [0,1,5] (.reg [.m 20 0,.m 21 5,.ia 22 2 20 21,.fa 23 1 22,.o 24 (.loadU (.s 23)),.m 25 1,.o 26 (.scall 32 [.s 24,.s 25] (.s 23)),.m 1 26] [0,1,5])))) (.reg [.m 10 5,.bk 11 .add 10 1,.m 5 11] [0,1,5]))
def Zwm:MFun:=⟨2,28,[.tmp 4],.r [.mk' 4 0] [0,1] (.seq (.r [.mk' 5 0] [0,1,5] (.block 0 (.loop [0,1,5] Zns))) (.r [.m 27 1,.m 4 27] [4] .ret))⟩
theorem Z7z:tbl 114=some Zwm:=tblOf_eq Tryz.func114 (by kernel_rfl) (by kernel_rfl)
def Znt:MCode :=.we [.m 6 5,.m 7 0,.ll 8 7,.b 9 .lss 6 8] [0,1,5,9] 9 0 (.seq (.block 1 (.r [.m 12 0,.m 13 5,.m 14 1,.ia 15 3 12 13,.fa 16 0 15,.st 1 16 14] [0,1,5] (.r [.m 17 1,.bk 18 .add 17 1,.m 1 18] [0,1,5] (.r [.m 19 0,.m 20 5,.m 21 1,.ia 22 3 19 20,.fa 23 1 22,.st 1 23 21] [0,1,5] (.r [.m 24 1,.bk 25 .add 24 1,.m 1 25] [0,1,5] (.r [.m 26 0,.m 27 5,.m 28 1,.ia 29 3 26 27,.fa 30 2 29,.st 1 30 28] [0,1,5] (.reg [.m 31 1,.bk 32 .add 31 1,.m 1 32] [0,1,5]))))))) (.reg [.m 10 5,.bk 11 .add 10 1,.m 5 11] [0,1,5]))
def Zwn:MFun:=⟨2,34,[.tmp 4],.r [.mk' 4 0] [0,1] (.seq (.r [.mk' 5 0] [0,1,5] (.block 0 (.loop [0,1,5] Znt))) (.r [.m 33 1,.m 4 33] [4] .ret))⟩
theorem Z70:tbl 115=some Zwn:=tblOf_eq Tryz.func115 (by kernel_rfl) (by kernel_rfl)
def Zji:MCode :=.we [.m 12 5,.m 13 0,.ll 14 13,.b 15 .lss 12 14] [0,1,5,15] 15 0 (.seq (.block 1 (.r [.m 18 0,.m 19 5,.ia 20 8 18 19,.ln 21 8 20,.m 22 1,.cl 23 235 [21,22],.m 1 23] [0,1,5] (.r [.m 24 1,.bk 25 .lss 24 0] [0,1,5,25] (.cond (.s 25) (.r [.mk' 4 (-1)] [4] .ret) .skip)))) (.reg [.m 16 5,.bk 17 .add 16 1,.m 5 17] [0,1,5]))
def Z71:MFun:=⟨2,27,[.tmp 4],.r [.mk' 4 0] [0,1] (.r [.m 6 1,.m 7 0,.ll 8 7,.b 9 .sub 6 8,.m 1 9] [0,1] (.wc [.m 10 1,.bk 11 .lss 10 0] [0,1,11] 11 (.r [.mk' 4 (-1)] [4] .ret) (.seq (.r [.mk' 5 0] [0,1,5] (.block 0 (.loop [0,1,5] Zji))) (.r [.m 26 1,.m 4 26] [4] .ret))))⟩
theorem Zbm5:tbl 146=some Z71:=tblOf_eq Tryz.func146 (by kernel_rfl) (by kernel_rfl)
def Zqh:MCode :=.we [.m 8 4,.m 9 0,.ll 10 9,.b 11 .lss 8 10] [0,3,4,11] 11 0 (.seq (.block 1 (.reg [.m 14 3,.m 15 4,.m 16 0,.m 17 4,.ia 18 8 16 17,.ln 19 8 18,.cl 20 236 [19],.ia 21 8 14 15,.st 8 21 20] [0,3,4])) (.reg [.m 12 4,.bk 13 .add 12 1,.m 4 13] [0,3,4]))
def Z72:MFun:=⟨1,23,[.tmp 2],.r [.o 2 (.mov (.c (.t .nil)))] [0] (.r [.m 5 0,.ll 6 5,.o 7 (.mkslice 114 8 128 [.z,.lst 2 [],.lst 3 [],.lst 1 [],.lst 1 [],.z,.z,.z] (.s 6) (.s 6)),.m 3 7] [0,3] (.seq (.r [.mk' 4 0] [0,3,4] (.block 0 (.loop [0,3,4] Zqh))) (.r [.m 22 3,.m 2 22] [2] .ret)))⟩
theorem Zbm6:tbl 147=some Z72:=tblOf_eq Tryz.func147 (by kernel_rfl) (by kernel_rfl)
def Znu:MCode :=.we [.m 11 5,.m 12 0,.ll 13 12,.b 14 .lss 11 13] [0,1,5,14] 14 0 (.seq (.block 1 (.seq (.drw [.m 17 0,.m 18 5,.ia 19 8 17 18,.ln 20 8 19,.m 21 1,.m 22 5,.ia 23 8 21 22,.ln 24 8 23,.cl 25 237 [20,24],.o 26 (.un .not (.s 25))] [[],[],[0,1],[2],[],[],[4,5],[6],[3,7],[8]] [0,1,5,26]) (.cond (.s 26) (.r [.o 4 (.mov (.q false))] [4] .ret) .skip))) (.reg [.m 15 5,.bk 16 .add 15 1,.m 5 16] [0,1,5]))
def Zqi:MFun:=⟨2,27,[.tmp 4],.r [.o 4 (.mov (.q false))] [0,1] (.wc [.m 6 0,.ll 7 6,.m 8 1,.ll 9 8,.b 10 .neq 7 9] [0,1,10] 10 (.r [.o 4 (.mov (.q false))] [4] .ret) (.seq (.r [.mk' 5 0] [0,1,5] (.block 0 (.loop [0,1,5] Znu))) (.r [.o 4 (.mov (.q true))] [4] .ret)))⟩
theorem Z73:tbl 150=some Zqi:=tblOf_eq Tryz.func150 (by kernel_rfl) (by kernel_rfl)
def Z74:MFun:=⟨2,12,[.tmp 4],.r [.mk' 4 0] [0,1] (.r [.m 5 1,.m 6 0,.ll 7 6,.b 8 .sub 5 7,.m 1 8] [1] (.wc [.m 9 1,.bk 10 .lss 9 0] [1,10] 10 (.r [.mk' 4 (-1)] [4] .ret) (.r [.m 11 1,.m 4 11] [4] .ret)))⟩
theorem Zbm7:tbl 151=some Z74:=tblOf_eq Tryz.func151 (by kernel_rfl) (by kernel_rfl)
def Znv:MCode :=.we [.m 6 5,.m 7 0,.ll 8 7,.b 9 .lss 6 8] [0,1,5,9] 9 0 (.seq (.block 1 (.r [.m 12 0,.m 13 5,.m 14 1,.ia 15 8 12 13,.fa 16 0 15,.fa 17 0 16,.st 1 17 14] [0,1,5] (.r [.m 18 1,.bk 19 .add 18 1,.m 1 19] [0,1,5] (.r [.m 20 0,.m 21 5,.ia 22 8 20 21,.fa 23 0 22,.fa 24 1 23,.o 25 (.loadU (.s 24)),.m 26 1,.o 27 (.scall 114 [.s 25,.s 26] (.s 24)),.m 1 27] [0,1,5] (.r [.m 28 0,.m 29 5,.ia 30 8 28 29,.fa 31 2 30,.fa 32 0 31,.fa 33 0 32,.o 34 (.loadU (.s 33)),.m 35 1,.o 36 (.scall 115 [.s 34,.s 35] (.s 33)),.m 1 36] [0,1,5] (.r [.m 37 0,.m 38 5,.ia 39 8 37 38,.fa 40 2 39,.fa 41 1 40,.fa 42 0 41,.o 43 (.loadU (.s 42)),.m 44 1,.o 45 (.scall 32 [.s 43,.s 44] (.s 42)),.m 1 45] [0,1,5] (.r [.m 46 0,.m 47 5,.ia 48 8 46 47,.fa 49 2 48,.fa 50 1 49,.fa 51 1 50,.o 52 (.loadU (.s 51)),.m 53 1,.o 54 (.scall 32 [.s 52,.s 53] (.s 51)),.m 1 54] [0,1,5] (.r [.m 55 0,.m 56 5,.m 57 1,.ia 58 8 55 56,.fa 59 2 58,.fa 60 3 59,.st 1 60 57] [0,1,5] (.r [.m 61 1,.bk 62 .add 61 1,.m 1 62] [0,1,5] (.r [.m 63 0,.m 64 5,.m 65 1,.ia 66 8 63 64,.fa 67 6 66,.st 1 67 65] [0,1,5] (.r [.m 68 1,.bk 69 .add 68 1,.m 1 69] [0,1,5] (.r [.m 70 0,.m 71 5,.m 72 1,.ia 73 8 70 71,.fa 74 7 73,.st 1 74 72] [0,1,5] (.reg [.m 75 1,.bk 76 .add 75 1,.m 1 76] [0,1,5]))))))))))))) (.reg [.m 10 5,.bk 11 .add 10 1,.m 5 11] [0,1,5]))
def Zwo:MFun:=⟨2,78,[.tmp 4],.r [.mk' 4 0] [0,1] (.seq (.r [.mk' 5 0] [0,1,5] (.block 0 (.loop [0,1,5] Znv))) (.r [.m 77 1,.m 4 77] [4] .ret))⟩
theorem Z75:tbl 175=some Zwo:=tblOf_eq Tryz.func175 (by kernel_rfl) (by kernel_rfl)
def Znw:MCode :=.we [.m 6 5,.m 7 0,.ll 8 7,.b 9 .lss 6 8] [0,1,5,9] 9 0 (.seq (.block 1 (.wc [.m 12 0,.m 13 5,.ia 14 8 12 13,.fa 15 0 14,.fa 16 0 15,.l 17 16,.m 18 1,.b 19 .neq 17 18] [0,1,5,19] 19 (.r [.mk' 4 (-1)] [4] .ret) (.r [.m 20 1,.bk 21 .add 20 1,.m 1 21] [0,1,5] (.r [.m 22 0,.m 23 5,.ia 24 8 22 23,.fa 25 0 24,.fa 26 1 25,.l 27 26,.m 28 1,.cl 29 248 [27,28],.m 1 29] [0,1,5] (.wc [.m 30 1,.bk 31 .lss 30 0] [0,1,5,31] 31 (.r [.mk' 4 (-1)] [4] .ret) (.r [.m 32 0,.m 33 5,.ia 34 8 32 33,.fa 35 2 34,.fa 36 0 35,.fa 37 0 36,.l 38 37,.m 39 1,.cl 40 177 [38,39],.m 1 40] [0,1,5] (.wc [.m 41 1,.bk 42 .lss 41 0] [0,1,5,42] 42 (.r [.mk' 4 (-1)] [4] .ret) (.r [.m 43 0,.m 44 5,.ia 45 8 43 44,.fa 46 2 45,.fa 47 1 46,.fa 48 0 47,.l 49 48,.m 50 1,.cl 51 33 [49,50],.m 1 51] [0,1,5] (.wc [.m 52 1,.bk 53 .lss 52 0] [0,1,5,53] 53 (.r [.mk' 4 (-1)] [4] .ret) (.r [.m 54 0,.m 55 5,.ia 56 8 54 55,.fa 57 2 56,.fa 58 1 57,.fa 59 1 58,.l 60 59,.m 61 1,.cl 62 33 [60,61],.m 1 62] [0,1,5] (.wc [.m 63 1,.bk 64 .lss 63 0] [0,1,5,64] 64 (.r [.mk' 4 (-1)] [4] .ret) (.wc [.m 65 0,.m 66 5,.ia 67 8 65 66,.fa 68 2 67,.fa 69 3 68,.l 70 69,.m 71 1,.b 72 .neq 70 71] [0,1,5,72] 72 (.r [.mk' 4 (-1)] [4] .ret) (.r [.m 73 1,.bk 74 .add 73 1,.m 1 74] [0,1,5] (.wc [.m 75 0,.m 76 5,.ia 77 8 75 76,.fa 78 6 77,.l 79 78,.m 80 1,.b 81 .neq 79 80] [0,1,5,81] 81 (.r [.mk' 4 (-1)] [4] .ret) (.r [.m 82 1,.bk 83 .add 82 1,.m 1 83] [0,1,5] (.wc [.m 84 0,.m 85 5,.ia 86 8 84 85,.fa 87 7 86,.l 88 87,.m 89 1,.b 90 .neq 88 89] [0,1,5,90] 90 (.r [.mk' 4 (-1)] [4] .ret) (.reg [.m 91 1,.bk 92 .add 91 1,.m 1 92] [0,1,5]))))))))))))))))) (.reg [.m 10 5,.bk 11 .add 10 1,.m 5 11] [0,1,5]))
def Zwp:MFun:=⟨2,94,[.tmp 4],.r [.mk' 4 0] [0,1] (.seq (.r [.mk' 5 0] [0,1,5] (.block 0 (.loop [0,1,5] Znw))) (.r [.m 93 1,.m 4 93] [4] .ret))⟩
theorem Z76:tbl 176=some Zwp:=tblOf_eq Tryz.func176 (by kernel_rfl) (by kernel_rfl)
def Zqj:MCode :=.we [.m 6 5,.m 7 0,.ll 8 7,.b 9 .lss 6 8] [0,1,5,9] 9 0 (.seq (.block 1 (.wc [.m 12 0,.m 13 5,.ia 14 3 12 13,.fa 15 0 14,.l 16 15,.m 17 1,.b 18 .neq 16 17] [0,1,5,18] 18 (.r [.mk' 4 (-1)] [4] .ret) (.r [.m 19 1,.bk 20 .add 19 1,.m 1 20] [0,1,5] (.wc [.m 21 0,.m 22 5,.ia 23 3 21 22,.fa 24 1 23,.l 25 24,.m 26 1,.b 27 .neq 25 26] [0,1,5,27] 27 (.r [.mk' 4 (-1)] [4] .ret) (.r [.m 28 1,.bk 29 .add 28 1,.m 1 29] [0,1,5] (.wc [.m 30 0,.m 31 5,.ia 32 3 30 31,.fa 33 2 32,.l 34 33,.m 35 1,.b 36 .neq 34 35] [0,1,5,36] 36 (.r [.mk' 4 (-1)] [4] .ret) (.reg [.m 37 1,.bk 38 .add 37 1,.m 1 38] [0,1,5]))))))) (.reg [.m 10 5,.bk 11 .add 10 1,.m 5 11] [0,1,5]))
def Z77:MFun:=⟨2,40,[.tmp 4],.r [.mk' 4 0] [0,1] (.seq (.r [.mk' 5 0] [0,1,5] (.block 0 (.loop [0,1,5] Zqj))) (.r [.m 39 1,.m 4 39] [4] .ret))⟩
theorem Zbm8:tbl 177=some Z77:=tblOf_eq Tryz.func177 (by kernel_rfl) (by kernel_rfl)
def Z78:MFun:=⟨2,12,[.tmp 4],.r [.mk' 4 0] [0,1] (.r [.m 5 1,.m 6 0,.ll 7 6,.b 8 .sub 5 7,.m 1 8] [1] (.wc [.m 9 1,.bk 10 .lss 9 0] [1,10] 10 (.r [.mk' 4 (-1)] [4] .ret) (.r [.m 11 1,.m 4 11] [4] .ret)))⟩
theorem Zbm9:tbl 178=some Z78:=tblOf_eq Tryz.func178 (by kernel_rfl) (by kernel_rfl)
def Z79:MFun:=⟨2,19,[.tmp 4],.r [.bx 2 0,.mk' 4 0] [1,2] (.r [.m 5 1,.fa 6 0 2,.l 7 6,.o 8 (.len true (.s 7)),.b 9 .sub 5 8,.m 1 9] [1,2] (.wc [.m 10 1,.bk 11 .lss 10 0] [1,2,11] 11 (.r [.mk' 4 (-1)] [4] .ret) (.r [.fa 12 1 2,.l 13 12,.m 14 1,.cl 15 151 [13,14],.m 1 15] [1] (.wc [.m 16 1,.bk 17 .lss 16 0] [1,17] 17 (.r [.mk' 4 (-1)] [4] .ret) (.r [.m 18 1,.m 4 18] [4] .ret)))))⟩
theorem Zbna:tbl 179=some Z79:=tblOf_eq Tryz.func179 (by kernel_rfl) (by kernel_rfl)
def Zqk:MCode :=.we [.m 8 4,.m 9 0,.ll 10 9,.b 11 .lss 8 10] [0,3,4,11] 11 0 (.seq (.block 1 (.reg [.m 14 3,.m 15 4,.m 16 0,.m 17 4,.ia 18 2 16 17,.ln 19 2 18,.cl 20 256 [19],.ia 21 2 14 15,.st 2 21 20] [0,3,4])) (.reg [.m 12 4,.bk 13 .add 12 1,.m 4 13] [0,3,4]))
def Z8a:MFun:=⟨1,23,[.tmp 2],.r [.o 2 (.mov (.c (.t .nil)))] [0] (.r [.m 5 0,.ll 6 5,.o 7 (.mkslice 221 2 16 [.z,.z] (.s 6) (.s 6)),.m 3 7] [0,3] (.seq (.r [.mk' 4 0] [0,3,4] (.block 0 (.loop [0,3,4] Zqk))) (.r [.m 22 3,.m 2 22] [2] .ret)))⟩
theorem Zbnb:tbl 186=some Z8a:=tblOf_eq Tryz.func186 (by kernel_rfl) (by kernel_rfl)
def Z8b:MFun:=⟨1,12,[.cell 2 (some 2)],.r [.bx 1 0,.o 2 (.alloc [.t (.str ⟨#[]⟩),.t .nil])] [1,2] (.r [.o 3 (.alloc [.t (.str ⟨#[]⟩),.t .nil])] [1,2,3] (.r [.fa 4 0 1,.l 5 4,.fa 6 0 3,.st 1 6 5] [1,2,3] (.r [.fa 7 1 1,.l 8 7,.cl 9 59 [8],.fa 10 1 3,.st 1 10 9] [2,3] (.r [.ln 11 2 3,.st 2 2 11] [2] .ret))))⟩
theorem Zbnc:tbl 187=some Z8b:=tblOf_eq Tryz.func187 (by kernel_rfl) (by kernel_rfl)
def Z8c:MFun:=⟨1,14,[.cell 2 (some 3)],.r [.bx 1 0,.o 2 (.alloc [.t .z,.t .z,.t .z])] [1,2] (.r [.o 3 (.alloc [.t .z,.t .z,.t .z])] [1,2,3] (.r [.fa 4 0 1,.l 5 4,.fa 6 0 3,.st 1 6 5] [1,2,3] (.r [.fa 7 1 1,.l 8 7,.fa 9 1 3,.st 1 9 8] [1,2,3] (.r [.fa 10 2 1,.l 11 10,.fa 12 2 3,.st 1 12 11] [2,3] (.r [.ln 13 3 3,.st 3 2 13] [2] .ret)))))⟩
theorem Zbnd:tbl 188=some Z8c:=tblOf_eq Tryz.func188 (by kernel_rfl) (by kernel_rfl)
def Zql:MCode :=.we [.m 11 5,.m 12 0,.ll 13 12,.b 14 .lss 11 13] [0,1,5,14] 14 0 (.seq (.block 1 (.seq (.drw [.m 17 0,.m 18 5,.ia 19 2 17 18,.ln 20 2 19,.m 21 1,.m 22 5,.ia 23 2 21 22,.ln 24 2 23,.cl 25 266 [20,24],.o 26 (.un .not (.s 25))] [[],[],[0,1],[2],[],[],[4,5],[6],[3,7],[8]] [0,1,5,26]) (.cond (.s 26) (.r [.o 4 (.mov (.q false))] [4] .ret) .skip))) (.reg [.m 15 5,.bk 16 .add 15 1,.m 5 16] [0,1,5]))
def Zwq:MFun:=⟨2,27,[.tmp 4],.r [.o 4 (.mov (.q false))] [0,1] (.wc [.m 6 0,.ll 7 6,.m 8 1,.ll 9 8,.b 10 .neq 7 9] [0,1,10] 10 (.r [.o 4 (.mov (.q false))] [4] .ret) (.seq (.r [.mk' 5 0] [0,1,5] (.block 0 (.loop [0,1,5] Zql))) (.r [.o 4 (.mov (.q true))] [4] .ret)))⟩
theorem Zbne:tbl 197=some Zwq:=tblOf_eq Tryz.func197 (by kernel_rfl) (by kernel_rfl)
def Z8d:MFun:=⟨2,16,[.tmp 4],.r [.bx 2 0,.bx 3 1,.o 4 (.mov (.q false))] [2,3] (.wc [.fa 5 0 2,.l 6 5,.fa 7 0 3,.l 8 7,.b 9 .neq 6 8] [2,3,9] 9 (.r [.o 4 (.mov (.q false))] [4] .ret) (.wc [.fa 10 1 2,.l 11 10,.fa 12 1 3,.l 13 12,.cl 14 23 [11,13],.o 15 (.un .not (.s 14))] [15] 15 (.r [.o 4 (.mov (.q false))] [4] .ret) (.r [.o 4 (.mov (.q true))] [4] .ret)))⟩
theorem Zbnf:tbl 198=some Z8d:=tblOf_eq Tryz.func198 (by kernel_rfl) (by kernel_rfl)
def Z8e:MFun:=⟨2,20,[.tmp 4],.r [.bx 2 0,.bx 3 1,.o 4 (.mov (.q false))] [2,3] (.wc [.fa 5 0 2,.l 6 5,.fa 7 0 3,.l 8 7,.b 9 .neq 6 8] [2,3,9] 9 (.r [.o 4 (.mov (.q false))] [4] .ret) (.wc [.fa 10 1 2,.l 11 10,.fa 12 1 3,.l 13 12,.b 14 .neq 11 13] [2,3,14] 14 (.r [.o 4 (.mov (.q false))] [4] .ret) (.wc [.fa 15 2 2,.l 16 15,.fa 17 2 3,.l 18 17,.b 19 .neq 16 18] [19] 19 (.r [.o 4 (.mov (.q false))] [4] .ret) (.r [.o 4 (.mov (.q true))] [4] .ret))))⟩
theorem Zbng:tbl 199=some Z8e:=tblOf_eq Tryz.func199 (by kernel_rfl) (by kernel_rfl)
def Zqm:MCode :=.we [.m 6 5,.m 7 0,.ll 8 7,.b 9 .lss 6 8] [0,1,5,9] 9 0 (.seq (.block 1 (.r [.m 12 0,.m 13 5,.m 14 1,.ia 15 2 12 13,.fa 16 0 15,.st 1 16 14] [0,1,5] (.r [.m 17 1,.bk 18 .add 17 1,.m 1 18] [0,1,5] (.r [.m 19 0,.m 20 5,.m 21 1,.ia 22 2 19 20,.fa 23 1 22,.st 1 23 21] [0,1,5] (.reg [.m 24 1,.bk 25 .add 24 1,.m 1 25] [0,1,5]))))) (.reg [.m 10 5,.bk 11 .add 10 1,.m 5 11] [0,1,5]))
def Z8f:MFun:=⟨2,27,[.tmp 4],.r [.mk' 4 0] [0,1] (.seq (.r [.mk' 5 0] [0,1,5] (.block 0 (.loop [0,1,5] Zqm))) (.r [.m 26 1,.m 4 26] [4] .ret))⟩
theorem Zbnh:tbl 200=some Z8f:=tblOf_eq Tryz.func200 (by kernel_rfl) (by kernel_rfl)
def Znx:MCode :=.we [.m 6 0,.bk 7 .gtr 6 0] [0,3,7] 7 0 (.block 1 (.r [.m 8 0,.bk 9 .rem 8 10,.o 10 (.bin .add (.k 48) (.s 9)),.o 11 (.conv .u8 (.s 10)),.o 12 (.bslice 5 1 1 [.int .u8 0] [(0,.s 11)]),.o 13 (.tostr (.s 12)),.m 14 3,.b 15 .add 13 14,.m 3 15] [0,3] (.reg [.m 16 0,.bk 17 .quo 16 10,.m 0 17] [0,3])))
def Zwr:MFun:=⟨1,20,[.tmp 2],.r [.o 2 (.mov (.c (.t (.str ⟨#[]⟩))))] [0] (.wc [.m 4 0,.bk 5 .leq 4 0] [0,5] 5 (.r [.o 2 (.mov (.c (.t (.str ⟨#[109,48]⟩))))] [2] .ret) (.r [.o 3 (.mov (.c (.t (.str ⟨#[]⟩))))] [0,3] (.seq (.block 0 (.loop [0,3] Znx)) (.r [.m 18 3,.o 19 (.bin .add (.c (.t (.str ⟨#[109]⟩))) (.s 18)),.m 2 19] [2] .ret))))⟩
theorem Z8g:tbl 201=some Zwr:=tblOf_eq Tryz.func201 (by kernel_rfl) (by kernel_rfl)
def Z8h:MFun:=⟨2,18,[.tmp 4],.r [.bx 2 0,.mk' 4 0] [1,2] (.r [.fa 5 0 2,.ln 6 2 5,.m 7 1,.cl 8 14 [6,7],.m 1 8] [1,2] (.wc [.m 9 1,.bk 10 .lss 9 0] [1,2,10] 10 (.r [.mk' 4 (-1)] [4] .ret) (.r [.fa 11 2 2,.ln 12 4 11,.m 13 1,.cl 14 34 [12,13],.m 1 14] [1] (.wc [.m 15 1,.bk 16 .lss 15 0] [1,16] 16 (.r [.mk' 4 (-1)] [4] .ret) (.r [.m 17 1,.m 4 17] [4] .ret)))))⟩
theorem Zbni:tbl 235=some Z8h:=tblOf_eq Tryz.func235 (by kernel_rfl) (by kernel_rfl)
def Z8i:MFun:=⟨1,19,[.cell 2 (some 8)],.r [.bx 1 0,.o 2 (.alloc [.t .z,.t .nil,.t .nil,.t .nil,.t .nil,.t .z,.t .z,.t .z])] [1,2] (.r [.o 3 (.alloc [.t .z,.t .nil,.t .nil,.t .nil,.t .nil,.t .z,.t .z,.t .z])] [1,2,3] (.r [.fa 4 0 1,.ln 5 2 4,.cl 6 19 [5],.fa 7 0 3,.st 2 7 6] [1,2,3] (.r [.fa 8 2 1,.ln 9 4 8,.cl 10 36 [9],.fa 11 2 3,.st 4 11 10] [1,2,3] (.r [.fa 12 6 1,.l 13 12,.fa 14 6 3,.st 1 14 13] [1,2,3] (.r [.fa 15 7 1,.l 16 15,.fa 17 7 3,.st 1 17 16] [2,3] (.r [.ln 18 8 3,.st 8 2 18] [2] .ret))))))⟩
theorem Zbnj:tbl 236=some Z8i:=tblOf_eq Tryz.func236 (by kernel_rfl) (by kernel_rfl)
def Z8j:MFun:=⟨2,27,[.tmp 4],.r [.bx 2 0,.bx 3 1,.o 4 (.mov (.q false))] [2,3] (.wc [.fa 5 0 2,.ln 6 2 5,.fa 7 0 3,.ln 8 2 7,.cl 9 25 [6,8],.o 10 (.un .not (.s 9))] [2,3,10] 10 (.r [.o 4 (.mov (.q false))] [4] .ret) (.wc [.fa 11 2 2,.ln 12 4 11,.fa 13 2 3,.ln 14 4 13,.cl 15 38 [12,14],.o 16 (.un .not (.s 15))] [2,3,16] 16 (.r [.o 4 (.mov (.q false))] [4] .ret) (.wc [.fa 17 6 2,.l 18 17,.fa 19 6 3,.l 20 19,.b 21 .neq 18 20] [2,3,21] 21 (.r [.o 4 (.mov (.q false))] [4] .ret) (.wc [.fa 22 7 2,.l 23 22,.fa 24 7 3,.l 25 24,.b 26 .neq 23 25] [26] 26 (.r [.o 4 (.mov (.q false))] [4] .ret) (.r [.o 4 (.mov (.q true))] [4] .ret)))))⟩
theorem Zbnk:tbl 237=some Z8j:=tblOf_eq Tryz.func237 (by kernel_rfl) (by kernel_rfl)
def Zqn:MCode :=.we [.m 6 5,.m 7 0,.ll 8 7,.b 9 .lss 6 8] [0,1,5,9] 9 0 (.seq (.block 1 (.seq (.seq (.drw [.m 12 0,.m 13 5,.ia 14 2 12 13,.fa 15 0 14,.l 16 15,.m 17 1,.cl 18 201 [17],.b 19 .neq 16 18] [[],[],[0,1],[2],[3],[],[5],[4,6]] [0,1,5,19]) (.cond (.s 19) (.r [.mk' 4 (-1)] [4] .ret) .skip)) (.r [.m 20 1,.bk 21 .add 20 1,.m 1 21] [0,1,5] (.r [.m 22 0,.m 23 5,.ia 24 2 22 23,.fa 25 1 24,.l 26 25,.m 27 1,.cl 28 33 [26,27],.m 1 28] [0,1,5] (.r [.m 29 1,.bk 30 .lss 29 0] [0,1,5,30] (.cond (.s 30) (.r [.mk' 4 (-1)] [4] .ret) .skip)))))) (.reg [.m 10 5,.bk 11 .add 10 1,.m 5 11] [0,1,5]))
def Z8k:MFun:=⟨2,32,[.tmp 4],.r [.mk' 4 0] [0,1] (.seq (.r [.mk' 5 0] [0,1,5] (.block 0 (.loop [0,1,5] Zqn))) (.r [.m 31 1,.m 4 31] [4] .ret))⟩
theorem Zbnl:tbl 248=some Z8k:=tblOf_eq Tryz.func248 (by kernel_rfl) (by kernel_rfl)
def Z8l:MFun:=⟨1,11,[.cell 2 (some 2)],.r [.bx 1 0,.o 2 (.alloc [.t .z,.t .z])] [1,2] (.r [.o 3 (.alloc [.t .z,.t .z])] [1,2,3] (.r [.fa 4 0 1,.l 5 4,.fa 6 0 3,.st 1 6 5] [1,2,3] (.r [.fa 7 1 1,.l 8 7,.fa 9 1 3,.st 1 9 8] [2,3] (.r [.ln 10 2 3,.st 2 2 10] [2] .ret))))⟩
theorem Zbnm:tbl 256=some Z8l:=tblOf_eq Tryz.func256 (by kernel_rfl) (by kernel_rfl)
def Z8m:MFun:=⟨2,15,[.tmp 4],.r [.bx 2 0,.bx 3 1,.o 4 (.mov (.q false))] [2,3] (.wc [.fa 5 0 2,.l 6 5,.fa 7 0 3,.l 8 7,.b 9 .neq 6 8] [2,3,9] 9 (.r [.o 4 (.mov (.q false))] [4] .ret) (.wc [.fa 10 1 2,.l 11 10,.fa 12 1 3,.l 13 12,.b 14 .neq 11 13] [14] 14 (.r [.o 4 (.mov (.q false))] [4] .ret) (.r [.o 4 (.mov (.q true))] [4] .ret)))⟩
theorem Zbnn:tbl 266=some Z8m:=tblOf_eq Tryz.func266 (by kernel_rfl) (by kernel_rfl)
theorem l_toIntS (xs:List Int) (h:SmA xs) (fr:List Fr):∀ i,i≤xs.length→EvL C fr [0,3,4] Zqc ⟨[(0,L 1 (xs.map ic)),(3,.own 0),(4,I i)],[[]],[.arr Zx 1 true (fill ic [.int .i64 0] xs i)]⟩ =
  EvX C fr (.x 0) ⟨[(0,L 1 (xs.map ic)),(3,.own 0),(4,I xs.length),(11,Bo false)],[[]],[.arr Zx 1 true (xs.map ic)]⟩:=by
 have hl:xs.length≤4294967296:=h
 refine down xs.length ?_ ?_
 ·rw [EvL_eq Zqc.eq_1]
  simp [fill_all]
 ·intro i hi ih
  rw [EvL_eq Zqc.eq_1,← ih]
  have h1:=fill_set (f:=ic) (z:=[.int .i64 0]) hi
  have h3:=fill_len (f:=ic) (z:=[.int .i64 0]) (Nat.le_of_lt hi)
  have h4:IntKind.wrap .i64 ((i:Int)+1)=(i:Int)+1:=wrap64 (by omega) (by omega)
  simp at h1
  simp [hi,h3,h4,h1]
theorem Zws (xs:List Int) (h:SmA xs):C Z9y [L 1 (xs.map ic)] []=some (.own 0,[.arr Zx 1 true (xs.map ic)]):=by
 refine run Zbmr rfl ?_
 have hl:xs.length≤4294967296:=h
 have h1:∀ b,b≤4096→xs.length*b≤room:=fun b hb=>Nat.le_trans (Nat.mul_le_mul hl hb) (by decide)
 have h2:(xs.length:Int)≤140737488355328:=by omega
 have h3:=fun fr=>l_toIntS xs h fr 0 (Nat.zero_le _)
 simp [fill_zero] at h3
 simp [Z7l,h1,h2,h3]
theorem l_eqIntS (xs ys:List Int) (h:SmA xs) (hl:ys.length=xs.length) (fr:List Fr):∀ i,i≤xs.length→EvL C fr [0,1,5] Zqa ⟨[(0,L 1 (xs.map ic)),(1,L 1 (ys.map ic)),(5,I i)],[[]],[]⟩ =
  if xs.drop i=ys.drop i then EvX C fr (.x 0) ⟨[(0,L 1 (xs.map ic)),(1,L 1 (ys.map ic)),(5,I xs.length),(14,Bo false)],[[]],[]⟩ else EvX C fr .r ⟨[(4,Bo false)],[[]],[]⟩:=by
 have hm:xs.length≤4294967296:=h
 refine down xs.length ?_ ?_
 ·rw [EvL_eq Zqa.eq_1]
  simp [hl,List.drop_eq_nil_of_le]
 ·intro i hi ih
  have hi2:i<ys.length:=by omega
  have h4:IntKind.wrap .i64 ((i:Int)+1)=(i:Int)+1:=wrap64 (by omega) (by omega)
  rw [EvL_eq Zqa.eq_1]
  simp +decide [hi,hi2,h4]
  simp at ih
  simp only [drop_eq_iff hi hi2,ih]
  split <;> first | (simp_all;done) | grind
theorem Zwt (xs ys:List Int) (h:SmA xs):C Z9j [L 1 (xs.map ic),L 1 (ys.map ic)] []=some (Bo (decide (xs=ys)),[]):=by
 refine run Zbmc rfl ?_
 by_cases hl:ys.length=xs.length
 ·have h3:=fun fr=>l_eqIntS xs ys h hl fr 0 (Nat.zero_le _)
  simp at h3
  simp [Zwf,h3,hl]
  split <;> simp_all
 ·have h1:xs≠ys:=fun h=>hl (by rw [h])
  have h2:¬ ((xs.length:Int)=ys.length):=by omega
  simp [Zwf,h1,h2]
@[simp] theorem Z8n (es:List (List T)) (left:Int):C Zbae [L 1 es,I left] []=some (I (sz1 es.length left),[]):=by
 refine run Zbm7 rfl ?_
 simp [Z74,sz1]
 split <;> simp_all
theorem c_toAtom (x0:ByteArray) (x1:List Int) (h1:SmA x1):C Zbaj [.agg [.t (.str x0),.t (tI x1)]] []=some (.agg [.t (.str x0),.own 0],[.arr Zx 1 true (x1.map ic)]):=by
 refine run Zbnc rfl ?_
 simp [Z8b,Zws _ h1]
theorem c_eqAtom (x0:ByteArray) (x1:List Int) (y0:ByteArray) (y1:List Int) (h1:SmA x1):C Zbam [.agg [.t (.str x0),.t (tI x1)],.agg [.t (.str y0),.t (tI y1)]] []=some (Bo (decide (x0=y0∧x1=y1)),[]):=by
 refine run Zbnf rfl ?_
 simp [Z8d,Zwt _ _ h1]
 repeat' split
 all_goals first | (simp_all;done) | grind
theorem c_szAtom (x0:ByteArray) (x1:List Int) (left:Int) :C Zbah [.agg [.t (.str x0),.t (tI x1)],I left] []=some (I (Atom.sz ⟨x0,x1⟩ left),[]):=by
 refine run Zbna rfl ?_
 simp [Z79,Z8n,Atom.sz,andSz,sz1]
 repeat' split
 all_goals first | (simp_all;done) | grind
theorem Zbno (xs:List Atom) (h:SmL Atom.small xs) (fr:List Fr):∀ i,i≤xs.length→EvL C fr [0,3,4] Zqd ⟨[(0,L 2 (xs.map Atom.c)),(3,.own 0),(4,I i)],[[]],[.arr Zkw 2 true (fill Atom.c [.str ⟨#[]⟩,.lst 1 []] xs i)]⟩ =
  EvX C fr (.x 0) ⟨[(0,L 2 (xs.map Atom.c)),(3,.own 0),(4,I xs.length),(11,Bo false)],[[]],[.arr Zkw 2 true (xs.map Atom.c)]⟩:=by
 have hl:xs.length≤4294967296:=h.1
 refine down xs.length ?_ ?_
 ·rw [EvL_eq Zqd.eq_1]
  simp [fill_all]
 ·intro i hi ih
  rw [EvL_eq Zqd.eq_1,← ih]
  have h1:=fill_set (f:=Atom.c) (z:=[.str ⟨#[]⟩,.lst 1 []]) hi
  have h3:=fill_len (f:=Atom.c) (z:=[.str ⟨#[]⟩,.lst 1 []]) (Nat.le_of_lt hi)
  have h4:IntKind.wrap .i64 ((i:Int)+1)=(i:Int)+1:=wrap64 (by omega) (by omega)
  simp at h1
  simp [hi,c_toAtom _ _ (h.2 _ (List.getElem_mem hi)).2,h3,h4,h1]
theorem Zbnp (xs:List Atom) (h:SmL Atom.small xs):C Z96 [L 2 (xs.map Atom.c)] []=some (.own 0,[.arr Zkw 2 true (xs.map Atom.c)]):=by
 refine run Zbmz rfl ?_
 have hl:xs.length≤4294967296:=h.1
 have h1:∀ b,b≤4096→xs.length*b≤room:=fun b hb=>Nat.le_trans (Nat.mul_le_mul hl hb) (by decide)
 have h2:(xs.length:Int)≤140737488355328:=by omega
 have h3:=fun fr=>Zbno xs h fr 0 (Nat.zero_le _)
 simp [fill_zero] at h3
 simp [Z7v,h1,h2,h3]
theorem Zbnq (xs ys:List Atom) (h:SmL Atom.small xs) (hl:ys.length=xs.length) (fr:List Fr):∀ i,i≤xs.length→EvL C fr [0,1,5] Zqf ⟨[(0,L 2 (xs.map Atom.c)),(1,L 2 (ys.map Atom.c)),(5,I i)],[[]],[]⟩ =
  if xs.drop i=ys.drop i then EvX C fr (.x 0) ⟨[(0,L 2 (xs.map Atom.c)),(1,L 2 (ys.map Atom.c)),(5,I xs.length),(14,Bo false)],[[]],[]⟩ else EvX C fr .r ⟨[(4,Bo false)],[[]],[]⟩:=by
 have hm:xs.length≤4294967296:=h.1
 refine down xs.length ?_ ?_
 ·rw [EvL_eq Zqf.eq_1]
  simp [hl,List.drop_eq_nil_of_le]
 ·intro i hi ih
  have hi2:i<ys.length:=by omega
  have h4:IntKind.wrap .i64 ((i:Int)+1)=(i:Int)+1:=wrap64 (by omega) (by omega)
  rw [EvL_eq Zqf.eq_1]
  simp +decide [hi,hi2,c_eqAtom _ _ _ _ (h.2 _ (List.getElem_mem hi)).2,h4]
  simp at ih
  simp only [drop_eq_iff hi hi2,ih,Atom.ext_iff]
  split <;> first | (simp_all;done) | grind
theorem Zbnr (xs ys:List Atom) (h:SmL Atom.small xs):C Z99 [L 2 (xs.map Atom.c),L 2 (ys.map Atom.c)] []=some (Bo (decide (xs=ys)),[]):=by
 refine run Zbm2 rfl ?_
 by_cases hl:ys.length=xs.length
 ·have h3:=fun fr=>Zbnq xs ys h hl fr 0 (Nat.zero_le _)
  simp at h3
  simp [Zwk,h3,hl]
  split <;> simp_all
 ·have h1:xs≠ys:=fun h=>hl (by rw [h])
  have h2:¬ ((xs.length:Int)=ys.length):=by omega
  simp [Zwk,h1,h2]
theorem Zbns (xs:List Atom) (h:OkL Atom.okay xs) (fr:List Fr):∀ i,i≤xs.length→∀ left:Int,
  (EvL C fr [0,1,5] Zjh ⟨[(0,L 2 (xs.map Atom.c)),(1,I left),(5,I i)],[[]],[]⟩=EvX C fr .r ⟨[(4,I (-1))],[[]],[]⟩∧szFold Atom.sz (xs.drop i) left=-1) ∨
  EvL C fr [0,1,5] Zjh ⟨[(0,L 2 (xs.map Atom.c)),(1,I left),(5,I i)],[[]],[]⟩=EvX C fr (.x 0) ⟨[(0,L 2 (xs.map Atom.c)),(1,I (szFold Atom.sz (xs.drop i) left)),(5,I xs.length),(15,Bo false)],[[]],[]⟩:=by
 have hm:maxLen≤9223372036854775807:=by decide
 have hl:=h.1
 refine down xs.length ?_ ?_
 ·intro left
  right
  rw [EvL_eq Zjh.eq_1]
  simp [List.drop_eq_nil_of_le,szFold]
 ·intro i hi ih left
  have h4:IntKind.wrap .i64 ((i:Int)+1)=(i:Int)+1:=wrap64 (by omega) (by omega)
  have e:EvL C fr [0,1,5] Zjh ⟨[(0,L 2 (xs.map Atom.c)),(1,I left),(5,I i)],[[]],[]⟩=if Atom.sz xs[i] left<0 then EvX C fr .r ⟨[(4,I (-1))],[[]],[]⟩ else EvL C fr [0,1,5] Zjh ⟨[(0,L 2 (xs.map Atom.c)),(1,I (Atom.sz xs[i] left)),(5,I ((i+1:Nat):Int))],[[]],[]⟩:=by
   rw [EvL_eq Zjh.eq_1]
   simp [hi,c_szAtom,h4]
  rw [e,List.drop_eq_getElem_cons hi,szFold]
  split
  ·exact .inl ⟨rfl,rfl⟩
  ·exact ih _
theorem Zbnt (xs:List Atom) (left:Int) (h:OkL Atom.okay xs):C Z93 [L 2 (xs.map Atom.c),I left] []=some (I (szL Atom.sz xs left),[]):=by
 refine run Zbmw rfl ?_
 have h3:=fun fr l=>Zbns xs h fr 0 (Nat.zero_le _) l
 simp at h3
 simp [Z7s,szL,andSz,sz1]
 split
 ·simp_all
 ·rcases h3 [.blk 0,.seq _,.fin _ _] (IntKind.wrap .i64 (left - xs.length)) with ⟨h5,h6⟩ | h5
  ·rw [h5];simp [h6]
  ·rw [h5];simp
theorem Z8o (x0:Int) (x1:List Atom) (h1:SmL Atom.small x1):C Z9h [.agg [I x0,.t (.lst 2 (x1.map Atom.c))]] []=some (.agg [I x0,.own 0],[.arr Zkw 2 true (x1.map Atom.c)]):=by
 refine run Zbma rfl ?_
 simp [Z63,Zbnp _ h1]
theorem Z8p (x0:Int) (x1:List Atom) (y0:Int) (y1:List Atom) (h1:SmL Atom.small x1):C Z9l [.agg [I x0,.t (.lst 2 (x1.map Atom.c))],.agg [I y0,.t (.lst 2 (y1.map Atom.c))]] []=some (Bo (decide (x0=y0∧x1=y1)),[]):=by
 refine run Zbme rfl ?_
 simp [Z66,Zbnr _ _ h1]
 repeat' split
 all_goals first | (simp_all;done) | grind
theorem Z8q (x0:Int) (x1:List Atom) (left:Int) (h1:OkL Atom.okay x1):C Z9e [.agg [I x0,.t (.lst 2 (x1.map Atom.c))],I left] []=some (I (Zb.sz ⟨x0,x1⟩ left),[]):=by
 refine run Zbl7 rfl ?_
 simp [Z60,Zbnt _ _ h1,Zb.sz,andSz,sz1]
 repeat' split
 all_goals first | (simp_all;done) | grind
theorem c_toBox (x0:List Int) (x1:List Int) (h0:SmA x0) (h1:SmA x1):C Z9x [.agg [.t (tI x0),.t (tI x1)]] []=some (.agg [.own 0,.own 1],[.arr Zx 1 true (x0.map ic),.arr Zx 1 true (x1.map ic)]):=by
 refine run Zbmq rfl ?_
 simp [Z7k,Zws _ h0,Zws _ h1]
theorem c_eqBox (x0:List Int) (x1:List Int) (y0:List Int) (y1:List Int) (h0:SmA x0) (h1:SmA x1):C Z9z [.agg [.t (tI x0),.t (tI x1)],.agg [.t (tI y0),.t (tI y1)]] []=some (Bo (decide (x0=y0∧x1=y1)),[]):=by
 refine run Zbms rfl ?_
 simp [Z7m,Zwt _ _ h0,Zwt _ _ h1]
 repeat' split
 all_goals first | (simp_all;done) | grind
theorem c_szBox (x0:List Int) (x1:List Int) (left:Int) :C Z9w [.agg [.t (tI x0),.t (tI x1)],I left] []=some (I (Box.sz ⟨x0,x1⟩ left),[]):=by
 refine run Zbmp rfl ?_
 simp [Z7j,Z8n,Box.sz,andSz,sz1]
 repeat' split
 all_goals first | (simp_all;done) | grind
theorem Zbnu (x0:Int) (x1:Int) :C Zbat [.agg [I x0,I x1]] []=some (.agg [I x0,I x1],[]):=by
 refine run Zbnm rfl ?_
 simp [Z8l]
theorem Zbnv (x0:Int) (x1:Int) (y0:Int) (y1:Int) :C Zbau [.agg [I x0,I x1],.agg [I y0,I y1]] []=some (Bo (decide (x0=y0∧x1=y1)),[]):=by
 refine run Zbnn rfl ?_
 simp [Z8m]
 repeat' split
 all_goals first | (simp_all;done) | grind
theorem Zbnw (xs:List Zg) (h:SmA xs) (fr:List Fr):∀ i,i≤xs.length→EvL C fr [0,3,4] Zqk ⟨[(0,L 2 (xs.map Zg.c)),(3,.own 0),(4,I i)],[[]],[.arr Ze5 2 true (fill Zg.c [.int .i64 0,.int .i64 0] xs i)]⟩ =
  EvX C fr (.x 0) ⟨[(0,L 2 (xs.map Zg.c)),(3,.own 0),(4,I xs.length),(11,Bo false)],[[]],[.arr Ze5 2 true (xs.map Zg.c)]⟩:=by
 have hl:xs.length≤4294967296:=h
 refine down xs.length ?_ ?_
 ·rw [EvL_eq Zqk.eq_1]
  simp [fill_all]
 ·intro i hi ih
  rw [EvL_eq Zqk.eq_1,← ih]
  have h1:=fill_set (f:=Zg.c) (z:=[.int .i64 0,.int .i64 0]) hi
  have h3:=fill_len (f:=Zg.c) (z:=[.int .i64 0,.int .i64 0]) (Nat.le_of_lt hi)
  have h4:IntKind.wrap .i64 ((i:Int)+1)=(i:Int)+1:=wrap64 (by omega) (by omega)
  simp at h1
  simp [hi,Zbnu,h3,h4,h1]
theorem Zbnx (xs:List Zg) (h:SmA xs):C Zbai [L 2 (xs.map Zg.c)] []=some (.own 0,[.arr Ze5 2 true (xs.map Zg.c)]):=by
 refine run Zbnb rfl ?_
 have hl:xs.length≤4294967296:=h
 have h1:∀ b,b≤4096→xs.length*b≤room:=fun b hb=>Nat.le_trans (Nat.mul_le_mul hl hb) (by decide)
 have h2:(xs.length:Int)≤140737488355328:=by omega
 have h3:=fun fr=>Zbnw xs h fr 0 (Nat.zero_le _)
 simp [fill_zero] at h3
 simp [Z8a,h1,h2,h3]
theorem Zbny (xs ys:List Zg) (h:SmA xs) (hl:ys.length=xs.length) (fr:List Fr):∀ i,i≤xs.length→EvL C fr [0,1,5] Zql ⟨[(0,L 2 (xs.map Zg.c)),(1,L 2 (ys.map Zg.c)),(5,I i)],[[]],[]⟩ =
  if xs.drop i=ys.drop i then EvX C fr (.x 0) ⟨[(0,L 2 (xs.map Zg.c)),(1,L 2 (ys.map Zg.c)),(5,I xs.length),(14,Bo false)],[[]],[]⟩ else EvX C fr .r ⟨[(4,Bo false)],[[]],[]⟩:=by
 have hm:xs.length≤4294967296:=h
 refine down xs.length ?_ ?_
 ·rw [EvL_eq Zql.eq_1]
  simp [hl,List.drop_eq_nil_of_le]
 ·intro i hi ih
  have hi2:i<ys.length:=by omega
  have h4:IntKind.wrap .i64 ((i:Int)+1)=(i:Int)+1:=wrap64 (by omega) (by omega)
  rw [EvL_eq Zql.eq_1]
  simp +decide [hi,hi2,Zbnv _ _ _ _ ,h4]
  simp at ih
  simp only [drop_eq_iff hi hi2,ih,Zg.ext_iff]
  split <;> first | (simp_all;done) | grind
theorem Zbnz (xs ys:List Zg) (h:SmA xs):C Zbal [L 2 (xs.map Zg.c),L 2 (ys.map Zg.c)] []=some (Bo (decide (xs=ys)),[]):=by
 refine run Zbne rfl ?_
 by_cases hl:ys.length=xs.length
 ·have h3:=fun fr=>Zbny xs ys h hl fr 0 (Nat.zero_le _)
  simp at h3
  simp [Zwq,h3,hl]
  split <;> simp_all
 ·have h1:xs≠ys:=fun h=>hl (by rw [h])
  have h2:¬ ((xs.length:Int)=ys.length):=by omega
  simp [Zwq,h1,h2]
@[simp] theorem Zbn0 (es:List (List T)) (left:Int):C Zbag [L 2 es,I left] []=some (I (sz1 es.length left),[]):=by
 refine run Zbm9 rfl ?_
 simp [Z78,sz1]
 split <;> simp_all
theorem Zny (x0:Int) (x1:Int) (x2:Int) (x3:Int) (x4:Int) (x5:List Zg) (h5:SmA x5):C Z95 [.agg [I x0,I x1,I x2,I x3,I x4,.t (.lst 2 (x5.map Zg.c))]] []=some (.agg [I x0,I x1,I x2,I x3,I x4,.own 0],[.arr Ze5 2 true (x5.map Zg.c)]):=by
 refine run Zbmy rfl ?_
 simp [Z7u,Zbnx _ h5]
theorem Znz (x0:Int) (x1:Int) (x2:Int) (x3:Int) (x4:Int) (x5:List Zg) (y0:Int) (y1:Int) (y2:Int) (y3:Int) (y4:Int) (y5:List Zg) (h5:SmA x5):C Z98 [.agg [I x0,I x1,I x2,I x3,I x4,.t (.lst 2 (x5.map Zg.c))],.agg [I y0,I y1,I y2,I y3,I y4,.t (.lst 2 (y5.map Zg.c))]] []=some (Bo (decide (x0=y0∧x1=y1∧x2=y2∧x3=y3∧x4=y4∧x5=y5)),[]):=by
 refine run Zbm1 rfl ?_
 simp [Z7x,Zbnz _ _ h5]
 repeat' split
 all_goals first | (simp_all;done) | grind
theorem Zbn1 (x0:Int) (x1:Int) (x2:Int) (x3:Int) (x4:Int) (x5:List Zg) (left:Int) :C Z92 [.agg [I x0,I x1,I x2,I x3,I x4,.t (.lst 2 (x5.map Zg.c))],I left] []=some (I (Zi.sz ⟨x0,x1,x2,x3,x4,x5⟩ left),[]):=by
 refine run Zbmv rfl ?_
 simp [Z7r,Zbn0,Zi.sz,andSz,sz1]
 repeat' split
 all_goals first | (simp_all;done) | grind
theorem Zbn2 (x0:Int) (x1:Int) (x2:Int) (x3:Int) (x4:Int) (x5:List Zg) (x6:Int) (x7:Int) (x8:Int) (x9:Int) (x10:Int) (x11:List Zg) (x12:Int) (x13:Int) (x14:Int) (x15:Int) (x16:Int) (x17:List Zg) (x18:Int) (x19:Int) (x20:Int) (x21:Int) (x22:Int) (x23:List Zg) (x24:Int) (x25:Int) (x26:Int) (x27:Int) (x28:Int) (x29:List Zg) (h5:SmA x5) (h11:SmA x11) (h17:SmA x17) (h23:SmA x23) (h29:SmA x29):C Z9g [.agg [I x0,I x1,I x2,I x3,I x4,.t (.lst 2 (x5.map Zg.c)),I x6,I x7,I x8,I x9,I x10,.t (.lst 2 (x11.map Zg.c)),I x12,I x13,I x14,I x15,I x16,.t (.lst 2 (x17.map Zg.c)),I x18,I x19,I x20,I x21,I x22,.t (.lst 2 (x23.map Zg.c)),I x24,I x25,I x26,I x27,I x28,.t (.lst 2 (x29.map Zg.c))]] []=some (.agg [I x0,I x1,I x2,I x3,I x4,.own 0,I x6,I x7,I x8,I x9,I x10,.own 1,I x12,I x13,I x14,I x15,I x16,.own 2,I x18,I x19,I x20,I x21,I x22,.own 3,I x24,I x25,I x26,I x27,I x28,.own 4],[.arr Ze5 2 true (x5.map Zg.c),.arr Ze5 2 true (x11.map Zg.c),.arr Ze5 2 true (x17.map Zg.c),.arr Ze5 2 true (x23.map Zg.c),.arr Ze5 2 true (x29.map Zg.c)]):=by
 refine run Zbl9 rfl ?_
 simp [Z62,Zny _ _ _ _ _ _ h5,Zny _ _ _ _ _ _ h11,Zny _ _ _ _ _ _ h17,Zny _ _ _ _ _ _ h23,Zny _ _ _ _ _ _ h29]
theorem Zbn3 (x0:Int) (x1:Int) (x2:Int) (x3:Int) (x4:Int) (x5:List Zg) (x6:Int) (x7:Int) (x8:Int) (x9:Int) (x10:Int) (x11:List Zg) (x12:Int) (x13:Int) (x14:Int) (x15:Int) (x16:Int) (x17:List Zg) (x18:Int) (x19:Int) (x20:Int) (x21:Int) (x22:Int) (x23:List Zg) (x24:Int) (x25:Int) (x26:Int) (x27:Int) (x28:Int) (x29:List Zg) (y0:Int) (y1:Int) (y2:Int) (y3:Int) (y4:Int) (y5:List Zg) (y6:Int) (y7:Int) (y8:Int) (y9:Int) (y10:Int) (y11:List Zg) (y12:Int) (y13:Int) (y14:Int) (y15:Int) (y16:Int) (y17:List Zg) (y18:Int) (y19:Int) (y20:Int) (y21:Int) (y22:Int) (y23:List Zg) (y24:Int) (y25:Int) (y26:Int) (y27:Int) (y28:Int) (y29:List Zg) (h5:SmA x5) (h11:SmA x11) (h17:SmA x17) (h23:SmA x23) (h29:SmA x29):C Z9k [.agg [I x0,I x1,I x2,I x3,I x4,.t (.lst 2 (x5.map Zg.c)),I x6,I x7,I x8,I x9,I x10,.t (.lst 2 (x11.map Zg.c)),I x12,I x13,I x14,I x15,I x16,.t (.lst 2 (x17.map Zg.c)),I x18,I x19,I x20,I x21,I x22,.t (.lst 2 (x23.map Zg.c)),I x24,I x25,I x26,I x27,I x28,.t (.lst 2 (x29.map Zg.c))],.agg [I y0,I y1,I y2,I y3,I y4,.t (.lst 2 (y5.map Zg.c)),I y6,I y7,I y8,I y9,I y10,.t (.lst 2 (y11.map Zg.c)),I y12,I y13,I y14,I y15,I y16,.t (.lst 2 (y17.map Zg.c)),I y18,I y19,I y20,I y21,I y22,.t (.lst 2 (y23.map Zg.c)),I y24,I y25,I y26,I y27,I y28,.t (.lst 2 (y29.map Zg.c))]] []=some (Bo (decide (x0=y0∧x1=y1∧x2=y2∧x3=y3∧x4=y4∧x5=y5∧x6=y6∧x7=y7∧x8=y8∧x9=y9∧x10=y10∧x11=y11∧x12=y12∧x13=y13∧x14=y14∧x15=y15∧x16=y16∧x17=y17∧x18=y18∧x19=y19∧x20=y20∧x21=y21∧x22=y22∧x23=y23∧x24=y24∧x25=y25∧x26=y26∧x27=y27∧x28=y28∧x29=y29)),[]):=by
 refine run Zbmd rfl ?_
 simp [Z65,Znz _ _ _ _ _ _ _ _ _ _ _ _ h5,Znz _ _ _ _ _ _ _ _ _ _ _ _ h11,Znz _ _ _ _ _ _ _ _ _ _ _ _ h17,Znz _ _ _ _ _ _ _ _ _ _ _ _ h23,Znz _ _ _ _ _ _ _ _ _ _ _ _ h29]
 repeat' split
 all_goals first | (simp_all;done) | grind
theorem Zbn4 (x0:Int) (x1:Int) (x2:Int) (x3:Int) (x4:Int) (x5:List Zg) (x6:Int) (x7:Int) (x8:Int) (x9:Int) (x10:Int) (x11:List Zg) (x12:Int) (x13:Int) (x14:Int) (x15:Int) (x16:Int) (x17:List Zg) (x18:Int) (x19:Int) (x20:Int) (x21:Int) (x22:Int) (x23:List Zg) (x24:Int) (x25:Int) (x26:Int) (x27:Int) (x28:Int) (x29:List Zg) (left:Int) :C Z9d [.agg [I x0,I x1,I x2,I x3,I x4,.t (.lst 2 (x5.map Zg.c)),I x6,I x7,I x8,I x9,I x10,.t (.lst 2 (x11.map Zg.c)),I x12,I x13,I x14,I x15,I x16,.t (.lst 2 (x17.map Zg.c)),I x18,I x19,I x20,I x21,I x22,.t (.lst 2 (x23.map Zg.c)),I x24,I x25,I x26,I x27,I x28,.t (.lst 2 (x29.map Zg.c))],I left] []=some (I (Zd.sz ⟨⟨x0,x1,x2,x3,x4,x5⟩,⟨x6,x7,x8,x9,x10,x11⟩,⟨x12,x13,x14,x15,x16,x17⟩,⟨x18,x19,x20,x21,x22,x23⟩,⟨x24,x25,x26,x27,x28,x29⟩⟩ left),[]):=by
 refine run Zbl6 rfl ?_
 simp [Z6z,Zbn1,Zd.sz,andSz,sz1]
 repeat' split
 all_goals first | (simp_all;done) | grind
theorem Zbn5 (x0:Int) (x1:Int) (x2:Int) :C Zbak [.agg [I x0,I x1,I x2]] []=some (.agg [I x0,I x1,I x2],[]):=by
 refine run Zbnd rfl ?_
 simp [Z8c]
theorem Zbn6 (x0:Int) (x1:Int) (x2:Int) (y0:Int) (y1:Int) (y2:Int) :C Zban [.agg [I x0,I x1,I x2],.agg [I y0,I y1,I y2]] []=some (Bo (decide (x0=y0∧x1=y1∧x2=y2)),[]):=by
 refine run Zbng rfl ?_
 simp [Z8e]
 repeat' split
 all_goals first | (simp_all;done) | grind
theorem Zbn7 (xs:List Zc) (h:SmA xs) (fr:List Fr):∀ i,i≤xs.length→EvL C fr [0,3,4] Zqe ⟨[(0,L 3 (xs.map Zc.c)),(3,.own 0),(4,I i)],[[]],[.arr Zjp 3 true (fill Zc.c [.int .i64 0,.int .i64 0,.int .i64 0] xs i)]⟩ =
  EvX C fr (.x 0) ⟨[(0,L 3 (xs.map Zc.c)),(3,.own 0),(4,I xs.length),(11,Bo false)],[[]],[.arr Zjp 3 true (xs.map Zc.c)]⟩:=by
 have hl:xs.length≤4294967296:=h
 refine down xs.length ?_ ?_
 ·rw [EvL_eq Zqe.eq_1]
  simp [fill_all]
 ·intro i hi ih
  rw [EvL_eq Zqe.eq_1,← ih]
  have h1:=fill_set (f:=Zc.c) (z:=[.int .i64 0,.int .i64 0,.int .i64 0]) hi
  have h3:=fill_len (f:=Zc.c) (z:=[.int .i64 0,.int .i64 0,.int .i64 0]) (Nat.le_of_lt hi)
  have h4:IntKind.wrap .i64 ((i:Int)+1)=(i:Int)+1:=wrap64 (by omega) (by omega)
  simp at h1
  simp [hi,Zbn5,h3,h4,h1]
theorem Zbn8 (xs:List Zc) (h:SmA xs):C Z97 [L 3 (xs.map Zc.c)] []=some (.own 0,[.arr Zjp 3 true (xs.map Zc.c)]):=by
 refine run Zbm0 rfl ?_
 have hl:xs.length≤4294967296:=h
 have h1:∀ b,b≤4096→xs.length*b≤room:=fun b hb=>Nat.le_trans (Nat.mul_le_mul hl hb) (by decide)
 have h2:(xs.length:Int)≤140737488355328:=by omega
 have h3:=fun fr=>Zbn7 xs h fr 0 (Nat.zero_le _)
 simp [fill_zero] at h3
 simp [Z7w,h1,h2,h3]
theorem Zbn9 (xs ys:List Zc) (h:SmA xs) (hl:ys.length=xs.length) (fr:List Fr):∀ i,i≤xs.length→EvL C fr [0,1,5] Zqg ⟨[(0,L 3 (xs.map Zc.c)),(1,L 3 (ys.map Zc.c)),(5,I i)],[[]],[]⟩ =
  if xs.drop i=ys.drop i then EvX C fr (.x 0) ⟨[(0,L 3 (xs.map Zc.c)),(1,L 3 (ys.map Zc.c)),(5,I xs.length),(14,Bo false)],[[]],[]⟩ else EvX C fr .r ⟨[(4,Bo false)],[[]],[]⟩:=by
 have hm:xs.length≤4294967296:=h
 refine down xs.length ?_ ?_
 ·rw [EvL_eq Zqg.eq_1]
  simp [hl,List.drop_eq_nil_of_le]
 ·intro i hi ih
  have hi2:i<ys.length:=by omega
  have h4:IntKind.wrap .i64 ((i:Int)+1)=(i:Int)+1:=wrap64 (by omega) (by omega)
  rw [EvL_eq Zqg.eq_1]
  simp +decide [hi,hi2,Zbn6 _ _ _ _ _ _ ,h4]
  simp at ih
  simp only [drop_eq_iff hi hi2,ih,Zc.ext_iff]
  split <;> first | (simp_all;done) | grind
theorem Zboa (xs ys:List Zc) (h:SmA xs):C Zbaa [L 3 (xs.map Zc.c),L 3 (ys.map Zc.c)] []=some (Bo (decide (xs=ys)),[]):=by
 refine run Zbm3 rfl ?_
 by_cases hl:ys.length=xs.length
 ·have h3:=fun fr=>Zbn9 xs ys h hl fr 0 (Nat.zero_le _)
  simp at h3
  simp [Zwl,h3,hl]
  split <;> simp_all
 ·have h1:xs≠ys:=fun h=>hl (by rw [h])
  have h2:¬ ((xs.length:Int)=ys.length):=by omega
  simp [Zwl,h1,h2]
@[simp] theorem Zbob (es:List (List T)) (left:Int):C Z94 [L 3 es,I left] []=some (I (sz1 es.length left),[]):=by
 refine run Zbmx rfl ?_
 simp [Z7t,sz1]
 split <;> simp_all
theorem c_toPlan (x0:List Zc) (h0:SmA x0):C Z9i [.agg [.t (.lst 3 (x0.map Zc.c))]] []=some (.agg [.own 0],[.arr Zjp 3 true (x0.map Zc.c)]):=by
 refine run Zbmb rfl ?_
 simp [Z64,Zbn8 _ h0]
theorem c_eqPlan (x0:List Zc) (y0:List Zc) (h0:SmA x0):C Z9m [.agg [.t (.lst 3 (x0.map Zc.c))],.agg [.t (.lst 3 (y0.map Zc.c))]] []=some (Bo (decide (x0=y0)),[]):=by
 refine run Zbmf rfl ?_
 simp [Z67,Zboa _ _ h0]
 repeat' split
 all_goals first | (simp_all;done) | grind
theorem c_szPlan (x0:List Zc) (left:Int) :C Z9f [.agg [.t (.lst 3 (x0.map Zc.c))],I left] []=some (I (Plan.sz ⟨x0⟩ left),[]):=by
 refine run Zbl8 rfl ?_
 simp [Z61,Zbob,Plan.sz,andSz,sz1]
 repeat' split
 all_goals first | (simp_all;done) | grind
theorem Z8r (x0:List Zc) (x1:List Int) (x2:List Int) (x3:Int) (h0:SmA x0) (h1:SmA x1) (h2:SmA x2):C Z9s [.agg [.t (.lst 3 (x0.map Zc.c)),.t (tI x1),.t (tI x2),I x3]] []=some (.agg [.own 0,.own 1,.own 2,I x3],[.arr Zjp 3 true (x0.map Zc.c),.arr Zx 1 true (x1.map ic),.arr Zx 1 true (x2.map ic)]):=by
 refine run Zbml rfl ?_
 simp [Z7e,c_toPlan _ h0,c_toBox _ _ h1 h2]
theorem Z8s (x0:List Zc) (x1:List Int) (x2:List Int) (x3:Int) (y0:List Zc) (y1:List Int) (y2:List Int) (y3:Int) (h0:SmA x0) (h1:SmA x1) (h2:SmA x2):C Z9t [.agg [.t (.lst 3 (x0.map Zc.c)),.t (tI x1),.t (tI x2),I x3],.agg [.t (.lst 3 (y0.map Zc.c)),.t (tI y1),.t (tI y2),I y3]] []=some (Bo (decide (x0=y0∧x1=y1∧x2=y2∧x3=y3)),[]):=by
 refine run Zbmm rfl ?_
 simp [Z7f,c_eqPlan _ _ h0,c_eqBox _ _ _ _ h1 h2]
 repeat' split
 all_goals first | (simp_all;done) | grind
theorem Z8t (x0:List Zc) (x1:List Int) (x2:List Int) (x3:Int) (left:Int) :C Z9r [.agg [.t (.lst 3 (x0.map Zc.c)),.t (tI x1),.t (tI x2),I x3],I left] []=some (I (Region.sz ⟨⟨x0⟩,⟨x1,x2⟩,x3⟩ left),[]):=by
 refine run Zbmk rfl ?_
 simp [Z7d,c_szPlan,c_szBox,Region.sz,andSz,sz1]
 repeat' split
 all_goals first | (simp_all;done) | grind
theorem Zboc (x0:Int) (x1:List Atom) (x2:List Zc) (x3:List Int) (x4:List Int) (x5:Int) (x6:Int) (x7:Int) (h1:SmL Atom.small x1) (h2:SmA x2) (h3:SmA x3) (h4:SmA x4):C Zbaq [.agg [I x0,.t (.lst 2 (x1.map Atom.c)),.t (.lst 3 (x2.map Zc.c)),.t (tI x3),.t (tI x4),I x5,I x6,I x7]] []=some (.agg [I x0,.own 0,.own 1,.own 2,.own 3,I x5,I x6,I x7],[.arr Zkw 2 true (x1.map Atom.c),.arr Zjp 3 true (x2.map Zc.c),.arr Zx 1 true (x3.map ic),.arr Zx 1 true (x4.map ic)]):=by
 refine run Zbnj rfl ?_
 simp [Z8i,Z8o _ _ h1,Z8r _ _ _ _ h2 h3 h4]
theorem Zbod (x0:Int) (x1:List Atom) (x2:List Zc) (x3:List Int) (x4:List Int) (x5:Int) (x6:Int) (x7:Int) (y0:Int) (y1:List Atom) (y2:List Zc) (y3:List Int) (y4:List Int) (y5:Int) (y6:Int) (y7:Int) (h1:SmL Atom.small x1) (h2:SmA x2) (h3:SmA x3) (h4:SmA x4):C Zbar [.agg [I x0,.t (.lst 2 (x1.map Atom.c)),.t (.lst 3 (x2.map Zc.c)),.t (tI x3),.t (tI x4),I x5,I x6,I x7],.agg [I y0,.t (.lst 2 (y1.map Atom.c)),.t (.lst 3 (y2.map Zc.c)),.t (tI y3),.t (tI y4),I y5,I y6,I y7]] []=some (Bo (decide (x0=y0∧x1=y1∧x2=y2∧x3=y3∧x4=y4∧x5=y5∧x6=y6∧x7=y7)),[]):=by
 refine run Zbnk rfl ?_
 simp [Z8j,Z8p _ _ _ _ h1,Z8s _ _ _ _ _ _ _ _ h2 h3 h4]
 repeat' split
 all_goals first | (simp_all;done) | grind
theorem Zboe (x0:Int) (x1:List Atom) (x2:List Zc) (x3:List Int) (x4:List Int) (x5:Int) (x6:Int) (x7:Int) (left:Int) (h1:OkL Atom.okay x1):C Zbap [.agg [I x0,.t (.lst 2 (x1.map Atom.c)),.t (.lst 3 (x2.map Zc.c)),.t (tI x3),.t (tI x4),I x5,I x6,I x7],I left] []=some (I (Ze.sz ⟨⟨x0,x1⟩,⟨⟨x2⟩,⟨x3,x4⟩,x5⟩,x6,x7⟩ left),[]):=by
 refine run Zbni rfl ?_
 simp [Z8h,Z8q _ _ _ h1,Z8t,Ze.sz,andSz,sz1]
 repeat' split
 all_goals first | (simp_all;done) | grind
theorem Zbof (xs:List Ze) (h:SmL Ze.small xs) (fr:List Fr):∀ i,i≤xs.length→EvL C fr [0,3,4] Zqh ⟨[(0,L 8 (xs.map Ze.c)),(3,.own 0),(4,I i)],[[]],[.arr Zn9 8 true (fill Ze.c [.int .i64 0,.lst 2 [],.lst 3 [],.lst 1 [],.lst 1 [],.int .i64 0,.int .i64 0,.int .i64 0] xs i)]⟩ =
  EvX C fr (.x 0) ⟨[(0,L 8 (xs.map Ze.c)),(3,.own 0),(4,I xs.length),(11,Bo false)],[[]],[.arr Zn9 8 true (xs.map Ze.c)]⟩:=by
 have hl:xs.length≤4294967296:=h.1
 refine down xs.length ?_ ?_
 ·rw [EvL_eq Zqh.eq_1]
  simp [fill_all]
 ·intro i hi ih
  rw [EvL_eq Zqh.eq_1,← ih]
  have h1:=fill_set (f:=Ze.c) (z:=[.int .i64 0,.lst 2 [],.lst 3 [],.lst 1 [],.lst 1 [],.int .i64 0,.int .i64 0,.int .i64 0]) hi
  have h3:=fill_len (f:=Ze.c) (z:=[.int .i64 0,.lst 2 [],.lst 3 [],.lst 1 [],.lst 1 [],.int .i64 0,.int .i64 0,.int .i64 0]) (Nat.le_of_lt hi)
  have h4:IntKind.wrap .i64 ((i:Int)+1)=(i:Int)+1:=wrap64 (by omega) (by omega)
  simp at h1
  simp [hi,Zboc _ _ _ _ _ _ _ _ (h.2 _ (List.getElem_mem hi)).1 (h.2 _ (List.getElem_mem hi)).2.1 (h.2 _ (List.getElem_mem hi)).2.2.1 (h.2 _ (List.getElem_mem hi)).2.2.2,h3,h4,h1]
theorem Zbog (xs:List Ze) (h:SmL Ze.small xs):C Zbad [L 8 (xs.map Ze.c)] []=some (.own 0,[.arr Zn9 8 true (xs.map Ze.c)]):=by
 refine run Zbm6 rfl ?_
 have hl:xs.length≤4294967296:=h.1
 have h1:∀ b,b≤4096→xs.length*b≤room:=fun b hb=>Nat.le_trans (Nat.mul_le_mul hl hb) (by decide)
 have h2:(xs.length:Int)≤140737488355328:=by omega
 have h3:=fun fr=>Zbof xs h fr 0 (Nat.zero_le _)
 simp [fill_zero] at h3
 simp [Z72,h1,h2,h3]
theorem Zboh (xs ys:List Ze) (h:SmL Ze.small xs) (hl:ys.length=xs.length) (fr:List Fr):∀ i,i≤xs.length→EvL C fr [0,1,5] Znu ⟨[(0,L 8 (xs.map Ze.c)),(1,L 8 (ys.map Ze.c)),(5,I i)],[[]],[]⟩ =
  if xs.drop i=ys.drop i then EvX C fr (.x 0) ⟨[(0,L 8 (xs.map Ze.c)),(1,L 8 (ys.map Ze.c)),(5,I xs.length),(14,Bo false)],[[]],[]⟩ else EvX C fr .r ⟨[(4,Bo false)],[[]],[]⟩:=by
 have hm:xs.length≤4294967296:=h.1
 refine down xs.length ?_ ?_
 ·rw [EvL_eq Znu.eq_1]
  simp [hl,List.drop_eq_nil_of_le]
 ·intro i hi ih
  have hi2:i<ys.length:=by omega
  have h4:IntKind.wrap .i64 ((i:Int)+1)=(i:Int)+1:=wrap64 (by omega) (by omega)
  rw [EvL_eq Znu.eq_1]
  simp +decide [hi,hi2,Zbod _ _ _ _ _ _ _ _ _ _ _ _ _ _ _ _ (h.2 _ (List.getElem_mem hi)).1 (h.2 _ (List.getElem_mem hi)).2.1 (h.2 _ (List.getElem_mem hi)).2.2.1 (h.2 _ (List.getElem_mem hi)).2.2.2,h4]
  simp at ih
  simp only [drop_eq_iff hi hi2,ih,Ze.ext_iff,Zb.ext_iff,Region.ext_iff,Plan.ext_iff,Box.ext_iff]
  split <;> first | (simp_all;done) | grind
theorem Zboi (xs ys:List Ze) (h:SmL Ze.small xs):C Zxp [L 8 (xs.map Ze.c),L 8 (ys.map Ze.c)] []=some (Bo (decide (xs=ys)),[]):=by
 refine run Z73 rfl ?_
 by_cases hl:ys.length=xs.length
 ·have h3:=fun fr=>Zboh xs ys h hl fr 0 (Nat.zero_le _)
  simp at h3
  simp [Zqi,h3,hl]
  split <;> simp_all
 ·have h1:xs≠ys:=fun h=>hl (by rw [h])
  have h2:¬ ((xs.length:Int)=ys.length):=by omega
  simp [Zqi,h1,h2]
theorem Zboj (xs:List Ze) (h:OkL Ze.okay xs) (fr:List Fr):∀ i,i≤xs.length→∀ left:Int,
  (EvL C fr [0,1,5] Zji ⟨[(0,L 8 (xs.map Ze.c)),(1,I left),(5,I i)],[[]],[]⟩=EvX C fr .r ⟨[(4,I (-1))],[[]],[]⟩∧szFold Ze.sz (xs.drop i) left=-1) ∨
  EvL C fr [0,1,5] Zji ⟨[(0,L 8 (xs.map Ze.c)),(1,I left),(5,I i)],[[]],[]⟩=EvX C fr (.x 0) ⟨[(0,L 8 (xs.map Ze.c)),(1,I (szFold Ze.sz (xs.drop i) left)),(5,I xs.length),(15,Bo false)],[[]],[]⟩:=by
 have hm:maxLen≤9223372036854775807:=by decide
 have hl:=h.1
 refine down xs.length ?_ ?_
 ·intro left
  right
  rw [EvL_eq Zji.eq_1]
  simp [List.drop_eq_nil_of_le,szFold]
 ·intro i hi ih left
  have h4:IntKind.wrap .i64 ((i:Int)+1)=(i:Int)+1:=wrap64 (by omega) (by omega)
  have e:EvL C fr [0,1,5] Zji ⟨[(0,L 8 (xs.map Ze.c)),(1,I left),(5,I i)],[[]],[]⟩=if Ze.sz xs[i] left<0 then EvX C fr .r ⟨[(4,I (-1))],[[]],[]⟩ else EvL C fr [0,1,5] Zji ⟨[(0,L 8 (xs.map Ze.c)),(1,I (Ze.sz xs[i] left)),(5,I ((i+1:Nat):Int))],[[]],[]⟩:=by
   rw [EvL_eq Zji.eq_1]
   simp [hi,Zboe _ _ _ _ _ _ _ _ _ (h.2 _ (List.getElem_mem hi)).2.1,h4]
  rw [e,List.drop_eq_getElem_cons hi,szFold]
  split
  ·exact .inl ⟨rfl,rfl⟩
  ·exact ih _
theorem Zbok (xs:List Ze) (left:Int) (h:OkL Ze.okay xs):C Zbac [L 8 (xs.map Ze.c),I left] []=some (I (szL Ze.sz xs left),[]):=by
 refine run Zbm5 rfl ?_
 have h3:=fun fr l=>Zboj xs h fr 0 (Nat.zero_le _) l
 simp at h3
 simp [Z71,szL,andSz,sz1]
 split
 ·simp_all
 ·rcases h3 [.blk 0,.seq _,.fin _ _] (IntKind.wrap .i64 (left - xs.length)) with ⟨h5,h6⟩ | h5
  ·rw [h5];simp [h6]
  ·rw [h5];simp
theorem Zbol (x0:Int) (x1:List Ze) (h1:SmL Ze.small x1):C Z9v [.agg [I x0,.t (.lst 8 (x1.map Ze.c))]] []=some (.agg [I x0,.own 0],[.arr Zn9 8 true (x1.map Ze.c)]):=by
 refine run Zbmo rfl ?_
 simp [Z7h,Zbog _ h1]
theorem Z8u (x0:Int) (x1:List Ze) (y0:Int) (y1:List Ze) (h1:SmL Ze.small x1):C Zxm [.agg [I x0,.t (.lst 8 (x1.map Ze.c))],.agg [I y0,.t (.lst 8 (y1.map Ze.c))]] []=some (Bo (decide (x0=y0∧x1=y1)),[]):=by
 refine run Z7i rfl ?_
 simp [Zwh,Zboi _ _ h1]
 repeat' split
 all_goals first | (simp_all;done) | grind
theorem Zbom (x0:Int) (x1:List Ze) (left:Int) (h1:OkL Ze.okay x1):C Z9u [.agg [I x0,.t (.lst 8 (x1.map Ze.c))],I left] []=some (I (Zn.sz ⟨x0,x1⟩ left),[]):=by
 refine run Zbmn rfl ?_
 simp [Z7g,Zbok _ _ h1,Zn.sz,andSz,sz1]
 repeat' split
 all_goals first | (simp_all;done) | grind
def mkL {α:Type} (f:α→Int→α) (n:α→Nat):List α→Int→List α
 | [],_=>[]
 | x::xs,k=>f x k::mkL f n xs (k+(n x:Int))
def cnL {α:Type} (n:α→Nat):List α→Nat
 | []=>0
 | x::xs=>n x+cnL n xs
def mkI (xs:List Int) (k:Int):List Int:=mkL (fun _ k=>k) (fun _=>1) xs k
theorem Z8v (x:Int) (xs:List Int) (k:Int):mkI (x::xs) k=k::mkI xs (k+1):=rfl
theorem Zbon (e:Nat) (fr:List Fr):∀ (xs d:List Int) (k:Int),0≤k→k+(xs.length:Int)≤4611686018427387904→d.length+xs.length≤4294967296→EvL C fr [0,1,5] Znr ⟨[(0,.own 0),(1,I k),(5,I d.length)],[[(0,.own 0)]],[.xarr e 1 ((d++xs).map ic)]⟩ =
  EvX C fr (.x 0) ⟨[(0,.own 0),(1,I (k+xs.length)),(5,I (d.length+xs.length)),(9,Bo false)],[[(0,.own 0)]],[.xarr e 1 ((d++mkI xs k).map ic)]⟩:=by
 intro xs
 induction xs with
 | nil =>
  intro d k h1 h2 h3
  rw [EvL_eq Znr.eq_1]
  simp [mkI,mkL]
 | cons x xs ih =>
  intro d k h1 h2 h3
  simp only [List.length_cons] at h2 h3
  have ih':=ih (d++[k]) (k+1) (by omega) (by omega) (by simp;omega)
  rw [EvL_eq Znr.eq_1]
  have g1:IntKind.wrap .i64 ((d.length:Int)+1)=(d.length:Int)+1:=wrap64 (by omega) (by omega)
  have g2:IntKind.wrap .i64 (k+1)=k+1:=wrap64 (by omega) (by omega)
  have g3:(d.length:Int)<(d.length:Int)+((xs.length:Int)+1):=by omega
  have g4:k+1+(xs.length:Int)=k+((xs.length:Int)+1):=by omega
  have g5:(d.length:Int)+1+(xs.length:Int)=(d.length:Int)+((xs.length:Int)+1):=by omega
  simp [g4,g5] at ih'
  simp [g1,g2,g3,ih',Z8v]
theorem Zwu (e:Nat) (xs:List Int) (k:Int) (h1:0≤k) (h2:k+(xs.length:Int)≤4611686018427387904) (h3:SmA xs):C Zn6 [.own 0,I k] [.xarr e 1 (xs.map ic)]=some (I (k+xs.length),[.xarr e 1 ((mkI xs k).map ic)]):=by
 refine runM Z7b rfl ?_
 have h4:=fun fr=>Zbon e fr xs [] k h1 h2 (by have:xs.length≤4294967296:=h3;simp;omega)
 simp at h4
 simp [Zwg,h4]
theorem Zboo (n:Nat) (k:Int):C Zn6 [.t (.lst n []),I k] []=some (I k,[]):=by
 refine run Z7b rfl ?_
 simp [Zwg,EvL_eq Znr.eq_1]
theorem Zbop (fr:List Fr):∀ (xs d:List Int) (k:Int),0≤k→k+(xs.length:Int)≤4611686018427387904→d.length+xs.length≤4294967296→EvL C fr [0,1,5] Zqb ⟨[(0,L 1 ((d++mkI xs k).map ic)),(1,I k),(5,I d.length)],[[]],[]⟩ =
  EvX C fr (.x 0) ⟨[(0,L 1 ((d++mkI xs k).map ic)),(1,I (k+xs.length)),(5,I (d.length+xs.length)),(9,Bo false)],[[]],[]⟩:=by
 intro xs
 induction xs with
 | nil =>
  intro d k h1 h2 h3
  rw [EvL_eq Zqb.eq_1]
  simp [mkI,mkL]
 | cons x xs ih =>
  intro d k h1 h2 h3
  simp only [List.length_cons] at h2 h3
  have ih':=ih (d++[k]) (k+1) (by omega) (by omega) (by simp;omega)
  rw [EvL_eq Zqb.eq_1]
  have g1:IntKind.wrap .i64 ((d.length:Int)+1)=(d.length:Int)+1:=wrap64 (by omega) (by omega)
  have g2:IntKind.wrap .i64 (k+1)=k+1:=wrap64 (by omega) (by omega)
  have g3:(d.length:Int)<(d.length:Int)+(((mkI xs (k+1)).length:Int)+1):=by omega
  have g4:k+1+(xs.length:Int)=k+((xs.length:Int)+1):=by omega
  have g5:(d.length:Int)+1+(xs.length:Int)=(d.length:Int)+((xs.length:Int)+1):=by omega
  simp [g4,g5] at ih'
  simp [g1,g2,g3,ih',Z8v]
theorem strB_one (x:Int):(strB [x]).size=1:=by simp [strB];rfl
theorem Zboq (fr:List Fr):∀ (n:Nat) (k:Int) (out:ByteArray),k.toNat≤n→(out.size:Int)+k≤4611686018427387904→0≤k→∃ s,s.size≤out.size+n∧EvL C fr [0,3] Znx ⟨[(0,I k),(3,.t (.str out))],[[]],[]⟩=EvX C fr (.x 0) ⟨[(0,I 0),(3,.t (.str s)),(7,Bo false)],[[]],[]⟩:=by
 intro n
 induction n with
 | zero =>
  intro k out h1 h2 h3
  have:k=0:=by omega
  subst this
  rw [EvL_eq Znx.eq_1]
  exact ⟨out,by simp⟩
 | succ n ih =>
  intro k out h1 h2 h3
  by_cases h0:k=0
  ·subst h0
   rw [EvL_eq Znx.eq_1]
   exact ⟨out,by simp⟩
  have hk:0<k:=by omega
  have e:k.tdiv 10=k / 10:=Int.tdiv_eq_ediv_of_nonneg h3
  have e2:IntKind.wrap .i64 (k / 10)=k / 10:=wrap64 (by omega) (by omega)
  generalize hx:IntKind.wrap .u8 (IntKind.wrap .i64 (48+k.tmod 10))=x
  have s1:=strB_one x
  have c:1+out.size≤9223372036854775807:=by omega
  obtain ⟨s,hs,hr⟩:=ih (k / 10) (strB [x]++out) (by omega) (by rw [ByteArray.size_append,s1];omega) (by omega)
  rw [ByteArray.size_append,s1] at hs
  refine ⟨s,by omega,?_⟩
  rw [EvL_eq Znx.eq_1]
  simp [hk,hx,s1,c,e,e2,hr]
theorem Zbor (k:Int) (h1:0≤k) (h2:k≤4000000000000000000):∃ s,C Zqz [I k] []=some (.t (.str s),[]):=by
 by_cases h0:k=0
 ·subst h0
  refine ⟨⟨#[109,48]⟩,run Z8g rfl ?_⟩
  simp [Zwr]
 ·have h3:¬ k≤0:=by omega
  obtain ⟨s,hs,hr⟩:=Zboq [.blk 0,.seq (.seq (.reg [⟨some 18,none,.mov (.s 3)⟩,⟨some 19,none,.bin .add (.c (.t (.str ⟨#[109]⟩))) (.s 18)⟩,⟨some 2,none,.mov (.s 19)⟩] [2]) .ret),.fin 0 [.tmp 2]] k.toNat k ⟨#[]⟩ (Nat.le_refl _) (by simp [ByteArray.size];omega) h1
  have c:(⟨#[109]⟩:ByteArray).size+s.size≤9223372036854775807:=by
   have:(⟨#[]⟩:ByteArray).size=0:=rfl
   have:(⟨#[109]⟩:ByteArray).size=1:=rfl
   omega
  refine ⟨⟨#[109]⟩++s,run Z8g rfl ?_⟩
  simp at hr
  simp [Zwr,h3,hr,c]
noncomputable def mtext (k:Int):ByteArray:=match C Zqz [I k] [] with
 | some (.t (.str s),[])=>s
 | _=>⟨#[]⟩
theorem Z8w (k:Int) (h1:0≤k) (h2:k≤4000000000000000000):C Zqz [I k] []=some (.t (.str (mtext k)),[]):=by
 obtain ⟨s,h⟩:=Zbor k h1 h2
 have:mtext k=s:=by unfold mtext;rw [h]
 rw [this,h]
end Go.Proofs.YtbapkgocloaaeaaGreat
