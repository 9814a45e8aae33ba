/-
  Parts of the proofs for this seat: CB IN IS SJ SK SM SC SD SE SF SG SH IE IA IC IF IG IH IJ IK IL GW LK DW.
-/
import Derived.Deep.LoopGhost
import Derived.Deep.RegionLaw
import Derived.Lib.SliceRun
import Derived.Lib.Walk
import Derived.Shelf.RegionOpenPlain
import Derived.Test.YtbapkgocloaaeaaGreatChecked
import Derived.WalkKit
import Derived.Test.YtbapkgocloaaeaaGreatP12
set_option linter.unusedSimpArgs false
set_option linter.unusedVariables false
set_option maxRecDepth 100000
set_option maxHeartbeats 4000000
namespace Go.Proofs.YtbapkgocloaaeaaGreat
open Go.AM
theorem mul_b {a l:Int} {A L:Nat} (h1:-(A:Int)≤a) (h2:a≤A) (h3:0≤l) (h4:l≤L):-((A:Int)*L)≤a*l∧a*l≤(A:Int)*L:=by
 have e1:a*l≤(A:Int)*l:=Int.mul_le_mul_of_nonneg_right h2 h3
 have e2:-(A:Int)*l≤a*l:=Int.mul_le_mul_of_nonneg_right h1 h3
 have e3:(A:Int)*l≤(A:Int)*L:=Int.mul_le_mul_of_nonneg_left h4 (by omega)
 rw [Int.neg_mul] at e2
 omega
theorem Znf {a:Int} (h:Zch a=true):-99≤a∧a≤99:=by simp [Zch,inR] at h;omega
theorem w_id {x:Int} (h1:-9223372036854775808≤x) (h2:x≤9223372036854775807):w x=x:=wrap64 h1 h2
theorem base_b {o:Zi} {l r n:Int} (hv:Zbc o=true) (hl:0≤l∧l≤4096) (hr:0≤r∧r≤4096) (hn:0≤n∧n≤4096):-1700000000≤Zfv o l r n∧Zfv o l r n≤1700000000:=by
 simp only [Zbc,Bool.and_eq_true] at hv
 obtain ⟨⟨⟨⟨⟨⟨v1,v2⟩,v3⟩,v4⟩,v5⟩,v6⟩,v7⟩:=hv
 have b1:=Znf v1
 have b2:=Znf v2
 have b3:=Znf v3
 have b4:=Znf v4
 have b5:=Znf v5
 have m2:=mul_b (A:=99) (L:=4096) b2.1 b2.2 hl.1 hl.2
 have m3:=mul_b (A:=99) (L:=4096) b3.1 b3.2 hr.1 hr.2
 have m4:=mul_b (A:=99) (L:=4096) b4.1 b4.2 hn.1 hn.2
 have m5:=mul_b (A:=99) (L:=4096) b5.1 b5.2 hl.1 hl.2
 have m6:=mul_b (A:=405504) (L:=4096) (a:=o.Zl*l) (l:=r) (by simpa using m5.1) (by simpa using m5.2) hr.1 hr.2
 simp at m2 m3 m4 m5 m6
 unfold Zfv
 rw [w_id (x:=o.Zj*l) (by omega) (by omega),w_id (x:=o.Zk*r) (by omega) (by omega),w_id (x:=o.Zm*n) (by omega) (by omega),w_id (x:=o.Zl*l) (by omega) (by omega),w_id (x:=o.Zl*l*r) (by omega) (by omega)]
 rw [w_id (x:=o.Fixed+o.Zj*l) (by omega) (by omega),w_id (x:=o.Fixed+o.Zj*l+o.Zk*r) (by omega) (by omega),w_id (x:=o.Fixed+o.Zj*l+o.Zk*r+o.Zm*n) (by omega) (by omega),w_id (by omega) (by omega)]
 omega
theorem Z5k {l r:Int}:∀ {st:List Zg} {p n B:Int},Zdl p st=true→B+99*st.length≤1000000000000→-B≤n∧n≤B→-(B+99*st.length)≤st.foldl (Zdm l r) n∧st.foldl (Zdm l r) n≤B+99*st.length
 | [],p,n,B,_,_,h=>by simp;omega
 | s::st,p,n,B,hs,hB,h=>by
  simp only [Zdl,Bool.and_eq_true] at hs
  have ha:=hs.1.1.2
  simp [inR] at ha
  simp only [List.length_cons] at hB ⊢
  have e:-(B+99)≤Zdm l r n s∧Zdm l r n s≤B+99:=by
   unfold Zdm
   split
   ·rw [w_id (by omega) (by omega)];omega
   ·omega
  have g:=Z5k (l:=l) (r:=r) hs.2 (by omega) e
  rw [List.foldl_cons]
  omega
theorem Zke (o:Zi) (l r n:Int):-2000000000≤Z8 o l r n∧Z8 o l r n≤2000000000:=by
 unfold Z8
 split
 ·rename_i h
  simp only [Bool.and_eq_true] at h
  obtain ⟨⟨⟨hv,hl⟩,hr⟩,hn⟩:=h
  simp [inR] at hl hr hn
  have b:=base_b hv hl hr hn
  simp only [Zbc,Bool.and_eq_true,decide_eq_true_eq] at hv
  have:=Z5k (l:=l) (r:=r) (B:=1700000000) hv.2 (by have:=hv.1.2;omega) b
  have:=hv.1.2
  unfold Zj5
  omega
 ·omega
theorem cost_pos {o:Zi} (h:Zbd o) {a b c:Int} (ha:0≤a∧a≤7) (hb:0≤b∧b≤7) (hc:0≤c∧c≤7):1≤Z8 o (Zbn a) (Zbn b) (Zbn c):=by
 have h3:¬ tcl o [a,b,c]<1:=fun hh=>h.2.2 ⟨[a,b,c],⟨a,b,c,rfl,ha,hb,hc⟩,hh⟩
 simp [Z8,h.1,Zj6 ha.1 ha.2,Zj6 hb.1 hb.2,Zj6 hc.1 hc.2]
 simp [tcl] at h3
 omega
def Zc3 (sizes:List Int):Prop:=∀ s∈sizes,∃ a,(0≤a∧a≤7)∧s=Zbn a
theorem Z5l {sizes:List Int} (h:Zc3 sizes) (k:Int):∃ a,(0≤a∧a≤7)∧szAt sizes k=Zbn a:=by
 unfold szAt
 cases e:sizes[k.toNat]? with
 | none=>exact ⟨0,by omega,by decide⟩
 | some s=>exact h s (List.mem_of_getElem? e)
theorem Z5m {o:Zi} (h:Zbd o) {sizes:List Int} (hs:Zc3 sizes) (a b:Int):1≤Z8 o (szAt sizes a) 0 (szAt sizes b):=by
 obtain ⟨x,hx,ex⟩:=Z5l hs a
 obtain ⟨y,hy,ey⟩:=Z5l hs b
 rw [ex,ey,show (0:Int)=Zbn 0 by decide]
 exact cost_pos h hx (by omega) hy
theorem Zbjg {l:List Int} (h:Z9 l=true):Zc3 (Zbm l):=by
 intro s hs
 simp only [Zbm,List.mem_map] at hs
 obtain ⟨a,ha,rfl⟩:=hs
 refine ⟨a,?_,rfl⟩
 simp only [Z9,Bool.and_eq_true,Zbo,List.all_eq_true] at h
 have:=h.1 a ha
 simp [inR] at this
 omega
theorem runS_b {m:Zd} {sizes:List Int} {qa:List Atom}:∀ {xs:List Zb} {S S':List MO} {c k B:Int},runS m sizes qa xs S c=some (S',k)→-B≤c∧c≤B→B+2000000000*xs.length≤1000000000000→-(B+2000000000*xs.length)≤k∧k≤B+2000000000*xs.length
 | [],S,S',c,k,B,h,hc,hB=>by simp [runS] at h;simp;omega
 | x::xs,S,S',c,k,B,h,hc,hB=>by
  rw [runS] at h
  simp only [List.length_cons] at hB ⊢
  cases hs:Zb3 m sizes qa x S with
  | none=>rw [hs] at h;cases h
  | some p =>
   obtain ⟨S1,e⟩:=p
   rw [hs] at h
   have he:-2000000000≤e∧e≤2000000000:=by
    unfold Zb3 at hs
    split at hs
    ·split at hs
     ·cases hs;exact Zke _ _ _ _
     ·cases hs
    ·split at hs
     ·cases hs
     ·split at hs
      ·split at hs
       ·split at hs
        ·cases hs;exact Zke _ _ _ _
        ·cases hs
       ·cases hs
      ·split at hs
       ·split at hs
        ·rw [Option.map_eq_some_iff] at hs
         obtain ⟨o,_,ho⟩:=hs
         cases ho
         exact Zke _ _ _ _
        ·cases hs
       ·cases hs
   have:=runS_b (B:=B+2000000000) h (by rw [w_id (by omega) (by omega)];omega) (by omega)
   omega
theorem Z5.bound {m:Zd} {sizes:List Int} {qa:List Atom} {xs:List Zb} {a o c:Int} (h:Z5 m sizes qa xs a o c) (hl:xs.length≤100):-200000000000≤c∧c≤200000000000:=by
 have:=runS_b (B:=0) h (by omega) (by omega)
 omega
structure Held (m:Zd) (sizes:List Int) (qa:List Atom) (M:Int) (E:List Za):Prop where
 ne:E≠[]
 up:E.Pairwise fun a b=>a.Order<b.Order
 mask:∀ e∈E,e.Mask=M
 ord:∀ e∈E,-1≤e.Order∧e.Order≤3
 makes:∀ e∈E,Z5 m sizes qa e.Plan.Steps M e.Order e.Cost
 len:∀ e∈E,1≤e.Plan.Steps.length∧e.Plan.Steps.length+3≤4*popc M
theorem up_len:∀ {E:List Za} {lo:Int},E.Pairwise (fun a b=>a.Order<b.Order)→(∀ e∈E,lo≤e.Order∧e.Order≤3)→lo≤4→(E.length:Int)≤4 - lo
 | [],lo,_,_,h=>by simp;omega
 | e::E,lo,hp,ho,h=>by
  rw [List.pairwise_cons] at hp
  have he:=ho e (by simp)
  have:=up_len (lo:=e.Order+1) hp.2 (fun x hx=>⟨by have:=hp.1 x hx;omega,(ho x (by simp [hx])).2⟩) (by omega)
  simp only [List.length_cons]
  omega
theorem Held.le {m:Zd} {sizes:List Int} {qa:List Atom} {M:Int} {E:List Za} (h:Held m sizes qa M E):E.length≤5:=by
 have:=up_len (lo:=-1) h.up h.ord (by omega)
 omega
theorem Zpz:∀ {E:List Za} {e:Za},E.Pairwise (fun a b=>a.Order<b.Order)→e∈E→ofO E e.Order=some e
 | a::E,e,hp,he=>by
  rw [List.pairwise_cons] at hp
  rcases List.mem_cons.1 he with rfl | he
  ·simp [ofO]
  ·have:¬ a.Order=e.Order:=by have:=hp.1 e he;omega
   have ih:=Zpz hp.2 he
   unfold ofO at ih ⊢
   rw [List.find?_cons]
   simp [this,ih]
theorem Z5n {c v:Int}:∀ {E:List Za},E.Pairwise (fun a b=>a.Order<b.Order)→E.find? (fun e=>decide (e.Order=v) && decide (e.Cost≤c))=match ofO E v with
  | some e=>if e.Cost≤c then some e else none
  | none=>none
 | [],_=>by simp [ofO]
 | a::E,hp=>by
  rw [List.pairwise_cons] at hp
  have ih:=Z5n (c:=c) (v:=v) hp.2
  unfold ofO at ih ⊢
  rw [List.find?_cons,List.find?_cons]
  by_cases e:a.Order=v
  ·by_cases e2:a.Cost≤c
   ·simp [e,e2]
   ·have hn:E.find? (fun e=>decide (e.Order=v) && decide (e.Cost≤c))=none:=by
     rw [List.find?_eq_none]
     intro x hx
     have:=hp.1 x hx
     simp
     omega
    simp [e,e2]
    intro x hx hxv
    have:=hp.1 x hx
    omega
  ·simp only [e,decide_false,Bool.false_and]
   exact ih
def srt (m:Zd) (sizes:List Int) (M:Int) (E:List Za) (v:Int):Za:=⟨M,v,w ((Zz E).Cost+Z8 m.Sort_ (szAt sizes M) 0 (szAt sizes M)),⟨sortS (Zz E).Plan.Steps v⟩⟩
def inp (m:Zd) (sizes:List Int) (M:Int) (E:List Za) (v:Int):Za:=match ofO E v with
 | some e=>if e.Cost≤(srt m sizes M E v).Cost then e else srt m sizes M E v
 | none=>srt m sizes M E v
def resI (x:List Zb):Option Za→AV×List Blk
 | some e=>(.agg (e.Plan.c.map .t),[])
 | none=>(.agg [.own 0],[.arr 142 3 true (x.map Zb.c)])
theorem Zbjh (m:Zd) (hm:LeM m) (q:Zc) (hq:LeQ q) (sizes:List Int) (hs:Le sizes) (x:List Zb) (c:Int) (hc:Zcs m q.Ze q.Atoms x sizes=c) (v:Int) (E:List Za) (hl:E.length≤5):∀ i,i≤E.length→Zgg m q x sizes v E E.length i=some (resI x ((E.drop i).find? (fun e=>decide (e.Order=v) && decide (e.Cost≤c)))):=by
 have hcost:=Zu1 m hm q hq ⟨x⟩ sizes hs
 rw [show Zcs m q.Ze q.Atoms (Plan.mk x).Steps sizes=c from hc] at hcost
 refine down _ ?_ ?_
 ·simp only [List.drop_length,List.find?_nil]
  refine Zpe _ _ _ _ _ _ _ _ _ ?_
  rw [if_neg (by omega)];rfl
 ·intro i hi ih
  have h4:=inc64 (i:=i) (by omega)
  rw [List.drop_eq_getElem_cons hi,List.find?_cons]
  have hw:w ((i:Int)+1)=((i+1:Nat):Int):=by rw [show w ((i:Int)+1)=(i:Int)+1 from h4];simp
  by_cases e:E[i].Order=v
  ·by_cases e2:E[i].Cost≤c
   ·simp only [e,e2,decide_true,Bool.and_self]
    refine Zpe _ _ _ _ _ _ _ _ _ ?_
    rw [if_pos (by omega)]
    refine ⟨by omega,E[i],by rw [Int.toNat_natCast];exact List.getElem?_eq_getElem hi,?_⟩
    rw [if_pos e]
    exact ⟨c,hcost,by rw [if_pos e2];rfl⟩
   ·simp only [e,e2,decide_true,decide_false,Bool.and_false]
    refine Zpe _ _ _ _ _ _ _ _ _ ?_
    rw [if_pos (by omega)]
    refine ⟨by omega,E[i],by rw [Int.toNat_natCast];exact List.getElem?_eq_getElem hi,?_⟩
    rw [if_pos e]
    exact ⟨c,hcost,by rw [if_neg e2,hw];exact ih⟩
  ·simp only [e,decide_false,Bool.false_and]
   refine Zpe _ _ _ _ _ _ _ _ _ ?_
   rw [if_pos (by omega)]
   refine ⟨by omega,E[i],by rw [Int.toNat_natCast];exact List.getElem?_eq_getElem hi,?_⟩
   rw [if_neg e,hw]
   exact ih
theorem Held.best {m:Zd} {sizes:List Int} {qa:List Atom} {M:Int} {E:List Za} (h:Held m sizes qa M E):Zz E∈E:=Zu4 h.ne
theorem Zct {M:Int} (h:M16 M):popc M≤4:=by
 obtain ⟨a,rfl⟩:=m16 h
 exact (f_pop a).2.2.2
theorem Held.srt_makes {m:Zd} {sizes:List Int} {qa:List Atom} {M:Int} {E:List Za} (h:Held m sizes qa M E) {v:Int} (hv:vin qa M v=true) (hb:(Zz E).Order≠v):Z5 m sizes qa (srt m sizes M E v).Plan.Steps M v (srt m sizes M E v).Cost:=Zbjb (h.makes _ h.best) hv hb
theorem Zu5 (m:Zd) (hm:LeM m) (hg:Zbd m.Sort_) (q:Zc) (hq:LeQ q) (hv:Zn q.Ze q.Atoms=true) (sizes:List Int) (hs:Le sizes) (hcl:Zc3 sizes) (hsv:Zbr q.Ze q.Atoms sizes=true) {M:Int} (hM:M16 M) {E:List Za} (h:Held m sizes q.Atoms M E) {v:Int} (hvn:vin q.Atoms M v=true) :
  Zdj m q sizes E v=some (.agg ((inp m sizes M E v).Plan.c.map .t),[])∨Zdj m q sizes E v=some (.agg [.own 0],[.arr 142 3 true ((inp m sizes M E v).Plan.Steps.map Zb.c)]):=by
 have h4:=Zct hM
 have hlen:=h.len _ h.best
 by_cases e:(Zz E).Order=v
 ·left
  have ho:=Zpz h.up h.best
  rw [e] at ho
  have hb:=(h.makes _ h.best).bound (by omega)
  have hp:=Z5m hg hcl M M
  have hu:=Zke m.Sort_ (szAt sizes M) 0 (szAt sizes M)
  have:inp m sizes M E v=Zz E:=by
   unfold inp
   rw [ho]
   simp only
   rw [if_pos]
   unfold srt
   simp only
   rw [w_id (by omega) (by omega)]
   omega
  rw [this]
  exact Z2p _ _ _ _ _ _ ⟨_,Zpx E h.ne (by have:=h.le;omega),by rw [if_pos e]⟩
 ·have hc:=Z5.cost (h.srt_makes hvn e) hv (by simp only [srt,sortS,List.length_append,List.length_cons,List.length_nil];omega) hsv
  have hloop:=Zbjh m hm q hq sizes hs _ _ hc v E h.le 0 (Nat.zero_le _)
  rw [List.drop_zero,Z5n h.up] at hloop
  have hx:Zdj m q sizes E v=some (resI (srt m sizes M E v).Plan.Steps (match ofO E v with
   | some e=>if e.Cost≤(srt m sizes M E v).Cost then some e else none
   | none=>none)):=Z2p _ _ _ _ _ _ ⟨_,Zpx E h.ne (by have:=h.le;omega),by
    rw [if_neg e]
    exact ⟨_,Zbi7 _ _ (by omega),hloop⟩⟩
  rw [hx]
  unfold inp
  cases ofO E v with
  | none=>exact .inr rfl
  | some y =>
   simp only
   split
   ·exact .inl rfl
   ·exact .inr rfl
theorem Zu6 (m:Zd) (hm:LeM m) (sizes:List Int) (fr:Bool) (l:List Za) (hl:l.length≤1000) {M:Int} (h0:0≤M) (hM:sizes[M.toNat]?=some (szAt sizes M)) (hne:ofM l M≠[]) (hlen:(Zz (ofM l M)).Plan.Steps.length≤1000) (v:Int) :
  Zd5 sizes fr l m M v=some (.agg ((inp m sizes M (ofM l M) v).c.map .t),[.arr 3 1 true (sizes.map ic),.arr 174 4 fr (l.map Za.c)]) ∨
  Zd5 sizes fr l m M v=some (.agg [I (inp m sizes M (ofM l M) v).Mask,I (inp m sizes M (ofM l M) v).Order,I (inp m sizes M (ofM l M) v).Cost,.own 2],[.arr 3 1 true (sizes.map ic),.arr 174 4 fr (l.map Za.c),.arr 142 3 true ((inp m sizes M (ofM l M) v).Plan.Steps.map Zb.c)]):=by
 obtain ⟨k1,k2⟩:=Zpy hne
 have hf:=Z5j l M v
 unfold inp
 cases ho:ofO (ofM l M) v with
 | none =>
  rw [ho] at hf
  simp only at hf
  refine .inr (Zuo _ _ _ _ _ _ _ ⟨_,x_low l M hl,k1,_,k2,h0,_,hM,_,Zea _ hm.2.1 _ _ _,_,Zpv l M v hl,?_⟩)
  rw [hf,if_neg (by omega)]
  exact ⟨_,Z48 _ _ hlen,rfl⟩
 | some e =>
  rw [ho] at hf
  simp only at hf
  simp only
  by_cases hc:e.Cost≤(srt m sizes M (ofM l M) v).Cost
  ·rw [if_pos hc]
   refine .inl (Zuo _ _ _ _ _ _ _ ⟨_,x_low l M hl,k1,_,k2,h0,_,hM,_,Zea _ hm.2.1 _ _ _,_,Zpv l M v hl,?_⟩)
   rw [if_pos hf.1]
   exact ⟨_,hf.2,by rw [if_pos (show e.Cost≤w ((Zz (ofM l M)).Cost+Z8 m.Sort_ (szAt sizes M) 0 (szAt sizes M)) from hc)]⟩
  ·rw [if_neg hc]
   refine .inr (Zuo _ _ _ _ _ _ _ ⟨_,x_low l M hl,k1,_,k2,h0,_,hM,_,Zea _ hm.2.1 _ _ _,_,Zpv l M v hl,?_⟩)
   rw [if_pos hf.1]
   exact ⟨_,hf.2,by rw [if_neg (show ¬ e.Cost≤w ((Zz (ofM l M)).Cost+Z8 m.Sort_ (szAt sizes M) 0 (szAt sizes M)) from hc)];exact ⟨_,Z48 _ _ hlen,rfl⟩⟩
def jc (m:Zd) (sizes:List Int) (a b:Za) (k:Int):Int:=w (w (a.Cost+b.Cost)+Z8 (mOp m k) (szAt sizes a.Mask) (szAt sizes b.Mask) (szAt sizes (orI a.Mask b.Mask)))
theorem Zng {l:List Za} {i:Nat} {e:Za} (h:l[i]?=some e):l.set i e=l:=by
 obtain ⟨h1,rfl⟩:=List.getElem?_eq_some_iff.1 h
 exact List.set_getElem_self h1
theorem Zu7 (m:Zd) (hm:LeM m) (sizes:List Int) (mine:List Za) (a b:Za) (k v o:Int) (ho:-1≤o∧o≤3) {e:Za} (he:mine[(o+1).toNat]?=some e) (ha:0≤a.Mask∧sizes[a.Mask.toNat]?=some (szAt sizes a.Mask)) (hb:0≤b.Mask∧sizes[b.Mask.toNat]?=some (szAt sizes b.Mask)) (hab:0≤orI a.Mask b.Mask∧sizes[(orI a.Mask b.Mask).toNat]?=some (szAt sizes (orI a.Mask b.Mask))) (la:a.Plan.Steps.length≤1000) (lb:b.Plan.Steps.length≤1000) :
  Zfp sizes mine m a b k v o=some (.tup [],[.arr 3 1 true (sizes.map ic),.arr 174 4 true ((mine.set (o+1).toNat (offE e (orI a.Mask b.Mask) o (jc m sizes a b k) (Zbs a.Plan.Steps b.Plan.Steps k v))).map Za.c)]):=by
 have hw:w (o+1)=o+1:=w_id (by omega) (by omega)
 refine Zbgc _ _ _ _ _ _ _ _ _ ⟨mOp m k,Zkb m k,ha.1,_,ha.2,hb.1,_,hb.2,hab.1,_,hab.2,_,Zea _ (hm.op k) _ _ _,by omega,e,by rw [hw];exact he,?_⟩
 rw [hw]
 by_cases e0:e.Mask=0
 ·rw [if_pos e0]
  refine ⟨_,Zhc a.Plan b.Plan _ _ la lb,?_⟩
  simp [offE,e0,jc]
 ·rw [if_neg e0]
  by_cases e1:jc m sizes a b k<e.Cost
  ·have e2:=e1
   unfold jc at e2
   rw [if_pos e2]
   refine ⟨_,Zhc a.Plan b.Plan _ _ la lb,?_⟩
   unfold offE
   rw [if_neg e0,if_pos e1]
   rfl
  ·have e2:=e1
   unfold jc at e2
   rw [if_neg e2]
   unfold offE
   rw [if_neg e0,if_neg e1,Zng he]
theorem Zbji (m:Zd) (hm:LeM m) (sizes:List Int) (mine:List Za) (a b:Za) (k v o:Int) (ho:-1≤o∧o≤3) {e:Za} (he:mine[(o+1).toNat]?=some e) (ha:0≤a.Mask∧sizes[a.Mask.toNat]?=some (szAt sizes a.Mask)) (hb:0≤b.Mask∧sizes[b.Mask.toNat]?=some (szAt sizes b.Mask)) (hab:0≤orI a.Mask b.Mask∧sizes[(orI a.Mask b.Mask).toNat]?=some (szAt sizes (orI a.Mask b.Mask))) (la:a.Plan.Steps.length≤1000) (lb:b.Plan.Steps.length≤1000) :
  Zl8 sizes mine b.Plan.Steps m a b.Mask b.Order b.Cost k v o=some (.tup [],[.arr 3 1 true (sizes.map ic),.arr 174 4 true ((mine.set (o+1).toNat (offE e (orI a.Mask b.Mask) o (jc m sizes a b k) (Zbs a.Plan.Steps b.Plan.Steps k v))).map Za.c),.arr 142 3 true (b.Plan.Steps.map Zb.c)]):=by
 have hw:w (o+1)=o+1:=w_id (by omega) (by omega)
 refine Zbgf _ _ _ _ _ _ _ _ _ _ _ _ ⟨mOp m k,Zkb m k,ha.1,_,ha.2,hb.1,_,hb.2,hab.1,_,hab.2,_,Zea _ (hm.op k) _ _ _,by omega,e,by rw [hw];exact he,?_⟩
 rw [hw]
 by_cases e0:e.Mask=0
 ·rw [if_pos e0]
  refine ⟨_,Zhc a.Plan ⟨b.Plan.Steps⟩ _ _ la lb,?_⟩
  simp [offE,e0,jc]
 ·rw [if_neg e0]
  by_cases e1:jc m sizes a b k<e.Cost
  ·have e2:=e1
   unfold jc at e2
   rw [if_pos e2]
   refine ⟨_,Zhc a.Plan ⟨b.Plan.Steps⟩ _ _ la lb,?_⟩
   unfold offE
   rw [if_neg e0,if_pos e1]
   rfl
  ·have e2:=e1
   unfold jc at e2
   rw [if_neg e2]
   unfold offE
   rw [if_neg e0,if_neg e1,Zng he]
theorem Zbjj (m:Zd) (hm:LeM m) (sizes:List Int) (mine:List Za) (a b:Za) (k v o:Int) (ho:-1≤o∧o≤3) {e:Za} (he:mine[(o+1).toNat]?=some e) (ha:0≤a.Mask∧sizes[a.Mask.toNat]?=some (szAt sizes a.Mask)) (hb:0≤b.Mask∧sizes[b.Mask.toNat]?=some (szAt sizes b.Mask)) (hab:0≤orI a.Mask b.Mask∧sizes[(orI a.Mask b.Mask).toNat]?=some (szAt sizes (orI a.Mask b.Mask))) (la:a.Plan.Steps.length≤1000) (lb:b.Plan.Steps.length≤1000) :
  Zl9 sizes mine a.Plan.Steps m a.Mask a.Order a.Cost b k v o=some (.tup [],[.arr 3 1 true (sizes.map ic),.arr 174 4 true ((mine.set (o+1).toNat (offE e (orI a.Mask b.Mask) o (jc m sizes a b k) (Zbs a.Plan.Steps b.Plan.Steps k v))).map Za.c),.arr 142 3 true (a.Plan.Steps.map Zb.c)]):=by
 have hw:w (o+1)=o+1:=w_id (by omega) (by omega)
 refine Zbgg _ _ _ _ _ _ _ _ _ _ _ _ ⟨mOp m k,Zkb m k,ha.1,_,ha.2,hb.1,_,hb.2,hab.1,_,hab.2,_,Zea _ (hm.op k) _ _ _,by omega,e,by rw [hw];exact he,?_⟩
 rw [hw]
 by_cases e0:e.Mask=0
 ·rw [if_pos e0]
  refine ⟨_,Zhc ⟨a.Plan.Steps⟩ b.Plan _ _ la lb,?_⟩
  simp [offE,e0,jc]
 ·rw [if_neg e0]
  by_cases e1:jc m sizes a b k<e.Cost
  ·have e2:=e1
   unfold jc at e2
   rw [if_pos e2]
   refine ⟨_,Zhc ⟨a.Plan.Steps⟩ b.Plan _ _ la lb,?_⟩
   unfold offE
   rw [if_neg e0,if_pos e1]
   rfl
  ·have e2:=e1
   unfold jc at e2
   rw [if_neg e2]
   unfold offE
   rw [if_neg e0,if_neg e1,Zng he]
theorem Zbjk (m:Zd) (hm:LeM m) (sizes:List Int) (mine:List Za) (a b:Za) (k v o:Int) (ho:-1≤o∧o≤3) {e:Za} (he:mine[(o+1).toNat]?=some e) (ha:0≤a.Mask∧sizes[a.Mask.toNat]?=some (szAt sizes a.Mask)) (hb:0≤b.Mask∧sizes[b.Mask.toNat]?=some (szAt sizes b.Mask)) (hab:0≤orI a.Mask b.Mask∧sizes[(orI a.Mask b.Mask).toNat]?=some (szAt sizes (orI a.Mask b.Mask))) (la:a.Plan.Steps.length≤1000) (lb:b.Plan.Steps.length≤1000) :
  Zma sizes mine a.Plan.Steps b.Plan.Steps m a.Mask a.Order a.Cost b.Mask b.Order b.Cost k v o=some (.tup [],[.arr 3 1 true (sizes.map ic),.arr 174 4 true ((mine.set (o+1).toNat (offE e (orI a.Mask b.Mask) o (jc m sizes a b k) (Zbs a.Plan.Steps b.Plan.Steps k v))).map Za.c),.arr 142 3 true (a.Plan.Steps.map Zb.c),.arr 142 3 true (b.Plan.Steps.map Zb.c)]):=by
 have hw:w (o+1)=o+1:=w_id (by omega) (by omega)
 refine Zbgh _ _ _ _ _ _ _ _ _ _ _ _ _ _ _ ⟨mOp m k,Zkb m k,ha.1,_,ha.2,hb.1,_,hb.2,hab.1,_,hab.2,_,Zea _ (hm.op k) _ _ _,by omega,e,by rw [hw];exact he,?_⟩
 rw [hw]
 by_cases e0:e.Mask=0
 ·rw [if_pos e0]
  refine ⟨_,Zhc ⟨a.Plan.Steps⟩ ⟨b.Plan.Steps⟩ _ _ la lb,?_⟩
  simp [offE,e0,jc]
 ·rw [if_neg e0]
  by_cases e1:jc m sizes a b k<e.Cost
  ·have e2:=e1
   unfold jc at e2
   rw [if_pos e2]
   refine ⟨_,Zhc ⟨a.Plan.Steps⟩ ⟨b.Plan.Steps⟩ _ _ la lb,?_⟩
   unfold offE
   rw [if_neg e0,if_pos e1]
   rfl
  ·have e2:=e1
   unfold jc at e2
   rw [if_neg e2]
   unfold offE
   rw [if_neg e0,if_neg e1,Zng he]
def Zef {α:Type} (f:α→Za→α) (E:List Za):Nat→Int→α→α
 | 0,_,x=>x
 | n+1,o,x=>Zef f E n (o+1) (match ofO E o with | some e=>f x e | none=>x)
theorem Z5o {α:Type} (f:α→Za→α) {E F:List Za}:∀ (n:Nat) (o:Int) (x:α),(∀ p,o≤p→ofO E p=ofO F p)→Zef f E n o x=Zef f F n o x
 | 0,_,_,_=>rfl
 | n+1,o,x,h=>by
  rw [Zef,Zef,h o (Int.le_refl o)]
  exact Z5o f n (o+1) _ (fun p hp=>h p (by omega))
theorem Z5p {α:Type} (f:α→Za→α):∀ (n:Nat) (o:Int) (x:α),Zef f [] n o x=x
 | 0,_,_=>rfl
 | n+1,o,x=>by rw [Zef];exact Z5p f n (o+1) x
theorem Zu8 {α:Type} (f:α→Za→α):∀ (n:Nat) (E:List Za) (o:Int) (x:α),E.Pairwise (fun a b=>a.Order<b.Order)→(∀ e∈E,o≤e.Order∧e.Order<o+n)→Zef f E n o x=E.foldl f x
 | 0,[],_,_,_,_=>rfl
 | 0,e::E,o,x,_,h=>by have:=h e (by simp);omega
 | n+1,[],o,x,_,_=>Z5p f (n+1) o x
 | n+1,e::E,o,x,hp,h=>by
  have hc:=List.pairwise_cons.1 hp
  have he:=h e (by simp)
  rw [Zef]
  by_cases eo:e.Order=o
  ·have h1:ofO (e::E) o=some e:=by simp [ofO,eo]
   rw [h1,List.foldl_cons]
   simp only
   rw [Z5o f (F:=E) n (o+1) (f x e) (fun p hpo=>by unfold ofO;rw [List.find?_cons];simp [show ¬ e.Order=p by omega])]
   exact Zu8 f n E (o+1) (f x e) hc.2 (fun y hy=>by have:=hc.1 y hy;have:=h y (by simp [hy]);omega)
  ·have h1:ofO (e::E) o=none:=by
    unfold ofO
    rw [List.find?_eq_none]
    intro y hy
    have:e.Order≤y.Order:=by
     rcases List.mem_cons.1 hy with rfl | hy
     ·exact Int.le_refl _
     ·have:=hc.1 y hy;omega
    simp
    omega
   rw [h1]
   simp only
   exact Zu8 f n (e::E) (o+1) x hp (fun y hy=>by
    have:=h y hy
    have:e.Order≤y.Order:=by
     rcases List.mem_cons.1 hy with rfl | hy
     ·exact Int.le_refl _
     ·have:=hc.1 y hy;omega
    omega)
def zE:Za:=⟨0,0,0,⟨[]⟩⟩
def offJ (m:Zd) (sizes:List Int) (a b:Za) (k v o:Int) (mine:List Za):List Za :=
 mine.set (o+1).toNat (offE ((mine[(o+1).toNat]?).getD zE) (orI a.Mask b.Mask) o (jc m sizes a b k) (Zbs a.Plan.Steps b.Plan.Steps k v))
def Zeg (m:Zd) (sizes:List Int) (b:Za) (mine:List Za) (e:Za):List Za:=offJ m sizes e b 5 0 e.Order mine
def Zev (m:Zd) (sizes:List Int) (A B:Int) (E F:List Za) (mine:List Za) (v:Int):List Za:=offJ m sizes (inp m sizes A E v) (inp m sizes B F v) 4 v v mine
def Zi5 (m:Zd) (sizes:List Int) (A B:Int) (sh:List Int) (E F:List Za) (mine:List Za):List Za :=
 sh.foldl (Zev m sizes A B E F) (E.foldl (Zeg m sizes (Zz F)) (offJ m sizes (Zz E) (Zz F) 3 0 (-1) mine))
theorem Zds {m:Zd} {sizes:List Int} {a b:Za} {k v o:Int} {mine:List Za}:(offJ m sizes a b k v o mine).length=mine.length:=by simp [offJ]
theorem Zp0 {m:Zd} {sizes:List Int} {b:Za}:∀ {E mine:List Za},(E.foldl (Zeg m sizes b) mine).length=mine.length
 | [],_=>rfl
 | e::E,mine=>by rw [List.foldl_cons,Zp0];exact Zds
theorem Z5q {m:Zd} {sizes:List Int} {A B:Int} {E F:List Za}:∀ {sh:List Int} {mine:List Za},(sh.foldl (Zev m sizes A B E F) mine).length=mine.length
 | [],_=>rfl
 | e::sh,mine=>by rw [List.foldl_cons,Z5q];exact Zds
theorem Z5r {m:Zd} {sizes:List Int} {A B:Int} {sh:List Int} {E F mine:List Za}:(Zi5 m sizes A B sh E F mine).length=mine.length:=by
 unfold Zi5;rw [Z5q,Zp0,Zds]
structure GoodE (m:Zd) (sizes:List Int) (qa:List Atom) (M:Int) (o:Int) (e:Za):Prop where
 mask:e.Mask=M
 ord:e.Order=o
 makes:Z5 m sizes qa e.Plan.Steps M o e.Cost
 len:1≤e.Plan.Steps.length∧e.Plan.Steps.length+3≤4*popc M
def Zck (m:Zd) (sizes:List Int) (qa:List Atom) (M:Int) (mine:List Za):Prop :=
 mine.length=5∧∀ (k:Nat) (e:Za),mine[k]?=some e→e.Mask≠0→GoodE m sizes qa M ((k:Int) - 1) e
theorem Z5s (m:Zd) (sizes:List Int) (qa:List Atom) (M:Int):Zck m sizes qa M (List.replicate 5 zE):=by
 refine ⟨by simp,fun k e h h0=>?_⟩
 rw [List.getElem?_replicate] at h
 split at h
 ·cases h;exact absurd rfl h0
 ·cases h
theorem Zbjl {m:Zd} {sizes:List Int} {qa:List Atom} {M:Int} {mine:List Za} (h:Zck m sizes qa M mine) {a b:Za} {k v o:Int} (ho:-1≤o∧o≤3) (hM:orI a.Mask b.Mask=M)
  (hmk:Z5 m sizes qa (Zbs a.Plan.Steps b.Plan.Steps k v) M o (jc m sizes a b k)) (hl:(Zbs a.Plan.Steps b.Plan.Steps k v).length+3≤4*popc M):Zck m sizes qa M (offJ m sizes a b k v o mine):=by
 refine ⟨by rw [Zds];exact h.1,fun j e hj h0=>?_⟩
 have h5:=h.1
 unfold offJ at hj
 have hlt:(o+1).toNat<mine.length:=by omega
 rw [List.getElem?_set] at hj
 by_cases ej:(o+1).toNat=j
 ·rw [if_pos ej,if_pos hlt] at hj
  cases hj
  have eo:(j:Int) - 1=o:=by omega
  rw [eo]
  rw [List.getElem?_eq_getElem hlt] at h0 ⊢
  simp only [Option.getD_some] at h0 ⊢
  have hold:=h.2 (o+1).toNat mine[(o+1).toNat] (List.getElem?_eq_getElem hlt)
  have eo2:(((o+1).toNat:Nat):Int) - 1=o:=by omega
  rw [eo2] at hold
  have hnew:GoodE m sizes qa M o ⟨orI a.Mask b.Mask,o,jc m sizes a b k,⟨Zbs a.Plan.Steps b.Plan.Steps k v⟩⟩:=⟨hM,rfl,hmk,by simp [Zbs];omega,hl⟩
  unfold offE
  split
  ·exact hnew
  ·rename_i hm0
   split
   ·exact hnew
   ·exact hold hm0
 ·rw [if_neg ej] at hj
  exact h.2 j e hj h0
theorem Zbjm {m:Zd} {sizes:List Int} {qa:List Atom} {M:Int} {mine:List Za} (h:Zck m sizes qa M mine) (hne:mine.filter sm≠[]):Held m sizes qa M (mine.filter sm):=by
 have hg:∀ e∈mine.filter sm,∃ o,(-1≤o∧o≤3)∧GoodE m sizes qa M o e:=by
  intro e he
  rw [List.mem_filter] at he
  obtain ⟨k,hk⟩:=List.mem_iff_getElem?.1 he.1
  have hlt:=(List.getElem?_eq_some_iff.1 hk).1
  have h5:=h.1
  have:e.Mask≠0:=by simpa [sm] using he.2
  exact ⟨(k:Int) - 1,by omega,h.2 k e hk this⟩
 refine ⟨hne,?_,?_,?_,?_,?_⟩
 ·rw [List.pairwise_filter,List.pairwise_iff_getElem]
  intro i j hi hj hij s1 s2
  have g1:=h.2 i _ (List.getElem?_eq_getElem hi) (by simpa [sm] using s1)
  have g2:=h.2 j _ (List.getElem?_eq_getElem hj) (by simpa [sm] using s2)
  rw [g1.ord,g2.ord]
  omega
 ·intro e he;obtain ⟨o,_,g⟩:=hg e he;exact g.mask
 ·intro e he;obtain ⟨o,ho,g⟩:=hg e he;rw [g.ord];exact ho
 ·intro e he;obtain ⟨o,_,g⟩:=hg e he;rw [g.ord];exact g.makes
 ·intro e he;obtain ⟨o,_,g⟩:=hg e he;exact g.len
theorem Zhd {m:Zd} {sizes:List Int} {qa:List Atom} {M:Int} {E:List Za} (h:Held m sizes qa M E) (hg:Zbd m.Sort_) (hcl:Zc3 sizes) (hM:M16 M) {v:Int} (hv:vin qa M v=true) :
  (inp m sizes M E v).Mask=M∧(inp m sizes M E v).Order=v∧Z5 m sizes qa (inp m sizes M E v).Plan.Steps M v (inp m sizes M E v).Cost∧1≤(inp m sizes M E v).Plan.Steps.length∧(inp m sizes M E v).Plan.Steps.length+2≤4*popc M:=by
 have h4:=Zct hM
 have hlen:=h.len _ h.best
 have hb:=(h.makes _ h.best).bound (by omega)
 have hp:=Z5m hg hcl M M
 have hu:=Zke m.Sort_ (szAt sizes M) 0 (szAt sizes M)
 have hsrt:(Zz E).Order≠v→(srt m sizes M E v).Mask=M∧(srt m sizes M E v).Order=v∧Z5 m sizes qa (srt m sizes M E v).Plan.Steps M v (srt m sizes M E v).Cost∧1≤(srt m sizes M E v).Plan.Steps.length∧(srt m sizes M E v).Plan.Steps.length+2≤4*popc M:=by
  intro hne
  refine ⟨rfl,rfl,h.srt_makes hv hne,?_,?_⟩ <;> simp only [srt,sortS,List.length_append,List.length_cons,List.length_nil] <;> omega
 unfold inp
 cases ho:ofO E v with
 | none =>
  refine hsrt (fun he=>?_)
  have:=Zpz h.up h.best
  rw [he,ho] at this
  cases this
 | some e =>
  have hmem:e∈E:=List.mem_of_find?_eq_some ho
  have hov:e.Order=v:=by have:=List.find?_some ho;simpa using this
  simp only
  by_cases hc:e.Cost≤(srt m sizes M E v).Cost
  ·rw [if_pos hc]
   have hm:=h.makes e hmem
   rw [hov] at hm
   have:=h.len e hmem
   exact ⟨h.mask e hmem,hov,hm,by omega,by omega⟩
  ·rw [if_neg hc]
   refine hsrt (fun he=>hc ?_)
   have hx:=Zpz h.up h.best
   rw [he,ho] at hx
   cases hx
   unfold srt
   simp only
   rw [w_id (by omega) (by omega)]
   omega
structure Pair (qa:List Atom) (A B M:Int):Prop where
 a16:M16 A
 b16:M16 B
 or:orI A B=M
 dis:andI A B=0
 shr:shr qa A B=true
 pop:popc A+popc B=popc M
theorem Zu9 {m:Zd} {sizes:List Int} {qa:List Atom} {A B M:Int} (hp:Pair qa A B M) {mine:List Za} (h:Zck m sizes qa M mine) {a b:Za} {k v o oa ob:Int} (ho:-1≤o∧o≤3) (hk:3≤k) (ha:a.Mask=A) (hb:b.Mask=B) (ma:Z5 m sizes qa a.Plan.Steps A oa a.Cost) (mb:Z5 m sizes qa b.Plan.Steps B ob b.Cost) (hj:Zdc qa ⟨k,0,v⟩ (A,oa) (B,ob)=some o) (hl:a.Plan.Steps.length+2≤4*popc A∧b.Plan.Steps.length+2≤4*popc B):Zck m sizes qa M (offJ m sizes a b k v o mine):=by
 have hpop:=hp.pop
 refine Zbjl h ho (by rw [ha,hb];exact hp.or) ?_ (by simp only [Zbs,List.length_append,List.length_cons,List.length_nil];omega)
 have:=Z5e (x:=⟨k,0,v⟩) ma mb hk rfl hp.dis hp.shr hj
 rw [hp.or] at this
 unfold jc
 rw [ha,hb,hp.or]
 exact this
theorem Z5t {m:Zd} {sizes:List Int} {qa:List Atom} {A B M:Int} (hp:Pair qa A B M) {b:Za} {ob:Int} (hb:b.Mask=B) (mb:Z5 m sizes qa b.Plan.Steps B ob b.Cost) (lb:b.Plan.Steps.length+2≤4*popc B):∀ {E mine:List Za},(∀ e∈E,e.Mask=A∧(-1≤e.Order∧e.Order≤3)∧Z5 m sizes qa e.Plan.Steps A e.Order e.Cost∧e.Plan.Steps.length+2≤4*popc A)→Zck m sizes qa M mine→Zck m sizes qa M (E.foldl (Zeg m sizes b) mine)
 | [],_,_,h=>h
 | e::E,mine,he,h=>by
  obtain ⟨e1,e2,e3,e4⟩:=he e (by simp)
  rw [List.foldl_cons]
  exact Z5t hp hb mb lb (fun x hx=>he x (by simp [hx])) (Zu9 hp h e2 (by omega) e1 hb e3 mb nest_p ⟨e4,lb⟩)
theorem Z5u {m:Zd} {sizes:List Int} {qa:List Atom} {A B M:Int} (hp:Pair qa A B M) (hg:Zbd m.Sort_) (hcl:Zc3 sizes) {E F:List Za} (hE:Held m sizes qa A E) (hF:Held m sizes qa B F):∀ {sh:List Int} {mine:List Za},(∀ v∈sh,(-1≤v∧v≤3)∧vin qa A v=true∧vin qa B v=true)→Zck m sizes qa M mine→Zck m sizes qa M (sh.foldl (Zev m sizes A B E F) mine)
 | [],_,_,h=>h
 | v::sh,mine,hv,h=>by
  obtain ⟨v1,v2,v3⟩:=hv v (by simp)
  obtain ⟨a1,a2,a3,a4,a5⟩:=Zhd hE hg hcl hp.a16 v2
  obtain ⟨b1,b2,b3,b4,b5⟩:=Zhd hF hg hcl hp.b16 v3
  rw [List.foldl_cons]
  exact Z5u hp hg hcl hE hF (fun x hx=>hv x (by simp [hx])) (Zu9 hp h v1 (by omega) a1 b1 a3 b3 (Z5f v2 v3 rfl rfl) ⟨a5,b5⟩)
theorem Zbjn {m:Zd} {sizes:List Int} {qa:List Atom} {A B M:Int} (hp:Pair qa A B M) (hg:Zbd m.Sort_) (hcl:Zc3 sizes) {E F:List Za} (hE:Held m sizes qa A E) (hF:Held m sizes qa B F) {sh:List Int} {mine:List Za} (hv:∀ v∈sh,(-1≤v∧v≤3)∧vin qa A v=true∧vin qa B v=true) (h:Zck m sizes qa M mine):Zck m sizes qa M (Zi5 m sizes A B sh E F mine):=by
 have lE:=hE.len _ hE.best
 have lF:=hF.len _ hF.best
 have mE:=hE.makes _ hE.best
 have mF:=hF.makes _ hF.best
 unfold Zi5
 refine Z5u hp hg hcl hE hF hv (Z5t hp (hF.mask _ hF.best) mF (by omega) (fun e he=>⟨hE.mask e he,hE.ord e he,hE.makes e he,by have:=hE.len e he;omega⟩) ?_)
 exact Zu9 hp h (by omega) (by omega) (hE.mask _ hE.best) (hF.mask _ hF.best) mE mF hash_p ⟨by omega,by omega⟩
def pos (e:Za):Bool:=decide (0<e.Mask)
theorem Zbjo (mine:List Za) (h5:mine.length=5) (sizes:List Int) (fr1:Bool) (l:List Za):∀ i:Nat,i≤5→∀ (fr:Bool) (out:List Za),out.length≤i→∃ fr',Zfq mine fr out sizes fr1 l i=some (.own 2,[.arr 3 1 true (sizes.map ic),.arr 174 4 fr1 (l.map Za.c),.arr 174 4 fr' ((out++(mine.drop i).filter pos).map Za.c)]):=by
 refine down _ ?_ ?_
 ·intro fr out ho
  refine ⟨fr,Zup _ _ _ _ _ _ _ _ ?_⟩
  rw [if_neg (by omega),List.drop_of_length_le (by omega)]
  simp
 ·intro i hi ih fr out ho
  have h4:=inc64 (i:=i) (by omega)
  have hlt:i<mine.length:=by omega
  have hw:w ((i:Int)+1)=((i+1:Nat):Int):=by rw [show w ((i:Int)+1)=(i:Int)+1 from h4];simp
  rw [List.drop_eq_getElem_cons hlt,List.filter_cons]
  by_cases e:0<mine[i].Mask
  ·obtain ⟨fr',h⟩:=ih false (out++[mine[i]]) (by simp;omega)
   refine ⟨fr',Zup _ _ _ _ _ _ _ _ ?_⟩
   rw [if_pos (by omega)]
   refine ⟨by omega,mine[i],by rw [Int.toNat_natCast];exact List.getElem?_eq_getElem hlt,?_⟩
   rw [if_pos e,hw]
   refine ⟨by omega,?_⟩
   simpa [pos,e] using h
  ·obtain ⟨fr',h⟩:=ih fr out (by omega)
   refine ⟨fr',Zup _ _ _ _ _ _ _ _ ?_⟩
   rw [if_pos (by omega)]
   refine ⟨by omega,mine[i],by rw [Int.toNat_natCast];exact List.getElem?_eq_getElem hlt,?_⟩
   rw [if_neg e,hw]
   simpa [pos,e] using h
theorem Zbjp {m:Zd} {sizes:List Int} {qa:List Atom} {M:Int} {mine:List Za} (h:Zck m sizes qa M mine) (hM:0<M):mine.filter pos=mine.filter sm:=by
 refine List.filter_congr fun e he=>?_
 obtain ⟨k,hk⟩:=List.mem_iff_getElem?.1 he
 by_cases h0:e.Mask=0
 ·simp [pos,sm,h0]
 ·have:=(h.2 k e hk h0).mask
  simp [pos,sm,h0];omega
def SzOk (sizes:List Int) (M:Int):Prop:=0≤M∧sizes[M.toNat]?=some (szAt sizes M)
theorem Zva {m:Zd} {sizes:List Int} {a b:Za} {k v o:Int} {mine:List Za} {e:Za} (he:mine[(o+1).toNat]?=some e):mine.set (o+1).toNat (offE e (orI a.Mask b.Mask) o (jc m sizes a b k) (Zbs a.Plan.Steps b.Plan.Steps k v))=offJ m sizes a b k v o mine:=by
 simp [offJ,he]
theorem l_merges (m:Zd) (hm:LeM m) (hg:Zbd m.Sort_) (sizes:List Int) (hcl:Zc3 sizes) (qa:List Atom) (fr:Bool) (l:List Za) (hl:l.length≤1000) {A B M:Int} (hp:Pair qa A B M) (hE:Held m sizes qa A (ofM l A)) (hF:Held m sizes qa B (ofM l B)) (zA:SzOk sizes A) (zB:SzOk sizes B) (zM:SzOk sizes M) (x:Zv) (k:Nat) (sh:List Int) (hsh:x.shared[k]?=some sh) (hl4:sh.length≤1000) (hv:∀ v∈sh,(-1≤v∧v≤3)∧vin qa A v=true∧vin qa B v=true) (r:AV×List Blk):∀ i,i≤sh.length→∀ mine:List Za,mine.length=5→Zg3 sizes fr l m x ((sh.drop i).foldl (Zev m sizes A B (ofM l A) (ofM l B)) mine) (w ((k:Int)+1))=some r→Zd6 sizes fr l m x mine k A B i=some r:=by
 have pA:=Zct hp.a16
 have pB:=Zct hp.b16
 refine down _ ?_ ?_
 ·intro mine h5 h
  refine Z3r _ _ _ _ _ _ _ _ _ _ _ ⟨by omega,sh,by rw [Int.toNat_natCast];exact hsh,?_⟩
  rw [if_neg (by omega)]
  simpa using h
 ·intro i hi ih mine h5 h
  have h4:=inc64 (i:=i) (by omega)
  have hw:w ((i:Int)+1)=((i+1:Nat):Int):=by rw [show w ((i:Int)+1)=(i:Int)+1 from h4];simp
  rw [List.drop_eq_getElem_cons hi,List.foldl_cons] at h
  have ih:=ih _ (by rw [show (Zev m sizes A B (ofM l A) (ofM l B) mine sh[i]).length=mine.length from Zds];exact h5) h
  obtain ⟨v1,v2,v3⟩:=hv sh[i] (List.getElem_mem hi)
  obtain ⟨a1,a2,a3,a4,a5⟩:=Zhd hE hg hcl hp.a16 v2
  obtain ⟨b1,b2,b3,b4,b5⟩:=Zhd hF hg hcl hp.b16 v3
  have hlt:(sh[i]+1).toNat<mine.length:=by omega
  have he:mine[(sh[i]+1).toNat]?=some mine[(sh[i]+1).toNat]:=List.getElem?_eq_getElem hlt
  have ea:0≤(inp m sizes A (ofM l A) sh[i]).Mask∧sizes[(inp m sizes A (ofM l A) sh[i]).Mask.toNat]?=some (szAt sizes (inp m sizes A (ofM l A) sh[i]).Mask):=by rw [a1];exact zA
  have eb:0≤(inp m sizes B (ofM l B) sh[i]).Mask∧sizes[(inp m sizes B (ofM l B) sh[i]).Mask.toNat]?=some (szAt sizes (inp m sizes B (ofM l B) sh[i]).Mask):=by rw [b1];exact zB
  have eab:0≤orI (inp m sizes A (ofM l A) sh[i]).Mask (inp m sizes B (ofM l B) sh[i]).Mask∧sizes[(orI (inp m sizes A (ofM l A) sh[i]).Mask (inp m sizes B (ofM l B) sh[i]).Mask).toNat]?=some (szAt sizes (orI (inp m sizes A (ofM l A) sh[i]).Mask (inp m sizes B (ofM l B) sh[i]).Mask)):=by rw [a1,b1,hp.or];exact zM
  have la:(inp m sizes A (ofM l A) sh[i]).Plan.Steps.length≤1000:=by omega
  have lb:(inp m sizes B (ofM l B) sh[i]).Plan.Steps.length≤1000:=by omega
  have o0:=Zu7 m hm sizes mine _ _ 4 sh[i] sh[i] v1 he ea eb eab la lb
  have o1:=Zbji m hm sizes mine _ _ 4 sh[i] sh[i] v1 he ea eb eab la lb
  have o2:=Zbjj m hm sizes mine _ _ 4 sh[i] sh[i] v1 he ea eb eab la lb
  have o3:=Zbjk m hm sizes mine _ _ 4 sh[i] sh[i] v1 he ea eb eab la lb
  rw [Zva he] at o0 o1 o2 o3
  refine Z3r _ _ _ _ _ _ _ _ _ _ _ ⟨by omega,sh,by rw [Int.toNat_natCast];exact hsh,?_⟩
  rw [if_pos (by omega)]
  refine ⟨by omega,sh[i],by rw [Int.toNat_natCast];exact List.getElem?_eq_getElem hi,?_⟩
  rw [hw]
  have bA:=hE.len _ hE.best
  have bB:=hF.len _ hF.best
  rcases Zu6 m hm sizes fr l hl zA.1 zA.2 hE.ne (by omega) sh[i] with ha | ha
  ·refine .inl ⟨_,ha,?_⟩
   rcases Zu6 m hm sizes fr l hl zB.1 zB.2 hF.ne (by omega) sh[i] with hb | hb
   ·exact .inl ⟨_,hb,_,_,o0,ih⟩
   ·exact .inr ⟨_,_,_,_,hb,_,_,_,o1,ih⟩
  ·refine .inr ⟨_,_,_,_,ha,?_⟩
   rcases Zu6 m hm sizes fr l hl zB.1 zB.2 hF.ne (by omega) sh[i] with hb | hb
   ·exact .inl ⟨_,hb,_,_,_,o2,ih⟩
   ·exact .inr ⟨_,_,_,_,hb,_,_,_,_,o3,ih⟩
theorem Zvb (m:Zd) (hm:LeM m) (sizes:List Int) (qa:List Atom) (fr:Bool) (l:List Za) (hl:l.length≤1000) {A B M:Int} (hp:Pair qa A B M) (hE:Held m sizes qa A (ofM l A)) (b:Za) (hb:b.Mask=B) (lb:b.Plan.Steps.length≤1000) (zA:SzOk sizes A) (zB:SzOk sizes B) (zM:SzOk sizes M) (x:Zv) (k:Int) (r:AV×List Blk):∀ n:Nat,n≤5→∀ mine:List Za,mine.length=5→Zd6 sizes fr l m x (Zef (Zeg m sizes b) (ofM l A) n (4 - n) mine) k A B 0=some r→Zg4 sizes fr l m x mine b k A B (4 - n)=some r
 | 0,_,mine,h5,h=>by
  refine Z3q _ _ _ _ _ _ _ _ _ _ _ _ ?_
  rw [if_neg (by omega)]
  exact h
 | n+1,hn,mine,h5,h=>by
  have pA:=Zct hp.a16
  have hw:w ((4:Int) - ((n+1:Nat):Int)+1)=4 - (n:Int):=by rw [w_id (by omega) (by omega)];omega
  rw [Zef,show (4:Int) - ((n+1:Nat):Int)+1=4 - (n:Int) by omega] at h
  have hf:=Z5j l A (4 - ((n+1:Nat):Int))
  refine Z3q _ _ _ _ _ _ _ _ _ _ _ _ ?_
  rw [if_pos (by omega),hw]
  refine ⟨_,Zpv l A _ hl,?_⟩
  cases ho:ofO (ofM l A) (4 - ((n+1:Nat):Int)) with
  | none =>
   rw [ho] at hf h
   simp only at hf h
   rw [hf,if_neg (by omega)]
   exact Zvb m hm sizes qa fr l hl hp hE b hb lb zA zB zM x k r n (by omega) mine h5 h
  | some e =>
   rw [ho] at hf h
   simp only at hf h
   have hmem:e∈ofM l A:=List.mem_of_find?_eq_some ho
   have hov:e.Order=4 - ((n+1:Nat):Int):=by have:=List.find?_some ho;simpa using this
   have le:=hE.len e hmem
   have me:=hE.mask e hmem
   have hlt:((4 - ((n+1:Nat):Int))+1).toNat<mine.length:=by omega
   have he:=List.getElem?_eq_getElem hlt
   have o0:=Zu7 m hm sizes mine e b 5 0 (4 - ((n+1:Nat):Int)) (by omega) he (by rw [me];exact zA) (by rw [hb];exact zB) (by rw [me,hb,hp.or];exact zM) (by omega) lb
   rw [Zva he] at o0
   rw [if_pos hf.1]
   refine ⟨e,hf.2,_,_,o0,?_⟩
   rw [show Zeg m sizes b mine e=offJ m sizes e b 5 0 (4 - ((n+1:Nat):Int)) mine by rw [Zeg,hov]] at h
   exact Zvb m hm sizes qa fr l hl hp hE b hb lb zA zB zM x k r n (by omega) _ (by rw [Zds];exact h5) h
def oneJ (m:Zd) (sizes:List Int) (M:Int) (l:List Za) (mine:List Za) (p:Int×List Int):List Za:=Zi5 m sizes p.1 (M - p.1) p.2 (ofM l p.1) (ofM l (M - p.1)) mine
structure Zi6 (m:Zd) (sizes:List Int) (qa:List Atom) (l:List Za) (M A:Int) (sh:List Int):Prop where
 pair:Pair qa A (M - A) M
 left:Held m sizes qa A (ofM l A)
 right:Held m sizes qa (M - A) (ofM l (M - A))
 zA:SzOk sizes A
 zB:SzOk sizes (M - A)
 len:sh.length≤1000
 vars:∀ v∈sh,(-1≤v∧v≤3)∧vin qa A v=true∧vin qa (M - A) v=true
theorem l_splits (m:Zd) (hm:LeM m) (hg:Zbd m.Sort_) (sizes:List Int) (hcl:Zc3 sizes) (qa:List Atom) (fr:Bool) (l:List Za) (hl:l.length≤1000) (x:Zv) (zM:SzOk sizes x.mask) (h16:M16 x.mask) (hlen:x.Zr.length=x.shared.length) (hx:x.Zr.length≤100) (ok:∀ p∈x.Zr.zip x.shared,Zi6 m sizes qa l x.mask p.1 p.2) (r:AV×List Blk):∀ i,i≤x.Zr.length→∀ mine:List Za,mine.length=5→Zfq (((x.Zr.zip x.shared).drop i).foldl (oneJ m sizes x.mask l) mine) true [] sizes fr l 0=some r→Zg3 sizes fr l m x mine i=some r:=by
 have hz:(x.Zr.zip x.shared).length=x.Zr.length:=by simp [hlen]
 refine down _ ?_ ?_
 ·intro mine h5 h
  refine Z3p _ _ _ _ _ _ _ _ ?_
  rw [if_neg (by omega)]
  rw [List.drop_of_length_le (by omega)] at h
  exact h
 ·intro i hi ih mine h5 h
  have h4:=inc64 (i:=i) (by omega)
  have hw:w ((i:Int)+1)=((i+1:Nat):Int):=by rw [show w ((i:Int)+1)=(i:Int)+1 from h4];simp
  have hiz:i<(x.Zr.zip x.shared).length:=by omega
  have his:i<x.shared.length:=by omega
  rw [List.drop_eq_getElem_cons hiz,List.foldl_cons,List.getElem_zip] at h
  have o:=ok _ (List.getElem_mem hiz)
  rw [List.getElem_zip] at o
  have ih:=ih _ (by rw [show (oneJ m sizes x.mask l mine (x.Zr[i],x.shared[i])).length=mine.length from Z5r];exact h5) h
  have hB:w (x.mask - x.Zr[i])=x.mask - x.Zr[i]:=by
   have:=o.pair.b16
   have:=o.pair.a16
   exact w_id (by omega) (by omega)
  obtain ⟨k1,k2⟩:=Zpy o.left.ne
  obtain ⟨j1,j2⟩:=Zpy o.right.ne
  have eM:=o.left.mask _ o.left.best
  have fM:=o.right.mask _ o.right.best
  have pA:=Zct o.pair.a16
  have pB:=Zct o.pair.b16
  have la:=o.left.len _ o.left.best
  have lb:=o.right.len _ o.right.best
  have hlt:((-1:Int)+1).toNat<mine.length:=by simp;omega
  have he:=List.getElem?_eq_getElem hlt
  have o0:=Zu7 m hm sizes mine _ _ 3 0 (-1) (by omega) he (by rw [eM];exact o.zA) (by rw [fM];exact o.zB) (by rw [eM,fM,o.pair.or];exact zM) (by omega) (by omega)
  rw [Zva he] at o0
  refine Z3p _ _ _ _ _ _ _ _ ?_
  rw [if_pos (by omega)]
  refine ⟨by omega,x.Zr[i],by rw [Int.toNat_natCast];exact List.getElem?_eq_getElem hi,?_⟩
  rw [hB]
  refine ⟨_,x_low l _ hl,k1,_,k2,_,x_low l _ hl,j1,_,j2,_,_,o0,?_⟩
  refine Zvb m hm sizes qa fr l hl o.pair o.left _ fM (by omega) o.zA o.zB zM x i r 5 (Nat.le_refl _) _ (by rw [Zds];exact h5) ?_
  rw [Zu8 _ 5 _ _ _ o.left.up (fun e he=>by have:=o.left.ord e he;omega)]
  refine l_merges m hm hg sizes hcl qa fr l hl o.pair o.left o.right o.zA o.zB zM x i _ (List.getElem?_eq_getElem his) o.len o.vars r 0 (Nat.zero_le _) _ (by rw [Zp0,Zds];exact h5) ?_
  rw [hw,List.drop_zero]
  exact ih
theorem Zvc {m:Zd} {sizes:List Int} {qa:List Atom} {l:List Za} {M:Int} (hg:Zbd m.Sort_) (hcl:Zc3 sizes):∀ {ps:List (Int×List Int)} {mine:List Za},(∀ p∈ps,Zi6 m sizes qa l M p.1 p.2)→Zck m sizes qa M mine→Zck m sizes qa M (ps.foldl (oneJ m sizes M l) mine)
 | [],_,_,h=>h
 | p::ps,mine,hp,h=>by
  have o:=hp p (by simp)
  rw [List.foldl_cons]
  exact Zvc hg hcl (fun y hy=>hp y (by simp [hy])) (Zbjn o.pair hg hcl o.left o.right o.vars h)
def Zkf (m:Zd) (sizes:List Int) (M:Int) (l:List Za) (ps:List (Int×List Int)):List Za:=ps.foldl (oneJ m sizes M l) (List.replicate 5 zE)
theorem Zbjq (m:Zd) (hm:LeM m) (hg:Zbd m.Sort_) (sizes:List Int) (hcl:Zc3 sizes) (qa:List Atom) (fr:Bool) (l:List Za) (hl:l.length≤1000) (x:Zv) (zM:SzOk sizes x.mask) (h16:M16 x.mask) (h0:0<x.mask) (hlen:x.Zr.length=x.shared.length) (hx:x.Zr.length≤100) (ok:∀ p∈x.Zr.zip x.shared,Zi6 m sizes qa l x.mask p.1 p.2) :
  ∃ fr',Zmd sizes fr l m x=some (.own 2,[.arr 3 1 true (sizes.map ic),.arr 174 4 fr (l.map Za.c),.arr 174 4 fr' (((Zkf m sizes x.mask l (x.Zr.zip x.shared)).filter sm).map Za.c)]):=by
 have hs:Zck m sizes qa x.mask (Zkf m sizes x.mask l (x.Zr.zip x.shared)):=Zvc hg hcl ok (Z5s m sizes qa x.mask)
 obtain ⟨fr',h⟩:=Zbjo _ hs.1 sizes fr l 0 (by omega) true [] (Nat.le_refl _)
 rw [List.drop_zero,List.nil_append,Zbjp hs h0] at h
 exact ⟨fr',Zbgi _ _ _ _ _ _ (l_splits m hm hg sizes hcl qa fr l hl x zM h16 hlen hx ok _ 0 (Nat.zero_le _) _ (by simp) (by rw [List.drop_zero];exact h))⟩
theorem Zbjr {m:Zd} {sizes:List Int} {a b:Za} {k v o:Int} (ho:-1≤o∧o≤3) (a0 a1 a2 a3 a4:Za):offJ m sizes a b k v o [a0,a1,a2,a3,a4] =
  [offK 0 a0 (orI a.Mask b.Mask) o (jc m sizes a b k) (Zbs a.Plan.Steps b.Plan.Steps k v),offK 1 a1 (orI a.Mask b.Mask) o (jc m sizes a b k) (Zbs a.Plan.Steps b.Plan.Steps k v),offK 2 a2 (orI a.Mask b.Mask) o (jc m sizes a b k) (Zbs a.Plan.Steps b.Plan.Steps k v),offK 3 a3 (orI a.Mask b.Mask) o (jc m sizes a b k) (Zbs a.Plan.Steps b.Plan.Steps k v),offK 4 a4 (orI a.Mask b.Mask) o (jc m sizes a b k) (Zbs a.Plan.Steps b.Plan.Steps k v)]:=by
 have h5:o=-1∨o=0∨o=1∨o=2∨o=3:=by omega
 rcases h5 with rfl | rfl | rfl | rfl | rfl <;> simp [offJ,offK]
theorem five {mine:List Za} (h:mine.length=5):∃ a0 a1 a2 a3 a4,mine=[a0,a1,a2,a3,a4]:=by
 match mine,h with
 | [a0,a1,a2,a3,a4],_=>exact ⟨a0,a1,a2,a3,a4,rfl⟩
theorem x_offJ (m:Zd) (hm:LeM m) (q:Zc) (hq:LeQ q) (hvq:Zn q.Ze q.Atoms=true) (sizes:List Int) (hs:Le sizes) (hsv:Zbr q.Ze q.Atoms sizes=true) {A B M:Int} (hM16:M16 M) (hM:M≠0) (hp:Pair q.Atoms A B M) {a b:Za} {k v o oa ob:Int} (ho:-1≤o∧o≤3) (hk:3≤k) (ha:a.Mask=A) (hb:b.Mask=B) (ma:Z5 m sizes q.Atoms a.Plan.Steps A oa a.Cost) (mb:Z5 m sizes q.Atoms b.Plan.Steps B ob b.Cost) (hj:Zdc q.Atoms ⟨k,0,v⟩ (A,oa) (B,ob)=some o) (hl:a.Plan.Steps.length+2≤4*popc A∧b.Plan.Steps.length+2≤4*popc B) (a0 a1 a2 a3 a4:Za) :
  ∃ b0 b1 b2 b3 b4 t,offJ m sizes a b k v o [a0,a1,a2,a3,a4]=[b0,b1,b2,b3,b4]∧(t=.dead∨t=.arr 142 3 true ((Zbs a.Plan.Steps b.Plan.Steps k v).map Zb.c))∧Zbq m q sizes M a0 a1 a2 a3 a4 (sm a0) (sm a1) (sm a2) (sm a3) (sm a4) (Zbs a.Plan.Steps b.Plan.Steps k v) o=some (.tup [],[boxO m q sizes M b0 b1 b2 b3 b4 (sm b0) (sm b1) (sm b2) (sm b3) (sm b4),t]):=by
 have hpop:=hp.pop
 have p4:=Zct hM16
 have mk:=Z5e (x:=⟨k,0,v⟩) ma mb hk rfl hp.dis hp.shr hj
 rw [hp.or] at mk
 have hc:=Z5.cost mk hvq (by simp only [List.length_append,List.length_cons,List.length_nil];omega) hsv
 obtain ⟨t,ht,hx⟩:=Z5g m hm q hq sizes hs M hM a0 a1 a2 a3 a4 (Zbs a.Plan.Steps b.Plan.Steps k v) o ho _ hc
 refine ⟨_,_,_,_,_,t,Zbjr ho a0 a1 a2 a3 a4,ht,?_⟩
 rw [hx]
 simp only [jc,ha,hb,hp.or]
theorem Znh {qa:List Atom} {M A:Int} (h:A∈Zr qa M):1≤A∧A<M∧andI A M=A∧conn qa A=true∧conn qa (M - A)=true:=by
 unfold Zr Zdb at h
 rw [List.mem_map] at h
 obtain ⟨k,hk,rfl⟩:=h
 rw [List.mem_filter,List.mem_range'_1] at hk
 obtain ⟨⟨h1,h2⟩,h3⟩:=hk
 simp only [Zb1,Bool.and_eq_true,decide_eq_true_eq] at h3
 exact ⟨by omega,by omega,h3⟩
theorem Zbjs {qa:List Atom} {M:Int} {k:Nat} (h1:1≤k) (h2:(k:Int)<M) (h3:Zb1 qa M k=true):(k:Int)∈Zr qa M:=by
 unfold Zr Zdb
 rw [List.mem_map]
 exact ⟨k,by rw [List.mem_filter,List.mem_range'_1];exact ⟨⟨h1,by omega⟩,h3⟩,rfl⟩
theorem Zvd {qa:List Atom} {M:Int} (h:M16 M):(Zr qa M).length≤16:=by
 unfold Zr Zdb
 rw [List.length_map]
 refine Nat.le_trans (List.length_filter_le _ _) ?_
 rw [List.length_range']
 omega
set_option maxRecDepth 100000 in
theorem Zbjt:∀ a b c d e f g h:Bool,andB (e,f,g,h) (a,b,c,d)=(e,f,g,h)→popc (toI (e,f,g,h))+popc (toI (subB (a,b,c,d) (e,f,g,h)))=popc (toI (a,b,c,d))∧orB (e,f,g,h) (subB (a,b,c,d) (e,f,g,h))=(a,b,c,d)∧andB (e,f,g,h) (subB (a,b,c,d) (e,f,g,h))=(false,false,false,false):=by decide
theorem inN_of {n:Int} {qa:List Atom} (hv:Zn n qa=true) {M:Int} (h:MQ qa M):inN qa.length (ofI M)=true:=by
 have h4:=Zbu hv
 have h16:=(h.m16 hv).1
 obtain ⟨a,rfl⟩:=m16 h16
 have key:∀ a:Fin 16,(a.1<2→inN 1 (ofI (a.1:Int))=true)∧(a.1<4→inN 2 (ofI (a.1:Int))=true)∧(a.1<8→inN 3 (ofI (a.1:Int))=true)∧inN 4 (ofI (a.1:Int))=true:=by decide
 have hk:=key a
 have hl:qa.length=1∨qa.length=2∨qa.length=3∨qa.length=4:=by omega
 have h2:=h.2
 rcases hl with e | e | e | e
 ·rw [e] at h2 ⊢;exact hk.1 (by omega)
 ·rw [e] at h2 ⊢;exact hk.2.1 (by omega)
 ·rw [e] at h2 ⊢;exact hk.2.2.1 (by omega)
 ·rw [e] at h2 ⊢;exact hk.2.2.2
theorem okf1 (g:Ed) {n:Nat} (hn:1≤n∧n≤4) (p:B4):okF1 g n p=true:=by
 have:=f1 g.a g.b g.c g.d g.e g.f p.1 p.2.1 p.2.2.1 p.2.2.2
 have hl:n=1∨n=2∨n=3∨n=4:=by omega
 rcases hl with rfl | rfl | rfl | rfl
 ·exact this.1
 ·exact this.2.1
 ·exact this.2.2.1
 ·exact this.2.2.2
theorem okf2 (g:Ed) {n:Nat} (hn:1≤n∧n≤4) (p x:B4):okF2 g n p x=true:=by
 have:=f2 g.a g.b g.c g.d g.e g.f p.1 p.2.1 p.2.2.1 p.2.2.2 x.1 x.2.1 x.2.2.1 x.2.2.2
 have hl:n=1∨n=2∨n=3∨n=4:=by omega
 rcases hl with rfl | rfl | rfl | rfl
 ·exact this.1
 ·exact this.2.1
 ·exact this.2.2.1
 ·exact this.2.2.2
theorem Zbju {n:Int} {qa:List Atom} (hv:Zn n qa=true) {M A:Int} (hM:MQ qa M) (hc:conn qa M=true) (h:A∈Zr qa M):Pair qa A (M - A) M:=by
 obtain ⟨h1,h2,h3,_,_⟩:=Znh h
 have h16:=(hM.m16 hv).1
 have a16:M16 A:=by omega
 have b16:M16 (M - A):=by omega
 have eM:=Zu2 h16
 have eA:=Zu2 a16
 have hsub:andB (ofI A) (ofI M)=ofI A:=by
  apply Zu3
  rw [← Zps,eM,eA];exact h3
 have eB:=Z45 hsub
 rw [eM,eA] at eB
 have hp:=Zbjt (ofI M).1 (ofI M).2.1 (ofI M).2.2.1 (ofI M).2.2.2 (ofI A).1 (ofI A).2.1 (ofI A).2.2.1 (ofI A).2.2.2 hsub
 have hp1:popc (toI (ofI A))+popc (toI (subB (ofI M) (ofI A)))=popc (toI (ofI M)):=hp.1
 have hp2:orB (ofI A) (subB (ofI M) (ofI A))=ofI M:=hp.2.1
 have hp3:andB (ofI A) (subB (ofI M) (ofI A))=(false,false,false,false):=hp.2.2
 refine ⟨a16,b16,?_,?_,?_,?_⟩
 ·rw [eB]
  have:=toI_or (ofI A) (subB (ofI M) (ofI A))
  rw [hp2,eM,eA] at this
  exact this
 ·rw [eB]
  have:=Zps (ofI A) (subB (ofI M) (ofI A))
  rw [hp3,eA] at this
  exact this
 ·rw [eB]
  have:=edge_bit (Zbu hv).2 (ofI A) (subB (ofI M) (ofI A)) hp3
  rw [eA] at this
  rw [this]
  have h5:=okf2 (edOf qa) (Zbu hv) (ofI M) (ofI A)
  have hcb:=Zne hv (ofI M)
  rw [eM,hc] at hcb
  have hin:=inN_of hv hM
  have n0:ofI A≠(false,false,false,false):=fun he=>by
   rw [he] at eA
   have:toI (false,false,false,false)=0:=rfl
   omega
  have nM:ofI A≠ofI M:=fun he=>by rw [he,eM] at eA;omega
  unfold okF2 at h5
  rw [hsub,← hcb,hin] at h5
  simpa [n0,nM] using h5
 ·rw [eB]
  rw [eM,eA] at hp1
  exact hp1
theorem split_ne {n:Int} {qa:List Atom} (hv:Zn n qa=true) {M:Int} (hM:MQ qa M) (h0:M≠0) (hc:conn qa M=true) (h1:oneB (ofI M)=false):Zr qa M≠[]:=by
 have h16:=(hM.m16 hv).1
 have eM:=Zu2 h16
 have h5:=okf1 (edOf qa) (Zbu hv) (ofI M)
 have hcb:=Zne hv (ofI M)
 rw [eM,hc] at hcb
 have hin:=inN_of hv hM
 have nz:ofI M≠(false,false,false,false):=fun he=>by
  rw [he] at eM
  have:toI (false,false,false,false)=0:=rfl
  omega
 have one:∀ (x:B4) (k:Nat),toI x=(k:Int)→1≤k→oneB x=true→andB x x=x→Zb2 (edOf qa) qa.length x=true→andB (ofI M) x≠(false,false,false,false)→(andB (ofI M) x=x)→Zb2 (edOf qa) qa.length (subB (ofI M) x)=true→Zr qa M≠[]:=by
  intro x k hk hk1 hx hxx hcx hne hsub hcs
  have hsub':andB x (ofI M)=x:=by
   have:andB x (ofI M)=andB (ofI M) x:=by
    obtain ⟨a,b,c,d⟩:=x
    show (a && (ofI M).1,b && (ofI M).2.1,c && (ofI M).2.2.1,d && (ofI M).2.2.2)=((ofI M).1 && a,(ofI M).2.1 && b,(ofI M).2.2.1 && c,(ofI M).2.2.2 && d)
    simp only [Bool.and_comm]
   rw [this,hsub]
  have e1:=Z45 hsub'
  rw [eM,hk] at e1
  have hxm:x≠ofI M:=fun he=>by rw [← he,hx] at h1;cases h1
  have hle:(k:Int)<M:=by
   have q1:=toI_16 (subB (ofI M) x)
   have q2:toI (subB (ofI M) x)≠0:=by
    intro hz
    apply hxm
    apply Zu3
    rw [eM,hk];omega
   omega
  have:(k:Int)∈Zr qa M:=by
   refine Zbjs hk1 hle ?_
   unfold Zb1
   rw [e1,Zne hv,hcs,← hk,Zne hv,hcx]
   have:andI (toI x) M=toI x:=by
    have:=Zps x (ofI M)
    rw [eM,hsub'] at this
    exact this
   rw [this];simp
  exact List.ne_nil_of_mem this
 have c1:∀ (g:Ed) (n:Nat),1≤n∧n≤4→Zb2 g n (true,false,false,false)=true∧Zb2 g n (false,true,false,false)=true∧Zb2 g n (false,false,true,false)=true∧Zb2 g n (false,false,false,true)=true:=by
  have key:∀ a b c d e f:Bool,∀ n:Fin 5,1≤n.1→Zb2 ⟨a,b,c,d,e,f⟩ n.1 (true,false,false,false)=true∧Zb2 ⟨a,b,c,d,e,f⟩ n.1 (false,true,false,false)=true∧Zb2 ⟨a,b,c,d,e,f⟩ n.1 (false,false,true,false)=true∧Zb2 ⟨a,b,c,d,e,f⟩ n.1 (false,false,false,true)=true:=by decide
  intro g n hn
  exact key g.a g.b g.c g.d g.e g.f ⟨n,by omega⟩ hn.1
 obtain ⟨k0,k1,k2,k3⟩:=c1 (edOf qa) qa.length (Zbu hv)
 have sel:∀ a b c d:Bool,(¬ andB (a,b,c,d) (true,false,false,false)=(false,false,false,false)→andB (a,b,c,d) (true,false,false,false)=(true,false,false,false))∧(¬ andB (a,b,c,d) (false,true,false,false)=(false,false,false,false)→andB (a,b,c,d) (false,true,false,false)=(false,true,false,false))∧(¬ andB (a,b,c,d) (false,false,true,false)=(false,false,false,false)→andB (a,b,c,d) (false,false,true,false)=(false,false,true,false))∧(¬ andB (a,b,c,d) (false,false,false,true)=(false,false,false,false)→andB (a,b,c,d) (false,false,false,true)=(false,false,false,true)):=by
  intro a b c d
  cases a <;> cases b <;> cases c <;> cases d <;> simp [andB]
 have hs:=sel (ofI M).1 (ofI M).2.1 (ofI M).2.2.1 (ofI M).2.2.2
 unfold okF1 at h5
 rw [hin,← hcb,h1] at h5
 have nz':(ofI M == (false,false,false,false))=false:=by simpa using nz
 rw [nz'] at h5
 simp only [Bool.not_true,Bool.false_or,Bool.or_eq_true,Bool.and_eq_true,bne_iff_ne,ne_eq] at h5
 rcases h5 with ((h5 | h5) | h5) | h5
 ·exact one _ 1 rfl (by omega) rfl rfl k0 h5.1 (hs.1 h5.1) h5.2
 ·exact one _ 2 rfl (by omega) rfl rfl k1 h5.1 (hs.2.1 h5.1) h5.2
 ·exact one _ 4 rfl (by omega) rfl rfl k2 h5.1 (hs.2.2.1 h5.1) h5.2
 ·exact one _ 8 rfl (by omega) rfl rfl k3 h5.1 (hs.2.2.2 h5.1) h5.2
structure Base (m:Zd) (q:Zc) (sizes:List Int):Prop where
 hm:LeM m
 hg:Zbd m.Sort_
 hq:LeQ q
 hv:Zn q.Ze q.Atoms=true
 hs:Le sizes
 hcl:Zc3 sizes
 hsv:Zbr q.Ze q.Atoms sizes=true
theorem i_merges {m:Zd} {q:Zc} {sizes:List Int} (b:Base m q sizes) {A B M:Int} (hM16:M16 M) (hM:M≠0) (hp:Pair q.Atoms A B M) {E F:List Za} (hE:Held m sizes q.Atoms A E) (hF:Held m sizes q.Atoms B F)
  (sh:List Int) (hl4:sh.length≤1000) (hv:∀ v∈sh,(-1≤v∧v≤3)∧vin q.Atoms A v=true∧vin q.Atoms B v=true)
  (fr:Bool) (table:List (List Za)) (fr1:Bool) (out:List Za) (x x1:List Int) (x3 x4 x5 x6:Int) (r:AV×List Blk) :
  ∀ i,i≤sh.length→∀ a0 a1 a2 a3 a4:Za,(∀ b0 b1 b2 b3 b4,(sh.drop i).foldl (Zev m sizes A B E F) [a0,a1,a2,a3,a4]=[b0,b1,b2,b3,b4] →
   Zdk m q fr table fr1 out m q sizes M b0 b1 b2 b3 b4 (sm b0) (sm b1) (sm b2) (sm b3) (sm b4) x x1 sizes M x3 x4 x5 (w (x6+1))=some r) →
  Zcn m q fr table fr1 out m q sizes M a0 a1 a2 a3 a4 (sm a0) (sm a1) (sm a2) (sm a3) (sm a4) x x1 sh sizes M E F x3 x4 x5 x6 sh.length i=some r:=by
 have pA:=Zct hp.a16
 have pB:=Zct hp.b16
 refine down _ ?_ ?_
 ·intro a0 a1 a2 a3 a4 h
  refine Z2u _ _ _ _ _ _ _ _ _ _ _ _ _ _ _ _ _ _ _ _ _ _ _ _ _ _ _ _ _ _ _ _ _ _ ?_
  rw [if_neg (by omega)]
  exact h _ _ _ _ _ (by simp)
 ·intro i hi ih a0 a1 a2 a3 a4 h
  have h4:=inc64 (i:=i) (by omega)
  have hw:w ((i:Int)+1)=((i+1:Nat):Int):=by rw [show w ((i:Int)+1)=(i:Int)+1 from h4];simp
  rw [List.drop_eq_getElem_cons hi,List.foldl_cons] at h
  obtain ⟨v1,v2,v3⟩:=hv sh[i] (List.getElem_mem hi)
  obtain ⟨k1,k2,k3,k4,k5⟩:=Zhd hE b.hg b.hcl hp.a16 v2
  obtain ⟨j1,j2,j3,j4,j5⟩:=Zhd hF b.hg b.hcl hp.b16 v3
  obtain ⟨b0,b1,b2,b3,b4,t,hJ,ht,hx⟩:=x_offJ m b.hm q b.hq b.hv sizes b.hs b.hsv hM16 hM hp (a:=inp m sizes A E sh[i]) (b:=inp m sizes B F sh[i]) (k:=4) (v:=sh[i]) v1 (by omega) k1 j1 k3 j3 (Z5f v2 v3 rfl rfl) ⟨k5,j5⟩ a0 a1 a2 a3 a4
  rw [show Zev m sizes A B E F [a0,a1,a2,a3,a4] sh[i]=[b0,b1,b2,b3,b4] from hJ] at h
  have ih:=ih b0 b1 b2 b3 b4 h
  refine Z2u _ _ _ _ _ _ _ _ _ _ _ _ _ _ _ _ _ _ _ _ _ _ _ _ _ _ _ _ _ _ _ _ _ _ ?_
  rw [if_pos (by omega)]
  refine ⟨by omega,sh[i],by rw [Int.toNat_natCast];exact List.getElem?_eq_getElem hi,?_⟩
  rw [hw]
  rcases Zu5 m b.hm b.hg q b.hq b.hv sizes b.hs b.hcl b.hsv hp.a16 hE v2 with ha | ha
  ·refine .inl ⟨_,ha,?_⟩
   rcases Zu5 m b.hm b.hg q b.hq b.hv sizes b.hs b.hcl b.hsv hp.b16 hF v3 with hb | hb
   ·refine .inl ⟨_,hb,_,Zkd _ _ _ _ (by omega) (by omega),?_⟩
    rcases ht with rfl | rfl
    ·exact .inl ⟨m,q,sizes,M,b0,b1,b2,b3,b4,_,_,_,_,_,hx,ih⟩
    ·exact .inr ⟨m,q,sizes,M,b0,b1,b2,b3,b4,_,_,_,_,_,_,hx,ih⟩
   ·refine .inr ⟨_,hb,_,Zkd _ ⟨(inp m sizes B F sh[i]).Plan.Steps⟩ _ _ (by omega) (by show (inp m sizes B F sh[i]).Plan.Steps.length≤1000;omega),?_⟩
    rcases ht with rfl | rfl
    ·exact .inl ⟨m,q,sizes,M,b0,b1,b2,b3,b4,_,_,_,_,_,hx,ih⟩
    ·exact .inr ⟨m,q,sizes,M,b0,b1,b2,b3,b4,_,_,_,_,_,_,hx,ih⟩
  ·refine .inr ⟨_,ha,?_⟩
   rcases Zu5 m b.hm b.hg q b.hq b.hv sizes b.hs b.hcl b.hsv hp.b16 hF v3 with hb | hb
   ·refine .inl ⟨_,hb,_,Zkd ⟨(inp m sizes A E sh[i]).Plan.Steps⟩ _ _ _ (by show (inp m sizes A E sh[i]).Plan.Steps.length≤1000;omega) (by omega),?_⟩
    rcases ht with rfl | rfl
    ·exact .inl ⟨m,q,sizes,M,b0,b1,b2,b3,b4,_,_,_,_,_,hx,ih⟩
    ·exact .inr ⟨m,q,sizes,M,b0,b1,b2,b3,b4,_,_,_,_,_,_,hx,ih⟩
   ·refine .inr ⟨_,hb,_,Zkd ⟨(inp m sizes A E sh[i]).Plan.Steps⟩ ⟨(inp m sizes B F sh[i]).Plan.Steps⟩ _ _ (by show (inp m sizes A E sh[i]).Plan.Steps.length≤1000;omega) (by show (inp m sizes B F sh[i]).Plan.Steps.length≤1000;omega),?_⟩
    rcases ht with rfl | rfl
    ·exact .inl ⟨m,q,sizes,M,b0,b1,b2,b3,b4,_,_,_,_,_,hx,ih⟩
    ·exact .inr ⟨m,q,sizes,M,b0,b1,b2,b3,b4,_,_,_,_,_,_,hx,ih⟩
theorem i_nested {m:Zd} {q:Zc} {sizes:List Int} (b:Base m q sizes) {A B M:Int} (hM16:M16 M) (hM:M≠0) (hp:Pair q.Atoms A B M) {E F:List Za} (hE:Held m sizes q.Atoms A E) (hF:Held m sizes q.Atoms B F)
  (sh:List Int) (hsh:Zh5 q A (andNotI M A)=some (.own 0,[.arr 3 1 true (sh.map ic)]))
  (fr:Bool) (table:List (List Za)) (fr1:Bool) (out:List Za) (x x1:List Int) (x3 x4 x5 x6:Int) (r:AV×List Blk) :
  ∀ i,i≤E.length→∀ a0 a1 a2 a3 a4:Za,(∀ b0 b1 b2 b3 b4,(E.drop i).foldl (Zeg m sizes (Zz F)) [a0,a1,a2,a3,a4]=[b0,b1,b2,b3,b4] →
   Zcn m q fr table fr1 out m q sizes M b0 b1 b2 b3 b4 (sm b0) (sm b1) (sm b2) (sm b3) (sm b4) x x1 sh sizes M E F x3 x4 x5 x6 sh.length 0=some r) →
  Zem m q fr table fr1 out m q sizes M a0 a1 a2 a3 a4 (sm a0) (sm a1) (sm a2) (sm a3) (sm a4) (Zz F).Plan x x1 sizes M A E F x3 x4 x5 x6 E E.length i=some r:=by
 have pA:=Zct hp.a16
 have pB:=Zct hp.b16
 have lF:=hF.len _ hF.best
 have hle:=hE.le
 refine down _ ?_ ?_
 ·intro a0 a1 a2 a3 a4 h
  refine Z2t _ _ _ _ _ _ _ _ _ _ _ _ _ _ _ _ _ _ _ _ _ _ _ _ _ _ _ _ _ _ _ _ _ _ _ _ ?_
  rw [if_neg (by omega)]
  exact ⟨sh,hsh,h _ _ _ _ _ (by simp)⟩
 ·intro i hi ih a0 a1 a2 a3 a4 h
  have h4:=inc64 (i:=i) (by omega)
  have hw:w ((i:Int)+1)=((i+1:Nat):Int):=by rw [show w ((i:Int)+1)=(i:Int)+1 from h4];simp
  rw [List.drop_eq_getElem_cons hi,List.foldl_cons] at h
  have hmem:=List.getElem_mem hi
  have lE:=hE.len _ hmem
  obtain ⟨b0,b1,b2,b3,b4,t,hJ,ht,hx⟩:=x_offJ m b.hm q b.hq b.hv sizes b.hs b.hsv hM16 hM hp (a:=E[i]) (b:=Zz F) (k:=5) (v:=0) (hE.ord _ hmem) (by omega) (hE.mask _ hmem) (hF.mask _ hF.best) (hE.makes _ hmem) (hF.makes _ hF.best) nest_p ⟨by omega,by omega⟩ a0 a1 a2 a3 a4
  rw [show Zeg m sizes (Zz F) [a0,a1,a2,a3,a4] E[i]=[b0,b1,b2,b3,b4] from hJ] at h
  have ih:=ih b0 b1 b2 b3 b4 h
  refine Z2t _ _ _ _ _ _ _ _ _ _ _ _ _ _ _ _ _ _ _ _ _ _ _ _ _ _ _ _ _ _ _ _ _ _ _ _ ?_
  rw [if_pos (by omega)]
  refine ⟨by omega,E[i],by rw [Int.toNat_natCast];exact List.getElem?_eq_getElem hi,?_⟩
  rw [hw]
  refine ⟨_,Zkd _ _ _ _ (by omega) (by omega),?_⟩
  rcases ht with rfl | rfl
  ·exact .inl ⟨m,q,sizes,M,b0,b1,b2,b3,b4,_,_,_,_,_,hx,ih⟩
  ·exact .inr ⟨m,q,sizes,M,b0,b1,b2,b3,b4,_,_,_,_,_,_,hx,ih⟩
structure Z5v (m:Zd) (q:Zc) (sizes:List Int) (out:List Za) (table:List (List Za)) (M A:Int) (sh:List Int):Prop where
 ok:Zi6 m sizes q.Atoms out M A sh
 diff:andNotI M A=M - A
 sh:Zh5 q A (andNotI M A)=some (.own 0,[.arr 3 1 true (sh.map ic)])
 tA:table[A.toNat]?=some (ofM out A)
 tB:table[(M - A).toNat]?=some (ofM out (M - A))
theorem i_splits {m:Zd} {q:Zc} {sizes:List Int} (b:Base m q sizes) {M:Int} (hM16:M16 M) (hM:M≠0) (table:List (List Za)) (ht:M.toNat<table.length) (out:List Za) (hout:out.length≤1000) (ps:List (Int×List Int)) (hps:ps.length≤100)
  (ok:∀ p∈ps,Z5v m q sizes out table M p.1 p.2) (fr fr1:Bool) (x:List Int) (x2 x3:Int) (r:AV×List Blk) :
  ∀ i,i≤ps.length→∀ a0 a1 a2 a3 a4:Za,(∀ f1 E,((ps.drop i).foldl (oneJ m sizes M out) [a0,a1,a2,a3,a4]).filter sm=E →
   Zfh m q f1 (table.set M.toNat E) (fr1 && flat (E.map Za.c)) (out++E) x sizes x2 (w (x3+1))=some r) →
  Zdk m q fr table fr1 out m q sizes M a0 a1 a2 a3 a4 (sm a0) (sm a1) (sm a2) (sm a3) (sm a4) x (ps.map Prod.fst) sizes M x2 x3 ps.length i=some r:=by
 refine down _ ?_ ?_
 ·intro a0 a1 a2 a3 a4 h
  refine Z2r _ _ _ _ _ _ _ _ _ _ _ _ _ _ _ _ _ _ _ _ _ _ _ _ _ _ _ _ _ ?_
  rw [if_neg (by omega)]
  obtain ⟨fr',he⟩:=Zbjd m q sizes M a0 a1 a2 a3 a4
  have hl:(there a0 a1 a2 a3 a4).length≤5:=List.length_filter_le _ _
  exact ⟨fr',there a0 a1 a2 a3 a4,he,by omega,_,List.getElem?_eq_getElem ht,by omega,h _ _ (by rw [List.drop_length];rfl)⟩
 ·intro i hi ih a0 a1 a2 a3 a4 h
  have h4:=inc64 (i:=i) (by omega)
  have hw:w ((i:Int)+1)=((i+1:Nat):Int):=by rw [show w ((i:Int)+1)=(i:Int)+1 from h4];simp
  rw [List.drop_eq_getElem_cons hi,List.foldl_cons] at h
  obtain ⟨o,hd,hsh,tA,tB⟩:=ok _ (List.getElem_mem hi)
  have hget:(ps.map Prod.fst)[i]?=some ps[i].1:=by rw [List.getElem?_map,List.getElem?_eq_getElem hi];rfl
  generalize ps[i]=p at *
  obtain ⟨A,sh⟩:=p
  simp only at o hd hsh tA tB hget
  have hp:=o.pair
  have hE:=o.left
  have hF:=o.right
  have pA:=Zct hp.a16
  have pB:=Zct hp.b16
  have lE:=hE.len _ hE.best
  have lF:=hF.len _ hF.best
  have leE:=hE.le
  have leF:=hF.le
  obtain ⟨b0,b1,b2,b3,b4,t,hJ,htt,hx⟩:=x_offJ m b.hm q b.hq b.hv sizes b.hs b.hsv hM16 hM hp (a:=Zz (ofM out A)) (b:=Zz (ofM out (M - A))) (k:=3) (v:=0) (o:=-1) (by omega) (by omega) (hE.mask _ hE.best) (hF.mask _ hF.best) (hE.makes _ hE.best) (hF.makes _ hF.best) hash_p ⟨by omega,by omega⟩ a0 a1 a2 a3 a4
  have hone:oneJ m sizes M out [a0,a1,a2,a3,a4] (A,sh)=sh.foldl (Zev m sizes A (M - A) (ofM out A) (ofM out (M - A))) ((ofM out A).foldl (Zeg m sizes (Zz (ofM out (M - A)))) [b0,b1,b2,b3,b4]):=by
   unfold oneJ Zi5
   rw [← hJ]
  rw [hone] at h
  have hnext:Zem m q fr table fr1 out m q sizes M b0 b1 b2 b3 b4 (sm b0) (sm b1) (sm b2) (sm b3) (sm b4) (Zz (ofM out (M - A))).Plan x (ps.map Prod.fst) sizes M A (ofM out A) (ofM out (M - A)) x2 x3 ps.length i (ofM out A) (ofM out A).length 0=some r:=by
   refine i_nested b hM16 hM hp hE hF sh hsh fr table fr1 out x _ x2 x3 _ _ r 0 (Nat.zero_le _) b0 b1 b2 b3 b4 ?_
   intro c0 c1 c2 c3 c4 hc
   refine i_merges b hM16 hM hp hE hF sh o.len o.vars fr table fr1 out x _ x2 x3 _ _ r 0 (Nat.zero_le _) c0 c1 c2 c3 c4 ?_
   intro d0 d1 d2 d3 d4 hdd
   rw [hw]
   rw [List.drop_zero] at hc hdd
   rw [hc,hdd] at h
   exact ih d0 d1 d2 d3 d4 h
  refine Z2r _ _ _ _ _ _ _ _ _ _ _ _ _ _ _ _ _ _ _ _ _ _ _ _ _ _ _ _ _ ?_
  rw [if_pos (by omega)]
  refine ⟨by omega,A,by rw [Int.toNat_natCast];exact hget,hp.a16.1,_,tA,by rw [hd];exact hp.b16.1,_,by rw [hd];exact tB,_,Zpx _ hF.ne (by omega),_,Zpx _ hE.ne (by omega),_,Zkd _ _ _ _ (by omega) (by omega),?_⟩
  rcases htt with rfl | rfl
  ·exact .inl ⟨m,q,sizes,M,b0,b1,b2,b3,b4,_,_,_,_,_,hx,hnext⟩
  ·exact .inr ⟨m,q,sizes,M,b0,b1,b2,b3,b4,_,_,_,_,_,_,hx,hnext⟩
def Zb4 (q:Zc) (M:Int):List (Int×List Int):=(Zr q.Atoms M).map fun A=>(A,Zee q A (M - A))
def Zhe (m:Zd) (sizes:List Int) (q:Zc) (M a:Int):Za:=⟨M,((q.Atoms[a.toNat]?).map fun x=>x.Vars.headD 0).getD 0,Z8 m.Scan (szAt sizes M) 0 (szAt sizes M),⟨[⟨1,a,0⟩]⟩⟩
def entM (m:Zd) (sizes:List Int) (q:Zc) (out:List Za) (M:Int):List Za:=match Zcj M with
 | [a]=>[Zhe m sizes q M a]
 | _=>(Zkf m sizes M out (Zb4 q M)).filter sm
theorem Z5w:∀ a:Fin 16,(oneB (ofI (a.1:Int))=true→(Zcj (a.1:Int)=[((0:Nat):Int)]∧(a.1:Int)=shlI 1 (0:Nat))∨(Zcj (a.1:Int)=[((1:Nat):Int)]∧(a.1:Int)=shlI 1 (1:Nat))∨(Zcj (a.1:Int)=[((2:Nat):Int)]∧(a.1:Int)=shlI 1 (2:Nat))∨(Zcj (a.1:Int)=[((3:Nat):Int)]∧(a.1:Int)=shlI 1 (3:Nat)))∧(oneB (ofI (a.1:Int))=false→(Zcj (a.1:Int)).length≠1):=by decide
theorem Zve {M:Int} (h:M16 M) (ho:oneB (ofI M)=true):∃ i:Nat,i<4∧Zcj M=[(i:Int)]∧M=shlI 1 i:=by
 obtain ⟨a,rfl⟩:=m16 h
 rcases (Z5w a).1 ho with h | h | h | h
 ·exact ⟨0,by omega,h⟩
 ·exact ⟨1,by omega,h⟩
 ·exact ⟨2,by omega,h⟩
 ·exact ⟨3,by omega,h⟩
theorem Zvf {M:Int} (h:M16 M) (ho:oneB (ofI M)=false):(Zcj M).length≠1:=by
 obtain ⟨a,rfl⟩:=m16 h
 exact (Z5w a).2 ho
theorem Zvg {m:Zd} {sizes:List Int} {q:Zc} {out:List Za} {M a:Int} (h:Zcj M=[a]):entM m sizes q out M=[Zhe m sizes q M a]:=by unfold entM;rw [h]
theorem Zvh {m:Zd} {sizes:List Int} {q:Zc} {out:List Za} {M:Int} (h:(Zcj M).length≠1):entM m sizes q out M=(Zkf m sizes M out (Zb4 q M)).filter sm:=by
 unfold entM
 split
 ·rename_i a e;rw [e] at h;simp at h
 ·rfl
theorem Zvi {m:Zd} {sizes:List Int} {a b:Za} {k v o:Int} (ho:-1≤o∧o≤3) (hM:orI a.Mask b.Mask≠0) {mine:List Za} (h5:mine.length=5):(offJ m sizes a b k v o mine).filter sm≠[]:=by
 refine List.ne_nil_of_mem (a:=offE ((mine[(o+1).toNat]?).getD zE) (orI a.Mask b.Mask) o (jc m sizes a b k) (Zbs a.Plan.Steps b.Plan.Steps k v)) (List.mem_filter.2 ⟨?_,sm_off hM⟩)
 unfold offJ
 exact List.mem_set (by omega) _
theorem Z5x {m:Zd} {sizes:List Int} {b:Za}:∀ {E mine:List Za},(∀ e∈E,(-1≤e.Order∧e.Order≤3)∧orI e.Mask b.Mask≠0)→mine.length=5→mine.filter sm≠[]→(E.foldl (Zeg m sizes b) mine).filter sm≠[]
 | [],_,_,_,h=>h
 | e::E,mine,he,h5,h=>by
  rw [List.foldl_cons]
  obtain ⟨e1,e2⟩:=he e (by simp)
  exact Z5x (fun x hx=>he x (by simp [hx])) (by rw [show (Zeg m sizes b mine e).length=mine.length from Zds];exact h5) (Zvi e1 e2 h5)
theorem Z5y {m:Zd} {sizes:List Int} {A B:Int} {E F:List Za}:∀ {sh:List Int} {mine:List Za},(∀ v∈sh,(-1≤v∧v≤3)∧orI (inp m sizes A E v).Mask (inp m sizes B F v).Mask≠0)→mine.length=5→mine.filter sm≠[]→(sh.foldl (Zev m sizes A B E F) mine).filter sm≠[]
 | [],_,_,_,h=>h
 | v::sh,mine,he,h5,h=>by
  rw [List.foldl_cons]
  obtain ⟨e1,e2⟩:=he v (by simp)
  exact Z5y (fun x hx=>he x (by simp [hx])) (by rw [show (Zev m sizes A B E F mine v).length=mine.length from Zds];exact h5) (Zvi e1 e2 h5)
theorem one_some {m:Zd} {sizes:List Int} {qa:List Atom} {M:Int} {l:List Za} {p:Int×List Int} (hM:M≠0) (hg:Zbd m.Sort_) (hcl:Zc3 sizes) (o:Zi6 m sizes qa l M p.1 p.2) {mine:List Za} (h5:mine.length=5):(oneJ m sizes M l mine p).filter sm≠[]:=by
 have hp:=o.pair
 unfold oneJ Zi5
 refine Z5y (fun v hv=>⟨(o.vars v hv).1,?_⟩) (by rw [Zp0,Zds];exact h5) (Z5x (fun e he=>⟨o.left.ord e he,?_⟩) (by rw [Zds];exact h5) (Zvi (by omega) ?_ h5))
 ·rw [(Zhd o.left hg hcl hp.a16 (o.vars v hv).2.1).1,(Zhd o.right hg hcl hp.b16 (o.vars v hv).2.2).1,hp.or];exact hM
 ·rw [o.left.mask e he,o.right.mask _ o.right.best,hp.or];exact hM
 ·rw [o.left.mask _ o.left.best,o.right.mask _ o.right.best,hp.or];exact hM
theorem Z5z {m:Zd} {sizes:List Int} {qa:List Atom} {M:Int} {l:List Za} (hM:M≠0) (hg:Zbd m.Sort_) (hcl:Zc3 sizes):∀ {ps:List (Int×List Int)} {mine:List Za},(∀ p∈ps,Zi6 m sizes qa l M p.1 p.2)→mine.length=5→(ps≠[]∨mine.filter sm≠[])→(ps.foldl (oneJ m sizes M l) mine).filter sm≠[]
 | [],_,_,_,h=>by rcases h with h | h;exact absurd rfl h;exact h
 | p::ps,mine,hp,h5,_=>by
  rw [List.foldl_cons]
  exact Z5z hM hg hcl (fun x hx=>hp x (by simp [hx])) (by rw [show (oneJ m sizes M l mine p).length=mine.length from Z5r];exact h5) (.inr (one_some hM hg hcl (hp p (by simp)) h5))
structure Inv (m:Zd) (sizes:List Int) (q:Zc) (done:List Int) (out:List Za):Prop where
 held:∀ M∈done,Held m sizes q.Atoms M (ofM out M)
 only:∀ e∈out,e.Mask∈done
 len:out.length≤5*done.length
theorem Zbjv {q:Zc} (hv:Zn q.Ze q.Atoms=true) {A B:Int}:∀ v∈Zee q A B,(-1≤v∧v≤3)∧vin q.Atoms A v=true∧vin q.Atoms B v=true:=by
 intro v hvm
 unfold Zee at hvm
 rw [List.mem_filter] at hvm
 obtain ⟨h1,h2⟩:=hvm
 rw [Zfz] at h2
 have key:∀ m,v∈Zc2 q m→(0≤v∧v≤3)∧vin q.Atoms m v=true:=by
  intro m hm
  unfold Zc2 varL at hm
  rw [List.mem_map] at hm
  obtain ⟨u,hu,rfl⟩:=hm
  rw [List.mem_filter,List.mem_range] at hu
  have hn:=Zde hv
  refine ⟨by omega,?_⟩
  unfold vin
  rw [Bool.and_eq_true]
  exact ⟨by simp [inR];omega,by rw [Int.toNat_natCast];exact hu.2⟩
 obtain ⟨k1,k2⟩:=key A h1
 obtain ⟨k3,k4⟩:=key B h2
 exact ⟨by omega,k2,k4⟩
theorem Zbjw {q:Zc} (hv:Zn q.Ze q.Atoms=true) (A B:Int):(Zee q A B).length≤1000:=by
 have:=Znc q hv A
 unfold Zee
 have:=List.length_filter_le (has (Zc2 q B)) (Zc2 q A)
 omega
theorem Zbg {q:Zc} {sizes:List Int} (hsv:Zbr q.Ze q.Atoms sizes=true) {M:Int} (h:MQ q.Atoms M):SzOk sizes M:=by
 unfold Zbr at hsv
 simp only [Bool.and_eq_true,decide_eq_true_eq] at hsv
 have hf:=Zec hsv.1.1
 have h1:=h.1
 have h2:=h.2
 have hl:M.toNat<sizes.length:=by omega
 refine ⟨h1,?_⟩
 unfold szAt
 rw [List.getElem?_eq_getElem hl];rfl
theorem Zvj {qa:List Atom} {M A:Int} (hM:MQ qa M) (h:A∈Zr qa M):MQ qa A∧MQ qa (M - A):=by
 obtain ⟨h1,h2,_⟩:=Znh h
 have:=hM.2
 exact ⟨⟨by omega,by omega⟩,⟨by omega,by omega⟩⟩
theorem Zvk {m:Zd} {q:Zc} {sizes:List Int} (b:Base m q sizes) {done:List Int} {out:List Za} (hi:Inv m sizes q done out) {M:Int} (hM:MQ q.Atoms M) (hc:conn q.Atoms M=true) (hd:∀ A∈Zr q.Atoms M,A∈done∧M - A∈done):∀ p∈Zb4 q M,Zi6 m sizes q.Atoms out M p.1 p.2:=by
 intro p hp
 unfold Zb4 at hp
 rw [List.mem_map] at hp
 obtain ⟨A,hA,rfl⟩:=hp
 obtain ⟨d1,d2⟩:=hd A hA
 obtain ⟨q1,q2⟩:=Zvj hM hA
 exact ⟨Zbju b.hv hM hc hA,hi.held A d1,hi.held _ d2,Zbg b.hsv q1,Zbg b.hsv q2,Zbjw b.hv _ _,Zbjv b.hv⟩
theorem Zvl {m:Zd} {q:Zc} {sizes:List Int} (b:Base m q sizes) {done:List Int} {out:List Za} (hi:Inv m sizes q done out) {M:Int} (hM:MQ q.Atoms M) (h0:M≠0) (hc:conn q.Atoms M=true) (hd:∀ A∈Zr q.Atoms M,A∈done∧M - A∈done):Held m sizes q.Atoms M (entM m sizes q out M):=by
 have h16:=(hM.m16 b.hv).1
 cases ho:oneB (ofI M) with
 | true =>
  obtain ⟨i,hi4,ha,rfl⟩:=Zve h16 ho
  rw [Zvg ha]
  have hl:i<q.Atoms.length:=by
   have h2:=hM.2
   have hl4:=Zbu b.hv
   have e:shlI 1 (i:Nat)=2 ^ i:=by
    have:i=0∨i=1∨i=2∨i=3:=by omega
    rcases this with rfl | rfl | rfl | rfl <;> decide
   rw [e] at h2
   have h3:(2:Int) ^ i<2 ^ q.Atoms.length:=h2
   rw [← Zed,← Zed] at h3
   have h4:2 ^ i<2 ^ q.Atoms.length:=by omega
   exact (Nat.pow_lt_pow_iff_right (by omega)).1 h4
  have hmk:=Zbjc (m:=m) (sizes:=sizes) hl
  have hu:=Zke m.Scan (szAt sizes (shlI 1 i)) 0 (szAt sizes (shlI 1 i))
  rw [w_id (by omega) (by omega)] at hmk
  have hvar:=Zjf b.hv _ (List.getElem_mem hl)
  have he:Zhe m sizes q (shlI 1 i) (i:Int)=⟨shlI 1 i,q.Atoms[i].Vars.headD 0,Z8 m.Scan (szAt sizes (shlI 1 i)) 0 (szAt sizes (shlI 1 i)),⟨[⟨1,i,0⟩]⟩⟩:=by
   simp [Zhe,List.getElem?_eq_getElem hl]
  have hpop:popc (shlI 1 (i:Nat))=1:=by
   have:i=0∨i=1∨i=2∨i=3:=by omega
   rcases this with rfl | rfl | rfl | rfl <;> decide
  have hord:0≤q.Atoms[i].Vars.headD 0∧q.Atoms[i].Vars.headD 0≤3:=by
   cases hvs:q.Atoms[i].Vars with
   | nil=>rw [hvs] at hvar;simp at hvar
   | cons v vs =>
    have:=Zn1 b.hv _ (List.getElem_mem hl) v (by rw [hvs];simp)
    have hn:=Zde b.hv
    simp [inR] at this
    simp only [List.headD_cons]
    omega
  rw [he]
  refine ⟨by simp,by simp,?_,?_,?_,?_⟩
  ·intro e hm;rw [List.mem_singleton.1 hm]
  ·intro e hm;rw [List.mem_singleton.1 hm];exact ⟨by show -1≤q.Atoms[i].Vars.headD 0;omega,hord.2⟩
  ·intro e hm;rw [List.mem_singleton.1 hm];exact hmk
  ·intro e hm;rw [List.mem_singleton.1 hm];simp [hpop]
 | false =>
  rw [Zvh (Zvf h16 ho)]
  have ok:=Zvk b hi hM hc hd
  have hne:=split_ne b.hv hM h0 hc ho
  refine Zbjm (Zvc b.hg b.hcl ok (Z5s m sizes q.Atoms M)) (Z5z h0 b.hg b.hcl ok (by simp) (.inl ?_))
  unfold Zb4
  intro hh
  exact hne (List.map_eq_nil_iff.1 hh)
theorem Z50 (a b:List Za) (M:Int):ofM (a++b) M=ofM a M++ofM b M:=by simp [ofM]
theorem ofM_all {l:List Za} {M:Int} (h:∀ e∈l,e.Mask=M):ofM l M=l:=by
 unfold ofM
 rw [List.filter_eq_self]
 intro e he
 simp [h e he]
theorem ofM_no {l:List Za} {M:Int} (h:∀ e∈l,e.Mask≠M):ofM l M=[]:=by
 unfold ofM
 rw [List.filter_eq_nil_iff]
 intro e he
 simp [h e he]
theorem Z51 {m:Zd} {q:Zc} {sizes:List Int} (b:Base m q sizes) {done:List Int} {out:List Za} (hi:Inv m sizes q done out) {M:Int} (hM:MQ q.Atoms M) (h0:M≠0) (hc:conn q.Atoms M=true) (hd:∀ A∈Zr q.Atoms M,A∈done∧M - A∈done) (hn:M ∉ done) :
  Inv m sizes q (done++[M]) (out++entM m sizes q out M)∧(∀ A∈done,ofM (out++entM m sizes q out M) A=ofM out A)∧ofM (out++entM m sizes q out M) M=entM m sizes q out M:=by
 have hh:=Zvl b hi hM h0 hc hd
 have e1:∀ A∈done,ofM (out++entM m sizes q out M) A=ofM out A:=by
  intro A hA
  rw [Z50,ofM_no (l:=entM m sizes q out M),List.append_nil]
  intro e he
  rw [hh.mask e he]
  intro h
  exact hn (h ▸ hA)
 have e2:ofM (out++entM m sizes q out M) M=entM m sizes q out M:=by
  rw [Z50,ofM_all hh.mask,ofM_no (l:=out),List.nil_append]
  intro e he h
  exact hn (h ▸ hi.only e he)
 refine ⟨⟨?_,?_,?_⟩,e1,e2⟩
 ·intro A hA
  rcases List.mem_append.1 hA with hA | hA
  ·rw [e1 A hA];exact hi.held A hA
  ·simp at hA;subst hA;rw [e2];exact hh
 ·intro e he
  rcases List.mem_append.1 he with he | he
  ·exact List.mem_append_left _ (hi.only e he)
  ·rw [hh.mask e he];simp
 ·have:=hh.le
  have:=hi.len
  simp only [List.length_append,List.length_cons,List.length_nil]
  omega
theorem Zi7 {qa:List Atom} {M:Int}:M∈Zo qa↔1≤M∧M<2 ^ qa.length∧conn qa M=true:=by
 unfold Zo Zdp
 rw [List.mem_map]
 have hp:=Zed qa.length
 constructor
 ·rintro ⟨k,hk,rfl⟩
  rw [List.mem_filter,List.mem_range'_1] at hk
  exact ⟨by omega,by omega,hk.2⟩
 ·rintro ⟨h1,h2,h3⟩
  refine ⟨M.toNat,?_,by omega⟩
  rw [List.mem_filter,List.mem_range'_1]
  have e:((M.toNat:Nat):Int)=M:=by omega
  exact ⟨by omega,by rw [e];exact h3⟩
theorem Zni (qa:List Atom):(Zo qa).Pairwise (·<·):=by
 unfold Zo Zdp
 rw [List.pairwise_map]
 refine List.Pairwise.filter _ ?_
 refine (List.pairwise_lt_range' (s:=1) (n:=2 ^ qa.length - 1)).imp ?_
 intro a b h
 omega
theorem Zp1 {n:Int} {qa:List Atom} (hv:Zn n qa=true):(Zo qa).length≤15:=by
 have h16:2 ^ qa.length≤16:=Nat.pow_le_pow_right (by omega:0<2) (Zbu hv).2
 have:=Zbic (qa:=qa) (k:=1) (n:=2 ^ qa.length - 1)
 unfold Zo
 omega
theorem Z52 {Ms:List Int} (hu:Ms.Pairwise (·<·)) {i:Nat} (hi:i<Ms.length) {A:Int} (hA:A∈Ms) (h:A<Ms[i]):A∈Ms.take i:=by
 obtain ⟨j,hj,rfl⟩:=List.mem_iff_getElem.1 hA
 rw [List.pairwise_iff_getElem] at hu
 have hji:j<i:=by
  rcases Nat.lt_trichotomy j i with q | rfl | q
  ·exact q
  ·omega
  ·have:=hu i j hi hj q;omega
 rw [List.mem_take_iff_getElem]
 exact ⟨j,by omega,rfl⟩
theorem Zvm {Ms:List Int} (hu:Ms.Pairwise (·<·)) {i:Nat} (hi:i<Ms.length):Ms[i] ∉ Ms.take i:=by
 intro h
 rw [List.mem_take_iff_getElem] at h
 obtain ⟨j,hj,e⟩:=h
 rw [List.pairwise_iff_getElem] at hu
 have:=hu j i (by omega) hi (by omega)
 omega
def Z2 (m:Zd) (sizes:List Int) (q:Zc):Nat→List Za
 | 0=>[]
 | i+1=>Z2 m sizes q i++entM m sizes q (Z2 m sizes q i) ((Zo q.Atoms).getD i 0)
theorem Zkg {q:Zc} {i:Nat} (hi:i<(Zo q.Atoms).length):MQ q.Atoms (Zo q.Atoms)[i]∧(Zo q.Atoms)[i]≠0∧conn q.Atoms (Zo q.Atoms)[i]=true∧∀ A∈Zr q.Atoms (Zo q.Atoms)[i],A∈(Zo q.Atoms).take i∧(Zo q.Atoms)[i] - A∈(Zo q.Atoms).take i:=by
 obtain ⟨h1,h2,h3⟩:=Zi7.1 (List.getElem_mem hi)
 refine ⟨⟨by omega,h2⟩,by omega,h3,?_⟩
 intro A hA
 obtain ⟨a1,a2,a3,a4,a5⟩:=Znh hA
 exact ⟨Z52 (Zni _) hi (Zi7.2 ⟨a1,by omega,a4⟩) a2,Z52 (Zni _) hi (Zi7.2 ⟨by omega,by omega,a5⟩) (by omega)⟩
theorem Zkh {m:Zd} {q:Zc} {sizes:List Int} (b:Base m q sizes):∀ i,i≤(Zo q.Atoms).length→Inv m sizes q ((Zo q.Atoms).take i) (Z2 m sizes q i)
 | 0,_=>⟨by simp,by simp [Z2],by simp [Z2]⟩
 | i+1,h=>by
  have hi:i<(Zo q.Atoms).length:=by omega
  obtain ⟨c1,c2,c3,c4⟩:=Zkg hi
  have:=(Z51 b (Zkh b i (by omega)) c1 c2 c3 c4 (Zvm (Zni _) hi)).1
  rw [Z2,List.take_succ_eq_append_getElem hi]
  have e:(Zo q.Atoms).getD i 0=(Zo q.Atoms)[i]:=by simp [List.getD,hi]
  rw [e]
  exact this
theorem Znj {m:Zd} {q:Zc} {sizes:List Int} (b:Base m q sizes) {i:Nat} (hi:i≤(Zo q.Atoms).length):(Z2 m sizes q i).length≤75:=by
 have h1:=(Zkh b i hi).len
 have h2:=Zp1 b.hv
 rw [List.length_take] at h1
 omega
theorem Zbjx {M v c:Int} {x:List Zb} (hM:M≠0) (hv:0≤v∧v≤3):[offK 0 zE M v c x,offK 1 zE M v c x,offK 2 zE M v c x,offK 3 zE M v c x,offK 4 zE M v c x].filter sm=[⟨M,v,c,⟨x⟩⟩]:=by
 have h:v=0∨v=1∨v=2∨v=3:=by omega
 rcases h with rfl | rfl | rfl | rfl <;> simp [offK,offE,sm,zE,hM]
theorem Zbjy:∀ (i:Fin 4) (a:Fin 16),1≤a.1→(a.1:Int)<shlI 1 (i.1:Nat)→andI (a.1:Int) (shlI 1 (i.1:Nat))≠a.1:=by decide
theorem Zbjz {qa:List Atom} {i:Nat} (hi:i<4):Zr qa (shlI 1 i)=[]:=by
 cases h:Zr qa (shlI 1 i) with
 | nil=>rfl
 | cons A l =>
  exfalso
  obtain ⟨h1,h2,h3,_⟩:=Znh (qa:=qa) (M:=shlI 1 i) (A:=A) (by rw [h];simp)
  have h16:M16 (shlI 1 (i:Nat)):=(f_shl ⟨i,hi⟩ ⟨0,by omega⟩).2
  obtain ⟨a,rfl⟩:=m16 (x:=A) (by omega)
  exact Zbjy ⟨i,hi⟩ a (by omega) h2 h3
theorem flat_ne {E:List Za} (h:E≠[]):flat (E.map Za.c)=false:=by
 cases E with
 | nil=>exact absurd rfl h
 | cons e E=>simp [flat,Za.c,scalar]
theorem Zbj0 {qa:List Atom} {n:Int} (hv:Zn n qa=true) {M A:Int} (hM:MQ qa M) (h:A∈Zr qa M):andNotI M A=M - A:=by
 obtain ⟨h1,h2,h3,_⟩:=Znh h
 have h16:=(hM.m16 hv).1
 obtain ⟨a,rfl⟩:=m16 (x:=A) (by omega)
 obtain ⟨b,rfl⟩:=m16 h16
 exact (f_diff a b h3).1
theorem l_copyT (fr:Bool) (out:List Za) (hl:out.length≤1000) (hs:∀ e∈out,e.Plan.Steps.length≤1000):∀ i,i≤out.length→Zh8 fr out out.length i=some (.own 0,[.arr 174 4 fr (out.map Za.c)]):=by
 refine down _ ?_ ?_
 ·refine Z2s _ _ _ _ _ ?_
  rw [if_neg (by omega)]
 ·intro i hi ih
  have h4:=inc64 (i:=i) (by omega)
  have hw:w ((i:Int)+1)=((i+1:Nat):Int):=by rw [show w ((i:Int)+1)=(i:Int)+1 from h4];simp
  refine Z2s _ _ _ _ _ ?_
  rw [if_pos (by omega),hw]
  refine ⟨by omega,out[i],by rw [Int.toNat_natCast];exact List.getElem?_eq_getElem hi,_,Zpu _ (hs _ (List.getElem_mem hi)),?_⟩
  rw [Int.toNat_natCast]
  have:out.set i (⟨out[i].Mask,out[i].Order,out[i].Cost,(⟨out[i].Plan.Steps⟩:Plan)⟩:Za)=out:=Zng (List.getElem?_eq_getElem hi)
  rw [this]
  exact ih
theorem Inv.steps {m:Zd} {q:Zc} {sizes:List Int} {done:List Int} {out:List Za} (h:Inv m sizes q done out) (h16:∀ M∈done,M16 M):∀ e∈out,e.Plan.Steps.length≤1000:=by
 intro e he
 have hd:=h.only e he
 have hh:=(h.held _ hd).len e (List.mem_filter.2 ⟨he,by simp⟩)
 have:=Zct (h16 _ hd)
 omega
theorem conn_16 {n:Int} {qa:List Atom} (hv:Zn n qa=true):∀ M∈Zo qa,M16 M:=by
 intro M hM
 obtain ⟨h1,h2,_⟩:=Zi7.1 hM
 exact (MQ.m16 hv ⟨by omega,h2⟩).1
theorem Zvn {m:Zd} {q:Zc} {sizes:List Int} (b:Base m q sizes) {i:Nat} (hi:i≤(Zo q.Atoms).length):∀ e∈Z2 m sizes q i,e.Plan.Steps.length≤1000 :=
 (Zkh b i hi).steps fun M hM=>conn_16 b.hv M (List.mem_of_mem_take hM)
theorem i_table {m:Zd} {q:Zc} {sizes:List Int} (b:Base m q sizes):∀ i,i≤(Zo q.Atoms).length→∀ (table:List (List Za)) (fr fr1:Bool),table.length=2 ^ q.Atoms.length→(∀ M∈(Zo q.Atoms).take i,table[M.toNat]?=some (ofM (Z2 m sizes q i) M))→(i=(Zo q.Atoms).length→fr1=false) →
  Zfh m q fr table fr1 (Z2 m sizes q i) (Zo q.Atoms) sizes (Zo q.Atoms).length i=some (.own 0,[.arr 174 4 false ((Z2 m sizes q (Zo q.Atoms).length).map Za.c)]):=by
 have hcl:=Zp1 b.hv
 refine down _ ?_ ?_
 ·intro table fr fr1 _ _ hf
  rw [hf rfl]
  refine Z2q _ _ _ _ _ _ _ _ _ _ _ ?_
  rw [if_neg (by omega)]
  exact l_copyT false _ (by have:=Znj b (Nat.le_refl (Zo q.Atoms).length);omega) (Zvn b (Nat.le_refl _)) 0 (Nat.zero_le _)
 ·intro i hi ih table fr fr1 htl hT hf
  have h4:=inc64 (i:=i) (by omega)
  have hw:w ((i:Int)+1)=((i+1:Nat):Int):=by rw [show w ((i:Int)+1)=(i:Int)+1 from h4];simp
  obtain ⟨c1,c2,c3,c4⟩:=Zkg hi
  have hinv:=Zkh b i (by omega)
  have hstep:=Z51 b hinv c1 c2 c3 c4 (Zvm (Zni _) hi)
  have hheld:=Zvl b hinv c1 c2 c3 c4
  have hnext:Z2 m sizes q (i+1)=Z2 m sizes q i++entM m sizes q (Z2 m sizes q i) (Zo q.Atoms)[i]:=by
   rw [Z2]
   congr 2
   simp [List.getD,hi]
  have hlen:=Znj b (i:=i) (by omega)
  have h16:=(c1.m16 b.hv).1
  have hpw:=Zed q.Atoms.length
  have hMt:(Zo q.Atoms)[i].toNat<table.length:=by have:=c1.1;have:=c1.2;omega
  have key:∀ f1 E,E=entM m sizes q (Z2 m sizes q i) (Zo q.Atoms)[i]→Zfh m q f1 (table.set (Zo q.Atoms)[i].toNat E) (fr1 && flat (E.map Za.c)) (Z2 m sizes q i++E) (Zo q.Atoms) sizes (Zo q.Atoms).length (w ((i:Int)+1))=some (.own 0,[.arr 174 4 false ((Z2 m sizes q (Zo q.Atoms).length).map Za.c)]):=by
   intro f1 E hE
   subst hE
   rw [hw,flat_ne hheld.ne,Bool.and_false,← hnext]
   refine ih _ _ _ (by rw [List.length_set];exact htl) ?_ (fun _=>rfl)
   intro A hA
   rw [List.take_succ_eq_append_getElem hi] at hA
   rcases List.mem_append.1 hA with hA | hA
   ·have hne:A≠(Zo q.Atoms)[i]:=fun h=>Zvm (Zni _) hi (h ▸ hA)
    have hA0:=(Zi7.1 (List.mem_of_mem_take hA)).1
    have:=c1.1
    rw [List.getElem?_set_ne (by omega),hT A hA,hnext,hstep.2.1 A hA]
   ·rw [List.mem_singleton.1 hA,List.getElem?_set_self hMt,hnext,hstep.2.2]
  have hget:(Zo q.Atoms)[i]?=some (Zo q.Atoms)[i]:=List.getElem?_eq_getElem hi
  generalize (Zo q.Atoms)[i]=M at *
  have hic:Zbx q.Ze q.Atoms M=true:=by
   unfold Zbx
   rw [b.hv,c3,Zec b.hv]
   have h1:=c1.1
   have h2:=c1.2
   simp [inR,c2,h1]
   omega
  have e1:(Zb4 q M).map Prod.fst=Zr q.Atoms M:=by
   unfold Zb4
   rw [List.map_map]
   exact List.map_id _
  have e2:(Zb4 q M).length=(Zr q.Atoms M).length:=by unfold Zb4;rw [List.length_map]
  have hps:(Zb4 q M).length≤100:=by rw [e2];have:=Zvd (qa:=q.Atoms) h16;omega
  have hok:∀ p∈Zb4 q M,Z5v m q sizes (Z2 m sizes q i) table M p.1 p.2:=by
   intro p hp
   have o:=Zvk b hinv c1 c3 c4 p hp
   unfold Zb4 at hp
   rw [List.mem_map] at hp
   obtain ⟨A,hA,rfl⟩:=hp
   have hd:=Zbj0 b.hv c1 hA
   obtain ⟨q1,q2⟩:=Zvj c1 hA
   refine ⟨o,hd,?_,hT A (c4 A hA).1,hT _ (c4 A hA).2⟩
   rw [hd]
   exact Zbi2 q b.hq b.hv A (M - A) q1 q2
  have hgo:∀ a0 a1 a2 a3 a4:Za,((Zb4 q M).foldl (oneJ m sizes M (Z2 m sizes q i)) [a0,a1,a2,a3,a4]).filter sm=entM m sizes q (Z2 m sizes q i) M →
    Zdk m q fr table fr1 (Z2 m sizes q i) m q sizes M a0 a1 a2 a3 a4 (sm a0) (sm a1) (sm a2) (sm a3) (sm a4) (Zo q.Atoms) (Zr q.Atoms M) sizes M (Zo q.Atoms).length i (Zr q.Atoms M).length 0=some (.own 0,[.arr 174 4 false ((Z2 m sizes q (Zo q.Atoms).length).map Za.c)]):=by
   intro a0 a1 a2 a3 a4 hE
   have:=i_splits b h16 c2 table hMt (Z2 m sizes q i) (by omega) (Zb4 q M) hps hok fr fr1 (Zo q.Atoms) (Zo q.Atoms).length i _ 0 (Nat.zero_le _) a0 a1 a2 a3 a4 (fun f1 E h=>key f1 E (by rw [List.drop_zero,hE] at h;exact h.symm))
   rw [e1,e2] at this
   exact this
  refine Z2q _ _ _ _ _ _ _ _ _ _ _ ?_
  rw [if_pos (by omega)]
  refine ⟨by omega,M,by rw [Int.toNat_natCast];exact hget,.inr ⟨Zcj M,Zbil h16,?_⟩⟩
  cases ho:oneB (ofI M) with
  | true =>
   obtain ⟨j,hj4,ha,hMj⟩:=Zve h16 ho
   have hent:=Zvg (m:=m) (sizes:=sizes) (q:=q) (out:=Z2 m sizes q i) ha
   have hE:=hheld
   rw [hent] at hE
   have hlen1:=hE.len _ (List.mem_singleton.2 rfl)
   have hmk:=hE.makes _ (List.mem_singleton.2 rfl)
   have hod:=hE.ord _ (List.mem_singleton.2 rfl)
   have hjl:j<q.Atoms.length:=by
    have h2:=c1.2
    have e:shlI 1 (j:Nat)=2 ^ j:=by
     have:j=0∨j=1∨j=2∨j=3:=by omega
     rcases this with rfl | rfl | rfl | rfl <;> decide
    rw [hMj,e] at h2
    have h3:(2:Int) ^ j<2 ^ q.Atoms.length:=h2
    rw [← Zed,← Zed] at h3
    exact (Nat.pow_lt_pow_iff_right (by omega)).1 (by omega:2 ^ j<2 ^ q.Atoms.length)
   have hvar:=Zjf b.hv _ (List.getElem_mem hjl)
   obtain ⟨v,vs,hvs⟩:∃ v vs,q.Atoms[j].Vars=v::vs:=by
    cases hh:q.Atoms[j].Vars with
    | nil=>rw [hh] at hvar;simp at hvar
    | cons v vs=>exact ⟨v,vs,rfl⟩
   have hv3:0≤v∧v≤3:=by
    have:=Zn1 b.hv _ (List.getElem_mem hjl) v (by rw [hvs];simp)
    have hn:=Zde b.hv
    simp [inR] at this
    omega
   have hse:Zhe m sizes q M (j:Int)=⟨M,v,Z8 m.Scan (szAt sizes M) 0 (szAt sizes M),⟨[⟨1,j,0⟩]⟩⟩:=by
    simp [Zhe,List.getElem?_eq_getElem hjl,hvs]
   rw [hse] at hmk
   have hcost:=Z5.cost hmk b.hv (by simp) b.hsv
   obtain ⟨t,ht,hx⟩:=Z5g m b.hm q b.hq sizes b.hs M c2 zE zE zE zE zE [⟨1,j,0⟩] v (by omega) _ hcost
   rw [show sm zE=false from rfl] at hx
   have hnx:=hgo _ _ _ _ _ (by
    have hsp:Zb4 q M=[]:=by unfold Zb4;rw [hMj,Zbjz hj4];rfl
    rw [hsp,List.foldl_nil,hent,hse]
    exact Zbjx (c:=Z8 m.Scan (szAt sizes M) 0 (szAt sizes M)) (x:=[⟨1,j,0⟩]) c2 hv3)
   rw [ha,if_pos (by simp)]
   refine ⟨(j:Int),rfl,_,Zbi5 _,by omega,q.Atoms[j],by rw [Int.toNat_natCast];exact List.getElem?_eq_getElem hjl,v,by rw [hvs];rfl,?_⟩
   rcases ht with rfl | rfl
   ·exact .inl ⟨m,q,sizes,M,_,_,_,_,_,_,_,_,_,_,hx,.inr ⟨_,Zuy q b.hq M hic,hnx⟩⟩
   ·exact .inr ⟨m,q,sizes,M,_,_,_,_,_,_,_,_,_,_,_,hx,.inr ⟨_,Zuy q b.hq M hic,hnx⟩⟩
  | false =>
   have hne:=Zvf h16 ho
   rw [if_neg (by omega)]
   have hnx:=hgo zE zE zE zE zE (by rw [Zvh hne];rfl)
   rw [show sm zE=false from rfl] at hnx
   exact .inr ⟨_,Zuy q b.hq M hic,hnx⟩
theorem Zbj1 {m:Zd} {q:Zc} {sizes:List Int} (b:Base m q sizes) (ha:Zc0 m):Zjp m q sizes=some (.own 0,[.arr 174 4 false ((Z2 m sizes q (Zo q.Atoms).length).map Za.c)]):=by
 have hf:=Zec b.hv
 have hpw:=Zed q.Atoms.length
 have h16:2 ^ q.Atoms.length≤16:=Nat.pow_le_pow_right (by omega:0<2) (Zbu b.hv).2
 have hp1:1≤2 ^ q.Atoms.length:=Nat.one_le_two_pow
 have e1:w (Zw q.Ze q.Atoms+1)=2 ^ q.Atoms.length:=by rw [w_id (by omega) (by omega)];omega
 have hr:room=140737488355328:=rfl
 refine Zbe0 _ _ _ _ ⟨_,Z4h m b.hm,?_⟩
 rw [if_pos (by simpa using ha)]
 refine ⟨_,Z4w q b.hq sizes b.hs,?_⟩
 rw [if_pos b.hsv]
 refine ⟨_,Zg8 q b.hq,?_⟩
 rw [e1]
 have e2:((2:Int) ^ q.Atoms.length).toNat=2 ^ q.Atoms.length:=by omega
 rw [e2]
 refine ⟨by omega,by omega,by rw [hr];omega,by omega,_,Zbie q b.hq b.hv,?_⟩
 refine i_table b 0 (Nat.zero_le _) _ true true (by simp) (by simp) ?_
 intro h
 exfalso
 have:(1:Int)∈Zo q.Atoms:=by
  refine Zi7.2 ⟨by omega,?_,?_⟩
  ·have:2 ^ 1≤2 ^ q.Atoms.length:=Nat.pow_le_pow_right (by omega) (Zbu b.hv).1
   omega
  ·have h1:=Zne b.hv (true,false,false,false)
   rw [show toI (true,false,false,false)=1 from rfl] at h1
   rw [h1]
   have key:∀ a b c d e f:Bool,∀ n:Fin 5,Zb2 ⟨a,b,c,d,e,f⟩ n.1 (true,false,false,false)=true:=by decide
   exact key _ _ _ _ _ _ ⟨q.Atoms.length,by have:=(Zbu b.hv).2;omega⟩
 rw [List.length_eq_zero_iff.1 h.symm] at this
 cases this
def shOf (q:Zc) (M:Int):List (List Int):=(Zr q.Atoms M).map fun A=>Zee q A (M - A)
def Zcu (q:Zc) (M:Int):Zv:=⟨M,Zr q.Atoms M,shOf q M⟩
def shapes (q:Zc):List Zv:=(Zo q.Atoms).map (Zcu q)
theorem Zbj2 {q:Zc} (hv:Zn q.Ze q.Atoms=true) {M:Int} (c1:MQ q.Atoms M) (c2:M≠0) (c3:conn q.Atoms M=true):Zbx q.Ze q.Atoms M=true:=by
 unfold Zbx
 rw [hv,c3,Zec hv]
 have h1:=c1.1
 have h2:=c1.2
 simp [inR,c2,h1]
 omega
section
variable (q:Zc) (hq:LeQ q) (hv:Zn q.Ze q.Atoms=true)
include hq hv
theorem Z53 {M:Int} (hM:MQ q.Atoms M) {A:Int} (hA:A∈Zr q.Atoms M):Zgz q A (w (M - A))=some (.own 0,[.arr 3 1 true ((Zee q A (M - A)).map ic)]):=by
 obtain ⟨q1,q2⟩:=Zvj hM hA
 have h16:=(q2.m16 hv).1
 rw [w_id (by omega) (by omega)]
 exact Zbi4 q hq hv A (M - A) q1 q2
theorem Zbj3 (out:List Zv) (hout:out.length≤1000) {i:Nat} (hi:i<(Zo q.Atoms).length) (r:AV×List Blk) (h:Zd4 q (out++[Zcu q (Zo q.Atoms)[i]]) (Zo q.Atoms) (w ((i:Int)+1))=some r) :
  ∀ k,k≤(Zr q.Atoms (Zo q.Atoms)[i]).length→Zim q out (Zo q.Atoms) (Zo q.Atoms)[i] (Zr q.Atoms (Zo q.Atoms)[i]) ((shOf q (Zo q.Atoms)[i]).take k) i k=some r:=by
 obtain ⟨c1,c2,c3,c4⟩:=Zkg hi
 have hsl:=Zvd (qa:=q.Atoms) (c1.m16 hv).1
 have hlen:(shOf q (Zo q.Atoms)[i]).length=(Zr q.Atoms (Zo q.Atoms)[i]).length:=by simp [shOf]
 refine down _ ?_ ?_
 ·refine Z3k _ _ _ _ _ _ _ _ _ ?_
  rw [if_neg (by omega)]
  refine ⟨by omega,?_⟩
  rw [← hlen,List.take_length]
  exact h
 ·intro k hk ih
  have h4:=inc64 (i:=k) (by omega)
  have hw:w ((k:Int)+1)=((k+1:Nat):Int):=by rw [show w ((k:Int)+1)=(k:Int)+1 from h4];simp
  refine Z3k _ _ _ _ _ _ _ _ _ ?_
  rw [if_pos (by omega),hw]
  refine ⟨by omega,_,by rw [Int.toNat_natCast];exact List.getElem?_eq_getElem hk,by omega,_,by rw [Int.toNat_natCast];exact List.getElem?_eq_getElem hi,_,Z53 q hq hv c1 (List.getElem_mem hk),?_,?_⟩
  ·rw [List.length_take];omega
  ·rw [List.take_succ_eq_append_getElem (by omega)] at ih
   simpa [shOf] using ih
theorem Zbj4 (out:List Zv) (hout:out.length≤1000) {i:Nat} (hi:i<(Zo q.Atoms).length) (r:AV×List Blk) (h:Zd4 q (out++[Zcu q (Zo q.Atoms)[i]]) (Zo q.Atoms) (w ((i:Int)+1))=some r) :
  Zl4 q out (Zo q.Atoms) (Zo q.Atoms)[i] (Zr q.Atoms (Zo q.Atoms)[i]) i 0=some r:=by
 obtain ⟨c1,c2,c3,c4⟩:=Zkg hi
 refine Zbf6 _ _ _ _ _ _ _ _ ?_
 by_cases h0:(Zr q.Atoms (Zo q.Atoms)[i]).length=0
 ·rw [if_neg (by omega)]
  refine ⟨by omega,?_⟩
  have:Zcu q (Zo q.Atoms)[i]=⟨(Zo q.Atoms)[i],Zr q.Atoms (Zo q.Atoms)[i],[]⟩:=by
   unfold Zcu shOf
   rw [List.length_eq_zero_iff.1 h0];rfl
  rw [← this]
  exact h
 ·rw [if_pos (by omega)]
  have hk:0<(Zr q.Atoms (Zo q.Atoms)[i]).length:=by omega
  have:=Zbj3 q hq hv out hout hi r h 1 (by omega)
  refine ⟨by omega,_,List.getElem?_eq_getElem hk,by omega,_,by rw [Int.toNat_natCast];exact List.getElem?_eq_getElem hi,_,Z53 q hq hv c1 (List.getElem_mem hk),?_⟩
  rw [show w ((0:Int)+1)=((1:Nat):Int) from by decide]
  have e:(shOf q (Zo q.Atoms)[i]).take 1=[Zee q (Zr q.Atoms (Zo q.Atoms)[i])[0] ((Zo q.Atoms)[i] - (Zr q.Atoms (Zo q.Atoms)[i])[0])]:=by
   rw [List.take_succ_eq_append_getElem (by simp [shOf];omega)]
   simp [shOf]
  rw [e] at this
  exact this
theorem l_shapes:∀ i,i≤(Zo q.Atoms).length→Zd4 q ((shapes q).take i) (Zo q.Atoms) i=some (.own 0,[.arr 242 3 true ((shapes q).map Zv.c)]):=by
 have hcl:=Zp1 hv
 have hlen:(shapes q).length=(Zo q.Atoms).length:=by simp [shapes]
 refine down _ ?_ ?_
 ·refine Z3j _ _ _ _ _ ?_
  rw [if_neg (by omega),← hlen,List.take_length]
 ·intro i hi ih
  have h4:=inc64 (i:=i) (by omega)
  have hw:w ((i:Int)+1)=((i+1:Nat):Int):=by rw [show w ((i:Int)+1)=(i:Int)+1 from h4];simp
  obtain ⟨c1,c2,c3,c4⟩:=Zkg hi
  refine Z3j _ _ _ _ _ ?_
  rw [if_pos (by omega)]
  refine ⟨by omega,_,by rw [Int.toNat_natCast];exact List.getElem?_eq_getElem hi,_,Zbij q hq _ (Zbj2 hv c1 c2 c3),?_⟩
  refine Zbj4 q hq hv _ (by rw [List.length_take];omega) hi _ ?_
  rw [hw]
  rw [List.take_succ_eq_append_getElem (by omega)] at ih
  simpa [shapes] using ih
theorem Zbj5:Zl3 q=some (.own 0,[.arr 242 3 true ((shapes q).map Zv.c)]) :=
 Zbf7 _ _ ⟨_,Zbig q hq hv,by simpa using l_shapes q hq hv 0 (Nat.zero_le _)⟩
end
theorem f_one:∀ a:Fin 16,1≤a.1→(andI (a.1:Int) (w ((a.1:Int) - 1))=0↔oneB (ofI (a.1:Int))=true):=by decide
theorem Z54 {α β:Type} (f:α→β):∀ l:List α,l.zip (l.map f)=l.map fun a=>(a,f a)
 | []=>rfl
 | a::l=>by simp [Z54 f l]
theorem s_table {m:Zd} {q:Zc} {sizes:List Int} (b:Base m q sizes):∀ i,i≤(Zo q.Atoms).length→∀ fr:Bool,∃ fr',Zg5 (shapes q) sizes m q fr (Z2 m sizes q i) i=some (.own 2,[.arr 242 3 true ((shapes q).map Zv.c),.arr 3 1 true (sizes.map ic),.arr 174 4 fr' ((Z2 m sizes q (Zo q.Atoms).length).map Za.c)]):=by
 have hcl:=Zp1 b.hv
 have hlen:(shapes q).length=(Zo q.Atoms).length:=by simp [shapes]
 refine down _ ?_ ?_
 ·intro fr
  refine ⟨fr,Zuq _ _ _ _ _ _ _ _ ?_⟩
  rw [if_neg (by omega)]
 ·intro i hi ih fr
  have h4:=inc64 (i:=i) (by omega)
  have hw:w ((i:Int)+1)=((i+1:Nat):Int):=by rw [show w ((i:Int)+1)=(i:Int)+1 from h4];simp
  obtain ⟨c1,c2,c3,c4⟩:=Zkg hi
  have hinv:=Zkh b i (by omega)
  have hheld:=Zvl b hinv c1 c2 c3 c4
  have hnext:Z2 m sizes q (i+1)=Z2 m sizes q i++entM m sizes q (Z2 m sizes q i) (Zo q.Atoms)[i]:=by
   rw [Z2]
   congr 2
   simp [List.getD,hi]
  have hol:=Znj b (i:=i) (by omega)
  have h16:=(c1.m16 b.hv).1
  have hget:(shapes q)[i]?=some (Zcu q (Zo q.Atoms)[i]):=by
   unfold shapes
   rw [List.getElem?_map,List.getElem?_eq_getElem hi];rfl
  rw [hnext] at ih
  generalize (Zo q.Atoms)[i]=M at *
  have hz:=Zbg b.hsv c1
  have h1:(andI M (w (M - 1))=0↔oneB (ofI M)=true):=by
   have q1:=c1.1
   obtain ⟨a,rfl⟩:=m16 h16
   exact f_one a (by omega)
  have hle:=hheld.le
  cases ho:oneB (ofI M) with
  | true =>
   obtain ⟨j,hj4,ha,hMj⟩:=Zve h16 ho
   have hent:=Zvg (m:=m) (sizes:=sizes) (q:=q) (out:=Z2 m sizes q i) ha
   have hjl:j<q.Atoms.length:=by
    have h2:=c1.2
    have e:shlI 1 (j:Nat)=2 ^ j:=by
     have:j=0∨j=1∨j=2∨j=3:=by omega
     rcases this with rfl | rfl | rfl | rfl <;> decide
    rw [hMj,e] at h2
    have h3:(2:Int) ^ j<2 ^ q.Atoms.length:=h2
    rw [← Zed,← Zed] at h3
    exact (Nat.pow_lt_pow_iff_right (by omega)).1 (by omega:2 ^ j<2 ^ q.Atoms.length)
   have hvar:=Zjf b.hv _ (List.getElem_mem hjl)
   obtain ⟨v,vs,hvs⟩:∃ v vs,q.Atoms[j].Vars=v::vs:=by
    cases hh:q.Atoms[j].Vars with
    | nil=>rw [hh] at hvar;simp at hvar
    | cons v vs=>exact ⟨v,vs,rfl⟩
   have hse:Zhe m sizes q M (j:Int)=⟨M,v,Z8 m.Scan (szAt sizes M) 0 (szAt sizes M),⟨[⟨1,j,0⟩]⟩⟩:=by
    simp [Zhe,List.getElem?_eq_getElem hjl,hvs]
   rw [hent,hse] at ih
   obtain ⟨fr',hr⟩:=ih fr
   refine ⟨fr',Zuq _ _ _ _ _ _ _ _ ?_⟩
   rw [if_pos (by omega)]
   refine ⟨by omega,_,by rw [Int.toNat_natCast];exact hget,?_⟩
   have h1':andI (Zcu q M).mask (w ((Zcu q M).mask - 1))=0:=h1.2 ho
   rw [if_pos h1',hw]
   refine ⟨_,Zbin h16,(j:Int),by rw [show Zcj (Zcu q M).mask=[(j:Int)] from ha];rfl,by omega,q.Atoms[j],by rw [Int.toNat_natCast];exact List.getElem?_eq_getElem hjl,v,by rw [hvs];rfl,hz.1,_,hz.2,_,Zea _ b.hm.1 _ _ _,_,Zbi6 _,by omega,?_⟩
   exact hr
  | false =>
   have hne:=Zvf h16 ho
   have ok:=Zvk b hinv c1 c3 c4
   have hzip:(Zcu q M).Zr.zip (Zcu q M).shared=Zb4 q M:=Z54 _ _
   have hsl:=Zvd (qa:=q.Atoms) h16
   obtain ⟨f1,hJ⟩:=Zbjq m b.hm b.hg sizes b.hcl q.Atoms fr (Z2 m sizes q i) (by omega) (Zcu q M) hz h16 (by show 0<M;have:=c1.1;omega) (by simp [Zcu,shOf]) (by show (Zr q.Atoms M).length≤100;omega) (by rw [hzip];exact ok)
   rw [hzip] at hJ
   have hent:=Zvh (m:=m) (sizes:=sizes) (q:=q) (out:=Z2 m sizes q i) hne
   rw [hent] at ih hle
   obtain ⟨fr',hr⟩:=ih (fr && flat (((Zkf m sizes M (Z2 m sizes q i) (Zb4 q M)).filter sm).map Za.c))
   refine ⟨fr',Zuq _ _ _ _ _ _ _ _ ?_⟩
   rw [if_pos (by omega)]
   refine ⟨by omega,_,by rw [Int.toNat_natCast];exact hget,?_⟩
   have h1':¬ andI (Zcu q M).mask (w ((Zcu q M).mask - 1))=0:=fun h=>by have:=h1.1 h;rw [ho] at this;cases this
   rw [if_neg h1',hw]
   exact ⟨_,_,hJ,by show (Z2 m sizes q i).length+((Zkf m sizes M (Z2 m sizes q i) (Zb4 q M)).filter sm).length≤68719476736;omega,hr⟩
theorem Zbj6 {m:Zd} {q:Zc} {sizes:List Int} (b:Base m q sizes):∃ fr',Zme (shapes q) sizes m q=some (.own 2,[.arr 242 3 true ((shapes q).map Zv.c),.arr 3 1 true (sizes.map ic),.arr 174 4 fr' ((Z2 m sizes q (Zo q.Atoms).length).map Za.c)]):=by
 obtain ⟨fr',h⟩:=s_table b 0 (Nat.zero_le _) true
 exact ⟨fr',Zbgj _ _ _ _ _ h⟩
theorem Zbj7 (a b c:Int) (fr:Bool) (l:List Za) (hl:l.length≤1000):∀ i,i≤l.length→∀ best,Zgh a b c best fr l l.length i=some (.agg (((l.drop i).foldl Zb8 best).c.map .t),[.arr 174 4 fr (l.map Za.c)]):=by
 refine down _ ?_ ?_
 ·intro best
  refine Z2v _ _ _ _ _ _ _ _ _ ?_
  rw [if_neg (by omega)];simp
 ·intro i hi ih best
  have h4:=inc64 (i:=i) (by omega)
  refine Z2v _ _ _ _ _ _ _ _ _ ?_
  rw [if_pos (by omega),List.drop_eq_getElem_cons hi,List.foldl_cons]
  refine ⟨by omega,l[i],by rw [Int.toNat_natCast];exact List.getElem?_eq_getElem hi,?_⟩
  rw [show w ((i:Int)+1)=((i+1:Nat):Int) from by rw [show w ((i:Int)+1)=(i:Int)+1 from h4];simp]
  by_cases e:l[i].Cost<best.Cost
  ·rw [if_pos e,show Zb8 best l[i]=l[i] by simp [Zb8,e]];exact ih _
  ·rw [if_neg e,show Zb8 best l[i]=best by simp [Zb8,e]];exact ih _
theorem Zbj8 (fr:Bool) (l:List Za) (h0:l≠[]) (hl:l.length≤1000):Zlg fr l=some (.agg ((Zz l).c.map .t),[.arr 174 4 fr (l.map Za.c)]):=by
 cases l with
 | nil=>exact absurd rfl h0
 | cons e l =>
  refine Zbe1 _ _ _ ⟨e,rfl,?_⟩
  have:=Zbj7 0 0 0 fr (e::l) hl 0 (Nat.zero_le _) e
  simpa [Zz] using this
theorem l_best (l:List Za) (mask:Int) (hl:l.length≤1000) (hne:ofM l mask≠[]) (hs:∀ e∈l,e.Plan.Steps.length≤1000):∀ i,i≤l.length→∀ fr,Zgi 0 0 0 fr (ofM (l.take i) mask) mask l l.length i=some (.tup [.agg [I (Zz (ofM l mask)).Mask,I (Zz (ofM l mask)).Order,I (Zz (ofM l mask)).Cost,.own 0],Bo true],[.arr 142 3 true ((Zz (ofM l mask)).Plan.Steps.map Zb.c)]):=by
 refine down _ ?_ ?_
 ·intro fr
  refine Z2w _ _ _ _ _ _ _ _ _ _ ?_
  rw [if_neg (by omega),List.take_length]
  have h1:(ofM l mask).length≠0:=fun h=>hne (List.length_eq_zero_iff.1 h)
  have h2:(ofM l mask).length≤l.length:=List.length_filter_le _ _
  rw [if_neg (by omega)]
  have hmem:=Zu4 hne
  exact ⟨_,Zbj8 fr _ hne (by omega),_,Zpu _ (hs _ (List.mem_filter.1 hmem).1),rfl⟩
 ·intro i hi ih fr
  have h4:=inc64 (i:=i) (by omega)
  have hw:w ((i:Int)+1)=((i+1:Nat):Int):=by rw [show w ((i:Int)+1)=(i:Int)+1 from h4];simp
  rw [Z5h l mask hi] at ih
  have h2:(ofM (l.take i) mask).length≤(l.take i).length:=List.length_filter_le _ _
  rw [List.length_take] at h2
  refine Z2w _ _ _ _ _ _ _ _ _ _ ?_
  rw [if_pos (by omega),hw]
  refine ⟨by omega,l[i],by rw [Int.toNat_natCast];exact List.getElem?_eq_getElem hi,?_⟩
  by_cases e:l[i].Mask=mask
  ·rw [if_pos e]
   rw [if_pos e] at ih
   exact ⟨by omega,ih false⟩
  ·rw [if_neg e]
   rw [if_neg e,List.append_nil] at ih
   exact ih fr
theorem Zbj9 (l:List Za) (mask:Int) (hl:l.length≤1000) (hne:ofM l mask≠[]) (hs:∀ e∈l,e.Plan.Steps.length≤1000):Zjq l mask=some (.tup [.agg [I (Zz (ofM l mask)).Mask,I (Zz (ofM l mask)).Order,I (Zz (ofM l mask)).Cost,.own 0],Bo true],[.arr 142 3 true ((Zz (ofM l mask)).Plan.Steps.map Zb.c)]) :=
 Zbe2 _ _ _ (by simpa [ofM] using l_best l mask hl hne hs 0 (Nat.zero_le _) true)
theorem Zbka (l:List Za) (mask:Int) (hl:l.length≤1000) (hne:ofM l mask≠[]) (hs:∀ e∈l,e.Plan.Steps.length≤1000):Zjw l mask=some (.tup [.agg [I (Zz (ofM l mask)).Mask,I (Zz (ofM l mask)).Order,I (Zz (ofM l mask)).Cost,.own 0],Bo true],[.arr 142 3 true ((Zz (ofM l mask)).Plan.Steps.map Zb.c)]):=by
 obtain ⟨k1,k2⟩:=Zpy hne
 have hmem:=Zu4 hne
 have:=hs _ (List.mem_filter.1 hmem).1
 refine Zbgk _ _ _ ⟨_,x_low l mask hl,?_⟩
 rw [if_neg (by omega)]
 exact ⟨k1,_,k2,by omega,rfl⟩
def tab (m:Zd) (q:Zc) (sizes:List Int):List Za:=Z2 m sizes q (Zo q.Atoms).length
def opt (m:Zd) (q:Zc) (sizes:List Int):Za:=Zz (ofM (tab m q sizes) (Zw q.Ze q.Atoms))
theorem full_MQ {q:Zc} (hv:Zn q.Ze q.Atoms=true):MQ q.Atoms (Zw q.Ze q.Atoms):=by
 have:=Zec hv
 have:=Zqs hv
 exact ⟨by omega,by omega⟩
theorem Z55 {m:Zd} {q:Zc} {sizes:List Int} (b:Base m q sizes) (hc:Zbx q.Ze q.Atoms (Zw q.Ze q.Atoms)=true):Held m sizes q.Atoms (Zw q.Ze q.Atoms) (ofM (tab m q sizes) (Zw q.Ze q.Atoms)):=by
 refine (Zkh b _ (Nat.le_refl _)).held _ ?_
 rw [List.take_length]
 have hp:=Zqs b.hv
 have hq:=full_MQ b.hv
 unfold Zbx at hc
 simp only [Bool.and_eq_true] at hc
 exact Zi7.2 ⟨by omega,hq.2,hc.2⟩
theorem Zbkb {m:Zd} {q:Zc} {sizes:List Int} (b:Base m q sizes) (ha:Zc0 m) (hc:Zbx q.Ze q.Atoms (Zw q.Ze q.Atoms)=true):Zjr m q sizes=some (.tup [.agg [I (opt m q sizes).Mask,I (opt m q sizes).Order,I (opt m q sizes).Cost,.own 0],Bo true],[.arr 142 3 true ((opt m q sizes).Plan.Steps.map Zb.c)]):=by
 have hl:=Znj b (Nat.le_refl (Zo q.Atoms).length)
 refine Zbe3 _ _ _ _ (.inr ⟨_,_,Zbj1 b ha,_,Zg8 q b.hq,.inr ⟨_,_,_,_,Zbj9 _ _ (by omega) (Z55 b hc).ne (Zvn b (Nat.le_refl _)),rfl⟩⟩)
theorem Zbkc {m:Zd} {q:Zc} {sizes:List Int} (b:Base m q sizes) (ha:Zc0 m) (hc:Zbx q.Ze q.Atoms (Zw q.Ze q.Atoms)=true):Zlh m q sizes=some (I (opt m q sizes).Cost,[]) :=
 Zbe4 _ _ _ _ (.inr ⟨_,_,_,_,Zbkb b ha hc,rfl⟩)
theorem Zbkd {m:Zd} {q:Zc} {l:List Int} (hl:l.length≤4294967296) (h:Z9 l=true) (b:Base m q (Zbm l)) (ha:Zc0 m) (hc:Zbx q.Ze q.Atoms (Zw q.Ze q.Atoms)=true):Zli m q l=some (I (opt m q (Zbm l)).Cost,[]):=by
 have hb:=Z40 l hl
 rw [h,if_pos rfl] at hb
 exact Zbe5 _ _ _ _ (.inl ⟨_,hb,_,Zbkc b ha hc,rfl⟩)
def LeR (r:Region):Prop:=Le r.Box.Low∧Le r.Box.High
theorem x_boxOk (q:Zc) (hq:LeQ q) (bx:Box) (hb:LeX bx):Zkw q bx=some (Bo (Zje q.Ze q.Atoms bx.Low bx.High),[]):=by
 have q5:=Zn0 q.Ze q.Atoms
 refine Zbdz _ _ _ ⟨_,Zut bx hb,?_⟩
 unfold Zje
 rcases tf (Zbf bx.Low bx.High) with e | e
 ·rw [e];simp
 ·rw [e,if_pos rfl]
  refine ⟨_,Zg8 q hq,?_⟩
  rw [show w (Zw q.Ze q.Atoms+1)=Zw q.Ze q.Atoms+1 from q5]
  simp
theorem Zbke (q:Zc) (hq:LeQ q) (r:Region) (hr:LeR r):Zky q r=some (Bo (Zf1 q.Ze q.Atoms r.Plan.Steps r.Box.Low r.Box.High r.Percent),[]):=by
 refine Zbd4 _ _ _ ⟨_,Zm4 q hq,?_⟩
 unfold Zf1
 rcases tf (Zn q.Ze q.Atoms) with e | e
 ·rw [e];simp
 rw [e,if_pos rfl]
 refine ⟨_,x_boxOk q hq r.Box hr,?_⟩
 rcases tf (Zje q.Ze q.Atoms r.Box.Low r.Box.High) with e2 | e2
 ·rw [e2];simp
 rw [e2,if_pos rfl]
 refine ⟨_,Zbhw q r.Plan hq,_,Zg8 q hq,?_⟩
 by_cases e3:Zf0 q.Ze q.Atoms r.Plan.Steps=Zw q.Ze q.Atoms
 ·rw [if_pos e3]
  exact ⟨_,Zcr _ _ _,by simp [e3]⟩
 ·rw [if_neg e3];simp [e3]
theorem Zbkf (q:Zc) (hq:LeQ q) (r:Region) (hr:LeR r):Zlv q r=some (Bo (Zf1 q.Ze q.Atoms r.Plan.Steps r.Box.Low r.Box.High r.Percent),[]):=by
 have q5:=Zn0 q.Ze q.Atoms
 refine Zbf0 _ _ _ ⟨_,Zuu r.Box hr,?_⟩
 unfold Zf1 Zje
 rcases tf (Zbf r.Box.Low r.Box.High) with e | e
 ·rw [e];simp
 rw [e,if_pos rfl]
 refine ⟨_,Zm6 q hq,?_⟩
 rw [show w (Zw q.Ze q.Atoms+1)=Zw q.Ze q.Atoms+1 from q5]
 by_cases e4:(r.Box.Low.length:Int)=Zw q.Ze q.Atoms+1
 ·rw [if_pos e4]
  refine ⟨_,Zbhx q r.Plan hq,?_⟩
  by_cases e3:Zf0 q.Ze q.Atoms r.Plan.Steps=Zw q.Ze q.Atoms
  ·rw [if_pos e3]
   rcases tf (Zn q.Ze q.Atoms) with e1 | e1
   ·have e5:Zw q.Ze q.Atoms=0:=by unfold Zw;rw [e1];rfl
    rw [if_neg (by omega)];simp [e1]
   ·have e5:=Zqs e1
    rw [if_pos e5]
    exact ⟨_,Zd9 _ _ _,by simp [e1,e3,e4]⟩
  ·rw [if_neg e3];simp [e3]
 ·rw [if_neg e4];simp [e4]
def Zcc (m:Zd) (q:Zc) (r:Region):Prop:=Zf1 q.Ze q.Atoms r.Plan.Steps r.Box.Low r.Box.High r.Percent=true∧Zbx q.Ze q.Atoms (Zw q.Ze q.Atoms)=true∧Zc0 m
theorem Zp2 {l:List Int} (h:Z9 l=true):l.length≤16:=by
 simp only [Z9,Bool.and_eq_true,decide_eq_true_eq] at h
 omega
theorem class_le {a:Int} (h:0≤a∧a≤7):inR (Zbn a) 0 4096=true:=by
 have:a=0∨a=1∨a=2∨a=3∨a=4∨a=5∨a=6∨a=7:=by omega
 rcases this with rfl | rfl | rfl | rfl | rfl | rfl | rfl | rfl <;> decide
theorem base_of {m:Zd} (hm:LeM m) (ha:Zc0 m) {q:Zc} (hq:LeQ q) (hv:Zn q.Ze q.Atoms=true) {l:List Int} (h:Z9 l=true) (hl:(l.length:Int)=Zw q.Ze q.Atoms+1):Base m q (Zbm l):=by
 have hll:(l.length:Int)≤16:=by simp only [Z9,Bool.and_eq_true,decide_eq_true_eq] at h;exact h.2
 have hc:=Zbjg h
 refine ⟨hm,ha.2.1,hq,hv,by simp [Zbm];omega,hc,?_⟩
 unfold Zbr Zha
 rw [hv]
 have:(Zbm l).all (fun x=>inR x 0 4096)=true:=by
  rw [List.all_eq_true]
  intro s hs
  obtain ⟨a,h1,rfl⟩:=hc s hs
  exact class_le h1
 rw [this]
 simp [Zbm,hl]
theorem Zvo {m:Zd} {q:Zc} {r:Region} (h:Zcc m q r):Zn q.Ze q.Atoms=true∧Z9 r.Box.Low=true∧Z9 r.Box.High=true∧(r.Box.Low.length:Int)=Zw q.Ze q.Atoms+1∧Zbf r.Box.Low r.Box.High=true∧inR r.Percent 100 1000=true∧Zf0 q.Ze q.Atoms r.Plan.Steps=Zw q.Ze q.Atoms:=by
 have h1:=h.1
 unfold Zf1 Zje at h1
 simp only [Bool.and_eq_true,decide_eq_true_eq] at h1
 have h2:=h1.1.1.2.1
 unfold Zbf at h2
 simp only [Bool.and_eq_true,decide_eq_true_eq] at h2
 exact ⟨h1.1.1.1,h2.1.1.2,h2.1.2,h1.1.1.2.2,h1.1.1.2.1,h1.2,h1.1.2⟩
theorem Z56 {m:Zd} {q:Zc} {r:Region} (hm:LeM m) (hq:LeQ q) (h:Zcc m q r):Base m q (Zbm r.Box.Low):=by
 obtain ⟨h1,h2,h3,h4,_⟩:=Zvo h
 exact base_of hm h.2.2 hq h1 h2 h4
def Zki (m:Zd) (q:Zc) (r:Region):Bool:=decide (w (100*Zcs m q.Ze q.Atoms r.Plan.Steps (Zbm r.Box.High))≤w (r.Percent*(opt m q (Zbm r.Box.Low)).Cost))
theorem Zvp {m:Zd} {q:Zc} {r:Region} (hm:LeM m) (hq:LeQ q) (hr:LeR r) (h:Zcc m q r):Zdz m q r=some (Bo (Zki m q r),[]):=by
 obtain ⟨h1,h2,h3,h4,_⟩:=Zvo h
 have l1:=Zp2 h2
 have l2:=Zp2 h3
 exact Zbe6 _ _ _ _ ⟨_,Zbi0 m hm q hq r.Plan r.Box.High (by omega) h3,_,Zbkd (by omega) h2 (Z56 hm hq h) h.2.2 h.2.1,rfl⟩
theorem Zvq {m:Zd} {q:Zc} {r:Region} (hm:LeM m) (hq:LeQ q) (hr:LeR r) (h:Zcc m q r):Zd7 m q r=some (Bo (Zki m q r),[]):=by
 obtain ⟨h1,h2,h3,h4,_⟩:=Zvo h
 have l1:=Zp2 h2
 have l2:=Zp2 h3
 have b:=Z56 hm hq h
 have hl:=Znj b (Nat.le_refl (Zo q.Atoms).length)
 have hs:=Z41 r.Box.Low (by omega)
 rw [h2,if_pos rfl] at hs
 obtain ⟨fr,ht⟩:=Zbj6 b
 refine Zbgq _ _ _ _ ⟨_,Zbj5 q hq h1,_,hs,_,_,ht,_,Zm6 q hq,.inr ⟨_,_,_,_,Zbka _ _ (by omega) (Z55 b h.2.1).ne (Zvn b (Nat.le_refl _)),_,Zbi1 m hm q hq r.Plan r.Box.High (by omega) h3,?_⟩⟩
 unfold Zki opt tab
 rw [Int.mul_comm]
open Classical in
noncomputable def Zi8 (m:Zd) (q:Zc) (r:Region):Bool:=decide (Zcc m q r) && Zki m q r
theorem Zbkg {m:Zd} {q:Zc} {r:Region} (hm:LeM m) (hq:LeQ q) (hr:LeR r):Zk3 m q r=some (Bo (@decide (Zcc m q r) (Classical.propDecidable _)),[]):=by
 refine Zbei _ _ _ _ ⟨_,Zbke q hq r hr,?_⟩
 rcases tf (Zf1 q.Ze q.Atoms r.Plan.Steps r.Box.Low r.Box.High r.Percent) with e | e
 ·rw [if_neg (by rw [e];simp)]
  have:¬ Zcc m q r:=fun h=>by rw [h.1] at e;cases e
  simp [this]
 rw [if_pos e]
 refine ⟨_,Zg8 q hq,_,Z4o q hq _,?_⟩
 rcases tf (Zbx q.Ze q.Atoms (Zw q.Ze q.Atoms)) with e2 | e2
 ·rw [if_neg (by rw [e2];simp)]
  have:¬ Zcc m q r:=fun h=>by rw [h.2.1] at e2;cases e2
  simp [this]
 rw [if_pos e2]
 refine ⟨_,Z4h m hm,?_⟩
 by_cases ha:Zc0 m
 ·have:Zcc m q r:=⟨e,e2,ha⟩
  simp [this,ha]
 ·have:¬ Zcc m q r:=fun h=>ha h.2.2
  simp [this,ha]
theorem Zbkh {m:Zd} {q:Zc} {r:Region} (hm:LeM m) (hq:LeQ q) (hr:LeR r):Zlj m q r=some (Bo (Zi8 m q r),[]):=by
 refine Zbe7 _ _ _ _ ⟨_,Zbkg hm hq hr,?_⟩
 unfold Zi8
 by_cases h:Zcc m q r
 ·rw [if_pos (by simp [h])]
  exact ⟨_,Zvp hm hq hr h,by simp [h]⟩
 ·rw [if_neg (by simp [h])];simp [h]
theorem Zbki {m:Zd} {q:Zc} {r:Region} (hm:LeM m) (hq:LeQ q) (hr:LeR r):Zmk m q r=some (Bo (Zi8 m q r),[]):=by
 refine Zbgr _ _ _ _ ⟨_,Zbh8 m hm,?_⟩
 unfold Zi8
 by_cases ha:Zc0 m
 ·rw [if_pos (by simp [ha])]
  refine ⟨_,Zm6 q hq,_,Z4p q hq _,?_⟩
  rcases tf (Zbx q.Ze q.Atoms (Zw q.Ze q.Atoms)) with e2 | e2
  ·rw [if_neg (by rw [e2];simp)]
   have:¬ Zcc m q r:=fun h=>by rw [h.2.1] at e2;cases e2
   simp [this]
  rw [if_pos e2]
  refine ⟨_,Zbkf q hq r hr,?_⟩
  rcases tf (Zf1 q.Ze q.Atoms r.Plan.Steps r.Box.Low r.Box.High r.Percent) with e | e
  ·rw [if_neg (by rw [e];simp)]
   have:¬ Zcc m q r:=fun h=>by rw [h.1] at e;cases e
   simp [this]
  rw [if_pos e]
  have h:Zcc m q r:=⟨e,e2,ha⟩
  exact ⟨_,Zvq hm hq hr h,by simp [h]⟩
 ·rw [if_neg (by simp [ha])]
  have:¬ Zcc m q r:=fun h=>ha h.2.2
  simp [this]
def LeC (c:Zp):Prop:=Le c.Entries∧∀ e∈c.Entries,LeQ e.Zc∧LeR e.Region
def Zew (l:List Zf) (e:Zf):Bool:=l.any fun x=>decide (x.Used=e.Used)
noncomputable def entOk (m:Zd) (c:Zp) (i:Nat) (e:Zf):Bool:=inR e.Version 1 999 && (inR e.Used 1 c.Clock && (Zi8 m e.Zc e.Region && !Zew (c.Entries.take i) e))
noncomputable def okF (m:Zd) (c:Zp):List Zf→Nat→Bool
 | [],_=>true
 | e::l,i=>entOk m c i e && okF m c l (i+1)
noncomputable def Zex (m:Zd) (c:Zp):Bool:=inR c.Clock 0 1000000 && (decide ((c.Entries.length:Int)≤4) && okF m c c.Entries 0)
def idxU (e:Zf):List Zf→Nat→Int
 | [],_=>-1
 | x::l,i=>if x.Used=e.Used then (i:Int) else idxU e l (i+1)
theorem Z57 (e:Zf):∀ (l:List Zf) (i:Nat),decide (0≤idxU e l i)=Zew l e
 | [],i=>by simp [idxU,Zew]
 | x::l,i=>by
  have ih:=Z57 e l (i+1)
  rw [idxU]
  unfold Zew at ih ⊢
  by_cases h:x.Used=e.Used
  ·simp [h]
  ·rw [if_neg h,ih];simp [h]
theorem l_idx (l:List Zf) (e:Zf) (hl:Le l):∀ i,i≤l.length→Ziv l e l.length i=some (I (idxU e (l.drop i) i),[]):=by
 refine down _ ?_ ?_
 ·refine Z3x _ _ _ _ _ ?_
  rw [if_neg (by omega)];simp [idxU]
 ·intro i hi ih
  have h4:=inc64 (i:=i) (by omega)
  refine Z3x _ _ _ _ _ ?_
  rw [if_pos (by omega),List.drop_eq_getElem_cons hi,idxU]
  refine ⟨by omega,l[i],by rw [Int.toNat_natCast];exact List.getElem?_eq_getElem hi,_,Zbgv _ _ _ rfl,?_⟩
  rw [show w ((i:Int)+1)=((i+1:Nat):Int) from by rw [show w ((i:Int)+1)=(i:Int)+1 from h4];simp]
  by_cases h:l[i].Used=e.Used
  ·rw [if_pos (by simpa using h),if_pos h]
  ·rw [if_neg (by simpa using h),if_neg h];exact ih
theorem Zbkj (l:List Zf) (e:Zf) (hl:Le l):Zmm l e=some (Bo (Zew l e),[]):=by
 refine Zbgx _ _ _ ⟨_,Zbgw _ _ _ (l_idx l e hl 0 (Nat.zero_le _)),?_⟩
 rw [List.drop_zero,Z57]
theorem Zbkk (m:Zd) (hm:LeM m) (c:Zp) (hc:LeC c):∀ i,i≤c.Entries.length→Ziw m c c.Entries c.Entries.length i=some (Bo (okF m c (c.Entries.drop i) i),[]):=by
 have hl:=hc.1
 refine down _ ?_ ?_
 ·refine Z3y _ _ _ _ _ _ ?_
  rw [if_neg (by omega)];simp [okF]
 ·intro i hi ih
  have h4:=inc64 (i:=i) (by omega)
  obtain ⟨hq,hr⟩:=hc.2 _ (List.getElem_mem hi)
  refine Z3y _ _ _ _ _ _ ?_
  rw [if_pos (by omega),List.drop_eq_getElem_cons hi,okF,entOk]
  refine ⟨by omega,c.Entries[i],by rw [Int.toNat_natCast];exact List.getElem?_eq_getElem hi,_,Zcr _ _ _,?_⟩
  rcases tf (inR c.Entries[i].Version 1 999) with e | e
  ·rw [e];simp
  rw [e,if_pos rfl]
  refine ⟨_,Zcr _ _ _,?_⟩
  rcases tf (inR c.Entries[i].Used 1 c.Clock) with e2 | e2
  ·rw [e2];simp
  rw [e2,if_pos rfl]
  refine ⟨_,Zbkh hm hq hr,?_⟩
  rcases tf (Zi8 m c.Entries[i].Zc c.Entries[i].Region) with e3 | e3
  ·rw [e3];simp
  rw [e3,if_pos rfl]
  refine ⟨by omega,_,Zbkj _ _ (by show (List.take _ _).length≤_;rw [List.length_take];omega),?_⟩
  rw [Int.toNat_natCast,show w ((i:Int)+1)=((i+1:Nat):Int) from by rw [show w ((i:Int)+1)=(i:Int)+1 from h4];simp]
  rcases tf (Zew (c.Entries.take i) c.Entries[i]) with e4 | e4
  ·rw [e4,if_neg (by simp),ih];simp
  ·rw [e4];simp
theorem Zbkl (m:Zd) (hm:LeM m) (c:Zp) (hc:LeC c):Zjx m c=some (Bo (Zex m c),[]):=by
 refine Zbgy _ _ _ ⟨_,Zcr _ _ _,?_⟩
 unfold Zex
 rcases tf (inR c.Clock 0 1000000) with e | e
 ·rw [e];simp
 rw [e,if_pos rfl]
 by_cases h:4<(c.Entries.length:Int)
 ·rw [if_pos h]
  have:¬ (c.Entries.length:Int)≤4:=by omega
  simp [this]
 ·rw [if_neg h]
  have h2:(c.Entries.length:Int)≤4:=by omega
  have:=Zbkk m hm c hc 0 (Nat.zero_le _)
  rw [List.drop_zero] at this
  simpa [h2] using this
theorem Zbkm (m:Zd) (c:Zp) (hc:LeC c) (i:Nat) (hi:i<c.Entries.length) (e:Zf) (r:Bool) (hr:Zg6 m c (w ((i:Int)+1))=some (Bo r,[])):∀ k,k≤i→Zix m c e i k=some (Bo (!Zew ((c.Entries.take i).drop k) e && r),[]):=by
 have hl:=hc.1
 refine down _ ?_ ?_
 ·refine Z30 _ _ _ _ _ _ ?_
  rw [if_neg (by omega),hr,List.drop_of_length_le (by rw [List.length_take];omega)]
  simp [Zew]
 ·intro k hk ih
  have h4:=inc64 (i:=k) (by omega)
  have hkl:k<(c.Entries.take i).length:=by rw [List.length_take];omega
  refine Z30 _ _ _ _ _ _ ?_
  rw [if_pos (by omega),List.drop_eq_getElem_cons hkl]
  refine ⟨by omega,c.Entries[k],by rw [Int.toNat_natCast];exact List.getElem?_eq_getElem (by omega),?_⟩
  rw [show w ((k:Int)+1)=((k+1:Nat):Int) from by rw [show w ((k:Int)+1)=(k:Int)+1 from h4];simp]
  rw [List.getElem_take]
  by_cases h:c.Entries[k].Used=e.Used
  ·rw [if_pos h];simp [Zew,h]
  ·rw [if_neg h,ih];simp [Zew,h]
theorem Zbkn (m:Zd) (hm:LeM m) (c:Zp) (hc:LeC c):∀ i,i≤c.Entries.length→Zg6 m c i=some (Bo (okF m c (c.Entries.drop i) i && (inR c.Clock 0 1000000 && decide ((c.Entries.length:Int)≤4))),[]):=by
 have hl:=hc.1
 refine down _ ?_ ?_
 ·refine Z3z _ _ _ _ ?_
  rw [if_neg (by omega)]
  refine ⟨_,Zd9 _ _ _,?_⟩
  rcases tf (inR c.Clock 0 1000000) with e | e
  ·rw [e];simp
  ·rw [e];simp [okF]
 ·intro i hi ih
  have h4:=inc64 (i:=i) (by omega)
  have hw:w ((i:Int)+1)=((i+1:Nat):Int):=by rw [show w ((i:Int)+1)=(i:Int)+1 from h4];simp
  obtain ⟨hq,hr⟩:=hc.2 _ (List.getElem_mem hi)
  refine Z3z _ _ _ _ ?_
  rw [if_pos (by omega),List.drop_eq_getElem_cons hi,okF,entOk]
  refine ⟨by omega,c.Entries[i],by rw [Int.toNat_natCast];exact List.getElem?_eq_getElem hi,_,Zd9 _ _ _,?_⟩
  rcases tf (inR c.Entries[i].Version 1 999) with e | e
  ·rw [e];simp
  rw [e,if_pos rfl]
  refine ⟨_,Zd9 _ _ _,?_⟩
  rcases tf (inR c.Entries[i].Used 1 c.Clock) with e2 | e2
  ·rw [e2];simp
  rw [e2,if_pos rfl]
  refine ⟨_,Zbki hm hq hr,?_⟩
  rcases tf (Zi8 m c.Entries[i].Zc c.Entries[i].Region) with e3 | e3
  ·rw [e3];simp
  rw [e3,if_pos rfl]
  have:=Zbkm m c hc i hi c.Entries[i] _ (by rw [hw];exact ih) 0 (Nat.zero_le _)
  rw [List.drop_zero] at this
  refine Eq.trans this ?_
  simp [Bool.and_assoc]
theorem Zbko (m:Zd) (hm:LeM m) (c:Zp) (hc:LeC c):Zmn m c=some (Bo (Zex m c),[]):=by
 have:=Zbkn m hm c hc 0 (Nat.zero_le _)
 rw [List.drop_zero] at this
 refine Zbgz _ _ _ (Eq.trans this ?_)
 unfold Zex
 rcases tf (inR c.Clock 0 1000000) with e | e <;> rw [e] <;> simp [Bool.and_comm]
def dimD (lo hi:List Int) (k:Nat):Int:=hi.getD k 0 - lo.getD k 0+1
def locK (lo hi:List Int):Nat→Int→List Int→List Int
 | 0,_,out=>out
 | k+1,idx,out=>locK lo hi k (idx / dimD lo hi k) (out.set k (lo.getD k 0+idx % dimD lo hi k))
def locB (b:Box) (idx:Int):List Int:=locK b.Low b.High b.Low.length idx b.Low
theorem Znk {x:Int} (h1:-1000000000000000≤x) (h2:x≤1000000000000000):w x=x:=w_id (by omega) (by omega)
def locsB (b:Box):List (List Int):=(List.range (Zjh b.Low b.High).toNat).map fun i:Nat=>locB b i
def holdsAt (m:Zd) (q:Zc) (r:Region) (l:List Int):Bool:=!decide (w (r.Percent*(opt m q (Zbm l)).Cost)<w (100*Zcs m q.Ze q.Atoms r.Plan.Steps (Zbm l)))
open Classical in
noncomputable def holds (m:Zd) (q:Zc) (r:Region):Bool:=decide (Zcc m q r) && (decide (Zjh r.Box.Low r.Box.High≤400) && (locsB r.Box).all (holdsAt m q r))
theorem Zvr:∀ (l:List Int) (i:Nat) (e v:Int),l[i]?=some e→(l.set i v).sum=l.sum - e+v
 | [],i,e,v,h=>by simp at h
 | a::l,0,e,v,h=>by simp at h;subst h;simp;omega
 | a::l,i+1,e,v,h=>by simp at h;simp [Zvr l i e v h];omega
theorem Znl:∀ l:List Int,Zbo l=true→0≤l.sum∧l.sum≤7*l.length
 | [],h=>by simp
 | a::l,h=>by
  simp only [Zbo,List.all_cons,Bool.and_eq_true] at h
  have h1:=Znl l h.2
  have h2:=h.1
  simp only [inR,decide_eq_true_eq] at h2
  simp only [List.sum_cons,List.length_cons]
  omega
theorem Zvs:∀ {xs ys:List Int} {i:Nat} {b v:Int},Z3 xs ys=true→ys[i]?=some b→b≤v→Z3 (xs.set i v) ys=true
 | [],ys,i,b,v,h,_,_=>by simp [Z3]
 | x::xs,[],i,b,v,h,hb,_=>by simp at hb
 | x::xs,y::ys,0,b,v,h,hb,hv=>by simp at hb;subst hb;simp [Z3] at h ⊢;exact ⟨hv,h.2⟩
 | x::xs,y::ys,i+1,b,v,h,hb,hv=>by simp at hb;simp [Z3] at h ⊢;exact ⟨h.1,Zvs h.2 hb hv⟩
theorem Zvt:∀ {xs ys:List Int} {i:Nat} {b v:Int},Z3 xs ys=true→xs[i]?=some b→v≤b→Z3 xs (ys.set i v)=true
 | [],ys,i,b,v,h,hb,_=>by simp at hb
 | x::xs,[],i,b,v,h,hb,_=>by simp [Z3]
 | x::xs,y::ys,0,b,v,h,hb,hv=>by simp at hb;subst hb;simp [Z3] at h ⊢;exact ⟨hv,h.2⟩
 | x::xs,y::ys,i+1,b,v,h,hb,hv=>by simp at hb;simp [Z3] at h ⊢;exact ⟨h.1,Zvt h.2 hb hv⟩
theorem Zvu:∀ {lo xs hi:List Int},xs.length=lo.length→xs.length=hi.length→Z3 xs lo=true→Z3 hi xs=true→Zbo lo=true→Zbo hi=true→Zbo xs=true
 | lo,[],hi,_,_,_,_,_,_=>by simp [Zbo]
 | [],x::xs,hi,h,_,_,_,_,_=>by simp at h
 | a::lo,x::xs,[],_,h,_,_,_,_=>by simp at h
 | a::lo,x::xs,b::hi,h1,h2,h3,h4,h5,h6=>by
  simp only [Z3,Bool.and_eq_true,decide_eq_true_eq] at h3 h4
  simp only [Zbo,List.all_cons,Bool.and_eq_true,inR,decide_eq_true_eq] at h5 h6 ⊢
  simp at h1 h2
  exact ⟨by omega,Zvu (by omega) (by omega) h3.2 h4.2 h5.2 h6.2⟩
theorem Zvv:∀ {a b c:List Int},a.length=b.length→b.length=c.length→Z3 a b=true→Z3 b c=true→Z3 a c=true
 | [],b,c,_,_,_,_=>by simp [Z3]
 | x::a,[],c,h,_,_,_=>by simp at h
 | x::a,y::b,[],_,h,_,_=>by simp at h
 | x::a,y::b,z::c,h1,h2,h3,h4=>by
  simp only [Z3,Bool.and_eq_true,decide_eq_true_eq] at h3 h4 ⊢
  simp at h1 h2
  exact ⟨by omega,Zvv (by omega) (by omega) h3.2 h4.2⟩
structure Inr (lim:Box) (lo hi:List Int):Prop where
 l1:lo.length=lim.Low.length
 l2:hi.length=lim.Low.length
 d1:Z3 lo lim.Low=true
 d2:Z3 hi lo=true
 d3:Z3 lim.High hi=true
theorem Zp3 {lo hi:List Int} (h:Zbf lo hi=true):0<lo.length∧lo.length≤16∧Zbo lo=true∧Zbo hi=true∧hi.length=lo.length∧Z3 hi lo=true:=by
 unfold Zbf Z9 dom at h
 simp only [Bool.and_eq_true,decide_eq_true_eq] at h
 obtain ⟨⟨⟨h1,h2,h3⟩,h4,h5⟩,h6,h7⟩:=h
 exact ⟨h1,by omega,h2,h4,h6,h7⟩
theorem Inr.loc {lim:Box} {lo hi:List Int} (hL:Zbf lim.Low lim.High=true) (h:Inr lim lo hi):Zbo lo=true∧Zbo hi=true:=by
 obtain ⟨b1,b2,b3,b4,b5,b6⟩:=Zp3 hL
 have e1:=h.l1
 have e2:=h.l2
 exact ⟨Zvu (hi:=lim.High) (by omega) (by omega) h.d1 (Zvv (by omega) (by omega) h.d3 h.d2) b3 b4,Zvu (lo:=lim.Low) (by omega) (by omega) (Zvv (by omega) (by omega) h.d2 h.d1) h.d3 b3 b4⟩
theorem Zkj {l:List Int} {i:Nat} (h:i<l.length):l[i]?=some l[i]:=by simp [h]
theorem loc_at {l:List Int} (h:Zbo l=true) {i:Nat} {e:Int} (he:l[i]?=some e):0≤e∧e≤7:=by
 unfold Zbo at h
 rw [List.all_eq_true] at h
 have:=h e (List.mem_of_getElem? he)
 simpa [inR] using this
theorem dom_at:∀ {xs ys:List Int} {i:Nat} {a b:Int},Z3 xs ys=true→xs[i]?=some a→ys[i]?=some b→b≤a
 | [],ys,i,a,b,h,ha,hb=>by simp at ha
 | x::xs,[],i,a,b,h,ha,hb=>by simp at hb
 | x::xs,y::ys,0,a,b,h,ha,hb=>by simp at ha hb;subst ha hb;simp [Z3] at h;exact h.1
 | x::xs,y::ys,i+1,a,b,h,ha,hb=>by simp at ha hb;simp [Z3] at h;exact dom_at h.2 ha hb
def mu (lo hi:List Int):Nat:=(7*(hi.length:Int) - hi.sum+lo.sum).toNat
theorem Zp4 {l:List Int} {i:Nat} {e v:Int} (he:l[i]?=some e):(l.set i v).set i e=l:=by
 rw [List.set_set]
 obtain ⟨h,h2⟩:=List.getElem?_eq_some_iff.mp he
 rw [← h2]
 simp
theorem Inr.mu_lo {lim:Box} {lo hi:List Int} (hL:Zbf lim.Low lim.High=true) (h:Inr lim lo hi) {i:Nat} {e a:Int} (he:lo[i]?=some e) (ha:lim.Low[i]?=some a) (hlt:a<e):Inr lim (lo.set i (e - 1)) hi∧mu (lo.set i (e - 1)) hi<mu lo hi:=by
 have hi1:i<lo.length:=(List.getElem?_eq_some_iff.mp he).1
 have e1:=h.l1
 have e2:=h.l2
 have h':Inr lim (lo.set i (e - 1)) hi:=by
  refine ⟨by simp [e1],e2,Zvs h.d1 ha (by omega),?_,h.d3⟩
  have g:=Zkj (l:=hi) (i:=i) (by omega)
  have:=dom_at h.d2 g he
  exact Zvt h.d2 g (by omega)
 refine ⟨h',?_⟩
 obtain ⟨a1,a2⟩:=h'.loc hL
 have s1:=Znl _ a1
 have s2:=Znl _ a2
 have s3:=Zvr lo i e (e - 1) he
 unfold mu
 omega
theorem Inr.mu_hi {lim:Box} {lo hi:List Int} (hL:Zbf lim.Low lim.High=true) (h:Inr lim lo hi) {i:Nat} {e a:Int} (he:hi[i]?=some e) (ha:lim.High[i]?=some a) (hlt:e<a):Inr lim lo (hi.set i (e+1))∧mu lo (hi.set i (e+1))<mu lo hi:=by
 have hi1:i<hi.length:=(List.getElem?_eq_some_iff.mp he).1
 have e1:=h.l1
 have e2:=h.l2
 have h':Inr lim lo (hi.set i (e+1)):=by
  refine ⟨e1,by simp [e2],h.d1,?_,Zvt h.d3 ha (by omega)⟩
  have g:=Zkj (l:=lo) (i:=i) (by omega)
  have:=dom_at h.d2 he g
  exact Zvs h.d2 g (by omega)
 refine ⟨h',?_⟩
 obtain ⟨a1,a2⟩:=h'.loc hL
 have s1:=Znl _ a1
 have s2:=Znl _ a2
 have s3:=Zvr hi i e (e+1) he
 have s4:(hi.set i (e+1)).length=hi.length:=by simp
 unfold mu
 omega
def TI (m:Zd) (q:Zc) (lim:Box) (pc:Int) (st:List Zb) (lo hi loc:List Int) (again:Bool) (i:Int) (r:AV×List Blk):Prop :=
 ∃ e1:Int,lo[i.toNat]?=some e1∧∃ e2:Int,lim.Low[i.toNat]?=some e2∧if e2<e1 then (∃ v:Bool,Zdz m q (⟨(⟨st⟩:Plan),(⟨(lo.set i.toNat (w (e1 - 1))),hi⟩:Box),pc⟩:Region)=some (Bo v,[])∧if v=true then Zbz m q lim 0 pc st (lo.set i.toNat (w (e1 - 1))) hi loc true (loc.length:Int) (w (i+1))=some r else Zbz m q lim 0 pc st ((lo.set i.toNat (w (e1 - 1))).set i.toNat (w ((w (e1 - 1))+1))) hi loc again (loc.length:Int) (w (i+1))=some r) else Zbz m q lim 0 pc st lo hi loc again (loc.length:Int) (w (i+1))=some r
def TS (m:Zd) (q:Zc) (lim:Box) (pc:Int) (st:List Zb) (lo hi loc:List Int) (again:Bool) (i:Int) (r:AV×List Blk):Prop :=
 ∃ e1:Int,lo[i.toNat]?=some e1∧∃ e2:Int,lim.Low[i.toNat]?=some e2∧if e2<e1 then (∃ v:Bool,Zd7 m q (⟨(⟨st⟩:Plan),(⟨(lo.set i.toNat (w (e1 - 1))),hi⟩:Box),pc⟩:Region)=some (Bo v,[])∧if v=true then Zb0 m q lim 0 pc st (lo.set i.toNat (w (e1 - 1))) hi loc true (w (i+1))=some r else Zb0 m q lim 0 pc st ((lo.set i.toNat (w (e1 - 1))).set i.toNat (w ((w (e1 - 1))+1))) hi loc again (w (i+1))=some r) else Zb0 m q lim 0 pc st lo hi loc again (w (i+1))=some r
theorem le_of {lim:Box} {lo hi:List Int} (hL:Zbf lim.Low lim.High=true) (h:Inr lim lo hi) (st:List Zb) (pc:Int):LeR ⟨⟨st⟩,⟨lo,hi⟩,pc⟩:=by
 obtain ⟨b1,b2,b3,b4,b5,b6⟩:=Zp3 hL
 have e1:=h.l1
 have e2:=h.l2
 unfold LeR Le
 simp only
 omega
section
variable {m:Zd} {q:Zc} {lim:Box} {pc:Int} {st:List Zb} {loc:List Int} (hm:LeM m) (hq:LeQ q) (hL:Zbf lim.Low lim.High=true) (hR:∀ lo hi,Inr lim lo hi→Zcc m q ⟨⟨st⟩,⟨lo,hi⟩,pc⟩) (hn:loc.length=lim.Low.length)
include hm hq hL hR hn
omit hn in
theorem Zvw {lo hi:List Int} (h:Inr lim lo hi) (again:Bool) {i:Nat} (hi':i<lim.Low.length) {M:Nat} (hM:mu lo hi≤M) (hA:again=true→mu lo hi<M):∃ lo2 again2,Inr lim lo2 hi∧mu lo2 hi≤M∧(again2=true→mu lo2 hi<M)∧∀ r,(Zbz m q lim 0 pc st lo2 hi loc again2 (loc.length:Int) ((i+1:Nat):Int)=some r→TI m q lim pc st lo hi loc again i r)∧(Zb0 m q lim 0 pc st lo2 hi loc again2 ((i+1:Nat):Int)=some r→TS m q lim pc st lo hi loc again i r):=by
 obtain ⟨b1,b2,b3,b4,b5,b6⟩:=Zp3 hL
 have e1:=h.l1
 have e2:=h.l2
 have wi:w ((i:Int)+1)=((i+1:Nat):Int):=by rw [Znk (by omega) (by omega)];omega
 have g1:=Zkj (l:=lo) (i:=i) (by omega)
 have g2:=Zkj (l:=lim.Low) (i:=i) (by omega)
 have b:=loc_at (h.loc hL).1 g1
 have w1:w (lo[i]'(by omega) - 1)=lo[i]'(by omega) - 1:=Znk (by omega) (by omega)
 have w2:w (lo[i]'(by omega) - 1+1)=lo[i]'(by omega):=by rw [Znk (by omega) (by omega)];omega
 unfold TI TS
 rw [wi]
 simp only [Int.toNat_natCast]
 by_cases hlt:lim.Low[i]<lo[i]'(by omega)
 ·obtain ⟨n1,n2⟩:=h.mu_lo hL g1 g2 hlt
  have p1:=Zvp hm hq (le_of hL n1 st pc) (hR _ _ n1)
  have p2:=Zvq hm hq (le_of hL n1 st pc) (hR _ _ n1)
  rcases tf (Zki m q ⟨⟨st⟩,⟨lo.set i (lo[i]'(by omega) - 1),hi⟩,pc⟩) with e | e
  ·rw [e] at p1 p2
   refine ⟨lo,again,h,hM,hA,fun r=>⟨fun hr=>⟨_,g1,_,g2,?_⟩,fun hr=>⟨_,g1,_,g2,?_⟩⟩⟩
   ·rw [if_pos hlt,w1]
    refine ⟨_,p1,?_⟩
    rw [if_neg (by simp),w2,Zp4 g1];exact hr
   ·rw [if_pos hlt,w1]
    refine ⟨_,p2,?_⟩
    rw [if_neg (by simp),w2,Zp4 g1];exact hr
  ·rw [e] at p1 p2
   refine ⟨_,true,n1,by omega,fun _=>by omega,fun r=>⟨fun hr=>⟨_,g1,_,g2,?_⟩,fun hr=>⟨_,g1,_,g2,?_⟩⟩⟩
   ·rw [if_pos hlt,w1]
    refine ⟨_,p1,?_⟩
    rw [if_pos rfl];exact hr
   ·rw [if_pos hlt,w1]
    refine ⟨_,p2,?_⟩
    rw [if_pos rfl];exact hr
 ·exact ⟨lo,again,h,hM,hA,fun r=>⟨fun hr=>⟨_,g1,_,g2,by rw [if_neg hlt];exact hr⟩,fun hr=>⟨_,g1,_,g2,by rw [if_neg hlt];exact hr⟩⟩⟩
theorem dim_step {lo hi:List Int} (h:Inr lim lo hi) (again:Bool) {i:Nat} (hi':i<lim.Low.length) {M:Nat} (hM:mu lo hi≤M) (hA:again=true→mu lo hi<M):∃ lo2 hi2 again2,Inr lim lo2 hi2∧mu lo2 hi2≤M∧(again2=true→mu lo2 hi2<M)∧∀ r,(Zbz m q lim 0 pc st lo2 hi2 loc again2 (loc.length:Int) ((i+1:Nat):Int)=some r→Zbz m q lim 0 pc st lo hi loc again (loc.length:Int) i=some r)∧(Zb0 m q lim 0 pc st lo2 hi2 loc again2 ((i+1:Nat):Int)=some r→Zb0 m q lim 0 pc st lo hi loc again i=some r):=by
 obtain ⟨b1,b2,b3,b4,b5,b6⟩:=Zp3 hL
 have e1:=h.l1
 have e2:=h.l2
 have c1:(i:Int)<(loc.length:Int):=by omega
 have g1:=Zkj (l:=hi) (i:=i) (by omega)
 have g2:=Zkj (l:=lim.High) (i:=i) (by omega)
 have b:=loc_at (h.loc hL).2 g1
 have w1:w (hi[i]'(by omega)+1)=hi[i]'(by omega)+1:=Znk (by omega) (by omega)
 have w2:w (hi[i]'(by omega)+1 - 1)=hi[i]'(by omega):=by rw [Znk (by omega) (by omega)];omega
 by_cases hlt:hi[i]'(by omega)<lim.High[i]'(by omega)
 ·obtain ⟨n1,n2⟩:=h.mu_hi hL g1 g2 hlt
  have p1:=Zvp hm hq (le_of hL n1 st pc) (hR _ _ n1)
  have p2:=Zvq hm hq (le_of hL n1 st pc) (hR _ _ n1)
  rcases tf (Zki m q ⟨⟨st⟩,⟨lo,hi.set i (hi[i]'(by omega)+1)⟩,pc⟩) with e | e
  ·rw [e] at p1 p2
   obtain ⟨lo2,again2,s1,s2,s3,s4⟩:=Zvw hm hq hL hR h again hi' hM hA
   refine ⟨lo2,hi,again2,s1,s2,s3,fun r=>⟨fun hr=>Zpf _ _ _ _ _ _ _ _ _ _ _ _ _ ?_,fun hr=>Zpg _ _ _ _ _ _ _ _ _ _ _ _ ?_⟩⟩
   ·rw [if_pos c1]
    refine ⟨by omega,_,g1,_,g2,?_⟩
    simp only [Int.toNat_natCast]
    rw [if_pos hlt,w1]
    refine ⟨_,p1,?_⟩
    rw [if_neg (by simp),w2,Zp4 g1]
    exact Z31 _ _ _ _ _ _ _ _ _ _ _ _ _ _ ⟨by omega,(s4 r).1 hr⟩
   ·rw [if_pos c1]
    refine ⟨by omega,_,g1,_,g2,?_⟩
    simp only [Int.toNat_natCast]
    rw [if_pos hlt,w1]
    refine ⟨_,p2,?_⟩
    rw [if_neg (by simp),w2,Zp4 g1]
    exact Z32 _ _ _ _ _ _ _ _ _ _ _ _ ⟨by omega,(s4 r).2 hr⟩
  ·rw [e] at p1 p2
   obtain ⟨lo2,again2,s1,s2,s3,s4⟩:=Zvw hm hq hL hR n1 true hi' (M:=M) (by omega) (fun _=>by omega)
   refine ⟨lo2,_,again2,s1,s2,s3,fun r=>⟨fun hr=>Zpf _ _ _ _ _ _ _ _ _ _ _ _ _ ?_,fun hr=>Zpg _ _ _ _ _ _ _ _ _ _ _ _ ?_⟩⟩
   ·rw [if_pos c1]
    refine ⟨by omega,_,g1,_,g2,?_⟩
    simp only [Int.toNat_natCast]
    rw [if_pos hlt,w1]
    refine ⟨_,p1,?_⟩
    rw [if_pos rfl]
    exact Z31 _ _ _ _ _ _ _ _ _ _ _ _ _ _ ⟨by omega,(s4 r).1 hr⟩
   ·rw [if_pos c1]
    refine ⟨by omega,_,g1,_,g2,?_⟩
    simp only [Int.toNat_natCast]
    rw [if_pos hlt,w1]
    refine ⟨_,p2,?_⟩
    rw [if_pos rfl]
    exact Z32 _ _ _ _ _ _ _ _ _ _ _ _ ⟨by omega,(s4 r).2 hr⟩
 ·obtain ⟨lo2,again2,s1,s2,s3,s4⟩:=Zvw hm hq hL hR h again hi' hM hA
  refine ⟨lo2,hi,again2,s1,s2,s3,fun r=>⟨fun hr=>Zpf _ _ _ _ _ _ _ _ _ _ _ _ _ ?_,fun hr=>Zpg _ _ _ _ _ _ _ _ _ _ _ _ ?_⟩⟩
  ·rw [if_pos c1]
   refine ⟨by omega,_,g1,_,g2,?_⟩
   rw [if_neg hlt]
   exact (s4 r).1 hr
  ·rw [if_pos c1]
   refine ⟨by omega,_,g1,_,g2,?_⟩
   rw [if_neg hlt]
   exact (s4 r).2 hr
def grown (st:List Zb) (lo hi:List Int) (pc:Int):AV×List Blk:=(.tup [.agg [.own 0,.own 1,.own 2,I pc],Bo true],[.arr 142 3 true (st.map Zb.c),.arr 3 1 true (lo.map ic),.arr 3 1 true (hi.map ic)])
omit hm hq hL hR hn in
theorem l_stop (lo hi:List Int):Ziy m q lim 0 pc st lo hi loc false=some (grown st lo hi pc)∧Ziz m q lim 0 pc st lo hi loc false=some (grown st lo hi pc) :=
 ⟨Zbg1 _ _ _ _ _ _ _ _ _ _ _ (by rw [if_neg (by simp)];rfl),Zbg3 _ _ _ _ _ _ _ _ _ _ _ (by rw [if_neg (by simp)];rfl)⟩
theorem pass {M:Nat} (IH:∀ lo hi,Inr lim lo hi→mu lo hi<M→∃ lo' hi',Inr lim lo' hi'∧Ziy m q lim 0 pc st lo hi loc true=some (grown st lo' hi' pc)∧Ziz m q lim 0 pc st lo hi loc true=some (grown st lo' hi' pc)):∀ i,i≤loc.length→∀ lo hi again,Inr lim lo hi→mu lo hi≤M→(again=true→mu lo hi<M)→∃ lo' hi',Inr lim lo' hi'∧Zbz m q lim 0 pc st lo hi loc again (loc.length:Int) i=some (grown st lo' hi' pc)∧Zb0 m q lim 0 pc st lo hi loc again i=some (grown st lo' hi' pc):=by
 refine down loc.length ?_ ?_
 ·intro lo hi again h1 h2 h3
  have:∃ lo' hi',Inr lim lo' hi'∧Ziy m q lim 0 pc st lo hi loc again=some (grown st lo' hi' pc)∧Ziz m q lim 0 pc st lo hi loc again=some (grown st lo' hi' pc):=by
   rcases tf again with rfl | rfl
   ·exact ⟨lo,hi,h1,l_stop lo hi⟩
   ·exact IH lo hi h1 (h3 rfl)
  obtain ⟨lo',hi',a1,a2,a3⟩:=this
  exact ⟨lo',hi',a1,Zpf _ _ _ _ _ _ _ _ _ _ _ _ _ (by rw [if_neg (by omega)];exact a2),Zpg _ _ _ _ _ _ _ _ _ _ _ _ (by rw [if_neg (by omega)];exact a3)⟩
 ·intro i hi' ih lo hi again h1 h2 h3
  obtain ⟨lo2,hi2,again2,s1,s2,s3,s4⟩:=dim_step hm hq hL hR hn h1 again (i:=i) (by omega) h2 h3
  obtain ⟨lo',hi',a1,a2,a3⟩:=ih lo2 hi2 again2 s1 s2 s3
  exact ⟨lo',hi',a1,(s4 _).1 a2,(s4 _).2 a3⟩
end
@[simp] theorem Zbov (b:Box) (hb:LeX b) (l:List Int) (hl:Le l):Zue b l=some (Bo (inBox b.Low b.High l),[]):=by
 refine Zbg0 _ _ _ ?_
 unfold inBox
 have h1:=Zut b hb
 have h2:=Zus l b.Low hl
 have h3:=Zus b.High l hb.2
 refine ⟨_,h1,?_⟩
 rcases tf (Zbf b.Low b.High) with e | e
 ·rw [e];simp
 rw [e,if_pos rfl]
 refine ⟨_,h2,?_⟩
 rcases tf (dom l b.Low) with e2 | e2
 ·rw [e2];simp
 rw [e2,if_pos rfl]
 exact ⟨_,h3,by simp⟩
@[simp] theorem Zbow (b:Box) (hb:LeX b) (l:List Int) (hl:Le l):Zuf b l=some (Bo (inBox b.Low b.High l),[]):=by
 refine Zbg2 _ _ _ ?_
 unfold inBox
 have h1:=Zuu b hb
 have h2:=Zur l b.Low hl
 have h3:=Zur b.High l hb.2
 refine ⟨_,h1,?_⟩
 rcases tf (Zbf b.Low b.High) with e | e
 ·rw [e];simp
 rw [e,if_pos rfl]
 refine ⟨_,h2,?_⟩
 rcases tf (dom l b.Low) with e2 | e2
 ·rw [e2];simp
 rw [e2,if_pos rfl]
 exact ⟨_,h3,by simp⟩
abbrev Lq (q:Zc):Prop:=q.Atoms.length≤4294967296∧∀ a∈q.Atoms,a.Vars.length≤4294967296
abbrev Lr (r:Region):Prop:=r.Plan.Steps.length≤4294967296∧r.Box.Low.length≤4294967296∧r.Box.High.length≤4294967296
abbrev Lc (es:List Zf):Prop:=es.length≤4294967296∧∀ e∈es,Lq e.Zc∧Lr e.Region
theorem Lq.le {q:Zc} (h:Lq q):LeQ q:=⟨by have:=h.1;omega,fun a ha=>by have:=h.2 a ha;omega⟩
theorem Lc.le {c:Zp} (h:Lc c.Entries):LeC c:=⟨by have:=h.1;omega,fun e he=>⟨(h.2 e he).1.le,by have:=(h.2 e he).2.2.1;omega,by have:=(h.2 e he).2.2.2;omega⟩⟩
def qRes (n:Int) (as':List Atom):AV×List Blk:=if as'=[] then (.agg [I n,.t .nil],[]) else (.agg [I n,.own 0],[.arr 223 2 true (as'.map Atom.c)])
def rRes (r:Region):AV×List Blk:=(.agg [.own 0,.own 1,.own 2,I r.Percent],[.arr 142 3 true (r.Plan.Steps.map Zb.c),.arr 3 1 true (r.Box.Low.map ic),.arr 3 1 true (r.Box.High.map ic)])
def cRes (n:Int) (es:List Zf):AV×List Blk:=if es=[] then (.agg [I n,.t .nil],[]) else (.agg [I n,.own 0],[.arr 114 8 true (es.map Zf.c)])
theorem Zbkp (a b:Int) (as':List Atom) (h:as'.length≤4294967296∧∀ a∈as',a.Vars.length≤4294967296):∀ i,i≤as'.length→∀ acc,acc.length=i→Zi0 a b acc as' as'.length i=some (.agg [I b,.own 0],[.arr 223 2 true ((acc++as'.drop i).map Atom.c)]):=by
 refine down _ ?_ ?_
 ·intro acc ho
  refine Z33 _ _ _ _ _ _ _ ?_
  rw [if_neg (by omega),List.drop_length];simp
 ·intro i hi ih acc ho
  have h5:=inc64 (i:=i) (by omega)
  refine Z33 _ _ _ _ _ _ _ ?_
  rw [if_pos (by omega)]
  refine ⟨by omega,_,List.getElem?_eq_getElem hi,_,Zm9 _ (by have:=h.2 _ (List.getElem_mem hi);omega),by omega,?_⟩
  have ih:=ih (acc++[as'[i]]) (by simp [ho])
  rw [List.append_assoc,List.singleton_append,← List.drop_eq_getElem_cons hi] at ih
  rw [show w ((i:Int)+1)=((i+1:Nat):Int) from h5]
  exact ih
theorem Z58 (q:Zc) (h:Lq q):Zfr q=some (qRes q.Ze q.Atoms):=by
 refine Zbg5 _ _ (Zbg4 _ _ _ _ _ _ ?_)
 unfold qRes
 cases he:q.Atoms with
 | nil=>simp
 | cons a as' =>
  rw [if_pos (by simp)]
  have hv:=h.2 a (by rw [he];simp)
  refine ⟨by omega,a,rfl,_,Zm9 _ (by omega),?_⟩
  have:=Zbkp 0 q.Ze (a::as') (by rw [← he];exact h) 1 (by simp) [a] rfl
  rw [show w (0+1)=((1:Nat):Int) from by decide,if_neg (by simp)]
  exact this
theorem Zbkq (b:Box) (h1:b.Low.length≤4294967296) (h2:b.High.length≤4294967296):Zms b=some (.agg [.own 0,.own 1],[.arr 3 1 true (b.Low.map ic),.arr 3 1 true (b.High.map ic)]):=Zbg6 _ _ ⟨_,Zm9 _ (by omega),_,Zm9 _ (by omega),rfl⟩
theorem x_copyPl (p:Plan) (h:p.Steps.length≤4294967296):Zcy p=some (.agg [.own 0],[.arr 142 3 true (p.Steps.map Zb.c)]):=Z2o _ _ ⟨by omega,rfl⟩
theorem Z59 (r:Region) (h:Lr r):Zfs r=some (rRes r):=Zbg7 _ _ ⟨_,x_copyPl _ h.1,_,_,Zbkq _ h.2.1 h.2.2,rfl⟩
theorem entE (e:Zf) (he:e.Zc.Atoms=[]):(⟨⟨e.Zc.Ze,[]⟩,⟨⟨e.Region.Plan.Steps⟩,⟨e.Region.Box.Low,e.Region.Box.High⟩,e.Region.Percent⟩,e.Version,e.Used⟩:Zf)=e:=by rw [← he]
theorem Zbkr (a b:Int) (es:List Zf) (h:Lc es):∀ i,i≤es.length→∀ acc,acc.length=i→Zft a b acc es es.length i=some (.agg [I b,.own 0],[.arr 114 8 true ((acc++es.drop i).map Zf.c)]):=by
 refine down _ ?_ ?_
 ·intro acc ho
  refine Z34 _ _ _ _ _ _ _ ?_
  rw [if_neg (by omega),List.drop_length];simp
 ·intro i hi ih acc ho
  have h5:=inc64 (i:=i) (by have:=h.1;omega)
  have hl:=h.1
  obtain ⟨g1,g2⟩:=h.2 _ (List.getElem_mem hi)
  have ih:=ih (acc++[es[i]]) (by simp [ho])
  rw [List.append_assoc,show [es[i]]++es.drop (i+1)=es.drop i by rw [List.drop_eq_getElem_cons hi];rfl] at ih
  have q1:=Z58 _ g1
  have q2:=Z59 _ g2
  refine Z34 _ _ _ _ _ _ _ ?_
  rw [if_pos (by omega)]
  refine ⟨by omega,_,List.getElem?_eq_getElem hi,?_⟩
  rw [show w ((i:Int)+1)=((i+1:Nat):Int) from h5]
  unfold qRes at q1
  by_cases he:es[i].Zc.Atoms=[]
  ·rw [if_pos he] at q1
   exact .inl ⟨_,q1,_,_,_,_,q2,by omega,by rw [entE _ he];exact ih⟩
  ·rw [if_neg he] at q1
   exact .inr ⟨_,_,q1,_,_,_,_,q2,by omega,ih⟩
theorem Zbks (c:Zp) (h:Lc c.Entries):Zjy c=some (cRes c.Clock c.Entries):=by
 refine Zbg9 _ _ (Zbg8 _ _ _ _ _ _ ?_)
 unfold cRes
 cases he:c.Entries with
 | nil=>simp
 | cons e es =>
  rw [if_pos (by simp),if_neg (by simp)]
  rw [he] at h
  obtain ⟨g1,g2⟩:=h.2 e (by simp)
  have q1:=Z58 _ g1
  have q2:=Z59 _ g2
  have ih:=Zbkr 0 c.Clock (e::es) h 1 (by simp) [e] rfl
  simp only [List.drop_succ_cons,List.drop_zero,List.singleton_append] at ih
  refine ⟨by omega,e,rfl,?_⟩
  rw [show w (0+1)=((1:Nat):Int) from by decide]
  unfold qRes at q1
  by_cases he2:e.Zc.Atoms=[]
  ·rw [if_pos he2] at q1
   exact .inl ⟨_,q1,_,_,_,_,q2,by rw [entE _ he2];exact ih⟩
  ·rw [if_neg he2] at q1
   exact .inr ⟨_,_,q1,_,_,_,_,q2,ih⟩
theorem Zbkt (q:Zc) (h:Lq q) (a b:Int):∀ i,i≤q.Atoms.length→∀ acc,acc.length=i→Zi1 q a b acc i=some (.agg [I b,.own 0],[.arr 223 2 true ((acc++q.Atoms.drop i).map Atom.c)]):=by
 refine down _ ?_ ?_
 ·intro acc ho
  refine Z35 _ _ _ _ _ _ ?_
  rw [if_neg (by omega),List.drop_length];simp
 ·intro i hi ih acc ho
  have h5:=inc64 (i:=i) (by have:=h.1;omega)
  have hl:=h.1
  refine Z35 _ _ _ _ _ _ ?_
  rw [if_pos (by omega)]
  refine ⟨by omega,_,List.getElem?_eq_getElem hi,by have:=h.2 _ (List.getElem_mem hi);omega,by omega,?_⟩
  have ih:=ih (acc++[q.Atoms[i]]) (by simp [ho])
  rw [List.append_assoc,List.singleton_append,← List.drop_eq_getElem_cons hi] at ih
  rw [show w ((i:Int)+1)=((i+1:Nat):Int) from h5]
  exact ih
theorem x_l7Copy (q:Zc) (h:Lq q):Zjz q=some (qRes q.Ze q.Atoms):=by
 refine Zbhb _ _ (Zbha _ _ _ _ _ ?_)
 unfold qRes
 by_cases he:q.Atoms=[]
 ·simp [he]
 ·have hlt:0<q.Atoms.length:=List.length_pos_iff.2 he
  rw [if_pos (by omega),if_neg he]
  have hv:=h.2 _ (List.getElem_mem hlt)
  refine ⟨by omega,_,List.getElem?_eq_getElem hlt,by omega,?_⟩
  have:=Zbkt q h 0 q.Ze 1 (by omega) [q.Atoms[0]] rfl
  rw [show w (0+1)=((1:Nat):Int) from by decide,this,List.singleton_append,← List.drop_eq_getElem_cons hlt,List.drop_zero]
theorem Zbku (b:Box) (h1:b.Low.length≤4294967296) (h2:b.High.length≤4294967296):Zmx b=some (.agg [.own 0,.own 1],[.arr 3 1 true (b.Low.map ic),.arr 3 1 true (b.High.map ic)]):=Zbhc _ _ ⟨by omega,by omega,rfl⟩
theorem Zbkv (r:Region) (h:Lr r):Zj0 r=some (rRes r):=Zbhd _ _ ⟨by have:=h.1;omega,_,_,Zbku _ h.2.1 h.2.2,rfl⟩
theorem Zp5 (e:Zf) (h:Lq e.Zc∧Lr e.Region):(e.Zc.Atoms=[]∧Zcf e=some (.agg [I e.Zc.Ze,.t .nil,.own 0,.own 1,.own 2,I e.Region.Percent,I e.Version,I e.Used],[.arr 142 3 true (e.Region.Plan.Steps.map Zb.c),.arr 3 1 true (e.Region.Box.Low.map ic),.arr 3 1 true (e.Region.Box.High.map ic)])) ∨
  (e.Zc.Atoms≠[]∧Zcf e=some (.agg [I e.Zc.Ze,.own 0,.own 1,.own 2,.own 3,I e.Region.Percent,I e.Version,I e.Used],[.arr 223 2 true (e.Zc.Atoms.map Atom.c),.arr 142 3 true (e.Region.Plan.Steps.map Zb.c),.arr 3 1 true (e.Region.Box.Low.map ic),.arr 3 1 true (e.Region.Box.High.map ic)])):=by
 have q1:=x_l7Copy _ h.1
 have q2:=Zbkv _ h.2
 unfold qRes at q1
 by_cases he:e.Zc.Atoms=[]
 ·rw [if_pos he] at q1
  exact .inl ⟨he,Z36 _ _ (.inl ⟨_,q1,_,_,_,_,q2,rfl⟩)⟩
 ·rw [if_neg he] at q1
  exact .inr ⟨he,Z36 _ _ (.inr ⟨_,_,q1,_,_,_,_,q2,rfl⟩)⟩
theorem Zbkw (c:Zp) (h:Lc c.Entries) (a b:Int):∀ i,i≤c.Entries.length→∀ acc,acc.length=i→Zfu c a b acc i=some (.agg [I b,.own 0],[.arr 114 8 true ((acc++c.Entries.drop i).map Zf.c)]):=by
 refine down _ ?_ ?_
 ·intro acc ho
  refine Z37 _ _ _ _ _ _ ?_
  rw [if_neg (by omega),List.drop_length];simp
 ·intro i hi ih acc ho
  have h5:=inc64 (i:=i) (by have:=h.1;omega)
  have hl:=h.1
  have ih:=ih (acc++[c.Entries[i]]) (by simp [ho])
  rw [List.append_assoc,show [c.Entries[i]]++c.Entries.drop (i+1)=c.Entries.drop i by rw [List.drop_eq_getElem_cons hi];rfl] at ih
  refine Z37 _ _ _ _ _ _ ?_
  rw [if_pos (by omega)]
  refine ⟨by omega,_,List.getElem?_eq_getElem hi,?_⟩
  rw [show w ((i:Int)+1)=((i+1:Nat):Int) from h5]
  rcases Zp5 _ (h.2 _ (List.getElem_mem hi)) with ⟨he,q⟩ | ⟨he,q⟩
  ·exact .inl ⟨_,_,_,_,_,_,_,q,by omega,by rw [entE _ he];exact ih⟩
  ·exact .inr ⟨_,_,_,_,_,_,_,_,q,by omega,ih⟩
theorem Zbkx (c:Zp) (h:Lc c.Entries):Zj1 c=some (cRes c.Clock c.Entries):=by
 refine Zbhf _ _ (Zbhe _ _ _ _ _ ?_)
 unfold cRes
 by_cases he:c.Entries=[]
 ·simp [he]
 ·have hlt:0<c.Entries.length:=List.length_pos_iff.2 he
  rw [if_pos (by omega),if_neg he]
  have ih:=Zbkw c h 0 c.Clock 1 (by omega) [c.Entries[0]] rfl
  rw [List.singleton_append,← List.drop_eq_getElem_cons hlt,List.drop_zero] at ih
  refine ⟨by omega,_,List.getElem?_eq_getElem hlt,?_⟩
  rw [show w (0+1)=((1:Nat):Int) from by decide]
  rcases Zp5 _ (h.2 _ (List.getElem_mem hlt)) with ⟨he,q⟩ | ⟨he,q⟩
  ·exact .inl ⟨_,_,_,_,_,_,_,q,by rw [entE _ he];exact ih⟩
  ·exact .inr ⟨_,_,_,_,_,_,_,_,q,ih⟩
end Go.Proofs.YtbapkgocloaaeaaGreat
namespace Go.Proofs.YtbapkgocloaaeaaGreat
open Go.RowKit
def zEnt:Value:=.agg #[.int .i64 0,.slice none 0 0,.slice none 0 0,.slice none 0 0,.slice none 0 0,.int .i64 0,.int .i64 0,.int .i64 0]
theorem Zi9 {w:World} {b t:Nat} {cur:Array Value} {te:TypeId} (hh:w.heap[b]?=some (.cells cur te (0,0))):w.cell? ⟨b,t,none⟩=cur[t]?:=by
 simp [World.cell?,hh]
theorem Zvx {w:World} {b t:Nat} {cur:Array Value} {te:TypeId} (hh:w.heap[b]?=some (.cells cur te (0,0))):w.frozen? ⟨b,t,none⟩=false:=by
 simp [World.frozen?,hh]
theorem Z6a {w:World} {g o:Nat} {te:TypeId} {cur:Array Value} (hg:w.heap[g]?=some (.cells cur te (0,0))) {vs:List Value} (hle:o+vs.length≤cur.size) (h1:∀ v∈vs,v.oneCell'=true) :
  w.setCells g o vs=w.setRow g (cur.toList.take o++vs++cur.toList.drop (o+vs.length)).toArray:=by
 have a:=run_storeCells_at (P:=Tryz.prog) g o te vs 0 cur w hg (by simpa using hle) h1
 have b:=run_storeCells_cells (P:=Tryz.prog) g o vs 0 w (by
  intro j hj
  rw [Zi9 hg,Array.getElem?_eq_getElem (by omega)]
  rfl) (fun j hj=>Zvx hg) h1
 rw [b] at a
 simpa using a
theorem zero_one (n:Nat):∀ v∈(Builtin.zeroCells zEnt.cells n).toList,v.oneCell'=true:=by
 intro v hv
 simp only [Builtin.zeroCells,Array.toList_map,List.mem_map] at hv
 obtain ⟨k,hk,rfl⟩:=hv
 have hlt:k % zEnt.cells.size<zEnt.cells.size:=Nat.mod_lt _ (by decide)
 rw [getElem!_pos zEnt.cells _ hlt]
 have:∀ t:Fin 8,(zEnt.cells[t.1]'(by exact t.2)).oneCell'=true:=by decide
 exact this ⟨_,hlt⟩
theorem Z6b (n:Nat):(Builtin.zeroCells zEnt.cells n).toList.length=n*8:=by
 simp [Builtin.zeroCells];rfl
theorem Zbky {P:Program} (w:World) (t e ty:TypeId) (z:Value) (ht:P.underlying t=some (.slice e)) (hv:∀ w,(zeroValue e).run P w=.ok z w) (h1:∀ v∈z.cells.toList,v.oneCell'=true) (b o n c:Nat) (hn:0<n)
  (hc:∀ j,j<n*z.cells.size→(w.cell? ⟨b,o+j,none⟩).isSome=true) (hf:∀ j,j<n*z.cells.size→w.frozen? ⟨b,o+j,none⟩=false) :
  (Builtin.clear_ #[t] ty #[.slice (some ⟨b,o,none⟩) n c]).run P w=.ok (.tuple #[]) (w.setCells b o (Builtin.zeroCells z.cells n).toList):=by
 have hl:(Builtin.zeroCells z.cells n).toList.length=n*z.cells.size:=by simp [Builtin.zeroCells]
 have hst:=run_storeCells_cells (P:=P) b o (Builtin.zeroCells z.cells n).toList 0 w (by intro j hj;rw [hl] at hj;simpa using hc j hj) (by intro j hj;rw [hl] at hj;simpa using hf j hj) (by
  intro v hv'
  simp only [Builtin.zeroCells,Array.toList_map,List.mem_map] at hv'
  obtain ⟨k,hk,rfl⟩:=hv'
  have hk2:k<n*z.cells.size:=by simpa using hk
  have hz:0<z.cells.size:=by
   rcases Nat.eq_zero_or_pos z.cells.size with h | h
   ·rw [h] at hk2;omega
   ·exact h
  have hlt:k % z.cells.size<z.cells.size:=Nat.mod_lt _ hz
  rw [getElem!_pos z.cells _ hlt]
  exact h1 _ (by simp))
 simp only [Nat.add_zero] at hst
 obtain ⟨m,rfl⟩:∃ m,n=m+1:=⟨n - 1,by omega⟩
 simp [Builtin.clear_,run_underlying ht,hv,hst]
end Go.Proofs.YtbapkgocloaaeaaGreat
