/-
  Parts of the proofs for this seat: DFX SX DR K FA MP MQ.
-/
import Derived.Test.YtbapkgocloaaeaaGreatP3
import Derived.Test.YtbapkgocloaaeaaGreatP6
import Derived.Test.YtbapkgocloaaeaaGreatP7
import Derived.Test.YtbapkgocloaaeaaGreatP13
import Derived.Test.YtbapkgocloaaeaaGreatP14
import Derived.Test.YtbapkgocloaaeaaGreatP15
set_option linter.unusedSimpArgs false
set_option linter.unusedVariables false
set_option maxRecDepth 100000
set_option maxHeartbeats 4000000
namespace Go.Proofs.YtbapkgocloaaeaaGreat
open Go.RowKit Go.AM
def EntryT (e:List T):Prop:=∃ t0 t1 t2 t3 t4 t5 x t7,e=[t0,t1,t2,t3,t4,t5,.int .i64 x,t7]
theorem Zbk1 {e:List T} (h:entB e=true):EntryT e:=by
 unfold entB at h
 split at h
 ·exact ⟨_,_,_,_,_,_,_,_,rfl⟩
 ·cases h
theorem Z6g {w:World} {e:List T} {z:List Value} {f:List Nat} (he:EntryT e) (h:TRs w e z f) (v:Int):Znm z∧(!old v z)=Zcl v e:=by
 obtain ⟨t0,t1,t2,t3,t4,t5,x,t7,rfl⟩:=he
 cases h with | cons h0 h =>
 cases h with | cons h1 h =>
 cases h with | cons h2 h =>
 cases h with | cons h3 h =>
 cases h with | cons h4 h =>
 cases h with | cons h5 h =>
 cases h with | cons h6 h =>
 cases h6
 cases h with | cons h7 h =>
 cases h
 refine ⟨⟨_,_,_,_,_,_,_,_,rfl⟩,?_⟩
 simp [old,Zcl,bne]
theorem Zbk2 {v:Int}:Sound Tryz.prog 172 [.t .nil,.fn 173 [.ptr 0 0]] [.box [.t (.int .i64 v)]] (.t .nil) [.box [.t (.int .i64 v)]]:=by
 refine ⟨by decide +kernel,?_⟩
 intro N base w ρ vs R hdom hv hz
 obtain ⟨l⟩:=vs
 simp only at hv
 cases hv with | cons q0 hv =>
 cases hv with | cons q1 hv =>
 cases hv
 cases q0 with | t q0 _ =>
 cases q0
 cases q1 with | fn q1 =>
 rename_i c
 obtain ⟨c⟩:=c
 simp only at q1
 cases q1 with | cons q1 q2 =>
 cases q2
 refine (Z6f _ w).mono ?_
 rintro e w' ⟨rfl,rfl⟩
 exact ⟨_,ρ,rfl,Below.refl _ _,R,.t .nil (by intro g hg;cases hg),hdom,Nat.le_refl _,fun _ _ _=>rfl,fun g _ hg=>⟨hz g hg,rfl⟩,fun b r0 _ h=>⟨r0,h,rfl⟩⟩
theorem Zbk3 {fr:Bool} {es:List (List T)} {v:Int} (hE:∀ e∈es,EntryT e):Sound Tryz.prog 172 [.own 0,.fn 173 [.ptr 1 0]] [.arr 114 8 fr es,.box [.t (.int .i64 v)]] (.own 2) [.dead,.box [.t (.int .i64 v)],.arr 114 8 fr (es.filter (Zcl v))]:=by
 refine ⟨by decide +kernel,?_⟩
 intro N base w ρ vs R hdom hv hz
 obtain ⟨l⟩:=vs
 simp only at hv
 cases hv with | cons q0 hv =>
 cases hv with | cons q1 hv =>
 cases hv
 cases q0 with | own hr h1 =>
 rename_i r
 cases q1 with | fn q1 =>
 rename_i c
 obtain ⟨c⟩:=c
 simp only at q1
 cases q1 with | cons q1 q2 =>
 cases q2
 cases q1 with | ptr hr1 hv1 =>
 rename_i vb r1
 have hb:gt [Blk.arr 114 8 fr es,.box [.t (.int .i64 v)]] 0=.arr 114 8 fr es:=by simp [gt]
 have hb1:gt [Blk.arr 114 8 fr es,.box [.t (.int .i64 v)]] 1=.box [.t (.int .i64 v)]:=by simp [gt]
 have hd0:gt [Blk.arr 114 8 fr es,.box [.t (.int .i64 v)]] 0≠.dead:=by rw [hb];intro hc;cases hc
 have hd1:gt [Blk.arr 114 8 fr es,.box [.t (.int .i64 v)]] 1≠.dead:=by rw [hb1];intro hc;cases hc
 obtain ⟨r2,e1,e2⟩:=R.blk 0 hd0
 rw [hr] at e1
 cases e1
 rw [hb] at e2
 obtain ⟨r3,e3,e4⟩:=R.blk 1 hd1
 rw [hr1] at e3
 cases e3
 rw [hb1] at e4
 obtain ⟨_,g1,c1,t1,e5,hb1g,hg1,hc1,_⟩:=e4
 rw [hv1] at e5
 cases e5
 obtain ⟨hex,e',xs,hel,ho,hsz,hlen,htr,hfree,hfr,how⟩:=e2
 obtain ⟨hxl,ho⟩:=ho
 have fin:∀ (e:Ending) (w':World) (r':Root) (n:Nat),(∃ a,r'.v=.slice a n (match r'.v with | .slice _ _ c=>c | _=>0))→e=.returned r'.v→Below base w w'→Rel N base (updM ρ 2 r') [.dead,.box [.t (.int .i64 v)],.arr 114 8 fr (es.filter (Zcl v))] w' →
   Keeps ρ w (Free N ρ [.arr 114 8 fr es,.box [.t (.int .i64 v)]]) (updM ρ 2 r') w' (Free N (updM ρ 2 r') [.dead,.box [.t (.int .i64 v)],.arr 114 8 fr (es.filter (Zcl v))])→(∀ g,g<w.heap.size→¬ N.a g→w'.heap[g]?=w.heap[g]?) →
   ∃ v1 ρ',e=.returned v1∧Below base w w'∧Rel N base ρ' [.dead,.box [.t (.int .i64 v)],.arr 114 8 fr (es.filter (Zcl v))] w'∧RV ρ' w' (Free N ρ' [.dead,.box [.t (.int .i64 v)],.arr 114 8 fr (es.filter (Zcl v))]) (.own 2) v1∧(∀ b,3≤b→ρ' b=none)∧2≤3 ∧
    (∀ g,g<w.heap.size→¬ N.a g→w'.heap[g]?=w.heap[g]?)∧(∀ g,g<w.heap.size→N.z g→Free N ρ' [.dead,.box [.t (.int .i64 v)],.arr 114 8 fr (es.filter (Zcl v))] g∧w'.heap[g]?=w.heap[g]?) ∧
    ∀ b r0,b<2→ρ b=some r0→∃ r1,ρ' b=some r1∧r1.v=r0.v:=by
  intro e w' r' n hs he hB p1 p2 p3
  refine ⟨_,_,he,hB,p1,.own (b:=2) (r:=r') (by simp [updM]) (by obtain ⟨a,ha⟩:=hs;rw [ha];rfl),fun b hb=>?_,by decide,p3,fun g hg hzz=>p2.free g hg (hz g hzz),fun b r0 hb h0=>⟨r0,?_,rfl⟩⟩
  ·simp only [updM]
   rw [if_neg (by omega)]
   exact hdom b (by simp;omega)
  ·simp only [updM]
   rw [if_neg (by omega)]
   exact h0
 rcases ho with ⟨hrv,hn⟩ | ⟨g,cap,cur,hrv,hbg,hg,hcap,hcm,hcur,htake⟩
 ·have hn:es=[]:=List.length_eq_zero_iff.1 hn
  subst hn
  rw [hrv]
  refine (Z6f _ w).mono ?_
  rintro e w' ⟨rfl,rfl⟩
  obtain ⟨p1,p2,p3⟩:=fltN_rel R hr hdom (w':=w') ⟨rfl,rfl,rfl,Nat.le_refl _,fun _ _ _=>rfl⟩
  exact fin _ _ _ 0 ⟨none,rfl⟩ rfl (Below.refl _ _) p1 p2 p3
 obtain ⟨zs,hzx,hch⟩:=Ch.of htr
 have hzl:=hch.length
 have hgne:vb≠g:=by
  intro h
  subst h
  have:=R.inj 1 0 r1 r vb hr1 hr hd1 hd0 (.inl (by rw [hv1];rfl)) (.inl (by rw [hrv];rfl))
  cases this
 have hcell:w.cell? ⟨vb,0,none⟩=some (.int .i64 v):=by
  obtain ⟨c1⟩:=c1
  simp only at hc1
  cases hc1 with | cons k0 k1 =>
  cases k1
  cases k0 with | t k0 _ =>
  cases k0
  rw [Zi9 hg1]
  rfl
 have hpv:∀ e∈es,∀ z f,TRs w e z f→(!old v z)=Zcl v e:=fun e he z f h=>(Z6g (hE e he) h v).2
 have hone:=htr.one
 rw [hrv]
 have hwalk:=Zbk0 g vb es.length cap e' v zs cur w hg hzl (by rw [htake,hzx]) hcur hcap (by unfold maxLen at hcm;omega)
  (fun z hz=>by obtain ⟨e,f,h1,h2⟩:=hch.mem hz;exact (Z6g (hE e h1) h2 v).1)
  (fun z hz x hx=>hone x (by rw [← hzx];exact List.mem_flatten.2 ⟨z,hz,hx⟩)) (Array.getElem?_eq_some_iff.1 hg1).1 hgne hcell
 refine hwalk.mono ?_
 rintro e w' ⟨he,hc2,hgr⟩
 obtain ⟨fp0,_,hch2⟩:=hch.filter hpv
 have hkl:(kept v zs).length=(es.filter (Zcl v)).length:=hch2.length
 rw [hkl] at he hc2
 have hzl2:=Z6b (es.length - (es.filter (Zcl v)).length)
 generalize (Builtin.zeroCells zEnt.cells (es.length - (es.filter (Zcl v)).length)).toList=zr at hc2 hzl2
 obtain ⟨fp',p1,p2,p3⟩:=flt_rel R rfl hr hdom hrv hg hch (by rw [hzx,htake]) hpv (zr:=zr) hzl2 hc2 hgr
 refine fin e w' _ (es.filter (Zcl v)).length ⟨some ⟨g,0,none⟩,rfl⟩ he ?_ p1 p2 p3
 obtain ⟨a1,a2,a3,a4,a5⟩:=hgr
 exact ⟨a1,a2,a3,a4,fun k hk=>a5 k (Nat.lt_of_lt_of_le hk R.hb) (by intro h;cases h;omega)⟩
theorem Zbk4 (f:Nat) (xs:List AV) (h0:List Blk) (r:AV) (hr:List Blk) (h:ext f xs h0=some (r,hr)):Sound Tryz.prog f xs h0 r hr:=by
 unfold ext at h
 split at h
 ·split at h
  ·rename_i fr es v hc
   obtain ⟨rfl,h1⟩:=hc
   cases h
   exact Zbk3 fun e he=>Zbk1 (List.all_eq_true.1 h1 e he)
  ·cases h
 ·split at h
  ·rename_i v hc
   subst hc
   cases h
   exact Zbk2
  ·cases h
 ·cases h
theorem sound {f:Nat} {xs:List AV} {h0:List Blk} {r:AV} {hr:List Blk} (h:C f xs h0=some (r,hr)):Sound Tryz.prog f xs h0 r hr:=callC_sound (tblOK _ _) Zbk4 h
theorem tDF:tbl 172=none:=by kernel_rfl
def stay (v:Int) (es:List Zf):List Zf:=es.filter fun e=>e.Version == v
theorem Z6h (v:Int) (es:List Zf):(stay v es).length≤es.length:=List.length_filter_le _ _
theorem stay_mem (v:Int) (es:List Zf):∀ x∈stay v es,x∈es:=fun _ hx=>(List.mem_filter.1 hx).1
theorem Zbk5 (v:Int):Zo9 v=some (.t .nil,[.box [I v]]):=by
 unfold Zo9
 refine callC_ext tDF ?_
 rfl
theorem Zbk6 (es:List Zf) (v:Int):Zpa es v=some (.own 2,[.dead,.box [I v],.arr 114 8 true ((stay v es).map Zf.c)]):=by
 unfold Zpa
 refine callC_ext tDF ?_
 have h1:(es.map Zf.c).all entB=true:=by
  rw [List.all_map,List.all_eq_true]
  intro e _
  rfl
 have h2:(es.map Zf.c).filter (Zcl v)=(stay v es).map Zf.c:=by
  rw [List.filter_map];rfl
 show (if 172=172∧(es.map Zf.c).all entB=true then _ else _)=_
 rw [if_pos ⟨rfl,h1⟩,h2]
def dsNo (c:Zp):AV×List Blk:=if c.Entries=[] then (.tup [.agg [I c.Clock,.t .nil],I 0],[]) else (.tup [.agg [I c.Clock,.own 0],I 0],[.arr 114 8 true (c.Entries.map Zf.c)])
def dsI (c:Zp) (v:Int):AV×List Blk:=if c.Entries=[] then (.tup [.agg [I c.Clock,.t .nil],I 0],[]) else (.tup [.agg [I c.Clock,.own 0],I ((c.Entries.length:Int) - (stay v c.Entries).length)],[.arr 114 8 true ((stay v c.Entries).map Zf.c)])
def dsS (c:Zp) (v:Int):AV×List Blk:=if stay v c.Entries=[] then (.tup [.agg [I c.Clock,.t .nil],I c.Entries.length],[]) else (.tup [.agg [I c.Clock,.own 0],I ((c.Entries.length:Int) - (stay v c.Entries).length)],[.arr 114 8 true ((stay v c.Entries).map Zf.c)])
theorem Zbk7 (m:Zd) (hm:LeM m) (c:Zp) (h:Lc c.Entries) (v:Int):Zpb m c v=some (if Zex m c=true then dsI c v else dsNo c):=by
 have q1:=Zbks c h
 have q2:=Zbkl m hm c h.le
 have hl:=h.1
 have hk:=Z6h v c.Entries
 unfold cRes at q1
 refine Zbhg _ _ _ _ ?_
 unfold dsI dsNo
 by_cases he:c.Entries=[]
 ·rw [if_pos he] at q1
  refine .inl ⟨_,q1,_,q2,?_⟩
  rw [if_pos he,if_pos he]
  rcases tf (Zex m c) with e | e
  ·rw [e,if_neg (by decide)];rfl
  ·rw [if_pos e,if_pos e]
   refine ⟨_,Zbk5 v,?_⟩
   rw [he];rfl
 ·rw [if_neg he] at q1
  refine .inr ⟨_,_,q1,_,q2,?_⟩
  rw [if_neg he,if_neg he]
  rcases tf (Zex m c) with e | e
  ·rw [e,if_neg (by decide)];rfl
  ·rw [if_pos e,if_pos e]
   refine ⟨_,_,Zbk6 _ v,?_⟩
   rw [show w ((c.Entries.length:Int) - (stay v c.Entries).length)=(c.Entries.length:Int) - (stay v c.Entries).length from wrap64 (by omega) (by omega)]
theorem Zbk8 (c:Zp) (h:Lc c.Entries) (a b v:Int):∀ i,i≤c.Entries.length→∀ acc,acc.length≤i→Zer c a b acc v i=some (.tup [.agg [I b,.own 0],I ((c.Entries.length:Int) - (acc++stay v (c.Entries.drop i)).length)],[.arr 114 8 true ((acc++stay v (c.Entries.drop i)).map Zf.c)]):=by
 have hl:=h.1
 refine down _ ?_ ?_
 ·intro acc ho
  refine Z39 _ _ _ _ _ _ _ ?_
  rw [if_neg (by omega),List.drop_length,show stay v []=[] from rfl,List.append_nil,show w ((c.Entries.length:Int) - acc.length)=(c.Entries.length:Int) - acc.length from wrap64 (by omega) (by omega)]
 ·intro i hi ih acc ho
  have h5:=inc64 (i:=i) (by omega)
  refine Z39 _ _ _ _ _ _ _ ?_
  rw [if_pos (by omega)]
  refine ⟨by omega,_,List.getElem?_eq_getElem hi,?_⟩
  rw [show w ((i:Int)+1)=((i+1:Nat):Int) from h5,List.drop_eq_getElem_cons hi]
  by_cases hv:c.Entries[i].Version=v
  ·rw [if_pos hv]
   have ih:=ih (acc++[c.Entries[i]]) (by simp;omega)
   rw [List.append_assoc,List.singleton_append] at ih
   have hs:stay v (c.Entries[i]::c.Entries.drop (i+1))=c.Entries[i]::stay v (c.Entries.drop (i+1)):=by
    unfold stay
    rw [List.filter_cons_of_pos (by simp [hv])]
   rw [hs]
   rcases Zp5 _ (h.2 _ (List.getElem_mem hi)) with ⟨he,q⟩ | ⟨he,q⟩
   ·exact .inl ⟨_,_,_,_,_,_,_,q,by omega,by rw [entE _ he];exact ih⟩
   ·exact .inr ⟨_,_,_,_,_,_,_,_,q,by omega,ih⟩
  ·rw [if_neg hv]
   have hs:stay v (c.Entries[i]::c.Entries.drop (i+1))=stay v (c.Entries.drop (i+1)):=by
    unfold stay
    rw [List.filter_cons_of_neg (by simp [hv])]
   rw [hs]
   exact ih acc (by omega)
theorem Zbk9 (c:Zp) (h:Lc c.Entries) (a b v:Int):∀ i,i≤c.Entries.length→Zi2 c a b v i=some (if stay v (c.Entries.drop i)=[] then (.tup [.agg [I b,.t .nil],I c.Entries.length],[]) else (.tup [.agg [I b,.own 0],I ((c.Entries.length:Int) - (stay v (c.Entries.drop i)).length)],[.arr 114 8 true ((stay v (c.Entries.drop i)).map Zf.c)])):=by
 have hl:=h.1
 refine down _ ?_ ?_
 ·refine Z38 _ _ _ _ _ _ ?_
  rw [if_neg (by omega),List.drop_length,if_pos (show stay v []=[] from rfl),Int.sub_zero,show w (c.Entries.length:Int)=(c.Entries.length:Int) from wrap64 (by omega) (by omega)]
 ·intro i hi ih
  have h5:=inc64 (i:=i) (by omega)
  refine Z38 _ _ _ _ _ _ ?_
  rw [if_pos (by omega)]
  refine ⟨by omega,_,List.getElem?_eq_getElem hi,?_⟩
  rw [show w ((i:Int)+1)=((i+1:Nat):Int) from h5,List.drop_eq_getElem_cons hi]
  by_cases hv:c.Entries[i].Version=v
  ·rw [if_pos hv]
   have ih:=Zbk8 c h a b v (i+1) hi [c.Entries[i]] (by simp)
   rw [List.singleton_append] at ih
   have hs:stay v (c.Entries[i]::c.Entries.drop (i+1))=c.Entries[i]::stay v (c.Entries.drop (i+1)):=by
    unfold stay
    rw [List.filter_cons_of_pos (by simp [hv])]
   rw [hs,if_neg (by simp)]
   rcases Zp5 _ (h.2 _ (List.getElem_mem hi)) with ⟨he,q⟩ | ⟨he,q⟩
   ·exact .inl ⟨_,_,_,_,_,_,_,q,by rw [entE _ he];exact ih⟩
   ·exact .inr ⟨_,_,_,_,_,_,_,_,q,ih⟩
  ·rw [if_neg hv]
   have hs:stay v (c.Entries[i]::c.Entries.drop (i+1))=stay v (c.Entries.drop (i+1)):=by
    unfold stay
    rw [List.filter_cons_of_neg (by simp [hv])]
   rw [hs]
   exact ih
theorem Zbla (m:Zd) (hm:LeM m) (c:Zp) (h:Lc c.Entries) (v:Int):Zpc m c v=some (if Zex m c=true then dsS c v else dsNo c):=by
 have q1:=Zbkx c h
 have q2:=Zbko m hm c h.le
 unfold cRes at q1
 refine Zbhh _ _ _ _ ⟨_,q2,?_⟩
 unfold dsS dsNo
 rcases tf (Zex m c) with e | e
 ·rw [e,if_neg (by decide),if_neg (by decide)]
  by_cases he:c.Entries=[]
  ·rw [if_pos he] at q1 ⊢
   exact .inl ⟨_,q1,rfl⟩
  ·rw [if_neg he] at q1 ⊢
   exact .inr ⟨_,_,q1,rfl⟩
 ·rw [if_pos e,if_pos e]
  have:=Zbk9 c h 0 c.Clock v 0 (Nat.zero_le _)
  rw [List.drop_zero] at this
  exact this
def Zhf:MFun:=⟨3,124,[.tmp 6],.r [.bx 3 0,.bx 4 1,.o 6 (.mov (.q false))] [2,3,4] (.r [.mk' 7 1048576] [2,3,4,7] (.r [.ln 19 30 3,.m 20 7,.cl 21 13 [19,20],.m 7 21] [2,3,4,7] (.wc [.m 22 7,.bk 23 .lss 22 0] [2,3,4,7,23] 23 (.r [.o 6 (.mov (.q true))] [6] .ret) (.r [.ln 24 2 4,.m 25 7,.cl 26 52 [24,25],.m 7 26] [2,3,4,7] (.wc [.m 27 7,.bk 28 .lss 27 0] [2,3,4,28] 28 (.r [.o 6 (.mov (.q true))] [6] .ret) (.seq (.drw [.ln 30 30 3,.xl 31 18 [30],.ln 32 2 4,.xl 33 54 [32],.m 34 2,.cl 35 80 [31,33,34],.m 29 35,.o 36 (.ext (.s 29) 0),.o 37 (.ext (.s 29) 1),.o 8 (.alloc [.t .z,.t .nil]),.st 2 8 36,.m 9 37] [[],[0],[],[2,1],[],[1,3,4,3],[5],[6],[6],[],[9,7,5,0,1,2,3,4,5,6,7,9],[8,10,0,1,2,3,4,5,6,7,8,9,10]] [2,3,4,8,9]) (.r [.ln 38 30 3,.xl 39 18 [38],.o 10 (.alloc [.t .z,.t .z,.t .z,.t .z,.t .z,.t .nil,.t .z,.t .z,.t .z,.t .z,.t .z,.t .nil,.t .z,.t .z,.t .z,.t .z,.t .z,.t .nil,.t .z,.t .z,.t .z,.t .z,.t .z,.t .nil,.t .z,.t .z,.t .z,.t .z,.t .z,.t .nil]),.st 30 10 39] [2,3,4,8,9,10] (.r [.ln 40 2 4,.xl 41 54 [40],.o 11 (.alloc [.t .z,.t .nil]),.st 2 11 41] [2,3,4,8,9,10,11] (.r [.ln 43 30 10,.ln 44 2 11,.m 45 2,.xl 46 79 [43,44,45],.m 42 46,.o 47 (.ext (.s 42) 0),.o 48 (.ext (.s 42) 1),.o 12 (.alloc [.t .z,.t .nil]),.st 2 12 47,.m 13 48] [2,3,4,8,9,10,11,12,13] (.wc [.ln 49 2 12,.ln 50 2 8,.cl 51 56 [49,50],.o 52 (.un .not (.s 51)),.m 53 52,.h 54 53 (.mov (.s 13)),.h 55 53 (.mov (.s 9)),.h 56 53 (.b .neq 54 55),.o 57 (.pick (.s 53) (.q true) (.s 56))] [2,3,4,8,9,10,11,12,13,57] 57 (.r [.o 6 (.mov (.q false))] [6] .ret) (.seq (.seq (.drw [.ln 58 30 10,.ln 59 30 3,.xl 60 18 [59],.cl 61 24 [58,60],.o 62 (.un .not (.s 61))] [[],[],[1],[0,2,2],[3]] [2,3,4,8,9,10,11,12,13,62]) (.cond (.s 62) (.r [.o 6 (.mov (.q false))] [6] .ret) .skip)) (.seq (.seq (.drw [.ln 63 2 11,.ln 64 2 4,.xl 65 54 [64],.cl 66 56 [63,65],.o 67 (.un .not (.s 66))] [[],[],[1],[0,2,2],[3]] [2,3,4,8,9,10,11,12,13,67]) (.cond (.s 67) (.r [.o 6 (.mov (.q false))] [6] .ret) .skip)) (.r [.mk' 14 1] [2,3,4,8,9,10,11,12,13,14] (.r [.ln 68 30 10,.m 69 14,.o 70 (.icall 28 [.s 68,.s 69]),.m 14 70] [2,3,4,8,9,11,12,13,14] (.r [.ln 71 2 11,.m 72 14,.o 73 (.icall 81 [.s 71,.s 72]),.m 14 73] [2,3,4,8,9,12,13,14] (.wc [.m 74 14,.bk 75 .lss 74 0,.m 76 75,.h 77 76 (.ln 2 12),.h 78 76 (.ln 2 8),.h 79 76 (.cl 56 [77,78]),.h 80 76 (.un .not (.s 79)),.o 81 (.pick (.s 76) (.q true) (.s 80)),.m 82 81,.h 83 82 (.mov (.s 13)),.h 84 82 (.mov (.s 9)),.h 85 82 (.b .neq 83 84),.o 86 (.pick (.s 82) (.q true) (.s 85))] [2,3,4,8,9,12,86] 86 (.r [.o 6 (.mov (.q false))] [6] .ret) (.r [.mk' 15 1] [2,3,4,8,9,12,15] (.r [.ln 87 2 12,.m 88 15,.o 89 (.icall 81 [.s 87,.s 88]),.m 15 89] [2,3,4,8,9,12,15] (.r [.mk' 16 1] [2,3,4,8,9,12,15,16] (.r [.ln 90 2 12,.m 91 16,.cl 92 82 [90,91],.m 16 92] [2,3,4,8,9,12,15,16] (.wc [.m 93 16,.bk 94 .lss 93 0] [2,3,4,8,9,12,15,16,94] 94 (.r [.o 6 (.mov (.q false))] [6] .ret) (.wc [.m 95 16,.m 96 15,.b 97 .neq 95 96] [2,3,4,8,9,12,15,97] 97 (.r [.o 6 (.mov (.q false))] [6] .ret) (.seq (.drw [.ln 99 30 3,.xl 100 18 [99],.ln 101 2 4,.xl 102 54 [101],.m 103 2,.xl 104 79 [100,102,103],.m 98 104,.o 105 (.ext (.s 98) 0),.o 106 (.ext (.s 98) 1),.o 17 (.alloc [.t .z,.t .nil]),.st 2 17 105,.m 18 106] [[],[0],[],[2,1],[],[1,3,4,3],[5],[6],[6],[],[9,7,5,0,1,2,3,4,5,6,7,9],[8,10,0,1,2,3,4,5,6,7,8,9,10]] [8,9,12,15,17,18]) (.wc [.ln 107 2 17,.ln 108 2 8,.cl 109 56 [107,108],.o 110 (.un .not (.s 109)),.m 111 110,.h 112 111 (.mov (.s 18)),.h 113 111 (.mov (.s 9)),.h 114 111 (.b .neq 112 113),.o 115 (.pick (.s 111) (.q true) (.s 114))] [12,15,115] 115 (.r [.o 6 (.mov (.q false))] [6] .ret) (.r [.mk' 16 1] [12,15,16] (.r [.ln 116 2 12,.m 117 16,.cl 118 82 [116,117],.m 16 118] [15,16] (.wc [.m 119 16,.bk 120 .lss 119 0] [15,16,120] 120 (.r [.o 6 (.mov (.q false))] [6] .ret) (.wc [.m 121 16,.m 122 15,.b 123 .neq 121 122] [123] 123 (.r [.o 6 (.mov (.q false))] [6] .ret) (.r [.o 6 (.mov (.q true))] [6] .ret)))))))))))))))))))))))))))))⟩
theorem Zblb:tbl 10=some Zhf:=tblOf_eq Tryz.func10 (by kernel_rfl) (by kernel_rfl)
def Z6i:MFun:=⟨2,36,[.tmp 4],.r [.bx 2 0,.mk' 4 0] [1,2] (.r [.fa 5 0 2,.ln 6 6 5,.m 7 1,.cl 8 84 [6,7],.m 1 8] [1,2] (.wc [.m 9 1,.bk 10 .lss 9 0] [1,2,10] 10 (.r [.mk' 4 (-1)] [4] .ret) (.r [.fa 11 6 2,.ln 12 6 11,.m 13 1,.cl 14 84 [12,13],.m 1 14] [1,2] (.wc [.m 15 1,.bk 16 .lss 15 0] [1,2,16] 16 (.r [.mk' 4 (-1)] [4] .ret) (.r [.fa 17 12 2,.ln 18 6 17,.m 19 1,.cl 20 84 [18,19],.m 1 20] [1,2] (.wc [.m 21 1,.bk 22 .lss 21 0] [1,2,22] 22 (.r [.mk' 4 (-1)] [4] .ret) (.r [.fa 23 18 2,.ln 24 6 23,.m 25 1,.cl 26 84 [24,25],.m 1 26] [1,2] (.wc [.m 27 1,.bk 28 .lss 27 0] [1,2,28] 28 (.r [.mk' 4 (-1)] [4] .ret) (.r [.fa 29 24 2,.ln 30 6 29,.m 31 1,.cl 32 84 [30,31],.m 1 32] [1] (.wc [.m 33 1,.bk 34 .lss 33 0] [1,34] 34 (.r [.mk' 4 (-1)] [4] .ret) (.r [.m 35 1,.m 4 35] [4] .ret)))))))))))⟩
theorem Zblc:tbl 13=some Z6i:=tblOf_eq Tryz.func13 (by kernel_rfl) (by kernel_rfl)
def Z6j:MFun:=⟨2,12,[.tmp 4],.r [.bx 2 0,.mk' 4 0] [1,2] (.r [.fa 5 1 2,.l 6 5,.m 7 1,.cl 8 85 [6,7],.m 1 8] [1] (.wc [.m 9 1,.bk 10 .lss 9 0] [1,10] 10 (.r [.mk' 4 (-1)] [4] .ret) (.r [.m 11 1,.m 4 11] [4] .ret)))⟩
theorem Zbld:tbl 14=some Z6j:=tblOf_eq Tryz.func14 (by kernel_rfl) (by kernel_rfl)
def Z6k:MFun:=⟨2,12,[.tmp 4],.r [.bx 2 0,.mk' 4 0] [1,2] (.r [.fa 5 0 2,.l 6 5,.m 7 1,.cl 8 86 [6,7],.m 1 8] [1] (.wc [.m 9 1,.bk 10 .lss 9 0] [1,10] 10 (.r [.mk' 4 (-1)] [4] .ret) (.r [.m 11 1,.m 4 11] [4] .ret)))⟩
theorem Zble:tbl 15=some Z6k:=tblOf_eq Tryz.func15 (by kernel_rfl) (by kernel_rfl)
def Z6l:MFun:=⟨1,25,[.cell 2 (some 30)],.r [.bx 1 0,.o 2 (.alloc [.t .z,.t .z,.t .z,.t .z,.t .z,.t .nil,.t .z,.t .z,.t .z,.t .z,.t .z,.t .nil,.t .z,.t .z,.t .z,.t .z,.t .z,.t .nil,.t .z,.t .z,.t .z,.t .z,.t .z,.t .nil,.t .z,.t .z,.t .z,.t .z,.t .z,.t .nil])] [1,2] (.r [.o 3 (.alloc [.t .z,.t .z,.t .z,.t .z,.t .z,.t .nil,.t .z,.t .z,.t .z,.t .z,.t .z,.t .nil,.t .z,.t .z,.t .z,.t .z,.t .z,.t .nil,.t .z,.t .z,.t .z,.t .z,.t .z,.t .nil,.t .z,.t .z,.t .z,.t .z,.t .z,.t .nil])] [1,2,3] (.r [.fa 4 0 1,.ln 5 6 4,.cl 6 95 [5],.fa 7 0 3,.st 6 7 6] [1,2,3] (.r [.fa 8 6 1,.ln 9 6 8,.cl 10 95 [9],.fa 11 6 3,.st 6 11 10] [1,2,3] (.r [.fa 12 12 1,.ln 13 6 12,.cl 14 95 [13],.fa 15 12 3,.st 6 15 14] [1,2,3] (.r [.fa 16 18 1,.ln 17 6 16,.cl 18 95 [17],.fa 19 18 3,.st 6 19 18] [1,2,3] (.r [.fa 20 24 1,.ln 21 6 20,.cl 22 95 [21],.fa 23 24 3,.st 6 23 22] [2,3] (.r [.ln 24 30 3,.st 30 2 24] [2] .ret)))))))⟩
theorem Zblf:tbl 18=some Z6l:=tblOf_eq Tryz.func18 (by kernel_rfl) (by kernel_rfl)
def Z6m:MFun:=⟨1,12,[.cell 2 (some 2)],.r [.bx 1 0,.o 2 (.alloc [.t .z,.t .nil])] [1,2] (.r [.o 3 (.alloc [.t .z,.t .nil])] [1,2,3] (.r [.fa 4 0 1,.l 5 4,.fa 6 0 3,.st 1 6 5] [1,2,3] (.r [.fa 7 1 1,.l 8 7,.cl 9 96 [8],.fa 10 1 3,.st 1 10 9] [2,3] (.r [.ln 11 2 3,.st 2 2 11] [2] .ret))))⟩
theorem Zblg:tbl 19=some Z6m:=tblOf_eq Tryz.func19 (by kernel_rfl) (by kernel_rfl)
def Z6n:MFun:=⟨1,9,[.cell 2 (some 1)],.r [.bx 1 0,.o 2 (.alloc [.t .nil])] [1,2] (.r [.o 3 (.alloc [.t .nil])] [1,2,3] (.r [.fa 4 0 1,.l 5 4,.cl 6 97 [5],.fa 7 0 3,.st 1 7 6] [2,3] (.r [.ln 8 1 3,.st 1 2 8] [2] .ret)))⟩
theorem Zblh:tbl 20=some Z6n:=tblOf_eq Tryz.func20 (by kernel_rfl) (by kernel_rfl)
def Zp6:MCode :=.we [.m 11 5,.m 12 0,.ll 13 12,.b 14 .lss 11 13] [0,1,5,14] 14 0 (.seq (.block 1 (.seq (.drw [.m 17 0,.m 18 5,.ia 19 1 17 18,.l 20 19,.m 21 1,.m 22 5,.ia 23 1 21 22,.l 24 23,.b 25 .neq 20 24] [[],[],[0,1],[2],[],[],[4,5],[6],[3,7]] [0,1,5,25]) (.cond (.s 25) (.r [.o 4 (.mov (.q false))] [4] .ret) .skip))) (.reg [.m 15 5,.bk 16 .add 15 1,.m 5 16] [0,1,5]))
def Zv0:MFun:=⟨2,26,[.tmp 4],.r [.o 4 (.mov (.q false))] [0,1] (.wc [.m 6 0,.ll 7 6,.m 8 1,.ll 9 8,.b 10 .neq 7 9] [0,1,10] 10 (.r [.o 4 (.mov (.q false))] [4] .ret) (.seq (.r [.mk' 5 0] [0,1,5] (.block 0 (.loop [0,1,5] Zp6))) (.r [.o 4 (.mov (.q true))] [4] .ret)))⟩
theorem Zbli:tbl 23=some Zv0:=tblOf_eq Tryz.func23 (by kernel_rfl) (by kernel_rfl)
def Z6o:MFun:=⟨2,35,[.tmp 4],.r [.bx 2 0,.bx 3 1,.o 4 (.mov (.q false))] [2,3] (.wc [.fa 5 0 2,.ln 6 6 5,.fa 7 0 3,.ln 8 6 7,.cl 9 109 [6,8],.o 10 (.un .not (.s 9))] [2,3,10] 10 (.r [.o 4 (.mov (.q false))] [4] .ret) (.wc [.fa 11 6 2,.ln 12 6 11,.fa 13 6 3,.ln 14 6 13,.cl 15 109 [12,14],.o 16 (.un .not (.s 15))] [2,3,16] 16 (.r [.o 4 (.mov (.q false))] [4] .ret) (.wc [.fa 17 12 2,.ln 18 6 17,.fa 19 12 3,.ln 20 6 19,.cl 21 109 [18,20],.o 22 (.un .not (.s 21))] [2,3,22] 22 (.r [.o 4 (.mov (.q false))] [4] .ret) (.wc [.fa 23 18 2,.ln 24 6 23,.fa 25 18 3,.ln 26 6 25,.cl 27 109 [24,26],.o 28 (.un .not (.s 27))] [2,3,28] 28 (.r [.o 4 (.mov (.q false))] [4] .ret) (.wc [.fa 29 24 2,.ln 30 6 29,.fa 31 24 3,.ln 32 6 31,.cl 33 109 [30,32],.o 34 (.un .not (.s 33))] [34] 34 (.r [.o 4 (.mov (.q false))] [4] .ret) (.r [.o 4 (.mov (.q true))] [4] .ret))))))⟩
theorem Zblj:tbl 24=some Z6o:=tblOf_eq Tryz.func24 (by kernel_rfl) (by kernel_rfl)
def Z6p:MFun:=⟨2,16,[.tmp 4],.r [.bx 2 0,.bx 3 1,.o 4 (.mov (.q false))] [2,3] (.wc [.fa 5 0 2,.l 6 5,.fa 7 0 3,.l 8 7,.b 9 .neq 6 8] [2,3,9] 9 (.r [.o 4 (.mov (.q false))] [4] .ret) (.wc [.fa 10 1 2,.l 11 10,.fa 12 1 3,.l 13 12,.cl 14 110 [11,13],.o 15 (.un .not (.s 14))] [15] 15 (.r [.o 4 (.mov (.q false))] [4] .ret) (.r [.o 4 (.mov (.q true))] [4] .ret)))⟩
theorem Zblk:tbl 25=some Z6p:=tblOf_eq Tryz.func25 (by kernel_rfl) (by kernel_rfl)
def Z6q:MFun:=⟨2,11,[.tmp 4],.r [.bx 2 0,.bx 3 1,.o 4 (.mov (.q false))] [2,3] (.wc [.fa 5 0 2,.l 6 5,.fa 7 0 3,.l 8 7,.cl 9 111 [6,8],.o 10 (.un .not (.s 9))] [10] 10 (.r [.o 4 (.mov (.q false))] [4] .ret) (.r [.o 4 (.mov (.q true))] [4] .ret))⟩
theorem Zbll:tbl 26=some Z6q:=tblOf_eq Tryz.func26 (by kernel_rfl) (by kernel_rfl)
def Z6r:MFun:=⟨2,26,[.tmp 4],.r [.bx 2 0,.mk' 4 0] [1,2] (.r [.fa 5 0 2,.ln 6 6 5,.m 7 1,.o 8 (.icall 113 [.s 6,.s 7]),.m 1 8] [1,2] (.r [.fa 9 6 2,.ln 10 6 9,.m 11 1,.o 12 (.icall 113 [.s 10,.s 11]),.m 1 12] [1,2] (.r [.fa 13 12 2,.ln 14 6 13,.m 15 1,.o 16 (.icall 113 [.s 14,.s 15]),.m 1 16] [1,2] (.r [.fa 17 18 2,.ln 18 6 17,.m 19 1,.o 20 (.icall 113 [.s 18,.s 19]),.m 1 20] [1,2] (.r [.fa 21 24 2,.ln 22 6 21,.m 23 1,.o 24 (.icall 113 [.s 22,.s 23]),.m 1 24] [1] (.r [.m 25 1,.m 4 25] [4] .ret))))))⟩
theorem Zblm:tbl 28=some Z6r:=tblOf_eq Tryz.func28 (by kernel_rfl) (by kernel_rfl)
def Znn:MCode :=.we [.m 6 5,.m 7 0,.ll 8 7,.b 9 .lss 6 8] [0,1,5,9] 9 0 (.seq (.block 1 (.r [.m 12 0,.m 13 5,.m 14 1,.ia 15 1 12 13,.st 1 15 14] [0,1,5] (.reg [.m 16 1,.bk 17 .add 16 1,.m 1 17] [0,1,5]))) (.reg [.m 10 5,.bk 11 .add 10 1,.m 5 11] [0,1,5]))
def Zv1:MFun:=⟨2,19,[.tmp 4],.r [.mk' 4 0] [0,1] (.seq (.r [.mk' 5 0] [0,1,5] (.block 0 (.loop [0,1,5] Znn))) (.r [.m 18 1,.m 4 18] [4] .ret))⟩
theorem Z6s:tbl 32=some Zv1:=tblOf_eq Tryz.func32 (by kernel_rfl) (by kernel_rfl)
def Zp7:MCode :=.we [.m 6 5,.m 7 0,.ll 8 7,.b 9 .lss 6 8] [0,1,5,9] 9 0 (.seq (.block 1 (.wc [.m 12 0,.m 13 5,.ia 14 1 12 13,.l 15 14,.m 16 1,.b 17 .neq 15 16] [0,1,5,17] 17 (.r [.mk' 4 (-1)] [4] .ret) (.reg [.m 18 1,.bk 19 .add 18 1,.m 1 19] [0,1,5]))) (.reg [.m 10 5,.bk 11 .add 10 1,.m 5 11] [0,1,5]))
def Z6t:MFun:=⟨2,21,[.tmp 4],.r [.mk' 4 0] [0,1] (.seq (.r [.mk' 5 0] [0,1,5] (.block 0 (.loop [0,1,5] Zp7))) (.r [.m 20 1,.m 4 20] [4] .ret))⟩
theorem Zbln:tbl 33=some Z6t:=tblOf_eq Tryz.func33 (by kernel_rfl) (by kernel_rfl)
def Z6u:MFun:=⟨2,18,[.tmp 4],.r [.bx 2 0,.mk' 4 0] [1,2] (.r [.fa 5 0 2,.ln 6 1 5,.m 7 1,.cl 8 15 [6,7],.m 1 8] [1,2] (.wc [.m 9 1,.bk 10 .lss 9 0] [1,2,10] 10 (.r [.mk' 4 (-1)] [4] .ret) (.r [.fa 11 1 2,.ln 12 2 11,.m 13 1,.cl 14 57 [12,13],.m 1 14] [1] (.wc [.m 15 1,.bk 16 .lss 15 0] [1,16] 16 (.r [.mk' 4 (-1)] [4] .ret) (.r [.m 17 1,.m 4 17] [4] .ret)))))⟩
theorem Zblo:tbl 34=some Z6u:=tblOf_eq Tryz.func34 (by kernel_rfl) (by kernel_rfl)
def Z6v:MFun:=⟨1,16,[.cell 2 (some 4)],.r [.bx 1 0,.o 2 (.alloc [.t .nil,.t .nil,.t .nil,.t .z])] [1,2] (.r [.o 3 (.alloc [.t .nil,.t .nil,.t .nil,.t .z])] [1,2,3] (.r [.fa 4 0 1,.ln 5 1 4,.cl 6 20 [5],.fa 7 0 3,.st 1 7 6] [1,2,3] (.r [.fa 8 1 1,.ln 9 2 8,.cl 10 58 [9],.fa 11 1 3,.st 2 11 10] [1,2,3] (.r [.fa 12 3 1,.l 13 12,.fa 14 3 3,.st 1 14 13] [2,3] (.r [.ln 15 4 3,.st 4 2 15] [2] .ret)))))⟩
theorem Zblp:tbl 36=some Z6v:=tblOf_eq Tryz.func36 (by kernel_rfl) (by kernel_rfl)
def Z6w:MFun:=⟨2,22,[.tmp 4],.r [.bx 2 0,.bx 3 1,.o 4 (.mov (.q false))] [2,3] (.wc [.fa 5 0 2,.ln 6 1 5,.fa 7 0 3,.ln 8 1 7,.cl 9 26 [6,8],.o 10 (.un .not (.s 9))] [2,3,10] 10 (.r [.o 4 (.mov (.q false))] [4] .ret) (.wc [.fa 11 1 2,.ln 12 2 11,.fa 13 1 3,.ln 14 2 13,.cl 15 60 [12,14],.o 16 (.un .not (.s 15))] [2,3,16] 16 (.r [.o 4 (.mov (.q false))] [4] .ret) (.wc [.fa 17 3 2,.l 18 17,.fa 19 3 3,.l 20 19,.b 21 .neq 18 20] [21] 21 (.r [.o 4 (.mov (.q false))] [4] .ret) (.r [.o 4 (.mov (.q true))] [4] .ret))))⟩
theorem Zblq:tbl 38=some Z6w:=tblOf_eq Tryz.func38 (by kernel_rfl) (by kernel_rfl)
def Z6x:MFun:=⟨2,12,[.tmp 4],.r [.bx 2 0,.mk' 4 0] [1,2] (.r [.fa 5 1 2,.l 6 5,.m 7 1,.cl 8 146 [6,7],.m 1 8] [1] (.wc [.m 9 1,.bk 10 .lss 9 0] [1,10] 10 (.r [.mk' 4 (-1)] [4] .ret) (.r [.m 11 1,.m 4 11] [4] .ret)))⟩
theorem Zblr:tbl 52=some Z6x:=tblOf_eq Tryz.func52 (by kernel_rfl) (by kernel_rfl)
def Z6y:MFun:=⟨1,12,[.cell 2 (some 2)],.r [.bx 1 0,.o 2 (.alloc [.t .z,.t .nil])] [1,2] (.r [.o 3 (.alloc [.t .z,.t .nil])] [1,2,3] (.r [.fa 4 0 1,.l 5 4,.fa 6 0 3,.st 1 6 5] [1,2,3] (.r [.fa 7 1 1,.l 8 7,.cl 9 147 [8],.fa 10 1 3,.st 1 10 9] [2,3] (.r [.ln 11 2 3,.st 2 2 11] [2] .ret))))⟩
theorem Zbls:tbl 54=some Z6y:=tblOf_eq Tryz.func54 (by kernel_rfl) (by kernel_rfl)
def Zp8:MFun:=⟨2,16,[.tmp 4],.r [.bx 2 0,.bx 3 1,.o 4 (.mov (.q false))] [2,3] (.wc [.fa 5 0 2,.l 6 5,.fa 7 0 3,.l 8 7,.b 9 .neq 6 8] [2,3,9] 9 (.r [.o 4 (.mov (.q false))] [4] .ret) (.wc [.fa 10 1 2,.l 11 10,.fa 12 1 3,.l 13 12,.cl 14 150 [11,13],.o 15 (.un .not (.s 14))] [15] 15 (.r [.o 4 (.mov (.q false))] [4] .ret) (.r [.o 4 (.mov (.q true))] [4] .ret)))⟩
theorem Zv2:tbl 56=some Zp8:=tblOf_eq Tryz.func56 (by kernel_rfl) (by kernel_rfl)
def Z6z:MFun:=⟨2,18,[.tmp 4],.r [.bx 2 0,.mk' 4 0] [1,2] (.r [.fa 5 0 2,.l 6 5,.m 7 1,.cl 8 151 [6,7],.m 1 8] [1,2] (.wc [.m 9 1,.bk 10 .lss 9 0] [1,2,10] 10 (.r [.mk' 4 (-1)] [4] .ret) (.r [.fa 11 1 2,.l 12 11,.m 13 1,.cl 14 151 [12,13],.m 1 14] [1] (.wc [.m 15 1,.bk 16 .lss 15 0] [1,16] 16 (.r [.mk' 4 (-1)] [4] .ret) (.r [.m 17 1,.m 4 17] [4] .ret)))))⟩
theorem Zblt:tbl 57=some Z6z:=tblOf_eq Tryz.func57 (by kernel_rfl) (by kernel_rfl)
def Z60:MFun:=⟨1,13,[.cell 2 (some 2)],.r [.bx 1 0,.o 2 (.alloc [.t .nil,.t .nil])] [1,2] (.r [.o 3 (.alloc [.t .nil,.t .nil])] [1,2,3] (.r [.fa 4 0 1,.l 5 4,.cl 6 59 [5],.fa 7 0 3,.st 1 7 6] [1,2,3] (.r [.fa 8 1 1,.l 9 8,.cl 10 59 [9],.fa 11 1 3,.st 1 11 10] [2,3] (.r [.ln 12 2 3,.st 2 2 12] [2] .ret))))⟩
theorem Zblu:tbl 58=some Z60:=tblOf_eq Tryz.func58 (by kernel_rfl) (by kernel_rfl)
def Zp9:MCode :=.we [.m 8 4,.m 9 0,.ll 10 9,.b 11 .lss 8 10] [0,3,4,11] 11 0 (.seq (.block 1 (.reg [.m 14 3,.m 15 4,.m 16 0,.m 17 4,.ia 18 1 16 17,.l 19 18,.ia 20 1 14 15,.st 1 20 19] [0,3,4])) (.reg [.m 12 4,.bk 13 .add 12 1,.m 4 13] [0,3,4]))
def Z61:MFun:=⟨1,22,[.tmp 2],.r [.o 2 (.mov (.c (.t .nil)))] [0] (.r [.m 5 0,.ll 6 5,.o 7 (.mkslice 3 1 8 [.z] (.s 6) (.s 6)),.m 3 7] [0,3] (.seq (.r [.mk' 4 0] [0,3,4] (.block 0 (.loop [0,3,4] Zp9))) (.r [.m 21 3,.m 2 21] [2] .ret)))⟩
theorem Zblv:tbl 59=some Z61:=tblOf_eq Tryz.func59 (by kernel_rfl) (by kernel_rfl)
def Z62:MFun:=⟨2,17,[.tmp 4],.r [.bx 2 0,.bx 3 1,.o 4 (.mov (.q false))] [2,3] (.wc [.fa 5 0 2,.l 6 5,.fa 7 0 3,.l 8 7,.cl 9 23 [6,8],.o 10 (.un .not (.s 9))] [2,3,10] 10 (.r [.o 4 (.mov (.q false))] [4] .ret) (.wc [.fa 11 1 2,.l 12 11,.fa 13 1 3,.l 14 13,.cl 15 23 [12,14],.o 16 (.un .not (.s 15))] [16] 16 (.r [.o 4 (.mov (.q false))] [4] .ret) (.r [.o 4 (.mov (.q true))] [4] .ret)))⟩
theorem Zblw:tbl 60=some Z62:=tblOf_eq Tryz.func60 (by kernel_rfl) (by kernel_rfl)
def Zv3:MFun:=⟨2,10,[.tmp 4],.r [.bx 2 0,.mk' 4 0] [1,2] (.r [.fa 5 1 2,.o 6 (.loadU (.s 5)),.m 7 1,.o 8 (.scall 175 [.s 6,.s 7] (.s 5)),.m 1 8] [1] (.r [.m 9 1,.m 4 9] [4] .ret))⟩
theorem Z63:tbl 81=some Zv3:=tblOf_eq Tryz.func81 (by kernel_rfl) (by kernel_rfl)
def Zv4:MFun:=⟨2,12,[.tmp 4],.r [.bx 2 0,.mk' 4 0] [1,2] (.r [.fa 5 1 2,.l 6 5,.m 7 1,.cl 8 176 [6,7],.m 1 8] [1] (.wc [.m 9 1,.bk 10 .lss 9 0] [1,10] 10 (.r [.mk' 4 (-1)] [4] .ret) (.r [.m 11 1,.m 4 11] [4] .ret)))⟩
theorem Z64:tbl 82=some Zv4:=tblOf_eq Tryz.func82 (by kernel_rfl) (by kernel_rfl)
def Z65:MFun:=⟨2,12,[.tmp 4],.r [.bx 2 0,.mk' 4 0] [1,2] (.r [.fa 5 5 2,.l 6 5,.m 7 1,.cl 8 178 [6,7],.m 1 8] [1] (.wc [.m 9 1,.bk 10 .lss 9 0] [1,10] 10 (.r [.mk' 4 (-1)] [4] .ret) (.r [.m 11 1,.m 4 11] [4] .ret)))⟩
theorem Zblx:tbl 84=some Z65:=tblOf_eq Tryz.func84 (by kernel_rfl) (by kernel_rfl)
def Zja:MCode :=.we [.m 12 5,.m 13 0,.ll 14 13,.b 15 .lss 12 14] [0,1,5,15] 15 0 (.seq (.block 1 (.r [.m 18 0,.m 19 5,.ia 20 2 18 19,.ln 21 2 20,.m 22 1,.cl 23 179 [21,22],.m 1 23] [0,1,5] (.r [.m 24 1,.bk 25 .lss 24 0] [0,1,5,25] (.cond (.s 25) (.r [.mk' 4 (-1)] [4] .ret) .skip)))) (.reg [.m 16 5,.bk 17 .add 16 1,.m 5 17] [0,1,5]))
def Z66:MFun:=⟨2,27,[.tmp 4],.r [.mk' 4 0] [0,1] (.r [.m 6 1,.m 7 0,.ll 8 7,.b 9 .sub 6 8,.m 1 9] [0,1] (.wc [.m 10 1,.bk 11 .lss 10 0] [0,1,11] 11 (.r [.mk' 4 (-1)] [4] .ret) (.seq (.r [.mk' 5 0] [0,1,5] (.block 0 (.loop [0,1,5] Zja))) (.r [.m 26 1,.m 4 26] [4] .ret))))⟩
theorem Zbly:tbl 85=some Z66:=tblOf_eq Tryz.func85 (by kernel_rfl) (by kernel_rfl)
def Z67:MFun:=⟨2,12,[.tmp 4],.r [.mk' 4 0] [0,1] (.r [.m 5 1,.m 6 0,.ll 7 6,.b 8 .sub 5 7,.m 1 8] [1] (.wc [.m 9 1,.bk 10 .lss 9 0] [1,10] 10 (.r [.mk' 4 (-1)] [4] .ret) (.r [.m 11 1,.m 4 11] [4] .ret)))⟩
theorem Zblz:tbl 86=some Z67:=tblOf_eq Tryz.func86 (by kernel_rfl) (by kernel_rfl)
def Z68:MFun:=⟨1,24,[.cell 2 (some 6)],.r [.bx 1 0,.o 2 (.alloc [.t .z,.t .z,.t .z,.t .z,.t .z,.t .nil])] [1,2] (.r [.o 3 (.alloc [.t .z,.t .z,.t .z,.t .z,.t .z,.t .nil])] [1,2,3] (.r [.fa 4 0 1,.l 5 4,.fa 6 0 3,.st 1 6 5] [1,2,3] (.r [.fa 7 1 1,.l 8 7,.fa 9 1 3,.st 1 9 8] [1,2,3] (.r [.fa 10 2 1,.l 11 10,.fa 12 2 3,.st 1 12 11] [1,2,3] (.r [.fa 13 3 1,.l 14 13,.fa 15 3 3,.st 1 15 14] [1,2,3] (.r [.fa 16 4 1,.l 17 16,.fa 18 4 3,.st 1 18 17] [1,2,3] (.r [.fa 19 5 1,.l 20 19,.cl 21 186 [20],.fa 22 5 3,.st 1 22 21] [2,3] (.r [.ln 23 6 3,.st 6 2 23] [2] .ret))))))))⟩
theorem Zbl0:tbl 95=some Z68:=tblOf_eq Tryz.func95 (by kernel_rfl) (by kernel_rfl)
def Zqa:MCode :=.we [.m 8 4,.m 9 0,.ll 10 9,.b 11 .lss 8 10] [0,3,4,11] 11 0 (.seq (.block 1 (.reg [.m 14 3,.m 15 4,.m 16 0,.m 17 4,.ia 18 2 16 17,.ln 19 2 18,.cl 20 187 [19],.ia 21 2 14 15,.st 2 21 20] [0,3,4])) (.reg [.m 12 4,.bk 13 .add 12 1,.m 4 13] [0,3,4]))
def Z69:MFun:=⟨1,23,[.tmp 2],.r [.o 2 (.mov (.c (.t .nil)))] [0] (.r [.m 5 0,.ll 6 5,.o 7 (.mkslice 223 2 40 [.str ⟨#[]⟩,.lst 1 []] (.s 6) (.s 6)),.m 3 7] [0,3] (.seq (.r [.mk' 4 0] [0,3,4] (.block 0 (.loop [0,3,4] Zqa))) (.r [.m 22 3,.m 2 22] [2] .ret)))⟩
theorem Zbl1:tbl 96=some Z69:=tblOf_eq Tryz.func96 (by kernel_rfl) (by kernel_rfl)
def Zqb:MCode :=.we [.m 8 4,.m 9 0,.ll 10 9,.b 11 .lss 8 10] [0,3,4,11] 11 0 (.seq (.block 1 (.reg [.m 14 3,.m 15 4,.m 16 0,.m 17 4,.ia 18 3 16 17,.ln 19 3 18,.cl 20 188 [19],.ia 21 3 14 15,.st 3 21 20] [0,3,4])) (.reg [.m 12 4,.bk 13 .add 12 1,.m 4 13] [0,3,4]))
def Z7a:MFun:=⟨1,23,[.tmp 2],.r [.o 2 (.mov (.c (.t .nil)))] [0] (.r [.m 5 0,.ll 6 5,.o 7 (.mkslice 142 3 24 [.z,.z,.z] (.s 6) (.s 6)),.m 3 7] [0,3] (.seq (.r [.mk' 4 0] [0,3,4] (.block 0 (.loop [0,3,4] Zqb))) (.r [.m 22 3,.m 2 22] [2] .ret)))⟩
theorem Zbl2:tbl 97=some Z7a:=tblOf_eq Tryz.func97 (by kernel_rfl) (by kernel_rfl)
def Z7b:MFun:=⟨2,36,[.tmp 4],.r [.bx 2 0,.bx 3 1,.o 4 (.mov (.q false))] [2,3] (.wc [.fa 5 0 2,.l 6 5,.fa 7 0 3,.l 8 7,.b 9 .neq 6 8] [2,3,9] 9 (.r [.o 4 (.mov (.q false))] [4] .ret) (.wc [.fa 10 1 2,.l 11 10,.fa 12 1 3,.l 13 12,.b 14 .neq 11 13] [2,3,14] 14 (.r [.o 4 (.mov (.q false))] [4] .ret) (.wc [.fa 15 2 2,.l 16 15,.fa 17 2 3,.l 18 17,.b 19 .neq 16 18] [2,3,19] 19 (.r [.o 4 (.mov (.q false))] [4] .ret) (.wc [.fa 20 3 2,.l 21 20,.fa 22 3 3,.l 23 22,.b 24 .neq 21 23] [2,3,24] 24 (.r [.o 4 (.mov (.q false))] [4] .ret) (.wc [.fa 25 4 2,.l 26 25,.fa 27 4 3,.l 28 27,.b 29 .neq 26 28] [2,3,29] 29 (.r [.o 4 (.mov (.q false))] [4] .ret) (.wc [.fa 30 5 2,.l 31 30,.fa 32 5 3,.l 33 32,.cl 34 197 [31,33],.o 35 (.un .not (.s 34))] [35] 35 (.r [.o 4 (.mov (.q false))] [4] .ret) (.r [.o 4 (.mov (.q true))] [4] .ret)))))))⟩
theorem Zbl3:tbl 109=some Z7b:=tblOf_eq Tryz.func109 (by kernel_rfl) (by kernel_rfl)
def Zqc:MCode :=.we [.m 11 5,.m 12 0,.ll 13 12,.b 14 .lss 11 13] [0,1,5,14] 14 0 (.seq (.block 1 (.seq (.drw [.m 17 0,.m 18 5,.ia 19 2 17 18,.ln 20 2 19,.m 21 1,.m 22 5,.ia 23 2 21 22,.ln 24 2 23,.cl 25 198 [20,24],.o 26 (.un .not (.s 25))] [[],[],[0,1],[2],[],[],[4,5],[6],[3,7],[8]] [0,1,5,26]) (.cond (.s 26) (.r [.o 4 (.mov (.q false))] [4] .ret) .skip))) (.reg [.m 15 5,.bk 16 .add 15 1,.m 5 16] [0,1,5]))
def Zv5:MFun:=⟨2,27,[.tmp 4],.r [.o 4 (.mov (.q false))] [0,1] (.wc [.m 6 0,.ll 7 6,.m 8 1,.ll 9 8,.b 10 .neq 7 9] [0,1,10] 10 (.r [.o 4 (.mov (.q false))] [4] .ret) (.seq (.r [.mk' 5 0] [0,1,5] (.block 0 (.loop [0,1,5] Zqc))) (.r [.o 4 (.mov (.q true))] [4] .ret)))⟩
theorem Zbl4:tbl 110=some Zv5:=tblOf_eq Tryz.func110 (by kernel_rfl) (by kernel_rfl)
def Zqd:MCode :=.we [.m 11 5,.m 12 0,.ll 13 12,.b 14 .lss 11 13] [0,1,5,14] 14 0 (.seq (.block 1 (.seq (.drw [.m 17 0,.m 18 5,.ia 19 3 17 18,.ln 20 3 19,.m 21 1,.m 22 5,.ia 23 3 21 22,.ln 24 3 23,.cl 25 199 [20,24],.o 26 (.un .not (.s 25))] [[],[],[0,1],[2],[],[],[4,5],[6],[3,7],[8]] [0,1,5,26]) (.cond (.s 26) (.r [.o 4 (.mov (.q false))] [4] .ret) .skip))) (.reg [.m 15 5,.bk 16 .add 15 1,.m 5 16] [0,1,5]))
def Zv6:MFun:=⟨2,27,[.tmp 4],.r [.o 4 (.mov (.q false))] [0,1] (.wc [.m 6 0,.ll 7 6,.m 8 1,.ll 9 8,.b 10 .neq 7 9] [0,1,10] 10 (.r [.o 4 (.mov (.q false))] [4] .ret) (.seq (.r [.mk' 5 0] [0,1,5] (.block 0 (.loop [0,1,5] Zqd))) (.r [.o 4 (.mov (.q true))] [4] .ret)))⟩
theorem Zbl5:tbl 111=some Zv6:=tblOf_eq Tryz.func111 (by kernel_rfl) (by kernel_rfl)
def Z7c:MFun:=⟨2,10,[.tmp 4],.r [.bx 2 0,.mk' 4 0] [1,2] (.r [.fa 5 5 2,.o 6 (.loadU (.s 5)),.m 7 1,.o 8 (.scall 200 [.s 6,.s 7] (.s 5)),.m 1 8] [1] (.r [.m 9 1,.m 4 9] [4] .ret))⟩
theorem Zbl6:tbl 113=some Z7c:=tblOf_eq Tryz.func113 (by kernel_rfl) (by kernel_rfl)
def Zno:MCode :=.we [.m 6 5,.m 7 0,.ll 8 7,.b 9 .lss 6 8] [0,1,5,9] 9 0 (.seq (.block 1 (.r [.m 12 0,.m 13 5,.m 14 1,.cl 15 201 [14],.ia 16 2 12 13,.fa 17 0 16,.st 1 17 15] [0,1,5] (.r [.m 18 1,.bk 19 .add 18 1,.m 1 19] [0,1,5] (.reg [.m 20 0,.m 21 5,.ia 22 2 20 21,.fa 23 1 22,.o 24 (.loadU (.s 23)),.m 25 1,.o 26 (.scall 32 [.s 24,.s 25] (.s 23)),.m 1 26] [0,1,5])))) (.reg [.m 10 5,.bk 11 .add 10 1,.m 5 11] [0,1,5]))
def Zv7:MFun:=⟨2,28,[.tmp 4],.r [.mk' 4 0] [0,1] (.seq (.r [.mk' 5 0] [0,1,5] (.block 0 (.loop [0,1,5] Zno))) (.r [.m 27 1,.m 4 27] [4] .ret))⟩
theorem Z7d:tbl 114=some Zv7:=tblOf_eq Tryz.func114 (by kernel_rfl) (by kernel_rfl)
def Znp:MCode :=.we [.m 6 5,.m 7 0,.ll 8 7,.b 9 .lss 6 8] [0,1,5,9] 9 0 (.seq (.block 1 (.r [.m 12 0,.m 13 5,.m 14 1,.ia 15 3 12 13,.fa 16 0 15,.st 1 16 14] [0,1,5] (.r [.m 17 1,.bk 18 .add 17 1,.m 1 18] [0,1,5] (.r [.m 19 0,.m 20 5,.m 21 1,.ia 22 3 19 20,.fa 23 1 22,.st 1 23 21] [0,1,5] (.r [.m 24 1,.bk 25 .add 24 1,.m 1 25] [0,1,5] (.r [.m 26 0,.m 27 5,.m 28 1,.ia 29 3 26 27,.fa 30 2 29,.st 1 30 28] [0,1,5] (.reg [.m 31 1,.bk 32 .add 31 1,.m 1 32] [0,1,5]))))))) (.reg [.m 10 5,.bk 11 .add 10 1,.m 5 11] [0,1,5]))
def Zv8:MFun:=⟨2,34,[.tmp 4],.r [.mk' 4 0] [0,1] (.seq (.r [.mk' 5 0] [0,1,5] (.block 0 (.loop [0,1,5] Znp))) (.r [.m 33 1,.m 4 33] [4] .ret))⟩
theorem Z7e:tbl 115=some Zv8:=tblOf_eq Tryz.func115 (by kernel_rfl) (by kernel_rfl)
def Zjb:MCode :=.we [.m 12 5,.m 13 0,.ll 14 13,.b 15 .lss 12 14] [0,1,5,15] 15 0 (.seq (.block 1 (.r [.m 18 0,.m 19 5,.ia 20 8 18 19,.ln 21 8 20,.m 22 1,.cl 23 235 [21,22],.m 1 23] [0,1,5] (.r [.m 24 1,.bk 25 .lss 24 0] [0,1,5,25] (.cond (.s 25) (.r [.mk' 4 (-1)] [4] .ret) .skip)))) (.reg [.m 16 5,.bk 17 .add 16 1,.m 5 17] [0,1,5]))
def Z7f:MFun:=⟨2,27,[.tmp 4],.r [.mk' 4 0] [0,1] (.r [.m 6 1,.m 7 0,.ll 8 7,.b 9 .sub 6 8,.m 1 9] [0,1] (.wc [.m 10 1,.bk 11 .lss 10 0] [0,1,11] 11 (.r [.mk' 4 (-1)] [4] .ret) (.seq (.r [.mk' 5 0] [0,1,5] (.block 0 (.loop [0,1,5] Zjb))) (.r [.m 26 1,.m 4 26] [4] .ret))))⟩
theorem Zbl7:tbl 146=some Z7f:=tblOf_eq Tryz.func146 (by kernel_rfl) (by kernel_rfl)
def Zqe:MCode :=.we [.m 8 4,.m 9 0,.ll 10 9,.b 11 .lss 8 10] [0,3,4,11] 11 0 (.seq (.block 1 (.reg [.m 14 3,.m 15 4,.m 16 0,.m 17 4,.ia 18 8 16 17,.ln 19 8 18,.cl 20 236 [19],.ia 21 8 14 15,.st 8 21 20] [0,3,4])) (.reg [.m 12 4,.bk 13 .add 12 1,.m 4 13] [0,3,4]))
def Z7g:MFun:=⟨1,23,[.tmp 2],.r [.o 2 (.mov (.c (.t .nil)))] [0] (.r [.m 5 0,.ll 6 5,.o 7 (.mkslice 114 8 128 [.z,.lst 2 [],.lst 3 [],.lst 1 [],.lst 1 [],.z,.z,.z] (.s 6) (.s 6)),.m 3 7] [0,3] (.seq (.r [.mk' 4 0] [0,3,4] (.block 0 (.loop [0,3,4] Zqe))) (.r [.m 22 3,.m 2 22] [2] .ret)))⟩
theorem Zbl8:tbl 147=some Z7g:=tblOf_eq Tryz.func147 (by kernel_rfl) (by kernel_rfl)
def Zkk:MCode :=.we [.m 11 5,.m 12 0,.ll 13 12,.b 14 .lss 11 13] [0,1,5,14] 14 0 (.seq (.block 1 (.seq (.drw [.m 17 0,.m 18 5,.ia 19 8 17 18,.ln 20 8 19,.m 21 1,.m 22 5,.ia 23 8 21 22,.ln 24 8 23,.cl 25 237 [20,24],.o 26 (.un .not (.s 25))] [[],[],[0,1],[2],[],[],[4,5],[6],[3,7],[8]] [0,1,5,26]) (.cond (.s 26) (.r [.o 4 (.mov (.q false))] [4] .ret) .skip))) (.reg [.m 15 5,.bk 16 .add 15 1,.m 5 16] [0,1,5]))
def Znq:MFun:=⟨2,27,[.tmp 4],.r [.o 4 (.mov (.q false))] [0,1] (.wc [.m 6 0,.ll 7 6,.m 8 1,.ll 9 8,.b 10 .neq 7 9] [0,1,10] 10 (.r [.o 4 (.mov (.q false))] [4] .ret) (.seq (.r [.mk' 5 0] [0,1,5] (.block 0 (.loop [0,1,5] Zkk))) (.r [.o 4 (.mov (.q true))] [4] .ret)))⟩
theorem Zv9:tbl 150=some Znq:=tblOf_eq Tryz.func150 (by kernel_rfl) (by kernel_rfl)
def Z7h:MFun:=⟨2,12,[.tmp 4],.r [.mk' 4 0] [0,1] (.r [.m 5 1,.m 6 0,.ll 7 6,.b 8 .sub 5 7,.m 1 8] [1] (.wc [.m 9 1,.bk 10 .lss 9 0] [1,10] 10 (.r [.mk' 4 (-1)] [4] .ret) (.r [.m 11 1,.m 4 11] [4] .ret)))⟩
theorem Zbl9:tbl 151=some Z7h:=tblOf_eq Tryz.func151 (by kernel_rfl) (by kernel_rfl)
def Znr:MCode :=.we [.m 6 5,.m 7 0,.ll 8 7,.b 9 .lss 6 8] [0,1,5,9] 9 0 (.seq (.block 1 (.r [.m 12 0,.m 13 5,.m 14 1,.ia 15 8 12 13,.fa 16 0 15,.fa 17 0 16,.st 1 17 14] [0,1,5] (.r [.m 18 1,.bk 19 .add 18 1,.m 1 19] [0,1,5] (.r [.m 20 0,.m 21 5,.ia 22 8 20 21,.fa 23 0 22,.fa 24 1 23,.o 25 (.loadU (.s 24)),.m 26 1,.o 27 (.scall 114 [.s 25,.s 26] (.s 24)),.m 1 27] [0,1,5] (.r [.m 28 0,.m 29 5,.ia 30 8 28 29,.fa 31 2 30,.fa 32 0 31,.fa 33 0 32,.o 34 (.loadU (.s 33)),.m 35 1,.o 36 (.scall 115 [.s 34,.s 35] (.s 33)),.m 1 36] [0,1,5] (.r [.m 37 0,.m 38 5,.ia 39 8 37 38,.fa 40 2 39,.fa 41 1 40,.fa 42 0 41,.o 43 (.loadU (.s 42)),.m 44 1,.o 45 (.scall 32 [.s 43,.s 44] (.s 42)),.m 1 45] [0,1,5] (.r [.m 46 0,.m 47 5,.ia 48 8 46 47,.fa 49 2 48,.fa 50 1 49,.fa 51 1 50,.o 52 (.loadU (.s 51)),.m 53 1,.o 54 (.scall 32 [.s 52,.s 53] (.s 51)),.m 1 54] [0,1,5] (.r [.m 55 0,.m 56 5,.m 57 1,.ia 58 8 55 56,.fa 59 2 58,.fa 60 3 59,.st 1 60 57] [0,1,5] (.r [.m 61 1,.bk 62 .add 61 1,.m 1 62] [0,1,5] (.r [.m 63 0,.m 64 5,.m 65 1,.ia 66 8 63 64,.fa 67 6 66,.st 1 67 65] [0,1,5] (.r [.m 68 1,.bk 69 .add 68 1,.m 1 69] [0,1,5] (.r [.m 70 0,.m 71 5,.m 72 1,.ia 73 8 70 71,.fa 74 7 73,.st 1 74 72] [0,1,5] (.reg [.m 75 1,.bk 76 .add 75 1,.m 1 76] [0,1,5]))))))))))))) (.reg [.m 10 5,.bk 11 .add 10 1,.m 5 11] [0,1,5]))
def Zwa:MFun:=⟨2,78,[.tmp 4],.r [.mk' 4 0] [0,1] (.seq (.r [.mk' 5 0] [0,1,5] (.block 0 (.loop [0,1,5] Znr))) (.r [.m 77 1,.m 4 77] [4] .ret))⟩
theorem Z7i:tbl 175=some Zwa:=tblOf_eq Tryz.func175 (by kernel_rfl) (by kernel_rfl)
def Zns:MCode :=.we [.m 6 5,.m 7 0,.ll 8 7,.b 9 .lss 6 8] [0,1,5,9] 9 0 (.seq (.block 1 (.wc [.m 12 0,.m 13 5,.ia 14 8 12 13,.fa 15 0 14,.fa 16 0 15,.l 17 16,.m 18 1,.b 19 .neq 17 18] [0,1,5,19] 19 (.r [.mk' 4 (-1)] [4] .ret) (.r [.m 20 1,.bk 21 .add 20 1,.m 1 21] [0,1,5] (.r [.m 22 0,.m 23 5,.ia 24 8 22 23,.fa 25 0 24,.fa 26 1 25,.l 27 26,.m 28 1,.cl 29 248 [27,28],.m 1 29] [0,1,5] (.wc [.m 30 1,.bk 31 .lss 30 0] [0,1,5,31] 31 (.r [.mk' 4 (-1)] [4] .ret) (.r [.m 32 0,.m 33 5,.ia 34 8 32 33,.fa 35 2 34,.fa 36 0 35,.fa 37 0 36,.l 38 37,.m 39 1,.cl 40 177 [38,39],.m 1 40] [0,1,5] (.wc [.m 41 1,.bk 42 .lss 41 0] [0,1,5,42] 42 (.r [.mk' 4 (-1)] [4] .ret) (.r [.m 43 0,.m 44 5,.ia 45 8 43 44,.fa 46 2 45,.fa 47 1 46,.fa 48 0 47,.l 49 48,.m 50 1,.cl 51 33 [49,50],.m 1 51] [0,1,5] (.wc [.m 52 1,.bk 53 .lss 52 0] [0,1,5,53] 53 (.r [.mk' 4 (-1)] [4] .ret) (.r [.m 54 0,.m 55 5,.ia 56 8 54 55,.fa 57 2 56,.fa 58 1 57,.fa 59 1 58,.l 60 59,.m 61 1,.cl 62 33 [60,61],.m 1 62] [0,1,5] (.wc [.m 63 1,.bk 64 .lss 63 0] [0,1,5,64] 64 (.r [.mk' 4 (-1)] [4] .ret) (.wc [.m 65 0,.m 66 5,.ia 67 8 65 66,.fa 68 2 67,.fa 69 3 68,.l 70 69,.m 71 1,.b 72 .neq 70 71] [0,1,5,72] 72 (.r [.mk' 4 (-1)] [4] .ret) (.r [.m 73 1,.bk 74 .add 73 1,.m 1 74] [0,1,5] (.wc [.m 75 0,.m 76 5,.ia 77 8 75 76,.fa 78 6 77,.l 79 78,.m 80 1,.b 81 .neq 79 80] [0,1,5,81] 81 (.r [.mk' 4 (-1)] [4] .ret) (.r [.m 82 1,.bk 83 .add 82 1,.m 1 83] [0,1,5] (.wc [.m 84 0,.m 85 5,.ia 86 8 84 85,.fa 87 7 86,.l 88 87,.m 89 1,.b 90 .neq 88 89] [0,1,5,90] 90 (.r [.mk' 4 (-1)] [4] .ret) (.reg [.m 91 1,.bk 92 .add 91 1,.m 1 92] [0,1,5]))))))))))))))))) (.reg [.m 10 5,.bk 11 .add 10 1,.m 5 11] [0,1,5]))
def Zwb:MFun:=⟨2,94,[.tmp 4],.r [.mk' 4 0] [0,1] (.seq (.r [.mk' 5 0] [0,1,5] (.block 0 (.loop [0,1,5] Zns))) (.r [.m 93 1,.m 4 93] [4] .ret))⟩
theorem Z7j:tbl 176=some Zwb:=tblOf_eq Tryz.func176 (by kernel_rfl) (by kernel_rfl)
def Zqf:MCode :=.we [.m 6 5,.m 7 0,.ll 8 7,.b 9 .lss 6 8] [0,1,5,9] 9 0 (.seq (.block 1 (.wc [.m 12 0,.m 13 5,.ia 14 3 12 13,.fa 15 0 14,.l 16 15,.m 17 1,.b 18 .neq 16 17] [0,1,5,18] 18 (.r [.mk' 4 (-1)] [4] .ret) (.r [.m 19 1,.bk 20 .add 19 1,.m 1 20] [0,1,5] (.wc [.m 21 0,.m 22 5,.ia 23 3 21 22,.fa 24 1 23,.l 25 24,.m 26 1,.b 27 .neq 25 26] [0,1,5,27] 27 (.r [.mk' 4 (-1)] [4] .ret) (.r [.m 28 1,.bk 29 .add 28 1,.m 1 29] [0,1,5] (.wc [.m 30 0,.m 31 5,.ia 32 3 30 31,.fa 33 2 32,.l 34 33,.m 35 1,.b 36 .neq 34 35] [0,1,5,36] 36 (.r [.mk' 4 (-1)] [4] .ret) (.reg [.m 37 1,.bk 38 .add 37 1,.m 1 38] [0,1,5]))))))) (.reg [.m 10 5,.bk 11 .add 10 1,.m 5 11] [0,1,5]))
def Z7k:MFun:=⟨2,40,[.tmp 4],.r [.mk' 4 0] [0,1] (.seq (.r [.mk' 5 0] [0,1,5] (.block 0 (.loop [0,1,5] Zqf))) (.r [.m 39 1,.m 4 39] [4] .ret))⟩
theorem Zbma:tbl 177=some Z7k:=tblOf_eq Tryz.func177 (by kernel_rfl) (by kernel_rfl)
def Z7l:MFun:=⟨2,12,[.tmp 4],.r [.mk' 4 0] [0,1] (.r [.m 5 1,.m 6 0,.ll 7 6,.b 8 .sub 5 7,.m 1 8] [1] (.wc [.m 9 1,.bk 10 .lss 9 0] [1,10] 10 (.r [.mk' 4 (-1)] [4] .ret) (.r [.m 11 1,.m 4 11] [4] .ret)))⟩
theorem Zbmb:tbl 178=some Z7l:=tblOf_eq Tryz.func178 (by kernel_rfl) (by kernel_rfl)
def Z7m:MFun:=⟨2,19,[.tmp 4],.r [.bx 2 0,.mk' 4 0] [1,2] (.r [.m 5 1,.fa 6 0 2,.l 7 6,.o 8 (.len true (.s 7)),.b 9 .sub 5 8,.m 1 9] [1,2] (.wc [.m 10 1,.bk 11 .lss 10 0] [1,2,11] 11 (.r [.mk' 4 (-1)] [4] .ret) (.r [.fa 12 1 2,.l 13 12,.m 14 1,.cl 15 151 [13,14],.m 1 15] [1] (.wc [.m 16 1,.bk 17 .lss 16 0] [1,17] 17 (.r [.mk' 4 (-1)] [4] .ret) (.r [.m 18 1,.m 4 18] [4] .ret)))))⟩
theorem Zbmc:tbl 179=some Z7m:=tblOf_eq Tryz.func179 (by kernel_rfl) (by kernel_rfl)
def Zqg:MCode :=.we [.m 8 4,.m 9 0,.ll 10 9,.b 11 .lss 8 10] [0,3,4,11] 11 0 (.seq (.block 1 (.reg [.m 14 3,.m 15 4,.m 16 0,.m 17 4,.ia 18 2 16 17,.ln 19 2 18,.cl 20 256 [19],.ia 21 2 14 15,.st 2 21 20] [0,3,4])) (.reg [.m 12 4,.bk 13 .add 12 1,.m 4 13] [0,3,4]))
def Z7n:MFun:=⟨1,23,[.tmp 2],.r [.o 2 (.mov (.c (.t .nil)))] [0] (.r [.m 5 0,.ll 6 5,.o 7 (.mkslice 221 2 16 [.z,.z] (.s 6) (.s 6)),.m 3 7] [0,3] (.seq (.r [.mk' 4 0] [0,3,4] (.block 0 (.loop [0,3,4] Zqg))) (.r [.m 22 3,.m 2 22] [2] .ret)))⟩
theorem Zbmd:tbl 186=some Z7n:=tblOf_eq Tryz.func186 (by kernel_rfl) (by kernel_rfl)
def Z7o:MFun:=⟨1,12,[.cell 2 (some 2)],.r [.bx 1 0,.o 2 (.alloc [.t (.str ⟨#[]⟩),.t .nil])] [1,2] (.r [.o 3 (.alloc [.t (.str ⟨#[]⟩),.t .nil])] [1,2,3] (.r [.fa 4 0 1,.l 5 4,.fa 6 0 3,.st 1 6 5] [1,2,3] (.r [.fa 7 1 1,.l 8 7,.cl 9 59 [8],.fa 10 1 3,.st 1 10 9] [2,3] (.r [.ln 11 2 3,.st 2 2 11] [2] .ret))))⟩
theorem Zbme:tbl 187=some Z7o:=tblOf_eq Tryz.func187 (by kernel_rfl) (by kernel_rfl)
def Z7p:MFun:=⟨1,14,[.cell 2 (some 3)],.r [.bx 1 0,.o 2 (.alloc [.t .z,.t .z,.t .z])] [1,2] (.r [.o 3 (.alloc [.t .z,.t .z,.t .z])] [1,2,3] (.r [.fa 4 0 1,.l 5 4,.fa 6 0 3,.st 1 6 5] [1,2,3] (.r [.fa 7 1 1,.l 8 7,.fa 9 1 3,.st 1 9 8] [1,2,3] (.r [.fa 10 2 1,.l 11 10,.fa 12 2 3,.st 1 12 11] [2,3] (.r [.ln 13 3 3,.st 3 2 13] [2] .ret)))))⟩
theorem Zbmf:tbl 188=some Z7p:=tblOf_eq Tryz.func188 (by kernel_rfl) (by kernel_rfl)
def Zqh:MCode :=.we [.m 11 5,.m 12 0,.ll 13 12,.b 14 .lss 11 13] [0,1,5,14] 14 0 (.seq (.block 1 (.seq (.drw [.m 17 0,.m 18 5,.ia 19 2 17 18,.ln 20 2 19,.m 21 1,.m 22 5,.ia 23 2 21 22,.ln 24 2 23,.cl 25 266 [20,24],.o 26 (.un .not (.s 25))] [[],[],[0,1],[2],[],[],[4,5],[6],[3,7],[8]] [0,1,5,26]) (.cond (.s 26) (.r [.o 4 (.mov (.q false))] [4] .ret) .skip))) (.reg [.m 15 5,.bk 16 .add 15 1,.m 5 16] [0,1,5]))
def Zwc:MFun:=⟨2,27,[.tmp 4],.r [.o 4 (.mov (.q false))] [0,1] (.wc [.m 6 0,.ll 7 6,.m 8 1,.ll 9 8,.b 10 .neq 7 9] [0,1,10] 10 (.r [.o 4 (.mov (.q false))] [4] .ret) (.seq (.r [.mk' 5 0] [0,1,5] (.block 0 (.loop [0,1,5] Zqh))) (.r [.o 4 (.mov (.q true))] [4] .ret)))⟩
theorem Zbmg:tbl 197=some Zwc:=tblOf_eq Tryz.func197 (by kernel_rfl) (by kernel_rfl)
def Z7q:MFun:=⟨2,16,[.tmp 4],.r [.bx 2 0,.bx 3 1,.o 4 (.mov (.q false))] [2,3] (.wc [.fa 5 0 2,.l 6 5,.fa 7 0 3,.l 8 7,.b 9 .neq 6 8] [2,3,9] 9 (.r [.o 4 (.mov (.q false))] [4] .ret) (.wc [.fa 10 1 2,.l 11 10,.fa 12 1 3,.l 13 12,.cl 14 23 [11,13],.o 15 (.un .not (.s 14))] [15] 15 (.r [.o 4 (.mov (.q false))] [4] .ret) (.r [.o 4 (.mov (.q true))] [4] .ret)))⟩
theorem Zbmh:tbl 198=some Z7q:=tblOf_eq Tryz.func198 (by kernel_rfl) (by kernel_rfl)
def Z7r:MFun:=⟨2,20,[.tmp 4],.r [.bx 2 0,.bx 3 1,.o 4 (.mov (.q false))] [2,3] (.wc [.fa 5 0 2,.l 6 5,.fa 7 0 3,.l 8 7,.b 9 .neq 6 8] [2,3,9] 9 (.r [.o 4 (.mov (.q false))] [4] .ret) (.wc [.fa 10 1 2,.l 11 10,.fa 12 1 3,.l 13 12,.b 14 .neq 11 13] [2,3,14] 14 (.r [.o 4 (.mov (.q false))] [4] .ret) (.wc [.fa 15 2 2,.l 16 15,.fa 17 2 3,.l 18 17,.b 19 .neq 16 18] [19] 19 (.r [.o 4 (.mov (.q false))] [4] .ret) (.r [.o 4 (.mov (.q true))] [4] .ret))))⟩
theorem Zbmi:tbl 199=some Z7r:=tblOf_eq Tryz.func199 (by kernel_rfl) (by kernel_rfl)
def Zqi:MCode :=.we [.m 6 5,.m 7 0,.ll 8 7,.b 9 .lss 6 8] [0,1,5,9] 9 0 (.seq (.block 1 (.r [.m 12 0,.m 13 5,.m 14 1,.ia 15 2 12 13,.fa 16 0 15,.st 1 16 14] [0,1,5] (.r [.m 17 1,.bk 18 .add 17 1,.m 1 18] [0,1,5] (.r [.m 19 0,.m 20 5,.m 21 1,.ia 22 2 19 20,.fa 23 1 22,.st 1 23 21] [0,1,5] (.reg [.m 24 1,.bk 25 .add 24 1,.m 1 25] [0,1,5]))))) (.reg [.m 10 5,.bk 11 .add 10 1,.m 5 11] [0,1,5]))
def Z7s:MFun:=⟨2,27,[.tmp 4],.r [.mk' 4 0] [0,1] (.seq (.r [.mk' 5 0] [0,1,5] (.block 0 (.loop [0,1,5] Zqi))) (.r [.m 26 1,.m 4 26] [4] .ret))⟩
theorem Zbmj:tbl 200=some Z7s:=tblOf_eq Tryz.func200 (by kernel_rfl) (by kernel_rfl)
def Znt:MCode :=.we [.m 6 0,.bk 7 .gtr 6 0] [0,3,7] 7 0 (.block 1 (.r [.m 8 0,.bk 9 .rem 8 10,.o 10 (.bin .add (.k 48) (.s 9)),.o 11 (.conv .u8 (.s 10)),.o 12 (.bslice 5 1 1 [.int .u8 0] [(0,.s 11)]),.o 13 (.tostr (.s 12)),.m 14 3,.b 15 .add 13 14,.m 3 15] [0,3] (.reg [.m 16 0,.bk 17 .quo 16 10,.m 0 17] [0,3])))
def Zwd:MFun:=⟨1,20,[.tmp 2],.r [.o 2 (.mov (.c (.t (.str ⟨#[]⟩))))] [0] (.wc [.m 4 0,.bk 5 .leq 4 0] [0,5] 5 (.r [.o 2 (.mov (.c (.t (.str ⟨#[109,48]⟩))))] [2] .ret) (.r [.o 3 (.mov (.c (.t (.str ⟨#[]⟩))))] [0,3] (.seq (.block 0 (.loop [0,3] Znt)) (.r [.m 18 3,.o 19 (.bin .add (.c (.t (.str ⟨#[109]⟩))) (.s 18)),.m 2 19] [2] .ret))))⟩
theorem Z7t:tbl 201=some Zwd:=tblOf_eq Tryz.func201 (by kernel_rfl) (by kernel_rfl)
def Z7u:MFun:=⟨2,18,[.tmp 4],.r [.bx 2 0,.mk' 4 0] [1,2] (.r [.fa 5 0 2,.ln 6 2 5,.m 7 1,.cl 8 14 [6,7],.m 1 8] [1,2] (.wc [.m 9 1,.bk 10 .lss 9 0] [1,2,10] 10 (.r [.mk' 4 (-1)] [4] .ret) (.r [.fa 11 2 2,.ln 12 4 11,.m 13 1,.cl 14 34 [12,13],.m 1 14] [1] (.wc [.m 15 1,.bk 16 .lss 15 0] [1,16] 16 (.r [.mk' 4 (-1)] [4] .ret) (.r [.m 17 1,.m 4 17] [4] .ret)))))⟩
theorem Zbmk:tbl 235=some Z7u:=tblOf_eq Tryz.func235 (by kernel_rfl) (by kernel_rfl)
def Z7v:MFun:=⟨1,19,[.cell 2 (some 8)],.r [.bx 1 0,.o 2 (.alloc [.t .z,.t .nil,.t .nil,.t .nil,.t .nil,.t .z,.t .z,.t .z])] [1,2] (.r [.o 3 (.alloc [.t .z,.t .nil,.t .nil,.t .nil,.t .nil,.t .z,.t .z,.t .z])] [1,2,3] (.r [.fa 4 0 1,.ln 5 2 4,.cl 6 19 [5],.fa 7 0 3,.st 2 7 6] [1,2,3] (.r [.fa 8 2 1,.ln 9 4 8,.cl 10 36 [9],.fa 11 2 3,.st 4 11 10] [1,2,3] (.r [.fa 12 6 1,.l 13 12,.fa 14 6 3,.st 1 14 13] [1,2,3] (.r [.fa 15 7 1,.l 16 15,.fa 17 7 3,.st 1 17 16] [2,3] (.r [.ln 18 8 3,.st 8 2 18] [2] .ret))))))⟩
theorem Zbml:tbl 236=some Z7v:=tblOf_eq Tryz.func236 (by kernel_rfl) (by kernel_rfl)
def Z7w:MFun:=⟨2,27,[.tmp 4],.r [.bx 2 0,.bx 3 1,.o 4 (.mov (.q false))] [2,3] (.wc [.fa 5 0 2,.ln 6 2 5,.fa 7 0 3,.ln 8 2 7,.cl 9 25 [6,8],.o 10 (.un .not (.s 9))] [2,3,10] 10 (.r [.o 4 (.mov (.q false))] [4] .ret) (.wc [.fa 11 2 2,.ln 12 4 11,.fa 13 2 3,.ln 14 4 13,.cl 15 38 [12,14],.o 16 (.un .not (.s 15))] [2,3,16] 16 (.r [.o 4 (.mov (.q false))] [4] .ret) (.wc [.fa 17 6 2,.l 18 17,.fa 19 6 3,.l 20 19,.b 21 .neq 18 20] [2,3,21] 21 (.r [.o 4 (.mov (.q false))] [4] .ret) (.wc [.fa 22 7 2,.l 23 22,.fa 24 7 3,.l 25 24,.b 26 .neq 23 25] [26] 26 (.r [.o 4 (.mov (.q false))] [4] .ret) (.r [.o 4 (.mov (.q true))] [4] .ret)))))⟩
theorem Zbmm:tbl 237=some Z7w:=tblOf_eq Tryz.func237 (by kernel_rfl) (by kernel_rfl)
def Zqj:MCode :=.we [.m 6 5,.m 7 0,.ll 8 7,.b 9 .lss 6 8] [0,1,5,9] 9 0 (.seq (.block 1 (.seq (.seq (.drw [.m 12 0,.m 13 5,.ia 14 2 12 13,.fa 15 0 14,.l 16 15,.m 17 1,.cl 18 201 [17],.b 19 .neq 16 18] [[],[],[0,1],[2],[3],[],[5],[4,6]] [0,1,5,19]) (.cond (.s 19) (.r [.mk' 4 (-1)] [4] .ret) .skip)) (.r [.m 20 1,.bk 21 .add 20 1,.m 1 21] [0,1,5] (.r [.m 22 0,.m 23 5,.ia 24 2 22 23,.fa 25 1 24,.l 26 25,.m 27 1,.cl 28 33 [26,27],.m 1 28] [0,1,5] (.r [.m 29 1,.bk 30 .lss 29 0] [0,1,5,30] (.cond (.s 30) (.r [.mk' 4 (-1)] [4] .ret) .skip)))))) (.reg [.m 10 5,.bk 11 .add 10 1,.m 5 11] [0,1,5]))
def Z7x:MFun:=⟨2,32,[.tmp 4],.r [.mk' 4 0] [0,1] (.seq (.r [.mk' 5 0] [0,1,5] (.block 0 (.loop [0,1,5] Zqj))) (.r [.m 31 1,.m 4 31] [4] .ret))⟩
theorem Zbmn:tbl 248=some Z7x:=tblOf_eq Tryz.func248 (by kernel_rfl) (by kernel_rfl)
def Z7y:MFun:=⟨1,11,[.cell 2 (some 2)],.r [.bx 1 0,.o 2 (.alloc [.t .z,.t .z])] [1,2] (.r [.o 3 (.alloc [.t .z,.t .z])] [1,2,3] (.r [.fa 4 0 1,.l 5 4,.fa 6 0 3,.st 1 6 5] [1,2,3] (.r [.fa 7 1 1,.l 8 7,.fa 9 1 3,.st 1 9 8] [2,3] (.r [.ln 10 2 3,.st 2 2 10] [2] .ret))))⟩
theorem Zbmo:tbl 256=some Z7y:=tblOf_eq Tryz.func256 (by kernel_rfl) (by kernel_rfl)
def Z7z:MFun:=⟨2,15,[.tmp 4],.r [.bx 2 0,.bx 3 1,.o 4 (.mov (.q false))] [2,3] (.wc [.fa 5 0 2,.l 6 5,.fa 7 0 3,.l 8 7,.b 9 .neq 6 8] [2,3,9] 9 (.r [.o 4 (.mov (.q false))] [4] .ret) (.wc [.fa 10 1 2,.l 11 10,.fa 12 1 3,.l 13 12,.b 14 .neq 11 13] [14] 14 (.r [.o 4 (.mov (.q false))] [4] .ret) (.r [.o 4 (.mov (.q true))] [4] .ret)))⟩
theorem Zbmp:tbl 266=some Z7z:=tblOf_eq Tryz.func266 (by kernel_rfl) (by kernel_rfl)
theorem l_toIntS (xs:List Int) (h:SmA xs) (fr:List Fr):∀ i,i≤xs.length→EvL C fr [0,3,4] Zp9 ⟨[(0,L 1 (xs.map ic)),(3,.own 0),(4,I i)],[[]],[.arr Zx 1 true (fill ic [.int .i64 0] xs i)]⟩ =
  EvX C fr (.x 0) ⟨[(0,L 1 (xs.map ic)),(3,.own 0),(4,I xs.length),(11,Bo false)],[[]],[.arr Zx 1 true (xs.map ic)]⟩:=by
 have hl:xs.length≤4294967296:=h
 refine down xs.length ?_ ?_
 ·rw [EvL_eq Zp9.eq_1]
  simp [fill_all]
 ·intro i hi ih
  rw [EvL_eq Zp9.eq_1,← ih]
  have h1:=fill_set (f:=ic) (z:=[.int .i64 0]) hi
  have h3:=fill_len (f:=ic) (z:=[.int .i64 0]) (Nat.le_of_lt hi)
  have h4:IntKind.wrap .i64 ((i:Int)+1)=(i:Int)+1:=wrap64 (by omega) (by omega)
  simp at h1
  simp [hi,h3,h4,h1]
theorem Zwe (xs:List Int) (h:SmA xs):C Z84 [L 1 (xs.map ic)] []=some (.own 0,[.arr Zx 1 true (xs.map ic)]):=by
 refine run Zblv rfl ?_
 have hl:xs.length≤4294967296:=h
 have h1:∀ b,b≤4096→xs.length*b≤room:=fun b hb=>Nat.le_trans (Nat.mul_le_mul hl hb) (by decide)
 have h2:(xs.length:Int)≤140737488355328:=by omega
 have h3:=fun fr=>l_toIntS xs h fr 0 (Nat.zero_le _)
 simp [fill_zero] at h3
 simp [Z61,h1,h2,h3]
theorem l_eqIntS (xs ys:List Int) (h:SmA xs) (hl:ys.length=xs.length) (fr:List Fr):∀ i,i≤xs.length→EvL C fr [0,1,5] Zp6 ⟨[(0,L 1 (xs.map ic)),(1,L 1 (ys.map ic)),(5,I i)],[[]],[]⟩ =
  if xs.drop i=ys.drop i then EvX C fr (.x 0) ⟨[(0,L 1 (xs.map ic)),(1,L 1 (ys.map ic)),(5,I xs.length),(14,Bo false)],[[]],[]⟩ else EvX C fr .r ⟨[(4,Bo false)],[[]],[]⟩:=by
 have hm:xs.length≤4294967296:=h
 refine down xs.length ?_ ?_
 ·rw [EvL_eq Zp6.eq_1]
  simp [hl,List.drop_eq_nil_of_le]
 ·intro i hi ih
  have hi2:i<ys.length:=by omega
  have h4:IntKind.wrap .i64 ((i:Int)+1)=(i:Int)+1:=wrap64 (by omega) (by omega)
  rw [EvL_eq Zp6.eq_1]
  simp +decide [hi,hi2,h4]
  simp at ih
  simp only [drop_eq_iff hi hi2,ih]
  split <;> first | (simp_all;done) | grind
theorem Zwf (xs ys:List Int) (h:SmA xs):C Z8r [L 1 (xs.map ic),L 1 (ys.map ic)] []=some (Bo (decide (xs=ys)),[]):=by
 refine run Zbli rfl ?_
 by_cases hl:ys.length=xs.length
 ·have h3:=fun fr=>l_eqIntS xs ys h hl fr 0 (Nat.zero_le _)
  simp at h3
  simp [Zv0,h3,hl]
  split <;> simp_all
 ·have h1:xs≠ys:=fun h=>hl (by rw [h])
  have h2:¬ ((xs.length:Int)=ys.length):=by omega
  simp [Zv0,h1,h2]
@[simp] theorem Z70 (es:List (List T)) (left:Int):C Z9i [L 1 es,I left] []=some (I (sz1 es.length left),[]):=by
 refine run Zbl9 rfl ?_
 simp [Z7h,sz1]
 split <;> simp_all
theorem c_toAtom (x0:ByteArray) (x1:List Int) (h1:SmA x1):C Z9n [.agg [.t (.str x0),.t (tI x1)]] []=some (.agg [.t (.str x0),.own 0],[.arr Zx 1 true (x1.map ic)]):=by
 refine run Zbme rfl ?_
 simp [Z7o,Zwe _ h1]
theorem c_eqAtom (x0:ByteArray) (x1:List Int) (y0:ByteArray) (y1:List Int) (h1:SmA x1):C Z9q [.agg [.t (.str x0),.t (tI x1)],.agg [.t (.str y0),.t (tI y1)]] []=some (Bo (decide (x0=y0∧x1=y1)),[]):=by
 refine run Zbmh rfl ?_
 simp [Z7q,Zwf _ _ h1]
 repeat' split
 all_goals first | (simp_all;done) | grind
theorem c_szAtom (x0:ByteArray) (x1:List Int) (left:Int) :C Z9l [.agg [.t (.str x0),.t (tI x1)],I left] []=some (I (Atom.sz ⟨x0,x1⟩ left),[]):=by
 refine run Zbmc rfl ?_
 simp [Z7m,Z70,Atom.sz,andSz,sz1]
 repeat' split
 all_goals first | (simp_all;done) | grind
theorem Zbmq (xs:List Atom) (h:SmL Atom.small xs) (fr:List Fr):∀ i,i≤xs.length→EvL C fr [0,3,4] Zqa ⟨[(0,L 2 (xs.map Atom.c)),(3,.own 0),(4,I i)],[[]],[.arr Zkq 2 true (fill Atom.c [.str ⟨#[]⟩,.lst 1 []] xs i)]⟩ =
  EvX C fr (.x 0) ⟨[(0,L 2 (xs.map Atom.c)),(3,.own 0),(4,I xs.length),(11,Bo false)],[[]],[.arr Zkq 2 true (xs.map Atom.c)]⟩:=by
 have hl:xs.length≤4294967296:=h.1
 refine down xs.length ?_ ?_
 ·rw [EvL_eq Zqa.eq_1]
  simp [fill_all]
 ·intro i hi ih
  rw [EvL_eq Zqa.eq_1,← ih]
  have h1:=fill_set (f:=Atom.c) (z:=[.str ⟨#[]⟩,.lst 1 []]) hi
  have h3:=fill_len (f:=Atom.c) (z:=[.str ⟨#[]⟩,.lst 1 []]) (Nat.le_of_lt hi)
  have h4:IntKind.wrap .i64 ((i:Int)+1)=(i:Int)+1:=wrap64 (by omega) (by omega)
  simp at h1
  simp [hi,c_toAtom _ _ (h.2 _ (List.getElem_mem hi)).2,h3,h4,h1]
theorem Zbmr (xs:List Atom) (h:SmL Atom.small xs):C Z9a [L 2 (xs.map Atom.c)] []=some (.own 0,[.arr Zkq 2 true (xs.map Atom.c)]):=by
 refine run Zbl1 rfl ?_
 have hl:xs.length≤4294967296:=h.1
 have h1:∀ b,b≤4096→xs.length*b≤room:=fun b hb=>Nat.le_trans (Nat.mul_le_mul hl hb) (by decide)
 have h2:(xs.length:Int)≤140737488355328:=by omega
 have h3:=fun fr=>Zbmq xs h fr 0 (Nat.zero_le _)
 simp [fill_zero] at h3
 simp [Z69,h1,h2,h3]
theorem Zbms (xs ys:List Atom) (h:SmL Atom.small xs) (hl:ys.length=xs.length) (fr:List Fr):∀ i,i≤xs.length→EvL C fr [0,1,5] Zqc ⟨[(0,L 2 (xs.map Atom.c)),(1,L 2 (ys.map Atom.c)),(5,I i)],[[]],[]⟩ =
  if xs.drop i=ys.drop i then EvX C fr (.x 0) ⟨[(0,L 2 (xs.map Atom.c)),(1,L 2 (ys.map Atom.c)),(5,I xs.length),(14,Bo false)],[[]],[]⟩ else EvX C fr .r ⟨[(4,Bo false)],[[]],[]⟩:=by
 have hm:xs.length≤4294967296:=h.1
 refine down xs.length ?_ ?_
 ·rw [EvL_eq Zqc.eq_1]
  simp [hl,List.drop_eq_nil_of_le]
 ·intro i hi ih
  have hi2:i<ys.length:=by omega
  have h4:IntKind.wrap .i64 ((i:Int)+1)=(i:Int)+1:=wrap64 (by omega) (by omega)
  rw [EvL_eq Zqc.eq_1]
  simp +decide [hi,hi2,c_eqAtom _ _ _ _ (h.2 _ (List.getElem_mem hi)).2,h4]
  simp at ih
  simp only [drop_eq_iff hi hi2,ih,Atom.ext_iff]
  split <;> first | (simp_all;done) | grind
theorem Zbmt (xs ys:List Atom) (h:SmL Atom.small xs):C Z9d [L 2 (xs.map Atom.c),L 2 (ys.map Atom.c)] []=some (Bo (decide (xs=ys)),[]):=by
 refine run Zbl4 rfl ?_
 by_cases hl:ys.length=xs.length
 ·have h3:=fun fr=>Zbms xs ys h hl fr 0 (Nat.zero_le _)
  simp at h3
  simp [Zv5,h3,hl]
  split <;> simp_all
 ·have h1:xs≠ys:=fun h=>hl (by rw [h])
  have h2:¬ ((xs.length:Int)=ys.length):=by omega
  simp [Zv5,h1,h2]
theorem Zbmu (xs:List Atom) (h:OkL Atom.okay xs) (fr:List Fr):∀ i,i≤xs.length→∀ left:Int,
  (EvL C fr [0,1,5] Zja ⟨[(0,L 2 (xs.map Atom.c)),(1,I left),(5,I i)],[[]],[]⟩=EvX C fr .r ⟨[(4,I (-1))],[[]],[]⟩∧szFold Atom.sz (xs.drop i) left=-1) ∨
  EvL C fr [0,1,5] Zja ⟨[(0,L 2 (xs.map Atom.c)),(1,I left),(5,I i)],[[]],[]⟩=EvX C fr (.x 0) ⟨[(0,L 2 (xs.map Atom.c)),(1,I (szFold Atom.sz (xs.drop i) left)),(5,I xs.length),(15,Bo false)],[[]],[]⟩:=by
 have hm:maxLen≤9223372036854775807:=by decide
 have hl:=h.1
 refine down xs.length ?_ ?_
 ·intro left
  right
  rw [EvL_eq Zja.eq_1]
  simp [List.drop_eq_nil_of_le,szFold]
 ·intro i hi ih left
  have h4:IntKind.wrap .i64 ((i:Int)+1)=(i:Int)+1:=wrap64 (by omega) (by omega)
  have e:EvL C fr [0,1,5] Zja ⟨[(0,L 2 (xs.map Atom.c)),(1,I left),(5,I i)],[[]],[]⟩=if Atom.sz xs[i] left<0 then EvX C fr .r ⟨[(4,I (-1))],[[]],[]⟩ else EvL C fr [0,1,5] Zja ⟨[(0,L 2 (xs.map Atom.c)),(1,I (Atom.sz xs[i] left)),(5,I ((i+1:Nat):Int))],[[]],[]⟩:=by
   rw [EvL_eq Zja.eq_1]
   simp [hi,c_szAtom,h4]
  rw [e,List.drop_eq_getElem_cons hi,szFold]
  split
  ·exact .inl ⟨rfl,rfl⟩
  ·exact ih _
theorem Zbmv (xs:List Atom) (left:Int) (h:OkL Atom.okay xs):C Z87 [L 2 (xs.map Atom.c),I left] []=some (I (szL Atom.sz xs left),[]):=by
 refine run Zbly rfl ?_
 have h3:=fun fr l=>Zbmu xs h fr 0 (Nat.zero_le _) l
 simp at h3
 simp [Z66,szL,andSz,sz1]
 split
 ·simp_all
 ·rcases h3 [.blk 0,.seq _,.fin _ _] (IntKind.wrap .i64 (left - xs.length)) with ⟨h5,h6⟩ | h5
  ·rw [h5];simp [h6]
  ·rw [h5];simp
theorem Zbmw (x0:Int) (x1:List Atom) (h1:SmL Atom.small x1):C Z8p [.agg [I x0,.t (.lst 2 (x1.map Atom.c))]] []=some (.agg [I x0,.own 0],[.arr Zkq 2 true (x1.map Atom.c)]):=by
 refine run Zblg rfl ?_
 simp [Z6m,Zbmr _ h1]
theorem Zbmx (x0:Int) (x1:List Atom) (y0:Int) (y1:List Atom) (h1:SmL Atom.small x1):C Z8t [.agg [I x0,.t (.lst 2 (x1.map Atom.c))],.agg [I y0,.t (.lst 2 (y1.map Atom.c))]] []=some (Bo (decide (x0=y0∧x1=y1)),[]):=by
 refine run Zblk rfl ?_
 simp [Z6p,Zbmt _ _ h1]
 repeat' split
 all_goals first | (simp_all;done) | grind
theorem Zbmy (x0:Int) (x1:List Atom) (left:Int) (h1:OkL Atom.okay x1):C Z8m [.agg [I x0,.t (.lst 2 (x1.map Atom.c))],I left] []=some (I (Zc.sz ⟨x0,x1⟩ left),[]):=by
 refine run Zbld rfl ?_
 simp [Z6j,Zbmv _ _ h1,Zc.sz,andSz,sz1]
 repeat' split
 all_goals first | (simp_all;done) | grind
theorem c_toBox (x0:List Int) (x1:List Int) (h0:SmA x0) (h1:SmA x1):C Z83 [.agg [.t (tI x0),.t (tI x1)]] []=some (.agg [.own 0,.own 1],[.arr Zx 1 true (x0.map ic),.arr Zx 1 true (x1.map ic)]):=by
 refine run Zblu rfl ?_
 simp [Z60,Zwe _ h0,Zwe _ h1]
theorem c_eqBox (x0:List Int) (x1:List Int) (y0:List Int) (y1:List Int) (h0:SmA x0) (h1:SmA x1):C Z85 [.agg [.t (tI x0),.t (tI x1)],.agg [.t (tI y0),.t (tI y1)]] []=some (Bo (decide (x0=y0∧x1=y1)),[]):=by
 refine run Zblw rfl ?_
 simp [Z62,Zwf _ _ h0,Zwf _ _ h1]
 repeat' split
 all_goals first | (simp_all;done) | grind
theorem c_szBox (x0:List Int) (x1:List Int) (left:Int) :C Z82 [.agg [.t (tI x0),.t (tI x1)],I left] []=some (I (Box.sz ⟨x0,x1⟩ left),[]):=by
 refine run Zblt rfl ?_
 simp [Z6z,Z70,Box.sz,andSz,sz1]
 repeat' split
 all_goals first | (simp_all;done) | grind
theorem Zbmz (x0:Int) (x1:Int) :C Z9x [.agg [I x0,I x1]] []=some (.agg [I x0,I x1],[]):=by
 refine run Zbmo rfl ?_
 simp [Z7y]
theorem Zbm0 (x0:Int) (x1:Int) (y0:Int) (y1:Int) :C Z9y [.agg [I x0,I x1],.agg [I y0,I y1]] []=some (Bo (decide (x0=y0∧x1=y1)),[]):=by
 refine run Zbmp rfl ?_
 simp [Z7z]
 repeat' split
 all_goals first | (simp_all;done) | grind
theorem Zbm1 (xs:List Zg) (h:SmA xs) (fr:List Fr):∀ i,i≤xs.length→EvL C fr [0,3,4] Zqg ⟨[(0,L 2 (xs.map Zg.c)),(3,.own 0),(4,I i)],[[]],[.arr Zez 2 true (fill Zg.c [.int .i64 0,.int .i64 0] xs i)]⟩ =
  EvX C fr (.x 0) ⟨[(0,L 2 (xs.map Zg.c)),(3,.own 0),(4,I xs.length),(11,Bo false)],[[]],[.arr Zez 2 true (xs.map Zg.c)]⟩:=by
 have hl:xs.length≤4294967296:=h
 refine down xs.length ?_ ?_
 ·rw [EvL_eq Zqg.eq_1]
  simp [fill_all]
 ·intro i hi ih
  rw [EvL_eq Zqg.eq_1,← ih]
  have h1:=fill_set (f:=Zg.c) (z:=[.int .i64 0,.int .i64 0]) hi
  have h3:=fill_len (f:=Zg.c) (z:=[.int .i64 0,.int .i64 0]) (Nat.le_of_lt hi)
  have h4:IntKind.wrap .i64 ((i:Int)+1)=(i:Int)+1:=wrap64 (by omega) (by omega)
  simp at h1
  simp [hi,Zbmz,h3,h4,h1]
theorem Zbm2 (xs:List Zg) (h:SmA xs):C Z9m [L 2 (xs.map Zg.c)] []=some (.own 0,[.arr Zez 2 true (xs.map Zg.c)]):=by
 refine run Zbmd rfl ?_
 have hl:xs.length≤4294967296:=h
 have h1:∀ b,b≤4096→xs.length*b≤room:=fun b hb=>Nat.le_trans (Nat.mul_le_mul hl hb) (by decide)
 have h2:(xs.length:Int)≤140737488355328:=by omega
 have h3:=fun fr=>Zbm1 xs h fr 0 (Nat.zero_le _)
 simp [fill_zero] at h3
 simp [Z7n,h1,h2,h3]
theorem Zbm3 (xs ys:List Zg) (h:SmA xs) (hl:ys.length=xs.length) (fr:List Fr):∀ i,i≤xs.length→EvL C fr [0,1,5] Zqh ⟨[(0,L 2 (xs.map Zg.c)),(1,L 2 (ys.map Zg.c)),(5,I i)],[[]],[]⟩ =
  if xs.drop i=ys.drop i then EvX C fr (.x 0) ⟨[(0,L 2 (xs.map Zg.c)),(1,L 2 (ys.map Zg.c)),(5,I xs.length),(14,Bo false)],[[]],[]⟩ else EvX C fr .r ⟨[(4,Bo false)],[[]],[]⟩:=by
 have hm:xs.length≤4294967296:=h
 refine down xs.length ?_ ?_
 ·rw [EvL_eq Zqh.eq_1]
  simp [hl,List.drop_eq_nil_of_le]
 ·intro i hi ih
  have hi2:i<ys.length:=by omega
  have h4:IntKind.wrap .i64 ((i:Int)+1)=(i:Int)+1:=wrap64 (by omega) (by omega)
  rw [EvL_eq Zqh.eq_1]
  simp +decide [hi,hi2,Zbm0 _ _ _ _ ,h4]
  simp at ih
  simp only [drop_eq_iff hi hi2,ih,Zg.ext_iff]
  split <;> first | (simp_all;done) | grind
theorem Zbm4 (xs ys:List Zg) (h:SmA xs):C Z9p [L 2 (xs.map Zg.c),L 2 (ys.map Zg.c)] []=some (Bo (decide (xs=ys)),[]):=by
 refine run Zbmg rfl ?_
 by_cases hl:ys.length=xs.length
 ·have h3:=fun fr=>Zbm3 xs ys h hl fr 0 (Nat.zero_le _)
  simp at h3
  simp [Zwc,h3,hl]
  split <;> simp_all
 ·have h1:xs≠ys:=fun h=>hl (by rw [h])
  have h2:¬ ((xs.length:Int)=ys.length):=by omega
  simp [Zwc,h1,h2]
@[simp] theorem Zbm5 (es:List (List T)) (left:Int):C Z9k [L 2 es,I left] []=some (I (sz1 es.length left),[]):=by
 refine run Zbmb rfl ?_
 simp [Z7l,sz1]
 split <;> simp_all
theorem Znu (x0:Int) (x1:Int) (x2:Int) (x3:Int) (x4:Int) (x5:List Zg) (h5:SmA x5):C Z89 [.agg [I x0,I x1,I x2,I x3,I x4,.t (.lst 2 (x5.map Zg.c))]] []=some (.agg [I x0,I x1,I x2,I x3,I x4,.own 0],[.arr Zez 2 true (x5.map Zg.c)]):=by
 refine run Zbl0 rfl ?_
 simp [Z68,Zbm2 _ h5]
theorem Znv (x0:Int) (x1:Int) (x2:Int) (x3:Int) (x4:Int) (x5:List Zg) (y0:Int) (y1:Int) (y2:Int) (y3:Int) (y4:Int) (y5:List Zg) (h5:SmA x5):C Z9c [.agg [I x0,I x1,I x2,I x3,I x4,.t (.lst 2 (x5.map Zg.c))],.agg [I y0,I y1,I y2,I y3,I y4,.t (.lst 2 (y5.map Zg.c))]] []=some (Bo (decide (x0=y0∧x1=y1∧x2=y2∧x3=y3∧x4=y4∧x5=y5)),[]):=by
 refine run Zbl3 rfl ?_
 simp [Z7b,Zbm4 _ _ h5]
 repeat' split
 all_goals first | (simp_all;done) | grind
theorem Zbm6 (x0:Int) (x1:Int) (x2:Int) (x3:Int) (x4:Int) (x5:List Zg) (left:Int) :C Z86 [.agg [I x0,I x1,I x2,I x3,I x4,.t (.lst 2 (x5.map Zg.c))],I left] []=some (I (Zi.sz ⟨x0,x1,x2,x3,x4,x5⟩ left),[]):=by
 refine run Zblx rfl ?_
 simp [Z65,Zbm5,Zi.sz,andSz,sz1]
 repeat' split
 all_goals first | (simp_all;done) | grind
theorem Zbm7 (x0:Int) (x1:Int) (x2:Int) (x3:Int) (x4:Int) (x5:List Zg) (x6:Int) (x7:Int) (x8:Int) (x9:Int) (x10:Int) (x11:List Zg) (x12:Int) (x13:Int) (x14:Int) (x15:Int) (x16:Int) (x17:List Zg) (x18:Int) (x19:Int) (x20:Int) (x21:Int) (x22:Int) (x23:List Zg) (x24:Int) (x25:Int) (x26:Int) (x27:Int) (x28:Int) (x29:List Zg) (h5:SmA x5) (h11:SmA x11) (h17:SmA x17) (h23:SmA x23) (h29:SmA x29):C Z8o [.agg [I x0,I x1,I x2,I x3,I x4,.t (.lst 2 (x5.map Zg.c)),I x6,I x7,I x8,I x9,I x10,.t (.lst 2 (x11.map Zg.c)),I x12,I x13,I x14,I x15,I x16,.t (.lst 2 (x17.map Zg.c)),I x18,I x19,I x20,I x21,I x22,.t (.lst 2 (x23.map Zg.c)),I x24,I x25,I x26,I x27,I x28,.t (.lst 2 (x29.map Zg.c))]] []=some (.agg [I x0,I x1,I x2,I x3,I x4,.own 0,I x6,I x7,I x8,I x9,I x10,.own 1,I x12,I x13,I x14,I x15,I x16,.own 2,I x18,I x19,I x20,I x21,I x22,.own 3,I x24,I x25,I x26,I x27,I x28,.own 4],[.arr Zez 2 true (x5.map Zg.c),.arr Zez 2 true (x11.map Zg.c),.arr Zez 2 true (x17.map Zg.c),.arr Zez 2 true (x23.map Zg.c),.arr Zez 2 true (x29.map Zg.c)]):=by
 refine run Zblf rfl ?_
 simp [Z6l,Znu _ _ _ _ _ _ h5,Znu _ _ _ _ _ _ h11,Znu _ _ _ _ _ _ h17,Znu _ _ _ _ _ _ h23,Znu _ _ _ _ _ _ h29]
theorem Zbm8 (x0:Int) (x1:Int) (x2:Int) (x3:Int) (x4:Int) (x5:List Zg) (x6:Int) (x7:Int) (x8:Int) (x9:Int) (x10:Int) (x11:List Zg) (x12:Int) (x13:Int) (x14:Int) (x15:Int) (x16:Int) (x17:List Zg) (x18:Int) (x19:Int) (x20:Int) (x21:Int) (x22:Int) (x23:List Zg) (x24:Int) (x25:Int) (x26:Int) (x27:Int) (x28:Int) (x29:List Zg) (y0:Int) (y1:Int) (y2:Int) (y3:Int) (y4:Int) (y5:List Zg) (y6:Int) (y7:Int) (y8:Int) (y9:Int) (y10:Int) (y11:List Zg) (y12:Int) (y13:Int) (y14:Int) (y15:Int) (y16:Int) (y17:List Zg) (y18:Int) (y19:Int) (y20:Int) (y21:Int) (y22:Int) (y23:List Zg) (y24:Int) (y25:Int) (y26:Int) (y27:Int) (y28:Int) (y29:List Zg) (h5:SmA x5) (h11:SmA x11) (h17:SmA x17) (h23:SmA x23) (h29:SmA x29):C Z8s [.agg [I x0,I x1,I x2,I x3,I x4,.t (.lst 2 (x5.map Zg.c)),I x6,I x7,I x8,I x9,I x10,.t (.lst 2 (x11.map Zg.c)),I x12,I x13,I x14,I x15,I x16,.t (.lst 2 (x17.map Zg.c)),I x18,I x19,I x20,I x21,I x22,.t (.lst 2 (x23.map Zg.c)),I x24,I x25,I x26,I x27,I x28,.t (.lst 2 (x29.map Zg.c))],.agg [I y0,I y1,I y2,I y3,I y4,.t (.lst 2 (y5.map Zg.c)),I y6,I y7,I y8,I y9,I y10,.t (.lst 2 (y11.map Zg.c)),I y12,I y13,I y14,I y15,I y16,.t (.lst 2 (y17.map Zg.c)),I y18,I y19,I y20,I y21,I y22,.t (.lst 2 (y23.map Zg.c)),I y24,I y25,I y26,I y27,I y28,.t (.lst 2 (y29.map Zg.c))]] []=some (Bo (decide (x0=y0∧x1=y1∧x2=y2∧x3=y3∧x4=y4∧x5=y5∧x6=y6∧x7=y7∧x8=y8∧x9=y9∧x10=y10∧x11=y11∧x12=y12∧x13=y13∧x14=y14∧x15=y15∧x16=y16∧x17=y17∧x18=y18∧x19=y19∧x20=y20∧x21=y21∧x22=y22∧x23=y23∧x24=y24∧x25=y25∧x26=y26∧x27=y27∧x28=y28∧x29=y29)),[]):=by
 refine run Zblj rfl ?_
 simp [Z6o,Znv _ _ _ _ _ _ _ _ _ _ _ _ h5,Znv _ _ _ _ _ _ _ _ _ _ _ _ h11,Znv _ _ _ _ _ _ _ _ _ _ _ _ h17,Znv _ _ _ _ _ _ _ _ _ _ _ _ h23,Znv _ _ _ _ _ _ _ _ _ _ _ _ h29]
 repeat' split
 all_goals first | (simp_all;done) | grind
theorem Zbm9 (x0:Int) (x1:Int) (x2:Int) (x3:Int) (x4:Int) (x5:List Zg) (x6:Int) (x7:Int) (x8:Int) (x9:Int) (x10:Int) (x11:List Zg) (x12:Int) (x13:Int) (x14:Int) (x15:Int) (x16:Int) (x17:List Zg) (x18:Int) (x19:Int) (x20:Int) (x21:Int) (x22:Int) (x23:List Zg) (x24:Int) (x25:Int) (x26:Int) (x27:Int) (x28:Int) (x29:List Zg) (left:Int) :C Z8l [.agg [I x0,I x1,I x2,I x3,I x4,.t (.lst 2 (x5.map Zg.c)),I x6,I x7,I x8,I x9,I x10,.t (.lst 2 (x11.map Zg.c)),I x12,I x13,I x14,I x15,I x16,.t (.lst 2 (x17.map Zg.c)),I x18,I x19,I x20,I x21,I x22,.t (.lst 2 (x23.map Zg.c)),I x24,I x25,I x26,I x27,I x28,.t (.lst 2 (x29.map Zg.c))],I left] []=some (I (Zd.sz ⟨⟨x0,x1,x2,x3,x4,x5⟩,⟨x6,x7,x8,x9,x10,x11⟩,⟨x12,x13,x14,x15,x16,x17⟩,⟨x18,x19,x20,x21,x22,x23⟩,⟨x24,x25,x26,x27,x28,x29⟩⟩ left),[]):=by
 refine run Zblc rfl ?_
 simp [Z6i,Zbm6,Zd.sz,andSz,sz1]
 repeat' split
 all_goals first | (simp_all;done) | grind
theorem Zbna (x0:Int) (x1:Int) (x2:Int) :C Z9o [.agg [I x0,I x1,I x2]] []=some (.agg [I x0,I x1,I x2],[]):=by
 refine run Zbmf rfl ?_
 simp [Z7p]
theorem Zbnb (x0:Int) (x1:Int) (x2:Int) (y0:Int) (y1:Int) (y2:Int) :C Z9r [.agg [I x0,I x1,I x2],.agg [I y0,I y1,I y2]] []=some (Bo (decide (x0=y0∧x1=y1∧x2=y2)),[]):=by
 refine run Zbmi rfl ?_
 simp [Z7r]
 repeat' split
 all_goals first | (simp_all;done) | grind
theorem Zbnc (xs:List Zb) (h:SmA xs) (fr:List Fr):∀ i,i≤xs.length→EvL C fr [0,3,4] Zqb ⟨[(0,L 3 (xs.map Zb.c)),(3,.own 0),(4,I i)],[[]],[.arr Zji 3 true (fill Zb.c [.int .i64 0,.int .i64 0,.int .i64 0] xs i)]⟩ =
  EvX C fr (.x 0) ⟨[(0,L 3 (xs.map Zb.c)),(3,.own 0),(4,I xs.length),(11,Bo false)],[[]],[.arr Zji 3 true (xs.map Zb.c)]⟩:=by
 have hl:xs.length≤4294967296:=h
 refine down xs.length ?_ ?_
 ·rw [EvL_eq Zqb.eq_1]
  simp [fill_all]
 ·intro i hi ih
  rw [EvL_eq Zqb.eq_1,← ih]
  have h1:=fill_set (f:=Zb.c) (z:=[.int .i64 0,.int .i64 0,.int .i64 0]) hi
  have h3:=fill_len (f:=Zb.c) (z:=[.int .i64 0,.int .i64 0,.int .i64 0]) (Nat.le_of_lt hi)
  have h4:IntKind.wrap .i64 ((i:Int)+1)=(i:Int)+1:=wrap64 (by omega) (by omega)
  simp at h1
  simp [hi,Zbna,h3,h4,h1]
theorem Zbnd (xs:List Zb) (h:SmA xs):C Z9b [L 3 (xs.map Zb.c)] []=some (.own 0,[.arr Zji 3 true (xs.map Zb.c)]):=by
 refine run Zbl2 rfl ?_
 have hl:xs.length≤4294967296:=h
 have h1:∀ b,b≤4096→xs.length*b≤room:=fun b hb=>Nat.le_trans (Nat.mul_le_mul hl hb) (by decide)
 have h2:(xs.length:Int)≤140737488355328:=by omega
 have h3:=fun fr=>Zbnc xs h fr 0 (Nat.zero_le _)
 simp [fill_zero] at h3
 simp [Z7a,h1,h2,h3]
theorem Zbne (xs ys:List Zb) (h:SmA xs) (hl:ys.length=xs.length) (fr:List Fr):∀ i,i≤xs.length→EvL C fr [0,1,5] Zqd ⟨[(0,L 3 (xs.map Zb.c)),(1,L 3 (ys.map Zb.c)),(5,I i)],[[]],[]⟩ =
  if xs.drop i=ys.drop i then EvX C fr (.x 0) ⟨[(0,L 3 (xs.map Zb.c)),(1,L 3 (ys.map Zb.c)),(5,I xs.length),(14,Bo false)],[[]],[]⟩ else EvX C fr .r ⟨[(4,Bo false)],[[]],[]⟩:=by
 have hm:xs.length≤4294967296:=h
 refine down xs.length ?_ ?_
 ·rw [EvL_eq Zqd.eq_1]
  simp [hl,List.drop_eq_nil_of_le]
 ·intro i hi ih
  have hi2:i<ys.length:=by omega
  have h4:IntKind.wrap .i64 ((i:Int)+1)=(i:Int)+1:=wrap64 (by omega) (by omega)
  rw [EvL_eq Zqd.eq_1]
  simp +decide [hi,hi2,Zbnb _ _ _ _ _ _ ,h4]
  simp at ih
  simp only [drop_eq_iff hi hi2,ih,Zb.ext_iff]
  split <;> first | (simp_all;done) | grind
theorem Zbnf (xs ys:List Zb) (h:SmA xs):C Z9e [L 3 (xs.map Zb.c),L 3 (ys.map Zb.c)] []=some (Bo (decide (xs=ys)),[]):=by
 refine run Zbl5 rfl ?_
 by_cases hl:ys.length=xs.length
 ·have h3:=fun fr=>Zbne xs ys h hl fr 0 (Nat.zero_le _)
  simp at h3
  simp [Zv6,h3,hl]
  split <;> simp_all
 ·have h1:xs≠ys:=fun h=>hl (by rw [h])
  have h2:¬ ((xs.length:Int)=ys.length):=by omega
  simp [Zv6,h1,h2]
@[simp] theorem Zbng (es:List (List T)) (left:Int):C Z88 [L 3 es,I left] []=some (I (sz1 es.length left),[]):=by
 refine run Zblz rfl ?_
 simp [Z67,sz1]
 split <;> simp_all
theorem c_toPlan (x0:List Zb) (h0:SmA x0):C Z8q [.agg [.t (.lst 3 (x0.map Zb.c))]] []=some (.agg [.own 0],[.arr Zji 3 true (x0.map Zb.c)]):=by
 refine run Zblh rfl ?_
 simp [Z6n,Zbnd _ h0]
theorem c_eqPlan (x0:List Zb) (y0:List Zb) (h0:SmA x0):C Z8u [.agg [.t (.lst 3 (x0.map Zb.c))],.agg [.t (.lst 3 (y0.map Zb.c))]] []=some (Bo (decide (x0=y0)),[]):=by
 refine run Zbll rfl ?_
 simp [Z6q,Zbnf _ _ h0]
 repeat' split
 all_goals first | (simp_all;done) | grind
theorem c_szPlan (x0:List Zb) (left:Int) :C Z8n [.agg [.t (.lst 3 (x0.map Zb.c))],I left] []=some (I (Plan.sz ⟨x0⟩ left),[]):=by
 refine run Zble rfl ?_
 simp [Z6k,Zbng,Plan.sz,andSz,sz1]
 repeat' split
 all_goals first | (simp_all;done) | grind
theorem Zbnh (x0:List Zb) (x1:List Int) (x2:List Int) (x3:Int) (h0:SmA x0) (h1:SmA x1) (h2:SmA x2):C Z8y [.agg [.t (.lst 3 (x0.map Zb.c)),.t (tI x1),.t (tI x2),I x3]] []=some (.agg [.own 0,.own 1,.own 2,I x3],[.arr Zji 3 true (x0.map Zb.c),.arr Zx 1 true (x1.map ic),.arr Zx 1 true (x2.map ic)]):=by
 refine run Zblp rfl ?_
 simp [Z6v,c_toPlan _ h0,c_toBox _ _ h1 h2]
theorem Zbni (x0:List Zb) (x1:List Int) (x2:List Int) (x3:Int) (y0:List Zb) (y1:List Int) (y2:List Int) (y3:Int) (h0:SmA x0) (h1:SmA x1) (h2:SmA x2):C Z8z [.agg [.t (.lst 3 (x0.map Zb.c)),.t (tI x1),.t (tI x2),I x3],.agg [.t (.lst 3 (y0.map Zb.c)),.t (tI y1),.t (tI y2),I y3]] []=some (Bo (decide (x0=y0∧x1=y1∧x2=y2∧x3=y3)),[]):=by
 refine run Zblq rfl ?_
 simp [Z6w,c_eqPlan _ _ h0,c_eqBox _ _ _ _ h1 h2]
 repeat' split
 all_goals first | (simp_all;done) | grind
theorem Zbnj (x0:List Zb) (x1:List Int) (x2:List Int) (x3:Int) (left:Int) :C Z8x [.agg [.t (.lst 3 (x0.map Zb.c)),.t (tI x1),.t (tI x2),I x3],I left] []=some (I (Region.sz ⟨⟨x0⟩,⟨x1,x2⟩,x3⟩ left),[]):=by
 refine run Zblo rfl ?_
 simp [Z6u,c_szPlan,c_szBox,Region.sz,andSz,sz1]
 repeat' split
 all_goals first | (simp_all;done) | grind
theorem Zbnk (x0:Int) (x1:List Atom) (x2:List Zb) (x3:List Int) (x4:List Int) (x5:Int) (x6:Int) (x7:Int) (h1:SmL Atom.small x1) (h2:SmA x2) (h3:SmA x3) (h4:SmA x4):C Z9u [.agg [I x0,.t (.lst 2 (x1.map Atom.c)),.t (.lst 3 (x2.map Zb.c)),.t (tI x3),.t (tI x4),I x5,I x6,I x7]] []=some (.agg [I x0,.own 0,.own 1,.own 2,.own 3,I x5,I x6,I x7],[.arr Zkq 2 true (x1.map Atom.c),.arr Zji 3 true (x2.map Zb.c),.arr Zx 1 true (x3.map ic),.arr Zx 1 true (x4.map ic)]):=by
 refine run Zbml rfl ?_
 simp [Z7v,Zbmw _ _ h1,Zbnh _ _ _ _ h2 h3 h4]
theorem Zbnl (x0:Int) (x1:List Atom) (x2:List Zb) (x3:List Int) (x4:List Int) (x5:Int) (x6:Int) (x7:Int) (y0:Int) (y1:List Atom) (y2:List Zb) (y3:List Int) (y4:List Int) (y5:Int) (y6:Int) (y7:Int) (h1:SmL Atom.small x1) (h2:SmA x2) (h3:SmA x3) (h4:SmA x4):C Z9v [.agg [I x0,.t (.lst 2 (x1.map Atom.c)),.t (.lst 3 (x2.map Zb.c)),.t (tI x3),.t (tI x4),I x5,I x6,I x7],.agg [I y0,.t (.lst 2 (y1.map Atom.c)),.t (.lst 3 (y2.map Zb.c)),.t (tI y3),.t (tI y4),I y5,I y6,I y7]] []=some (Bo (decide (x0=y0∧x1=y1∧x2=y2∧x3=y3∧x4=y4∧x5=y5∧x6=y6∧x7=y7)),[]):=by
 refine run Zbmm rfl ?_
 simp [Z7w,Zbmx _ _ _ _ h1,Zbni _ _ _ _ _ _ _ _ h2 h3 h4]
 repeat' split
 all_goals first | (simp_all;done) | grind
theorem Zbnm (x0:Int) (x1:List Atom) (x2:List Zb) (x3:List Int) (x4:List Int) (x5:Int) (x6:Int) (x7:Int) (left:Int) (h1:OkL Atom.okay x1):C Z9t [.agg [I x0,.t (.lst 2 (x1.map Atom.c)),.t (.lst 3 (x2.map Zb.c)),.t (tI x3),.t (tI x4),I x5,I x6,I x7],I left] []=some (I (Zf.sz ⟨⟨x0,x1⟩,⟨⟨x2⟩,⟨x3,x4⟩,x5⟩,x6,x7⟩ left),[]):=by
 refine run Zbmk rfl ?_
 simp [Z7u,Zbmy _ _ _ h1,Zbnj,Zf.sz,andSz,sz1]
 repeat' split
 all_goals first | (simp_all;done) | grind
theorem Zbnn (xs:List Zf) (h:SmL Zf.small xs) (fr:List Fr):∀ i,i≤xs.length→EvL C fr [0,3,4] Zqe ⟨[(0,L 8 (xs.map Zf.c)),(3,.own 0),(4,I i)],[[]],[.arr Zn5 8 true (fill Zf.c [.int .i64 0,.lst 2 [],.lst 3 [],.lst 1 [],.lst 1 [],.int .i64 0,.int .i64 0,.int .i64 0] xs i)]⟩ =
  EvX C fr (.x 0) ⟨[(0,L 8 (xs.map Zf.c)),(3,.own 0),(4,I xs.length),(11,Bo false)],[[]],[.arr Zn5 8 true (xs.map Zf.c)]⟩:=by
 have hl:xs.length≤4294967296:=h.1
 refine down xs.length ?_ ?_
 ·rw [EvL_eq Zqe.eq_1]
  simp [fill_all]
 ·intro i hi ih
  rw [EvL_eq Zqe.eq_1,← ih]
  have h1:=fill_set (f:=Zf.c) (z:=[.int .i64 0,.lst 2 [],.lst 3 [],.lst 1 [],.lst 1 [],.int .i64 0,.int .i64 0,.int .i64 0]) hi
  have h3:=fill_len (f:=Zf.c) (z:=[.int .i64 0,.lst 2 [],.lst 3 [],.lst 1 [],.lst 1 [],.int .i64 0,.int .i64 0,.int .i64 0]) (Nat.le_of_lt hi)
  have h4:IntKind.wrap .i64 ((i:Int)+1)=(i:Int)+1:=wrap64 (by omega) (by omega)
  simp at h1
  simp [hi,Zbnk _ _ _ _ _ _ _ _ (h.2 _ (List.getElem_mem hi)).1 (h.2 _ (List.getElem_mem hi)).2.1 (h.2 _ (List.getElem_mem hi)).2.2.1 (h.2 _ (List.getElem_mem hi)).2.2.2,h3,h4,h1]
theorem Zbno (xs:List Zf) (h:SmL Zf.small xs):C Z9h [L 8 (xs.map Zf.c)] []=some (.own 0,[.arr Zn5 8 true (xs.map Zf.c)]):=by
 refine run Zbl8 rfl ?_
 have hl:xs.length≤4294967296:=h.1
 have h1:∀ b,b≤4096→xs.length*b≤room:=fun b hb=>Nat.le_trans (Nat.mul_le_mul hl hb) (by decide)
 have h2:(xs.length:Int)≤140737488355328:=by omega
 have h3:=fun fr=>Zbnn xs h fr 0 (Nat.zero_le _)
 simp [fill_zero] at h3
 simp [Z7g,h1,h2,h3]
theorem Zbnp (xs ys:List Zf) (h:SmL Zf.small xs) (hl:ys.length=xs.length) (fr:List Fr):∀ i,i≤xs.length→EvL C fr [0,1,5] Zkk ⟨[(0,L 8 (xs.map Zf.c)),(1,L 8 (ys.map Zf.c)),(5,I i)],[[]],[]⟩ =
  if xs.drop i=ys.drop i then EvX C fr (.x 0) ⟨[(0,L 8 (xs.map Zf.c)),(1,L 8 (ys.map Zf.c)),(5,I xs.length),(14,Bo false)],[[]],[]⟩ else EvX C fr .r ⟨[(4,Bo false)],[[]],[]⟩:=by
 have hm:xs.length≤4294967296:=h.1
 refine down xs.length ?_ ?_
 ·rw [EvL_eq Zkk.eq_1]
  simp [hl,List.drop_eq_nil_of_le]
 ·intro i hi ih
  have hi2:i<ys.length:=by omega
  have h4:IntKind.wrap .i64 ((i:Int)+1)=(i:Int)+1:=wrap64 (by omega) (by omega)
  rw [EvL_eq Zkk.eq_1]
  simp +decide [hi,hi2,Zbnl _ _ _ _ _ _ _ _ _ _ _ _ _ _ _ _ (h.2 _ (List.getElem_mem hi)).1 (h.2 _ (List.getElem_mem hi)).2.1 (h.2 _ (List.getElem_mem hi)).2.2.1 (h.2 _ (List.getElem_mem hi)).2.2.2,h4]
  simp at ih
  simp only [drop_eq_iff hi hi2,ih,Zf.ext_iff,Zc.ext_iff,Region.ext_iff,Plan.ext_iff,Box.ext_iff]
  split <;> first | (simp_all;done) | grind
theorem Zbnq (xs ys:List Zf) (h:SmL Zf.small xs):C Zqu [L 8 (xs.map Zf.c),L 8 (ys.map Zf.c)] []=some (Bo (decide (xs=ys)),[]):=by
 refine run Zv9 rfl ?_
 by_cases hl:ys.length=xs.length
 ·have h3:=fun fr=>Zbnp xs ys h hl fr 0 (Nat.zero_le _)
  simp at h3
  simp [Znq,h3,hl]
  split <;> simp_all
 ·have h1:xs≠ys:=fun h=>hl (by rw [h])
  have h2:¬ ((xs.length:Int)=ys.length):=by omega
  simp [Znq,h1,h2]
theorem Zbnr (xs:List Zf) (h:OkL Zf.okay xs) (fr:List Fr):∀ i,i≤xs.length→∀ left:Int,
  (EvL C fr [0,1,5] Zjb ⟨[(0,L 8 (xs.map Zf.c)),(1,I left),(5,I i)],[[]],[]⟩=EvX C fr .r ⟨[(4,I (-1))],[[]],[]⟩∧szFold Zf.sz (xs.drop i) left=-1) ∨
  EvL C fr [0,1,5] Zjb ⟨[(0,L 8 (xs.map Zf.c)),(1,I left),(5,I i)],[[]],[]⟩=EvX C fr (.x 0) ⟨[(0,L 8 (xs.map Zf.c)),(1,I (szFold Zf.sz (xs.drop i) left)),(5,I xs.length),(15,Bo false)],[[]],[]⟩:=by
 have hm:maxLen≤9223372036854775807:=by decide
 have hl:=h.1
 refine down xs.length ?_ ?_
 ·intro left
  right
  rw [EvL_eq Zjb.eq_1]
  simp [List.drop_eq_nil_of_le,szFold]
 ·intro i hi ih left
  have h4:IntKind.wrap .i64 ((i:Int)+1)=(i:Int)+1:=wrap64 (by omega) (by omega)
  have e:EvL C fr [0,1,5] Zjb ⟨[(0,L 8 (xs.map Zf.c)),(1,I left),(5,I i)],[[]],[]⟩=if Zf.sz xs[i] left<0 then EvX C fr .r ⟨[(4,I (-1))],[[]],[]⟩ else EvL C fr [0,1,5] Zjb ⟨[(0,L 8 (xs.map Zf.c)),(1,I (Zf.sz xs[i] left)),(5,I ((i+1:Nat):Int))],[[]],[]⟩:=by
   rw [EvL_eq Zjb.eq_1]
   simp [hi,Zbnm _ _ _ _ _ _ _ _ _ (h.2 _ (List.getElem_mem hi)).2.1,h4]
  rw [e,List.drop_eq_getElem_cons hi,szFold]
  split
  ·exact .inl ⟨rfl,rfl⟩
  ·exact ih _
theorem Zbns (xs:List Zf) (left:Int) (h:OkL Zf.okay xs):C Z9g [L 8 (xs.map Zf.c),I left] []=some (I (szL Zf.sz xs left),[]):=by
 refine run Zbl7 rfl ?_
 have h3:=fun fr l=>Zbnr xs h fr 0 (Nat.zero_le _) l
 simp at h3
 simp [Z7f,szL,andSz,sz1]
 split
 ·simp_all
 ·rcases h3 [.blk 0,.seq _,.fin _ _] (IntKind.wrap .i64 (left - xs.length)) with ⟨h5,h6⟩ | h5
  ·rw [h5];simp [h6]
  ·rw [h5];simp
theorem Zbnt (x0:Int) (x1:List Zf) (h1:SmL Zf.small x1):C Z81 [.agg [I x0,.t (.lst 8 (x1.map Zf.c))]] []=some (.agg [I x0,.own 0],[.arr Zn5 8 true (x1.map Zf.c)]):=by
 refine run Zbls rfl ?_
 simp [Z6y,Zbno _ h1]
theorem Z71 (x0:Int) (x1:List Zf) (y0:Int) (y1:List Zf) (h1:SmL Zf.small x1):C Zqt [.agg [I x0,.t (.lst 8 (x1.map Zf.c))],.agg [I y0,.t (.lst 8 (y1.map Zf.c))]] []=some (Bo (decide (x0=y0∧x1=y1)),[]):=by
 refine run Zv2 rfl ?_
 simp [Zp8,Zbnq _ _ h1]
 repeat' split
 all_goals first | (simp_all;done) | grind
theorem Zbnu (x0:Int) (x1:List Zf) (left:Int) (h1:OkL Zf.okay x1):C Z80 [.agg [I x0,.t (.lst 8 (x1.map Zf.c))],I left] []=some (I (Zp.sz ⟨x0,x1⟩ left),[]):=by
 refine run Zblr rfl ?_
 simp [Z6x,Zbns _ _ h1,Zp.sz,andSz,sz1]
 repeat' split
 all_goals first | (simp_all;done) | grind
def mkL {α:Type} (f:α→Int→α) (n:α→Nat):List α→Int→List α
 | [],_=>[]
 | x::xs,k=>f x k::mkL f n xs (k+(n x:Int))
def cnL {α:Type} (n:α→Nat):List α→Nat
 | []=>0
 | x::xs=>n x+cnL n xs
def mkI (xs:List Int) (k:Int):List Int:=mkL (fun _ k=>k) (fun _=>1) xs k
theorem Z72 (x:Int) (xs:List Int) (k:Int):mkI (x::xs) k=k::mkI xs (k+1):=rfl
theorem Zbnv (e:Nat) (fr:List Fr):∀ (xs d:List Int) (k:Int),0≤k→k+(xs.length:Int)≤4611686018427387904→d.length+xs.length≤4294967296→EvL C fr [0,1,5] Znn ⟨[(0,.own 0),(1,I k),(5,I d.length)],[[(0,.own 0)]],[.xarr e 1 ((d++xs).map ic)]⟩ =
  EvX C fr (.x 0) ⟨[(0,.own 0),(1,I (k+xs.length)),(5,I (d.length+xs.length)),(9,Bo false)],[[(0,.own 0)]],[.xarr e 1 ((d++mkI xs k).map ic)]⟩:=by
 intro xs
 induction xs with
 | nil =>
  intro d k h1 h2 h3
  rw [EvL_eq Znn.eq_1]
  simp [mkI,mkL]
 | cons x xs ih =>
  intro d k h1 h2 h3
  simp only [List.length_cons] at h2 h3
  have ih':=ih (d++[k]) (k+1) (by omega) (by omega) (by simp;omega)
  rw [EvL_eq Znn.eq_1]
  have g1:IntKind.wrap .i64 ((d.length:Int)+1)=(d.length:Int)+1:=wrap64 (by omega) (by omega)
  have g2:IntKind.wrap .i64 (k+1)=k+1:=wrap64 (by omega) (by omega)
  have g3:(d.length:Int)<(d.length:Int)+((xs.length:Int)+1):=by omega
  have g4:k+1+(xs.length:Int)=k+((xs.length:Int)+1):=by omega
  have g5:(d.length:Int)+1+(xs.length:Int)=(d.length:Int)+((xs.length:Int)+1):=by omega
  simp [g4,g5] at ih'
  simp [g1,g2,g3,ih',Z72]
theorem Zbnw (e:Nat) (xs:List Int) (k:Int) (h1:0≤k) (h2:k+(xs.length:Int)≤4611686018427387904) (h3:SmA xs):C Zn2 [.own 0,I k] [.xarr e 1 (xs.map ic)]=some (I (k+xs.length),[.xarr e 1 ((mkI xs k).map ic)]):=by
 refine runM Z6s rfl ?_
 have h4:=fun fr=>Zbnv e fr xs [] k h1 h2 (by have:xs.length≤4294967296:=h3;simp;omega)
 simp at h4
 simp [Zv1,h4]
theorem Zbnx (n:Nat) (k:Int):C Zn2 [.t (.lst n []),I k] []=some (I k,[]):=by
 refine run Z6s rfl ?_
 simp [Zv1,EvL_eq Znn.eq_1]
theorem Zbny (fr:List Fr):∀ (xs d:List Int) (k:Int),0≤k→k+(xs.length:Int)≤4611686018427387904→d.length+xs.length≤4294967296→EvL C fr [0,1,5] Zp7 ⟨[(0,L 1 ((d++mkI xs k).map ic)),(1,I k),(5,I d.length)],[[]],[]⟩ =
  EvX C fr (.x 0) ⟨[(0,L 1 ((d++mkI xs k).map ic)),(1,I (k+xs.length)),(5,I (d.length+xs.length)),(9,Bo false)],[[]],[]⟩:=by
 intro xs
 induction xs with
 | nil =>
  intro d k h1 h2 h3
  rw [EvL_eq Zp7.eq_1]
  simp [mkI,mkL]
 | cons x xs ih =>
  intro d k h1 h2 h3
  simp only [List.length_cons] at h2 h3
  have ih':=ih (d++[k]) (k+1) (by omega) (by omega) (by simp;omega)
  rw [EvL_eq Zp7.eq_1]
  have g1:IntKind.wrap .i64 ((d.length:Int)+1)=(d.length:Int)+1:=wrap64 (by omega) (by omega)
  have g2:IntKind.wrap .i64 (k+1)=k+1:=wrap64 (by omega) (by omega)
  have g3:(d.length:Int)<(d.length:Int)+(((mkI xs (k+1)).length:Int)+1):=by omega
  have g4:k+1+(xs.length:Int)=k+((xs.length:Int)+1):=by omega
  have g5:(d.length:Int)+1+(xs.length:Int)=(d.length:Int)+((xs.length:Int)+1):=by omega
  simp [g4,g5] at ih'
  simp [g1,g2,g3,ih',Z72]
theorem strB_one (x:Int):(strB [x]).size=1:=by simp [strB];rfl
theorem Zbnz (fr:List Fr):∀ (n:Nat) (k:Int) (out:ByteArray),k.toNat≤n→(out.size:Int)+k≤4611686018427387904→0≤k→∃ s,s.size≤out.size+n∧EvL C fr [0,3] Znt ⟨[(0,I k),(3,.t (.str out))],[[]],[]⟩=EvX C fr (.x 0) ⟨[(0,I 0),(3,.t (.str s)),(7,Bo false)],[[]],[]⟩:=by
 intro n
 induction n with
 | zero =>
  intro k out h1 h2 h3
  have:k=0:=by omega
  subst this
  rw [EvL_eq Znt.eq_1]
  exact ⟨out,by simp⟩
 | succ n ih =>
  intro k out h1 h2 h3
  by_cases h0:k=0
  ·subst h0
   rw [EvL_eq Znt.eq_1]
   exact ⟨out,by simp⟩
  have hk:0<k:=by omega
  have e:k.tdiv 10=k / 10:=Int.tdiv_eq_ediv_of_nonneg h3
  have e2:IntKind.wrap .i64 (k / 10)=k / 10:=wrap64 (by omega) (by omega)
  generalize hx:IntKind.wrap .u8 (IntKind.wrap .i64 (48+k.tmod 10))=x
  have s1:=strB_one x
  have c:1+out.size≤9223372036854775807:=by omega
  obtain ⟨s,hs,hr⟩:=ih (k / 10) (strB [x]++out) (by omega) (by rw [ByteArray.size_append,s1];omega) (by omega)
  rw [ByteArray.size_append,s1] at hs
  refine ⟨s,by omega,?_⟩
  rw [EvL_eq Znt.eq_1]
  simp [hk,hx,s1,c,e,e2,hr]
theorem Zbn0 (k:Int) (h1:0≤k) (h2:k≤4000000000000000000):∃ s,C Zqv [I k] []=some (.t (.str s),[]):=by
 by_cases h0:k=0
 ·subst h0
  refine ⟨⟨#[109,48]⟩,run Z7t rfl ?_⟩
  simp [Zwd]
 ·have h3:¬ k≤0:=by omega
  obtain ⟨s,hs,hr⟩:=Zbnz [.blk 0,.seq (.seq (.reg [⟨some 18,none,.mov (.s 3)⟩,⟨some 19,none,.bin .add (.c (.t (.str ⟨#[109]⟩))) (.s 18)⟩,⟨some 2,none,.mov (.s 19)⟩] [2]) .ret),.fin 0 [.tmp 2]] k.toNat k ⟨#[]⟩ (Nat.le_refl _) (by simp [ByteArray.size];omega) h1
  have c:(⟨#[109]⟩:ByteArray).size+s.size≤9223372036854775807:=by
   have:(⟨#[]⟩:ByteArray).size=0:=rfl
   have:(⟨#[109]⟩:ByteArray).size=1:=rfl
   omega
  refine ⟨⟨#[109]⟩++s,run Z7t rfl ?_⟩
  simp at hr
  simp [Zwd,h3,hr,c]
noncomputable def mtext (k:Int):ByteArray:=match C Zqv [I k] [] with
 | some (.t (.str s),[])=>s
 | _=>⟨#[]⟩
theorem Z73 (k:Int) (h1:0≤k) (h2:k≤4000000000000000000):C Zqv [I k] []=some (.t (.str (mtext k)),[]):=by
 obtain ⟨s,h⟩:=Zbn0 k h1 h2
 have:mtext k=s:=by unfold mtext;rw [h]
 rw [this,h]
end Go.Proofs.YtbapkgocloaaeaaGreat
