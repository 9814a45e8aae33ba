/-
  Parts of the proofs for this seat: RT K FA MP MQ MR.
-/
import Derived.Test.YtbapkgocloaaeaaGreatP7
import Derived.Test.YtbapkgocloaaeaaGreatP8
import Derived.Test.YtbapkgocloaaeaaGreatP11
set_option linter.unusedSimpArgs false
set_option linter.unusedVariables false
set_option maxRecDepth 100000
set_option maxHeartbeats 4000000
/- part: RT -/
namespace Go.Proofs.YtbapkgocloaaeaaGreat
open Go.AM
theorem Zyv (steps:List Ze) (hl:steps.length≤100):∀ i,i≤steps.length→∀ out,out.length≤i→Zdn out steps steps.length i=some (.own 0,[.arr Zv 1 true ((out++jst (steps.drop i) i).map ic)]):=by
 refine down _ ?_ ?_
 ·intro out ho
  refine Zpy _ _ _ _ _ ?_
  rw [if_neg (by omega),List.drop_length];simp [jst]
 ·intro i hi ih out ho
  have h5:=inc64 (i:=i) (by omega)
  refine Zpy _ _ _ _ _ ?_
  rw [if_pos (by omega),Zme hi]
  refine ⟨by omega,_,List.getElem?_eq_getElem hi,?_⟩
  rw [show w ((i:Int)+1)=((i+1:Nat):Int) from h5]
  by_cases c:3≤(steps[i]).Kind
  ·rw [if_pos (by simpa using c),if_pos c]
   refine ⟨by omega,?_⟩
   rw [ih _ (by simp;omega)]
   simp
  ·rw [if_neg (by simpa using c),if_neg c]
   exact ih _ (by omega)
theorem Zyw (p:Plan) (hl:p.Steps.length≤100):Zgd p=some (.own 0,[.arr Zv 1 true ((jst p.Steps 0).map ic)]):=by
 have:=Zyv p.Steps hl 0 (Nat.zero_le _) [] (Nat.zero_le _)
 exact Zw0 _ _ (by simpa using this)
theorem Zln:∀ (xs:List Ze) (i:Nat),List.Pairwise (·<·) (jst xs i)
 | [],_=>by simp [jst]
 | x::xs,i=>by
  unfold jst
  split
  ·refine List.pairwise_cons.2 ⟨fun j hj=>?_,Zln xs (i+1)⟩
   have:=Ze3 hj
   omega
  ·exact Zln xs (i+1)
def rdB (m:Zf) (steps:List Ze) (info:List Za) (kept:List Kept) (i:Int):Bool:=match steps[i.toNat]?,info[i.toNat]? with
 | some x,some y=>decide (0≤Z3 kept y.Mask) && Zbu m x.Kind (Z3 kept y.Mask)
 | _,_=>false
def rdL (m:Zf) (steps:List Ze) (info:List Za) (kept:List Kept) (i:Nat):List Int:=(jst (steps.drop i) i).filter (rdB m steps info kept)
theorem l_rs1 {info:List Za} (h:lw info) (rd:List Int) (hj:inI info rd) (hl:rd.length≤1000):∀ i,i≤rd.length→∀ out,out.length≤i →
  Zcx info rd out rd.length i=some (.own 0,[.arr Zv 1 true ((out++(rd.drop i).filter fun i=>!(rd.any (contr info i))).map ic)]):=by
 refine down _ ?_ ?_
 ·intro out ho
  refine Zp2 _ _ _ _ _ _ ?_
  rw [if_neg (by omega),List.drop_length];simp
 ·intro i hi ih out ho
  have h5:=inc64 (i:=i) (by omega)
  refine Zp2 _ _ _ _ _ _ ?_
  rw [if_pos (by omega)]
  refine ⟨by omega,_,List.getElem?_eq_getElem hi,_,Zyq h rd hj hl _,?_⟩
  rw [show w ((i:Int)+1)=((i+1:Nat):Int) from h5,List.drop_eq_getElem_cons hi,List.filter_cons]
  rcases tf (rd.any (contr info rd[i])) with e | e
  ·rw [e,if_neg (by decide),if_pos (by decide)]
   refine ⟨by omega,?_⟩
   rw [ih _ (by simp;omega)]
   simp
  ·rw [e,if_pos rfl,if_neg (by decide)]
   exact ih _ (by omega)
theorem l_rs0 {m:Zf} (hm:LeM m) (ha:Zbt m) {p:Plan} {info:List Za} {kept:List Kept} (hk:Le kept) (hil:info.length=p.Steps.length)
  (hK:∀ (j:Nat) (y:Za) (x:Ze),info[j]?=some y→p.Steps[j]?=some x→(0≤y.Right↔3≤x.Kind)∧(0≤y.Right→x.Kind≤5))
  (js:List Int) (hj:∀ j∈js,0≤j∧∃ x,p.Steps[j.toNat]?=some x∧3≤x.Kind) (hl:js.length≤1000) (r:AV×List Blk):∀ i,i≤js.length→∀ rd,rd.length≤i →
  (∀ l,l=rd++(js.drop i).filter (rdB m p.Steps info kept)→Zcx info l [] l.length 0=some r)→Zcw m p info rd js kept js.length i=some r:=by
 refine down _ ?_ ?_
 ·intro rd ho hr
  refine Zp1 _ _ _ _ _ _ _ _ _ ?_
  rw [if_neg (by omega)]
  exact hr rd (by simp)
 ·intro i hi ih rd ho hr
  have h5:=inc64 (i:=i) (by omega)
  obtain ⟨j0,x,hx,h3⟩:=hj _ (List.getElem_mem hi)
  have hlt:js[i].toNat<info.length:=by
   have:=(List.getElem?_eq_some_iff.1 hx).1
   omega
  have hy:=List.getElem?_eq_getElem hlt
  generalize hy0:info[js[i].toNat]=y at hy
  have hkk:=hK _ _ _ hy hx
  have h35:inR x.Kind 3 5=true:=by
   have:=hkk.2 (hkk.1.2 h3)
   simp [inR];omega
  have hb:rdB m p.Steps info kept js[i]=(decide (0≤Z3 kept y.Mask) && Zbu m x.Kind (Z3 kept y.Mask)):=by
   unfold rdB;rw [hx,hy]
  refine Zp1 _ _ _ _ _ _ _ _ _ ?_
  rw [if_pos (by omega)]
  refine ⟨by omega,_,List.getElem?_eq_getElem hi,_,Zys kept hk info _ y j0 hy,?_⟩
  rw [show w ((i:Int)+1)=((i+1:Nat):Int) from h5]
  rw [List.drop_eq_getElem_cons hi,List.filter_cons,hb] at hr
  rcases Zlm y.Mask kept 0 with ⟨f1,f2⟩ | ⟨j,k,f1,f2,f3,f4⟩
  ·rw [f1,if_neg (by decide)]
   rw [f2] at hr
   exact ih _ (by omega) (by simpa using hr)
  ·rw [f1,if_pos (by omega)]
   have f5:=f3
   simp only [okK,Bool.and_eq_true,decide_eq_true_eq] at f5
   have f6:=f5.2
   simp [inR] at f6
   refine ⟨j0,_,hx,k,by simpa using f2,_,Zyl m hm _ _,?_⟩
   rw [f4,show decide (0≤k.Size)=true by simp [f6.1],Bool.true_and] at hr
   rcases tf (Zbu m x.Kind k.Size) with e | e
   ·rw [h35,f5.2,e]
    rw [e] at hr
    simp only [Bool.and_false,Bool.false_eq_true,if_false] at hr ⊢
    exact ih _ (by omega) hr
   ·rw [h35,f5.2,e]
    rw [e] at hr
    simp only [ha,decide_true,Bool.and_self,if_true] at hr ⊢
    refine ⟨by omega,ih _ (by simp;omega) (by simpa using hr)⟩
open Classical in
noncomputable def Zew (m:Zf) (q:Zd) (p:Plan) (kept:List Kept):Option (List Int):=match Z6 q.Zg q.Atoms p.Steps with
 | some info=>if decide (Zbt m)=true then some (Zdu (first info) (rdL m p.Steps info kept 0)) else none
 | none=>none
theorem jst_at:∀ (xs:List Ze) (i:Nat) (j:Int),j∈jst xs i→∃ x,xs[(j - i).toNat]?=some x∧3≤x.Kind
 | [],_,_,h=>by cases h
 | x::xs,i,j,h=>by
  unfold jst at h
  have go:j∈jst xs (i+1)→∃ y,(x::xs)[(j - i).toNat]?=some y∧3≤y.Kind:=fun h=>by
   have:=Ze3 h
   obtain ⟨y,h1,h2⟩:=jst_at xs (i+1) j h
   refine ⟨y,?_,h2⟩
   rw [show (j - (i:Int)).toNat=(j - ((i+1:Nat):Int)).toNat+1 by omega]
   simpa using h1
  split at h
  ·rename_i c
   cases h with
   | head=>exact ⟨x,by simp,c⟩
   | tail _ h=>exact go h
  ·exact go h
theorem rdL_in (m:Zf) (steps:List Ze) (info:List Za) (kept:List Kept) (hl:info.length=steps.length):inI info (rdL m steps info kept 0):=by
 intro j hj
 unfold rdL at hj
 have:=Ze3 (List.mem_filter.1 hj).1
 simp at this
 omega
open Classical in
theorem Zyx (m:Zf) (hm:LeM m) (q:Zd) (hq:LeQ q) (p:Plan) (kept:List Kept) (hk:Le kept):Zh3 m q p kept=some (match Zew m q p kept with
  | some l=>(.own 0,[.arr Zv 1 true (l.map ic)])
  | none=>(.t .nil,[])):=by
 have q1:=Zqb q p hq
 refine Zxd _ _ _ _ _ ?_
 unfold Zew
 cases he:Z6 q.Zg q.Atoms p.Steps with
 | none=>rw [he] at q1;exact .inl ⟨q1,rfl⟩
 | some info =>
  rw [he] at q1
  obtain ⟨l1,l2,l3,l4⟩:=Zdx he
  obtain ⟨lf,l5⟩:=Zqn he
  have l6:=(Zmd he).2
  refine .inr ⟨info,q1,_,Zqj m hm,?_⟩
  by_cases ha:Zbt m
  rotate_left
  ·simp [ha]
  ·rw [if_pos (by simp [ha])]
   refine ⟨_,Zyw p (by omega),?_⟩
   have hjl:=Zhe p.Steps 0
   refine l_rs0 hm ha hk l2 (fun j y x h1 h2=>⟨l6 j y x h1 h2,l5 j y x h1 h2⟩) _ (fun j hj=>?_) (by omega) _ 0 (Nat.zero_le _) [] (Nat.zero_le _) (fun l hl=>?_)
   ·have h1:=Ze3 hj
    obtain ⟨x,h2,h3⟩:=jst_at _ _ _ hj
    exact ⟨by omega,x,by simpa using h2,h3⟩
   ·have e:l=rdL m p.Steps info kept 0:=by simpa [rdL] using hl
    subst e
    have hrl:(rdL m p.Steps info kept 0).length≤1000:=by
     unfold rdL
     have:=List.length_filter_le (rdB m p.Steps info kept) (jst (p.Steps.drop 0) 0)
     have:=Zhe (p.Steps.drop 0) 0
     simp at this
     simp at *
     omega
    have b:=l_rs1 lf _ (rdL_in m p.Steps info kept l2) hrl 0 (Nat.zero_le _) [] (Nat.zero_le _)
    rw [List.drop_zero,List.nil_append] at b
    rw [show ((0:Nat):Int)=0 from rfl] at b
    rw [b]
    simp [ha]
    rfl
theorem Zyy (m:Zf) (q:Zd) (p:Plan) (kept:List Kept):∀ l,Zew m q p kept=some l→l.length≤14:=by
 intro l h
 unfold Zew at h
 split at h
 ·rename_i info he
  obtain ⟨l1,l2,l3,l4⟩:=Zdx he
  split at h
  ·cases h
   unfold Zdu rdL
   refine Nat.le_trans (List.length_filter_le _ _) (Nat.le_trans (List.length_filter_le _ _) (Nat.le_trans (Zhe _ _) ?_))
   simp;omega
  ·cases h
 ·cases h
theorem l_sr0 (m:Zf) (p:Plan) (out:List Int) (info:List Za) (kept:List Kept) (i f:Int) (hl:out.length≤1000) (r:AV×List Blk) (hr:Zbq m p ((out.filter fun k=>decide (k<f))++[i]) info kept (w (i+1))=some r):∀ k,k≤out.length→∀ next,next.length≤k→next++(out.drop k).filter (fun k=>decide (k<f))=out.filter (fun k=>decide (k<f)) →
  Zdp m p out info next kept i f k=some r:=by
 refine down _ ?_ ?_
 ·intro next ho hn
  refine Zp5 _ _ _ _ _ _ _ _ _ _ ?_
  rw [if_neg (by omega)]
  rw [List.drop_length,List.filter_nil,List.append_nil] at hn
  subst hn
  exact ⟨by omega,hr⟩
 ·intro k hk ih next ho hn
  have h5:=inc64 (i:=k) (by omega)
  refine Zp5 _ _ _ _ _ _ _ _ _ _ ?_
  rw [if_pos (by omega)]
  refine ⟨by omega,_,List.getElem?_eq_getElem hk,?_⟩
  rw [show w ((k:Int)+1)=((k+1:Nat):Int) from h5]
  rw [List.drop_eq_getElem_cons hk,List.filter_cons] at hn
  by_cases c:out[k]<f
  ·rw [if_pos (by simpa using c)] at hn ⊢
   exact ⟨by omega,ih _ (by simp;omega) (by simpa using hn)⟩
  ·rw [if_neg (by simpa using c)] at hn ⊢
   exact ih _ (by omega) hn
theorem l_sr1 {m:Zf} (hm:LeM m) {p:Plan} {info:List Za} {kept:List Kept} (hk:Le kept) (hil:info.length=p.Steps.length) (hl:p.Steps.length≤14) (lf:lw info)
  (hK:∀ (j:Nat) (y:Za) (x:Ze),info[j]?=some y→p.Steps[j]?=some x→(0≤y.Right↔3≤x.Kind)):∀ i,i≤p.Steps.length→∀ out,out.length≤i →
  Zbq m p out info kept i=some (.own 0,[.arr Zv 1 true (((rdL m p.Steps info kept i).foldl (fun out i=>(out.filter fun k=>decide (k<first info i))++[i]) out).map ic)]):=by
 refine down _ ?_ ?_
 ·intro out ho
  refine Zp4 _ _ _ _ _ _ _ ?_
  rw [if_neg (by omega)]
  simp [rdL,jst]
 ·intro i hi ih out ho
  have h5:=inc64 (i:=i) (by omega)
  have hi':i<info.length:=by omega
  have hx:=List.getElem?_eq_getElem hi
  have hy:=List.getElem?_eq_getElem hi'
  generalize hx0:p.Steps[i]=x at hx
  generalize hy0:info[i]=y at hy
  have hkk:=hK _ _ _ hy hx
  have hb:rdB m p.Steps info kept i=(decide (0≤Z3 kept y.Mask) && Zbu m x.Kind (Z3 kept y.Mask)):=by
   unfold rdB;rw [show (i:Int).toNat=i by omega,hx,hy]
  have hd:rdL m p.Steps info kept i=if 3≤x.Kind∧rdB m p.Steps info kept i=true then (i:Int)::rdL m p.Steps info kept (i+1) else rdL m p.Steps info kept (i+1):=by
   unfold rdL
   rw [Zme hi,hx0]
   by_cases c:3≤x.Kind
   ·rw [if_pos c,List.filter_cons]
    simp only [c,true_and]
   ·rw [if_neg c];simp only [c,false_and,if_false]
  refine Zp4 _ _ _ _ _ _ _ ?_
  rw [if_pos (by omega)]
  refine ⟨by omega,y,hy,_,Zyu kept hk _,?_⟩
  have h6:w ((i:Int)+1)=((i+1:Nat):Int):=h5
  by_cases c1:y.Right<0
  ·rw [if_pos c1,h6]
   have:¬ 3≤x.Kind:=fun hc=>by have:=hkk.2 hc;omega
   rw [hd,if_neg (fun hc=>this hc.1)]
   exact ih _ (by omega)
  rw [if_neg c1]
  have c3:3≤x.Kind:=hkk.1 (by omega)
  by_cases c2:Z3 kept y.Mask<0
  ·rw [if_pos c2,h6]
   have:¬ 0≤Z3 kept y.Mask:=by omega
   rw [hd,hb,if_neg (fun hc=>by have h8:=hc.2;simp only [Bool.and_eq_true,decide_eq_true_eq] at h8;exact this h8.1)]
   exact ih _ (by omega)
  rw [if_neg c2]
  have hn:Z3 kept y.Mask≤4096:=by
   rcases Zlm y.Mask kept 0 with ⟨f1,f2⟩ | ⟨j,k,f1,f2,f3,f4⟩
   ·omega
   ·simp only [okK,Bool.and_eq_true,inR,decide_eq_true_eq] at f3
    omega
  refine ⟨_,Zyk m hm _,x,by simpa using hx,_,Zqi m _,_,Zql _ hn,_,Zqe _ (hm.op _) _ _ _,?_⟩
  by_cases c4:Zdt (mOp m x.Kind) 0 0 (Zb9 (Z3 kept y.Mask))<readC m (Z3 kept y.Mask)
  ·rw [if_pos c4,h6]
   have:¬ Zbu m x.Kind (Z3 kept y.Mask)=true:=by unfold Zbu;simp;omega
   rw [hd,hb,if_neg (fun hc=>this (by have:=hc.2;simp only [Bool.and_eq_true] at this;exact this.2))]
   exact ih _ (by omega)
  ·rw [if_neg c4]
   have:Zbu m x.Kind (Z3 kept y.Mask)=true:=by unfold Zbu;simp;omega
   refine ⟨_,Zyn lf (by omega) (by omega),?_⟩
   refine l_sr0 _ _ _ _ _ _ _ (by omega) _ ?_ 0 (Nat.zero_le _) [] (Nat.zero_le _) (by simp)
   rw [hd,hb,if_pos ⟨c3,by simp [this];omega⟩,h6]
   have fl:=List.length_filter_le (fun k=>decide (k<first info i)) out
   rw [ih _ (by simp;omega)]
   rfl
open Classical in
theorem Zyz (m:Zf) (hm:LeM m) (q:Zd) (hq:LeQ q) (p:Plan) (kept:List Kept) (hk:Le kept):Zh7 m q p kept=some (.own 0,[.arr Zv 1 true (((Zew m q p kept).getD []).map ic)]):=by
 have q1:=Zqa q p hq
 refine Zxk _ _ _ _ _ ?_
 unfold Zew
 cases he:Z6 q.Zg q.Atoms p.Steps with
 | none=>rw [he] at q1;exact ⟨[],false,q1,by simp⟩
 | some info =>
  rw [he] at q1
  obtain ⟨l1,l2,l3,l4⟩:=Zdx he
  obtain ⟨lf,l5⟩:=Zqn he
  have l6:=(Zmd he).2
  refine ⟨info,true,q1,?_⟩
  rw [if_pos rfl]
  refine ⟨_,Zyc m hm,?_⟩
  by_cases ha:Zbt m
  rotate_left
  ·simp [ha]
  ·rw [if_pos (by simp [ha])]
   have b:=l_sr1 hm hk l2 l4 lf l6 0 (Nat.zero_le _) [] (Nat.zero_le _)
   have k:=keep_eq (first info) (rdL m p.Steps info kept 0) (by unfold rdL;exact (Zln _ _).filter _)
   unfold keepS at k
   rw [k] at b
   rw [show ((0:Nat):Int)=0 from rfl] at b
   rw [b]
   simp [ha]
end Go.Proofs.YtbapkgocloaaeaaGreat
/- part: K -/
namespace Go.Proofs.YtbapkgocloaaeaaGreat
open Go.AM
def Zex:MFun:=⟨4,138,[.tmp 8],.r [.bx 4 0,.bx 5 1,.bx 6 2,.o 8 (.mov (.q false))] [3,4,5,6] (.r [.mk' 9 1048576] [3,4,5,6,9] (.r [.ln 20 30 4,.m 21 9,.cl 22 13 [20,21],.m 9 22] [3,4,5,6,9] (.wc [.m 23 9,.bk 24 .lss 23 0] [3,4,5,6,9,24] 24 (.r [.o 8 (.mov (.q true))] [8] .ret) (.r [.ln 25 2 5,.m 26 9,.cl 27 14 [25,26],.m 9 27] [3,4,5,6,9] (.wc [.m 28 9,.bk 29 .lss 28 0] [3,4,5,6,9,29] 29 (.r [.o 8 (.mov (.q true))] [8] .ret) (.r [.ln 30 1 6,.m 31 9,.cl 32 15 [30,31],.m 9 32] [3,4,5,6,9] (.wc [.m 33 9,.bk 34 .lss 33 0] [3,4,5,6,9,34] 34 (.r [.o 8 (.mov (.q true))] [8] .ret) (.r [.m 35 3,.m 36 9,.cl 37 16 [35,36],.m 9 37] [3,4,5,6,9] (.wc [.m 38 9,.bk 39 .lss 38 0] [3,4,5,6,39] 39 (.r [.o 8 (.mov (.q true))] [8] .ret) (.seq (.drw [.ln 40 30 4,.xl 41 18 [40],.ln 42 2 5,.xl 43 19 [42],.ln 44 1 6,.xl 45 20 [44],.m 46 3,.xl 47 21 [46],.cl 48 17 [41,43,45,47],.m 10 48] [[],[0],[],[2,1],[],[4,3],[],[6,5],[1,3,5,7,7],[8,8,0,1,2,3,4,5,6,7,8]] [3,4,5,6,10]) (.r [.ln 49 30 4,.xl 50 18 [49],.o 11 (.alloc [.t .z,.t .z,.t .z,.t .z,.t .z,.t .nil,.t .z,.t .z,.t .z,.t .z,.t .z,.t .nil,.t .z,.t .z,.t .z,.t .z,.t .z,.t .nil,.t .z,.t .z,.t .z,.t .z,.t .z,.t .nil,.t .z,.t .z,.t .z,.t .z,.t .z,.t .nil]),.st 30 11 50] [3,4,5,6,10,11] (.r [.ln 51 2 5,.xl 52 19 [51],.o 12 (.alloc [.t .z,.t .nil]),.st 2 12 52] [3,4,5,6,10,11,12] (.r [.ln 53 1 6,.xl 54 20 [53],.o 13 (.alloc [.t .nil]),.st 1 13 54] [3,4,5,6,10,11,12,13] (.r [.m 55 3,.xl 56 21 [55],.m 14 56] [3,4,5,6,10,11,12,13,14] (.r [.ln 57 30 11,.ln 58 2 12,.ln 59 1 13,.m 60 14,.xl 61 22 [57,58,59,60],.m 15 61] [3,4,5,6,10,11,12,13,14,15] (.wc [.m 62 15,.m 63 10,.cl 64 23 [62,63],.o 65 (.un .not (.s 64))] [3,4,5,6,10,11,12,13,14,15,65] 65 (.r [.o 8 (.mov (.q false))] [8] .ret) (.seq (.seq (.drw [.ln 66 30 11,.ln 67 30 4,.xl 68 18 [67],.cl 69 24 [66,68],.o 70 (.un .not (.s 69))] [[],[],[1],[0,2,2],[3]] [3,4,5,6,10,11,12,13,14,15,70]) (.cond (.s 70) (.r [.o 8 (.mov (.q false))] [8] .ret) .skip)) (.seq (.seq (.drw [.ln 71 2 12,.ln 72 2 5,.xl 73 19 [72],.cl 74 25 [71,73],.o 75 (.un .not (.s 74))] [[],[],[1],[0,2,2],[3]] [3,4,5,6,10,11,12,13,14,15,75]) (.cond (.s 75) (.r [.o 8 (.mov (.q false))] [8] .ret) .skip)) (.seq (.seq (.drw [.ln 76 1 13,.ln 77 1 6,.xl 78 20 [77],.cl 79 26 [76,78],.o 80 (.un .not (.s 79))] [[],[],[1],[0,2,2],[3]] [3,4,5,6,10,11,12,13,14,15,80]) (.cond (.s 80) (.r [.o 8 (.mov (.q false))] [8] .ret) .skip)) (.wc [.m 81 14,.m 82 3,.xl 83 21 [82],.cl 84 27 [81,83],.o 85 (.un .not (.s 84))] [3,4,5,6,10,11,12,13,14,15,85] 85 (.r [.o 8 (.mov (.q false))] [8] .ret) (.r [.mk' 16 1] [3,4,5,6,10,11,12,13,14,15,16] (.r [.ln 86 30 11,.m 87 16,.o 88 (.icall 28 [.s 86,.s 87]),.m 16 88] [3,4,5,6,10,12,13,14,15,16] (.r [.ln 89 2 12,.m 90 16,.o 91 (.icall 29 [.s 89,.s 90]),.m 16 91] [3,4,5,6,10,13,14,15,16] (.r [.ln 92 1 13,.m 93 16,.o 94 (.icall 30 [.s 92,.s 93]),.m 16 94] [3,4,5,6,10,14,15,16] (.r [.m 95 14,.m 96 16,.o 97 (.icall 31 [.s 95,.s 96]),.m 16 97] [3,4,5,6,10,15,16] (.wc [.m 98 16,.bk 99 .lss 98 0,.m 100 99,.h 101 100 (.mov (.s 15)),.h 102 100 (.mov (.s 10)),.h 103 100 (.cl 23 [101,102]),.h 104 100 (.un .not (.s 103)),.o 105 (.pick (.s 100) (.q true) (.s 104))] [3,4,5,6,10,15,105] 105 (.r [.o 8 (.mov (.q false))] [8] .ret) (.r [.mk' 17 1] [3,4,5,6,10,15,17] (.r [.m 106 15,.m 107 17,.o 108 (.icall 32 [.s 106,.s 107]),.m 17 108] [3,4,5,6,10,15,17] (.r [.mk' 18 1] [3,4,5,6,10,15,17,18] (.r [.m 109 15,.m 110 18,.cl 111 33 [109,110],.m 18 111] [3,4,5,6,10,15,17,18] (.wc [.m 112 18,.bk 113 .lss 112 0] [3,4,5,6,10,15,17,18,113] 113 (.r [.o 8 (.mov (.q false))] [8] .ret) (.wc [.m 114 18,.m 115 17,.b 116 .neq 114 115] [3,4,5,6,10,15,17,116] 116 (.r [.o 8 (.mov (.q false))] [8] .ret) (.seq (.drw [.ln 117 30 4,.xl 118 18 [117],.ln 119 2 5,.xl 120 19 [119],.ln 121 1 6,.xl 122 20 [121],.m 123 3,.xl 124 21 [123],.xl 125 22 [118,120,122,124],.m 19 125] [[],[0],[],[2,1],[],[4,3],[],[6,5],[1,3,5,7,7],[8,8,0,1,2,3,4,5,6,7,8]] [10,15,17,19]) (.wc [.m 126 19,.m 127 10,.cl 128 23 [126,127],.o 129 (.un .not (.s 128))] [15,17,129] 129 (.r [.o 8 (.mov (.q false))] [8] .ret) (.r [.mk' 18 1] [15,17,18] (.r [.m 130 15,.m 131 18,.cl 132 33 [130,131],.m 18 132] [17,18] (.wc [.m 133 18,.bk 134 .lss 133 0] [17,18,134] 134 (.r [.o 8 (.mov (.q false))] [8] .ret) (.wc [.m 135 18,.m 136 17,.b 137 .neq 135 136] [137] 137 (.r [.o 8 (.mov (.q false))] [8] .ret) (.r [.o 8 (.mov (.q true))] [8] .ret)))))))))))))))))))))))))))))))))))))))⟩
theorem Zy0:tbl 3=some Zex:=tblOf_eq Tryz.func3 (by kernel_rfl) (by kernel_rfl)
def Zqq:MFun:=⟨2,36,[.tmp 4],.r [.bx 2 0,.mk' 4 0] [1,2] (.r [.fa 5 0 2,.ln 6 6 5,.m 7 1,.cl 8 84 [6,7],.m 1 8] [1,2] (.wc [.m 9 1,.bk 10 .lss 9 0] [1,2,10] 10 (.r [.mk' 4 (-1)] [4] .ret) (.r [.fa 11 6 2,.ln 12 6 11,.m 13 1,.cl 14 84 [12,13],.m 1 14] [1,2] (.wc [.m 15 1,.bk 16 .lss 15 0] [1,2,16] 16 (.r [.mk' 4 (-1)] [4] .ret) (.r [.fa 17 12 2,.ln 18 6 17,.m 19 1,.cl 20 84 [18,19],.m 1 20] [1,2] (.wc [.m 21 1,.bk 22 .lss 21 0] [1,2,22] 22 (.r [.mk' 4 (-1)] [4] .ret) (.r [.fa 23 18 2,.ln 24 6 23,.m 25 1,.cl 26 84 [24,25],.m 1 26] [1,2] (.wc [.m 27 1,.bk 28 .lss 27 0] [1,2,28] 28 (.r [.mk' 4 (-1)] [4] .ret) (.r [.fa 29 24 2,.ln 30 6 29,.m 31 1,.cl 32 84 [30,31],.m 1 32] [1] (.wc [.m 33 1,.bk 34 .lss 33 0] [1,34] 34 (.r [.mk' 4 (-1)] [4] .ret) (.r [.m 35 1,.m 4 35] [4] .ret)))))))))))⟩
theorem Zy1:tbl 13=some Zqq:=tblOf_eq Tryz.func13 (by kernel_rfl) (by kernel_rfl)
def Zqr:MFun:=⟨2,12,[.tmp 4],.r [.bx 2 0,.mk' 4 0] [1,2] (.r [.fa 5 1 2,.l 6 5,.m 7 1,.cl 8 85 [6,7],.m 1 8] [1] (.wc [.m 9 1,.bk 10 .lss 9 0] [1,10] 10 (.r [.mk' 4 (-1)] [4] .ret) (.r [.m 11 1,.m 4 11] [4] .ret)))⟩
theorem Zy2:tbl 14=some Zqr:=tblOf_eq Tryz.func14 (by kernel_rfl) (by kernel_rfl)
def Zqs:MFun:=⟨2,12,[.tmp 4],.r [.bx 2 0,.mk' 4 0] [1,2] (.r [.fa 5 0 2,.l 6 5,.m 7 1,.cl 8 86 [6,7],.m 1 8] [1] (.wc [.m 9 1,.bk 10 .lss 9 0] [1,10] 10 (.r [.mk' 4 (-1)] [4] .ret) (.r [.m 11 1,.m 4 11] [4] .ret)))⟩
theorem Zy3:tbl 15=some Zqs:=tblOf_eq Tryz.func15 (by kernel_rfl) (by kernel_rfl)
def Zqt:MFun:=⟨2,12,[.tmp 4],.r [.mk' 4 0] [0,1] (.r [.m 5 1,.m 6 0,.ll 7 6,.b 8 .sub 5 7,.m 1 8] [1] (.wc [.m 9 1,.bk 10 .lss 9 0] [1,10] 10 (.r [.mk' 4 (-1)] [4] .ret) (.r [.m 11 1,.m 4 11] [4] .ret)))⟩
theorem Zy4:tbl 16=some Zqt:=tblOf_eq Tryz.func16 (by kernel_rfl) (by kernel_rfl)
def Zqu:MFun:=⟨1,25,[.cell 2 (some 30)],.r [.bx 1 0,.o 2 (.alloc [.t .z,.t .z,.t .z,.t .z,.t .z,.t .nil,.t .z,.t .z,.t .z,.t .z,.t .z,.t .nil,.t .z,.t .z,.t .z,.t .z,.t .z,.t .nil,.t .z,.t .z,.t .z,.t .z,.t .z,.t .nil,.t .z,.t .z,.t .z,.t .z,.t .z,.t .nil])] [1,2] (.r [.o 3 (.alloc [.t .z,.t .z,.t .z,.t .z,.t .z,.t .nil,.t .z,.t .z,.t .z,.t .z,.t .z,.t .nil,.t .z,.t .z,.t .z,.t .z,.t .z,.t .nil,.t .z,.t .z,.t .z,.t .z,.t .z,.t .nil,.t .z,.t .z,.t .z,.t .z,.t .z,.t .nil])] [1,2,3] (.r [.fa 4 0 1,.ln 5 6 4,.cl 6 95 [5],.fa 7 0 3,.st 6 7 6] [1,2,3] (.r [.fa 8 6 1,.ln 9 6 8,.cl 10 95 [9],.fa 11 6 3,.st 6 11 10] [1,2,3] (.r [.fa 12 12 1,.ln 13 6 12,.cl 14 95 [13],.fa 15 12 3,.st 6 15 14] [1,2,3] (.r [.fa 16 18 1,.ln 17 6 16,.cl 18 95 [17],.fa 19 18 3,.st 6 19 18] [1,2,3] (.r [.fa 20 24 1,.ln 21 6 20,.cl 22 95 [21],.fa 23 24 3,.st 6 23 22] [2,3] (.r [.ln 24 30 3,.st 30 2 24] [2] .ret)))))))⟩
theorem Zy5:tbl 18=some Zqu:=tblOf_eq Tryz.func18 (by kernel_rfl) (by kernel_rfl)
def Zqv:MFun:=⟨1,12,[.cell 2 (some 2)],.r [.bx 1 0,.o 2 (.alloc [.t .z,.t .nil])] [1,2] (.r [.o 3 (.alloc [.t .z,.t .nil])] [1,2,3] (.r [.fa 4 0 1,.l 5 4,.fa 6 0 3,.st 1 6 5] [1,2,3] (.r [.fa 7 1 1,.l 8 7,.cl 9 96 [8],.fa 10 1 3,.st 1 10 9] [2,3] (.r [.ln 11 2 3,.st 2 2 11] [2] .ret))))⟩
theorem Zy6:tbl 19=some Zqv:=tblOf_eq Tryz.func19 (by kernel_rfl) (by kernel_rfl)
def Zqw:MFun:=⟨1,9,[.cell 2 (some 1)],.r [.bx 1 0,.o 2 (.alloc [.t .nil])] [1,2] (.r [.o 3 (.alloc [.t .nil])] [1,2,3] (.r [.fa 4 0 1,.l 5 4,.cl 6 97 [5],.fa 7 0 3,.st 1 7 6] [2,3] (.r [.ln 8 1 3,.st 1 2 8] [2] .ret)))⟩
theorem Zy7:tbl 20=some Zqw:=tblOf_eq Tryz.func20 (by kernel_rfl) (by kernel_rfl)
def Zib:MCode :=.we [.m 8 4,.m 9 0,.ll 10 9,.b 11 .lss 8 10] [0,3,4,11] 11 0 (.seq (.block 1 (.reg [.m 14 3,.m 15 4,.m 16 0,.m 17 4,.ia 18 2 16 17,.ln 19 2 18,.cl 20 98 [19],.ia 21 2 14 15,.st 2 21 20] [0,3,4])) (.reg [.m 12 4,.bk 13 .add 12 1,.m 4 13] [0,3,4]))
def Zqx:MFun:=⟨1,23,[.tmp 2],.r [.o 2 (.mov (.c (.t .nil)))] [0] (.r [.m 5 0,.ll 6 5,.o 7 (.mkslice 149 2 16 [.z,.z] (.s 6) (.s 6)),.m 3 7] [0,3] (.seq (.r [.mk' 4 0] [0,3,4] (.block 0 (.loop [0,3,4] Zib))) (.r [.m 22 3,.m 2 22] [2] .ret)))⟩
theorem Zy8:tbl 21=some Zqx:=tblOf_eq Tryz.func21 (by kernel_rfl) (by kernel_rfl)
def Zgx:MCode :=.we [.m 11 5,.m 12 0,.ll 13 12,.b 14 .lss 11 13] [0,1,5,14] 14 0 (.seq (.block 1 (.seq (.drw [.m 17 0,.m 18 5,.ia 19 1 17 18,.l 20 19,.m 21 1,.m 22 5,.ia 23 1 21 22,.l 24 23,.b 25 .neq 20 24] [[],[],[0,1],[2],[],[],[4,5],[6],[3,7]] [0,1,5,25]) (.cond (.s 25) (.r [.o 4 (.mov (.q false))] [4] .ret) .skip))) (.reg [.m 15 5,.bk 16 .add 15 1,.m 5 16] [0,1,5]))
def Zic:MFun:=⟨2,26,[.tmp 4],.r [.o 4 (.mov (.q false))] [0,1] (.wc [.m 6 0,.ll 7 6,.m 8 1,.ll 9 8,.b 10 .neq 7 9] [0,1,10] 10 (.r [.o 4 (.mov (.q false))] [4] .ret) (.seq (.r [.mk' 5 0] [0,1,5] (.block 0 (.loop [0,1,5] Zgx))) (.r [.o 4 (.mov (.q true))] [4] .ret)))⟩
theorem Zqy:tbl 23=some Zic:=tblOf_eq Tryz.func23 (by kernel_rfl) (by kernel_rfl)
def Zqz:MFun:=⟨2,35,[.tmp 4],.r [.bx 2 0,.bx 3 1,.o 4 (.mov (.q false))] [2,3] (.wc [.fa 5 0 2,.ln 6 6 5,.fa 7 0 3,.ln 8 6 7,.cl 9 109 [6,8],.o 10 (.un .not (.s 9))] [2,3,10] 10 (.r [.o 4 (.mov (.q false))] [4] .ret) (.wc [.fa 11 6 2,.ln 12 6 11,.fa 13 6 3,.ln 14 6 13,.cl 15 109 [12,14],.o 16 (.un .not (.s 15))] [2,3,16] 16 (.r [.o 4 (.mov (.q false))] [4] .ret) (.wc [.fa 17 12 2,.ln 18 6 17,.fa 19 12 3,.ln 20 6 19,.cl 21 109 [18,20],.o 22 (.un .not (.s 21))] [2,3,22] 22 (.r [.o 4 (.mov (.q false))] [4] .ret) (.wc [.fa 23 18 2,.ln 24 6 23,.fa 25 18 3,.ln 26 6 25,.cl 27 109 [24,26],.o 28 (.un .not (.s 27))] [2,3,28] 28 (.r [.o 4 (.mov (.q false))] [4] .ret) (.wc [.fa 29 24 2,.ln 30 6 29,.fa 31 24 3,.ln 32 6 31,.cl 33 109 [30,32],.o 34 (.un .not (.s 33))] [34] 34 (.r [.o 4 (.mov (.q false))] [4] .ret) (.r [.o 4 (.mov (.q true))] [4] .ret))))))⟩
theorem Zy9:tbl 24=some Zqz:=tblOf_eq Tryz.func24 (by kernel_rfl) (by kernel_rfl)
def Zq0:MFun:=⟨2,16,[.tmp 4],.r [.bx 2 0,.bx 3 1,.o 4 (.mov (.q false))] [2,3] (.wc [.fa 5 0 2,.l 6 5,.fa 7 0 3,.l 8 7,.b 9 .neq 6 8] [2,3,9] 9 (.r [.o 4 (.mov (.q false))] [4] .ret) (.wc [.fa 10 1 2,.l 11 10,.fa 12 1 3,.l 13 12,.cl 14 110 [11,13],.o 15 (.un .not (.s 14))] [15] 15 (.r [.o 4 (.mov (.q false))] [4] .ret) (.r [.o 4 (.mov (.q true))] [4] .ret)))⟩
theorem Zza:tbl 25=some Zq0:=tblOf_eq Tryz.func25 (by kernel_rfl) (by kernel_rfl)
def Zq1:MFun:=⟨2,11,[.tmp 4],.r [.bx 2 0,.bx 3 1,.o 4 (.mov (.q false))] [2,3] (.wc [.fa 5 0 2,.l 6 5,.fa 7 0 3,.l 8 7,.cl 9 111 [6,8],.o 10 (.un .not (.s 9))] [10] 10 (.r [.o 4 (.mov (.q false))] [4] .ret) (.r [.o 4 (.mov (.q true))] [4] .ret))⟩
theorem Zzb:tbl 26=some Zq1:=tblOf_eq Tryz.func26 (by kernel_rfl) (by kernel_rfl)
def Zid:MCode :=.we [.m 11 5,.m 12 0,.ll 13 12,.b 14 .lss 11 13] [0,1,5,14] 14 0 (.seq (.block 1 (.seq (.drw [.m 17 0,.m 18 5,.ia 19 2 17 18,.ln 20 2 19,.m 21 1,.m 22 5,.ia 23 2 21 22,.ln 24 2 23,.cl 25 112 [20,24],.o 26 (.un .not (.s 25))] [[],[],[0,1],[2],[],[],[4,5],[6],[3,7],[8]] [0,1,5,26]) (.cond (.s 26) (.r [.o 4 (.mov (.q false))] [4] .ret) .skip))) (.reg [.m 15 5,.bk 16 .add 15 1,.m 5 16] [0,1,5]))
def Zlo:MFun:=⟨2,27,[.tmp 4],.r [.o 4 (.mov (.q false))] [0,1] (.wc [.m 6 0,.ll 7 6,.m 8 1,.ll 9 8,.b 10 .neq 7 9] [0,1,10] 10 (.r [.o 4 (.mov (.q false))] [4] .ret) (.seq (.r [.mk' 5 0] [0,1,5] (.block 0 (.loop [0,1,5] Zid))) (.r [.o 4 (.mov (.q true))] [4] .ret)))⟩
theorem Zzc:tbl 27=some Zlo:=tblOf_eq Tryz.func27 (by kernel_rfl) (by kernel_rfl)
def Zq2:MFun:=⟨2,26,[.tmp 4],.r [.bx 2 0,.mk' 4 0] [1,2] (.r [.fa 5 0 2,.ln 6 6 5,.m 7 1,.o 8 (.icall 113 [.s 6,.s 7]),.m 1 8] [1,2] (.r [.fa 9 6 2,.ln 10 6 9,.m 11 1,.o 12 (.icall 113 [.s 10,.s 11]),.m 1 12] [1,2] (.r [.fa 13 12 2,.ln 14 6 13,.m 15 1,.o 16 (.icall 113 [.s 14,.s 15]),.m 1 16] [1,2] (.r [.fa 17 18 2,.ln 18 6 17,.m 19 1,.o 20 (.icall 113 [.s 18,.s 19]),.m 1 20] [1,2] (.r [.fa 21 24 2,.ln 22 6 21,.m 23 1,.o 24 (.icall 113 [.s 22,.s 23]),.m 1 24] [1] (.r [.m 25 1,.m 4 25] [4] .ret))))))⟩
theorem Zzd:tbl 28=some Zq2:=tblOf_eq Tryz.func28 (by kernel_rfl) (by kernel_rfl)
def Zq3:MFun:=⟨2,10,[.tmp 4],.r [.bx 2 0,.mk' 4 0] [1,2] (.r [.fa 5 1 2,.o 6 (.loadU (.s 5)),.m 7 1,.o 8 (.scall 114 [.s 6,.s 7] (.s 5)),.m 1 8] [1] (.r [.m 9 1,.m 4 9] [4] .ret))⟩
theorem Zze:tbl 29=some Zq3:=tblOf_eq Tryz.func29 (by kernel_rfl) (by kernel_rfl)
def Zq4:MFun:=⟨2,10,[.tmp 4],.r [.bx 2 0,.mk' 4 0] [1,2] (.r [.fa 5 0 2,.o 6 (.loadU (.s 5)),.m 7 1,.o 8 (.scall 115 [.s 6,.s 7] (.s 5)),.m 1 8] [1] (.r [.m 9 1,.m 4 9] [4] .ret))⟩
theorem Zzf:tbl 30=some Zq4:=tblOf_eq Tryz.func30 (by kernel_rfl) (by kernel_rfl)
def Zie:MCode :=.we [.m 6 5,.m 7 0,.ll 8 7,.b 9 .lss 6 8] [0,1,5,9] 9 0 (.seq (.block 1 (.r [.m 12 0,.m 13 5,.m 14 1,.ia 15 2 12 13,.fa 16 0 15,.st 1 16 14] [0,1,5] (.r [.m 17 1,.bk 18 .add 17 1,.m 1 18] [0,1,5] (.r [.m 19 0,.m 20 5,.m 21 1,.ia 22 2 19 20,.fa 23 1 22,.st 1 23 21] [0,1,5] (.reg [.m 24 1,.bk 25 .add 24 1,.m 1 25] [0,1,5]))))) (.reg [.m 10 5,.bk 11 .add 10 1,.m 5 11] [0,1,5]))
def Zq5:MFun:=⟨2,27,[.tmp 4],.r [.mk' 4 0] [0,1] (.seq (.r [.mk' 5 0] [0,1,5] (.block 0 (.loop [0,1,5] Zie))) (.r [.m 26 1,.m 4 26] [4] .ret))⟩
theorem Zzg:tbl 31=some Zq5:=tblOf_eq Tryz.func31 (by kernel_rfl) (by kernel_rfl)
def Zfg:MCode :=.we [.m 6 5,.m 7 0,.ll 8 7,.b 9 .lss 6 8] [0,1,5,9] 9 0 (.seq (.block 1 (.r [.m 12 0,.m 13 5,.m 14 1,.ia 15 1 12 13,.st 1 15 14] [0,1,5] (.reg [.m 16 1,.bk 17 .add 16 1,.m 1 17] [0,1,5]))) (.reg [.m 10 5,.bk 11 .add 10 1,.m 5 11] [0,1,5]))
def Zif:MFun:=⟨2,19,[.tmp 4],.r [.mk' 4 0] [0,1] (.seq (.r [.mk' 5 0] [0,1,5] (.block 0 (.loop [0,1,5] Zfg))) (.r [.m 18 1,.m 4 18] [4] .ret))⟩
theorem Zlp:tbl 32=some Zif:=tblOf_eq Tryz.func32 (by kernel_rfl) (by kernel_rfl)
def Zgy:MCode :=.we [.m 6 5,.m 7 0,.ll 8 7,.b 9 .lss 6 8] [0,1,5,9] 9 0 (.seq (.block 1 (.wc [.m 12 0,.m 13 5,.ia 14 1 12 13,.l 15 14,.m 16 1,.b 17 .neq 15 16] [0,1,5,17] 17 (.r [.mk' 4 (-1)] [4] .ret) (.reg [.m 18 1,.bk 19 .add 18 1,.m 1 19] [0,1,5]))) (.reg [.m 10 5,.bk 11 .add 10 1,.m 5 11] [0,1,5]))
def Zlq:MFun:=⟨2,21,[.tmp 4],.r [.mk' 4 0] [0,1] (.seq (.r [.mk' 5 0] [0,1,5] (.block 0 (.loop [0,1,5] Zgy))) (.r [.m 20 1,.m 4 20] [4] .ret))⟩
theorem Zq6:tbl 33=some Zlq:=tblOf_eq Tryz.func33 (by kernel_rfl) (by kernel_rfl)
def Zig:MCode :=.we [.m 8 4,.m 9 0,.ll 10 9,.b 11 .lss 8 10] [0,3,4,11] 11 0 (.seq (.block 1 (.reg [.m 14 3,.m 15 4,.m 16 0,.m 17 4,.ia 18 1 16 17,.l 19 18,.ia 20 1 14 15,.st 1 20 19] [0,3,4])) (.reg [.m 12 4,.bk 13 .add 12 1,.m 4 13] [0,3,4]))
def Zq7:MFun:=⟨1,22,[.tmp 2],.r [.o 2 (.mov (.c (.t .nil)))] [0] (.r [.m 5 0,.ll 6 5,.o 7 (.mkslice 3 1 8 [.z] (.s 6) (.s 6)),.m 3 7] [0,3] (.seq (.r [.mk' 4 0] [0,3,4] (.block 0 (.loop [0,3,4] Zig))) (.r [.m 21 3,.m 2 21] [2] .ret)))⟩
theorem Zzh:tbl 59=some Zq7:=tblOf_eq Tryz.func59 (by kernel_rfl) (by kernel_rfl)
def Zq8:MFun:=⟨2,12,[.tmp 4],.r [.bx 2 0,.mk' 4 0] [1,2] (.r [.fa 5 5 2,.l 6 5,.m 7 1,.cl 8 178 [6,7],.m 1 8] [1] (.wc [.m 9 1,.bk 10 .lss 9 0] [1,10] 10 (.r [.mk' 4 (-1)] [4] .ret) (.r [.m 11 1,.m 4 11] [4] .ret)))⟩
theorem Zzi:tbl 84=some Zq8:=tblOf_eq Tryz.func84 (by kernel_rfl) (by kernel_rfl)
def Zey:MCode :=.we [.m 12 5,.m 13 0,.ll 14 13,.b 15 .lss 12 14] [0,1,5,15] 15 0 (.seq (.block 1 (.r [.m 18 0,.m 19 5,.ia 20 2 18 19,.ln 21 2 20,.m 22 1,.cl 23 179 [21,22],.m 1 23] [0,1,5] (.r [.m 24 1,.bk 25 .lss 24 0] [0,1,5,25] (.cond (.s 25) (.r [.mk' 4 (-1)] [4] .ret) .skip)))) (.reg [.m 16 5,.bk 17 .add 16 1,.m 5 17] [0,1,5]))
def Zq9:MFun:=⟨2,27,[.tmp 4],.r [.mk' 4 0] [0,1] (.r [.m 6 1,.m 7 0,.ll 8 7,.b 9 .sub 6 8,.m 1 9] [0,1] (.wc [.m 10 1,.bk 11 .lss 10 0] [0,1,11] 11 (.r [.mk' 4 (-1)] [4] .ret) (.seq (.r [.mk' 5 0] [0,1,5] (.block 0 (.loop [0,1,5] Zey))) (.r [.m 26 1,.m 4 26] [4] .ret))))⟩
theorem Zzj:tbl 85=some Zq9:=tblOf_eq Tryz.func85 (by kernel_rfl) (by kernel_rfl)
def Zra:MFun:=⟨2,12,[.tmp 4],.r [.mk' 4 0] [0,1] (.r [.m 5 1,.m 6 0,.ll 7 6,.b 8 .sub 5 7,.m 1 8] [1] (.wc [.m 9 1,.bk 10 .lss 9 0] [1,10] 10 (.r [.mk' 4 (-1)] [4] .ret) (.r [.m 11 1,.m 4 11] [4] .ret)))⟩
theorem Zzk:tbl 86=some Zra:=tblOf_eq Tryz.func86 (by kernel_rfl) (by kernel_rfl)
def Zrb:MFun:=⟨1,24,[.cell 2 (some 6)],.r [.bx 1 0,.o 2 (.alloc [.t .z,.t .z,.t .z,.t .z,.t .z,.t .nil])] [1,2] (.r [.o 3 (.alloc [.t .z,.t .z,.t .z,.t .z,.t .z,.t .nil])] [1,2,3] (.r [.fa 4 0 1,.l 5 4,.fa 6 0 3,.st 1 6 5] [1,2,3] (.r [.fa 7 1 1,.l 8 7,.fa 9 1 3,.st 1 9 8] [1,2,3] (.r [.fa 10 2 1,.l 11 10,.fa 12 2 3,.st 1 12 11] [1,2,3] (.r [.fa 13 3 1,.l 14 13,.fa 15 3 3,.st 1 15 14] [1,2,3] (.r [.fa 16 4 1,.l 17 16,.fa 18 4 3,.st 1 18 17] [1,2,3] (.r [.fa 19 5 1,.l 20 19,.cl 21 186 [20],.fa 22 5 3,.st 1 22 21] [2,3] (.r [.ln 23 6 3,.st 6 2 23] [2] .ret))))))))⟩
theorem Zzl:tbl 95=some Zrb:=tblOf_eq Tryz.func95 (by kernel_rfl) (by kernel_rfl)
def Zih:MCode :=.we [.m 8 4,.m 9 0,.ll 10 9,.b 11 .lss 8 10] [0,3,4,11] 11 0 (.seq (.block 1 (.reg [.m 14 3,.m 15 4,.m 16 0,.m 17 4,.ia 18 2 16 17,.ln 19 2 18,.cl 20 187 [19],.ia 21 2 14 15,.st 2 21 20] [0,3,4])) (.reg [.m 12 4,.bk 13 .add 12 1,.m 4 13] [0,3,4]))
def Zrc:MFun:=⟨1,23,[.tmp 2],.r [.o 2 (.mov (.c (.t .nil)))] [0] (.r [.m 5 0,.ll 6 5,.o 7 (.mkslice 223 2 40 [.str ⟨#[]⟩,.lst 1 []] (.s 6) (.s 6)),.m 3 7] [0,3] (.seq (.r [.mk' 4 0] [0,3,4] (.block 0 (.loop [0,3,4] Zih))) (.r [.m 22 3,.m 2 22] [2] .ret)))⟩
theorem Zzm:tbl 96=some Zrc:=tblOf_eq Tryz.func96 (by kernel_rfl) (by kernel_rfl)
def Zii:MCode :=.we [.m 8 4,.m 9 0,.ll 10 9,.b 11 .lss 8 10] [0,3,4,11] 11 0 (.seq (.block 1 (.reg [.m 14 3,.m 15 4,.m 16 0,.m 17 4,.ia 18 3 16 17,.ln 19 3 18,.cl 20 188 [19],.ia 21 3 14 15,.st 3 21 20] [0,3,4])) (.reg [.m 12 4,.bk 13 .add 12 1,.m 4 13] [0,3,4]))
def Zrd:MFun:=⟨1,23,[.tmp 2],.r [.o 2 (.mov (.c (.t .nil)))] [0] (.r [.m 5 0,.ll 6 5,.o 7 (.mkslice 142 3 24 [.z,.z,.z] (.s 6) (.s 6)),.m 3 7] [0,3] (.seq (.r [.mk' 4 0] [0,3,4] (.block 0 (.loop [0,3,4] Zii))) (.r [.m 22 3,.m 2 22] [2] .ret)))⟩
theorem Zzn:tbl 97=some Zrd:=tblOf_eq Tryz.func97 (by kernel_rfl) (by kernel_rfl)
def Zre:MFun:=⟨1,11,[.cell 2 (some 2)],.r [.bx 1 0,.o 2 (.alloc [.t .z,.t .z])] [1,2] (.r [.o 3 (.alloc [.t .z,.t .z])] [1,2,3] (.r [.fa 4 0 1,.l 5 4,.fa 6 0 3,.st 1 6 5] [1,2,3] (.r [.fa 7 1 1,.l 8 7,.fa 9 1 3,.st 1 9 8] [2,3] (.r [.ln 10 2 3,.st 2 2 10] [2] .ret))))⟩
theorem Zzo:tbl 98=some Zre:=tblOf_eq Tryz.func98 (by kernel_rfl) (by kernel_rfl)
def Zrf:MFun:=⟨2,36,[.tmp 4],.r [.bx 2 0,.bx 3 1,.o 4 (.mov (.q false))] [2,3] (.wc [.fa 5 0 2,.l 6 5,.fa 7 0 3,.l 8 7,.b 9 .neq 6 8] [2,3,9] 9 (.r [.o 4 (.mov (.q false))] [4] .ret) (.wc [.fa 10 1 2,.l 11 10,.fa 12 1 3,.l 13 12,.b 14 .neq 11 13] [2,3,14] 14 (.r [.o 4 (.mov (.q false))] [4] .ret) (.wc [.fa 15 2 2,.l 16 15,.fa 17 2 3,.l 18 17,.b 19 .neq 16 18] [2,3,19] 19 (.r [.o 4 (.mov (.q false))] [4] .ret) (.wc [.fa 20 3 2,.l 21 20,.fa 22 3 3,.l 23 22,.b 24 .neq 21 23] [2,3,24] 24 (.r [.o 4 (.mov (.q false))] [4] .ret) (.wc [.fa 25 4 2,.l 26 25,.fa 27 4 3,.l 28 27,.b 29 .neq 26 28] [2,3,29] 29 (.r [.o 4 (.mov (.q false))] [4] .ret) (.wc [.fa 30 5 2,.l 31 30,.fa 32 5 3,.l 33 32,.cl 34 197 [31,33],.o 35 (.un .not (.s 34))] [35] 35 (.r [.o 4 (.mov (.q false))] [4] .ret) (.r [.o 4 (.mov (.q true))] [4] .ret)))))))⟩
theorem Zzp:tbl 109=some Zrf:=tblOf_eq Tryz.func109 (by kernel_rfl) (by kernel_rfl)
def Zij:MCode :=.we [.m 11 5,.m 12 0,.ll 13 12,.b 14 .lss 11 13] [0,1,5,14] 14 0 (.seq (.block 1 (.seq (.drw [.m 17 0,.m 18 5,.ia 19 2 17 18,.ln 20 2 19,.m 21 1,.m 22 5,.ia 23 2 21 22,.ln 24 2 23,.cl 25 198 [20,24],.o 26 (.un .not (.s 25))] [[],[],[0,1],[2],[],[],[4,5],[6],[3,7],[8]] [0,1,5,26]) (.cond (.s 26) (.r [.o 4 (.mov (.q false))] [4] .ret) .skip))) (.reg [.m 15 5,.bk 16 .add 15 1,.m 5 16] [0,1,5]))
def Zlr:MFun:=⟨2,27,[.tmp 4],.r [.o 4 (.mov (.q false))] [0,1] (.wc [.m 6 0,.ll 7 6,.m 8 1,.ll 9 8,.b 10 .neq 7 9] [0,1,10] 10 (.r [.o 4 (.mov (.q false))] [4] .ret) (.seq (.r [.mk' 5 0] [0,1,5] (.block 0 (.loop [0,1,5] Zij))) (.r [.o 4 (.mov (.q true))] [4] .ret)))⟩
theorem Zzq:tbl 110=some Zlr:=tblOf_eq Tryz.func110 (by kernel_rfl) (by kernel_rfl)
def Zik:MCode :=.we [.m 11 5,.m 12 0,.ll 13 12,.b 14 .lss 11 13] [0,1,5,14] 14 0 (.seq (.block 1 (.seq (.drw [.m 17 0,.m 18 5,.ia 19 3 17 18,.ln 20 3 19,.m 21 1,.m 22 5,.ia 23 3 21 22,.ln 24 3 23,.cl 25 199 [20,24],.o 26 (.un .not (.s 25))] [[],[],[0,1],[2],[],[],[4,5],[6],[3,7],[8]] [0,1,5,26]) (.cond (.s 26) (.r [.o 4 (.mov (.q false))] [4] .ret) .skip))) (.reg [.m 15 5,.bk 16 .add 15 1,.m 5 16] [0,1,5]))
def Zls:MFun:=⟨2,27,[.tmp 4],.r [.o 4 (.mov (.q false))] [0,1] (.wc [.m 6 0,.ll 7 6,.m 8 1,.ll 9 8,.b 10 .neq 7 9] [0,1,10] 10 (.r [.o 4 (.mov (.q false))] [4] .ret) (.seq (.r [.mk' 5 0] [0,1,5] (.block 0 (.loop [0,1,5] Zik))) (.r [.o 4 (.mov (.q true))] [4] .ret)))⟩
theorem Zzr:tbl 111=some Zls:=tblOf_eq Tryz.func111 (by kernel_rfl) (by kernel_rfl)
def Zrg:MFun:=⟨2,15,[.tmp 4],.r [.bx 2 0,.bx 3 1,.o 4 (.mov (.q false))] [2,3] (.wc [.fa 5 0 2,.l 6 5,.fa 7 0 3,.l 8 7,.b 9 .neq 6 8] [2,3,9] 9 (.r [.o 4 (.mov (.q false))] [4] .ret) (.wc [.fa 10 1 2,.l 11 10,.fa 12 1 3,.l 13 12,.b 14 .neq 11 13] [14] 14 (.r [.o 4 (.mov (.q false))] [4] .ret) (.r [.o 4 (.mov (.q true))] [4] .ret)))⟩
theorem Zzs:tbl 112=some Zrg:=tblOf_eq Tryz.func112 (by kernel_rfl) (by kernel_rfl)
def Zrh:MFun:=⟨2,10,[.tmp 4],.r [.bx 2 0,.mk' 4 0] [1,2] (.r [.fa 5 5 2,.o 6 (.loadU (.s 5)),.m 7 1,.o 8 (.scall 200 [.s 6,.s 7] (.s 5)),.m 1 8] [1] (.r [.m 9 1,.m 4 9] [4] .ret))⟩
theorem Zzt:tbl 113=some Zrh:=tblOf_eq Tryz.func113 (by kernel_rfl) (by kernel_rfl)
def Zil:MCode :=.we [.m 6 5,.m 7 0,.ll 8 7,.b 9 .lss 6 8] [0,1,5,9] 9 0 (.seq (.block 1 (.r [.m 12 0,.m 13 5,.m 14 1,.cl 15 201 [14],.ia 16 2 12 13,.fa 17 0 16,.st 1 17 15] [0,1,5] (.r [.m 18 1,.bk 19 .add 18 1,.m 1 19] [0,1,5] (.reg [.m 20 0,.m 21 5,.ia 22 2 20 21,.fa 23 1 22,.o 24 (.loadU (.s 23)),.m 25 1,.o 26 (.scall 32 [.s 24,.s 25] (.s 23)),.m 1 26] [0,1,5])))) (.reg [.m 10 5,.bk 11 .add 10 1,.m 5 11] [0,1,5]))
def Zri:MFun:=⟨2,28,[.tmp 4],.r [.mk' 4 0] [0,1] (.seq (.r [.mk' 5 0] [0,1,5] (.block 0 (.loop [0,1,5] Zil))) (.r [.m 27 1,.m 4 27] [4] .ret))⟩
theorem Zzu:tbl 114=some Zri:=tblOf_eq Tryz.func114 (by kernel_rfl) (by kernel_rfl)
def Zim:MCode :=.we [.m 6 5,.m 7 0,.ll 8 7,.b 9 .lss 6 8] [0,1,5,9] 9 0 (.seq (.block 1 (.r [.m 12 0,.m 13 5,.m 14 1,.ia 15 3 12 13,.fa 16 0 15,.st 1 16 14] [0,1,5] (.r [.m 17 1,.bk 18 .add 17 1,.m 1 18] [0,1,5] (.r [.m 19 0,.m 20 5,.m 21 1,.ia 22 3 19 20,.fa 23 1 22,.st 1 23 21] [0,1,5] (.r [.m 24 1,.bk 25 .add 24 1,.m 1 25] [0,1,5] (.r [.m 26 0,.m 27 5,.m 28 1,.ia 29 3 26 27,.fa 30 2 29,.st 1 30 28] [0,1,5] (.reg [.m 31 1,.bk 32 .add 31 1,.m 1 32] [0,1,5]))))))) (.reg [.m 10 5,.bk 11 .add 10 1,.m 5 11] [0,1,5]))
def Zrj:MFun:=⟨2,34,[.tmp 4],.r [.mk' 4 0] [0,1] (.seq (.r [.mk' 5 0] [0,1,5] (.block 0 (.loop [0,1,5] Zim))) (.r [.m 33 1,.m 4 33] [4] .ret))⟩
theorem Zzv:tbl 115=some Zrj:=tblOf_eq Tryz.func115 (by kernel_rfl) (by kernel_rfl)
def Zrk:MFun:=⟨2,12,[.tmp 4],.r [.mk' 4 0] [0,1] (.r [.m 5 1,.m 6 0,.ll 7 6,.b 8 .sub 5 7,.m 1 8] [1] (.wc [.m 9 1,.bk 10 .lss 9 0] [1,10] 10 (.r [.mk' 4 (-1)] [4] .ret) (.r [.m 11 1,.m 4 11] [4] .ret)))⟩
theorem Zzw:tbl 151=some Zrk:=tblOf_eq Tryz.func151 (by kernel_rfl) (by kernel_rfl)
def Zrl:MFun:=⟨2,12,[.tmp 4],.r [.mk' 4 0] [0,1] (.r [.m 5 1,.m 6 0,.ll 7 6,.b 8 .sub 5 7,.m 1 8] [1] (.wc [.m 9 1,.bk 10 .lss 9 0] [1,10] 10 (.r [.mk' 4 (-1)] [4] .ret) (.r [.m 11 1,.m 4 11] [4] .ret)))⟩
theorem Zzx:tbl 178=some Zrl:=tblOf_eq Tryz.func178 (by kernel_rfl) (by kernel_rfl)
def Zrm:MFun:=⟨2,19,[.tmp 4],.r [.bx 2 0,.mk' 4 0] [1,2] (.r [.m 5 1,.fa 6 0 2,.l 7 6,.o 8 (.len true (.s 7)),.b 9 .sub 5 8,.m 1 9] [1,2] (.wc [.m 10 1,.bk 11 .lss 10 0] [1,2,11] 11 (.r [.mk' 4 (-1)] [4] .ret) (.r [.fa 12 1 2,.l 13 12,.m 14 1,.cl 15 151 [13,14],.m 1 15] [1] (.wc [.m 16 1,.bk 17 .lss 16 0] [1,17] 17 (.r [.mk' 4 (-1)] [4] .ret) (.r [.m 18 1,.m 4 18] [4] .ret)))))⟩
theorem Zzy:tbl 179=some Zrm:=tblOf_eq Tryz.func179 (by kernel_rfl) (by kernel_rfl)
def Zin:MCode :=.we [.m 8 4,.m 9 0,.ll 10 9,.b 11 .lss 8 10] [0,3,4,11] 11 0 (.seq (.block 1 (.reg [.m 14 3,.m 15 4,.m 16 0,.m 17 4,.ia 18 2 16 17,.ln 19 2 18,.cl 20 256 [19],.ia 21 2 14 15,.st 2 21 20] [0,3,4])) (.reg [.m 12 4,.bk 13 .add 12 1,.m 4 13] [0,3,4]))
def Zrn:MFun:=⟨1,23,[.tmp 2],.r [.o 2 (.mov (.c (.t .nil)))] [0] (.r [.m 5 0,.ll 6 5,.o 7 (.mkslice 221 2 16 [.z,.z] (.s 6) (.s 6)),.m 3 7] [0,3] (.seq (.r [.mk' 4 0] [0,3,4] (.block 0 (.loop [0,3,4] Zin))) (.r [.m 22 3,.m 2 22] [2] .ret)))⟩
theorem Zzz:tbl 186=some Zrn:=tblOf_eq Tryz.func186 (by kernel_rfl) (by kernel_rfl)
def Zro:MFun:=⟨1,12,[.cell 2 (some 2)],.r [.bx 1 0,.o 2 (.alloc [.t (.str ⟨#[]⟩),.t .nil])] [1,2] (.r [.o 3 (.alloc [.t (.str ⟨#[]⟩),.t .nil])] [1,2,3] (.r [.fa 4 0 1,.l 5 4,.fa 6 0 3,.st 1 6 5] [1,2,3] (.r [.fa 7 1 1,.l 8 7,.cl 9 59 [8],.fa 10 1 3,.st 1 10 9] [2,3] (.r [.ln 11 2 3,.st 2 2 11] [2] .ret))))⟩
theorem Zz0:tbl 187=some Zro:=tblOf_eq Tryz.func187 (by kernel_rfl) (by kernel_rfl)
def Zrp:MFun:=⟨1,14,[.cell 2 (some 3)],.r [.bx 1 0,.o 2 (.alloc [.t .z,.t .z,.t .z])] [1,2] (.r [.o 3 (.alloc [.t .z,.t .z,.t .z])] [1,2,3] (.r [.fa 4 0 1,.l 5 4,.fa 6 0 3,.st 1 6 5] [1,2,3] (.r [.fa 7 1 1,.l 8 7,.fa 9 1 3,.st 1 9 8] [1,2,3] (.r [.fa 10 2 1,.l 11 10,.fa 12 2 3,.st 1 12 11] [2,3] (.r [.ln 13 3 3,.st 3 2 13] [2] .ret)))))⟩
theorem Zz1:tbl 188=some Zrp:=tblOf_eq Tryz.func188 (by kernel_rfl) (by kernel_rfl)
def Zio:MCode :=.we [.m 11 5,.m 12 0,.ll 13 12,.b 14 .lss 11 13] [0,1,5,14] 14 0 (.seq (.block 1 (.seq (.drw [.m 17 0,.m 18 5,.ia 19 2 17 18,.ln 20 2 19,.m 21 1,.m 22 5,.ia 23 2 21 22,.ln 24 2 23,.cl 25 266 [20,24],.o 26 (.un .not (.s 25))] [[],[],[0,1],[2],[],[],[4,5],[6],[3,7],[8]] [0,1,5,26]) (.cond (.s 26) (.r [.o 4 (.mov (.q false))] [4] .ret) .skip))) (.reg [.m 15 5,.bk 16 .add 15 1,.m 5 16] [0,1,5]))
def Zlt:MFun:=⟨2,27,[.tmp 4],.r [.o 4 (.mov (.q false))] [0,1] (.wc [.m 6 0,.ll 7 6,.m 8 1,.ll 9 8,.b 10 .neq 7 9] [0,1,10] 10 (.r [.o 4 (.mov (.q false))] [4] .ret) (.seq (.r [.mk' 5 0] [0,1,5] (.block 0 (.loop [0,1,5] Zio))) (.r [.o 4 (.mov (.q true))] [4] .ret)))⟩
theorem Zz2:tbl 197=some Zlt:=tblOf_eq Tryz.func197 (by kernel_rfl) (by kernel_rfl)
def Zrq:MFun:=⟨2,16,[.tmp 4],.r [.bx 2 0,.bx 3 1,.o 4 (.mov (.q false))] [2,3] (.wc [.fa 5 0 2,.l 6 5,.fa 7 0 3,.l 8 7,.b 9 .neq 6 8] [2,3,9] 9 (.r [.o 4 (.mov (.q false))] [4] .ret) (.wc [.fa 10 1 2,.l 11 10,.fa 12 1 3,.l 13 12,.cl 14 23 [11,13],.o 15 (.un .not (.s 14))] [15] 15 (.r [.o 4 (.mov (.q false))] [4] .ret) (.r [.o 4 (.mov (.q true))] [4] .ret)))⟩
theorem Zz3:tbl 198=some Zrq:=tblOf_eq Tryz.func198 (by kernel_rfl) (by kernel_rfl)
def Zrr:MFun:=⟨2,20,[.tmp 4],.r [.bx 2 0,.bx 3 1,.o 4 (.mov (.q false))] [2,3] (.wc [.fa 5 0 2,.l 6 5,.fa 7 0 3,.l 8 7,.b 9 .neq 6 8] [2,3,9] 9 (.r [.o 4 (.mov (.q false))] [4] .ret) (.wc [.fa 10 1 2,.l 11 10,.fa 12 1 3,.l 13 12,.b 14 .neq 11 13] [2,3,14] 14 (.r [.o 4 (.mov (.q false))] [4] .ret) (.wc [.fa 15 2 2,.l 16 15,.fa 17 2 3,.l 18 17,.b 19 .neq 16 18] [19] 19 (.r [.o 4 (.mov (.q false))] [4] .ret) (.r [.o 4 (.mov (.q true))] [4] .ret))))⟩
theorem Zz4:tbl 199=some Zrr:=tblOf_eq Tryz.func199 (by kernel_rfl) (by kernel_rfl)
def Zip:MCode :=.we [.m 6 5,.m 7 0,.ll 8 7,.b 9 .lss 6 8] [0,1,5,9] 9 0 (.seq (.block 1 (.r [.m 12 0,.m 13 5,.m 14 1,.ia 15 2 12 13,.fa 16 0 15,.st 1 16 14] [0,1,5] (.r [.m 17 1,.bk 18 .add 17 1,.m 1 18] [0,1,5] (.r [.m 19 0,.m 20 5,.m 21 1,.ia 22 2 19 20,.fa 23 1 22,.st 1 23 21] [0,1,5] (.reg [.m 24 1,.bk 25 .add 24 1,.m 1 25] [0,1,5]))))) (.reg [.m 10 5,.bk 11 .add 10 1,.m 5 11] [0,1,5]))
def Zrs:MFun:=⟨2,27,[.tmp 4],.r [.mk' 4 0] [0,1] (.seq (.r [.mk' 5 0] [0,1,5] (.block 0 (.loop [0,1,5] Zip))) (.r [.m 26 1,.m 4 26] [4] .ret))⟩
theorem Zz5:tbl 200=some Zrs:=tblOf_eq Tryz.func200 (by kernel_rfl) (by kernel_rfl)
def Zgz:MCode :=.we [.m 6 0,.bk 7 .gtr 6 0] [0,3,7] 7 0 (.block 1 (.r [.m 8 0,.bk 9 .rem 8 10,.o 10 (.bin .add (.k 48) (.s 9)),.o 11 (.conv .u8 (.s 10)),.o 12 (.bslice 5 1 1 [.int .u8 0] [(0,.s 11)]),.o 13 (.tostr (.s 12)),.m 14 3,.b 15 .add 13 14,.m 3 15] [0,3] (.reg [.m 16 0,.bk 17 .quo 16 10,.m 0 17] [0,3])))
def Zlu:MFun:=⟨1,20,[.tmp 2],.r [.o 2 (.mov (.c (.t (.str ⟨#[]⟩))))] [0] (.wc [.m 4 0,.bk 5 .leq 4 0] [0,5] 5 (.r [.o 2 (.mov (.c (.t (.str ⟨#[109,48]⟩))))] [2] .ret) (.r [.o 3 (.mov (.c (.t (.str ⟨#[]⟩))))] [0,3] (.seq (.block 0 (.loop [0,3] Zgz)) (.r [.m 18 3,.o 19 (.bin .add (.c (.t (.str ⟨#[109]⟩))) (.s 18)),.m 2 19] [2] .ret))))⟩
theorem Zrt:tbl 201=some Zlu:=tblOf_eq Tryz.func201 (by kernel_rfl) (by kernel_rfl)
def Zru:MFun:=⟨1,11,[.cell 2 (some 2)],.r [.bx 1 0,.o 2 (.alloc [.t .z,.t .z])] [1,2] (.r [.o 3 (.alloc [.t .z,.t .z])] [1,2,3] (.r [.fa 4 0 1,.l 5 4,.fa 6 0 3,.st 1 6 5] [1,2,3] (.r [.fa 7 1 1,.l 8 7,.fa 9 1 3,.st 1 9 8] [2,3] (.r [.ln 10 2 3,.st 2 2 10] [2] .ret))))⟩
theorem Zz6:tbl 256=some Zru:=tblOf_eq Tryz.func256 (by kernel_rfl) (by kernel_rfl)
def Zrv:MFun:=⟨2,15,[.tmp 4],.r [.bx 2 0,.bx 3 1,.o 4 (.mov (.q false))] [2,3] (.wc [.fa 5 0 2,.l 6 5,.fa 7 0 3,.l 8 7,.b 9 .neq 6 8] [2,3,9] 9 (.r [.o 4 (.mov (.q false))] [4] .ret) (.wc [.fa 10 1 2,.l 11 10,.fa 12 1 3,.l 13 12,.b 14 .neq 11 13] [14] 14 (.r [.o 4 (.mov (.q false))] [4] .ret) (.r [.o 4 (.mov (.q true))] [4] .ret)))⟩
theorem Zz7:tbl 266=some Zrv:=tblOf_eq Tryz.func266 (by kernel_rfl) (by kernel_rfl)
end Go.Proofs.YtbapkgocloaaeaaGreat
/- part: FA -/
namespace Go.Proofs.YtbapkgocloaaeaaGreat
open Go.AM
theorem l_toIntS (xs:List Int) (h:SmA xs) (fr:List Fr):∀ i,i≤xs.length→EvL C fr [0,3,4] Zig ⟨[(0,L 1 (xs.map ic)),(3,.own 0),(4,I i)],[[]],[.arr Zv 1 true (fill ic [.int .i64 0] xs i)]⟩ =
  EvX C fr (.x 0) ⟨[(0,L 1 (xs.map ic)),(3,.own 0),(4,I xs.length),(11,Bo false)],[[]],[.arr Zv 1 true (xs.map ic)]⟩:=by
 have hl:xs.length≤4294967296:=h
 refine down xs.length ?_ ?_
 ·rw [EvL_eq Zig.eq_1]
  simp [fill_all]
 ·intro i hi ih
  rw [EvL_eq Zig.eq_1,← ih]
  have h1:=fill_set (f:=ic) (z:=[.int .i64 0]) hi
  have h3:=fill_len (f:=ic) (z:=[.int .i64 0]) (Nat.le_of_lt hi)
  have h4:IntKind.wrap .i64 ((i:Int)+1)=(i:Int)+1:=wrap64 (by omega) (by omega)
  simp at h1
  simp [hi,h3,h4,h1]
theorem c_toIntS (xs:List Int) (h:SmA xs):C Zsr [L 1 (xs.map ic)] []=some (.own 0,[.arr Zv 1 true (xs.map ic)]):=by
 refine run Zzh rfl ?_
 have hl:xs.length≤4294967296:=h
 have h1:∀ b,b≤4096→xs.length*b≤room:=fun b hb=>Nat.le_trans (Nat.mul_le_mul hl hb) (by decide)
 have h2:(xs.length:Int)≤140737488355328:=by omega
 have h3:=fun fr=>l_toIntS xs h fr 0 (Nat.zero_le _)
 simp [fill_zero] at h3
 simp [Zq7,h1,h2,h3]
theorem l_eqIntS (xs ys:List Int) (h:SmA xs) (hl:ys.length=xs.length) (fr:List Fr):∀ i,i≤xs.length→EvL C fr [0,1,5] Zgx ⟨[(0,L 1 (xs.map ic)),(1,L 1 (ys.map ic)),(5,I i)],[[]],[]⟩ =
  if xs.drop i=ys.drop i then EvX C fr (.x 0) ⟨[(0,L 1 (xs.map ic)),(1,L 1 (ys.map ic)),(5,I xs.length),(14,Bo false)],[[]],[]⟩ else EvX C fr .r ⟨[(4,Bo false)],[[]],[]⟩:=by
 have hm:xs.length≤4294967296:=h
 refine down xs.length ?_ ?_
 ·rw [EvL_eq Zgx.eq_1]
  simp [hl,List.drop_eq_nil_of_le]
 ·intro i hi ih
  have hi2:i<ys.length:=by omega
  have h4:IntKind.wrap .i64 ((i:Int)+1)=(i:Int)+1:=wrap64 (by omega) (by omega)
  rw [EvL_eq Zgx.eq_1]
  simp +decide [hi,hi2,h4]
  simp at ih
  simp only [drop_eq_iff hi hi2,ih]
  split <;> first | (simp_all;done) | grind
theorem Zrw (xs ys:List Int) (h:SmA xs):C Zmj [L 1 (xs.map ic),L 1 (ys.map ic)] []=some (Bo (decide (xs=ys)),[]):=by
 refine run Zqy rfl ?_
 by_cases hl:ys.length=xs.length
 ·have h3:=fun fr=>l_eqIntS xs ys h hl fr 0 (Nat.zero_le _)
  simp at h3
  simp [Zic,h3,hl]
  split <;> simp_all
 ·have h1:xs≠ys:=fun h=>hl (by rw [h])
  have h2:¬ ((xs.length:Int)=ys.length):=by omega
  simp [Zic,h1,h2]
@[simp] theorem c_szIntS (es:List (List T)) (left:Int):C Zs6 [L 1 es,I left] []=some (I (sz1 es.length left),[]):=by
 refine run Zzw rfl ?_
 simp [Zrk,sz1]
 split <;> simp_all
theorem c_toAtom (x0:ByteArray) (x1:List Int) (h1:SmA x1):C Zta [.agg [.t (.str x0),.t (tI x1)]] []=some (.agg [.t (.str x0),.own 0],[.arr Zv 1 true (x1.map ic)]):=by
 refine run Zz0 rfl ?_
 simp [Zro,c_toIntS _ h1]
theorem c_eqAtom (x0:ByteArray) (x1:List Int) (y0:ByteArray) (y1:List Int) (h1:SmA x1):C Ztd [.agg [.t (.str x0),.t (tI x1)],.agg [.t (.str y0),.t (tI y1)]] []=some (Bo (decide (x0=y0∧x1=y1)),[]):=by
 refine run Zz3 rfl ?_
 simp [Zrq,Zrw _ _ h1]
 repeat' split
 all_goals first | (simp_all;done) | grind
theorem c_szAtom (x0:ByteArray) (x1:List Int) (left:Int) :C Zs8 [.agg [.t (.str x0),.t (tI x1)],I left] []=some (I (Atom.sz ⟨x0,x1⟩ left),[]):=by
 refine run Zzy rfl ?_
 simp [Zrm,c_szIntS,Atom.sz,andSz,sz1]
 repeat' split
 all_goals first | (simp_all;done) | grind
theorem Zz8 (xs:List Atom) (h:SmL Atom.small xs) (fr:List Fr):∀ i,i≤xs.length→EvL C fr [0,3,4] Zih ⟨[(0,L 2 (xs.map Atom.c)),(3,.own 0),(4,I i)],[[]],[.arr Zhh 2 true (fill Atom.c [.str ⟨#[]⟩,.lst 1 []] xs i)]⟩ =
  EvX C fr (.x 0) ⟨[(0,L 2 (xs.map Atom.c)),(3,.own 0),(4,I xs.length),(11,Bo false)],[[]],[.arr Zhh 2 true (xs.map Atom.c)]⟩:=by
 have hl:xs.length≤4294967296:=h.1
 refine down xs.length ?_ ?_
 ·rw [EvL_eq Zih.eq_1]
  simp [fill_all]
 ·intro i hi ih
  rw [EvL_eq Zih.eq_1,← ih]
  have h1:=fill_set (f:=Atom.c) (z:=[.str ⟨#[]⟩,.lst 1 []]) hi
  have h3:=fill_len (f:=Atom.c) (z:=[.str ⟨#[]⟩,.lst 1 []]) (Nat.le_of_lt hi)
  have h4:IntKind.wrap .i64 ((i:Int)+1)=(i:Int)+1:=wrap64 (by omega) (by omega)
  simp at h1
  simp [hi,c_toAtom _ _ (h.2 _ (List.getElem_mem hi)).2,h3,h4,h1]
theorem Zz9 (xs:List Atom) (h:SmL Atom.small xs):C Zsw [L 2 (xs.map Atom.c)] []=some (.own 0,[.arr Zhh 2 true (xs.map Atom.c)]):=by
 refine run Zzm rfl ?_
 have hl:xs.length≤4294967296:=h.1
 have h1:∀ b,b≤4096→xs.length*b≤room:=fun b hb=>Nat.le_trans (Nat.mul_le_mul hl hb) (by decide)
 have h2:(xs.length:Int)≤140737488355328:=by omega
 have h3:=fun fr=>Zz8 xs h fr 0 (Nat.zero_le _)
 simp [fill_zero] at h3
 simp [Zrc,h1,h2,h3]
theorem Z0a (xs ys:List Atom) (h:SmL Atom.small xs) (hl:ys.length=xs.length) (fr:List Fr):∀ i,i≤xs.length→EvL C fr [0,1,5] Zij ⟨[(0,L 2 (xs.map Atom.c)),(1,L 2 (ys.map Atom.c)),(5,I i)],[[]],[]⟩ =
  if xs.drop i=ys.drop i then EvX C fr (.x 0) ⟨[(0,L 2 (xs.map Atom.c)),(1,L 2 (ys.map Atom.c)),(5,I xs.length),(14,Bo false)],[[]],[]⟩ else EvX C fr .r ⟨[(4,Bo false)],[[]],[]⟩:=by
 have hm:xs.length≤4294967296:=h.1
 refine down xs.length ?_ ?_
 ·rw [EvL_eq Zij.eq_1]
  simp [hl,List.drop_eq_nil_of_le]
 ·intro i hi ih
  have hi2:i<ys.length:=by omega
  have h4:IntKind.wrap .i64 ((i:Int)+1)=(i:Int)+1:=wrap64 (by omega) (by omega)
  rw [EvL_eq Zij.eq_1]
  simp +decide [hi,hi2,c_eqAtom _ _ _ _ (h.2 _ (List.getElem_mem hi)).2,h4]
  simp at ih
  simp only [drop_eq_iff hi hi2,ih,Atom.ext_iff]
  split <;> first | (simp_all;done) | grind
theorem Z0b (xs ys:List Atom) (h:SmL Atom.small xs):C Zs0 [L 2 (xs.map Atom.c),L 2 (ys.map Atom.c)] []=some (Bo (decide (xs=ys)),[]):=by
 refine run Zzq rfl ?_
 by_cases hl:ys.length=xs.length
 ·have h3:=fun fr=>Z0a xs ys h hl fr 0 (Nat.zero_le _)
  simp at h3
  simp [Zlr,h3,hl]
  split <;> simp_all
 ·have h1:xs≠ys:=fun h=>hl (by rw [h])
  have h2:¬ ((xs.length:Int)=ys.length):=by omega
  simp [Zlr,h1,h2]
theorem Z0c (xs:List Atom) (h:OkL Atom.okay xs) (fr:List Fr):∀ i,i≤xs.length→∀ left:Int,
  (EvL C fr [0,1,5] Zey ⟨[(0,L 2 (xs.map Atom.c)),(1,I left),(5,I i)],[[]],[]⟩=EvX C fr .r ⟨[(4,I (-1))],[[]],[]⟩∧szFold Atom.sz (xs.drop i) left=-1) ∨
  EvL C fr [0,1,5] Zey ⟨[(0,L 2 (xs.map Atom.c)),(1,I left),(5,I i)],[[]],[]⟩=EvX C fr (.x 0) ⟨[(0,L 2 (xs.map Atom.c)),(1,I (szFold Atom.sz (xs.drop i) left)),(5,I xs.length),(15,Bo false)],[[]],[]⟩:=by
 have hm:maxLen≤9223372036854775807:=by decide
 have hl:=h.1
 refine down xs.length ?_ ?_
 ·intro left
  right
  rw [EvL_eq Zey.eq_1]
  simp [List.drop_eq_nil_of_le,szFold]
 ·intro i hi ih left
  have h4:IntKind.wrap .i64 ((i:Int)+1)=(i:Int)+1:=wrap64 (by omega) (by omega)
  have e:EvL C fr [0,1,5] Zey ⟨[(0,L 2 (xs.map Atom.c)),(1,I left),(5,I i)],[[]],[]⟩=if Atom.sz xs[i] left<0 then EvX C fr .r ⟨[(4,I (-1))],[[]],[]⟩ else EvL C fr [0,1,5] Zey ⟨[(0,L 2 (xs.map Atom.c)),(1,I (Atom.sz xs[i] left)),(5,I ((i+1:Nat):Int))],[[]],[]⟩:=by
   rw [EvL_eq Zey.eq_1]
   simp [hi,c_szAtom,h4]
  rw [e,List.drop_eq_getElem_cons hi,szFold]
  split
  ·exact .inl ⟨rfl,rfl⟩
  ·exact ih _
theorem Z0d (xs:List Atom) (left:Int) (h:OkL Atom.okay xs):C Zst [L 2 (xs.map Atom.c),I left] []=some (I (szL Atom.sz xs left),[]):=by
 refine run Zzj rfl ?_
 have h3:=fun fr l=>Z0c xs h fr 0 (Nat.zero_le _) l
 simp at h3
 simp [Zq9,szL,andSz,sz1]
 split
 ·simp_all
 ·rcases h3 [.blk 0,.seq _,.fin _ _] (IntKind.wrap .i64 (left - xs.length)) with ⟨h5,h6⟩ | h5
  ·rw [h5];simp [h6]
  ·rw [h5];simp
theorem Z0e (x0:Int) (x1:List Atom) (h1:SmL Atom.small x1):C Zsg [.agg [I x0,.t (.lst 2 (x1.map Atom.c))]] []=some (.agg [I x0,.own 0],[.arr Zhh 2 true (x1.map Atom.c)]):=by
 refine run Zy6 rfl ?_
 simp [Zqv,Zz9 _ h1]
theorem Z0f (x0:Int) (x1:List Atom) (y0:Int) (y1:List Atom) (h1:SmL Atom.small x1):C Zsk [.agg [I x0,.t (.lst 2 (x1.map Atom.c))],.agg [I y0,.t (.lst 2 (y1.map Atom.c))]] []=some (Bo (decide (x0=y0∧x1=y1)),[]):=by
 refine run Zza rfl ?_
 simp [Zq0,Z0b _ _ h1]
 repeat' split
 all_goals first | (simp_all;done) | grind
theorem Z0g (x0:Int) (x1:List Atom) (left:Int) (h1:OkL Atom.okay x1):C Zsc [.agg [I x0,.t (.lst 2 (x1.map Atom.c))],I left] []=some (I (Zd.sz ⟨x0,x1⟩ left),[]):=by
 refine run Zy2 rfl ?_
 simp [Zqr,Z0d _ _ h1,Zd.sz,andSz,sz1]
 repeat' split
 all_goals first | (simp_all;done) | grind
theorem Z0h (x0:Int) (x1:Int) :C Ztg [.agg [I x0,I x1]] []=some (.agg [I x0,I x1],[]):=by
 refine run Zz6 rfl ?_
 simp [Zru]
theorem Z0i (x0:Int) (x1:Int) (y0:Int) (y1:Int) :C Zth [.agg [I x0,I x1],.agg [I y0,I y1]] []=some (Bo (decide (x0=y0∧x1=y1)),[]):=by
 refine run Zz7 rfl ?_
 simp [Zrv]
 repeat' split
 all_goals first | (simp_all;done) | grind
theorem Z0j (xs:List Zb) (h:SmA xs) (fr:List Fr):∀ i,i≤xs.length→EvL C fr [0,3,4] Zin ⟨[(0,L 2 (xs.map Zb.c)),(3,.own 0),(4,I i)],[[]],[.arr Zcf 2 true (fill Zb.c [.int .i64 0,.int .i64 0] xs i)]⟩ =
  EvX C fr (.x 0) ⟨[(0,L 2 (xs.map Zb.c)),(3,.own 0),(4,I xs.length),(11,Bo false)],[[]],[.arr Zcf 2 true (xs.map Zb.c)]⟩:=by
 have hl:xs.length≤4294967296:=h
 refine down xs.length ?_ ?_
 ·rw [EvL_eq Zin.eq_1]
  simp [fill_all]
 ·intro i hi ih
  rw [EvL_eq Zin.eq_1,← ih]
  have h1:=fill_set (f:=Zb.c) (z:=[.int .i64 0,.int .i64 0]) hi
  have h3:=fill_len (f:=Zb.c) (z:=[.int .i64 0,.int .i64 0]) (Nat.le_of_lt hi)
  have h4:IntKind.wrap .i64 ((i:Int)+1)=(i:Int)+1:=wrap64 (by omega) (by omega)
  simp at h1
  simp [hi,Z0h,h3,h4,h1]
theorem Z0k (xs:List Zb) (h:SmA xs):C Zs9 [L 2 (xs.map Zb.c)] []=some (.own 0,[.arr Zcf 2 true (xs.map Zb.c)]):=by
 refine run Zzz rfl ?_
 have hl:xs.length≤4294967296:=h
 have h1:∀ b,b≤4096→xs.length*b≤room:=fun b hb=>Nat.le_trans (Nat.mul_le_mul hl hb) (by decide)
 have h2:(xs.length:Int)≤140737488355328:=by omega
 have h3:=fun fr=>Z0j xs h fr 0 (Nat.zero_le _)
 simp [fill_zero] at h3
 simp [Zrn,h1,h2,h3]
theorem Z0l (xs ys:List Zb) (h:SmA xs) (hl:ys.length=xs.length) (fr:List Fr):∀ i,i≤xs.length→EvL C fr [0,1,5] Zio ⟨[(0,L 2 (xs.map Zb.c)),(1,L 2 (ys.map Zb.c)),(5,I i)],[[]],[]⟩ =
  if xs.drop i=ys.drop i then EvX C fr (.x 0) ⟨[(0,L 2 (xs.map Zb.c)),(1,L 2 (ys.map Zb.c)),(5,I xs.length),(14,Bo false)],[[]],[]⟩ else EvX C fr .r ⟨[(4,Bo false)],[[]],[]⟩:=by
 have hm:xs.length≤4294967296:=h
 refine down xs.length ?_ ?_
 ·rw [EvL_eq Zio.eq_1]
  simp [hl,List.drop_eq_nil_of_le]
 ·intro i hi ih
  have hi2:i<ys.length:=by omega
  have h4:IntKind.wrap .i64 ((i:Int)+1)=(i:Int)+1:=wrap64 (by omega) (by omega)
  rw [EvL_eq Zio.eq_1]
  simp +decide [hi,hi2,Z0i _ _ _ _ ,h4]
  simp at ih
  simp only [drop_eq_iff hi hi2,ih,Zb.ext_iff]
  split <;> first | (simp_all;done) | grind
theorem Z0m (xs ys:List Zb) (h:SmA xs):C Ztc [L 2 (xs.map Zb.c),L 2 (ys.map Zb.c)] []=some (Bo (decide (xs=ys)),[]):=by
 refine run Zz2 rfl ?_
 by_cases hl:ys.length=xs.length
 ·have h3:=fun fr=>Z0l xs ys h hl fr 0 (Nat.zero_le _)
  simp at h3
  simp [Zlt,h3,hl]
  split <;> simp_all
 ·have h1:xs≠ys:=fun h=>hl (by rw [h])
  have h2:¬ ((xs.length:Int)=ys.length):=by omega
  simp [Zlt,h1,h2]
@[simp] theorem Z0n (es:List (List T)) (left:Int):C Zs7 [L 2 es,I left] []=some (I (sz1 es.length left),[]):=by
 refine run Zzx rfl ?_
 simp [Zrl,sz1]
 split <;> simp_all
theorem Zg0 (x0:Int) (x1:Int) (x2:Int) (x3:Int) (x4:Int) (x5:List Zb) (h5:SmA x5):C Zsv [.agg [I x0,I x1,I x2,I x3,I x4,.t (.lst 2 (x5.map Zb.c))]] []=some (.agg [I x0,I x1,I x2,I x3,I x4,.own 0],[.arr Zcf 2 true (x5.map Zb.c)]):=by
 refine run Zzl rfl ?_
 simp [Zrb,Z0k _ h5]
theorem Zg1 (x0:Int) (x1:Int) (x2:Int) (x3:Int) (x4:Int) (x5:List Zb) (y0:Int) (y1:Int) (y2:Int) (y3:Int) (y4:Int) (y5:List Zb) (h5:SmA x5):C Zsz [.agg [I x0,I x1,I x2,I x3,I x4,.t (.lst 2 (x5.map Zb.c))],.agg [I y0,I y1,I y2,I y3,I y4,.t (.lst 2 (y5.map Zb.c))]] []=some (Bo (decide (x0=y0∧x1=y1∧x2=y2∧x3=y3∧x4=y4∧x5=y5)),[]):=by
 refine run Zzp rfl ?_
 simp [Zrf,Z0m _ _ h5]
 repeat' split
 all_goals first | (simp_all;done) | grind
theorem Z0o (x0:Int) (x1:Int) (x2:Int) (x3:Int) (x4:Int) (x5:List Zb) (left:Int) :C Zss [.agg [I x0,I x1,I x2,I x3,I x4,.t (.lst 2 (x5.map Zb.c))],I left] []=some (I (Zc.sz ⟨x0,x1,x2,x3,x4,x5⟩ left),[]):=by
 refine run Zzi rfl ?_
 simp [Zq8,Z0n,Zc.sz,andSz,sz1]
 repeat' split
 all_goals first | (simp_all;done) | grind
theorem Z0p (x0:Int) (x1:Int) (x2:Int) (x3:Int) (x4:Int) (x5:List Zb) (x6:Int) (x7:Int) (x8:Int) (x9:Int) (x10:Int) (x11:List Zb) (x12:Int) (x13:Int) (x14:Int) (x15:Int) (x16:Int) (x17:List Zb) (x18:Int) (x19:Int) (x20:Int) (x21:Int) (x22:Int) (x23:List Zb) (x24:Int) (x25:Int) (x26:Int) (x27:Int) (x28:Int) (x29:List Zb) (h5:SmA x5) (h11:SmA x11) (h17:SmA x17) (h23:SmA x23) (h29:SmA x29):C Zsf [.agg [I x0,I x1,I x2,I x3,I x4,.t (.lst 2 (x5.map Zb.c)),I x6,I x7,I x8,I x9,I x10,.t (.lst 2 (x11.map Zb.c)),I x12,I x13,I x14,I x15,I x16,.t (.lst 2 (x17.map Zb.c)),I x18,I x19,I x20,I x21,I x22,.t (.lst 2 (x23.map Zb.c)),I x24,I x25,I x26,I x27,I x28,.t (.lst 2 (x29.map Zb.c))]] []=some (.agg [I x0,I x1,I x2,I x3,I x4,.own 0,I x6,I x7,I x8,I x9,I x10,.own 1,I x12,I x13,I x14,I x15,I x16,.own 2,I x18,I x19,I x20,I x21,I x22,.own 3,I x24,I x25,I x26,I x27,I x28,.own 4],[.arr Zcf 2 true (x5.map Zb.c),.arr Zcf 2 true (x11.map Zb.c),.arr Zcf 2 true (x17.map Zb.c),.arr Zcf 2 true (x23.map Zb.c),.arr Zcf 2 true (x29.map Zb.c)]):=by
 refine run Zy5 rfl ?_
 simp [Zqu,Zg0 _ _ _ _ _ _ h5,Zg0 _ _ _ _ _ _ h11,Zg0 _ _ _ _ _ _ h17,Zg0 _ _ _ _ _ _ h23,Zg0 _ _ _ _ _ _ h29]
theorem Z0q (x0:Int) (x1:Int) (x2:Int) (x3:Int) (x4:Int) (x5:List Zb) (x6:Int) (x7:Int) (x8:Int) (x9:Int) (x10:Int) (x11:List Zb) (x12:Int) (x13:Int) (x14:Int) (x15:Int) (x16:Int) (x17:List Zb) (x18:Int) (x19:Int) (x20:Int) (x21:Int) (x22:Int) (x23:List Zb) (x24:Int) (x25:Int) (x26:Int) (x27:Int) (x28:Int) (x29:List Zb) (y0:Int) (y1:Int) (y2:Int) (y3:Int) (y4:Int) (y5:List Zb) (y6:Int) (y7:Int) (y8:Int) (y9:Int) (y10:Int) (y11:List Zb) (y12:Int) (y13:Int) (y14:Int) (y15:Int) (y16:Int) (y17:List Zb) (y18:Int) (y19:Int) (y20:Int) (y21:Int) (y22:Int) (y23:List Zb) (y24:Int) (y25:Int) (y26:Int) (y27:Int) (y28:Int) (y29:List Zb) (h5:SmA x5) (h11:SmA x11) (h17:SmA x17) (h23:SmA x23) (h29:SmA x29):C Zsj [.agg [I x0,I x1,I x2,I x3,I x4,.t (.lst 2 (x5.map Zb.c)),I x6,I x7,I x8,I x9,I x10,.t (.lst 2 (x11.map Zb.c)),I x12,I x13,I x14,I x15,I x16,.t (.lst 2 (x17.map Zb.c)),I x18,I x19,I x20,I x21,I x22,.t (.lst 2 (x23.map Zb.c)),I x24,I x25,I x26,I x27,I x28,.t (.lst 2 (x29.map Zb.c))],.agg [I y0,I y1,I y2,I y3,I y4,.t (.lst 2 (y5.map Zb.c)),I y6,I y7,I y8,I y9,I y10,.t (.lst 2 (y11.map Zb.c)),I y12,I y13,I y14,I y15,I y16,.t (.lst 2 (y17.map Zb.c)),I y18,I y19,I y20,I y21,I y22,.t (.lst 2 (y23.map Zb.c)),I y24,I y25,I y26,I y27,I y28,.t (.lst 2 (y29.map Zb.c))]] []=some (Bo (decide (x0=y0∧x1=y1∧x2=y2∧x3=y3∧x4=y4∧x5=y5∧x6=y6∧x7=y7∧x8=y8∧x9=y9∧x10=y10∧x11=y11∧x12=y12∧x13=y13∧x14=y14∧x15=y15∧x16=y16∧x17=y17∧x18=y18∧x19=y19∧x20=y20∧x21=y21∧x22=y22∧x23=y23∧x24=y24∧x25=y25∧x26=y26∧x27=y27∧x28=y28∧x29=y29)),[]):=by
 refine run Zy9 rfl ?_
 simp [Zqz,Zg1 _ _ _ _ _ _ _ _ _ _ _ _ h5,Zg1 _ _ _ _ _ _ _ _ _ _ _ _ h11,Zg1 _ _ _ _ _ _ _ _ _ _ _ _ h17,Zg1 _ _ _ _ _ _ _ _ _ _ _ _ h23,Zg1 _ _ _ _ _ _ _ _ _ _ _ _ h29]
 repeat' split
 all_goals first | (simp_all;done) | grind
theorem Z0r (x0:Int) (x1:Int) (x2:Int) (x3:Int) (x4:Int) (x5:List Zb) (x6:Int) (x7:Int) (x8:Int) (x9:Int) (x10:Int) (x11:List Zb) (x12:Int) (x13:Int) (x14:Int) (x15:Int) (x16:Int) (x17:List Zb) (x18:Int) (x19:Int) (x20:Int) (x21:Int) (x22:Int) (x23:List Zb) (x24:Int) (x25:Int) (x26:Int) (x27:Int) (x28:Int) (x29:List Zb) (left:Int) :C Zsb [.agg [I x0,I x1,I x2,I x3,I x4,.t (.lst 2 (x5.map Zb.c)),I x6,I x7,I x8,I x9,I x10,.t (.lst 2 (x11.map Zb.c)),I x12,I x13,I x14,I x15,I x16,.t (.lst 2 (x17.map Zb.c)),I x18,I x19,I x20,I x21,I x22,.t (.lst 2 (x23.map Zb.c)),I x24,I x25,I x26,I x27,I x28,.t (.lst 2 (x29.map Zb.c))],I left] []=some (I (Zf.sz ⟨⟨x0,x1,x2,x3,x4,x5⟩,⟨x6,x7,x8,x9,x10,x11⟩,⟨x12,x13,x14,x15,x16,x17⟩,⟨x18,x19,x20,x21,x22,x23⟩,⟨x24,x25,x26,x27,x28,x29⟩⟩ left),[]):=by
 refine run Zy1 rfl ?_
 simp [Zqq,Z0o,Zf.sz,andSz,sz1]
 repeat' split
 all_goals first | (simp_all;done) | grind
theorem Z0s (x0:Int) (x1:Int) (x2:Int) :C Ztb [.agg [I x0,I x1,I x2]] []=some (.agg [I x0,I x1,I x2],[]):=by
 refine run Zz1 rfl ?_
 simp [Zrp]
theorem Z0t (x0:Int) (x1:Int) (x2:Int) (y0:Int) (y1:Int) (y2:Int) :C Zte [.agg [I x0,I x1,I x2],.agg [I y0,I y1,I y2]] []=some (Bo (decide (x0=y0∧x1=y1∧x2=y2)),[]):=by
 refine run Zz4 rfl ?_
 simp [Zrr]
 repeat' split
 all_goals first | (simp_all;done) | grind
theorem Z0u (xs:List Ze) (h:SmA xs) (fr:List Fr):∀ i,i≤xs.length→EvL C fr [0,3,4] Zii ⟨[(0,L 3 (xs.map Ze.c)),(3,.own 0),(4,I i)],[[]],[.arr Zhg 3 true (fill Ze.c [.int .i64 0,.int .i64 0,.int .i64 0] xs i)]⟩ =
  EvX C fr (.x 0) ⟨[(0,L 3 (xs.map Ze.c)),(3,.own 0),(4,I xs.length),(11,Bo false)],[[]],[.arr Zhg 3 true (xs.map Ze.c)]⟩:=by
 have hl:xs.length≤4294967296:=h
 refine down xs.length ?_ ?_
 ·rw [EvL_eq Zii.eq_1]
  simp [fill_all]
 ·intro i hi ih
  rw [EvL_eq Zii.eq_1,← ih]
  have h1:=fill_set (f:=Ze.c) (z:=[.int .i64 0,.int .i64 0,.int .i64 0]) hi
  have h3:=fill_len (f:=Ze.c) (z:=[.int .i64 0,.int .i64 0,.int .i64 0]) (Nat.le_of_lt hi)
  have h4:IntKind.wrap .i64 ((i:Int)+1)=(i:Int)+1:=wrap64 (by omega) (by omega)
  simp at h1
  simp [hi,Z0s,h3,h4,h1]
theorem Z0v (xs:List Ze) (h:SmA xs):C Zsx [L 3 (xs.map Ze.c)] []=some (.own 0,[.arr Zhg 3 true (xs.map Ze.c)]):=by
 refine run Zzn rfl ?_
 have hl:xs.length≤4294967296:=h
 have h1:∀ b,b≤4096→xs.length*b≤room:=fun b hb=>Nat.le_trans (Nat.mul_le_mul hl hb) (by decide)
 have h2:(xs.length:Int)≤140737488355328:=by omega
 have h3:=fun fr=>Z0u xs h fr 0 (Nat.zero_le _)
 simp [fill_zero] at h3
 simp [Zrd,h1,h2,h3]
theorem Z0w (xs ys:List Ze) (h:SmA xs) (hl:ys.length=xs.length) (fr:List Fr):∀ i,i≤xs.length→EvL C fr [0,1,5] Zik ⟨[(0,L 3 (xs.map Ze.c)),(1,L 3 (ys.map Ze.c)),(5,I i)],[[]],[]⟩ =
  if xs.drop i=ys.drop i then EvX C fr (.x 0) ⟨[(0,L 3 (xs.map Ze.c)),(1,L 3 (ys.map Ze.c)),(5,I xs.length),(14,Bo false)],[[]],[]⟩ else EvX C fr .r ⟨[(4,Bo false)],[[]],[]⟩:=by
 have hm:xs.length≤4294967296:=h
 refine down xs.length ?_ ?_
 ·rw [EvL_eq Zik.eq_1]
  simp [hl,List.drop_eq_nil_of_le]
 ·intro i hi ih
  have hi2:i<ys.length:=by omega
  have h4:IntKind.wrap .i64 ((i:Int)+1)=(i:Int)+1:=wrap64 (by omega) (by omega)
  rw [EvL_eq Zik.eq_1]
  simp +decide [hi,hi2,Z0t _ _ _ _ _ _ ,h4]
  simp at ih
  simp only [drop_eq_iff hi hi2,ih,Ze.ext_iff]
  split <;> first | (simp_all;done) | grind
theorem Z0x (xs ys:List Ze) (h:SmA xs):C Zs1 [L 3 (xs.map Ze.c),L 3 (ys.map Ze.c)] []=some (Bo (decide (xs=ys)),[]):=by
 refine run Zzr rfl ?_
 by_cases hl:ys.length=xs.length
 ·have h3:=fun fr=>Z0w xs ys h hl fr 0 (Nat.zero_le _)
  simp at h3
  simp [Zls,h3,hl]
  split <;> simp_all
 ·have h1:xs≠ys:=fun h=>hl (by rw [h])
  have h2:¬ ((xs.length:Int)=ys.length):=by omega
  simp [Zls,h1,h2]
@[simp] theorem Z0y (es:List (List T)) (left:Int):C Zsu [L 3 es,I left] []=some (I (sz1 es.length left),[]):=by
 refine run Zzk rfl ?_
 simp [Zra,sz1]
 split <;> simp_all
theorem c_toPlan (x0:List Ze) (h0:SmA x0):C Zsh [.agg [.t (.lst 3 (x0.map Ze.c))]] []=some (.agg [.own 0],[.arr Zhg 3 true (x0.map Ze.c)]):=by
 refine run Zy7 rfl ?_
 simp [Zqw,Z0v _ h0]
theorem c_eqPlan (x0:List Ze) (y0:List Ze) (h0:SmA x0):C Zsl [.agg [.t (.lst 3 (x0.map Ze.c))],.agg [.t (.lst 3 (y0.map Ze.c))]] []=some (Bo (decide (x0=y0)),[]):=by
 refine run Zzb rfl ?_
 simp [Zq1,Z0x _ _ h0]
 repeat' split
 all_goals first | (simp_all;done) | grind
theorem c_szPlan (x0:List Ze) (left:Int) :C Zsd [.agg [.t (.lst 3 (x0.map Ze.c))],I left] []=some (I (Plan.sz ⟨x0⟩ left),[]):=by
 refine run Zy3 rfl ?_
 simp [Zqs,Z0y,Plan.sz,andSz,sz1]
 repeat' split
 all_goals first | (simp_all;done) | grind
theorem c_toKept (x0:Int) (x1:Int) :C Zsy [.agg [I x0,I x1]] []=some (.agg [I x0,I x1],[]):=by
 refine run Zzo rfl ?_
 simp [Zre]
theorem c_eqKept (x0:Int) (x1:Int) (y0:Int) (y1:Int) :C Zs2 [.agg [I x0,I x1],.agg [I y0,I y1]] []=some (Bo (decide (x0=y0∧x1=y1)),[]):=by
 refine run Zzs rfl ?_
 simp [Zrg]
 repeat' split
 all_goals first | (simp_all;done) | grind
theorem Z0z (xs:List Kept) (h:SmA xs) (fr:List Fr):∀ i,i≤xs.length→EvL C fr [0,3,4] Zib ⟨[(0,L 2 (xs.map Kept.c)),(3,.own 0),(4,I i)],[[]],[.arr Zi2 2 true (fill Kept.c [.int .i64 0,.int .i64 0] xs i)]⟩ =
  EvX C fr (.x 0) ⟨[(0,L 2 (xs.map Kept.c)),(3,.own 0),(4,I xs.length),(11,Bo false)],[[]],[.arr Zi2 2 true (xs.map Kept.c)]⟩:=by
 have hl:xs.length≤4294967296:=h
 refine down xs.length ?_ ?_
 ·rw [EvL_eq Zib.eq_1]
  simp [fill_all]
 ·intro i hi ih
  rw [EvL_eq Zib.eq_1,← ih]
  have h1:=fill_set (f:=Kept.c) (z:=[.int .i64 0,.int .i64 0]) hi
  have h3:=fill_len (f:=Kept.c) (z:=[.int .i64 0,.int .i64 0]) (Nat.le_of_lt hi)
  have h4:IntKind.wrap .i64 ((i:Int)+1)=(i:Int)+1:=wrap64 (by omega) (by omega)
  simp at h1
  simp [hi,c_toKept,h3,h4,h1]
theorem Z00 (xs:List Kept) (h:SmA xs):C Zsi [L 2 (xs.map Kept.c)] []=some (.own 0,[.arr Zi2 2 true (xs.map Kept.c)]):=by
 refine run Zy8 rfl ?_
 have hl:xs.length≤4294967296:=h
 have h1:∀ b,b≤4096→xs.length*b≤room:=fun b hb=>Nat.le_trans (Nat.mul_le_mul hl hb) (by decide)
 have h2:(xs.length:Int)≤140737488355328:=by omega
 have h3:=fun fr=>Z0z xs h fr 0 (Nat.zero_le _)
 simp [fill_zero] at h3
 simp [Zqx,h1,h2,h3]
theorem Z01 (xs ys:List Kept) (h:SmA xs) (hl:ys.length=xs.length) (fr:List Fr):∀ i,i≤xs.length→EvL C fr [0,1,5] Zid ⟨[(0,L 2 (xs.map Kept.c)),(1,L 2 (ys.map Kept.c)),(5,I i)],[[]],[]⟩ =
  if xs.drop i=ys.drop i then EvX C fr (.x 0) ⟨[(0,L 2 (xs.map Kept.c)),(1,L 2 (ys.map Kept.c)),(5,I xs.length),(14,Bo false)],[[]],[]⟩ else EvX C fr .r ⟨[(4,Bo false)],[[]],[]⟩:=by
 have hm:xs.length≤4294967296:=h
 refine down xs.length ?_ ?_
 ·rw [EvL_eq Zid.eq_1]
  simp [hl,List.drop_eq_nil_of_le]
 ·intro i hi ih
  have hi2:i<ys.length:=by omega
  have h4:IntKind.wrap .i64 ((i:Int)+1)=(i:Int)+1:=wrap64 (by omega) (by omega)
  rw [EvL_eq Zid.eq_1]
  simp +decide [hi,hi2,c_eqKept _ _ _ _ ,h4]
  simp at ih
  simp only [drop_eq_iff hi hi2,ih,Kept.ext_iff]
  split <;> first | (simp_all;done) | grind
theorem Z02 (xs ys:List Kept) (h:SmA xs):C Zsm [L 2 (xs.map Kept.c),L 2 (ys.map Kept.c)] []=some (Bo (decide (xs=ys)),[]):=by
 refine run Zzc rfl ?_
 by_cases hl:ys.length=xs.length
 ·have h3:=fun fr=>Z01 xs ys h hl fr 0 (Nat.zero_le _)
  simp at h3
  simp [Zlo,h3,hl]
  split <;> simp_all
 ·have h1:xs≠ys:=fun h=>hl (by rw [h])
  have h2:¬ ((xs.length:Int)=ys.length):=by omega
  simp [Zlo,h1,h2]
@[simp] theorem Z03 (es:List (List T)) (left:Int):C Zse [L 2 es,I left] []=some (I (sz1 es.length left),[]):=by
 refine run Zy4 rfl ?_
 simp [Zqt,sz1]
 split <;> simp_all
end Go.Proofs.YtbapkgocloaaeaaGreat
/- part: MP -/
namespace Go.Proofs.YtbapkgocloaaeaaGreat
open Go.AM
def mkL {α:Type} (f:α→Int→α) (n:α→Nat):List α→Int→List α
 | [],_=>[]
 | x::xs,k=>f x k::mkL f n xs (k+(n x:Int))
def cnL {α:Type} (n:α→Nat):List α→Nat
 | []=>0
 | x::xs=>n x+cnL n xs
def mkI (xs:List Int) (k:Int):List Int:=mkL (fun _ k=>k) (fun _=>1) xs k
theorem Zrx (x:Int) (xs:List Int) (k:Int):mkI (x::xs) k=k::mkI xs (k+1):=rfl
theorem Z04 (e:Nat) (fr:List Fr):∀ (xs d:List Int) (k:Int),0≤k→k+(xs.length:Int)≤4611686018427387904→d.length+xs.length≤4294967296→EvL C fr [0,1,5] Zfg ⟨[(0,.own 0),(1,I k),(5,I d.length)],[[(0,.own 0)]],[.xarr e 1 ((d++xs).map ic)]⟩ =
  EvX C fr (.x 0) ⟨[(0,.own 0),(1,I (k+xs.length)),(5,I (d.length+xs.length)),(9,Bo false)],[[(0,.own 0)]],[.xarr e 1 ((d++mkI xs k).map ic)]⟩:=by
 intro xs
 induction xs with
 | nil =>
  intro d k h1 h2 h3
  rw [EvL_eq Zfg.eq_1]
  simp [mkI,mkL]
 | cons x xs ih =>
  intro d k h1 h2 h3
  simp only [List.length_cons] at h2 h3
  have ih':=ih (d++[k]) (k+1) (by omega) (by omega) (by simp;omega)
  rw [EvL_eq Zfg.eq_1]
  have g1:IntKind.wrap .i64 ((d.length:Int)+1)=(d.length:Int)+1:=wrap64 (by omega) (by omega)
  have g2:IntKind.wrap .i64 (k+1)=k+1:=wrap64 (by omega) (by omega)
  have g3:(d.length:Int)<(d.length:Int)+((xs.length:Int)+1):=by omega
  have g4:k+1+(xs.length:Int)=k+((xs.length:Int)+1):=by omega
  have g5:(d.length:Int)+1+(xs.length:Int)=(d.length:Int)+((xs.length:Int)+1):=by omega
  simp [g4,g5] at ih'
  simp [g1,g2,g3,ih',Zrx]
theorem Zry (e:Nat) (xs:List Int) (k:Int) (h1:0≤k) (h2:k+(xs.length:Int)≤4611686018427387904) (h3:SmA xs):C Zfo [.own 0,I k] [.xarr e 1 (xs.map ic)]=some (I (k+xs.length),[.xarr e 1 ((mkI xs k).map ic)]):=by
 refine runM Zlp rfl ?_
 have h4:=fun fr=>Z04 e fr xs [] k h1 h2 (by have:xs.length≤4294967296:=h3;simp;omega)
 simp at h4
 simp [Zif,h4]
theorem Z05 (n:Nat) (k:Int):C Zfo [.t (.lst n []),I k] []=some (I k,[]):=by
 refine run Zlp rfl ?_
 simp [Zif,EvL_eq Zfg.eq_1]
theorem Z06 (k:Int):C Zfo [.t .nil,I k] []=some (I k,[]):=by
 refine run Zlp rfl ?_
 simp [Zif,EvL_eq Zfg.eq_1]
theorem Z07 (fr:List Fr):∀ (xs d:List Int) (k:Int),0≤k→k+(xs.length:Int)≤4611686018427387904→d.length+xs.length≤4294967296→EvL C fr [0,1,5] Zgy ⟨[(0,L 1 ((d++mkI xs k).map ic)),(1,I k),(5,I d.length)],[[]],[]⟩ =
  EvX C fr (.x 0) ⟨[(0,L 1 ((d++mkI xs k).map ic)),(1,I (k+xs.length)),(5,I (d.length+xs.length)),(9,Bo false)],[[]],[]⟩:=by
 intro xs
 induction xs with
 | nil =>
  intro d k h1 h2 h3
  rw [EvL_eq Zgy.eq_1]
  simp [mkI,mkL]
 | cons x xs ih =>
  intro d k h1 h2 h3
  simp only [List.length_cons] at h2 h3
  have ih':=ih (d++[k]) (k+1) (by omega) (by omega) (by simp;omega)
  rw [EvL_eq Zgy.eq_1]
  have g1:IntKind.wrap .i64 ((d.length:Int)+1)=(d.length:Int)+1:=wrap64 (by omega) (by omega)
  have g2:IntKind.wrap .i64 (k+1)=k+1:=wrap64 (by omega) (by omega)
  have g3:(d.length:Int)<(d.length:Int)+(((mkI xs (k+1)).length:Int)+1):=by omega
  have g4:k+1+(xs.length:Int)=k+((xs.length:Int)+1):=by omega
  have g5:(d.length:Int)+1+(xs.length:Int)=(d.length:Int)+((xs.length:Int)+1):=by omega
  simp [g4,g5] at ih'
  simp [g1,g2,g3,ih',Zrx]
end Go.Proofs.YtbapkgocloaaeaaGreat
/- part: MQ -/
namespace Go.Proofs.YtbapkgocloaaeaaGreat
open Go.AM
theorem strB_one (x:Int):(strB [x]).size=1:=by simp [strB];rfl
theorem Z08 (fr:List Fr):∀ (n:Nat) (k:Int) (out:ByteArray),k.toNat≤n→(out.size:Int)+k≤4611686018427387904→0≤k→∃ s,s.size≤out.size+n∧EvL C fr [0,3] Zgz ⟨[(0,I k),(3,.t (.str out))],[[]],[]⟩=EvX C fr (.x 0) ⟨[(0,I 0),(3,.t (.str s)),(7,Bo false)],[[]],[]⟩:=by
 intro n
 induction n with
 | zero =>
  intro k out h1 h2 h3
  have:k=0:=by omega
  subst this
  rw [EvL_eq Zgz.eq_1]
  exact ⟨out,by simp⟩
 | succ n ih =>
  intro k out h1 h2 h3
  by_cases h0:k=0
  ·subst h0
   rw [EvL_eq Zgz.eq_1]
   exact ⟨out,by simp⟩
  have hk:0<k:=by omega
  have e:k.tdiv 10=k / 10:=Int.tdiv_eq_ediv_of_nonneg h3
  have e2:IntKind.wrap .i64 (k / 10)=k / 10:=wrap64 (by omega) (by omega)
  generalize hx:IntKind.wrap .u8 (IntKind.wrap .i64 (48+k.tmod 10))=x
  have s1:=strB_one x
  have c:1+out.size≤9223372036854775807:=by omega
  obtain ⟨s,hs,hr⟩:=ih (k / 10) (strB [x]++out) (by omega) (by rw [ByteArray.size_append,s1];omega) (by omega)
  rw [ByteArray.size_append,s1] at hs
  refine ⟨s,by omega,?_⟩
  rw [EvL_eq Zgz.eq_1]
  simp [hk,hx,s1,c,e,e2,hr]
theorem Z09 (k:Int) (h1:0≤k) (h2:k≤4000000000000000000):∃ s,C Zi1 [I k] []=some (.t (.str s),[]):=by
 by_cases h0:k=0
 ·subst h0
  refine ⟨⟨#[109,48]⟩,run Zrt rfl ?_⟩
  simp [Zlu]
 ·have h3:¬ k≤0:=by omega
  obtain ⟨s,hs,hr⟩:=Z08 [.blk 0,.seq (.seq (.reg [⟨some 18,none,.mov (.s 3)⟩,⟨some 19,none,.bin .add (.c (.t (.str ⟨#[109]⟩))) (.s 18)⟩,⟨some 2,none,.mov (.s 19)⟩] [2]) .ret),.fin 0 [.tmp 2]] k.toNat k ⟨#[]⟩ (Nat.le_refl _) (by simp [ByteArray.size];omega) h1
  have c:(⟨#[109]⟩:ByteArray).size+s.size≤9223372036854775807:=by
   have:(⟨#[]⟩:ByteArray).size=0:=rfl
   have:(⟨#[109]⟩:ByteArray).size=1:=rfl
   omega
  refine ⟨⟨#[109]⟩++s,run Zrt rfl ?_⟩
  simp at hr
  simp [Zlu,h3,hr,c]
noncomputable def mtext (k:Int):ByteArray:=match C Zi1 [I k] [] with
 | some (.t (.str s),[])=>s
 | _=>⟨#[]⟩
theorem Z1a (k:Int) (h1:0≤k) (h2:k≤4000000000000000000):C Zi1 [I k] []=some (.t (.str (mtext k)),[]):=by
 obtain ⟨s,h⟩:=Z09 k h1 h2
 have:mtext k=s:=by unfold mtext;rw [h]
 rw [this,h]
end Go.Proofs.YtbapkgocloaaeaaGreat
/- part: MR -/
namespace Go.Proofs.YtbapkgocloaaeaaGreat
open Go.AM
theorem Z1b (xs:List Int) (k:Int) (h1:0≤k) (h2:k+(xs.length:Int)≤4000000000000000000) (h3:SmA xs):C Zmk [L 1 ((mkI xs k).map ic),I k] []=some (I (k+xs.length),[]):=by
 refine run Zq6 rfl ?_
 have h4:=fun fr=>Z07 fr xs [] k h1 (by omega) (by have:xs.length≤4294967296:=h3;simp;omega)
 simp at h4
 simp [Zlq,h4]
theorem Z1c (k:Int):C Zmk [.t .nil,I k] []=some (I k,[]):=by
 refine run Zq6 rfl ?_
 simp [Zlq,EvL_eq Zgy.eq_1]
theorem Z1d (xs:List Int) (k:Int) (h1:0≤k) (h2:k+(xs.length:Int)≤4000000000000000000) (h3:SmA xs):(xs.map ic=[]∧(mkI xs (k)).map ic=[]∧C Zfo [.t (.lst 1 []),I k] []=some (I (k+(xs.length:Int)),[]))∨∃ y ys,xs.map ic=y::ys∧True∧C Zfo [.own 0,I k] [.xarr unk 1 (y::ys)]=some (I (k+(xs.length:Int)),[.xarr unk 1 ((mkI xs (k)).map ic)]):=by
 have c:=Zry unk xs k h1 (by omega) h3
 cases xs with
 | nil=>exact .inl ⟨rfl,rfl,by have:=Z05 1 k;simpa [mkI,mkL] using this⟩
 | cons y ys=>exact .inr ⟨_,_,rfl,trivial,c⟩
noncomputable def Zg2 (a:Atom) (k:Int):Atom:=⟨mtext (k),mkI a.Vars (k+1)⟩
def Zb6 (a:Atom):Nat:=1+a.Vars.length
noncomputable def Zfh (xs:List Atom) (k:Int):List Atom:=mkL Zg2 Zb6 xs k
def Z4 (xs:List Atom):Nat:=cnL Zb6 xs
theorem Z1e (x:Atom) (xs:List Atom) (k:Int):Zfh (x::xs) k=Zg2 x k::Zfh xs (k+(Zb6 x:Int)):=rfl
theorem Z1f (e:Nat) (fr:List Fr):∀ (xs d:List Atom) (k:Int),0≤k→k+(Z4 xs:Int)≤4000000000000000000→d.length+xs.length≤4294967296→(∀ x∈xs,x.small)→EvL C fr [0,1,5] Zil ⟨[(0,.own 0),(1,I k),(5,I d.length)],[[(0,.own 0)]],[.xarr e 2 ((d++xs).map Atom.c)]⟩ =
  EvX C fr (.x 0) ⟨[(0,.own 0),(1,I (k+Z4 xs)),(5,I (d.length+xs.length)),(9,Bo false)],[[(0,.own 0)]],[.xarr e 2 ((d++Zfh xs k).map Atom.c)]⟩:=by
 intro xs
 induction xs with
 | nil =>
  intro d k h1 h2 h3 h4
  rw [EvL_eq Zil.eq_1]
  simp [Zfh,Z4,cnL,mkL]
 | cons x xs ih =>
  intro d k h1 h2 h3 h4
  have hx:=h4 x (by simp)
  have e0:Z4 (x::xs)=Zb6 x+Z4 xs:=rfl
  rw [e0] at h2
  simp only [List.length_cons] at h3
  rcases x with ⟨x0,x1⟩
  have e1:Zb6 ⟨x0,x1⟩=1+x1.length:=rfl
  have eK:k+(Zb6 ⟨x0,x1⟩:Int)=k+1+(x1.length:Int):=by omega
  have eL:k+(Z4 (⟨x0,x1⟩::xs):Int)=k+1+(x1.length:Int)+(Z4 xs:Int):=by omega
  have ih':=ih (d++[Zg2 ⟨x0,x1⟩ k]) (k+1+(x1.length:Int)) (by omega) (by omega) (by simp;omega) (fun y hy=>h4 y (by simp [hy]))
  rw [EvL_eq Zil.eq_1,eL,Z1e,eK]
  have g1:IntKind.wrap .i64 ((d.length:Int)+1)=(d.length:Int)+1:=wrap64 (by omega) (by omega)
  have g3:(d.length:Int)<(d.length:Int)+((xs.length:Int)+1):=by omega
  have g5:(d.length:Int)+1+(xs.length:Int)=(d.length:Int)+((xs.length:Int)+1):=by omega
  have w0:IntKind.wrap .i64 (k+1)=k+1:=wrap64 (by omega) (by omega)
  have t0:=Z1a (k) (by omega) (by omega)
  have m0:=Z1d x1 (k+1) (by omega) (by omega) (by first | exact hx | exact hx.1 | exact hx.2 | exact hx.2.1 | exact hx.2.2 | exact hx.2.2.1 | exact hx.2.2.2 | exact hx.2.2.2.1 | exact hx.2.2.2.2 | exact hx.2.2.2.2.1 | exact hx.2.2.2.2.2)
  rcases m0 with ⟨r0,s0,m0⟩ | ⟨y0,ys0,r0,s0,m0⟩
  all_goals (simp [g5,Zg2,tI,r0,s0] at ih';simp [g1,g3,w0,t0,m0,r0,s0,ih',Zg2,tI])
theorem Z1g (e:Nat) (xs:List Atom) (k:Int) (h1:0≤k) (h2:k+(Z4 xs:Int)≤4000000000000000000) (h3:SmL Atom.small xs):C Zs4 [.own 0,I k] [.xarr e 2 (xs.map Atom.c)]=some (I (k+Z4 xs),[.xarr e 2 ((Zfh xs k).map Atom.c)]):=by
 refine runM Zzu rfl ?_
 have h4:=fun fr=>Z1f e fr xs [] k h1 h2 (by have:xs.length≤4294967296:=h3.1;simp;omega) h3.2
 simp at h4
 simp [Zri,h4]
noncomputable def Zg3 (a:Zb) (k:Int):Zb:=⟨k,k+1⟩
def Zfi (a:Zb):Nat:=1+1
noncomputable def Zb7 (xs:List Zb) (k:Int):List Zb:=mkL Zg3 Zfi xs k
def Zh (xs:List Zb):Nat:=cnL Zfi xs
theorem Z1h (x:Zb) (xs:List Zb) (k:Int):Zb7 (x::xs) k=Zg3 x k::Zb7 xs (k+(Zfi x:Int)):=rfl
theorem Z1i (e:Nat) (fr:List Fr):∀ (xs d:List Zb) (k:Int),0≤k→k+(Zh xs:Int)≤4000000000000000000→d.length+xs.length≤4294967296→(∀ x∈xs,x.small)→EvL C fr [0,1,5] Zip ⟨[(0,.own 0),(1,I k),(5,I d.length)],[[(0,.own 0)]],[.xarr e 2 ((d++xs).map Zb.c)]⟩ =
  EvX C fr (.x 0) ⟨[(0,.own 0),(1,I (k+Zh xs)),(5,I (d.length+xs.length)),(9,Bo false)],[[(0,.own 0)]],[.xarr e 2 ((d++Zb7 xs k).map Zb.c)]⟩:=by
 intro xs
 induction xs with
 | nil =>
  intro d k h1 h2 h3 h4
  rw [EvL_eq Zip.eq_1]
  simp [Zb7,Zh,cnL,mkL]
 | cons x xs ih =>
  intro d k h1 h2 h3 h4
  have hx:=h4 x (by simp)
  have e0:Zh (x::xs)=Zfi x+Zh xs:=rfl
  rw [e0] at h2
  simp only [List.length_cons] at h3
  rcases x with ⟨x0,x1⟩
  have e1:Zfi ⟨x0,x1⟩=1+1:=rfl
  have eK:k+(Zfi ⟨x0,x1⟩:Int)=k+1+1:=by omega
  have eL:k+(Zh (⟨x0,x1⟩::xs):Int)=k+1+1+(Zh xs:Int):=by omega
  have ih':=ih (d++[Zg3 ⟨x0,x1⟩ k]) (k+1+1) (by omega) (by omega) (by simp;omega) (fun y hy=>h4 y (by simp [hy]))
  rw [EvL_eq Zip.eq_1,eL,Z1h,eK]
  have g1:IntKind.wrap .i64 ((d.length:Int)+1)=(d.length:Int)+1:=wrap64 (by omega) (by omega)
  have g3:(d.length:Int)<(d.length:Int)+((xs.length:Int)+1):=by omega
  have g5:(d.length:Int)+1+(xs.length:Int)=(d.length:Int)+((xs.length:Int)+1):=by omega
  have w0:IntKind.wrap .i64 (k+1)=k+1:=wrap64 (by omega) (by omega)
  have w1:IntKind.wrap .i64 (k+1+1)=k+1+1:=wrap64 (by omega) (by omega)
  (simp [g5,Zg3,tI] at ih';simp [g1,g3,w0,w1,ih',Zg3,tI])
theorem Z1j (e:Nat) (xs:List Zb) (k:Int) (h1:0≤k) (h2:k+(Zh xs:Int)≤4000000000000000000) (h3:SmA xs):C Ztf [.own 0,I k] [.xarr e 2 (xs.map Zb.c)]=some (I (k+Zh xs),[.xarr e 2 ((Zb7 xs k).map Zb.c)]):=by
 refine runM Zz5 rfl ?_
 have h4:=fun fr=>Z1i e fr xs [] k h1 h2 (by have:xs.length≤4294967296:=h3;simp;omega) (fun _ _=>trivial)
 simp at h4
 simp [Zrs,h4]
noncomputable def Zg4 (a:Kept) (k:Int):Kept:=⟨k,k+1⟩
def Zfj (a:Kept):Nat:=1+1
noncomputable def Zg5 (xs:List Kept) (k:Int):List Kept:=mkL Zg4 Zfj xs k
def Zb8 (xs:List Kept):Nat:=cnL Zfj xs
theorem Z1k (x:Kept) (xs:List Kept) (k:Int):Zg5 (x::xs) k=Zg4 x k::Zg5 xs (k+(Zfj x:Int)):=rfl
theorem Z1l (e:Nat) (fr:List Fr):∀ (xs d:List Kept) (k:Int),0≤k→k+(Zb8 xs:Int)≤4000000000000000000→d.length+xs.length≤4294967296→(∀ x∈xs,x.small)→EvL C fr [0,1,5] Zie ⟨[(0,.own 0),(1,I k),(5,I d.length)],[[(0,.own 0)]],[.xarr e 2 ((d++xs).map Kept.c)]⟩ =
  EvX C fr (.x 0) ⟨[(0,.own 0),(1,I (k+Zb8 xs)),(5,I (d.length+xs.length)),(9,Bo false)],[[(0,.own 0)]],[.xarr e 2 ((d++Zg5 xs k).map Kept.c)]⟩:=by
 intro xs
 induction xs with
 | nil =>
  intro d k h1 h2 h3 h4
  rw [EvL_eq Zie.eq_1]
  simp [Zg5,Zb8,cnL,mkL]
 | cons x xs ih =>
  intro d k h1 h2 h3 h4
  have hx:=h4 x (by simp)
  have e0:Zb8 (x::xs)=Zfj x+Zb8 xs:=rfl
  rw [e0] at h2
  simp only [List.length_cons] at h3
  rcases x with ⟨x0,x1⟩
  have e1:Zfj ⟨x0,x1⟩=1+1:=rfl
  have eK:k+(Zfj ⟨x0,x1⟩:Int)=k+1+1:=by omega
  have eL:k+(Zb8 (⟨x0,x1⟩::xs):Int)=k+1+1+(Zb8 xs:Int):=by omega
  have ih':=ih (d++[Zg4 ⟨x0,x1⟩ k]) (k+1+1) (by omega) (by omega) (by simp;omega) (fun y hy=>h4 y (by simp [hy]))
  rw [EvL_eq Zie.eq_1,eL,Z1k,eK]
  have g1:IntKind.wrap .i64 ((d.length:Int)+1)=(d.length:Int)+1:=wrap64 (by omega) (by omega)
  have g3:(d.length:Int)<(d.length:Int)+((xs.length:Int)+1):=by omega
  have g5:(d.length:Int)+1+(xs.length:Int)=(d.length:Int)+((xs.length:Int)+1):=by omega
  have w0:IntKind.wrap .i64 (k+1)=k+1:=wrap64 (by omega) (by omega)
  have w1:IntKind.wrap .i64 (k+1+1)=k+1+1:=wrap64 (by omega) (by omega)
  (simp [g5,Zg4,tI] at ih';simp [g1,g3,w0,w1,ih',Zg4,tI])
theorem Z1m (e:Nat) (xs:List Kept) (k:Int) (h1:0≤k) (h2:k+(Zb8 xs:Int)≤4000000000000000000) (h3:SmA xs):C Zsq [.own 0,I k] [.xarr e 2 (xs.map Kept.c)]=some (I (k+Zb8 xs),[.xarr e 2 ((Zg5 xs k).map Kept.c)]):=by
 refine runM Zzg rfl ?_
 have h4:=fun fr=>Z1l e fr xs [] k h1 h2 (by have:xs.length≤4294967296:=h3;simp;omega) (fun _ _=>trivial)
 simp at h4
 simp [Zq5,h4]
noncomputable def Zg6 (a:Ze) (k:Int):Ze:=⟨k,k+1,k+1+1⟩
def Zfk (a:Ze):Nat:=1+1+1
noncomputable def Zfl (xs:List Ze) (k:Int):List Ze:=mkL Zg6 Zfk xs k
def Z5 (xs:List Ze):Nat:=cnL Zfk xs
theorem Z1n (x:Ze) (xs:List Ze) (k:Int):Zfl (x::xs) k=Zg6 x k::Zfl xs (k+(Zfk x:Int)):=rfl
theorem Z1o (e:Nat) (fr:List Fr):∀ (xs d:List Ze) (k:Int),0≤k→k+(Z5 xs:Int)≤4000000000000000000→d.length+xs.length≤4294967296→(∀ x∈xs,x.small)→EvL C fr [0,1,5] Zim ⟨[(0,.own 0),(1,I k),(5,I d.length)],[[(0,.own 0)]],[.xarr e 3 ((d++xs).map Ze.c)]⟩ =
  EvX C fr (.x 0) ⟨[(0,.own 0),(1,I (k+Z5 xs)),(5,I (d.length+xs.length)),(9,Bo false)],[[(0,.own 0)]],[.xarr e 3 ((d++Zfl xs k).map Ze.c)]⟩:=by
 intro xs
 induction xs with
 | nil =>
  intro d k h1 h2 h3 h4
  rw [EvL_eq Zim.eq_1]
  simp [Zfl,Z5,cnL,mkL]
 | cons x xs ih =>
  intro d k h1 h2 h3 h4
  have hx:=h4 x (by simp)
  have e0:Z5 (x::xs)=Zfk x+Z5 xs:=rfl
  rw [e0] at h2
  simp only [List.length_cons] at h3
  rcases x with ⟨x0,x1,x2⟩
  have e1:Zfk ⟨x0,x1,x2⟩=1+1+1:=rfl
  have eK:k+(Zfk ⟨x0,x1,x2⟩:Int)=k+1+1+1:=by omega
  have eL:k+(Z5 (⟨x0,x1,x2⟩::xs):Int)=k+1+1+1+(Z5 xs:Int):=by omega
  have ih':=ih (d++[Zg6 ⟨x0,x1,x2⟩ k]) (k+1+1+1) (by omega) (by omega) (by simp;omega) (fun y hy=>h4 y (by simp [hy]))
  rw [EvL_eq Zim.eq_1,eL,Z1n,eK]
  have g1:IntKind.wrap .i64 ((d.length:Int)+1)=(d.length:Int)+1:=wrap64 (by omega) (by omega)
  have g3:(d.length:Int)<(d.length:Int)+((xs.length:Int)+1):=by omega
  have g5:(d.length:Int)+1+(xs.length:Int)=(d.length:Int)+((xs.length:Int)+1):=by omega
  have w0:IntKind.wrap .i64 (k+1)=k+1:=wrap64 (by omega) (by omega)
  have w1:IntKind.wrap .i64 (k+1+1)=k+1+1:=wrap64 (by omega) (by omega)
  have w2:IntKind.wrap .i64 (k+1+1+1)=k+1+1+1:=wrap64 (by omega) (by omega)
  (simp [g5,Zg6,tI] at ih';simp [g1,g3,w0,w1,w2,ih',Zg6,tI])
theorem Z1p (e:Nat) (xs:List Ze) (k:Int) (h1:0≤k) (h2:k+(Z5 xs:Int)≤4000000000000000000) (h3:SmA xs):C Zs5 [.own 0,I k] [.xarr e 3 (xs.map Ze.c)]=some (I (k+Z5 xs),[.xarr e 3 ((Zfl xs k).map Ze.c)]):=by
 refine runM Zzv rfl ?_
 have h4:=fun fr=>Z1o e fr xs [] k h1 h2 (by have:xs.length≤4294967296:=h3;simp;omega) (fun _ _=>trivial)
 simp at h4
 simp [Zrj,h4]
theorem Zg7 (e0:Nat) (x0:Int) (x1:Int) (x2:Int) (x3:Int) (x4:Int) (x5:List Zb) (k:Int) (h1:0≤k) (h2:k+(Zh x5:Int)≤4000000000000000000) (sx5:SmA x5):C Zs3 [.agg [I x0,I x1,I x2,I x3,I x4,.own 0],I k] [.xarr e0 2 (x5.map Zb.c)]=some (I (k+(Zh x5:Int)),[.xarr e0 2 ((Zb7 x5 (k)).map Zb.c)]):=by
 refine runM Zzt rfl ?_
 have m0:=Z1j e0 x5 (k) (by omega) (by omega) sx5
 simp [Zrh,m0]
theorem Z1q (e0 e1 e2 e3 e4:Nat) (x0:Int) (x1:Int) (x2:Int) (x3:Int) (x4:Int) (x5:List Zb) (x6:Int) (x7:Int) (x8:Int) (x9:Int) (x10:Int) (x11:List Zb) (x12:Int) (x13:Int) (x14:Int) (x15:Int) (x16:Int) (x17:List Zb) (x18:Int) (x19:Int) (x20:Int) (x21:Int) (x22:Int) (x23:List Zb) (x24:Int) (x25:Int) (x26:Int) (x27:Int) (x28:Int) (x29:List Zb) (k:Int) (h1:0≤k) (h2:k+(Zh x5:Int)+(Zh x11:Int)+(Zh x17:Int)+(Zh x23:Int)+(Zh x29:Int)≤4000000000000000000) (sx5:SmA x5) (sx11:SmA x11) (sx17:SmA x17) (sx23:SmA x23) (sx29:SmA x29):C Zsn [.agg [I x0,I x1,I x2,I x3,I x4,.own 0,I x6,I x7,I x8,I x9,I x10,.own 1,I x12,I x13,I x14,I x15,I x16,.own 2,I x18,I x19,I x20,I x21,I x22,.own 3,I x24,I x25,I x26,I x27,I x28,.own 4],I k] [.xarr e0 2 (x5.map Zb.c),.xarr e1 2 (x11.map Zb.c),.xarr e2 2 (x17.map Zb.c),.xarr e3 2 (x23.map Zb.c),.xarr e4 2 (x29.map Zb.c)]=some (I (k+(Zh x5:Int)+(Zh x11:Int)+(Zh x17:Int)+(Zh x23:Int)+(Zh x29:Int)),[.xarr e0 2 ((Zb7 x5 (k)).map Zb.c),.xarr e1 2 ((Zb7 x11 (k+(Zh x5:Int))).map Zb.c),.xarr e2 2 ((Zb7 x17 (k+(Zh x5:Int)+(Zh x11:Int))).map Zb.c),.xarr e3 2 ((Zb7 x23 (k+(Zh x5:Int)+(Zh x11:Int)+(Zh x17:Int))).map Zb.c),.xarr e4 2 ((Zb7 x29 (k+(Zh x5:Int)+(Zh x11:Int)+(Zh x17:Int)+(Zh x23:Int))).map Zb.c)]):=by
 refine runM Zzd rfl ?_
 have m0:=Zg7 e0 x0 x1 x2 x3 x4 x5 (k) (by omega) (by omega) sx5
 have m1:=Zg7 e1 x6 x7 x8 x9 x10 x11 (k+(Zh x5:Int)) (by omega) (by omega) sx11
 have m2:=Zg7 e2 x12 x13 x14 x15 x16 x17 (k+(Zh x5:Int)+(Zh x11:Int)) (by omega) (by omega) sx17
 have m3:=Zg7 e3 x18 x19 x20 x21 x22 x23 (k+(Zh x5:Int)+(Zh x11:Int)+(Zh x17:Int)) (by omega) (by omega) sx23
 have m4:=Zg7 e4 x24 x25 x26 x27 x28 x29 (k+(Zh x5:Int)+(Zh x11:Int)+(Zh x17:Int)+(Zh x23:Int)) (by omega) (by omega) sx29
 simp [Zq2,m0,m1,m2,m3,m4]
theorem Z1r (e0:Nat) (x0:List Ze) (k:Int) (h1:0≤k) (h2:k+(Z5 x0:Int)≤4000000000000000000) (sx0:SmA x0):C Zsp [.agg [.own 0],I k] [.xarr e0 3 (x0.map Ze.c)]=some (I (k+(Z5 x0:Int)),[.xarr e0 3 ((Zfl x0 (k)).map Ze.c)]):=by
 refine runM Zzf rfl ?_
 have m0:=Z1p e0 x0 (k) (by omega) (by omega) sx0
 simp [Zq4,m0]
theorem Z1s (e0:Nat) (x0:Int) (x1:List Atom) (k:Int) (h1:0≤k) (h2:k+(Z4 x1:Int)≤4000000000000000000) (sx1:SmL Atom.small x1):C Zso [.agg [I x0,.own 0],I k] [.xarr e0 2 (x1.map Atom.c)]=some (I (k+(Z4 x1:Int)),[.xarr e0 2 ((Zfh x1 (k)).map Atom.c)]):=by
 refine runM Zze rfl ?_
 have m0:=Z1g e0 x1 (k) (by omega) (by omega) sx1
 simp [Zq3,m0]
theorem Zez {n:Nat} {left:Int} (hn:n≤maxLen) (h0:0≤left) (h1:left≤1048576) (h:0≤sz1 n left):sz1 n left≤left∧(n:Int)≤left - sz1 n left:=by
 unfold maxLen at hn
 have hw:IntKind.wrap .i64 (left - n)=left - n:=wrap64 (by omega) (by omega)
 unfold sz1 at h ⊢
 rw [hw] at h ⊢
 split at h
 ·omega
 ·rename_i hx;rw [if_neg hx];omega
theorem Zrz {α:Type} {f:α→Int→Int} {n:α→Nat} {M:Int}:∀ (xs:List α) (left:Int),(∀ x∈xs,∀ l,0≤l→l≤M→0≤f x l→f x l≤l∧(n x:Int)≤16+16*(l - f x l))→0≤left→left≤M→0≤szFold f xs left→szFold f xs left≤left∧(cnL n xs:Int)≤16*(xs.length:Int)+16*(left - szFold f xs left)
 | [],left,_,_,_,h=>by simp [szFold,cnL]
 | x::xs,left,hf,h0,h1,h=>by
  unfold szFold at h ⊢
  split at h
  ·omega
  ·rename_i hx
   rw [if_neg hx]
   obtain ⟨h2,h3⟩:=hf x (by simp) left h0 h1 (by omega)
   obtain ⟨h4,h5⟩:=Zrz xs (f x left) (fun y hy=>hf y (by simp [hy])) (by omega) (by omega) h
   have e:cnL n (x::xs)=n x+cnL n xs:=rfl
   rw [e,List.length_cons]
   omega
theorem szL_ct {α:Type} {f:α→Int→Int} {n:α→Nat} {xs:List α} {left:Int} (hn:xs.length≤maxLen) (hf:∀ x∈xs,∀ l,0≤l→l≤1048576→0≤f x l→f x l≤l∧(n x:Int)≤16+16*(l - f x l)) (h0:0≤left) (h1:left≤1048576) (h:0≤szL f xs left) :
  szL f xs left≤left∧(cnL n xs:Int)≤16*(left - szL f xs left):=by
 unfold szL andSz at h ⊢
 split at h
 ·omega
 ·rename_i hx
  rw [if_neg hx]
  have a:=Zez hn h0 h1 (by omega)
  have b:=Zrz xs _ hf (by omega) (by omega) h
  omega
theorem Ziq {α:Type} {n:α→Nat} {c:Nat} (h:∀ x,n x=c):∀ xs:List α,cnL n xs=c*xs.length
 | []=>rfl
 | x::xs=>by
  have e:cnL n (x::xs)=n x+cnL n xs:=rfl
  rw [e,h,Ziq h xs,List.length_cons,Nat.mul_succ,Nat.add_comm]
def Zlv (x:Atom):Nat:=x.Vars.length
theorem Atom.ct (x:Atom) (l:Int) (hx:x.okay) (h0:0≤l) (h1:l≤1048576) (h:0≤x.sz l):x.sz l≤l∧(Zlv x:Int)≤16*(l - x.sz l):=by
 unfold Atom.sz at h ⊢
 simp only [andSz] at h ⊢
 split at h
 ·omega
 rename_i q0
 rw [if_neg q0]
 have s0:=Zez hx.1 h0 h1 (Int.not_lt.1 q0)
 split at h
 ·omega
 rename_i q1
 rw [if_neg q1]
 have s1:=Zez hx.2.1 (by omega) (by omega) (Int.not_lt.1 q1)
 refine ⟨by omega,?_⟩
 unfold Zlv
 omega
theorem Z1t (x:Atom) (l:Int) (hx:x.okay) (h0:0≤l) (h1:l≤1048576) (h:0≤x.sz l):x.sz l≤l∧(Zb6 x:Int)≤16+16*(l - x.sz l):=by
 have a:=Atom.ct x l hx h0 h1 h
 unfold Zlv at a
 unfold Zb6
 omega
def Zir (x:Zd):Nat:=Z4 x.Atoms
theorem Zd.ct (x:Zd) (l:Int) (hx:x.okay) (h0:0≤l) (h1:l≤1048576) (h:0≤x.sz l):x.sz l≤l∧(Zir x:Int)≤16*(l - x.sz l):=by
 unfold Zd.sz at h ⊢
 simp only [andSz] at h ⊢
 split at h
 ·omega
 rename_i q0
 rw [if_neg q0]
 have s0:=szL_ct (n:=Zb6) hx.2.1 (fun y hy l a b c=>Z1t y l (hx.2.2 y hy) a b c) h0 h1 (Int.not_lt.1 q0)
 refine ⟨by omega,?_⟩
 unfold Zir
 have v0:Z4 x.Atoms=cnL Zb6 x.Atoms:=rfl
 omega
def nt_Box (x:Box):Nat:=x.Low.length+x.High.length
theorem Box.ct (x:Box) (l:Int) (hx:x.okay) (h0:0≤l) (h1:l≤1048576) (h:0≤x.sz l):x.sz l≤l∧(nt_Box x:Int)≤16*(l - x.sz l):=by
 unfold Box.sz at h ⊢
 simp only [andSz] at h ⊢
 split at h
 ·omega
 rename_i q0
 rw [if_neg q0]
 have s0:=Zez hx.1.1 h0 h1 (Int.not_lt.1 q0)
 split at h
 ·omega
 rename_i q1
 rw [if_neg q1]
 have s1:=Zez hx.2.1 (by omega) (by omega) (Int.not_lt.1 q1)
 refine ⟨by omega,?_⟩
 unfold nt_Box
 omega
theorem Zfm (xs:List Zb):Zh xs=2*xs.length:=Ziq (fun _=>rfl) xs
def Ze0 (x:Zc):Nat:=Zh x.Steps
theorem Zc.ct (x:Zc) (l:Int) (hx:x.okay) (h0:0≤l) (h1:l≤1048576) (h:0≤x.sz l):x.sz l≤l∧(Ze0 x:Int)≤16*(l - x.sz l):=by
 unfold Zc.sz at h ⊢
 simp only [andSz] at h ⊢
 split at h
 ·omega
 rename_i q0
 rw [if_neg q0]
 have s0:=Zez hx.2.2.2.2.2.1 h0 h1 (Int.not_lt.1 q0)
 refine ⟨by omega,?_⟩
 unfold Ze0
 have v0:=Zfm x.Steps
 omega
def Zlw (x:Zf):Nat:=Zh x.Scan.Steps+Zh x.Sort_.Steps+Zh x.Hash.Steps+Zh x.Merge.Steps+Zh x.Nested.Steps
theorem Zf.ct (x:Zf) (l:Int) (hx:x.okay) (h0:0≤l) (h1:l≤1048576) (h:0≤x.sz l):x.sz l≤l∧(Zlw x:Int)≤16*(l - x.sz l):=by
 unfold Zf.sz at h ⊢
 simp only [andSz] at h ⊢
 split at h
 ·omega
 rename_i q0
 rw [if_neg q0]
 have s0:=Zc.ct x.Scan _ ⟨hx.1,hx.2.1,hx.2.2.1,hx.2.2.2.1,hx.2.2.2.2.1,hx.2.2.2.2.2.1⟩ h0 h1 (Int.not_lt.1 q0)
 split at h
 ·omega
 rename_i q1
 rw [if_neg q1]
 have s1:=Zc.ct x.Sort_ _ ⟨hx.2.2.2.2.2.2.1,hx.2.2.2.2.2.2.2.1,hx.2.2.2.2.2.2.2.2.1,hx.2.2.2.2.2.2.2.2.2.1,hx.2.2.2.2.2.2.2.2.2.2.1,hx.2.2.2.2.2.2.2.2.2.2.2.1⟩ (by omega) (by omega) (Int.not_lt.1 q1)
 split at h
 ·omega
 rename_i q2
 rw [if_neg q2]
 have s2:=Zc.ct x.Hash _ ⟨hx.2.2.2.2.2.2.2.2.2.2.2.2.1,hx.2.2.2.2.2.2.2.2.2.2.2.2.2.1,hx.2.2.2.2.2.2.2.2.2.2.2.2.2.2.1,hx.2.2.2.2.2.2.2.2.2.2.2.2.2.2.2.1,hx.2.2.2.2.2.2.2.2.2.2.2.2.2.2.2.2.1,hx.2.2.2.2.2.2.2.2.2.2.2.2.2.2.2.2.2.1⟩ (by omega) (by omega) (Int.not_lt.1 q2)
 split at h
 ·omega
 rename_i q3
 rw [if_neg q3]
 have s3:=Zc.ct x.Merge _ ⟨hx.2.2.2.2.2.2.2.2.2.2.2.2.2.2.2.2.2.2.1,hx.2.2.2.2.2.2.2.2.2.2.2.2.2.2.2.2.2.2.2.1,hx.2.2.2.2.2.2.2.2.2.2.2.2.2.2.2.2.2.2.2.2.1,hx.2.2.2.2.2.2.2.2.2.2.2.2.2.2.2.2.2.2.2.2.2.1,hx.2.2.2.2.2.2.2.2.2.2.2.2.2.2.2.2.2.2.2.2.2.2.1,hx.2.2.2.2.2.2.2.2.2.2.2.2.2.2.2.2.2.2.2.2.2.2.2.1⟩ (by omega) (by omega) (Int.not_lt.1 q3)
 split at h
 ·omega
 rename_i q4
 rw [if_neg q4]
 have s4:=Zc.ct x.Nested _ ⟨hx.2.2.2.2.2.2.2.2.2.2.2.2.2.2.2.2.2.2.2.2.2.2.2.2.1,hx.2.2.2.2.2.2.2.2.2.2.2.2.2.2.2.2.2.2.2.2.2.2.2.2.2.1,hx.2.2.2.2.2.2.2.2.2.2.2.2.2.2.2.2.2.2.2.2.2.2.2.2.2.2.1,hx.2.2.2.2.2.2.2.2.2.2.2.2.2.2.2.2.2.2.2.2.2.2.2.2.2.2.2.1,hx.2.2.2.2.2.2.2.2.2.2.2.2.2.2.2.2.2.2.2.2.2.2.2.2.2.2.2.2.1,hx.2.2.2.2.2.2.2.2.2.2.2.2.2.2.2.2.2.2.2.2.2.2.2.2.2.2.2.2.2⟩ (by omega) (by omega) (Int.not_lt.1 q4)
 refine ⟨by omega,?_⟩
 unfold Zlw
 have v0:Ze0 x.Scan=Zh x.Scan.Steps:=rfl
 have v1:Ze0 x.Sort_=Zh x.Sort_.Steps:=rfl
 have v2:Ze0 x.Hash=Zh x.Hash.Steps:=rfl
 have v3:Ze0 x.Merge=Zh x.Merge.Steps:=rfl
 have v4:Ze0 x.Nested=Zh x.Nested.Steps:=rfl
 have v5:=Zfm x.Scan.Steps
 have v6:=Zfm x.Sort_.Steps
 have v7:=Zfm x.Hash.Steps
 have v8:=Zfm x.Merge.Steps
 have v9:=Zfm x.Nested.Steps
 omega
theorem Zlx (xs:List Ze):Z5 xs=3*xs.length:=Ziq (fun _=>rfl) xs
def Zis (x:Plan):Nat:=Z5 x.Steps
theorem Plan.ct (x:Plan) (l:Int) (hx:x.okay) (h0:0≤l) (h1:l≤1048576) (h:0≤x.sz l):x.sz l≤l∧(Zis x:Int)≤16*(l - x.sz l):=by
 unfold Plan.sz at h ⊢
 simp only [andSz] at h ⊢
 split at h
 ·omega
 rename_i q0
 rw [if_neg q0]
 have s0:=Zez hx.1 h0 h1 (Int.not_lt.1 q0)
 refine ⟨by omega,?_⟩
 unfold Zis
 have v0:=Zlx x.Steps
 omega
theorem Z1u (xs:List Kept):Zb8 xs=2*xs.length:=Ziq (fun _=>rfl) xs
def Zly (x:Region):Nat:=Z5 x.Plan.Steps+x.Box.Low.length+x.Box.High.length
theorem Region.ct (x:Region) (l:Int) (hx:x.okay) (h0:0≤l) (h1:l≤1048576) (h:0≤x.sz l):x.sz l≤l∧(Zly x:Int)≤16*(l - x.sz l):=by
 unfold Region.sz at h ⊢
 simp only [andSz] at h ⊢
 split at h
 ·omega
 rename_i q0
 rw [if_neg q0]
 have s0:=Plan.ct x.Plan _ hx.1 h0 h1 (Int.not_lt.1 q0)
 split at h
 ·omega
 rename_i q1
 rw [if_neg q1]
 have s1:=Box.ct x.Box _ ⟨hx.2.1,hx.2.2.1⟩ (by omega) (by omega) (Int.not_lt.1 q1)
 refine ⟨by omega,?_⟩
 unfold Zly
 have v0:Zis x.Plan=Z5 x.Plan.Steps:=rfl
 have v1:nt_Box x.Box=x.Box.Low.length+x.Box.High.length:=rfl
 have v2:=Zlx x.Plan.Steps
 omega
def Zr0 (x:Zo):Nat:=Z4 x.Zd.Atoms+Z5 x.Region.Plan.Steps+x.Region.Box.Low.length+x.Region.Box.High.length
theorem Zo.ct (x:Zo) (l:Int) (hx:x.okay) (h0:0≤l) (h1:l≤1048576) (h:0≤x.sz l):x.sz l≤l∧(Zr0 x:Int)≤16*(l - x.sz l):=by
 unfold Zo.sz at h ⊢
 simp only [andSz] at h ⊢
 split at h
 ·omega
 rename_i q0
 rw [if_neg q0]
 have s0:=Zd.ct x.Zd _ ⟨hx.1,hx.2.1⟩ h0 h1 (Int.not_lt.1 q0)
 split at h
 ·omega
 rename_i q1
 rw [if_neg q1]
 have s1:=Region.ct x.Region _ ⟨hx.2.2.1,hx.2.2.2.1,hx.2.2.2.2.1,hx.2.2.2.2.2.1⟩ (by omega) (by omega) (Int.not_lt.1 q1)
 refine ⟨by omega,?_⟩
 unfold Zr0
 have v0:Zir x.Zd=Z4 x.Zd.Atoms:=rfl
 have v1:Zly x.Region=Z5 x.Region.Plan.Steps+x.Region.Box.Low.length+x.Region.Box.High.length:=rfl
 have v2:Z4 x.Zd.Atoms=cnL Zb6 x.Zd.Atoms:=rfl
 have v3:=Zlx x.Region.Plan.Steps
 omega
end Go.Proofs.YtbapkgocloaaeaaGreat
