/-
  Parts of the proofs for this seat: IG IH IJ IK IL GW K.
-/
import Derived.Test.YtbapkgocloaaeaaGreatP7
import Derived.Test.YtbapkgocloaaeaaGreatP8
import Derived.Test.YtbapkgocloaaeaaGreatP14
set_option linter.unusedSimpArgs false
set_option linter.unusedVariables false
set_option maxRecDepth 100000
set_option maxHeartbeats 4000000
/- part: IG -/
namespace Go.Proofs.YtbapkgocloaaeaaGreat
open Go.AM
theorem Zbfr {M v c:Int} {x:List Zb} (hM:M≠0) (hv:0≤v∧v≤3):[offK 0 zE M v c x,offK 1 zE M v c x,offK 2 zE M v c x,offK 3 zE M v c x,offK 4 zE M v c x].filter sm=[⟨M,v,c,⟨x⟩⟩]:=by
 have h:v=0∨v=1∨v=2∨v=3:=by omega
 rcases h with rfl | rfl | rfl | rfl <;> simp [offK,offE,sm,zE,hM]
theorem Zbfs:∀ (i:Fin 4) (a:Fin 16),1≤a.1→(a.1:Int)<shlI 1 (i.1:Nat)→andI (a.1:Int) (shlI 1 (i.1:Nat))≠a.1:=by decide
theorem Zbft {qa:List Atom} {i:Nat} (hi:i<4):Zp qa (shlI 1 i)=[]:=by
 cases h:Zp qa (shlI 1 i) with
 | nil=>rfl
 | cons A l =>
  exfalso
  obtain ⟨h1,h2,h3,_⟩:=Zmi (qa:=qa) (M:=shlI 1 i) (A:=A) (by rw [h];simp)
  have h16:M16 (shlI 1 (i:Nat)):=(f_shl ⟨i,hi⟩ ⟨0,by omega⟩).2
  obtain ⟨a,rfl⟩:=m16 (x:=A) (by omega)
  exact Zbfs ⟨i,hi⟩ a (by omega) h2 h3
theorem flat_ne {E:List Za} (h:E≠[]):flat (E.map Za.c)=false:=by
 cases E with
 | nil=>exact absurd rfl h
 | cons e E=>simp [flat,Za.c,scalar]
theorem Zbfu {qa:List Atom} {n:Int} (hv:Zm n qa=true) {M A:Int} (hM:MQ qa M) (h:A∈Zp qa M):andNotI M A=M - A:=by
 obtain ⟨h1,h2,h3,_⟩:=Zmi h
 have h16:=(hM.m16 hv).1
 obtain ⟨a,rfl⟩:=m16 (x:=A) (by omega)
 obtain ⟨b,rfl⟩:=m16 h16
 exact (f_diff a b h3).1
theorem l_copyT (fr:Bool) (out:List Za) (hl:out.length≤1000) (hs:∀ e∈out,e.Plan.Steps.length≤1000):∀ i,i≤out.length→Zhv fr out out.length i=some (.own 0,[.arr 174 4 fr (out.map Za.c)]):=by
 refine down _ ?_ ?_
 ·refine Z0o _ _ _ _ _ ?_
  rw [if_neg (by omega)]
 ·intro i hi ih
  have h4:=inc64 (i:=i) (by omega)
  have hw:w ((i:Int)+1)=((i+1:Nat):Int):=by rw [show w ((i:Int)+1)=(i:Int)+1 from h4];simp
  refine Z0o _ _ _ _ _ ?_
  rw [if_pos (by omega),hw]
  refine ⟨by omega,out[i],by rw [Int.toNat_natCast];exact List.getElem?_eq_getElem hi,_,Zoc _ (hs _ (List.getElem_mem hi)),?_⟩
  rw [Int.toNat_natCast]
  have:out.set i (⟨out[i].Mask,out[i].Order,out[i].Cost,(⟨out[i].Plan.Steps⟩:Plan)⟩:Za)=out:=Zmh (List.getElem?_eq_getElem hi)
  rw [this]
  exact ih
theorem Inv.steps {m:Zd} {q:Zc} {sizes:List Int} {done:List Int} {out:List Za} (h:Inv m sizes q done out) (h16:∀ M∈done,M16 M):∀ e∈out,e.Plan.Steps.length≤1000:=by
 intro e he
 have hd:=h.only e he
 have hh:=(h.held _ hd).len e (List.mem_filter.2 ⟨he,by simp⟩)
 have:=Zcp (h16 _ hd)
 omega
theorem conn_16 {n:Int} {qa:List Atom} (hv:Zm n qa=true):∀ M∈Zn qa,M16 M:=by
 intro M hM
 obtain ⟨h1,h2,_⟩:=Zim.1 hM
 exact (MQ.m16 hv ⟨by omega,h2⟩).1
theorem Zty {m:Zd} {q:Zc} {sizes:List Int} (b:Base m q sizes) {i:Nat} (hi:i≤(Zn q.Atoms).length):∀ e∈Zz m sizes q i,e.Plan.Steps.length≤1000 :=
 (Zjo b i hi).steps fun M hM=>conn_16 b.hv M (List.mem_of_mem_take hM)
theorem i_table {m:Zd} {q:Zc} {sizes:List Int} (b:Base m q sizes):∀ i,i≤(Zn q.Atoms).length→∀ (table:List (List Za)) (fr fr1:Bool),table.length=2 ^ q.Atoms.length→(∀ M∈(Zn q.Atoms).take i,table[M.toNat]?=some (ofM (Zz m sizes q i) M))→(i=(Zn q.Atoms).length→fr1=false) →
  Ze9 m q fr table fr1 (Zz m sizes q i) (Zn q.Atoms) sizes (Zn q.Atoms).length i=some (.own 0,[.arr 174 4 false ((Zz m sizes q (Zn q.Atoms).length).map Za.c)]):=by
 have hcl:=Zoj b.hv
 refine down _ ?_ ?_
 ·intro table fr fr1 _ _ hf
  rw [hf rfl]
  refine Z0m _ _ _ _ _ _ _ _ _ _ _ ?_
  rw [if_neg (by omega)]
  exact l_copyT false _ (by have:=Zmk b (Nat.le_refl (Zn q.Atoms).length);omega) (Zty b (Nat.le_refl _)) 0 (Nat.zero_le _)
 ·intro i hi ih table fr fr1 htl hT hf
  have h4:=inc64 (i:=i) (by omega)
  have hw:w ((i:Int)+1)=((i+1:Nat):Int):=by rw [show w ((i:Int)+1)=(i:Int)+1 from h4];simp
  obtain ⟨c1,c2,c3,c4⟩:=Zjn hi
  have hinv:=Zjo b i (by omega)
  have hstep:=Z3p b hinv c1 c2 c3 c4 (Ztx (Zmj _) hi)
  have hheld:=Ztw b hinv c1 c2 c3 c4
  have hnext:Zz m sizes q (i+1)=Zz m sizes q i++entM m sizes q (Zz m sizes q i) (Zn q.Atoms)[i]:=by
   rw [Zz]
   congr 2
   simp [List.getD,hi]
  have hlen:=Zmk b (i:=i) (by omega)
  have h16:=(c1.m16 b.hv).1
  have hpw:=Zd4 q.Atoms.length
  have hMt:(Zn q.Atoms)[i].toNat<table.length:=by have:=c1.1;have:=c1.2;omega
  have key:∀ f1 E,E=entM m sizes q (Zz m sizes q i) (Zn q.Atoms)[i]→Ze9 m q f1 (table.set (Zn q.Atoms)[i].toNat E) (fr1 && flat (E.map Za.c)) (Zz m sizes q i++E) (Zn q.Atoms) sizes (Zn q.Atoms).length (w ((i:Int)+1))=some (.own 0,[.arr 174 4 false ((Zz m sizes q (Zn q.Atoms).length).map Za.c)]):=by
   intro f1 E hE
   subst hE
   rw [hw,flat_ne hheld.ne,Bool.and_false,← hnext]
   refine ih _ _ _ (by rw [List.length_set];exact htl) ?_ (fun _=>rfl)
   intro A hA
   rw [List.take_succ_eq_append_getElem hi] at hA
   rcases List.mem_append.1 hA with hA | hA
   ·have hne:A≠(Zn q.Atoms)[i]:=fun h=>Ztx (Zmj _) hi (h ▸ hA)
    have hA0:=(Zim.1 (List.mem_of_mem_take hA)).1
    have:=c1.1
    rw [List.getElem?_set_ne (by omega),hT A hA,hnext,hstep.2.1 A hA]
   ·rw [List.mem_singleton.1 hA,List.getElem?_set_self hMt,hnext,hstep.2.2]
  have hget:(Zn q.Atoms)[i]?=some (Zn q.Atoms)[i]:=List.getElem?_eq_getElem hi
  generalize (Zn q.Atoms)[i]=M at *
  have hic:Zbv q.Ze q.Atoms M=true:=by
   unfold Zbv
   rw [b.hv,c3,Zd3 b.hv]
   have h1:=c1.1
   have h2:=c1.2
   simp [inR,c2,h1]
   omega
  have e1:(Zb3 q M).map Prod.fst=Zp q.Atoms M:=by
   unfold Zb3
   rw [List.map_map]
   exact List.map_id _
  have e2:(Zb3 q M).length=(Zp q.Atoms M).length:=by unfold Zb3;rw [List.length_map]
  have hps:(Zb3 q M).length≤100:=by rw [e2];have:=Zto (qa:=q.Atoms) h16;omega
  have hok:∀ p∈Zb3 q M,Z3j m q sizes (Zz m sizes q i) table M p.1 p.2:=by
   intro p hp
   have o:=Ztv b hinv c1 c3 c4 p hp
   unfold Zb3 at hp
   rw [List.mem_map] at hp
   obtain ⟨A,hA,rfl⟩:=hp
   have hd:=Zbfu b.hv c1 hA
   obtain ⟨q1,q2⟩:=Ztu c1 hA
   refine ⟨o,hd,?_,hT A (c4 A hA).1,hT _ (c4 A hA).2⟩
   rw [hd]
   exact Zbew q b.hq b.hv A (M - A) q1 q2
  have hgo:∀ a0 a1 a2 a3 a4:Za,((Zb3 q M).foldl (oneJ m sizes M (Zz m sizes q i)) [a0,a1,a2,a3,a4]).filter sm=entM m sizes q (Zz m sizes q i) M →
    Zdc m q fr table fr1 (Zz m sizes q i) m q sizes M a0 a1 a2 a3 a4 (sm a0) (sm a1) (sm a2) (sm a3) (sm a4) (Zn q.Atoms) (Zp q.Atoms M) sizes M (Zn q.Atoms).length i (Zp q.Atoms M).length 0=some (.own 0,[.arr 174 4 false ((Zz m sizes q (Zn q.Atoms).length).map Za.c)]):=by
   intro a0 a1 a2 a3 a4 hE
   have:=i_splits b h16 c2 table hMt (Zz m sizes q i) (by omega) (Zb3 q M) hps hok fr fr1 (Zn q.Atoms) (Zn q.Atoms).length i _ 0 (Nat.zero_le _) a0 a1 a2 a3 a4 (fun f1 E h=>key f1 E (by rw [List.drop_zero,hE] at h;exact h.symm))
   rw [e1,e2] at this
   exact this
  refine Z0m _ _ _ _ _ _ _ _ _ _ _ ?_
  rw [if_pos (by omega)]
  refine ⟨by omega,M,by rw [Int.toNat_natCast];exact hget,.inr ⟨Zch M,Zbef h16,?_⟩⟩
  cases ho:oneB (ofI M) with
  | true =>
   obtain ⟨j,hj4,ha,hMj⟩:=Ztp h16 ho
   have hent:=Ztr (m:=m) (sizes:=sizes) (q:=q) (out:=Zz m sizes q i) ha
   have hE:=hheld
   rw [hent] at hE
   have hlen1:=hE.len _ (List.mem_singleton.2 rfl)
   have hmk:=hE.makes _ (List.mem_singleton.2 rfl)
   have hod:=hE.ord _ (List.mem_singleton.2 rfl)
   have hjl:j<q.Atoms.length:=by
    have h2:=c1.2
    have e:shlI 1 (j:Nat)=2 ^ j:=by
     have:j=0∨j=1∨j=2∨j=3:=by omega
     rcases this with rfl | rfl | rfl | rfl <;> decide
    rw [hMj,e] at h2
    have h3:(2:Int) ^ j<2 ^ q.Atoms.length:=h2
    rw [← Zd4,← Zd4] at h3
    exact (Nat.pow_lt_pow_iff_right (by omega)).1 (by omega:2 ^ j<2 ^ q.Atoms.length)
   have hvar:=Ziq b.hv _ (List.getElem_mem hjl)
   obtain ⟨v,vs,hvs⟩:∃ v vs,q.Atoms[j].Vars=v::vs:=by
    cases hh:q.Atoms[j].Vars with
    | nil=>rw [hh] at hvar;simp at hvar
    | cons v vs=>exact ⟨v,vs,rfl⟩
   have hv3:0≤v∧v≤3:=by
    have:=Zm1 b.hv _ (List.getElem_mem hjl) v (by rw [hvs];simp)
    have hn:=Zc7 b.hv
    simp [inR] at this
    omega
   have hse:Zg1 m sizes q M (j:Int)=⟨M,v,Z7 m.Scan (szAt sizes M) 0 (szAt sizes M),⟨[⟨1,j,0⟩]⟩⟩:=by
    simp [Zg1,List.getElem?_eq_getElem hjl,hvs]
   rw [hse] at hmk
   have hcost:=Z2.cost hmk b.hv (by simp) b.hsv
   obtain ⟨t,ht,hx⟩:=Z24 m b.hm q b.hq sizes b.hs M c2 zE zE zE zE zE [⟨1,j,0⟩] v (by omega) _ hcost
   rw [show sm zE=false from rfl] at hx
   have hnx:=hgo _ _ _ _ _ (by
    have hsp:Zb3 q M=[]:=by unfold Zb3;rw [hMj,Zbft hj4];rfl
    rw [hsp,List.foldl_nil,hent,hse]
    exact Zbfr (c:=Z7 m.Scan (szAt sizes M) 0 (szAt sizes M)) (x:=[⟨1,j,0⟩]) c2 hv3)
   rw [ha,if_pos (by simp)]
   refine ⟨(j:Int),rfl,_,Zbez _,by omega,q.Atoms[j],by rw [Int.toNat_natCast];exact List.getElem?_eq_getElem hjl,v,by rw [hvs];rfl,?_⟩
   rcases ht with rfl | rfl
   ·exact .inl ⟨m,q,sizes,M,_,_,_,_,_,_,_,_,_,_,hx,.inr ⟨_,Zs9 q b.hq M hic,hnx⟩⟩
   ·exact .inr ⟨m,q,sizes,M,_,_,_,_,_,_,_,_,_,_,_,hx,.inr ⟨_,Zs9 q b.hq M hic,hnx⟩⟩
  | false =>
   have hne:=Ztq h16 ho
   rw [if_neg (by omega)]
   have hnx:=hgo zE zE zE zE zE (by rw [Zts hne];rfl)
   rw [show sm zE=false from rfl] at hnx
   exact .inr ⟨_,Zs9 q b.hq M hic,hnx⟩
theorem Zbfv {m:Zd} {q:Zc} {sizes:List Int} (b:Base m q sizes) (ha:Zcw m):Ziz m q sizes=some (.own 0,[.arr 174 4 false ((Zz m sizes q (Zn q.Atoms).length).map Za.c)]):=by
 have hf:=Zd3 b.hv
 have hpw:=Zd4 q.Atoms.length
 have h16:2 ^ q.Atoms.length≤16:=Nat.pow_le_pow_right (by omega:0<2) (Zbr b.hv).2
 have hp1:1≤2 ^ q.Atoms.length:=Nat.one_le_two_pow
 have e1:w (Zs q.Ze q.Atoms+1)=2 ^ q.Atoms.length:=by rw [w_id (by omega) (by omega)];omega
 have hr:room=140737488355328:=rfl
 refine Zbbf _ _ _ _ ⟨_,Z15 m b.hm,?_⟩
 rw [if_pos (by simpa using ha)]
 refine ⟨_,Z2k q b.hq sizes b.hs,?_⟩
 rw [if_pos b.hsv]
 refine ⟨_,Zgv q b.hq,?_⟩
 rw [e1]
 have e2:((2:Int) ^ q.Atoms.length).toNat=2 ^ q.Atoms.length:=by omega
 rw [e2]
 refine ⟨by omega,by omega,by rw [hr];omega,by omega,_,Zbd8 q b.hq b.hv,?_⟩
 refine i_table b 0 (Nat.zero_le _) _ true true (by simp) (by simp) ?_
 intro h
 exfalso
 have:(1:Int)∈Zn q.Atoms:=by
  refine Zim.2 ⟨by omega,?_,?_⟩
  ·have:2 ^ 1≤2 ^ q.Atoms.length:=Nat.pow_le_pow_right (by omega) (Zbr b.hv).1
   omega
  ·have h1:=Zmf b.hv (true,false,false,false)
   rw [show toI (true,false,false,false)=1 from rfl] at h1
   rw [h1]
   have key:∀ a b c d e f:Bool,∀ n:Fin 5,Zb1 ⟨a,b,c,d,e,f⟩ n.1 (true,false,false,false)=true:=by decide
   exact key _ _ _ _ _ _ ⟨q.Atoms.length,by have:=(Zbr b.hv).2;omega⟩
 rw [List.length_eq_zero_iff.1 h.symm] at this
 cases this
end Go.Proofs.YtbapkgocloaaeaaGreat
/- part: IH -/
namespace Go.Proofs.YtbapkgocloaaeaaGreat
open Go.AM
def shOf (q:Zc) (M:Int):List (List Int):=(Zp q.Atoms M).map fun A=>Zd5 q A (M - A)
def Zcq (q:Zc) (M:Int):Zr:=⟨M,Zp q.Atoms M,shOf q M⟩
def shapes (q:Zc):List Zr:=(Zn q.Atoms).map (Zcq q)
theorem Zbfw {q:Zc} (hv:Zm q.Ze q.Atoms=true) {M:Int} (c1:MQ q.Atoms M) (c2:M≠0) (c3:conn q.Atoms M=true):Zbv q.Ze q.Atoms M=true:=by
 unfold Zbv
 rw [hv,c3,Zd3 hv]
 have h1:=c1.1
 have h2:=c1.2
 simp [inR,c2,h1]
 omega
section
variable (q:Zc) (hq:LeQ q) (hv:Zm q.Ze q.Atoms=true)
include hq hv
theorem Z3r {M:Int} (hM:MQ q.Atoms M) {A:Int} (hA:A∈Zp q.Atoms M):Zgm q A (w (M - A))=some (.own 0,[.arr 3 1 true ((Zd5 q A (M - A)).map ic)]):=by
 obtain ⟨q1,q2⟩:=Ztu hM hA
 have h16:=(q2.m16 hv).1
 rw [w_id (by omega) (by omega)]
 exact Zbey q hq hv A (M - A) q1 q2
theorem Zbfx (out:List Zr) (hout:out.length≤1000) {i:Nat} (hi:i<(Zn q.Atoms).length) (r:AV×List Blk) (h:Zdw q (out++[Zcq q (Zn q.Atoms)[i]]) (Zn q.Atoms) (w ((i:Int)+1))=some r) :
  ∀ k,k≤(Zp q.Atoms (Zn q.Atoms)[i]).length→Zh9 q out (Zn q.Atoms) (Zn q.Atoms)[i] (Zp q.Atoms (Zn q.Atoms)[i]) ((shOf q (Zn q.Atoms)[i]).take k) i k=some r:=by
 obtain ⟨c1,c2,c3,c4⟩:=Zjn hi
 have hsl:=Zto (qa:=q.Atoms) (c1.m16 hv).1
 have hlen:(shOf q (Zn q.Atoms)[i]).length=(Zp q.Atoms (Zn q.Atoms)[i]).length:=by simp [shOf]
 refine down _ ?_ ?_
 ·refine Z1g _ _ _ _ _ _ _ _ _ ?_
  rw [if_neg (by omega)]
  refine ⟨by omega,?_⟩
  rw [← hlen,List.take_length]
  exact h
 ·intro k hk ih
  have h4:=inc64 (i:=k) (by omega)
  have hw:w ((k:Int)+1)=((k+1:Nat):Int):=by rw [show w ((k:Int)+1)=(k:Int)+1 from h4];simp
  refine Z1g _ _ _ _ _ _ _ _ _ ?_
  rw [if_pos (by omega),hw]
  refine ⟨by omega,_,by rw [Int.toNat_natCast];exact List.getElem?_eq_getElem hk,by omega,_,by rw [Int.toNat_natCast];exact List.getElem?_eq_getElem hi,_,Z3r q hq hv c1 (List.getElem_mem hk),?_,?_⟩
  ·rw [List.length_take];omega
  ·rw [List.take_succ_eq_append_getElem (by omega)] at ih
   simpa [shOf] using ih
theorem Zbfy (out:List Zr) (hout:out.length≤1000) {i:Nat} (hi:i<(Zn q.Atoms).length) (r:AV×List Blk) (h:Zdw q (out++[Zcq q (Zn q.Atoms)[i]]) (Zn q.Atoms) (w ((i:Int)+1))=some r) :
  Zle q out (Zn q.Atoms) (Zn q.Atoms)[i] (Zp q.Atoms (Zn q.Atoms)[i]) i 0=some r:=by
 obtain ⟨c1,c2,c3,c4⟩:=Zjn hi
 refine Zbcl _ _ _ _ _ _ _ _ ?_
 by_cases h0:(Zp q.Atoms (Zn q.Atoms)[i]).length=0
 ·rw [if_neg (by omega)]
  refine ⟨by omega,?_⟩
  have:Zcq q (Zn q.Atoms)[i]=⟨(Zn q.Atoms)[i],Zp q.Atoms (Zn q.Atoms)[i],[]⟩:=by
   unfold Zcq shOf
   rw [List.length_eq_zero_iff.1 h0];rfl
  rw [← this]
  exact h
 ·rw [if_pos (by omega)]
  have hk:0<(Zp q.Atoms (Zn q.Atoms)[i]).length:=by omega
  have:=Zbfx q hq hv out hout hi r h 1 (by omega)
  refine ⟨by omega,_,List.getElem?_eq_getElem hk,by omega,_,by rw [Int.toNat_natCast];exact List.getElem?_eq_getElem hi,_,Z3r q hq hv c1 (List.getElem_mem hk),?_⟩
  rw [show w ((0:Int)+1)=((1:Nat):Int) from by decide]
  have e:(shOf q (Zn q.Atoms)[i]).take 1=[Zd5 q (Zp q.Atoms (Zn q.Atoms)[i])[0] ((Zn q.Atoms)[i] - (Zp q.Atoms (Zn q.Atoms)[i])[0])]:=by
   rw [List.take_succ_eq_append_getElem (by simp [shOf];omega)]
   simp [shOf]
  rw [e] at this
  exact this
theorem l_shapes:∀ i,i≤(Zn q.Atoms).length→Zdw q ((shapes q).take i) (Zn q.Atoms) i=some (.own 0,[.arr 242 3 true ((shapes q).map Zr.c)]):=by
 have hcl:=Zoj hv
 have hlen:(shapes q).length=(Zn q.Atoms).length:=by simp [shapes]
 refine down _ ?_ ?_
 ·refine Z1f _ _ _ _ _ ?_
  rw [if_neg (by omega),← hlen,List.take_length]
 ·intro i hi ih
  have h4:=inc64 (i:=i) (by omega)
  have hw:w ((i:Int)+1)=((i+1:Nat):Int):=by rw [show w ((i:Int)+1)=(i:Int)+1 from h4];simp
  obtain ⟨c1,c2,c3,c4⟩:=Zjn hi
  refine Z1f _ _ _ _ _ ?_
  rw [if_pos (by omega)]
  refine ⟨by omega,_,by rw [Int.toNat_natCast];exact List.getElem?_eq_getElem hi,_,Zbed q hq _ (Zbfw hv c1 c2 c3),?_⟩
  refine Zbfy q hq hv _ (by rw [List.length_take];omega) hi _ ?_
  rw [hw]
  rw [List.take_succ_eq_append_getElem (by omega)] at ih
  simpa [shapes] using ih
theorem Zbfz:Zld q=some (.own 0,[.arr 242 3 true ((shapes q).map Zr.c)]) :=
 Zbcm _ _ ⟨_,Zbea q hq hv,by simpa using l_shapes q hq hv 0 (Nat.zero_le _)⟩
end
theorem f_one:∀ a:Fin 16,1≤a.1→(andI (a.1:Int) (w ((a.1:Int) - 1))=0↔oneB (ofI (a.1:Int))=true):=by decide
theorem Z3s {α β:Type} (f:α→β):∀ l:List α,l.zip (l.map f)=l.map fun a=>(a,f a)
 | []=>rfl
 | a::l=>by simp [Z3s f l]
theorem s_table {m:Zd} {q:Zc} {sizes:List Int} (b:Base m q sizes):∀ i,i≤(Zn q.Atoms).length→∀ fr:Bool,∃ fr',Zgs (shapes q) sizes m q fr (Zz m sizes q i) i=some (.own 2,[.arr 242 3 true ((shapes q).map Zr.c),.arr 3 1 true (sizes.map ic),.arr 174 4 fr' ((Zz m sizes q (Zn q.Atoms).length).map Za.c)]):=by
 have hcl:=Zoj b.hv
 have hlen:(shapes q).length=(Zn q.Atoms).length:=by simp [shapes]
 refine down _ ?_ ?_
 ·intro fr
  refine ⟨fr,Zsz _ _ _ _ _ _ _ _ ?_⟩
  rw [if_neg (by omega)]
 ·intro i hi ih fr
  have h4:=inc64 (i:=i) (by omega)
  have hw:w ((i:Int)+1)=((i+1:Nat):Int):=by rw [show w ((i:Int)+1)=(i:Int)+1 from h4];simp
  obtain ⟨c1,c2,c3,c4⟩:=Zjn hi
  have hinv:=Zjo b i (by omega)
  have hheld:=Ztw b hinv c1 c2 c3 c4
  have hnext:Zz m sizes q (i+1)=Zz m sizes q i++entM m sizes q (Zz m sizes q i) (Zn q.Atoms)[i]:=by
   rw [Zz]
   congr 2
   simp [List.getD,hi]
  have hol:=Zmk b (i:=i) (by omega)
  have h16:=(c1.m16 b.hv).1
  have hget:(shapes q)[i]?=some (Zcq q (Zn q.Atoms)[i]):=by
   unfold shapes
   rw [List.getElem?_map,List.getElem?_eq_getElem hi];rfl
  rw [hnext] at ih
  generalize (Zn q.Atoms)[i]=M at *
  have hz:=Zbc b.hsv c1
  have h1:(andI M (w (M - 1))=0↔oneB (ofI M)=true):=by
   have q1:=c1.1
   obtain ⟨a,rfl⟩:=m16 h16
   exact f_one a (by omega)
  have hle:=hheld.le
  cases ho:oneB (ofI M) with
  | true =>
   obtain ⟨j,hj4,ha,hMj⟩:=Ztp h16 ho
   have hent:=Ztr (m:=m) (sizes:=sizes) (q:=q) (out:=Zz m sizes q i) ha
   have hjl:j<q.Atoms.length:=by
    have h2:=c1.2
    have e:shlI 1 (j:Nat)=2 ^ j:=by
     have:j=0∨j=1∨j=2∨j=3:=by omega
     rcases this with rfl | rfl | rfl | rfl <;> decide
    rw [hMj,e] at h2
    have h3:(2:Int) ^ j<2 ^ q.Atoms.length:=h2
    rw [← Zd4,← Zd4] at h3
    exact (Nat.pow_lt_pow_iff_right (by omega)).1 (by omega:2 ^ j<2 ^ q.Atoms.length)
   have hvar:=Ziq b.hv _ (List.getElem_mem hjl)
   obtain ⟨v,vs,hvs⟩:∃ v vs,q.Atoms[j].Vars=v::vs:=by
    cases hh:q.Atoms[j].Vars with
    | nil=>rw [hh] at hvar;simp at hvar
    | cons v vs=>exact ⟨v,vs,rfl⟩
   have hse:Zg1 m sizes q M (j:Int)=⟨M,v,Z7 m.Scan (szAt sizes M) 0 (szAt sizes M),⟨[⟨1,j,0⟩]⟩⟩:=by
    simp [Zg1,List.getElem?_eq_getElem hjl,hvs]
   rw [hent,hse] at ih
   obtain ⟨fr',hr⟩:=ih fr
   refine ⟨fr',Zsz _ _ _ _ _ _ _ _ ?_⟩
   rw [if_pos (by omega)]
   refine ⟨by omega,_,by rw [Int.toNat_natCast];exact hget,?_⟩
   have h1':andI (Zcq q M).mask (w ((Zcq q M).mask - 1))=0:=h1.2 ho
   rw [if_pos h1',hw]
   refine ⟨_,Zbeh h16,(j:Int),by rw [show Zch (Zcq q M).mask=[(j:Int)] from ha];rfl,by omega,q.Atoms[j],by rw [Int.toNat_natCast];exact List.getElem?_eq_getElem hjl,v,by rw [hvs];rfl,hz.1,_,hz.2,_,Zd1 _ b.hm.1 _ _ _,_,Zbe0 _,by omega,?_⟩
   exact hr
  | false =>
   have hne:=Ztq h16 ho
   have ok:=Ztv b hinv c1 c3 c4
   have hzip:(Zcq q M).Zp.zip (Zcq q M).shared=Zb3 q M:=Z3s _ _
   have hsl:=Zto (qa:=q.Atoms) h16
   obtain ⟨f1,hJ⟩:=Zbfk m b.hm b.hg sizes b.hcl q.Atoms fr (Zz m sizes q i) (by omega) (Zcq q M) hz h16 (by show 0<M;have:=c1.1;omega) (by simp [Zcq,shOf]) (by show (Zp q.Atoms M).length≤100;omega) (by rw [hzip];exact ok)
   rw [hzip] at hJ
   have hent:=Zts (m:=m) (sizes:=sizes) (q:=q) (out:=Zz m sizes q i) hne
   rw [hent] at ih hle
   obtain ⟨fr',hr⟩:=ih (fr && flat (((Zjm m sizes M (Zz m sizes q i) (Zb3 q M)).filter sm).map Za.c))
   refine ⟨fr',Zsz _ _ _ _ _ _ _ _ ?_⟩
   rw [if_pos (by omega)]
   refine ⟨by omega,_,by rw [Int.toNat_natCast];exact hget,?_⟩
   have h1':¬ andI (Zcq q M).mask (w ((Zcq q M).mask - 1))=0:=fun h=>by have:=h1.1 h;rw [ho] at this;cases this
   rw [if_neg h1',hw]
   exact ⟨_,_,hJ,by show (Zz m sizes q i).length+((Zjm m sizes M (Zz m sizes q i) (Zb3 q M)).filter sm).length≤68719476736;omega,hr⟩
theorem Zbf0 {m:Zd} {q:Zc} {sizes:List Int} (b:Base m q sizes):∃ fr',Zlo (shapes q) sizes m q=some (.own 2,[.arr 242 3 true ((shapes q).map Zr.c),.arr 3 1 true (sizes.map ic),.arr 174 4 fr' ((Zz m sizes q (Zn q.Atoms).length).map Za.c)]):=by
 obtain ⟨fr',h⟩:=s_table b 0 (Nat.zero_le _) true
 exact ⟨fr',Zbcy _ _ _ _ _ h⟩
end Go.Proofs.YtbapkgocloaaeaaGreat
/- part: IJ -/
namespace Go.Proofs.YtbapkgocloaaeaaGreat
open Go.AM
theorem Zbf1 (a b c:Int) (fr:Bool) (l:List Za) (hl:l.length≤1000):∀ i,i≤l.length→∀ best,Zf4 a b c best fr l l.length i=some (.agg (((l.drop i).foldl Zb8 best).c.map .t),[.arr 174 4 fr (l.map Za.c)]):=by
 refine down _ ?_ ?_
 ·intro best
  refine Z0r _ _ _ _ _ _ _ _ _ ?_
  rw [if_neg (by omega)];simp
 ·intro i hi ih best
  have h4:=inc64 (i:=i) (by omega)
  refine Z0r _ _ _ _ _ _ _ _ _ ?_
  rw [if_pos (by omega),List.drop_eq_getElem_cons hi,List.foldl_cons]
  refine ⟨by omega,l[i],by rw [Int.toNat_natCast];exact List.getElem?_eq_getElem hi,?_⟩
  rw [show w ((i:Int)+1)=((i+1:Nat):Int) from by rw [show w ((i:Int)+1)=(i:Int)+1 from h4];simp]
  by_cases e:l[i].Cost<best.Cost
  ·rw [if_pos e,show Zb8 best l[i]=l[i] by simp [Zb8,e]];exact ih _
  ·rw [if_neg e,show Zb8 best l[i]=best by simp [Zb8,e]];exact ih _
theorem Zbf2 (fr:Bool) (l:List Za) (h0:l≠[]) (hl:l.length≤1000):Zkq fr l=some (.agg ((Zu l).c.map .t),[.arr 174 4 fr (l.map Za.c)]):=by
 cases l with
 | nil=>exact absurd rfl h0
 | cons e l =>
  refine Zbbg _ _ _ ⟨e,rfl,?_⟩
  have:=Zbf1 0 0 0 fr (e::l) hl 0 (Nat.zero_le _) e
  simpa [Zu] using this
theorem l_best (l:List Za) (mask:Int) (hl:l.length≤1000) (hne:ofM l mask≠[]) (hs:∀ e∈l,e.Plan.Steps.length≤1000):∀ i,i≤l.length→∀ fr,Zf5 0 0 0 fr (ofM (l.take i) mask) mask l l.length i=some (.tup [.agg [I (Zu (ofM l mask)).Mask,I (Zu (ofM l mask)).Order,I (Zu (ofM l mask)).Cost,.own 0],Bo true],[.arr 142 3 true ((Zu (ofM l mask)).Plan.Steps.map Zb.c)]):=by
 refine down _ ?_ ?_
 ·intro fr
  refine Z0s _ _ _ _ _ _ _ _ _ _ ?_
  rw [if_neg (by omega),List.take_length]
  have h1:(ofM l mask).length≠0:=fun h=>hne (List.length_eq_zero_iff.1 h)
  have h2:(ofM l mask).length≤l.length:=List.length_filter_le _ _
  rw [if_neg (by omega)]
  have hmem:=Ztf hne
  exact ⟨_,Zbf2 fr _ hne (by omega),_,Zoc _ (hs _ (List.mem_filter.1 hmem).1),rfl⟩
 ·intro i hi ih fr
  have h4:=inc64 (i:=i) (by omega)
  have hw:w ((i:Int)+1)=((i+1:Nat):Int):=by rw [show w ((i:Int)+1)=(i:Int)+1 from h4];simp
  rw [Z25 l mask hi] at ih
  have h2:(ofM (l.take i) mask).length≤(l.take i).length:=List.length_filter_le _ _
  rw [List.length_take] at h2
  refine Z0s _ _ _ _ _ _ _ _ _ _ ?_
  rw [if_pos (by omega),hw]
  refine ⟨by omega,l[i],by rw [Int.toNat_natCast];exact List.getElem?_eq_getElem hi,?_⟩
  by_cases e:l[i].Mask=mask
  ·rw [if_pos e]
   rw [if_pos e] at ih
   exact ⟨by omega,ih false⟩
  ·rw [if_neg e]
   rw [if_neg e,List.append_nil] at ih
   exact ih fr
theorem Zbf3 (l:List Za) (mask:Int) (hl:l.length≤1000) (hne:ofM l mask≠[]) (hs:∀ e∈l,e.Plan.Steps.length≤1000):Zi0 l mask=some (.tup [.agg [I (Zu (ofM l mask)).Mask,I (Zu (ofM l mask)).Order,I (Zu (ofM l mask)).Cost,.own 0],Bo true],[.arr 142 3 true ((Zu (ofM l mask)).Plan.Steps.map Zb.c)]) :=
 Zbbh _ _ _ (by simpa [ofM] using l_best l mask hl hne hs 0 (Nat.zero_le _) true)
theorem Zbf4 (l:List Za) (mask:Int) (hl:l.length≤1000) (hne:ofM l mask≠[]) (hs:∀ e∈l,e.Plan.Steps.length≤1000):Zi6 l mask=some (.tup [.agg [I (Zu (ofM l mask)).Mask,I (Zu (ofM l mask)).Order,I (Zu (ofM l mask)).Cost,.own 0],Bo true],[.arr 142 3 true ((Zu (ofM l mask)).Plan.Steps.map Zb.c)]):=by
 obtain ⟨k1,k2⟩:=Zog hne
 have hmem:=Ztf hne
 have:=hs _ (List.mem_filter.1 hmem).1
 refine Zbcz _ _ _ ⟨_,x_low l mask hl,?_⟩
 rw [if_neg (by omega)]
 exact ⟨k1,_,k2,by omega,rfl⟩
def tab (m:Zd) (q:Zc) (sizes:List Int):List Za:=Zz m sizes q (Zn q.Atoms).length
def opt (m:Zd) (q:Zc) (sizes:List Int):Za:=Zu (ofM (tab m q sizes) (Zs q.Ze q.Atoms))
theorem full_MQ {q:Zc} (hv:Zm q.Ze q.Atoms=true):MQ q.Atoms (Zs q.Ze q.Atoms):=by
 have:=Zd3 hv
 have:=Zpc hv
 exact ⟨by omega,by omega⟩
theorem Z3t {m:Zd} {q:Zc} {sizes:List Int} (b:Base m q sizes) (hc:Zbv q.Ze q.Atoms (Zs q.Ze q.Atoms)=true):Held m sizes q.Atoms (Zs q.Ze q.Atoms) (ofM (tab m q sizes) (Zs q.Ze q.Atoms)):=by
 refine (Zjo b _ (Nat.le_refl _)).held _ ?_
 rw [List.take_length]
 have hp:=Zpc b.hv
 have hq:=full_MQ b.hv
 unfold Zbv at hc
 simp only [Bool.and_eq_true] at hc
 exact Zim.2 ⟨by omega,hq.2,hc.2⟩
theorem Zbf5 {m:Zd} {q:Zc} {sizes:List Int} (b:Base m q sizes) (ha:Zcw m) (hc:Zbv q.Ze q.Atoms (Zs q.Ze q.Atoms)=true):Zi1 m q sizes=some (.tup [.agg [I (opt m q sizes).Mask,I (opt m q sizes).Order,I (opt m q sizes).Cost,.own 0],Bo true],[.arr 142 3 true ((opt m q sizes).Plan.Steps.map Zb.c)]):=by
 have hl:=Zmk b (Nat.le_refl (Zn q.Atoms).length)
 refine Zbbi _ _ _ _ (.inr ⟨_,_,Zbfv b ha,_,Zgv q b.hq,.inr ⟨_,_,_,_,Zbf3 _ _ (by omega) (Z3t b hc).ne (Zty b (Nat.le_refl _)),rfl⟩⟩)
theorem Zbf6 {m:Zd} {q:Zc} {sizes:List Int} (b:Base m q sizes) (ha:Zcw m) (hc:Zbv q.Ze q.Atoms (Zs q.Ze q.Atoms)=true):Zkr m q sizes=some (I (opt m q sizes).Cost,[]) :=
 Zbbj _ _ _ _ (.inr ⟨_,_,_,_,Zbf5 b ha hc,rfl⟩)
theorem Zbf7 {m:Zd} {q:Zc} {l:List Int} (hl:l.length≤4294967296) (h:Z5 l=true) (b:Base m q (Zbj l)) (ha:Zcw m) (hc:Zbv q.Ze q.Atoms (Zs q.Ze q.Atoms)=true):Zks m q l=some (I (opt m q (Zbj l)).Cost,[]):=by
 have hb:=Z2o l hl
 rw [h,if_pos rfl] at hb
 exact Zbbk _ _ _ _ (.inl ⟨_,hb,_,Zbf6 b ha hc,rfl⟩)
def LeR (r:Region):Prop:=Le r.Box.Low∧Le r.Box.High
theorem x_boxOk (q:Zc) (hq:LeQ q) (bx:Box) (hb:LeX bx):Zj6 q bx=some (Bo (Zg5 q.Ze q.Atoms bx.Low bx.High),[]):=by
 have q5:=Zm0 q.Ze q.Atoms
 refine Zbae _ _ _ ⟨_,Zs4 bx hb,?_⟩
 unfold Zg5
 rcases tf (Z9 bx.Low bx.High) with e | e
 ·rw [e];simp
 ·rw [e,if_pos rfl]
  refine ⟨_,Zgv q hq,?_⟩
  rw [show w (Zs q.Ze q.Atoms+1)=Zs q.Ze q.Atoms+1 from q5]
  simp
theorem Zbf8 (q:Zc) (hq:LeQ q) (r:Region) (hr:LeR r):Zj8 q r=some (Bo (Zeq q.Ze q.Atoms r.Plan.Steps r.Box.Low r.Box.High r.Percent),[]):=by
 refine Zbaj _ _ _ ⟨_,Zl6 q hq,?_⟩
 unfold Zeq
 rcases tf (Zm q.Ze q.Atoms) with e | e
 ·rw [e];simp
 rw [e,if_pos rfl]
 refine ⟨_,x_boxOk q hq r.Box hr,?_⟩
 rcases tf (Zg5 q.Ze q.Atoms r.Box.Low r.Box.High) with e2 | e2
 ·rw [e2];simp
 rw [e2,if_pos rfl]
 refine ⟨_,Zbdq q r.Plan hq,_,Zgv q hq,?_⟩
 by_cases e3:Zfo q.Ze q.Atoms r.Plan.Steps=Zs q.Ze q.Atoms
 ·rw [if_pos e3]
  exact ⟨_,Zdd _ _ _,by simp [e3]⟩
 ·rw [if_neg e3];simp [e3]
theorem Zbf9 (q:Zc) (hq:LeQ q) (r:Region) (hr:LeR r):Zk5 q r=some (Bo (Zeq q.Ze q.Atoms r.Plan.Steps r.Box.Low r.Box.High r.Percent),[]):=by
 have q5:=Zm0 q.Ze q.Atoms
 refine Zbcf _ _ _ ⟨_,Zs5 r.Box hr,?_⟩
 unfold Zeq Zg5
 rcases tf (Z9 r.Box.Low r.Box.High) with e | e
 ·rw [e];simp
 rw [e,if_pos rfl]
 refine ⟨_,Zl8 q hq,?_⟩
 rw [show w (Zs q.Ze q.Atoms+1)=Zs q.Ze q.Atoms+1 from q5]
 by_cases e4:(r.Box.Low.length:Int)=Zs q.Ze q.Atoms+1
 ·rw [if_pos e4]
  refine ⟨_,Zbdr q r.Plan hq,?_⟩
  by_cases e3:Zfo q.Ze q.Atoms r.Plan.Steps=Zs q.Ze q.Atoms
  ·rw [if_pos e3]
   rcases tf (Zm q.Ze q.Atoms) with e1 | e1
   ·have e5:Zs q.Ze q.Atoms=0:=by unfold Zs;rw [e1];rfl
    rw [if_neg (by omega)];simp [e1]
   ·have e5:=Zpc e1
    rw [if_pos e5]
    exact ⟨_,Zgu _ _ _,by simp [e1,e3,e4]⟩
  ·rw [if_neg e3];simp [e3]
 ·rw [if_neg e4];simp [e4]
def Zb4 (m:Zd) (q:Zc) (r:Region):Prop:=Zeq q.Ze q.Atoms r.Plan.Steps r.Box.Low r.Box.High r.Percent=true∧Zbv q.Ze q.Atoms (Zs q.Ze q.Atoms)=true∧Zcw m
theorem Zok {l:List Int} (h:Z5 l=true):l.length≤16:=by
 simp only [Z5,Bool.and_eq_true,decide_eq_true_eq] at h
 omega
theorem class_le {a:Int} (h:0≤a∧a≤7):inR (Zbk a) 0 4096=true:=by
 have:a=0∨a=1∨a=2∨a=3∨a=4∨a=5∨a=6∨a=7:=by omega
 rcases this with rfl | rfl | rfl | rfl | rfl | rfl | rfl | rfl <;> decide
theorem base_of {m:Zd} (hm:LeM m) (ha:Zcw m) {q:Zc} (hq:LeQ q) (hv:Zm q.Ze q.Atoms=true) {l:List Int} (h:Z5 l=true) (hl:(l.length:Int)=Zs q.Ze q.Atoms+1):Base m q (Zbj l):=by
 have hll:(l.length:Int)≤16:=by simp only [Z5,Bool.and_eq_true,decide_eq_true_eq] at h;exact h.2
 have hc:=Zbfa h
 refine ⟨hm,ha.2.1,hq,hv,by simp [Zbj];omega,hc,?_⟩
 unfold Zbo Zgx
 rw [hv]
 have:(Zbj l).all (fun x=>inR x 0 4096)=true:=by
  rw [List.all_eq_true]
  intro s hs
  obtain ⟨a,h1,rfl⟩:=hc s hs
  exact class_le h1
 rw [this]
 simp [Zbj,hl]
theorem Ztz {m:Zd} {q:Zc} {r:Region} (h:Zb4 m q r):Zm q.Ze q.Atoms=true∧Z5 r.Box.Low=true∧Z5 r.Box.High=true∧(r.Box.Low.length:Int)=Zs q.Ze q.Atoms+1∧Z9 r.Box.Low r.Box.High=true∧inR r.Percent 100 1000=true∧Zfo q.Ze q.Atoms r.Plan.Steps=Zs q.Ze q.Atoms:=by
 have h1:=h.1
 unfold Zeq Zg5 at h1
 simp only [Bool.and_eq_true,decide_eq_true_eq] at h1
 have h2:=h1.1.1.2.1
 unfold Z9 at h2
 simp only [Bool.and_eq_true,decide_eq_true_eq] at h2
 exact ⟨h1.1.1.1,h2.1.1.2,h2.1.2,h1.1.1.2.2,h1.1.1.2.1,h1.2,h1.1.2⟩
theorem Z3u {m:Zd} {q:Zc} {r:Region} (hm:LeM m) (hq:LeQ q) (h:Zb4 m q r):Base m q (Zbj r.Box.Low):=by
 obtain ⟨h1,h2,h3,h4,_⟩:=Ztz h
 exact base_of hm h.2.2 hq h1 h2 h4
def Zjp (m:Zd) (q:Zc) (r:Region):Bool:=decide (w (100*Zco m q.Ze q.Atoms r.Plan.Steps (Zbj r.Box.High))≤w (r.Percent*(opt m q (Zbj r.Box.Low)).Cost))
theorem Zt0 {m:Zd} {q:Zc} {r:Region} (hm:LeM m) (hq:LeQ q) (hr:LeR r) (h:Zb4 m q r):Zdr m q r=some (Bo (Zjp m q r),[]):=by
 obtain ⟨h1,h2,h3,h4,_⟩:=Ztz h
 have l1:=Zok h2
 have l2:=Zok h3
 exact Zbbl _ _ _ _ ⟨_,Zbeu m hm q hq r.Plan r.Box.High (by omega) h3,_,Zbf7 (by omega) h2 (Z3u hm hq h) h.2.2 h.2.1,rfl⟩
theorem Zt1 {m:Zd} {q:Zc} {r:Region} (hm:LeM m) (hq:LeQ q) (hr:LeR r) (h:Zb4 m q r):Zdz m q r=some (Bo (Zjp m q r),[]):=by
 obtain ⟨h1,h2,h3,h4,_⟩:=Ztz h
 have l1:=Zok h2
 have l2:=Zok h3
 have b:=Z3u hm hq h
 have hl:=Zmk b (Nat.le_refl (Zn q.Atoms).length)
 have hs:=Z2p r.Box.Low (by omega)
 rw [h2,if_pos rfl] at hs
 obtain ⟨fr,ht⟩:=Zbf0 b
 refine Zbc5 _ _ _ _ ⟨_,Zbfz q hq h1,_,hs,_,_,ht,_,Zl8 q hq,.inr ⟨_,_,_,_,Zbf4 _ _ (by omega) (Z3t b h.2.1).ne (Zty b (Nat.le_refl _)),_,Zbev m hm q hq r.Plan r.Box.High (by omega) h3,?_⟩⟩
 unfold Zjp opt tab
 rw [Int.mul_comm]
open Classical in
noncomputable def Zjq (m:Zd) (q:Zc) (r:Region):Bool:=decide (Zb4 m q r) && Zjp m q r
theorem Zbga {m:Zd} {q:Zc} {r:Region} (hm:LeM m) (hq:LeQ q) (hr:LeR r):Zkd m q r=some (Bo (@decide (Zb4 m q r) (Classical.propDecidable _)),[]):=by
 refine Zbax _ _ _ _ ⟨_,Zbf8 q hq r hr,?_⟩
 rcases tf (Zeq q.Ze q.Atoms r.Plan.Steps r.Box.Low r.Box.High r.Percent) with e | e
 ·rw [if_neg (by rw [e];simp)]
  have:¬ Zb4 m q r:=fun h=>by rw [h.1] at e;cases e
  simp [this]
 rw [if_pos e]
 refine ⟨_,Zgv q hq,_,Z2c q hq _,?_⟩
 rcases tf (Zbv q.Ze q.Atoms (Zs q.Ze q.Atoms)) with e2 | e2
 ·rw [if_neg (by rw [e2];simp)]
  have:¬ Zb4 m q r:=fun h=>by rw [h.2.1] at e2;cases e2
  simp [this]
 rw [if_pos e2]
 refine ⟨_,Z15 m hm,?_⟩
 by_cases ha:Zcw m
 ·have:Zb4 m q r:=⟨e,e2,ha⟩
  simp [this,ha]
 ·have:¬ Zb4 m q r:=fun h=>ha h.2.2
  simp [this,ha]
theorem Zbgb {m:Zd} {q:Zc} {r:Region} (hm:LeM m) (hq:LeQ q) (hr:LeR r):Zkt m q r=some (Bo (Zjq m q r),[]):=by
 refine Zbbm _ _ _ _ ⟨_,Zbga hm hq hr,?_⟩
 unfold Zjq
 by_cases h:Zb4 m q r
 ·rw [if_pos (by simp [h])]
  exact ⟨_,Zt0 hm hq hr h,by simp [h]⟩
 ·rw [if_neg (by simp [h])];simp [h]
theorem Zbgc {m:Zd} {q:Zc} {r:Region} (hm:LeM m) (hq:LeQ q) (hr:LeR r):Zlu m q r=some (Bo (Zjq m q r),[]):=by
 refine Zbc6 _ _ _ _ ⟨_,Zbd2 m hm,?_⟩
 unfold Zjq
 by_cases ha:Zcw m
 ·rw [if_pos (by simp [ha])]
  refine ⟨_,Zl8 q hq,_,Z2d q hq _,?_⟩
  rcases tf (Zbv q.Ze q.Atoms (Zs q.Ze q.Atoms)) with e2 | e2
  ·rw [if_neg (by rw [e2];simp)]
   have:¬ Zb4 m q r:=fun h=>by rw [h.2.1] at e2;cases e2
   simp [this]
  rw [if_pos e2]
  refine ⟨_,Zbf9 q hq r hr,?_⟩
  rcases tf (Zeq q.Ze q.Atoms r.Plan.Steps r.Box.Low r.Box.High r.Percent) with e | e
  ·rw [if_neg (by rw [e];simp)]
   have:¬ Zb4 m q r:=fun h=>by rw [h.1] at e;cases e
   simp [this]
  rw [if_pos e]
  have h:Zb4 m q r:=⟨e,e2,ha⟩
  exact ⟨_,Zt1 hm hq hr h,by simp [h]⟩
 ·rw [if_neg (by simp [ha])]
  have:¬ Zb4 m q r:=fun h=>ha h.2.2
  simp [this]
end Go.Proofs.YtbapkgocloaaeaaGreat
/- part: IK -/
namespace Go.Proofs.YtbapkgocloaaeaaGreat
open Go.AM
end Go.Proofs.YtbapkgocloaaeaaGreat
/- part: IL -/
namespace Go.Proofs.YtbapkgocloaaeaaGreat
open Go.AM
def dimD (lo hi:List Int) (k:Nat):Int:=hi.getD k 0 - lo.getD k 0+1
def locK (lo hi:List Int):Nat→Int→List Int→List Int
 | 0,_,out=>out
 | k+1,idx,out=>locK lo hi k (idx / dimD lo hi k) (out.set k (lo.getD k 0+idx % dimD lo hi k))
def locB (b:Box) (idx:Int):List Int:=locK b.Low b.High b.Low.length idx b.Low
theorem Zml {x:Int} (h1:-1000000000000000≤x) (h2:x≤1000000000000000):w x=x:=w_id (by omega) (by omega)
def locsB (b:Box):List (List Int):=(List.range (Zis b.Low b.High).toNat).map fun i:Nat=>locB b i
def holdsAt (m:Zd) (q:Zc) (r:Region) (l:List Int):Bool:=!decide (w (r.Percent*(opt m q (Zbj l)).Cost)<w (100*Zco m q.Ze q.Atoms r.Plan.Steps (Zbj l)))
open Classical in
noncomputable def holds (m:Zd) (q:Zc) (r:Region):Bool:=decide (Zb4 m q r) && (decide (Zis r.Box.Low r.Box.High≤400) && (locsB r.Box).all (holdsAt m q r))
end Go.Proofs.YtbapkgocloaaeaaGreat
/- part: GW -/
namespace Go.Proofs.YtbapkgocloaaeaaGreat
open Go.AM
theorem Zt2:∀ (l:List Int) (i:Nat) (e v:Int),l[i]?=some e→(l.set i v).sum=l.sum - e+v
 | [],i,e,v,h=>by simp at h
 | a::l,0,e,v,h=>by simp at h;subst h;simp;omega
 | a::l,i+1,e,v,h=>by simp at h;simp [Zt2 l i e v h];omega
theorem Zmm:∀ l:List Int,Zbl l=true→0≤l.sum∧l.sum≤7*l.length
 | [],h=>by simp
 | a::l,h=>by
  simp only [Zbl,List.all_cons,Bool.and_eq_true] at h
  have h1:=Zmm l h.2
  have h2:=h.1
  simp only [inR,decide_eq_true_eq] at h2
  simp only [List.sum_cons,List.length_cons]
  omega
theorem Zt3:∀ {xs ys:List Int} {i:Nat} {b v:Int},Zy xs ys=true→ys[i]?=some b→b≤v→Zy (xs.set i v) ys=true
 | [],ys,i,b,v,h,_,_=>by simp [Zy]
 | x::xs,[],i,b,v,h,hb,_=>by simp at hb
 | x::xs,y::ys,0,b,v,h,hb,hv=>by simp at hb;subst hb;simp [Zy] at h ⊢;exact ⟨hv,h.2⟩
 | x::xs,y::ys,i+1,b,v,h,hb,hv=>by simp at hb;simp [Zy] at h ⊢;exact ⟨h.1,Zt3 h.2 hb hv⟩
theorem Zt4:∀ {xs ys:List Int} {i:Nat} {b v:Int},Zy xs ys=true→xs[i]?=some b→v≤b→Zy xs (ys.set i v)=true
 | [],ys,i,b,v,h,hb,_=>by simp at hb
 | x::xs,[],i,b,v,h,hb,_=>by simp [Zy]
 | x::xs,y::ys,0,b,v,h,hb,hv=>by simp at hb;subst hb;simp [Zy] at h ⊢;exact ⟨hv,h.2⟩
 | x::xs,y::ys,i+1,b,v,h,hb,hv=>by simp at hb;simp [Zy] at h ⊢;exact ⟨h.1,Zt4 h.2 hb hv⟩
theorem Zt5:∀ {lo xs hi:List Int},xs.length=lo.length→xs.length=hi.length→Zy xs lo=true→Zy hi xs=true→Zbl lo=true→Zbl hi=true→Zbl xs=true
 | lo,[],hi,_,_,_,_,_,_=>by simp [Zbl]
 | [],x::xs,hi,h,_,_,_,_,_=>by simp at h
 | a::lo,x::xs,[],_,h,_,_,_,_=>by simp at h
 | a::lo,x::xs,b::hi,h1,h2,h3,h4,h5,h6=>by
  simp only [Zy,Bool.and_eq_true,decide_eq_true_eq] at h3 h4
  simp only [Zbl,List.all_cons,Bool.and_eq_true,inR,decide_eq_true_eq] at h5 h6 ⊢
  simp at h1 h2
  exact ⟨by omega,Zt5 (by omega) (by omega) h3.2 h4.2 h5.2 h6.2⟩
theorem Zt6:∀ {a b c:List Int},a.length=b.length→b.length=c.length→Zy a b=true→Zy b c=true→Zy a c=true
 | [],b,c,_,_,_,_=>by simp [Zy]
 | x::a,[],c,h,_,_,_=>by simp at h
 | x::a,y::b,[],_,h,_,_=>by simp at h
 | x::a,y::b,z::c,h1,h2,h3,h4=>by
  simp only [Zy,Bool.and_eq_true,decide_eq_true_eq] at h3 h4 ⊢
  simp at h1 h2
  exact ⟨by omega,Zt6 (by omega) (by omega) h3.2 h4.2⟩
theorem Z3v:∀ a:List Int,Zy a a=true
 | []=>by simp [Zy]
 | x::a=>by simp [Zy,Z3v a]
structure Inr (lim:Box) (lo hi:List Int):Prop where
 l1:lo.length=lim.Low.length
 l2:hi.length=lim.Low.length
 d1:Zy lo lim.Low=true
 d2:Zy hi lo=true
 d3:Zy lim.High hi=true
theorem Zjr {lo hi:List Int} (h:Z9 lo hi=true):0<lo.length∧lo.length≤16∧Zbl lo=true∧Zbl hi=true∧hi.length=lo.length∧Zy hi lo=true:=by
 unfold Z9 Z5 dom at h
 simp only [Bool.and_eq_true,decide_eq_true_eq] at h
 obtain ⟨⟨⟨h1,h2,h3⟩,h4,h5⟩,h6,h7⟩:=h
 exact ⟨h1,by omega,h2,h4,h6,h7⟩
theorem Inr.loc {lim:Box} {lo hi:List Int} (hL:Z9 lim.Low lim.High=true) (h:Inr lim lo hi):Zbl lo=true∧Zbl hi=true:=by
 obtain ⟨b1,b2,b3,b4,b5,b6⟩:=Zjr hL
 have e1:=h.l1
 have e2:=h.l2
 exact ⟨Zt5 (hi:=lim.High) (by omega) (by omega) h.d1 (Zt6 (by omega) (by omega) h.d3 h.d2) b3 b4,Zt5 (lo:=lim.Low) (by omega) (by omega) (Zt6 (by omega) (by omega) h.d2 h.d1) h.d3 b3 b4⟩
theorem Inr.valid {lim:Box} {lo hi:List Int} (hL:Z9 lim.Low lim.High=true) (h:Inr lim lo hi):Z9 lo hi=true:=by
 obtain ⟨b1,b2,b3,b4,b5,b6⟩:=Zjr hL
 obtain ⟨a1,a2⟩:=h.loc hL
 have e1:=h.l1
 have e2:=h.l2
 unfold Z9 Z5 dom
 rw [a1,a2,h.d2]
 simp
 omega
theorem Zjs {l:List Int} {i:Nat} (h:i<l.length):l[i]?=some l[i]:=by simp [h]
theorem loc_at {l:List Int} (h:Zbl l=true) {i:Nat} {e:Int} (he:l[i]?=some e):0≤e∧e≤7:=by
 unfold Zbl at h
 rw [List.all_eq_true] at h
 have:=h e (List.mem_of_getElem? he)
 simpa [inR] using this
theorem dom_at:∀ {xs ys:List Int} {i:Nat} {a b:Int},Zy xs ys=true→xs[i]?=some a→ys[i]?=some b→b≤a
 | [],ys,i,a,b,h,ha,hb=>by simp at ha
 | x::xs,[],i,a,b,h,ha,hb=>by simp at hb
 | x::xs,y::ys,0,a,b,h,ha,hb=>by simp at ha hb;subst ha hb;simp [Zy] at h;exact h.1
 | x::xs,y::ys,i+1,a,b,h,ha,hb=>by simp at ha hb;simp [Zy] at h;exact dom_at h.2 ha hb
def mu (lo hi:List Int):Nat:=(7*(hi.length:Int) - hi.sum+lo.sum).toNat
theorem Zol {l:List Int} {i:Nat} {e v:Int} (he:l[i]?=some e):(l.set i v).set i e=l:=by
 rw [List.set_set]
 obtain ⟨h,h2⟩:=List.getElem?_eq_some_iff.mp he
 rw [← h2]
 simp
theorem Inr.mu_lo {lim:Box} {lo hi:List Int} (hL:Z9 lim.Low lim.High=true) (h:Inr lim lo hi) {i:Nat} {e a:Int} (he:lo[i]?=some e) (ha:lim.Low[i]?=some a) (hlt:a<e):Inr lim (lo.set i (e - 1)) hi∧mu (lo.set i (e - 1)) hi<mu lo hi:=by
 have hi1:i<lo.length:=(List.getElem?_eq_some_iff.mp he).1
 have e1:=h.l1
 have e2:=h.l2
 have h':Inr lim (lo.set i (e - 1)) hi:=by
  refine ⟨by simp [e1],e2,Zt3 h.d1 ha (by omega),?_,h.d3⟩
  have g:=Zjs (l:=hi) (i:=i) (by omega)
  have:=dom_at h.d2 g he
  exact Zt4 h.d2 g (by omega)
 refine ⟨h',?_⟩
 obtain ⟨a1,a2⟩:=h'.loc hL
 have s1:=Zmm _ a1
 have s2:=Zmm _ a2
 have s3:=Zt2 lo i e (e - 1) he
 unfold mu
 omega
theorem Inr.mu_hi {lim:Box} {lo hi:List Int} (hL:Z9 lim.Low lim.High=true) (h:Inr lim lo hi) {i:Nat} {e a:Int} (he:hi[i]?=some e) (ha:lim.High[i]?=some a) (hlt:e<a):Inr lim lo (hi.set i (e+1))∧mu lo (hi.set i (e+1))<mu lo hi:=by
 have hi1:i<hi.length:=(List.getElem?_eq_some_iff.mp he).1
 have e1:=h.l1
 have e2:=h.l2
 have h':Inr lim lo (hi.set i (e+1)):=by
  refine ⟨e1,by simp [e2],h.d1,?_,Zt4 h.d3 ha (by omega)⟩
  have g:=Zjs (l:=lo) (i:=i) (by omega)
  have:=dom_at h.d2 he g
  exact Zt3 h.d2 g (by omega)
 refine ⟨h',?_⟩
 obtain ⟨a1,a2⟩:=h'.loc hL
 have s1:=Zmm _ a1
 have s2:=Zmm _ a2
 have s3:=Zt2 hi i e (e+1) he
 have s4:(hi.set i (e+1)).length=hi.length:=by simp
 unfold mu
 omega
def TI (m:Zd) (q:Zc) (lim:Box) (pc:Int) (st:List Zb) (lo hi loc:List Int) (again:Bool) (i:Int) (r:AV×List Blk):Prop :=
 ∃ e1:Int,lo[i.toNat]?=some e1∧∃ e2:Int,lim.Low[i.toNat]?=some e2∧if e2<e1 then (∃ v:Bool,Zdr m q (⟨(⟨st⟩:Plan),(⟨(lo.set i.toNat (w (e1 - 1))),hi⟩:Box),pc⟩:Region)=some (Bo v,[])∧if v=true then Zby m q lim 0 pc st (lo.set i.toNat (w (e1 - 1))) hi loc true (loc.length:Int) (w (i+1))=some r else Zby m q lim 0 pc st ((lo.set i.toNat (w (e1 - 1))).set i.toNat (w ((w (e1 - 1))+1))) hi loc again (loc.length:Int) (w (i+1))=some r) else Zby m q lim 0 pc st lo hi loc again (loc.length:Int) (w (i+1))=some r
def TS (m:Zd) (q:Zc) (lim:Box) (pc:Int) (st:List Zb) (lo hi loc:List Int) (again:Bool) (i:Int) (r:AV×List Blk):Prop :=
 ∃ e1:Int,lo[i.toNat]?=some e1∧∃ e2:Int,lim.Low[i.toNat]?=some e2∧if e2<e1 then (∃ v:Bool,Zdz m q (⟨(⟨st⟩:Plan),(⟨(lo.set i.toNat (w (e1 - 1))),hi⟩:Box),pc⟩:Region)=some (Bo v,[])∧if v=true then Zbz m q lim 0 pc st (lo.set i.toNat (w (e1 - 1))) hi loc true (w (i+1))=some r else Zbz m q lim 0 pc st ((lo.set i.toNat (w (e1 - 1))).set i.toNat (w ((w (e1 - 1))+1))) hi loc again (w (i+1))=some r) else Zbz m q lim 0 pc st lo hi loc again (w (i+1))=some r
theorem le_of {lim:Box} {lo hi:List Int} (hL:Z9 lim.Low lim.High=true) (h:Inr lim lo hi) (st:List Zb) (pc:Int):LeR ⟨⟨st⟩,⟨lo,hi⟩,pc⟩:=by
 obtain ⟨b1,b2,b3,b4,b5,b6⟩:=Zjr hL
 have e1:=h.l1
 have e2:=h.l2
 unfold LeR Le
 simp only
 omega
section
variable {m:Zd} {q:Zc} {lim:Box} {pc:Int} {st:List Zb} {loc:List Int} (hm:LeM m) (hq:LeQ q) (hL:Z9 lim.Low lim.High=true) (hR:∀ lo hi,Inr lim lo hi→Zb4 m q ⟨⟨st⟩,⟨lo,hi⟩,pc⟩) (hn:loc.length=lim.Low.length)
include hm hq hL hR hn
omit hn in
theorem Zt7 {lo hi:List Int} (h:Inr lim lo hi) (again:Bool) {i:Nat} (hi':i<lim.Low.length) {M:Nat} (hM:mu lo hi≤M) (hA:again=true→mu lo hi<M):∃ lo2 again2,Inr lim lo2 hi∧mu lo2 hi≤M∧(again2=true→mu lo2 hi<M)∧∀ r,(Zby m q lim 0 pc st lo2 hi loc again2 (loc.length:Int) ((i+1:Nat):Int)=some r→TI m q lim pc st lo hi loc again i r)∧(Zbz m q lim 0 pc st lo2 hi loc again2 ((i+1:Nat):Int)=some r→TS m q lim pc st lo hi loc again i r):=by
 obtain ⟨b1,b2,b3,b4,b5,b6⟩:=Zjr hL
 have e1:=h.l1
 have e2:=h.l2
 have wi:w ((i:Int)+1)=((i+1:Nat):Int):=by rw [Zml (by omega) (by omega)];omega
 have g1:=Zjs (l:=lo) (i:=i) (by omega)
 have g2:=Zjs (l:=lim.Low) (i:=i) (by omega)
 have b:=loc_at (h.loc hL).1 g1
 have w1:w (lo[i]'(by omega) - 1)=lo[i]'(by omega) - 1:=Zml (by omega) (by omega)
 have w2:w (lo[i]'(by omega) - 1+1)=lo[i]'(by omega):=by rw [Zml (by omega) (by omega)];omega
 unfold TI TS
 rw [wi]
 simp only [Int.toNat_natCast]
 by_cases hlt:lim.Low[i]<lo[i]'(by omega)
 ·obtain ⟨n1,n2⟩:=h.mu_lo hL g1 g2 hlt
  have p1:=Zt0 hm hq (le_of hL n1 st pc) (hR _ _ n1)
  have p2:=Zt1 hm hq (le_of hL n1 st pc) (hR _ _ n1)
  rcases tf (Zjp m q ⟨⟨st⟩,⟨lo.set i (lo[i]'(by omega) - 1),hi⟩,pc⟩) with e | e
  ·rw [e] at p1 p2
   refine ⟨lo,again,h,hM,hA,fun r=>⟨fun hr=>⟨_,g1,_,g2,?_⟩,fun hr=>⟨_,g1,_,g2,?_⟩⟩⟩
   ·rw [if_pos hlt,w1]
    refine ⟨_,p1,?_⟩
    rw [if_neg (by simp),w2,Zol g1];exact hr
   ·rw [if_pos hlt,w1]
    refine ⟨_,p2,?_⟩
    rw [if_neg (by simp),w2,Zol g1];exact hr
  ·rw [e] at p1 p2
   refine ⟨_,true,n1,by omega,fun _=>by omega,fun r=>⟨fun hr=>⟨_,g1,_,g2,?_⟩,fun hr=>⟨_,g1,_,g2,?_⟩⟩⟩
   ·rw [if_pos hlt,w1]
    refine ⟨_,p1,?_⟩
    rw [if_pos rfl];exact hr
   ·rw [if_pos hlt,w1]
    refine ⟨_,p2,?_⟩
    rw [if_pos rfl];exact hr
 ·exact ⟨lo,again,h,hM,hA,fun r=>⟨fun hr=>⟨_,g1,_,g2,by rw [if_neg hlt];exact hr⟩,fun hr=>⟨_,g1,_,g2,by rw [if_neg hlt];exact hr⟩⟩⟩
theorem dim_step {lo hi:List Int} (h:Inr lim lo hi) (again:Bool) {i:Nat} (hi':i<lim.Low.length) {M:Nat} (hM:mu lo hi≤M) (hA:again=true→mu lo hi<M):∃ lo2 hi2 again2,Inr lim lo2 hi2∧mu lo2 hi2≤M∧(again2=true→mu lo2 hi2<M)∧∀ r,(Zby m q lim 0 pc st lo2 hi2 loc again2 (loc.length:Int) ((i+1:Nat):Int)=some r→Zby m q lim 0 pc st lo hi loc again (loc.length:Int) i=some r)∧(Zbz m q lim 0 pc st lo2 hi2 loc again2 ((i+1:Nat):Int)=some r→Zbz m q lim 0 pc st lo hi loc again i=some r):=by
 obtain ⟨b1,b2,b3,b4,b5,b6⟩:=Zjr hL
 have e1:=h.l1
 have e2:=h.l2
 have c1:(i:Int)<(loc.length:Int):=by omega
 have g1:=Zjs (l:=hi) (i:=i) (by omega)
 have g2:=Zjs (l:=lim.High) (i:=i) (by omega)
 have b:=loc_at (h.loc hL).2 g1
 have w1:w (hi[i]'(by omega)+1)=hi[i]'(by omega)+1:=Zml (by omega) (by omega)
 have w2:w (hi[i]'(by omega)+1 - 1)=hi[i]'(by omega):=by rw [Zml (by omega) (by omega)];omega
 by_cases hlt:hi[i]'(by omega)<lim.High[i]'(by omega)
 ·obtain ⟨n1,n2⟩:=h.mu_hi hL g1 g2 hlt
  have p1:=Zt0 hm hq (le_of hL n1 st pc) (hR _ _ n1)
  have p2:=Zt1 hm hq (le_of hL n1 st pc) (hR _ _ n1)
  rcases tf (Zjp m q ⟨⟨st⟩,⟨lo,hi.set i (hi[i]'(by omega)+1)⟩,pc⟩) with e | e
  ·rw [e] at p1 p2
   obtain ⟨lo2,again2,s1,s2,s3,s4⟩:=Zt7 hm hq hL hR h again hi' hM hA
   refine ⟨lo2,hi,again2,s1,s2,s3,fun r=>⟨fun hr=>Znx _ _ _ _ _ _ _ _ _ _ _ _ _ ?_,fun hr=>Zny _ _ _ _ _ _ _ _ _ _ _ _ ?_⟩⟩
   ·rw [if_pos c1]
    refine ⟨by omega,_,g1,_,g2,?_⟩
    simp only [Int.toNat_natCast]
    rw [if_pos hlt,w1]
    refine ⟨_,p1,?_⟩
    rw [if_neg (by simp),w2,Zol g1]
    exact Z1u _ _ _ _ _ _ _ _ _ _ _ _ _ _ ⟨by omega,(s4 r).1 hr⟩
   ·rw [if_pos c1]
    refine ⟨by omega,_,g1,_,g2,?_⟩
    simp only [Int.toNat_natCast]
    rw [if_pos hlt,w1]
    refine ⟨_,p2,?_⟩
    rw [if_neg (by simp),w2,Zol g1]
    exact Z1w _ _ _ _ _ _ _ _ _ _ _ _ ⟨by omega,(s4 r).2 hr⟩
  ·rw [e] at p1 p2
   obtain ⟨lo2,again2,s1,s2,s3,s4⟩:=Zt7 hm hq hL hR n1 true hi' (M:=M) (by omega) (fun _=>by omega)
   refine ⟨lo2,_,again2,s1,s2,s3,fun r=>⟨fun hr=>Znx _ _ _ _ _ _ _ _ _ _ _ _ _ ?_,fun hr=>Zny _ _ _ _ _ _ _ _ _ _ _ _ ?_⟩⟩
   ·rw [if_pos c1]
    refine ⟨by omega,_,g1,_,g2,?_⟩
    simp only [Int.toNat_natCast]
    rw [if_pos hlt,w1]
    refine ⟨_,p1,?_⟩
    rw [if_pos rfl]
    exact Z1u _ _ _ _ _ _ _ _ _ _ _ _ _ _ ⟨by omega,(s4 r).1 hr⟩
   ·rw [if_pos c1]
    refine ⟨by omega,_,g1,_,g2,?_⟩
    simp only [Int.toNat_natCast]
    rw [if_pos hlt,w1]
    refine ⟨_,p2,?_⟩
    rw [if_pos rfl]
    exact Z1w _ _ _ _ _ _ _ _ _ _ _ _ ⟨by omega,(s4 r).2 hr⟩
 ·obtain ⟨lo2,again2,s1,s2,s3,s4⟩:=Zt7 hm hq hL hR h again hi' hM hA
  refine ⟨lo2,hi,again2,s1,s2,s3,fun r=>⟨fun hr=>Znx _ _ _ _ _ _ _ _ _ _ _ _ _ ?_,fun hr=>Zny _ _ _ _ _ _ _ _ _ _ _ _ ?_⟩⟩
  ·rw [if_pos c1]
   refine ⟨by omega,_,g1,_,g2,?_⟩
   rw [if_neg hlt]
   exact (s4 r).1 hr
  ·rw [if_pos c1]
   refine ⟨by omega,_,g1,_,g2,?_⟩
   rw [if_neg hlt]
   exact (s4 r).2 hr
def grown (st:List Zb) (lo hi:List Int) (pc:Int):AV×List Blk:=(.tup [.agg [.own 0,.own 1,.own 2,I pc],Bo true],[.arr 142 3 true (st.map Zb.c),.arr 3 1 true (lo.map ic),.arr 3 1 true (hi.map ic)])
omit hm hq hL hR hn in
theorem l_stop (lo hi:List Int):Zej m q lim 0 pc st lo hi loc false=some (grown st lo hi pc)∧Zek m q lim 0 pc st lo hi loc false=some (grown st lo hi pc) :=
 ⟨Z1t _ _ _ _ _ _ _ _ _ _ _ (by rw [if_neg (by simp)];rfl),Z1v _ _ _ _ _ _ _ _ _ _ _ (by rw [if_neg (by simp)];rfl)⟩
theorem pass {M:Nat} (IH:∀ lo hi,Inr lim lo hi→mu lo hi<M→∃ lo' hi',Inr lim lo' hi'∧Zej m q lim 0 pc st lo hi loc true=some (grown st lo' hi' pc)∧Zek m q lim 0 pc st lo hi loc true=some (grown st lo' hi' pc)):∀ i,i≤loc.length→∀ lo hi again,Inr lim lo hi→mu lo hi≤M→(again=true→mu lo hi<M)→∃ lo' hi',Inr lim lo' hi'∧Zby m q lim 0 pc st lo hi loc again (loc.length:Int) i=some (grown st lo' hi' pc)∧Zbz m q lim 0 pc st lo hi loc again i=some (grown st lo' hi' pc):=by
 refine down loc.length ?_ ?_
 ·intro lo hi again h1 h2 h3
  have:∃ lo' hi',Inr lim lo' hi'∧Zej m q lim 0 pc st lo hi loc again=some (grown st lo' hi' pc)∧Zek m q lim 0 pc st lo hi loc again=some (grown st lo' hi' pc):=by
   rcases tf again with rfl | rfl
   ·exact ⟨lo,hi,h1,l_stop lo hi⟩
   ·exact IH lo hi h1 (h3 rfl)
  obtain ⟨lo',hi',a1,a2,a3⟩:=this
  exact ⟨lo',hi',a1,Znx _ _ _ _ _ _ _ _ _ _ _ _ _ (by rw [if_neg (by omega)];exact a2),Zny _ _ _ _ _ _ _ _ _ _ _ _ (by rw [if_neg (by omega)];exact a3)⟩
 ·intro i hi' ih lo hi again h1 h2 h3
  obtain ⟨lo2,hi2,again2,s1,s2,s3,s4⟩:=dim_step hm hq hL hR hn h1 again (i:=i) (by omega) h2 h3
  obtain ⟨lo',hi',a1,a2,a3⟩:=ih lo2 hi2 again2 s1 s2 s3
  exact ⟨lo',hi',a1,(s4 _).1 a2,(s4 _).2 a3⟩
theorem grow_all:∀ M lo hi,Inr lim lo hi→mu lo hi<M→∃ lo' hi',Inr lim lo' hi'∧Zej m q lim 0 pc st lo hi loc true=some (grown st lo' hi' pc)∧Zek m q lim 0 pc st lo hi loc true=some (grown st lo' hi' pc):=by
 intro M
 induction M with
 | zero=>intro lo hi h h1;omega
 | succ M ih =>
  intro lo hi h h1
  obtain ⟨lo',hi',a1,a2,a3⟩:=pass hm hq hL hR hn ih 0 (by omega) lo hi false h (by omega) (by simp)
  exact ⟨lo',hi',a1,Z1t _ _ _ _ _ _ _ _ _ _ _ (by rw [if_pos rfl];exact a2),Z1v _ _ _ _ _ _ _ _ _ _ _ (by rw [if_pos rfl];exact a3)⟩
end
@[simp] theorem Zbgd (b:Box) (hb:LeX b) (l:List Int) (hl:Le l):Zlw b l=some (Bo (inBox b.Low b.High l),[]):=by
 refine Zbda _ _ _ ?_
 unfold inBox
 have h1:=Zs4 b hb
 have h2:=Zs3 l b.Low hl
 have h3:=Zs3 b.High l hb.2
 refine ⟨_,h1,?_⟩
 rcases tf (Z9 b.Low b.High) with e | e
 ·rw [e];simp
 rw [e,if_pos rfl]
 refine ⟨_,h2,?_⟩
 rcases tf (dom l b.Low) with e2 | e2
 ·rw [e2];simp
 rw [e2,if_pos rfl]
 exact ⟨_,h3,by simp⟩
@[simp] theorem Zbge (b:Box) (hb:LeX b) (l:List Int) (hl:Le l):Zl0 b l=some (Bo (inBox b.Low b.High l),[]):=by
 refine Zbdb _ _ _ ?_
 unfold inBox
 have h1:=Zs5 b hb
 have h2:=Zs2 l b.Low hl
 have h3:=Zs2 b.High l hb.2
 refine ⟨_,h1,?_⟩
 rcases tf (Z9 b.Low b.High) with e | e
 ·rw [e];simp
 rw [e,if_pos rfl]
 refine ⟨_,h2,?_⟩
 rcases tf (dom l b.Low) with e2 | e2
 ·rw [e2];simp
 rw [e2,if_pos rfl]
 exact ⟨_,h3,by simp⟩
def Zom:AV×List Blk:=(.tup [.agg [.t .nil,.t .nil,.t .nil,I 0],Bo false],[])
theorem Zbgf {m:Zd} {q:Zc} (hm:LeM m) (hq:LeQ q) (p:Plan) (hp:p.Steps.length≤4294967296) (b:Box) (hb:LeX b) (l:List Int) (hl0:l.length≤4294967296) (pc:Int):(Zi7 m q p b l pc=some Zom∧Zi8 m q p b l pc=some Zom)∨∃ lo hi,Inr b lo hi∧lo.length≤16∧hi.length≤16∧Zi7 m q p b l pc=some (grown p.Steps lo hi pc)∧Zi8 m q p b l pc=some (grown p.Steps lo hi pc):=by
 have hl:Le l:=by unfold Le;omega
 have c1:Zcu p=some (.agg [.own 0],[.arr 142 3 true (p.Steps.map Zb.c)]):=Z0k _ _ ⟨by omega,rfl⟩
 have c2:=Z14 l (by omega)
 have k1:=Zbgd b hb l hl
 have k2:=Zbge b hb l hl
 have hr:LeR ⟨p,⟨l,l⟩,pc⟩:=⟨hl,hl⟩
 have k3:=Zbgb hm hq hr
 have k4:=Zbgc hm hq hr
 have n1:p.Steps.length≤68719476736:=by omega
 have n2:l.length≤68719476736:=by omega
 rcases tf (inBox b.Low b.High l) with e | e
 ·rw [e] at k1 k2
  exact .inl ⟨Zs0 _ _ _ _ _ _ _ ⟨_,c1,_,c2,_,k1,by rw [if_neg (by simp)];rfl⟩,Zs1 _ _ _ _ _ _ _ ⟨n1,n2,_,k2,by rw [if_neg (by simp)];rfl⟩⟩
 rcases tf (Zjq m q ⟨p,⟨l,l⟩,pc⟩) with e2 | e2
 ·rw [e] at k1 k2
  rw [e2] at k3 k4
  exact .inl ⟨Zs0 _ _ _ _ _ _ _ ⟨_,c1,_,c2,_,k1,by rw [if_pos rfl];exact ⟨_,k3,by rw [if_neg (by simp)];rfl⟩⟩,Zs1 _ _ _ _ _ _ _ ⟨n1,n2,_,k2,by rw [if_pos rfl];exact ⟨_,k4,by rw [if_neg (by simp)];rfl⟩⟩⟩
 have e3:Zb4 m q ⟨p,⟨l,l⟩,pc⟩:=by
  unfold Zjq at e2
  simp only [Bool.and_eq_true,decide_eq_true_eq] at e2
  exact e2.1
 have e4:=e
 unfold inBox dom at e4
 simp only [Bool.and_eq_true,decide_eq_true_eq] at e4
 obtain ⟨⟨hL,f1,f2⟩,f3,f4⟩:=e4
 have h:Inr b l l:=⟨f1,f1,f2,Z3v l,f4⟩
 have hR:∀ lo hi,Inr b lo hi→Zb4 m q ⟨⟨p.Steps⟩,⟨lo,hi⟩,pc⟩:=by
  intro lo hi h'
  refine ⟨?_,e3.2⟩
  have v1:=e3.1
  have v2:=h'.valid hL
  have v3:=h'.l1
  unfold Zeq Zg5 at v1 ⊢
  simp only [Bool.and_eq_true,decide_eq_true_eq] at v1 ⊢
  obtain ⟨⟨⟨u1,u2,u3⟩,u4⟩,u5⟩:=v1
  exact ⟨⟨⟨u1,v2,by omega⟩,u4⟩,u5⟩
 obtain ⟨lo,hi,a1,a2,a3⟩:=grow_all hm hq hL hR (loc:=l) f1 _ l l h (Nat.lt_succ_self _)
 obtain ⟨b1,b2,_⟩:=Zjr hL
 have u1:=a1.l1
 have u2:=a1.l2
 rw [e] at k1 k2
 rw [e2] at k3 k4
 exact .inr ⟨lo,hi,a1,by omega,by omega,Zs0 _ _ _ _ _ _ _ ⟨_,c1,_,c2,_,k1,by rw [if_pos rfl];exact ⟨_,k3,by rw [if_pos rfl];exact a2⟩⟩,Zs1 _ _ _ _ _ _ _ ⟨n1,n2,_,k2,by rw [if_pos rfl];exact ⟨_,k4,by rw [if_pos rfl];exact a3⟩⟩⟩
end Go.Proofs.YtbapkgocloaaeaaGreat
/- part: K -/
namespace Go.Proofs.YtbapkgocloaaeaaGreat
open Go.AM
def Zg2:MFun:=⟨6,191,[.tmp 12],.r [.bx 6 0,.bx 7 1,.bx 8 2,.bx 9 3,.o 12 (.mov (.q false))] [4,5,6,7,8,9] (.wc [.m 28 4,.ll 29 28,.bk 30 .gtr 29 1048576] [4,5,6,7,8,9,30] 30 (.r [.o 12 (.mov (.q true))] [12] .ret) (.r [.mk' 13 1048576] [4,5,6,7,8,9,13] (.r [.ln 31 30 6,.m 32 13,.cl 33 13 [31,32],.m 13 33] [4,5,6,7,8,9,13] (.wc [.m 34 13,.bk 35 .lss 34 0] [4,5,6,7,8,9,13,35] 35 (.r [.o 12 (.mov (.q true))] [12] .ret) (.r [.ln 36 2 7,.m 37 13,.cl 38 14 [36,37],.m 13 38] [4,5,6,7,8,9,13] (.wc [.m 39 13,.bk 40 .lss 39 0] [4,5,6,7,8,9,13,40] 40 (.r [.o 12 (.mov (.q true))] [12] .ret) (.r [.ln 41 1 8,.m 42 13,.cl 43 15 [41,42],.m 13 43] [4,5,6,7,8,9,13] (.wc [.m 44 13,.bk 45 .lss 44 0] [4,5,6,7,8,9,13,45] 45 (.r [.o 12 (.mov (.q true))] [12] .ret) (.r [.ln 46 2 9,.m 47 13,.cl 48 57 [46,47],.m 13 48] [4,5,6,7,8,9,13] (.wc [.m 49 13,.bk 50 .lss 49 0] [4,5,6,7,8,9,50] 50 (.r [.o 12 (.mov (.q true))] [12] .ret) (.seq (.drw [.ln 52 30 6,.xl 53 18 [52],.ln 54 2 7,.xl 55 19 [54],.ln 56 1 8,.xl 57 20 [56],.ln 58 2 9,.xl 59 58 [58],.m 60 4,.xl 61 59 [60],.m 62 5,.cl 63 48 [53,55,57,59,61,62],.m 51 63,.o 64 (.ext (.s 51) 0),.o 65 (.ext (.s 51) 1),.o 14 (.alloc [.t .nil,.t .nil,.t .nil,.t .z]),.st 4 14 64,.m 15 65] [[],[0],[],[2,1],[],[4,3],[],[6,5],[],[8,7],[],[1,3,5,7,9,10,9],[11],[12],[12],[],[15,13,11,0,1,2,3,4,5,6,7,8,9,10,11,12,13,15],[14,16,0,1,2,3,4,5,6,7,8,9,10,11,12,13,14,15,16]] [4,5,6,7,8,9,14,15]) (.r [.ln 66 30 6,.xl 67 18 [66],.o 16 (.alloc [.t .z,.t .z,.t .z,.t .z,.t .z,.t .nil,.t .z,.t .z,.t .z,.t .z,.t .z,.t .nil,.t .z,.t .z,.t .z,.t .z,.t .z,.t .nil,.t .z,.t .z,.t .z,.t .z,.t .z,.t .nil,.t .z,.t .z,.t .z,.t .z,.t .z,.t .nil]),.st 30 16 67] [4,5,6,7,8,9,14,15,16] (.r [.ln 68 2 7,.xl 69 19 [68],.o 17 (.alloc [.t .z,.t .nil]),.st 2 17 69] [4,5,6,7,8,9,14,15,16,17] (.r [.ln 70 1 8,.xl 71 20 [70],.o 18 (.alloc [.t .nil]),.st 1 18 71] [4,5,6,7,8,9,14,15,16,17,18] (.r [.ln 72 2 9,.xl 73 58 [72],.o 19 (.alloc [.t .nil,.t .nil]),.st 2 19 73] [4,5,6,7,8,9,14,15,16,17,18,19] (.r [.m 74 4,.xl 75 59 [74],.m 20 75] [4,5,6,7,8,9,14,15,16,17,18,19,20] (.r [.ln 77 30 16,.ln 78 2 17,.ln 79 1 18,.ln 80 2 19,.m 81 20,.m 82 5,.xl 83 47 [77,78,79,80,81,82],.m 76 83,.o 84 (.ext (.s 76) 0),.o 85 (.ext (.s 76) 1),.o 21 (.alloc [.t .nil,.t .nil,.t .nil,.t .z]),.st 4 21 84,.m 22 85] [4,5,6,7,8,9,14,15,16,17,18,19,20,21,22] (.wc [.ln 86 4 21,.ln 87 4 14,.cl 88 38 [86,87],.o 89 (.un .not (.s 88)),.m 90 89,.h 91 90 (.mov (.s 22)),.h 92 90 (.mov (.s 15)),.h 93 90 (.beq true (.s 91) (.s 92)),.o 94 (.pick (.s 90) (.q true) (.s 93))] [4,5,6,7,8,9,14,15,16,17,18,19,20,21,22,94] 94 (.r [.o 12 (.mov (.q false))] [12] .ret) (.seq (.seq (.drw [.ln 95 30 16,.ln 96 30 6,.xl 97 18 [96],.cl 98 24 [95,97],.o 99 (.un .not (.s 98))] [[],[],[1],[0,2,2],[3]] [4,5,6,7,8,9,14,15,16,17,18,19,20,21,22,99]) (.cond (.s 99) (.r [.o 12 (.mov (.q false))] [12] .ret) .skip)) (.seq (.seq (.drw [.ln 100 2 17,.ln 101 2 7,.xl 102 19 [101],.cl 103 25 [100,102],.o 104 (.un .not (.s 103))] [[],[],[1],[0,2,2],[3]] [4,5,6,7,8,9,14,15,16,17,18,19,20,21,22,104]) (.cond (.s 104) (.r [.o 12 (.mov (.q false))] [12] .ret) .skip)) (.seq (.seq (.drw [.ln 105 1 18,.ln 106 1 8,.xl 107 20 [106],.cl 108 26 [105,107],.o 109 (.un .not (.s 108))] [[],[],[1],[0,2,2],[3]] [4,5,6,7,8,9,14,15,16,17,18,19,20,21,22,109]) (.cond (.s 109) (.r [.o 12 (.mov (.q false))] [12] .ret) .skip)) (.seq (.seq (.drw [.ln 110 2 19,.ln 111 2 9,.xl 112 58 [111],.cl 113 60 [110,112],.o 114 (.un .not (.s 113))] [[],[],[1],[0,2,2],[3]] [4,5,6,7,8,9,14,15,16,17,18,19,20,21,22,114]) (.cond (.s 114) (.r [.o 12 (.mov (.q false))] [12] .ret) .skip)) (.wc [.m 115 20,.m 116 4,.xl 117 59 [116],.cl 118 23 [115,117],.o 119 (.un .not (.s 118))] [4,5,6,7,8,9,14,15,16,17,18,19,20,21,22,119] 119 (.r [.o 12 (.mov (.q false))] [12] .ret) (.r [.mk' 23 1] [4,5,6,7,8,9,14,15,16,17,18,19,20,21,22,23] (.r [.ln 120 30 16,.m 121 23,.o 122 (.icall 28 [.s 120,.s 121]),.m 23 122] [4,5,6,7,8,9,14,15,17,18,19,20,21,22,23] (.r [.ln 123 2 17,.m 124 23,.o 125 (.icall 29 [.s 123,.s 124]),.m 23 125] [4,5,6,7,8,9,14,15,18,19,20,21,22,23] (.r [.ln 126 1 18,.m 127 23,.o 128 (.icall 30 [.s 126,.s 127]),.m 23 128] [4,5,6,7,8,9,14,15,19,20,21,22,23] (.r [.ln 129 2 19,.m 130 23,.o 131 (.icall 61 [.s 129,.s 130]),.m 23 131] [4,5,6,7,8,9,14,15,20,21,22,23] (.r [.m 132 20,.m 133 23,.o 134 (.icall 32 [.s 132,.s 133]),.m 23 134] [4,5,6,7,8,9,14,15,21,22,23] (.wc [.m 135 23,.bk 136 .lss 135 0,.m 137 136,.h 138 137 (.ln 4 21),.h 139 137 (.ln 4 14),.h 140 137 (.cl 38 [138,139]),.h 141 137 (.un .not (.s 140)),.o 142 (.pick (.s 137) (.q true) (.s 141)),.m 143 142,.h 144 143 (.mov (.s 22)),.h 145 143 (.mov (.s 15)),.h 146 143 (.beq true (.s 144) (.s 145)),.o 147 (.pick (.s 143) (.q true) (.s 146))] [4,5,6,7,8,9,14,15,21,147] 147 (.r [.o 12 (.mov (.q false))] [12] .ret) (.r [.mk' 24 1] [4,5,6,7,8,9,14,15,21,24] (.r [.ln 148 4 21,.m 149 24,.o 150 (.icall 62 [.s 148,.s 149]),.m 24 150] [4,5,6,7,8,9,14,15,21,24] (.r [.mk' 25 1] [4,5,6,7,8,9,14,15,21,24,25] (.r [.ln 151 4 21,.m 152 25,.cl 153 63 [151,152],.m 25 153] [4,5,6,7,8,9,14,15,21,24,25] (.wc [.m 154 25,.bk 155 .lss 154 0] [4,5,6,7,8,9,14,15,21,24,25,155] 155 (.r [.o 12 (.mov (.q false))] [12] .ret) (.wc [.m 156 25,.m 157 24,.b 158 .neq 156 157] [4,5,6,7,8,9,14,15,21,24,158] 158 (.r [.o 12 (.mov (.q false))] [12] .ret) (.seq (.drw [.ln 160 30 6,.xl 161 18 [160],.ln 162 2 7,.xl 163 19 [162],.ln 164 1 8,.xl 165 20 [164],.ln 166 2 9,.xl 167 58 [166],.m 168 4,.xl 169 59 [168],.m 170 5,.xl 171 47 [161,163,165,167,169,170],.m 159 171,.o 172 (.ext (.s 159) 0),.o 173 (.ext (.s 159) 1),.o 26 (.alloc [.t .nil,.t .nil,.t .nil,.t .z]),.st 4 26 172,.m 27 173] [[],[0],[],[2,1],[],[4,3],[],[6,5],[],[8,7],[],[1,3,5,7,9,10,9],[11],[12],[12],[],[15,13,11,0,1,2,3,4,5,6,7,8,9,10,11,12,13,15],[14,16,0,1,2,3,4,5,6,7,8,9,10,11,12,13,14,15,16]] [14,15,21,24,26,27]) (.wc [.ln 174 4 26,.ln 175 4 14,.cl 176 38 [174,175],.o 177 (.un .not (.s 176)),.m 178 177,.h 179 178 (.mov (.s 27)),.h 180 178 (.mov (.s 15)),.h 181 178 (.beq true (.s 179) (.s 180)),.o 182 (.pick (.s 178) (.q true) (.s 181))] [21,24,182] 182 (.r [.o 12 (.mov (.q false))] [12] .ret) (.r [.mk' 25 1] [21,24,25] (.r [.ln 183 4 21,.m 184 25,.cl 185 63 [183,184],.m 25 185] [24,25] (.wc [.m 186 25,.bk 187 .lss 186 0] [24,25,187] 187 (.r [.o 12 (.mov (.q false))] [12] .ret) (.wc [.m 188 25,.m 189 24,.b 190 .neq 188 189] [190] 190 (.r [.o 12 (.mov (.q false))] [12] .ret) (.r [.o 12 (.mov (.q true))] [12] .ret)))))))))))))))))))))))))))))))))))))))))))⟩
theorem Zbgg:tbl 8=some Zg2:=tblOf_eq Tryz.func8 (by kernel_rfl) (by kernel_rfl)
def Z3w:MFun:=⟨2,36,[.tmp 4],.r [.bx 2 0,.mk' 4 0] [1,2] (.r [.fa 5 0 2,.ln 6 6 5,.m 7 1,.cl 8 84 [6,7],.m 1 8] [1,2] (.wc [.m 9 1,.bk 10 .lss 9 0] [1,2,10] 10 (.r [.mk' 4 (-1)] [4] .ret) (.r [.fa 11 6 2,.ln 12 6 11,.m 13 1,.cl 14 84 [12,13],.m 1 14] [1,2] (.wc [.m 15 1,.bk 16 .lss 15 0] [1,2,16] 16 (.r [.mk' 4 (-1)] [4] .ret) (.r [.fa 17 12 2,.ln 18 6 17,.m 19 1,.cl 20 84 [18,19],.m 1 20] [1,2] (.wc [.m 21 1,.bk 22 .lss 21 0] [1,2,22] 22 (.r [.mk' 4 (-1)] [4] .ret) (.r [.fa 23 18 2,.ln 24 6 23,.m 25 1,.cl 26 84 [24,25],.m 1 26] [1,2] (.wc [.m 27 1,.bk 28 .lss 27 0] [1,2,28] 28 (.r [.mk' 4 (-1)] [4] .ret) (.r [.fa 29 24 2,.ln 30 6 29,.m 31 1,.cl 32 84 [30,31],.m 1 32] [1] (.wc [.m 33 1,.bk 34 .lss 33 0] [1,34] 34 (.r [.mk' 4 (-1)] [4] .ret) (.r [.m 35 1,.m 4 35] [4] .ret)))))))))))⟩
theorem Zbgh:tbl 13=some Z3w:=tblOf_eq Tryz.func13 (by kernel_rfl) (by kernel_rfl)
def Z3x:MFun:=⟨2,12,[.tmp 4],.r [.bx 2 0,.mk' 4 0] [1,2] (.r [.fa 5 1 2,.l 6 5,.m 7 1,.cl 8 85 [6,7],.m 1 8] [1] (.wc [.m 9 1,.bk 10 .lss 9 0] [1,10] 10 (.r [.mk' 4 (-1)] [4] .ret) (.r [.m 11 1,.m 4 11] [4] .ret)))⟩
theorem Zbgi:tbl 14=some Z3x:=tblOf_eq Tryz.func14 (by kernel_rfl) (by kernel_rfl)
def Z3y:MFun:=⟨2,12,[.tmp 4],.r [.bx 2 0,.mk' 4 0] [1,2] (.r [.fa 5 0 2,.l 6 5,.m 7 1,.cl 8 86 [6,7],.m 1 8] [1] (.wc [.m 9 1,.bk 10 .lss 9 0] [1,10] 10 (.r [.mk' 4 (-1)] [4] .ret) (.r [.m 11 1,.m 4 11] [4] .ret)))⟩
theorem Zbgj:tbl 15=some Z3y:=tblOf_eq Tryz.func15 (by kernel_rfl) (by kernel_rfl)
def Z3z:MFun:=⟨2,12,[.tmp 4],.r [.mk' 4 0] [0,1] (.r [.m 5 1,.m 6 0,.ll 7 6,.b 8 .sub 5 7,.m 1 8] [1] (.wc [.m 9 1,.bk 10 .lss 9 0] [1,10] 10 (.r [.mk' 4 (-1)] [4] .ret) (.r [.m 11 1,.m 4 11] [4] .ret)))⟩
theorem Zbgk:tbl 16=some Z3z:=tblOf_eq Tryz.func16 (by kernel_rfl) (by kernel_rfl)
def Z30:MFun:=⟨1,25,[.cell 2 (some 30)],.r [.bx 1 0,.o 2 (.alloc [.t .z,.t .z,.t .z,.t .z,.t .z,.t .nil,.t .z,.t .z,.t .z,.t .z,.t .z,.t .nil,.t .z,.t .z,.t .z,.t .z,.t .z,.t .nil,.t .z,.t .z,.t .z,.t .z,.t .z,.t .nil,.t .z,.t .z,.t .z,.t .z,.t .z,.t .nil])] [1,2] (.r [.o 3 (.alloc [.t .z,.t .z,.t .z,.t .z,.t .z,.t .nil,.t .z,.t .z,.t .z,.t .z,.t .z,.t .nil,.t .z,.t .z,.t .z,.t .z,.t .z,.t .nil,.t .z,.t .z,.t .z,.t .z,.t .z,.t .nil,.t .z,.t .z,.t .z,.t .z,.t .z,.t .nil])] [1,2,3] (.r [.fa 4 0 1,.ln 5 6 4,.cl 6 95 [5],.fa 7 0 3,.st 6 7 6] [1,2,3] (.r [.fa 8 6 1,.ln 9 6 8,.cl 10 95 [9],.fa 11 6 3,.st 6 11 10] [1,2,3] (.r [.fa 12 12 1,.ln 13 6 12,.cl 14 95 [13],.fa 15 12 3,.st 6 15 14] [1,2,3] (.r [.fa 16 18 1,.ln 17 6 16,.cl 18 95 [17],.fa 19 18 3,.st 6 19 18] [1,2,3] (.r [.fa 20 24 1,.ln 21 6 20,.cl 22 95 [21],.fa 23 24 3,.st 6 23 22] [2,3] (.r [.ln 24 30 3,.st 30 2 24] [2] .ret)))))))⟩
theorem Zbgl:tbl 18=some Z30:=tblOf_eq Tryz.func18 (by kernel_rfl) (by kernel_rfl)
def Z31:MFun:=⟨1,12,[.cell 2 (some 2)],.r [.bx 1 0,.o 2 (.alloc [.t .z,.t .nil])] [1,2] (.r [.o 3 (.alloc [.t .z,.t .nil])] [1,2,3] (.r [.fa 4 0 1,.l 5 4,.fa 6 0 3,.st 1 6 5] [1,2,3] (.r [.fa 7 1 1,.l 8 7,.cl 9 96 [8],.fa 10 1 3,.st 1 10 9] [2,3] (.r [.ln 11 2 3,.st 2 2 11] [2] .ret))))⟩
theorem Zbgm:tbl 19=some Z31:=tblOf_eq Tryz.func19 (by kernel_rfl) (by kernel_rfl)
def Z32:MFun:=⟨1,9,[.cell 2 (some 1)],.r [.bx 1 0,.o 2 (.alloc [.t .nil])] [1,2] (.r [.o 3 (.alloc [.t .nil])] [1,2,3] (.r [.fa 4 0 1,.l 5 4,.cl 6 97 [5],.fa 7 0 3,.st 1 7 6] [2,3] (.r [.ln 8 1 3,.st 1 2 8] [2] .ret)))⟩
theorem Zbgn:tbl 20=some Z32:=tblOf_eq Tryz.func20 (by kernel_rfl) (by kernel_rfl)
def Zmn:MCode :=.we [.m 11 5,.m 12 0,.ll 13 12,.b 14 .lss 11 13] [0,1,5,14] 14 0 (.seq (.block 1 (.seq (.drw [.m 17 0,.m 18 5,.ia 19 1 17 18,.l 20 19,.m 21 1,.m 22 5,.ia 23 1 21 22,.l 24 23,.b 25 .neq 20 24] [[],[],[0,1],[2],[],[],[4,5],[6],[3,7]] [0,1,5,25]) (.cond (.s 25) (.r [.o 4 (.mov (.q false))] [4] .ret) .skip))) (.reg [.m 15 5,.bk 16 .add 15 1,.m 5 16] [0,1,5]))
def Zon:MFun:=⟨2,26,[.tmp 4],.r [.o 4 (.mov (.q false))] [0,1] (.wc [.m 6 0,.ll 7 6,.m 8 1,.ll 9 8,.b 10 .neq 7 9] [0,1,10] 10 (.r [.o 4 (.mov (.q false))] [4] .ret) (.seq (.r [.mk' 5 0] [0,1,5] (.block 0 (.loop [0,1,5] Zmn))) (.r [.o 4 (.mov (.q true))] [4] .ret)))⟩
theorem Z33:tbl 23=some Zon:=tblOf_eq Tryz.func23 (by kernel_rfl) (by kernel_rfl)
def Z34:MFun:=⟨2,35,[.tmp 4],.r [.bx 2 0,.bx 3 1,.o 4 (.mov (.q false))] [2,3] (.wc [.fa 5 0 2,.ln 6 6 5,.fa 7 0 3,.ln 8 6 7,.cl 9 109 [6,8],.o 10 (.un .not (.s 9))] [2,3,10] 10 (.r [.o 4 (.mov (.q false))] [4] .ret) (.wc [.fa 11 6 2,.ln 12 6 11,.fa 13 6 3,.ln 14 6 13,.cl 15 109 [12,14],.o 16 (.un .not (.s 15))] [2,3,16] 16 (.r [.o 4 (.mov (.q false))] [4] .ret) (.wc [.fa 17 12 2,.ln 18 6 17,.fa 19 12 3,.ln 20 6 19,.cl 21 109 [18,20],.o 22 (.un .not (.s 21))] [2,3,22] 22 (.r [.o 4 (.mov (.q false))] [4] .ret) (.wc [.fa 23 18 2,.ln 24 6 23,.fa 25 18 3,.ln 26 6 25,.cl 27 109 [24,26],.o 28 (.un .not (.s 27))] [2,3,28] 28 (.r [.o 4 (.mov (.q false))] [4] .ret) (.wc [.fa 29 24 2,.ln 30 6 29,.fa 31 24 3,.ln 32 6 31,.cl 33 109 [30,32],.o 34 (.un .not (.s 33))] [34] 34 (.r [.o 4 (.mov (.q false))] [4] .ret) (.r [.o 4 (.mov (.q true))] [4] .ret))))))⟩
theorem Zbgo:tbl 24=some Z34:=tblOf_eq Tryz.func24 (by kernel_rfl) (by kernel_rfl)
def Z35:MFun:=⟨2,16,[.tmp 4],.r [.bx 2 0,.bx 3 1,.o 4 (.mov (.q false))] [2,3] (.wc [.fa 5 0 2,.l 6 5,.fa 7 0 3,.l 8 7,.b 9 .neq 6 8] [2,3,9] 9 (.r [.o 4 (.mov (.q false))] [4] .ret) (.wc [.fa 10 1 2,.l 11 10,.fa 12 1 3,.l 13 12,.cl 14 110 [11,13],.o 15 (.un .not (.s 14))] [15] 15 (.r [.o 4 (.mov (.q false))] [4] .ret) (.r [.o 4 (.mov (.q true))] [4] .ret)))⟩
theorem Zbgp:tbl 25=some Z35:=tblOf_eq Tryz.func25 (by kernel_rfl) (by kernel_rfl)
def Zt8:MFun:=⟨2,11,[.tmp 4],.r [.bx 2 0,.bx 3 1,.o 4 (.mov (.q false))] [2,3] (.wc [.fa 5 0 2,.l 6 5,.fa 7 0 3,.l 8 7,.cl 9 111 [6,8],.o 10 (.un .not (.s 9))] [10] 10 (.r [.o 4 (.mov (.q false))] [4] .ret) (.r [.o 4 (.mov (.q true))] [4] .ret))⟩
theorem Z36:tbl 26=some Zt8:=tblOf_eq Tryz.func26 (by kernel_rfl) (by kernel_rfl)
def Z37:MFun:=⟨2,26,[.tmp 4],.r [.bx 2 0,.mk' 4 0] [1,2] (.r [.fa 5 0 2,.ln 6 6 5,.m 7 1,.o 8 (.icall 113 [.s 6,.s 7]),.m 1 8] [1,2] (.r [.fa 9 6 2,.ln 10 6 9,.m 11 1,.o 12 (.icall 113 [.s 10,.s 11]),.m 1 12] [1,2] (.r [.fa 13 12 2,.ln 14 6 13,.m 15 1,.o 16 (.icall 113 [.s 14,.s 15]),.m 1 16] [1,2] (.r [.fa 17 18 2,.ln 18 6 17,.m 19 1,.o 20 (.icall 113 [.s 18,.s 19]),.m 1 20] [1,2] (.r [.fa 21 24 2,.ln 22 6 21,.m 23 1,.o 24 (.icall 113 [.s 22,.s 23]),.m 1 24] [1] (.r [.m 25 1,.m 4 25] [4] .ret))))))⟩
theorem Zbgq:tbl 28=some Z37:=tblOf_eq Tryz.func28 (by kernel_rfl) (by kernel_rfl)
def Z38:MFun:=⟨2,10,[.tmp 4],.r [.bx 2 0,.mk' 4 0] [1,2] (.r [.fa 5 1 2,.o 6 (.loadU (.s 5)),.m 7 1,.o 8 (.scall 114 [.s 6,.s 7] (.s 5)),.m 1 8] [1] (.r [.m 9 1,.m 4 9] [4] .ret))⟩
theorem Zbgr:tbl 29=some Z38:=tblOf_eq Tryz.func29 (by kernel_rfl) (by kernel_rfl)
def Zt9:MFun:=⟨2,10,[.tmp 4],.r [.bx 2 0,.mk' 4 0] [1,2] (.r [.fa 5 0 2,.o 6 (.loadU (.s 5)),.m 7 1,.o 8 (.scall 115 [.s 6,.s 7] (.s 5)),.m 1 8] [1] (.r [.m 9 1,.m 4 9] [4] .ret))⟩
theorem Z39:tbl 30=some Zt9:=tblOf_eq Tryz.func30 (by kernel_rfl) (by kernel_rfl)
def Zjt:MCode :=.we [.m 6 5,.m 7 0,.ll 8 7,.b 9 .lss 6 8] [0,1,5,9] 9 0 (.seq (.block 1 (.r [.m 12 0,.m 13 5,.m 14 1,.ia 15 1 12 13,.st 1 15 14] [0,1,5] (.reg [.m 16 1,.bk 17 .add 16 1,.m 1 17] [0,1,5]))) (.reg [.m 10 5,.bk 11 .add 10 1,.m 5 11] [0,1,5]))
def Zoo:MFun:=⟨2,19,[.tmp 4],.r [.mk' 4 0] [0,1] (.seq (.r [.mk' 5 0] [0,1,5] (.block 0 (.loop [0,1,5] Zjt))) (.r [.m 18 1,.m 4 18] [4] .ret))⟩
theorem Zua:tbl 32=some Zoo:=tblOf_eq Tryz.func32 (by kernel_rfl) (by kernel_rfl)
def Zmo:MCode :=.we [.m 6 5,.m 7 0,.ll 8 7,.b 9 .lss 6 8] [0,1,5,9] 9 0 (.seq (.block 1 (.wc [.m 12 0,.m 13 5,.ia 14 1 12 13,.l 15 14,.m 16 1,.b 17 .neq 15 16] [0,1,5,17] 17 (.r [.mk' 4 (-1)] [4] .ret) (.reg [.m 18 1,.bk 19 .add 18 1,.m 1 19] [0,1,5]))) (.reg [.m 10 5,.bk 11 .add 10 1,.m 5 11] [0,1,5]))
def Zub:MFun:=⟨2,21,[.tmp 4],.r [.mk' 4 0] [0,1] (.seq (.r [.mk' 5 0] [0,1,5] (.block 0 (.loop [0,1,5] Zmo))) (.r [.m 20 1,.m 4 20] [4] .ret))⟩
theorem Z4a:tbl 33=some Zub:=tblOf_eq Tryz.func33 (by kernel_rfl) (by kernel_rfl)
def Zuc:MFun:=⟨2,22,[.tmp 4],.r [.bx 2 0,.bx 3 1,.o 4 (.mov (.q false))] [2,3] (.wc [.fa 5 0 2,.ln 6 1 5,.fa 7 0 3,.ln 8 1 7,.cl 9 26 [6,8],.o 10 (.un .not (.s 9))] [2,3,10] 10 (.r [.o 4 (.mov (.q false))] [4] .ret) (.wc [.fa 11 1 2,.ln 12 2 11,.fa 13 1 3,.ln 14 2 13,.cl 15 60 [12,14],.o 16 (.un .not (.s 15))] [2,3,16] 16 (.r [.o 4 (.mov (.q false))] [4] .ret) (.wc [.fa 17 3 2,.l 18 17,.fa 19 3 3,.l 20 19,.b 21 .neq 18 20] [21] 21 (.r [.o 4 (.mov (.q false))] [4] .ret) (.r [.o 4 (.mov (.q true))] [4] .ret))))⟩
theorem Z4b:tbl 38=some Zuc:=tblOf_eq Tryz.func38 (by kernel_rfl) (by kernel_rfl)
def Z4c:MFun:=⟨2,18,[.tmp 4],.r [.bx 2 0,.mk' 4 0] [1,2] (.r [.fa 5 0 2,.l 6 5,.m 7 1,.cl 8 151 [6,7],.m 1 8] [1,2] (.wc [.m 9 1,.bk 10 .lss 9 0] [1,2,10] 10 (.r [.mk' 4 (-1)] [4] .ret) (.r [.fa 11 1 2,.l 12 11,.m 13 1,.cl 14 151 [12,13],.m 1 14] [1] (.wc [.m 15 1,.bk 16 .lss 15 0] [1,16] 16 (.r [.mk' 4 (-1)] [4] .ret) (.r [.m 17 1,.m 4 17] [4] .ret)))))⟩
theorem Zbgs:tbl 57=some Z4c:=tblOf_eq Tryz.func57 (by kernel_rfl) (by kernel_rfl)
def Z4d:MFun:=⟨1,13,[.cell 2 (some 2)],.r [.bx 1 0,.o 2 (.alloc [.t .nil,.t .nil])] [1,2] (.r [.o 3 (.alloc [.t .nil,.t .nil])] [1,2,3] (.r [.fa 4 0 1,.l 5 4,.cl 6 59 [5],.fa 7 0 3,.st 1 7 6] [1,2,3] (.r [.fa 8 1 1,.l 9 8,.cl 10 59 [9],.fa 11 1 3,.st 1 11 10] [2,3] (.r [.ln 12 2 3,.st 2 2 12] [2] .ret))))⟩
theorem Zbgt:tbl 58=some Z4d:=tblOf_eq Tryz.func58 (by kernel_rfl) (by kernel_rfl)
def Zop:MCode :=.we [.m 8 4,.m 9 0,.ll 10 9,.b 11 .lss 8 10] [0,3,4,11] 11 0 (.seq (.block 1 (.reg [.m 14 3,.m 15 4,.m 16 0,.m 17 4,.ia 18 1 16 17,.l 19 18,.ia 20 1 14 15,.st 1 20 19] [0,3,4])) (.reg [.m 12 4,.bk 13 .add 12 1,.m 4 13] [0,3,4]))
def Z4e:MFun:=⟨1,22,[.tmp 2],.r [.o 2 (.mov (.c (.t .nil)))] [0] (.r [.m 5 0,.ll 6 5,.o 7 (.mkslice 3 1 8 [.z] (.s 6) (.s 6)),.m 3 7] [0,3] (.seq (.r [.mk' 4 0] [0,3,4] (.block 0 (.loop [0,3,4] Zop))) (.r [.m 21 3,.m 2 21] [2] .ret)))⟩
theorem Zbgu:tbl 59=some Z4e:=tblOf_eq Tryz.func59 (by kernel_rfl) (by kernel_rfl)
def Zud:MFun:=⟨2,17,[.tmp 4],.r [.bx 2 0,.bx 3 1,.o 4 (.mov (.q false))] [2,3] (.wc [.fa 5 0 2,.l 6 5,.fa 7 0 3,.l 8 7,.cl 9 23 [6,8],.o 10 (.un .not (.s 9))] [2,3,10] 10 (.r [.o 4 (.mov (.q false))] [4] .ret) (.wc [.fa 11 1 2,.l 12 11,.fa 13 1 3,.l 14 13,.cl 15 23 [12,14],.o 16 (.un .not (.s 15))] [16] 16 (.r [.o 4 (.mov (.q false))] [4] .ret) (.r [.o 4 (.mov (.q true))] [4] .ret)))⟩
theorem Z4f:tbl 60=some Zud:=tblOf_eq Tryz.func60 (by kernel_rfl) (by kernel_rfl)
def Zue:MFun:=⟨2,14,[.tmp 4],.r [.bx 2 0,.mk' 4 0] [1,2] (.r [.fa 5 0 2,.o 6 (.loadU (.s 5)),.m 7 1,.o 8 (.scall 32 [.s 6,.s 7] (.s 5)),.m 1 8] [1,2] (.r [.fa 9 1 2,.o 10 (.loadU (.s 9)),.m 11 1,.o 12 (.scall 32 [.s 10,.s 11] (.s 9)),.m 1 12] [1] (.r [.m 13 1,.m 4 13] [4] .ret)))⟩
theorem Z4g:tbl 61=some Zue:=tblOf_eq Tryz.func61 (by kernel_rfl) (by kernel_rfl)
def Zuf:MFun:=⟨2,14,[.tmp 4],.r [.bx 2 0,.mk' 4 0] [1,2] (.r [.fa 5 0 2,.ln 6 1 5,.m 7 1,.o 8 (.icall 30 [.s 6,.s 7]),.m 1 8] [1,2] (.r [.fa 9 1 2,.ln 10 2 9,.m 11 1,.o 12 (.icall 61 [.s 10,.s 11]),.m 1 12] [1] (.r [.m 13 1,.m 4 13] [4] .ret)))⟩
theorem Z4h:tbl 62=some Zuf:=tblOf_eq Tryz.func62 (by kernel_rfl) (by kernel_rfl)
def Zug:MFun:=⟨2,18,[.tmp 4],.r [.bx 2 0,.mk' 4 0] [1,2] (.r [.fa 5 0 2,.ln 6 1 5,.m 7 1,.cl 8 83 [6,7],.m 1 8] [1,2] (.wc [.m 9 1,.bk 10 .lss 9 0] [1,2,10] 10 (.r [.mk' 4 (-1)] [4] .ret) (.r [.fa 11 1 2,.ln 12 2 11,.m 13 1,.cl 14 152 [12,13],.m 1 14] [1] (.wc [.m 15 1,.bk 16 .lss 15 0] [1,16] 16 (.r [.mk' 4 (-1)] [4] .ret) (.r [.m 17 1,.m 4 17] [4] .ret)))))⟩
theorem Z4i:tbl 63=some Zug:=tblOf_eq Tryz.func63 (by kernel_rfl) (by kernel_rfl)
def Zuh:MFun:=⟨2,12,[.tmp 4],.r [.bx 2 0,.mk' 4 0] [1,2] (.r [.fa 5 0 2,.l 6 5,.m 7 1,.cl 8 177 [6,7],.m 1 8] [1] (.wc [.m 9 1,.bk 10 .lss 9 0] [1,10] 10 (.r [.mk' 4 (-1)] [4] .ret) (.r [.m 11 1,.m 4 11] [4] .ret)))⟩
theorem Z4j:tbl 83=some Zuh:=tblOf_eq Tryz.func83 (by kernel_rfl) (by kernel_rfl)
def Z4k:MFun:=⟨2,12,[.tmp 4],.r [.bx 2 0,.mk' 4 0] [1,2] (.r [.fa 5 5 2,.l 6 5,.m 7 1,.cl 8 178 [6,7],.m 1 8] [1] (.wc [.m 9 1,.bk 10 .lss 9 0] [1,10] 10 (.r [.mk' 4 (-1)] [4] .ret) (.r [.m 11 1,.m 4 11] [4] .ret)))⟩
theorem Zbgv:tbl 84=some Z4k:=tblOf_eq Tryz.func84 (by kernel_rfl) (by kernel_rfl)
def Zin:MCode :=.we [.m 12 5,.m 13 0,.ll 14 13,.b 15 .lss 12 14] [0,1,5,15] 15 0 (.seq (.block 1 (.r [.m 18 0,.m 19 5,.ia 20 2 18 19,.ln 21 2 20,.m 22 1,.cl 23 179 [21,22],.m 1 23] [0,1,5] (.r [.m 24 1,.bk 25 .lss 24 0] [0,1,5,25] (.cond (.s 25) (.r [.mk' 4 (-1)] [4] .ret) .skip)))) (.reg [.m 16 5,.bk 17 .add 16 1,.m 5 17] [0,1,5]))
def Z4l:MFun:=⟨2,27,[.tmp 4],.r [.mk' 4 0] [0,1] (.r [.m 6 1,.m 7 0,.ll 8 7,.b 9 .sub 6 8,.m 1 9] [0,1] (.wc [.m 10 1,.bk 11 .lss 10 0] [0,1,11] 11 (.r [.mk' 4 (-1)] [4] .ret) (.seq (.r [.mk' 5 0] [0,1,5] (.block 0 (.loop [0,1,5] Zin))) (.r [.m 26 1,.m 4 26] [4] .ret))))⟩
theorem Zbgw:tbl 85=some Z4l:=tblOf_eq Tryz.func85 (by kernel_rfl) (by kernel_rfl)
def Z4m:MFun:=⟨2,12,[.tmp 4],.r [.mk' 4 0] [0,1] (.r [.m 5 1,.m 6 0,.ll 7 6,.b 8 .sub 5 7,.m 1 8] [1] (.wc [.m 9 1,.bk 10 .lss 9 0] [1,10] 10 (.r [.mk' 4 (-1)] [4] .ret) (.r [.m 11 1,.m 4 11] [4] .ret)))⟩
theorem Zbgx:tbl 86=some Z4m:=tblOf_eq Tryz.func86 (by kernel_rfl) (by kernel_rfl)
def Z4n:MFun:=⟨1,24,[.cell 2 (some 6)],.r [.bx 1 0,.o 2 (.alloc [.t .z,.t .z,.t .z,.t .z,.t .z,.t .nil])] [1,2] (.r [.o 3 (.alloc [.t .z,.t .z,.t .z,.t .z,.t .z,.t .nil])] [1,2,3] (.r [.fa 4 0 1,.l 5 4,.fa 6 0 3,.st 1 6 5] [1,2,3] (.r [.fa 7 1 1,.l 8 7,.fa 9 1 3,.st 1 9 8] [1,2,3] (.r [.fa 10 2 1,.l 11 10,.fa 12 2 3,.st 1 12 11] [1,2,3] (.r [.fa 13 3 1,.l 14 13,.fa 15 3 3,.st 1 15 14] [1,2,3] (.r [.fa 16 4 1,.l 17 16,.fa 18 4 3,.st 1 18 17] [1,2,3] (.r [.fa 19 5 1,.l 20 19,.cl 21 186 [20],.fa 22 5 3,.st 1 22 21] [2,3] (.r [.ln 23 6 3,.st 6 2 23] [2] .ret))))))))⟩
theorem Zbgy:tbl 95=some Z4n:=tblOf_eq Tryz.func95 (by kernel_rfl) (by kernel_rfl)
def Zoq:MCode :=.we [.m 8 4,.m 9 0,.ll 10 9,.b 11 .lss 8 10] [0,3,4,11] 11 0 (.seq (.block 1 (.reg [.m 14 3,.m 15 4,.m 16 0,.m 17 4,.ia 18 2 16 17,.ln 19 2 18,.cl 20 187 [19],.ia 21 2 14 15,.st 2 21 20] [0,3,4])) (.reg [.m 12 4,.bk 13 .add 12 1,.m 4 13] [0,3,4]))
def Z4o:MFun:=⟨1,23,[.tmp 2],.r [.o 2 (.mov (.c (.t .nil)))] [0] (.r [.m 5 0,.ll 6 5,.o 7 (.mkslice 223 2 40 [.str ⟨#[]⟩,.lst 1 []] (.s 6) (.s 6)),.m 3 7] [0,3] (.seq (.r [.mk' 4 0] [0,3,4] (.block 0 (.loop [0,3,4] Zoq))) (.r [.m 22 3,.m 2 22] [2] .ret)))⟩
theorem Zbgz:tbl 96=some Z4o:=tblOf_eq Tryz.func96 (by kernel_rfl) (by kernel_rfl)
def Zor:MCode :=.we [.m 8 4,.m 9 0,.ll 10 9,.b 11 .lss 8 10] [0,3,4,11] 11 0 (.seq (.block 1 (.reg [.m 14 3,.m 15 4,.m 16 0,.m 17 4,.ia 18 3 16 17,.ln 19 3 18,.cl 20 188 [19],.ia 21 3 14 15,.st 3 21 20] [0,3,4])) (.reg [.m 12 4,.bk 13 .add 12 1,.m 4 13] [0,3,4]))
def Z4p:MFun:=⟨1,23,[.tmp 2],.r [.o 2 (.mov (.c (.t .nil)))] [0] (.r [.m 5 0,.ll 6 5,.o 7 (.mkslice 142 3 24 [.z,.z,.z] (.s 6) (.s 6)),.m 3 7] [0,3] (.seq (.r [.mk' 4 0] [0,3,4] (.block 0 (.loop [0,3,4] Zor))) (.r [.m 22 3,.m 2 22] [2] .ret)))⟩
theorem Zbg0:tbl 97=some Z4p:=tblOf_eq Tryz.func97 (by kernel_rfl) (by kernel_rfl)
def Z4q:MFun:=⟨2,36,[.tmp 4],.r [.bx 2 0,.bx 3 1,.o 4 (.mov (.q false))] [2,3] (.wc [.fa 5 0 2,.l 6 5,.fa 7 0 3,.l 8 7,.b 9 .neq 6 8] [2,3,9] 9 (.r [.o 4 (.mov (.q false))] [4] .ret) (.wc [.fa 10 1 2,.l 11 10,.fa 12 1 3,.l 13 12,.b 14 .neq 11 13] [2,3,14] 14 (.r [.o 4 (.mov (.q false))] [4] .ret) (.wc [.fa 15 2 2,.l 16 15,.fa 17 2 3,.l 18 17,.b 19 .neq 16 18] [2,3,19] 19 (.r [.o 4 (.mov (.q false))] [4] .ret) (.wc [.fa 20 3 2,.l 21 20,.fa 22 3 3,.l 23 22,.b 24 .neq 21 23] [2,3,24] 24 (.r [.o 4 (.mov (.q false))] [4] .ret) (.wc [.fa 25 4 2,.l 26 25,.fa 27 4 3,.l 28 27,.b 29 .neq 26 28] [2,3,29] 29 (.r [.o 4 (.mov (.q false))] [4] .ret) (.wc [.fa 30 5 2,.l 31 30,.fa 32 5 3,.l 33 32,.cl 34 197 [31,33],.o 35 (.un .not (.s 34))] [35] 35 (.r [.o 4 (.mov (.q false))] [4] .ret) (.r [.o 4 (.mov (.q true))] [4] .ret)))))))⟩
theorem Zbg1:tbl 109=some Z4q:=tblOf_eq Tryz.func109 (by kernel_rfl) (by kernel_rfl)
def Zos:MCode :=.we [.m 11 5,.m 12 0,.ll 13 12,.b 14 .lss 11 13] [0,1,5,14] 14 0 (.seq (.block 1 (.seq (.drw [.m 17 0,.m 18 5,.ia 19 2 17 18,.ln 20 2 19,.m 21 1,.m 22 5,.ia 23 2 21 22,.ln 24 2 23,.cl 25 198 [20,24],.o 26 (.un .not (.s 25))] [[],[],[0,1],[2],[],[],[4,5],[6],[3,7],[8]] [0,1,5,26]) (.cond (.s 26) (.r [.o 4 (.mov (.q false))] [4] .ret) .skip))) (.reg [.m 15 5,.bk 16 .add 15 1,.m 5 16] [0,1,5]))
def Zui:MFun:=⟨2,27,[.tmp 4],.r [.o 4 (.mov (.q false))] [0,1] (.wc [.m 6 0,.ll 7 6,.m 8 1,.ll 9 8,.b 10 .neq 7 9] [0,1,10] 10 (.r [.o 4 (.mov (.q false))] [4] .ret) (.seq (.r [.mk' 5 0] [0,1,5] (.block 0 (.loop [0,1,5] Zos))) (.r [.o 4 (.mov (.q true))] [4] .ret)))⟩
theorem Zbg2:tbl 110=some Zui:=tblOf_eq Tryz.func110 (by kernel_rfl) (by kernel_rfl)
def Zmp:MCode :=.we [.m 11 5,.m 12 0,.ll 13 12,.b 14 .lss 11 13] [0,1,5,14] 14 0 (.seq (.block 1 (.seq (.drw [.m 17 0,.m 18 5,.ia 19 3 17 18,.ln 20 3 19,.m 21 1,.m 22 5,.ia 23 3 21 22,.ln 24 3 23,.cl 25 199 [20,24],.o 26 (.un .not (.s 25))] [[],[],[0,1],[2],[],[],[4,5],[6],[3,7],[8]] [0,1,5,26]) (.cond (.s 26) (.r [.o 4 (.mov (.q false))] [4] .ret) .skip))) (.reg [.m 15 5,.bk 16 .add 15 1,.m 5 16] [0,1,5]))
def Zot:MFun:=⟨2,27,[.tmp 4],.r [.o 4 (.mov (.q false))] [0,1] (.wc [.m 6 0,.ll 7 6,.m 8 1,.ll 9 8,.b 10 .neq 7 9] [0,1,10] 10 (.r [.o 4 (.mov (.q false))] [4] .ret) (.seq (.r [.mk' 5 0] [0,1,5] (.block 0 (.loop [0,1,5] Zmp))) (.r [.o 4 (.mov (.q true))] [4] .ret)))⟩
theorem Z4r:tbl 111=some Zot:=tblOf_eq Tryz.func111 (by kernel_rfl) (by kernel_rfl)
def Z4s:MFun:=⟨2,10,[.tmp 4],.r [.bx 2 0,.mk' 4 0] [1,2] (.r [.fa 5 5 2,.o 6 (.loadU (.s 5)),.m 7 1,.o 8 (.scall 200 [.s 6,.s 7] (.s 5)),.m 1 8] [1] (.r [.m 9 1,.m 4 9] [4] .ret))⟩
theorem Zbg3:tbl 113=some Z4s:=tblOf_eq Tryz.func113 (by kernel_rfl) (by kernel_rfl)
def Zou:MCode :=.we [.m 6 5,.m 7 0,.ll 8 7,.b 9 .lss 6 8] [0,1,5,9] 9 0 (.seq (.block 1 (.r [.m 12 0,.m 13 5,.m 14 1,.cl 15 201 [14],.ia 16 2 12 13,.fa 17 0 16,.st 1 17 15] [0,1,5] (.r [.m 18 1,.bk 19 .add 18 1,.m 1 19] [0,1,5] (.reg [.m 20 0,.m 21 5,.ia 22 2 20 21,.fa 23 1 22,.o 24 (.loadU (.s 23)),.m 25 1,.o 26 (.scall 32 [.s 24,.s 25] (.s 23)),.m 1 26] [0,1,5])))) (.reg [.m 10 5,.bk 11 .add 10 1,.m 5 11] [0,1,5]))
def Z4t:MFun:=⟨2,28,[.tmp 4],.r [.mk' 4 0] [0,1] (.seq (.r [.mk' 5 0] [0,1,5] (.block 0 (.loop [0,1,5] Zou))) (.r [.m 27 1,.m 4 27] [4] .ret))⟩
theorem Zbg4:tbl 114=some Z4t:=tblOf_eq Tryz.func114 (by kernel_rfl) (by kernel_rfl)
def Zmq:MCode :=.we [.m 6 5,.m 7 0,.ll 8 7,.b 9 .lss 6 8] [0,1,5,9] 9 0 (.seq (.block 1 (.r [.m 12 0,.m 13 5,.m 14 1,.ia 15 3 12 13,.fa 16 0 15,.st 1 16 14] [0,1,5] (.r [.m 17 1,.bk 18 .add 17 1,.m 1 18] [0,1,5] (.r [.m 19 0,.m 20 5,.m 21 1,.ia 22 3 19 20,.fa 23 1 22,.st 1 23 21] [0,1,5] (.r [.m 24 1,.bk 25 .add 24 1,.m 1 25] [0,1,5] (.r [.m 26 0,.m 27 5,.m 28 1,.ia 29 3 26 27,.fa 30 2 29,.st 1 30 28] [0,1,5] (.reg [.m 31 1,.bk 32 .add 31 1,.m 1 32] [0,1,5]))))))) (.reg [.m 10 5,.bk 11 .add 10 1,.m 5 11] [0,1,5]))
def Zuj:MFun:=⟨2,34,[.tmp 4],.r [.mk' 4 0] [0,1] (.seq (.r [.mk' 5 0] [0,1,5] (.block 0 (.loop [0,1,5] Zmq))) (.r [.m 33 1,.m 4 33] [4] .ret))⟩
theorem Z4u:tbl 115=some Zuj:=tblOf_eq Tryz.func115 (by kernel_rfl) (by kernel_rfl)
def Z4v:MFun:=⟨2,12,[.tmp 4],.r [.mk' 4 0] [0,1] (.r [.m 5 1,.m 6 0,.ll 7 6,.b 8 .sub 5 7,.m 1 8] [1] (.wc [.m 9 1,.bk 10 .lss 9 0] [1,10] 10 (.r [.mk' 4 (-1)] [4] .ret) (.r [.m 11 1,.m 4 11] [4] .ret)))⟩
theorem Zbg5:tbl 151=some Z4v:=tblOf_eq Tryz.func151 (by kernel_rfl) (by kernel_rfl)
def Zuk:MFun:=⟨2,18,[.tmp 4],.r [.bx 2 0,.mk' 4 0] [1,2] (.r [.fa 5 0 2,.l 6 5,.m 7 1,.cl 8 33 [6,7],.m 1 8] [1,2] (.wc [.m 9 1,.bk 10 .lss 9 0] [1,2,10] 10 (.r [.mk' 4 (-1)] [4] .ret) (.r [.fa 11 1 2,.l 12 11,.m 13 1,.cl 14 33 [12,13],.m 1 14] [1] (.wc [.m 15 1,.bk 16 .lss 15 0] [1,16] 16 (.r [.mk' 4 (-1)] [4] .ret) (.r [.m 17 1,.m 4 17] [4] .ret)))))⟩
theorem Z4w:tbl 152=some Zuk:=tblOf_eq Tryz.func152 (by kernel_rfl) (by kernel_rfl)
def Zmr:MCode :=.we [.m 6 5,.m 7 0,.ll 8 7,.b 9 .lss 6 8] [0,1,5,9] 9 0 (.seq (.block 1 (.wc [.m 12 0,.m 13 5,.ia 14 3 12 13,.fa 15 0 14,.l 16 15,.m 17 1,.b 18 .neq 16 17] [0,1,5,18] 18 (.r [.mk' 4 (-1)] [4] .ret) (.r [.m 19 1,.bk 20 .add 19 1,.m 1 20] [0,1,5] (.wc [.m 21 0,.m 22 5,.ia 23 3 21 22,.fa 24 1 23,.l 25 24,.m 26 1,.b 27 .neq 25 26] [0,1,5,27] 27 (.r [.mk' 4 (-1)] [4] .ret) (.r [.m 28 1,.bk 29 .add 28 1,.m 1 29] [0,1,5] (.wc [.m 30 0,.m 31 5,.ia 32 3 30 31,.fa 33 2 32,.l 34 33,.m 35 1,.b 36 .neq 34 35] [0,1,5,36] 36 (.r [.mk' 4 (-1)] [4] .ret) (.reg [.m 37 1,.bk 38 .add 37 1,.m 1 38] [0,1,5]))))))) (.reg [.m 10 5,.bk 11 .add 10 1,.m 5 11] [0,1,5]))
def Zul:MFun:=⟨2,40,[.tmp 4],.r [.mk' 4 0] [0,1] (.seq (.r [.mk' 5 0] [0,1,5] (.block 0 (.loop [0,1,5] Zmr))) (.r [.m 39 1,.m 4 39] [4] .ret))⟩
theorem Z4x:tbl 177=some Zul:=tblOf_eq Tryz.func177 (by kernel_rfl) (by kernel_rfl)
def Z4y:MFun:=⟨2,12,[.tmp 4],.r [.mk' 4 0] [0,1] (.r [.m 5 1,.m 6 0,.ll 7 6,.b 8 .sub 5 7,.m 1 8] [1] (.wc [.m 9 1,.bk 10 .lss 9 0] [1,10] 10 (.r [.mk' 4 (-1)] [4] .ret) (.r [.m 11 1,.m 4 11] [4] .ret)))⟩
theorem Zbg6:tbl 178=some Z4y:=tblOf_eq Tryz.func178 (by kernel_rfl) (by kernel_rfl)
def Z4z:MFun:=⟨2,19,[.tmp 4],.r [.bx 2 0,.mk' 4 0] [1,2] (.r [.m 5 1,.fa 6 0 2,.l 7 6,.o 8 (.len true (.s 7)),.b 9 .sub 5 8,.m 1 9] [1,2] (.wc [.m 10 1,.bk 11 .lss 10 0] [1,2,11] 11 (.r [.mk' 4 (-1)] [4] .ret) (.r [.fa 12 1 2,.l 13 12,.m 14 1,.cl 15 151 [13,14],.m 1 15] [1] (.wc [.m 16 1,.bk 17 .lss 16 0] [1,17] 17 (.r [.mk' 4 (-1)] [4] .ret) (.r [.m 18 1,.m 4 18] [4] .ret)))))⟩
theorem Zbg7:tbl 179=some Z4z:=tblOf_eq Tryz.func179 (by kernel_rfl) (by kernel_rfl)
def Zov:MCode :=.we [.m 8 4,.m 9 0,.ll 10 9,.b 11 .lss 8 10] [0,3,4,11] 11 0 (.seq (.block 1 (.reg [.m 14 3,.m 15 4,.m 16 0,.m 17 4,.ia 18 2 16 17,.ln 19 2 18,.cl 20 256 [19],.ia 21 2 14 15,.st 2 21 20] [0,3,4])) (.reg [.m 12 4,.bk 13 .add 12 1,.m 4 13] [0,3,4]))
def Z40:MFun:=⟨1,23,[.tmp 2],.r [.o 2 (.mov (.c (.t .nil)))] [0] (.r [.m 5 0,.ll 6 5,.o 7 (.mkslice 221 2 16 [.z,.z] (.s 6) (.s 6)),.m 3 7] [0,3] (.seq (.r [.mk' 4 0] [0,3,4] (.block 0 (.loop [0,3,4] Zov))) (.r [.m 22 3,.m 2 22] [2] .ret)))⟩
theorem Zbg8:tbl 186=some Z40:=tblOf_eq Tryz.func186 (by kernel_rfl) (by kernel_rfl)
def Z41:MFun:=⟨1,12,[.cell 2 (some 2)],.r [.bx 1 0,.o 2 (.alloc [.t (.str ⟨#[]⟩),.t .nil])] [1,2] (.r [.o 3 (.alloc [.t (.str ⟨#[]⟩),.t .nil])] [1,2,3] (.r [.fa 4 0 1,.l 5 4,.fa 6 0 3,.st 1 6 5] [1,2,3] (.r [.fa 7 1 1,.l 8 7,.cl 9 59 [8],.fa 10 1 3,.st 1 10 9] [2,3] (.r [.ln 11 2 3,.st 2 2 11] [2] .ret))))⟩
theorem Zbg9:tbl 187=some Z41:=tblOf_eq Tryz.func187 (by kernel_rfl) (by kernel_rfl)
def Z42:MFun:=⟨1,14,[.cell 2 (some 3)],.r [.bx 1 0,.o 2 (.alloc [.t .z,.t .z,.t .z])] [1,2] (.r [.o 3 (.alloc [.t .z,.t .z,.t .z])] [1,2,3] (.r [.fa 4 0 1,.l 5 4,.fa 6 0 3,.st 1 6 5] [1,2,3] (.r [.fa 7 1 1,.l 8 7,.fa 9 1 3,.st 1 9 8] [1,2,3] (.r [.fa 10 2 1,.l 11 10,.fa 12 2 3,.st 1 12 11] [2,3] (.r [.ln 13 3 3,.st 3 2 13] [2] .ret)))))⟩
theorem Zbha:tbl 188=some Z42:=tblOf_eq Tryz.func188 (by kernel_rfl) (by kernel_rfl)
def Zow:MCode :=.we [.m 11 5,.m 12 0,.ll 13 12,.b 14 .lss 11 13] [0,1,5,14] 14 0 (.seq (.block 1 (.seq (.drw [.m 17 0,.m 18 5,.ia 19 2 17 18,.ln 20 2 19,.m 21 1,.m 22 5,.ia 23 2 21 22,.ln 24 2 23,.cl 25 266 [20,24],.o 26 (.un .not (.s 25))] [[],[],[0,1],[2],[],[],[4,5],[6],[3,7],[8]] [0,1,5,26]) (.cond (.s 26) (.r [.o 4 (.mov (.q false))] [4] .ret) .skip))) (.reg [.m 15 5,.bk 16 .add 15 1,.m 5 16] [0,1,5]))
def Zum:MFun:=⟨2,27,[.tmp 4],.r [.o 4 (.mov (.q false))] [0,1] (.wc [.m 6 0,.ll 7 6,.m 8 1,.ll 9 8,.b 10 .neq 7 9] [0,1,10] 10 (.r [.o 4 (.mov (.q false))] [4] .ret) (.seq (.r [.mk' 5 0] [0,1,5] (.block 0 (.loop [0,1,5] Zow))) (.r [.o 4 (.mov (.q true))] [4] .ret)))⟩
theorem Zbhb:tbl 197=some Zum:=tblOf_eq Tryz.func197 (by kernel_rfl) (by kernel_rfl)
def Z43:MFun:=⟨2,16,[.tmp 4],.r [.bx 2 0,.bx 3 1,.o 4 (.mov (.q false))] [2,3] (.wc [.fa 5 0 2,.l 6 5,.fa 7 0 3,.l 8 7,.b 9 .neq 6 8] [2,3,9] 9 (.r [.o 4 (.mov (.q false))] [4] .ret) (.wc [.fa 10 1 2,.l 11 10,.fa 12 1 3,.l 13 12,.cl 14 23 [11,13],.o 15 (.un .not (.s 14))] [15] 15 (.r [.o 4 (.mov (.q false))] [4] .ret) (.r [.o 4 (.mov (.q true))] [4] .ret)))⟩
theorem Zbhc:tbl 198=some Z43:=tblOf_eq Tryz.func198 (by kernel_rfl) (by kernel_rfl)
def Z44:MFun:=⟨2,20,[.tmp 4],.r [.bx 2 0,.bx 3 1,.o 4 (.mov (.q false))] [2,3] (.wc [.fa 5 0 2,.l 6 5,.fa 7 0 3,.l 8 7,.b 9 .neq 6 8] [2,3,9] 9 (.r [.o 4 (.mov (.q false))] [4] .ret) (.wc [.fa 10 1 2,.l 11 10,.fa 12 1 3,.l 13 12,.b 14 .neq 11 13] [2,3,14] 14 (.r [.o 4 (.mov (.q false))] [4] .ret) (.wc [.fa 15 2 2,.l 16 15,.fa 17 2 3,.l 18 17,.b 19 .neq 16 18] [19] 19 (.r [.o 4 (.mov (.q false))] [4] .ret) (.r [.o 4 (.mov (.q true))] [4] .ret))))⟩
theorem Zbhd:tbl 199=some Z44:=tblOf_eq Tryz.func199 (by kernel_rfl) (by kernel_rfl)
def Zox:MCode :=.we [.m 6 5,.m 7 0,.ll 8 7,.b 9 .lss 6 8] [0,1,5,9] 9 0 (.seq (.block 1 (.r [.m 12 0,.m 13 5,.m 14 1,.ia 15 2 12 13,.fa 16 0 15,.st 1 16 14] [0,1,5] (.r [.m 17 1,.bk 18 .add 17 1,.m 1 18] [0,1,5] (.r [.m 19 0,.m 20 5,.m 21 1,.ia 22 2 19 20,.fa 23 1 22,.st 1 23 21] [0,1,5] (.reg [.m 24 1,.bk 25 .add 24 1,.m 1 25] [0,1,5]))))) (.reg [.m 10 5,.bk 11 .add 10 1,.m 5 11] [0,1,5]))
def Z45:MFun:=⟨2,27,[.tmp 4],.r [.mk' 4 0] [0,1] (.seq (.r [.mk' 5 0] [0,1,5] (.block 0 (.loop [0,1,5] Zox))) (.r [.m 26 1,.m 4 26] [4] .ret))⟩
theorem Zbhe:tbl 200=some Z45:=tblOf_eq Tryz.func200 (by kernel_rfl) (by kernel_rfl)
def Zms:MCode :=.we [.m 6 0,.bk 7 .gtr 6 0] [0,3,7] 7 0 (.block 1 (.r [.m 8 0,.bk 9 .rem 8 10,.o 10 (.bin .add (.k 48) (.s 9)),.o 11 (.conv .u8 (.s 10)),.o 12 (.bslice 5 1 1 [.int .u8 0] [(0,.s 11)]),.o 13 (.tostr (.s 12)),.m 14 3,.b 15 .add 13 14,.m 3 15] [0,3] (.reg [.m 16 0,.bk 17 .quo 16 10,.m 0 17] [0,3])))
def Zun:MFun:=⟨1,20,[.tmp 2],.r [.o 2 (.mov (.c (.t (.str ⟨#[]⟩))))] [0] (.wc [.m 4 0,.bk 5 .leq 4 0] [0,5] 5 (.r [.o 2 (.mov (.c (.t (.str ⟨#[109,48]⟩))))] [2] .ret) (.r [.o 3 (.mov (.c (.t (.str ⟨#[]⟩))))] [0,3] (.seq (.block 0 (.loop [0,3] Zms)) (.r [.m 18 3,.o 19 (.bin .add (.c (.t (.str ⟨#[109]⟩))) (.s 18)),.m 2 19] [2] .ret))))⟩
theorem Z46:tbl 201=some Zun:=tblOf_eq Tryz.func201 (by kernel_rfl) (by kernel_rfl)
def Z47:MFun:=⟨1,11,[.cell 2 (some 2)],.r [.bx 1 0,.o 2 (.alloc [.t .z,.t .z])] [1,2] (.r [.o 3 (.alloc [.t .z,.t .z])] [1,2,3] (.r [.fa 4 0 1,.l 5 4,.fa 6 0 3,.st 1 6 5] [1,2,3] (.r [.fa 7 1 1,.l 8 7,.fa 9 1 3,.st 1 9 8] [2,3] (.r [.ln 10 2 3,.st 2 2 10] [2] .ret))))⟩
theorem Zbhf:tbl 256=some Z47:=tblOf_eq Tryz.func256 (by kernel_rfl) (by kernel_rfl)
def Z48:MFun:=⟨2,15,[.tmp 4],.r [.bx 2 0,.bx 3 1,.o 4 (.mov (.q false))] [2,3] (.wc [.fa 5 0 2,.l 6 5,.fa 7 0 3,.l 8 7,.b 9 .neq 6 8] [2,3,9] 9 (.r [.o 4 (.mov (.q false))] [4] .ret) (.wc [.fa 10 1 2,.l 11 10,.fa 12 1 3,.l 13 12,.b 14 .neq 11 13] [14] 14 (.r [.o 4 (.mov (.q false))] [4] .ret) (.r [.o 4 (.mov (.q true))] [4] .ret)))⟩
theorem Zbhg:tbl 266=some Z48:=tblOf_eq Tryz.func266 (by kernel_rfl) (by kernel_rfl)
end Go.Proofs.YtbapkgocloaaeaaGreat
