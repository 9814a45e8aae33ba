/-
  Parts of the proofs for this seat: IG IH IJ IK IL GW LK LL.
-/
import Derived.Test.YtbapkgocloaaeaaGreatP15
set_option linter.unusedSimpArgs false
set_option linter.unusedVariables false
set_option maxRecDepth 100000
set_option maxHeartbeats 4000000
/- part: IG -/
namespace Go.Proofs.YtbapkgocloaaeaaGreat
open Go.AM
theorem Zbls {M v c:Int} {x:List Zc} (hM:M≠0) (hv:0≤v∧v≤3):[offK 0 zE M v c x,offK 1 zE M v c x,offK 2 zE M v c x,offK 3 zE M v c x,offK 4 zE M v c x].filter sm=[⟨M,v,c,⟨x⟩⟩]:=by
 have h:v=0∨v=1∨v=2∨v=3:=by omega
 rcases h with rfl | rfl | rfl | rfl <;> simp [offK,offE,sm,zE,hM]
theorem Zblt:∀ (i:Fin 4) (a:Fin 16),1≤a.1→(a.1:Int)<shlI 1 (i.1:Nat)→andI (a.1:Int) (shlI 1 (i.1:Nat))≠a.1:=by decide
theorem Zblu {qa:List Atom} {i:Nat} (hi:i<4):Zt qa (shlI 1 i)=[]:=by
 cases h:Zt qa (shlI 1 i) with
 | nil=>rfl
 | cons A l =>
  exfalso
  obtain ⟨h1,h2,h3,_⟩:=Zny (qa:=qa) (M:=shlI 1 i) (A:=A) (by rw [h];simp)
  have h16:M16 (shlI 1 (i:Nat)):=(f_shl ⟨i,hi⟩ ⟨0,by omega⟩).2
  obtain ⟨a,rfl⟩:=m16 (x:=A) (by omega)
  exact Zblt ⟨i,hi⟩ a (by omega) h2 h3
theorem flat_ne {E:List Za} (h:E≠[]):flat (E.map Za.c)=false:=by
 cases E with
 | nil=>exact absurd rfl h
 | cons e E=>simp [flat,Za.c,scalar]
theorem Zblv {qa:List Atom} {n:Int} (hv:Zn n qa=true) {M A:Int} (hM:MQ qa M) (h:A∈Zt qa M):andNotI M A=M - A:=by
 obtain ⟨h1,h2,h3,_⟩:=Zny h
 have h16:=(hM.m16 hv).1
 obtain ⟨a,rfl⟩:=m16 (x:=A) (by omega)
 obtain ⟨b,rfl⟩:=m16 h16
 exact (f_diff a b h3).1
theorem l_copyT (fr:Bool) (out:List Za) (hl:out.length≤1000) (hs:∀ e∈out,e.Plan.Steps.length≤1000):∀ i,i≤out.length→Zh8 fr out out.length i=some (.own 0,[.arr 174 4 fr (out.map Za.c)]):=by
 refine down _ ?_ ?_
 ·refine Z3s _ _ _ _ _ ?_
  rw [if_neg (by omega)]
 ·intro i hi ih
  have h4:=inc64 (i:=i) (by omega)
  have hw:w ((i:Int)+1)=((i+1:Nat):Int):=by rw [show w ((i:Int)+1)=(i:Int)+1 from h4];simp
  refine Z3s _ _ _ _ _ ?_
  rw [if_pos (by omega),hw]
  refine ⟨by omega,out[i],by rw [Int.toNat_natCast];exact List.getElem?_eq_getElem hi,_,Zqa _ (hs _ (List.getElem_mem hi)),?_⟩
  rw [Int.toNat_natCast]
  have:out.set i (⟨out[i].Mask,out[i].Order,out[i].Cost,(⟨out[i].Plan.Steps⟩:Plan)⟩:Za)=out:=Znx (List.getElem?_eq_getElem hi)
  rw [this]
  exact ih
theorem Inv.steps {m:Zd} {q:Zb} {sizes:List Int} {done:List Int} {out:List Za} (h:Inv m sizes q done out) (h16:∀ M∈done,M16 M):∀ e∈out,e.Plan.Steps.length≤1000:=by
 intro e he
 have hd:=h.only e he
 have hh:=(h.held _ hd).len e (List.mem_filter.2 ⟨he,by simp⟩)
 have:=Zcu (h16 _ hd)
 omega
theorem conn_16 {n:Int} {qa:List Atom} (hv:Zn n qa=true):∀ M∈Zo qa,M16 M:=by
 intro M hM
 obtain ⟨h1,h2,_⟩:=Zjd.1 hM
 exact (MQ.m16 hv ⟨by omega,h2⟩).1
theorem Zwb {m:Zd} {q:Zb} {sizes:List Int} (b:Base m q sizes) {i:Nat} (hi:i≤(Zo q.Atoms).length):∀ e∈Z2 m sizes q i,e.Plan.Steps.length≤1000 :=
 (Zkq b i hi).steps fun M hM=>conn_16 b.hv M (List.mem_of_mem_take hM)
theorem i_table {m:Zd} {q:Zb} {sizes:List Int} (b:Base m q sizes):∀ i,i≤(Zo q.Atoms).length→∀ (table:List (List Za)) (fr fr1:Bool),table.length=2 ^ q.Atoms.length→(∀ M∈(Zo q.Atoms).take i,table[M.toNat]?=some (ofM (Z2 m sizes q i) M))→(i=(Zo q.Atoms).length→fr1=false) →
  Zff m q fr table fr1 (Z2 m sizes q i) (Zo q.Atoms) sizes (Zo q.Atoms).length i=some (.own 0,[.arr 174 4 false ((Z2 m sizes q (Zo q.Atoms).length).map Za.c)]):=by
 have hcl:=Zqh b.hv
 refine down _ ?_ ?_
 ·intro table fr fr1 _ _ hf
  rw [hf rfl]
  refine Z3q _ _ _ _ _ _ _ _ _ _ _ ?_
  rw [if_neg (by omega)]
  exact l_copyT false _ (by have:=Zn0 b (Nat.le_refl (Zo q.Atoms).length);omega) (Zwb b (Nat.le_refl _)) 0 (Nat.zero_le _)
 ·intro i hi ih table fr fr1 htl hT hf
  have h4:=inc64 (i:=i) (by omega)
  have hw:w ((i:Int)+1)=((i+1:Nat):Int):=by rw [show w ((i:Int)+1)=(i:Int)+1 from h4];simp
  obtain ⟨c1,c2,c3,c4⟩:=Zkp hi
  have hinv:=Zkq b i (by omega)
  have hstep:=Z65 b hinv c1 c2 c3 c4 (Zwa (Znz _) hi)
  have hheld:=Zv9 b hinv c1 c2 c3 c4
  have hnext:Z2 m sizes q (i+1)=Z2 m sizes q i++entM m sizes q (Z2 m sizes q i) (Zo q.Atoms)[i]:=by
   rw [Z2]
   congr 2
   simp [List.getD,hi]
  have hlen:=Zn0 b (i:=i) (by omega)
  have h16:=(c1.m16 b.hv).1
  have hpw:=Zec q.Atoms.length
  have hMt:(Zo q.Atoms)[i].toNat<table.length:=by have:=c1.1;have:=c1.2;omega
  have key:∀ f1 E,E=entM m sizes q (Z2 m sizes q i) (Zo q.Atoms)[i]→Zff m q f1 (table.set (Zo q.Atoms)[i].toNat E) (fr1 && flat (E.map Za.c)) (Z2 m sizes q i++E) (Zo q.Atoms) sizes (Zo q.Atoms).length (w ((i:Int)+1))=some (.own 0,[.arr 174 4 false ((Z2 m sizes q (Zo q.Atoms).length).map Za.c)]):=by
   intro f1 E hE
   subst hE
   rw [hw,flat_ne hheld.ne,Bool.and_false,← hnext]
   refine ih _ _ _ (by rw [List.length_set];exact htl) ?_ (fun _=>rfl)
   intro A hA
   rw [List.take_succ_eq_append_getElem hi] at hA
   rcases List.mem_append.1 hA with hA | hA
   ·have hne:A≠(Zo q.Atoms)[i]:=fun h=>Zwa (Znz _) hi (h ▸ hA)
    have hA0:=(Zjd.1 (List.mem_of_mem_take hA)).1
    have:=c1.1
    rw [List.getElem?_set_ne (by omega),hT A hA,hnext,hstep.2.1 A hA]
   ·rw [List.mem_singleton.1 hA,List.getElem?_set_self hMt,hnext,hstep.2.2]
  have hget:(Zo q.Atoms)[i]?=some (Zo q.Atoms)[i]:=List.getElem?_eq_getElem hi
  generalize (Zo q.Atoms)[i]=M at *
  have hic:Zby q.Ze q.Atoms M=true:=by
   unfold Zby
   rw [b.hv,c3,Zeb b.hv]
   have h1:=c1.1
   have h2:=c1.2
   simp [inR,c2,h1]
   omega
  have e1:(Zb5 q M).map Prod.fst=Zt q.Atoms M:=by
   unfold Zb5
   rw [List.map_map]
   exact List.map_id _
  have e2:(Zb5 q M).length=(Zt q.Atoms M).length:=by unfold Zb5;rw [List.length_map]
  have hps:(Zb5 q M).length≤100:=by rw [e2];have:=Zv1 (qa:=q.Atoms) h16;omega
  have hok:∀ p∈Zb5 q M,Z6z m q sizes (Z2 m sizes q i) table M p.1 p.2:=by
   intro p hp
   have o:=Zv8 b hinv c1 c3 c4 p hp
   unfold Zb5 at hp
   rw [List.mem_map] at hp
   obtain ⟨A,hA,rfl⟩:=hp
   have hd:=Zblv b.hv c1 hA
   obtain ⟨q1,q2⟩:=Zv7 c1 hA
   refine ⟨o,hd,?_,hT A (c4 A hA).1,hT _ (c4 A hA).2⟩
   rw [hd]
   exact Zbkx q b.hq b.hv A (M - A) q1 q2
  have hgo:∀ a0 a1 a2 a3 a4:Za,((Zb5 q M).foldl (oneJ m sizes M (Z2 m sizes q i)) [a0,a1,a2,a3,a4]).filter sm=entM m sizes q (Z2 m sizes q i) M →
    Zdj m q fr table fr1 (Z2 m sizes q i) m q sizes M a0 a1 a2 a3 a4 (sm a0) (sm a1) (sm a2) (sm a3) (sm a4) (Zo q.Atoms) (Zt q.Atoms M) sizes M (Zo q.Atoms).length i (Zt q.Atoms M).length 0=some (.own 0,[.arr 174 4 false ((Z2 m sizes q (Zo q.Atoms).length).map Za.c)]):=by
   intro a0 a1 a2 a3 a4 hE
   have:=i_splits b h16 c2 table hMt (Z2 m sizes q i) (by omega) (Zb5 q M) hps hok fr fr1 (Zo q.Atoms) (Zo q.Atoms).length i _ 0 (Nat.zero_le _) a0 a1 a2 a3 a4 (fun f1 E h=>key f1 E (by rw [List.drop_zero,hE] at h;exact h.symm))
   rw [e1,e2] at this
   exact this
  refine Z3q _ _ _ _ _ _ _ _ _ _ _ ?_
  rw [if_pos (by omega)]
  refine ⟨by omega,M,by rw [Int.toNat_natCast];exact hget,.inr ⟨Zck M,Zbkg h16,?_⟩⟩
  cases ho:oneB (ofI M) with
  | true =>
   obtain ⟨j,hj4,ha,hMj⟩:=Zv2 h16 ho
   have hent:=Zv4 (m:=m) (sizes:=sizes) (q:=q) (out:=Z2 m sizes q i) ha
   have hE:=hheld
   rw [hent] at hE
   have hlen1:=hE.len _ (List.mem_singleton.2 rfl)
   have hmk:=hE.makes _ (List.mem_singleton.2 rfl)
   have hod:=hE.ord _ (List.mem_singleton.2 rfl)
   have hjl:j<q.Atoms.length:=by
    have h2:=c1.2
    have e:shlI 1 (j:Nat)=2 ^ j:=by
     have:j=0∨j=1∨j=2∨j=3:=by omega
     rcases this with rfl | rfl | rfl | rfl <;> decide
    rw [hMj,e] at h2
    have h3:(2:Int) ^ j<2 ^ q.Atoms.length:=h2
    rw [← Zec,← Zec] at h3
    exact (Nat.pow_lt_pow_iff_right (by omega)).1 (by omega:2 ^ j<2 ^ q.Atoms.length)
   have hvar:=Zjk b.hv _ (List.getElem_mem hjl)
   obtain ⟨v,vs,hvs⟩:∃ v vs,q.Atoms[j].Vars=v::vs:=by
    cases hh:q.Atoms[j].Vars with
    | nil=>rw [hh] at hvar;simp at hvar
    | cons v vs=>exact ⟨v,vs,rfl⟩
   have hv3:0≤v∧v≤3:=by
    have:=Zoj b.hv _ (List.getElem_mem hjl) v (by rw [hvs];simp)
    have hn:=Zdd b.hv
    simp [inR] at this
    omega
   have hse:Zhe m sizes q M (j:Int)=⟨M,v,Z9 m.Scan (szAt sizes M) 0 (szAt sizes M),⟨[⟨1,j,0⟩]⟩⟩:=by
    simp [Zhe,List.getElem?_eq_getElem hjl,hvs]
   rw [hse] at hmk
   have hcost:=Z6.cost hmk b.hv (by simp) b.hsv
   obtain ⟨t,ht,hx⟩:=Z6k m b.hm q b.hq sizes b.hs M c2 zE zE zE zE zE [⟨1,j,0⟩] v (by omega) _ hcost
   rw [show sm zE=false from rfl] at hx
   have hnx:=hgo _ _ _ _ _ (by
    have hsp:Zb5 q M=[]:=by unfold Zb5;rw [hMj,Zblu hj4];rfl
    rw [hsp,List.foldl_nil,hent,hse]
    exact Zbls (c:=Z9 m.Scan (szAt sizes M) 0 (szAt sizes M)) (x:=[⟨1,j,0⟩]) c2 hv3)
   rw [ha,if_pos (by simp)]
   refine ⟨(j:Int),rfl,_,Zbk0 _,by omega,q.Atoms[j],by rw [Int.toNat_natCast];exact List.getElem?_eq_getElem hjl,v,by rw [hvs];rfl,?_⟩
   rcases ht with rfl | rfl
   ·exact .inl ⟨m,q,sizes,M,_,_,_,_,_,_,_,_,_,_,hx,.inr ⟨_,Zvm q b.hq M hic,hnx⟩⟩
   ·exact .inr ⟨m,q,sizes,M,_,_,_,_,_,_,_,_,_,_,_,hx,.inr ⟨_,Zvm q b.hq M hic,hnx⟩⟩
  | false =>
   have hne:=Zv3 h16 ho
   rw [if_neg (by omega)]
   have hnx:=hgo zE zE zE zE zE (by rw [Zv5 hne];rfl)
   rw [show sm zE=false from rfl] at hnx
   exact .inr ⟨_,Zvm q b.hq M hic,hnx⟩
theorem Zblw {m:Zd} {q:Zb} {sizes:List Int} (b:Base m q sizes) (ha:Zc0 m):Zju m q sizes=some (.own 0,[.arr 174 4 false ((Z2 m sizes q (Zo q.Atoms).length).map Za.c)]):=by
 have hf:=Zeb b.hv
 have hpw:=Zec q.Atoms.length
 have h16:2 ^ q.Atoms.length≤16:=Nat.pow_le_pow_right (by omega:0<2) (Zbv b.hv).2
 have hp1:1≤2 ^ q.Atoms.length:=Nat.one_le_two_pow
 have e1:w (Zw q.Ze q.Atoms+1)=2 ^ q.Atoms.length:=by rw [w_id (by omega) (by omega)];omega
 have hr:room=140737488355328:=rfl
 refine Zbgm _ _ _ _ ⟨_,Z5l m b.hm,?_⟩
 rw [if_pos (by simpa using ha)]
 refine ⟨_,Z50 q b.hq sizes b.hs,?_⟩
 rw [if_pos b.hsv]
 refine ⟨_,Zg8 q b.hq,?_⟩
 rw [e1]
 have e2:((2:Int) ^ q.Atoms.length).toNat=2 ^ q.Atoms.length:=by omega
 rw [e2]
 refine ⟨by omega,by omega,by rw [hr];omega,by omega,_,Zbj9 q b.hq b.hv,?_⟩
 refine i_table b 0 (Nat.zero_le _) _ true true (by simp) (by simp) ?_
 intro h
 exfalso
 have:(1:Int)∈Zo q.Atoms:=by
  refine Zjd.2 ⟨by omega,?_,?_⟩
  ·have:2 ^ 1≤2 ^ q.Atoms.length:=Nat.pow_le_pow_right (by omega) (Zbv b.hv).1
   omega
  ·have h1:=Znv b.hv (true,false,false,false)
   rw [show toI (true,false,false,false)=1 from rfl] at h1
   rw [h1]
   have key:∀ a b c d e f:Bool,∀ n:Fin 5,Zb3 ⟨a,b,c,d,e,f⟩ n.1 (true,false,false,false)=true:=by decide
   exact key _ _ _ _ _ _ ⟨q.Atoms.length,by have:=(Zbv b.hv).2;omega⟩
 rw [List.length_eq_zero_iff.1 h.symm] at this
 cases this
end Go.Proofs.YtbapkgocloaaeaaGreat
/- part: IH -/
namespace Go.Proofs.YtbapkgocloaaeaaGreat
open Go.AM
def shOf (q:Zb) (M:Int):List (List Int):=(Zt q.Atoms M).map fun A=>Zed q A (M - A)
def Zcv (q:Zb) (M:Int):Zv:=⟨M,Zt q.Atoms M,shOf q M⟩
def shapes (q:Zb):List Zv:=(Zo q.Atoms).map (Zcv q)
theorem Zblx {q:Zb} (hv:Zn q.Ze q.Atoms=true) {M:Int} (c1:MQ q.Atoms M) (c2:M≠0) (c3:conn q.Atoms M=true):Zby q.Ze q.Atoms M=true:=by
 unfold Zby
 rw [hv,c3,Zeb hv]
 have h1:=c1.1
 have h2:=c1.2
 simp [inR,c2,h1]
 omega
section
variable (q:Zb) (hq:LeQ q) (hv:Zn q.Ze q.Atoms=true)
include hq hv
theorem Z67 {M:Int} (hM:MQ q.Atoms M) {A:Int} (hA:A∈Zt q.Atoms M):Zgz q A (w (M - A))=some (.own 0,[.arr 3 1 true ((Zed q A (M - A)).map ic)]):=by
 obtain ⟨q1,q2⟩:=Zv7 hM hA
 have h16:=(q2.m16 hv).1
 rw [w_id (by omega) (by omega)]
 exact Zbkz q hq hv A (M - A) q1 q2
theorem Zbly (out:List Zv) (hout:out.length≤1000) {i:Nat} (hi:i<(Zo q.Atoms).length) (r:AV×List Blk) (h:Zd3 q (out++[Zcv q (Zo q.Atoms)[i]]) (Zo q.Atoms) (w ((i:Int)+1))=some r) :
  ∀ k,k≤(Zt q.Atoms (Zo q.Atoms)[i]).length→Zim q out (Zo q.Atoms) (Zo q.Atoms)[i] (Zt q.Atoms (Zo q.Atoms)[i]) ((shOf q (Zo q.Atoms)[i]).take k) i k=some r:=by
 obtain ⟨c1,c2,c3,c4⟩:=Zkp hi
 have hsl:=Zv1 (qa:=q.Atoms) (c1.m16 hv).1
 have hlen:(shOf q (Zo q.Atoms)[i]).length=(Zt q.Atoms (Zo q.Atoms)[i]).length:=by simp [shOf]
 refine down _ ?_ ?_
 ·refine Z4k _ _ _ _ _ _ _ _ _ ?_
  rw [if_neg (by omega)]
  refine ⟨by omega,?_⟩
  rw [← hlen,List.take_length]
  exact h
 ·intro k hk ih
  have h4:=inc64 (i:=k) (by omega)
  have hw:w ((k:Int)+1)=((k+1:Nat):Int):=by rw [show w ((k:Int)+1)=(k:Int)+1 from h4];simp
  refine Z4k _ _ _ _ _ _ _ _ _ ?_
  rw [if_pos (by omega),hw]
  refine ⟨by omega,_,by rw [Int.toNat_natCast];exact List.getElem?_eq_getElem hk,by omega,_,by rw [Int.toNat_natCast];exact List.getElem?_eq_getElem hi,_,Z67 q hq hv c1 (List.getElem_mem hk),?_,?_⟩
  ·rw [List.length_take];omega
  ·rw [List.take_succ_eq_append_getElem (by omega)] at ih
   simpa [shOf] using ih
theorem Zblz (out:List Zv) (hout:out.length≤1000) {i:Nat} (hi:i<(Zo q.Atoms).length) (r:AV×List Blk) (h:Zd3 q (out++[Zcv q (Zo q.Atoms)[i]]) (Zo q.Atoms) (w ((i:Int)+1))=some r) :
  Zme q out (Zo q.Atoms) (Zo q.Atoms)[i] (Zt q.Atoms (Zo q.Atoms)[i]) i 0=some r:=by
 obtain ⟨c1,c2,c3,c4⟩:=Zkp hi
 refine Zbhs _ _ _ _ _ _ _ _ ?_
 by_cases h0:(Zt q.Atoms (Zo q.Atoms)[i]).length=0
 ·rw [if_neg (by omega)]
  refine ⟨by omega,?_⟩
  have:Zcv q (Zo q.Atoms)[i]=⟨(Zo q.Atoms)[i],Zt q.Atoms (Zo q.Atoms)[i],[]⟩:=by
   unfold Zcv shOf
   rw [List.length_eq_zero_iff.1 h0];rfl
  rw [← this]
  exact h
 ·rw [if_pos (by omega)]
  have hk:0<(Zt q.Atoms (Zo q.Atoms)[i]).length:=by omega
  have:=Zbly q hq hv out hout hi r h 1 (by omega)
  refine ⟨by omega,_,List.getElem?_eq_getElem hk,by omega,_,by rw [Int.toNat_natCast];exact List.getElem?_eq_getElem hi,_,Z67 q hq hv c1 (List.getElem_mem hk),?_⟩
  rw [show w ((0:Int)+1)=((1:Nat):Int) from by decide]
  have e:(shOf q (Zo q.Atoms)[i]).take 1=[Zed q (Zt q.Atoms (Zo q.Atoms)[i])[0] ((Zo q.Atoms)[i] - (Zt q.Atoms (Zo q.Atoms)[i])[0])]:=by
   rw [List.take_succ_eq_append_getElem (by simp [shOf];omega)]
   simp [shOf]
  rw [e] at this
  exact this
theorem l_shapes:∀ i,i≤(Zo q.Atoms).length→Zd3 q ((shapes q).take i) (Zo q.Atoms) i=some (.own 0,[.arr 242 3 true ((shapes q).map Zv.c)]):=by
 have hcl:=Zqh hv
 have hlen:(shapes q).length=(Zo q.Atoms).length:=by simp [shapes]
 refine down _ ?_ ?_
 ·refine Z4j _ _ _ _ _ ?_
  rw [if_neg (by omega),← hlen,List.take_length]
 ·intro i hi ih
  have h4:=inc64 (i:=i) (by omega)
  have hw:w ((i:Int)+1)=((i+1:Nat):Int):=by rw [show w ((i:Int)+1)=(i:Int)+1 from h4];simp
  obtain ⟨c1,c2,c3,c4⟩:=Zkp hi
  refine Z4j _ _ _ _ _ ?_
  rw [if_pos (by omega)]
  refine ⟨by omega,_,by rw [Int.toNat_natCast];exact List.getElem?_eq_getElem hi,_,Zbke q hq _ (Zblx hv c1 c2 c3),?_⟩
  refine Zblz q hq hv _ (by rw [List.length_take];omega) hi _ ?_
  rw [hw]
  rw [List.take_succ_eq_append_getElem (by omega)] at ih
  simpa [shapes] using ih
theorem Zbl0:Zmd q=some (.own 0,[.arr 242 3 true ((shapes q).map Zv.c)]) :=
 Zbht _ _ ⟨_,Zbkb q hq hv,by simpa using l_shapes q hq hv 0 (Nat.zero_le _)⟩
end
theorem f_one:∀ a:Fin 16,1≤a.1→(andI (a.1:Int) (w ((a.1:Int) - 1))=0↔oneB (ofI (a.1:Int))=true):=by decide
theorem Z68 {α β:Type} (f:α→β):∀ l:List α,l.zip (l.map f)=l.map fun a=>(a,f a)
 | []=>rfl
 | a::l=>by simp [Z68 f l]
theorem s_table {m:Zd} {q:Zb} {sizes:List Int} (b:Base m q sizes):∀ i,i≤(Zo q.Atoms).length→∀ fr:Bool,∃ fr',Zg5 (shapes q) sizes m q fr (Z2 m sizes q i) i=some (.own 2,[.arr 242 3 true ((shapes q).map Zv.c),.arr 3 1 true (sizes.map ic),.arr 174 4 fr' ((Z2 m sizes q (Zo q.Atoms).length).map Za.c)]):=by
 have hcl:=Zqh b.hv
 have hlen:(shapes q).length=(Zo q.Atoms).length:=by simp [shapes]
 refine down _ ?_ ?_
 ·intro fr
  refine ⟨fr,Zvc _ _ _ _ _ _ _ _ ?_⟩
  rw [if_neg (by omega)]
 ·intro i hi ih fr
  have h4:=inc64 (i:=i) (by omega)
  have hw:w ((i:Int)+1)=((i+1:Nat):Int):=by rw [show w ((i:Int)+1)=(i:Int)+1 from h4];simp
  obtain ⟨c1,c2,c3,c4⟩:=Zkp hi
  have hinv:=Zkq b i (by omega)
  have hheld:=Zv9 b hinv c1 c2 c3 c4
  have hnext:Z2 m sizes q (i+1)=Z2 m sizes q i++entM m sizes q (Z2 m sizes q i) (Zo q.Atoms)[i]:=by
   rw [Z2]
   congr 2
   simp [List.getD,hi]
  have hol:=Zn0 b (i:=i) (by omega)
  have h16:=(c1.m16 b.hv).1
  have hget:(shapes q)[i]?=some (Zcv q (Zo q.Atoms)[i]):=by
   unfold shapes
   rw [List.getElem?_map,List.getElem?_eq_getElem hi];rfl
  rw [hnext] at ih
  generalize (Zo q.Atoms)[i]=M at *
  have hz:=Zbf b.hsv c1
  have h1:(andI M (w (M - 1))=0↔oneB (ofI M)=true):=by
   have q1:=c1.1
   obtain ⟨a,rfl⟩:=m16 h16
   exact f_one a (by omega)
  have hle:=hheld.le
  cases ho:oneB (ofI M) with
  | true =>
   obtain ⟨j,hj4,ha,hMj⟩:=Zv2 h16 ho
   have hent:=Zv4 (m:=m) (sizes:=sizes) (q:=q) (out:=Z2 m sizes q i) ha
   have hjl:j<q.Atoms.length:=by
    have h2:=c1.2
    have e:shlI 1 (j:Nat)=2 ^ j:=by
     have:j=0∨j=1∨j=2∨j=3:=by omega
     rcases this with rfl | rfl | rfl | rfl <;> decide
    rw [hMj,e] at h2
    have h3:(2:Int) ^ j<2 ^ q.Atoms.length:=h2
    rw [← Zec,← Zec] at h3
    exact (Nat.pow_lt_pow_iff_right (by omega)).1 (by omega:2 ^ j<2 ^ q.Atoms.length)
   have hvar:=Zjk b.hv _ (List.getElem_mem hjl)
   obtain ⟨v,vs,hvs⟩:∃ v vs,q.Atoms[j].Vars=v::vs:=by
    cases hh:q.Atoms[j].Vars with
    | nil=>rw [hh] at hvar;simp at hvar
    | cons v vs=>exact ⟨v,vs,rfl⟩
   have hse:Zhe m sizes q M (j:Int)=⟨M,v,Z9 m.Scan (szAt sizes M) 0 (szAt sizes M),⟨[⟨1,j,0⟩]⟩⟩:=by
    simp [Zhe,List.getElem?_eq_getElem hjl,hvs]
   rw [hent,hse] at ih
   obtain ⟨fr',hr⟩:=ih fr
   refine ⟨fr',Zvc _ _ _ _ _ _ _ _ ?_⟩
   rw [if_pos (by omega)]
   refine ⟨by omega,_,by rw [Int.toNat_natCast];exact hget,?_⟩
   have h1':andI (Zcv q M).mask (w ((Zcv q M).mask - 1))=0:=h1.2 ho
   rw [if_pos h1',hw]
   refine ⟨_,Zbki h16,(j:Int),by rw [show Zck (Zcv q M).mask=[(j:Int)] from ha];rfl,by omega,q.Atoms[j],by rw [Int.toNat_natCast];exact List.getElem?_eq_getElem hjl,v,by rw [hvs];rfl,hz.1,_,hz.2,_,Zd9 _ b.hm.1 _ _ _,_,Zbk1 _,by omega,?_⟩
   exact hr
  | false =>
   have hne:=Zv3 h16 ho
   have ok:=Zv8 b hinv c1 c3 c4
   have hzip:(Zcv q M).Zt.zip (Zcv q M).shared=Zb5 q M:=Z68 _ _
   have hsl:=Zv1 (qa:=q.Atoms) h16
   obtain ⟨f1,hJ⟩:=Zbll m b.hm b.hg sizes b.hcl q.Atoms fr (Z2 m sizes q i) (by omega) (Zcv q M) hz h16 (by show 0<M;have:=c1.1;omega) (by simp [Zcv,shOf]) (by show (Zt q.Atoms M).length≤100;omega) (by rw [hzip];exact ok)
   rw [hzip] at hJ
   have hent:=Zv5 (m:=m) (sizes:=sizes) (q:=q) (out:=Z2 m sizes q i) hne
   rw [hent] at ih hle
   obtain ⟨fr',hr⟩:=ih (fr && flat (((Zko m sizes M (Z2 m sizes q i) (Zb5 q M)).filter sm).map Za.c))
   refine ⟨fr',Zvc _ _ _ _ _ _ _ _ ?_⟩
   rw [if_pos (by omega)]
   refine ⟨by omega,_,by rw [Int.toNat_natCast];exact hget,?_⟩
   have h1':¬ andI (Zcv q M).mask (w ((Zcv q M).mask - 1))=0:=fun h=>by have:=h1.1 h;rw [ho] at this;cases this
   rw [if_neg h1',hw]
   exact ⟨_,_,hJ,by show (Z2 m sizes q i).length+((Zko m sizes M (Z2 m sizes q i) (Zb5 q M)).filter sm).length≤68719476736;omega,hr⟩
theorem Zbl1 {m:Zd} {q:Zb} {sizes:List Int} (b:Base m q sizes):∃ fr',Zmo (shapes q) sizes m q=some (.own 2,[.arr 242 3 true ((shapes q).map Zv.c),.arr 3 1 true (sizes.map ic),.arr 174 4 fr' ((Z2 m sizes q (Zo q.Atoms).length).map Za.c)]):=by
 obtain ⟨fr',h⟩:=s_table b 0 (Nat.zero_le _) true
 exact ⟨fr',Zbh5 _ _ _ _ _ h⟩
end Go.Proofs.YtbapkgocloaaeaaGreat
/- part: IJ -/
namespace Go.Proofs.YtbapkgocloaaeaaGreat
open Go.AM
theorem Zbl2 (a b c:Int) (fr:Bool) (l:List Za) (hl:l.length≤1000):∀ i,i≤l.length→∀ best,Zgh a b c best fr l l.length i=some (.agg (((l.drop i).foldl Zb9 best).c.map .t),[.arr 174 4 fr (l.map Za.c)]):=by
 refine down _ ?_ ?_
 ·intro best
  refine Z3v _ _ _ _ _ _ _ _ _ ?_
  rw [if_neg (by omega)];simp
 ·intro i hi ih best
  have h4:=inc64 (i:=i) (by omega)
  refine Z3v _ _ _ _ _ _ _ _ _ ?_
  rw [if_pos (by omega),List.drop_eq_getElem_cons hi,List.foldl_cons]
  refine ⟨by omega,l[i],by rw [Int.toNat_natCast];exact List.getElem?_eq_getElem hi,?_⟩
  rw [show w ((i:Int)+1)=((i+1:Nat):Int) from by rw [show w ((i:Int)+1)=(i:Int)+1 from h4];simp]
  by_cases e:l[i].Cost<best.Cost
  ·rw [if_pos e,show Zb9 best l[i]=l[i] by simp [Zb9,e]];exact ih _
  ·rw [if_neg e,show Zb9 best l[i]=best by simp [Zb9,e]];exact ih _
theorem Zbl3 (fr:Bool) (l:List Za) (h0:l≠[]) (hl:l.length≤1000):Zlq fr l=some (.agg ((Zz l).c.map .t),[.arr 174 4 fr (l.map Za.c)]):=by
 cases l with
 | nil=>exact absurd rfl h0
 | cons e l =>
  refine Zbgn _ _ _ ⟨e,rfl,?_⟩
  have:=Zbl2 0 0 0 fr (e::l) hl 0 (Nat.zero_le _) e
  simpa [Zz] using this
theorem l_best (l:List Za) (mask:Int) (hl:l.length≤1000) (hne:ofM l mask≠[]) (hs:∀ e∈l,e.Plan.Steps.length≤1000):∀ i,i≤l.length→∀ fr,Zgi 0 0 0 fr (ofM (l.take i) mask) mask l l.length i=some (.tup [.agg [I (Zz (ofM l mask)).Mask,I (Zz (ofM l mask)).Order,I (Zz (ofM l mask)).Cost,.own 0],Bo true],[.arr 142 3 true ((Zz (ofM l mask)).Plan.Steps.map Zc.c)]):=by
 refine down _ ?_ ?_
 ·intro fr
  refine Z3w _ _ _ _ _ _ _ _ _ _ ?_
  rw [if_neg (by omega),List.take_length]
  have h1:(ofM l mask).length≠0:=fun h=>hne (List.length_eq_zero_iff.1 h)
  have h2:(ofM l mask).length≤l.length:=List.length_filter_le _ _
  rw [if_neg (by omega)]
  have hmem:=Zvs hne
  exact ⟨_,Zbl3 fr _ hne (by omega),_,Zqa _ (hs _ (List.mem_filter.1 hmem).1),rfl⟩
 ·intro i hi ih fr
  have h4:=inc64 (i:=i) (by omega)
  have hw:w ((i:Int)+1)=((i+1:Nat):Int):=by rw [show w ((i:Int)+1)=(i:Int)+1 from h4];simp
  rw [Z6l l mask hi] at ih
  have h2:(ofM (l.take i) mask).length≤(l.take i).length:=List.length_filter_le _ _
  rw [List.length_take] at h2
  refine Z3w _ _ _ _ _ _ _ _ _ _ ?_
  rw [if_pos (by omega),hw]
  refine ⟨by omega,l[i],by rw [Int.toNat_natCast];exact List.getElem?_eq_getElem hi,?_⟩
  by_cases e:l[i].Mask=mask
  ·rw [if_pos e]
   rw [if_pos e] at ih
   exact ⟨by omega,ih false⟩
  ·rw [if_neg e]
   rw [if_neg e,List.append_nil] at ih
   exact ih fr
theorem Zbl4 (l:List Za) (mask:Int) (hl:l.length≤1000) (hne:ofM l mask≠[]) (hs:∀ e∈l,e.Plan.Steps.length≤1000):Zjv l mask=some (.tup [.agg [I (Zz (ofM l mask)).Mask,I (Zz (ofM l mask)).Order,I (Zz (ofM l mask)).Cost,.own 0],Bo true],[.arr 142 3 true ((Zz (ofM l mask)).Plan.Steps.map Zc.c)]) :=
 Zbgo _ _ _ (by simpa [ofM] using l_best l mask hl hne hs 0 (Nat.zero_le _) true)
theorem Zbl5 (l:List Za) (mask:Int) (hl:l.length≤1000) (hne:ofM l mask≠[]) (hs:∀ e∈l,e.Plan.Steps.length≤1000):Zj1 l mask=some (.tup [.agg [I (Zz (ofM l mask)).Mask,I (Zz (ofM l mask)).Order,I (Zz (ofM l mask)).Cost,.own 0],Bo true],[.arr 142 3 true ((Zz (ofM l mask)).Plan.Steps.map Zc.c)]):=by
 obtain ⟨k1,k2⟩:=Zqe hne
 have hmem:=Zvs hne
 have:=hs _ (List.mem_filter.1 hmem).1
 refine Zbh6 _ _ _ ⟨_,x_low l mask hl,?_⟩
 rw [if_neg (by omega)]
 exact ⟨k1,_,k2,by omega,rfl⟩
def tab (m:Zd) (q:Zb) (sizes:List Int):List Za:=Z2 m sizes q (Zo q.Atoms).length
def opt (m:Zd) (q:Zb) (sizes:List Int):Za:=Zz (ofM (tab m q sizes) (Zw q.Ze q.Atoms))
theorem full_MQ {q:Zb} (hv:Zn q.Ze q.Atoms=true):MQ q.Atoms (Zw q.Ze q.Atoms):=by
 have:=Zeb hv
 have:=Zrb hv
 exact ⟨by omega,by omega⟩
theorem Z69 {m:Zd} {q:Zb} {sizes:List Int} (b:Base m q sizes) (hc:Zby q.Ze q.Atoms (Zw q.Ze q.Atoms)=true):Held m sizes q.Atoms (Zw q.Ze q.Atoms) (ofM (tab m q sizes) (Zw q.Ze q.Atoms)):=by
 refine (Zkq b _ (Nat.le_refl _)).held _ ?_
 rw [List.take_length]
 have hp:=Zrb b.hv
 have hq:=full_MQ b.hv
 unfold Zby at hc
 simp only [Bool.and_eq_true] at hc
 exact Zjd.2 ⟨by omega,hq.2,hc.2⟩
theorem Zbl6 {m:Zd} {q:Zb} {sizes:List Int} (b:Base m q sizes) (ha:Zc0 m) (hc:Zby q.Ze q.Atoms (Zw q.Ze q.Atoms)=true):Zjw m q sizes=some (.tup [.agg [I (opt m q sizes).Mask,I (opt m q sizes).Order,I (opt m q sizes).Cost,.own 0],Bo true],[.arr 142 3 true ((opt m q sizes).Plan.Steps.map Zc.c)]):=by
 have hl:=Zn0 b (Nat.le_refl (Zo q.Atoms).length)
 refine Zbgp _ _ _ _ (.inr ⟨_,_,Zblw b ha,_,Zg8 q b.hq,.inr ⟨_,_,_,_,Zbl4 _ _ (by omega) (Z69 b hc).ne (Zwb b (Nat.le_refl _)),rfl⟩⟩)
theorem Zbl7 {m:Zd} {q:Zb} {sizes:List Int} (b:Base m q sizes) (ha:Zc0 m) (hc:Zby q.Ze q.Atoms (Zw q.Ze q.Atoms)=true):Zlr m q sizes=some (I (opt m q sizes).Cost,[]) :=
 Zbgq _ _ _ _ (.inr ⟨_,_,_,_,Zbl6 b ha hc,rfl⟩)
theorem Zbl8 {m:Zd} {q:Zb} {l:List Int} (hl:l.length≤4294967296) (h:Zba l=true) (b:Base m q (Zbn l)) (ha:Zc0 m) (hc:Zby q.Ze q.Atoms (Zw q.Ze q.Atoms)=true):Zls m q l=some (I (opt m q (Zbn l)).Cost,[]):=by
 have hb:=Z54 l hl
 rw [h,if_pos rfl] at hb
 exact Zbgr _ _ _ _ (.inl ⟨_,hb,_,Zbl7 b ha hc,rfl⟩)
def LeR (r:Region):Prop:=Le r.Box.Low∧Le r.Box.High
theorem x_boxOk (q:Zb) (hq:LeQ q) (bx:Box) (hb:LeX bx):Zk6 q bx=some (Bo (Zjj q.Ze q.Atoms bx.Low bx.High),[]):=by
 have q5:=Zoi q.Ze q.Atoms
 refine Zbfl _ _ _ ⟨_,Zvh bx hb,?_⟩
 unfold Zjj
 rcases tf (Zbg bx.Low bx.High) with e | e
 ·rw [e];simp
 ·rw [e,if_pos rfl]
  refine ⟨_,Zg8 q hq,?_⟩
  rw [show w (Zw q.Ze q.Atoms+1)=Zw q.Ze q.Atoms+1 from q5]
  simp
theorem Zbl9 (q:Zb) (hq:LeQ q) (r:Region) (hr:LeR r):Zk8 q r=some (Bo (Zf1 q.Ze q.Atoms r.Plan.Steps r.Box.Low r.Box.High r.Percent),[]):=by
 refine Zbfq _ _ _ ⟨_,Znl q hq,?_⟩
 unfold Zf1
 rcases tf (Zn q.Ze q.Atoms) with e | e
 ·rw [e];simp
 rw [e,if_pos rfl]
 refine ⟨_,x_boxOk q hq r.Box hr,?_⟩
 rcases tf (Zjj q.Ze q.Atoms r.Box.Low r.Box.High) with e2 | e2
 ·rw [e2];simp
 rw [e2,if_pos rfl]
 refine ⟨_,Zbjr q r.Plan hq,_,Zg8 q hq,?_⟩
 by_cases e3:Zf0 q.Ze q.Atoms r.Plan.Steps=Zw q.Ze q.Atoms
 ·rw [if_pos e3]
  exact ⟨_,Zcs _ _ _,by simp [e3]⟩
 ·rw [if_neg e3];simp [e3]
theorem Zbma (q:Zb) (hq:LeQ q) (r:Region) (hr:LeR r):Zl5 q r=some (Bo (Zf1 q.Ze q.Atoms r.Plan.Steps r.Box.Low r.Box.High r.Percent),[]):=by
 have q5:=Zoi q.Ze q.Atoms
 refine Zbhm _ _ _ ⟨_,Zvi r.Box hr,?_⟩
 unfold Zf1 Zjj
 rcases tf (Zbg r.Box.Low r.Box.High) with e | e
 ·rw [e];simp
 rw [e,if_pos rfl]
 refine ⟨_,Znn q hq,?_⟩
 rw [show w (Zw q.Ze q.Atoms+1)=Zw q.Ze q.Atoms+1 from q5]
 by_cases e4:(r.Box.Low.length:Int)=Zw q.Ze q.Atoms+1
 ·rw [if_pos e4]
  refine ⟨_,Zbjs q r.Plan hq,?_⟩
  by_cases e3:Zf0 q.Ze q.Atoms r.Plan.Steps=Zw q.Ze q.Atoms
  ·rw [if_pos e3]
   rcases tf (Zn q.Ze q.Atoms) with e1 | e1
   ·have e5:Zw q.Ze q.Atoms=0:=by unfold Zw;rw [e1];rfl
    rw [if_neg (by omega)];simp [e1]
   ·have e5:=Zrb e1
    rw [if_pos e5]
    exact ⟨_,Zd8 _ _ _,by simp [e1,e3,e4]⟩
  ·rw [if_neg e3];simp [e3]
 ·rw [if_neg e4];simp [e4]
def Zcd (m:Zd) (q:Zb) (r:Region):Prop:=Zf1 q.Ze q.Atoms r.Plan.Steps r.Box.Low r.Box.High r.Percent=true∧Zby q.Ze q.Atoms (Zw q.Ze q.Atoms)=true∧Zc0 m
theorem Zqi {l:List Int} (h:Zba l=true):l.length≤16:=by
 simp only [Zba,Bool.and_eq_true,decide_eq_true_eq] at h
 omega
theorem class_le {a:Int} (h:0≤a∧a≤7):inR (Zbo a) 0 4096=true:=by
 have:a=0∨a=1∨a=2∨a=3∨a=4∨a=5∨a=6∨a=7:=by omega
 rcases this with rfl | rfl | rfl | rfl | rfl | rfl | rfl | rfl <;> decide
theorem base_of {m:Zd} (hm:LeM m) (ha:Zc0 m) {q:Zb} (hq:LeQ q) (hv:Zn q.Ze q.Atoms=true) {l:List Int} (h:Zba l=true) (hl:(l.length:Int)=Zw q.Ze q.Atoms+1):Base m q (Zbn l):=by
 have hll:(l.length:Int)≤16:=by simp only [Zba,Bool.and_eq_true,decide_eq_true_eq] at h;exact h.2
 have hc:=Zblb h
 refine ⟨hm,ha.2.1,hq,hv,by simp [Zbn];omega,hc,?_⟩
 unfold Zbs Zha
 rw [hv]
 have:(Zbn l).all (fun x=>inR x 0 4096)=true:=by
  rw [List.all_eq_true]
  intro s hs
  obtain ⟨a,h1,rfl⟩:=hc s hs
  exact class_le h1
 rw [this]
 simp [Zbn,hl]
theorem Zwc {m:Zd} {q:Zb} {r:Region} (h:Zcd m q r):Zn q.Ze q.Atoms=true∧Zba r.Box.Low=true∧Zba r.Box.High=true∧(r.Box.Low.length:Int)=Zw q.Ze q.Atoms+1∧Zbg r.Box.Low r.Box.High=true∧inR r.Percent 100 1000=true∧Zf0 q.Ze q.Atoms r.Plan.Steps=Zw q.Ze q.Atoms:=by
 have h1:=h.1
 unfold Zf1 Zjj at h1
 simp only [Bool.and_eq_true,decide_eq_true_eq] at h1
 have h2:=h1.1.1.2.1
 unfold Zbg at h2
 simp only [Bool.and_eq_true,decide_eq_true_eq] at h2
 exact ⟨h1.1.1.1,h2.1.1.2,h2.1.2,h1.1.1.2.2,h1.1.1.2.1,h1.2,h1.1.2⟩
theorem Z7a {m:Zd} {q:Zb} {r:Region} (hm:LeM m) (hq:LeQ q) (h:Zcd m q r):Base m q (Zbn r.Box.Low):=by
 obtain ⟨h1,h2,h3,h4,_⟩:=Zwc h
 exact base_of hm h.2.2 hq h1 h2 h4
def Zkr (m:Zd) (q:Zb) (r:Region):Bool:=decide (w (100*Zct m q.Ze q.Atoms r.Plan.Steps (Zbn r.Box.High))≤w (r.Percent*(opt m q (Zbn r.Box.Low)).Cost))
theorem Zwd {m:Zd} {q:Zb} {r:Region} (hm:LeM m) (hq:LeQ q) (hr:LeR r) (h:Zcd m q r):Zdy m q r=some (Bo (Zkr m q r),[]):=by
 obtain ⟨h1,h2,h3,h4,_⟩:=Zwc h
 have l1:=Zqi h2
 have l2:=Zqi h3
 exact Zbgs _ _ _ _ ⟨_,Zbkv m hm q hq r.Plan r.Box.High (by omega) h3,_,Zbl8 (by omega) h2 (Z7a hm hq h) h.2.2 h.2.1,rfl⟩
theorem Zwe {m:Zd} {q:Zb} {r:Region} (hm:LeM m) (hq:LeQ q) (hr:LeR r) (h:Zcd m q r):Zd6 m q r=some (Bo (Zkr m q r),[]):=by
 obtain ⟨h1,h2,h3,h4,_⟩:=Zwc h
 have l1:=Zqi h2
 have l2:=Zqi h3
 have b:=Z7a hm hq h
 have hl:=Zn0 b (Nat.le_refl (Zo q.Atoms).length)
 have hs:=Z55 r.Box.Low (by omega)
 rw [h2,if_pos rfl] at hs
 obtain ⟨fr,ht⟩:=Zbl1 b
 refine Zbic _ _ _ _ ⟨_,Zbl0 q hq h1,_,hs,_,_,ht,_,Znn q hq,.inr ⟨_,_,_,_,Zbl5 _ _ (by omega) (Z69 b h.2.1).ne (Zwb b (Nat.le_refl _)),_,Zbkw m hm q hq r.Plan r.Box.High (by omega) h3,?_⟩⟩
 unfold Zkr opt tab
 rw [Int.mul_comm]
open Classical in
noncomputable def Zje (m:Zd) (q:Zb) (r:Region):Bool:=decide (Zcd m q r) && Zkr m q r
theorem Zbmb {m:Zd} {q:Zb} {r:Region} (hm:LeM m) (hq:LeQ q) (hr:LeR r):Zld m q r=some (Bo (@decide (Zcd m q r) (Classical.propDecidable _)),[]):=by
 refine Zbf4 _ _ _ _ ⟨_,Zbl9 q hq r hr,?_⟩
 rcases tf (Zf1 q.Ze q.Atoms r.Plan.Steps r.Box.Low r.Box.High r.Percent) with e | e
 ·rw [if_neg (by rw [e];simp)]
  have:¬ Zcd m q r:=fun h=>by rw [h.1] at e;cases e
  simp [this]
 rw [if_pos e]
 refine ⟨_,Zg8 q hq,_,Z5s q hq _,?_⟩
 rcases tf (Zby q.Ze q.Atoms (Zw q.Ze q.Atoms)) with e2 | e2
 ·rw [if_neg (by rw [e2];simp)]
  have:¬ Zcd m q r:=fun h=>by rw [h.2.1] at e2;cases e2
  simp [this]
 rw [if_pos e2]
 refine ⟨_,Z5l m hm,?_⟩
 by_cases ha:Zc0 m
 ·have:Zcd m q r:=⟨e,e2,ha⟩
  simp [this,ha]
 ·have:¬ Zcd m q r:=fun h=>ha h.2.2
  simp [this,ha]
theorem Zbmc {m:Zd} {q:Zb} {r:Region} (hm:LeM m) (hq:LeQ q) (hr:LeR r):Zlt m q r=some (Bo (Zje m q r),[]):=by
 refine Zbgt _ _ _ _ ⟨_,Zbmb hm hq hr,?_⟩
 unfold Zje
 by_cases h:Zcd m q r
 ·rw [if_pos (by simp [h])]
  exact ⟨_,Zwd hm hq hr h,by simp [h]⟩
 ·rw [if_neg (by simp [h])];simp [h]
theorem Zbmd {m:Zd} {q:Zb} {r:Region} (hm:LeM m) (hq:LeQ q) (hr:LeR r):Zmu m q r=some (Bo (Zje m q r),[]):=by
 refine Zbid _ _ _ _ ⟨_,Zbj3 m hm,?_⟩
 unfold Zje
 by_cases ha:Zc0 m
 ·rw [if_pos (by simp [ha])]
  refine ⟨_,Znn q hq,_,Z5t q hq _,?_⟩
  rcases tf (Zby q.Ze q.Atoms (Zw q.Ze q.Atoms)) with e2 | e2
  ·rw [if_neg (by rw [e2];simp)]
   have:¬ Zcd m q r:=fun h=>by rw [h.2.1] at e2;cases e2
   simp [this]
  rw [if_pos e2]
  refine ⟨_,Zbma q hq r hr,?_⟩
  rcases tf (Zf1 q.Ze q.Atoms r.Plan.Steps r.Box.Low r.Box.High r.Percent) with e | e
  ·rw [if_neg (by rw [e];simp)]
   have:¬ Zcd m q r:=fun h=>by rw [h.1] at e;cases e
   simp [this]
  rw [if_pos e]
  have h:Zcd m q r:=⟨e,e2,ha⟩
  exact ⟨_,Zwe hm hq hr h,by simp [h]⟩
 ·rw [if_neg (by simp [ha])]
  have:¬ Zcd m q r:=fun h=>ha h.2.2
  simp [this]
end Go.Proofs.YtbapkgocloaaeaaGreat
/- part: IK -/
namespace Go.Proofs.YtbapkgocloaaeaaGreat
open Go.AM
def LeC (c:Zp):Prop:=Le c.Entries∧∀ e∈c.Entries,LeQ e.Zb∧LeR e.Region
def Zev (l:List Zf) (e:Zf):Bool:=l.any fun x=>decide (x.Used=e.Used)
noncomputable def entOk (m:Zd) (c:Zp) (i:Nat) (e:Zf):Bool:=inR e.Version 1 999 && (inR e.Used 1 c.Clock && (Zje m e.Zb e.Region && !Zev (c.Entries.take i) e))
noncomputable def okF (m:Zd) (c:Zp):List Zf→Nat→Bool
 | [],_=>true
 | e::l,i=>entOk m c i e && okF m c l (i+1)
noncomputable def Zfx (m:Zd) (c:Zp):Bool:=inR c.Clock 0 1000000 && (decide ((c.Entries.length:Int)≤4) && okF m c c.Entries 0)
def idxU (e:Zf):List Zf→Nat→Int
 | [],_=>-1
 | x::l,i=>if x.Used=e.Used then (i:Int) else idxU e l (i+1)
theorem Z7b (e:Zf):∀ (l:List Zf) (i:Nat),decide (0≤idxU e l i)=Zev l e
 | [],i=>by simp [idxU,Zev]
 | x::l,i=>by
  have ih:=Z7b e l (i+1)
  rw [idxU]
  unfold Zev at ih ⊢
  by_cases h:x.Used=e.Used
  ·simp [h]
  ·rw [if_neg h,ih];simp [h]
theorem l_idx (l:List Zf) (e:Zf) (hl:Le l):∀ i,i≤l.length→Ziv l e l.length i=some (I (idxU e (l.drop i) i),[]):=by
 refine down _ ?_ ?_
 ·refine Z4x _ _ _ _ _ ?_
  rw [if_neg (by omega)];simp [idxU]
 ·intro i hi ih
  have h4:=inc64 (i:=i) (by omega)
  refine Z4x _ _ _ _ _ ?_
  rw [if_pos (by omega),List.drop_eq_getElem_cons hi,idxU]
  refine ⟨by omega,l[i],by rw [Int.toNat_natCast];exact List.getElem?_eq_getElem hi,_,Zbih _ _ _ rfl,?_⟩
  rw [show w ((i:Int)+1)=((i+1:Nat):Int) from by rw [show w ((i:Int)+1)=(i:Int)+1 from h4];simp]
  by_cases h:l[i].Used=e.Used
  ·rw [if_pos (by simpa using h),if_pos h]
  ·rw [if_neg (by simpa using h),if_neg h];exact ih
theorem Zbme (l:List Zf) (e:Zf) (hl:Le l):Zmy l e=some (Bo (Zev l e),[]):=by
 refine Zbij _ _ _ ⟨_,Zbii _ _ _ (l_idx l e hl 0 (Nat.zero_le _)),?_⟩
 rw [List.drop_zero,Z7b]
theorem Zbmf (m:Zd) (hm:LeM m) (c:Zp) (hc:LeC c):∀ i,i≤c.Entries.length→Ziw m c c.Entries c.Entries.length i=some (Bo (okF m c (c.Entries.drop i) i),[]):=by
 have hl:=hc.1
 refine down _ ?_ ?_
 ·refine Z4y _ _ _ _ _ _ ?_
  rw [if_neg (by omega)];simp [okF]
 ·intro i hi ih
  have h4:=inc64 (i:=i) (by omega)
  obtain ⟨hq,hr⟩:=hc.2 _ (List.getElem_mem hi)
  refine Z4y _ _ _ _ _ _ ?_
  rw [if_pos (by omega),List.drop_eq_getElem_cons hi,okF,entOk]
  refine ⟨by omega,c.Entries[i],by rw [Int.toNat_natCast];exact List.getElem?_eq_getElem hi,_,Zcs _ _ _,?_⟩
  rcases tf (inR c.Entries[i].Version 1 999) with e | e
  ·rw [e];simp
  rw [e,if_pos rfl]
  refine ⟨_,Zcs _ _ _,?_⟩
  rcases tf (inR c.Entries[i].Used 1 c.Clock) with e2 | e2
  ·rw [e2];simp
  rw [e2,if_pos rfl]
  refine ⟨_,Zbmc hm hq hr,?_⟩
  rcases tf (Zje m c.Entries[i].Zb c.Entries[i].Region) with e3 | e3
  ·rw [e3];simp
  rw [e3,if_pos rfl]
  refine ⟨by omega,_,Zbme _ _ (by show (List.take _ _).length≤_;rw [List.length_take];omega),?_⟩
  rw [Int.toNat_natCast,show w ((i:Int)+1)=((i+1:Nat):Int) from by rw [show w ((i:Int)+1)=(i:Int)+1 from h4];simp]
  rcases tf (Zev (c.Entries.take i) c.Entries[i]) with e4 | e4
  ·rw [e4,if_neg (by simp),ih];simp
  ·rw [e4];simp
theorem Zbmg (m:Zd) (hm:LeM m) (c:Zp) (hc:LeC c):Zj2 m c=some (Bo (Zfx m c),[]):=by
 refine Zbik _ _ _ ⟨_,Zcs _ _ _,?_⟩
 unfold Zfx
 rcases tf (inR c.Clock 0 1000000) with e | e
 ·rw [e];simp
 rw [e,if_pos rfl]
 by_cases h:4<(c.Entries.length:Int)
 ·rw [if_pos h]
  have:¬ (c.Entries.length:Int)≤4:=by omega
  simp [this]
 ·rw [if_neg h]
  have h2:(c.Entries.length:Int)≤4:=by omega
  have:=Zbmf m hm c hc 0 (Nat.zero_le _)
  rw [List.drop_zero] at this
  simpa [h2] using this
theorem Zbmh (m:Zd) (c:Zp) (hc:LeC c) (i:Nat) (hi:i<c.Entries.length) (e:Zf) (r:Bool) (hr:Zg6 m c (w ((i:Int)+1))=some (Bo r,[])):∀ k,k≤i→Zix m c e i k=some (Bo (!Zev ((c.Entries.take i).drop k) e && r),[]):=by
 have hl:=hc.1
 refine down _ ?_ ?_
 ·refine Z40 _ _ _ _ _ _ ?_
  rw [if_neg (by omega),hr,List.drop_of_length_le (by rw [List.length_take];omega)]
  simp [Zev]
 ·intro k hk ih
  have h4:=inc64 (i:=k) (by omega)
  have hkl:k<(c.Entries.take i).length:=by rw [List.length_take];omega
  refine Z40 _ _ _ _ _ _ ?_
  rw [if_pos (by omega),List.drop_eq_getElem_cons hkl]
  refine ⟨by omega,c.Entries[k],by rw [Int.toNat_natCast];exact List.getElem?_eq_getElem (by omega),?_⟩
  rw [show w ((k:Int)+1)=((k+1:Nat):Int) from by rw [show w ((k:Int)+1)=(k:Int)+1 from h4];simp]
  rw [List.getElem_take]
  by_cases h:c.Entries[k].Used=e.Used
  ·rw [if_pos h];simp [Zev,h]
  ·rw [if_neg h,ih];simp [Zev,h]
theorem Zbmi (m:Zd) (hm:LeM m) (c:Zp) (hc:LeC c):∀ i,i≤c.Entries.length→Zg6 m c i=some (Bo (okF m c (c.Entries.drop i) i && (inR c.Clock 0 1000000 && decide ((c.Entries.length:Int)≤4))),[]):=by
 have hl:=hc.1
 refine down _ ?_ ?_
 ·refine Z4z _ _ _ _ ?_
  rw [if_neg (by omega)]
  refine ⟨_,Zd8 _ _ _,?_⟩
  rcases tf (inR c.Clock 0 1000000) with e | e
  ·rw [e];simp
  ·rw [e];simp [okF]
 ·intro i hi ih
  have h4:=inc64 (i:=i) (by omega)
  have hw:w ((i:Int)+1)=((i+1:Nat):Int):=by rw [show w ((i:Int)+1)=(i:Int)+1 from h4];simp
  obtain ⟨hq,hr⟩:=hc.2 _ (List.getElem_mem hi)
  refine Z4z _ _ _ _ ?_
  rw [if_pos (by omega),List.drop_eq_getElem_cons hi,okF,entOk]
  refine ⟨by omega,c.Entries[i],by rw [Int.toNat_natCast];exact List.getElem?_eq_getElem hi,_,Zd8 _ _ _,?_⟩
  rcases tf (inR c.Entries[i].Version 1 999) with e | e
  ·rw [e];simp
  rw [e,if_pos rfl]
  refine ⟨_,Zd8 _ _ _,?_⟩
  rcases tf (inR c.Entries[i].Used 1 c.Clock) with e2 | e2
  ·rw [e2];simp
  rw [e2,if_pos rfl]
  refine ⟨_,Zbmd hm hq hr,?_⟩
  rcases tf (Zje m c.Entries[i].Zb c.Entries[i].Region) with e3 | e3
  ·rw [e3];simp
  rw [e3,if_pos rfl]
  have:=Zbmh m c hc i hi c.Entries[i] _ (by rw [hw];exact ih) 0 (Nat.zero_le _)
  rw [List.drop_zero] at this
  refine Eq.trans this ?_
  simp [Bool.and_assoc]
theorem Zbmj (m:Zd) (hm:LeM m) (c:Zp) (hc:LeC c):Zj3 m c=some (Bo (Zfx m c),[]):=by
 have:=Zbmi m hm c hc 0 (Nat.zero_le _)
 rw [List.drop_zero] at this
 refine Zbil _ _ _ (Eq.trans this ?_)
 unfold Zfx
 rcases tf (inR c.Clock 0 1000000) with e | e <;> rw [e] <;> simp [Bool.and_comm]
end Go.Proofs.YtbapkgocloaaeaaGreat
/- part: IL -/
namespace Go.Proofs.YtbapkgocloaaeaaGreat
open Go.AM
def dimD (lo hi:List Int) (k:Nat):Int:=hi.getD k 0 - lo.getD k 0+1
def locK (lo hi:List Int):Nat→Int→List Int→List Int
 | 0,_,out=>out
 | k+1,idx,out=>locK lo hi k (idx / dimD lo hi k) (out.set k (lo.getD k 0+idx % dimD lo hi k))
def locB (b:Box) (idx:Int):List Int:=locK b.Low b.High b.Low.length idx b.Low
theorem Zn1 {x:Int} (h1:-1000000000000000≤x) (h2:x≤1000000000000000):w x=x:=w_id (by omega) (by omega)
def locsB (b:Box):List (List Int):=(List.range (Zjm b.Low b.High).toNat).map fun i:Nat=>locB b i
def holdsAt (m:Zd) (q:Zb) (r:Region) (l:List Int):Bool:=!decide (w (r.Percent*(opt m q (Zbn l)).Cost)<w (100*Zct m q.Ze q.Atoms r.Plan.Steps (Zbn l)))
open Classical in
noncomputable def holds (m:Zd) (q:Zb) (r:Region):Bool:=decide (Zcd m q r) && (decide (Zjm r.Box.Low r.Box.High≤400) && (locsB r.Box).all (holdsAt m q r))
end Go.Proofs.YtbapkgocloaaeaaGreat
/- part: GW -/
namespace Go.Proofs.YtbapkgocloaaeaaGreat
open Go.AM
theorem Zwf:∀ (l:List Int) (i:Nat) (e v:Int),l[i]?=some e→(l.set i v).sum=l.sum - e+v
 | [],i,e,v,h=>by simp at h
 | a::l,0,e,v,h=>by simp at h;subst h;simp;omega
 | a::l,i+1,e,v,h=>by simp at h;simp [Zwf l i e v h];omega
theorem Zn2:∀ l:List Int,Zbp l=true→0≤l.sum∧l.sum≤7*l.length
 | [],h=>by simp
 | a::l,h=>by
  simp only [Zbp,List.all_cons,Bool.and_eq_true] at h
  have h1:=Zn2 l h.2
  have h2:=h.1
  simp only [inR,decide_eq_true_eq] at h2
  simp only [List.sum_cons,List.length_cons]
  omega
theorem Zwg:∀ {xs ys:List Int} {i:Nat} {b v:Int},Z3 xs ys=true→ys[i]?=some b→b≤v→Z3 (xs.set i v) ys=true
 | [],ys,i,b,v,h,_,_=>by simp [Z3]
 | x::xs,[],i,b,v,h,hb,_=>by simp at hb
 | x::xs,y::ys,0,b,v,h,hb,hv=>by simp at hb;subst hb;simp [Z3] at h ⊢;exact ⟨hv,h.2⟩
 | x::xs,y::ys,i+1,b,v,h,hb,hv=>by simp at hb;simp [Z3] at h ⊢;exact ⟨h.1,Zwg h.2 hb hv⟩
theorem Zwh:∀ {xs ys:List Int} {i:Nat} {b v:Int},Z3 xs ys=true→xs[i]?=some b→v≤b→Z3 xs (ys.set i v)=true
 | [],ys,i,b,v,h,hb,_=>by simp at hb
 | x::xs,[],i,b,v,h,hb,_=>by simp [Z3]
 | x::xs,y::ys,0,b,v,h,hb,hv=>by simp at hb;subst hb;simp [Z3] at h ⊢;exact ⟨hv,h.2⟩
 | x::xs,y::ys,i+1,b,v,h,hb,hv=>by simp at hb;simp [Z3] at h ⊢;exact ⟨h.1,Zwh h.2 hb hv⟩
theorem Zwi:∀ {lo xs hi:List Int},xs.length=lo.length→xs.length=hi.length→Z3 xs lo=true→Z3 hi xs=true→Zbp lo=true→Zbp hi=true→Zbp xs=true
 | lo,[],hi,_,_,_,_,_,_=>by simp [Zbp]
 | [],x::xs,hi,h,_,_,_,_,_=>by simp at h
 | a::lo,x::xs,[],_,h,_,_,_,_=>by simp at h
 | a::lo,x::xs,b::hi,h1,h2,h3,h4,h5,h6=>by
  simp only [Z3,Bool.and_eq_true,decide_eq_true_eq] at h3 h4
  simp only [Zbp,List.all_cons,Bool.and_eq_true,inR,decide_eq_true_eq] at h5 h6 ⊢
  simp at h1 h2
  exact ⟨by omega,Zwi (by omega) (by omega) h3.2 h4.2 h5.2 h6.2⟩
theorem Zwj:∀ {a b c:List Int},a.length=b.length→b.length=c.length→Z3 a b=true→Z3 b c=true→Z3 a c=true
 | [],b,c,_,_,_,_=>by simp [Z3]
 | x::a,[],c,h,_,_,_=>by simp at h
 | x::a,y::b,[],_,h,_,_=>by simp at h
 | x::a,y::b,z::c,h1,h2,h3,h4=>by
  simp only [Z3,Bool.and_eq_true,decide_eq_true_eq] at h3 h4 ⊢
  simp at h1 h2
  exact ⟨by omega,Zwj (by omega) (by omega) h3.2 h4.2⟩
structure Inr (lim:Box) (lo hi:List Int):Prop where
 l1:lo.length=lim.Low.length
 l2:hi.length=lim.Low.length
 d1:Z3 lo lim.Low=true
 d2:Z3 hi lo=true
 d3:Z3 lim.High hi=true
theorem Zqj {lo hi:List Int} (h:Zbg lo hi=true):0<lo.length∧lo.length≤16∧Zbp lo=true∧Zbp hi=true∧hi.length=lo.length∧Z3 hi lo=true:=by
 unfold Zbg Zba dom at h
 simp only [Bool.and_eq_true,decide_eq_true_eq] at h
 obtain ⟨⟨⟨h1,h2,h3⟩,h4,h5⟩,h6,h7⟩:=h
 exact ⟨h1,by omega,h2,h4,h6,h7⟩
theorem Inr.loc {lim:Box} {lo hi:List Int} (hL:Zbg lim.Low lim.High=true) (h:Inr lim lo hi):Zbp lo=true∧Zbp hi=true:=by
 obtain ⟨b1,b2,b3,b4,b5,b6⟩:=Zqj hL
 have e1:=h.l1
 have e2:=h.l2
 exact ⟨Zwi (hi:=lim.High) (by omega) (by omega) h.d1 (Zwj (by omega) (by omega) h.d3 h.d2) b3 b4,Zwi (lo:=lim.Low) (by omega) (by omega) (Zwj (by omega) (by omega) h.d2 h.d1) h.d3 b3 b4⟩
theorem Zks {l:List Int} {i:Nat} (h:i<l.length):l[i]?=some l[i]:=by simp [h]
theorem loc_at {l:List Int} (h:Zbp l=true) {i:Nat} {e:Int} (he:l[i]?=some e):0≤e∧e≤7:=by
 unfold Zbp at h
 rw [List.all_eq_true] at h
 have:=h e (List.mem_of_getElem? he)
 simpa [inR] using this
theorem dom_at:∀ {xs ys:List Int} {i:Nat} {a b:Int},Z3 xs ys=true→xs[i]?=some a→ys[i]?=some b→b≤a
 | [],ys,i,a,b,h,ha,hb=>by simp at ha
 | x::xs,[],i,a,b,h,ha,hb=>by simp at hb
 | x::xs,y::ys,0,a,b,h,ha,hb=>by simp at ha hb;subst ha hb;simp [Z3] at h;exact h.1
 | x::xs,y::ys,i+1,a,b,h,ha,hb=>by simp at ha hb;simp [Z3] at h;exact dom_at h.2 ha hb
def mu (lo hi:List Int):Nat:=(7*(hi.length:Int) - hi.sum+lo.sum).toNat
theorem Zqk {l:List Int} {i:Nat} {e v:Int} (he:l[i]?=some e):(l.set i v).set i e=l:=by
 rw [List.set_set]
 obtain ⟨h,h2⟩:=List.getElem?_eq_some_iff.mp he
 rw [← h2]
 simp
theorem Inr.mu_lo {lim:Box} {lo hi:List Int} (hL:Zbg lim.Low lim.High=true) (h:Inr lim lo hi) {i:Nat} {e a:Int} (he:lo[i]?=some e) (ha:lim.Low[i]?=some a) (hlt:a<e):Inr lim (lo.set i (e - 1)) hi∧mu (lo.set i (e - 1)) hi<mu lo hi:=by
 have hi1:i<lo.length:=(List.getElem?_eq_some_iff.mp he).1
 have e1:=h.l1
 have e2:=h.l2
 have h':Inr lim (lo.set i (e - 1)) hi:=by
  refine ⟨by simp [e1],e2,Zwg h.d1 ha (by omega),?_,h.d3⟩
  have g:=Zks (l:=hi) (i:=i) (by omega)
  have:=dom_at h.d2 g he
  exact Zwh h.d2 g (by omega)
 refine ⟨h',?_⟩
 obtain ⟨a1,a2⟩:=h'.loc hL
 have s1:=Zn2 _ a1
 have s2:=Zn2 _ a2
 have s3:=Zwf lo i e (e - 1) he
 unfold mu
 omega
theorem Inr.mu_hi {lim:Box} {lo hi:List Int} (hL:Zbg lim.Low lim.High=true) (h:Inr lim lo hi) {i:Nat} {e a:Int} (he:hi[i]?=some e) (ha:lim.High[i]?=some a) (hlt:e<a):Inr lim lo (hi.set i (e+1))∧mu lo (hi.set i (e+1))<mu lo hi:=by
 have hi1:i<hi.length:=(List.getElem?_eq_some_iff.mp he).1
 have e1:=h.l1
 have e2:=h.l2
 have h':Inr lim lo (hi.set i (e+1)):=by
  refine ⟨e1,by simp [e2],h.d1,?_,Zwh h.d3 ha (by omega)⟩
  have g:=Zks (l:=lo) (i:=i) (by omega)
  have:=dom_at h.d2 he g
  exact Zwg h.d2 g (by omega)
 refine ⟨h',?_⟩
 obtain ⟨a1,a2⟩:=h'.loc hL
 have s1:=Zn2 _ a1
 have s2:=Zn2 _ a2
 have s3:=Zwf hi i e (e+1) he
 have s4:(hi.set i (e+1)).length=hi.length:=by simp
 unfold mu
 omega
def TI (m:Zd) (q:Zb) (lim:Box) (pc:Int) (st:List Zc) (lo hi loc:List Int) (again:Bool) (i:Int) (r:AV×List Blk):Prop :=
 ∃ e1:Int,lo[i.toNat]?=some e1∧∃ e2:Int,lim.Low[i.toNat]?=some e2∧if e2<e1 then (∃ v:Bool,Zdy m q (⟨(⟨st⟩:Plan),(⟨(lo.set i.toNat (w (e1 - 1))),hi⟩:Box),pc⟩:Region)=some (Bo v,[])∧if v=true then Zb0 m q lim 0 pc st (lo.set i.toNat (w (e1 - 1))) hi loc true (loc.length:Int) (w (i+1))=some r else Zb0 m q lim 0 pc st ((lo.set i.toNat (w (e1 - 1))).set i.toNat (w ((w (e1 - 1))+1))) hi loc again (loc.length:Int) (w (i+1))=some r) else Zb0 m q lim 0 pc st lo hi loc again (loc.length:Int) (w (i+1))=some r
def TS (m:Zd) (q:Zb) (lim:Box) (pc:Int) (st:List Zc) (lo hi loc:List Int) (again:Bool) (i:Int) (r:AV×List Blk):Prop :=
 ∃ e1:Int,lo[i.toNat]?=some e1∧∃ e2:Int,lim.Low[i.toNat]?=some e2∧if e2<e1 then (∃ v:Bool,Zd6 m q (⟨(⟨st⟩:Plan),(⟨(lo.set i.toNat (w (e1 - 1))),hi⟩:Box),pc⟩:Region)=some (Bo v,[])∧if v=true then Zb1 m q lim 0 pc st (lo.set i.toNat (w (e1 - 1))) hi loc true (w (i+1))=some r else Zb1 m q lim 0 pc st ((lo.set i.toNat (w (e1 - 1))).set i.toNat (w ((w (e1 - 1))+1))) hi loc again (w (i+1))=some r) else Zb1 m q lim 0 pc st lo hi loc again (w (i+1))=some r
theorem le_of {lim:Box} {lo hi:List Int} (hL:Zbg lim.Low lim.High=true) (h:Inr lim lo hi) (st:List Zc) (pc:Int):LeR ⟨⟨st⟩,⟨lo,hi⟩,pc⟩:=by
 obtain ⟨b1,b2,b3,b4,b5,b6⟩:=Zqj hL
 have e1:=h.l1
 have e2:=h.l2
 unfold LeR Le
 simp only
 omega
section
variable {m:Zd} {q:Zb} {lim:Box} {pc:Int} {st:List Zc} {loc:List Int} (hm:LeM m) (hq:LeQ q) (hL:Zbg lim.Low lim.High=true) (hR:∀ lo hi,Inr lim lo hi→Zcd m q ⟨⟨st⟩,⟨lo,hi⟩,pc⟩) (hn:loc.length=lim.Low.length)
include hm hq hL hR hn
omit hn in
theorem Zwk {lo hi:List Int} (h:Inr lim lo hi) (again:Bool) {i:Nat} (hi':i<lim.Low.length) {M:Nat} (hM:mu lo hi≤M) (hA:again=true→mu lo hi<M):∃ lo2 again2,Inr lim lo2 hi∧mu lo2 hi≤M∧(again2=true→mu lo2 hi<M)∧∀ r,(Zb0 m q lim 0 pc st lo2 hi loc again2 (loc.length:Int) ((i+1:Nat):Int)=some r→TI m q lim pc st lo hi loc again i r)∧(Zb1 m q lim 0 pc st lo2 hi loc again2 ((i+1:Nat):Int)=some r→TS m q lim pc st lo hi loc again i r):=by
 obtain ⟨b1,b2,b3,b4,b5,b6⟩:=Zqj hL
 have e1:=h.l1
 have e2:=h.l2
 have wi:w ((i:Int)+1)=((i+1:Nat):Int):=by rw [Zn1 (by omega) (by omega)];omega
 have g1:=Zks (l:=lo) (i:=i) (by omega)
 have g2:=Zks (l:=lim.Low) (i:=i) (by omega)
 have b:=loc_at (h.loc hL).1 g1
 have w1:w (lo[i]'(by omega) - 1)=lo[i]'(by omega) - 1:=Zn1 (by omega) (by omega)
 have w2:w (lo[i]'(by omega) - 1+1)=lo[i]'(by omega):=by rw [Zn1 (by omega) (by omega)];omega
 unfold TI TS
 rw [wi]
 simp only [Int.toNat_natCast]
 by_cases hlt:lim.Low[i]<lo[i]'(by omega)
 ·obtain ⟨n1,n2⟩:=h.mu_lo hL g1 g2 hlt
  have p1:=Zwd hm hq (le_of hL n1 st pc) (hR _ _ n1)
  have p2:=Zwe hm hq (le_of hL n1 st pc) (hR _ _ n1)
  rcases tf (Zkr m q ⟨⟨st⟩,⟨lo.set i (lo[i]'(by omega) - 1),hi⟩,pc⟩) with e | e
  ·rw [e] at p1 p2
   refine ⟨lo,again,h,hM,hA,fun r=>⟨fun hr=>⟨_,g1,_,g2,?_⟩,fun hr=>⟨_,g1,_,g2,?_⟩⟩⟩
   ·rw [if_pos hlt,w1]
    refine ⟨_,p1,?_⟩
    rw [if_neg (by simp),w2,Zqk g1];exact hr
   ·rw [if_pos hlt,w1]
    refine ⟨_,p2,?_⟩
    rw [if_neg (by simp),w2,Zqk g1];exact hr
  ·rw [e] at p1 p2
   refine ⟨_,true,n1,by omega,fun _=>by omega,fun r=>⟨fun hr=>⟨_,g1,_,g2,?_⟩,fun hr=>⟨_,g1,_,g2,?_⟩⟩⟩
   ·rw [if_pos hlt,w1]
    refine ⟨_,p1,?_⟩
    rw [if_pos rfl];exact hr
   ·rw [if_pos hlt,w1]
    refine ⟨_,p2,?_⟩
    rw [if_pos rfl];exact hr
 ·exact ⟨lo,again,h,hM,hA,fun r=>⟨fun hr=>⟨_,g1,_,g2,by rw [if_neg hlt];exact hr⟩,fun hr=>⟨_,g1,_,g2,by rw [if_neg hlt];exact hr⟩⟩⟩
theorem dim_step {lo hi:List Int} (h:Inr lim lo hi) (again:Bool) {i:Nat} (hi':i<lim.Low.length) {M:Nat} (hM:mu lo hi≤M) (hA:again=true→mu lo hi<M):∃ lo2 hi2 again2,Inr lim lo2 hi2∧mu lo2 hi2≤M∧(again2=true→mu lo2 hi2<M)∧∀ r,(Zb0 m q lim 0 pc st lo2 hi2 loc again2 (loc.length:Int) ((i+1:Nat):Int)=some r→Zb0 m q lim 0 pc st lo hi loc again (loc.length:Int) i=some r)∧(Zb1 m q lim 0 pc st lo2 hi2 loc again2 ((i+1:Nat):Int)=some r→Zb1 m q lim 0 pc st lo hi loc again i=some r):=by
 obtain ⟨b1,b2,b3,b4,b5,b6⟩:=Zqj hL
 have e1:=h.l1
 have e2:=h.l2
 have c1:(i:Int)<(loc.length:Int):=by omega
 have g1:=Zks (l:=hi) (i:=i) (by omega)
 have g2:=Zks (l:=lim.High) (i:=i) (by omega)
 have b:=loc_at (h.loc hL).2 g1
 have w1:w (hi[i]'(by omega)+1)=hi[i]'(by omega)+1:=Zn1 (by omega) (by omega)
 have w2:w (hi[i]'(by omega)+1 - 1)=hi[i]'(by omega):=by rw [Zn1 (by omega) (by omega)];omega
 by_cases hlt:hi[i]'(by omega)<lim.High[i]'(by omega)
 ·obtain ⟨n1,n2⟩:=h.mu_hi hL g1 g2 hlt
  have p1:=Zwd hm hq (le_of hL n1 st pc) (hR _ _ n1)
  have p2:=Zwe hm hq (le_of hL n1 st pc) (hR _ _ n1)
  rcases tf (Zkr m q ⟨⟨st⟩,⟨lo,hi.set i (hi[i]'(by omega)+1)⟩,pc⟩) with e | e
  ·rw [e] at p1 p2
   obtain ⟨lo2,again2,s1,s2,s3,s4⟩:=Zwk hm hq hL hR h again hi' hM hA
   refine ⟨lo2,hi,again2,s1,s2,s3,fun r=>⟨fun hr=>Zpv _ _ _ _ _ _ _ _ _ _ _ _ _ ?_,fun hr=>Zpw _ _ _ _ _ _ _ _ _ _ _ _ ?_⟩⟩
   ·rw [if_pos c1]
    refine ⟨by omega,_,g1,_,g2,?_⟩
    simp only [Int.toNat_natCast]
    rw [if_pos hlt,w1]
    refine ⟨_,p1,?_⟩
    rw [if_neg (by simp),w2,Zqk g1]
    exact Z41 _ _ _ _ _ _ _ _ _ _ _ _ _ _ ⟨by omega,(s4 r).1 hr⟩
   ·rw [if_pos c1]
    refine ⟨by omega,_,g1,_,g2,?_⟩
    simp only [Int.toNat_natCast]
    rw [if_pos hlt,w1]
    refine ⟨_,p2,?_⟩
    rw [if_neg (by simp),w2,Zqk g1]
    exact Z42 _ _ _ _ _ _ _ _ _ _ _ _ ⟨by omega,(s4 r).2 hr⟩
  ·rw [e] at p1 p2
   obtain ⟨lo2,again2,s1,s2,s3,s4⟩:=Zwk hm hq hL hR n1 true hi' (M:=M) (by omega) (fun _=>by omega)
   refine ⟨lo2,_,again2,s1,s2,s3,fun r=>⟨fun hr=>Zpv _ _ _ _ _ _ _ _ _ _ _ _ _ ?_,fun hr=>Zpw _ _ _ _ _ _ _ _ _ _ _ _ ?_⟩⟩
   ·rw [if_pos c1]
    refine ⟨by omega,_,g1,_,g2,?_⟩
    simp only [Int.toNat_natCast]
    rw [if_pos hlt,w1]
    refine ⟨_,p1,?_⟩
    rw [if_pos rfl]
    exact Z41 _ _ _ _ _ _ _ _ _ _ _ _ _ _ ⟨by omega,(s4 r).1 hr⟩
   ·rw [if_pos c1]
    refine ⟨by omega,_,g1,_,g2,?_⟩
    simp only [Int.toNat_natCast]
    rw [if_pos hlt,w1]
    refine ⟨_,p2,?_⟩
    rw [if_pos rfl]
    exact Z42 _ _ _ _ _ _ _ _ _ _ _ _ ⟨by omega,(s4 r).2 hr⟩
 ·obtain ⟨lo2,again2,s1,s2,s3,s4⟩:=Zwk hm hq hL hR h again hi' hM hA
  refine ⟨lo2,hi,again2,s1,s2,s3,fun r=>⟨fun hr=>Zpv _ _ _ _ _ _ _ _ _ _ _ _ _ ?_,fun hr=>Zpw _ _ _ _ _ _ _ _ _ _ _ _ ?_⟩⟩
  ·rw [if_pos c1]
   refine ⟨by omega,_,g1,_,g2,?_⟩
   rw [if_neg hlt]
   exact (s4 r).1 hr
  ·rw [if_pos c1]
   refine ⟨by omega,_,g1,_,g2,?_⟩
   rw [if_neg hlt]
   exact (s4 r).2 hr
def grown (st:List Zc) (lo hi:List Int) (pc:Int):AV×List Blk:=(.tup [.agg [.own 0,.own 1,.own 2,I pc],Bo true],[.arr 142 3 true (st.map Zc.c),.arr 3 1 true (lo.map ic),.arr 3 1 true (hi.map ic)])
omit hm hq hL hR hn in
theorem l_stop (lo hi:List Int):Ziy m q lim 0 pc st lo hi loc false=some (grown st lo hi pc)∧Ziz m q lim 0 pc st lo hi loc false=some (grown st lo hi pc) :=
 ⟨Zbin _ _ _ _ _ _ _ _ _ _ _ (by rw [if_neg (by simp)];rfl),Zbip _ _ _ _ _ _ _ _ _ _ _ (by rw [if_neg (by simp)];rfl)⟩
theorem pass {M:Nat} (IH:∀ lo hi,Inr lim lo hi→mu lo hi<M→∃ lo' hi',Inr lim lo' hi'∧Ziy m q lim 0 pc st lo hi loc true=some (grown st lo' hi' pc)∧Ziz m q lim 0 pc st lo hi loc true=some (grown st lo' hi' pc)):∀ i,i≤loc.length→∀ lo hi again,Inr lim lo hi→mu lo hi≤M→(again=true→mu lo hi<M)→∃ lo' hi',Inr lim lo' hi'∧Zb0 m q lim 0 pc st lo hi loc again (loc.length:Int) i=some (grown st lo' hi' pc)∧Zb1 m q lim 0 pc st lo hi loc again i=some (grown st lo' hi' pc):=by
 refine down loc.length ?_ ?_
 ·intro lo hi again h1 h2 h3
  have:∃ lo' hi',Inr lim lo' hi'∧Ziy m q lim 0 pc st lo hi loc again=some (grown st lo' hi' pc)∧Ziz m q lim 0 pc st lo hi loc again=some (grown st lo' hi' pc):=by
   rcases tf again with rfl | rfl
   ·exact ⟨lo,hi,h1,l_stop lo hi⟩
   ·exact IH lo hi h1 (h3 rfl)
  obtain ⟨lo',hi',a1,a2,a3⟩:=this
  exact ⟨lo',hi',a1,Zpv _ _ _ _ _ _ _ _ _ _ _ _ _ (by rw [if_neg (by omega)];exact a2),Zpw _ _ _ _ _ _ _ _ _ _ _ _ (by rw [if_neg (by omega)];exact a3)⟩
 ·intro i hi' ih lo hi again h1 h2 h3
  obtain ⟨lo2,hi2,again2,s1,s2,s3,s4⟩:=dim_step hm hq hL hR hn h1 again (i:=i) (by omega) h2 h3
  obtain ⟨lo',hi',a1,a2,a3⟩:=ih lo2 hi2 again2 s1 s2 s3
  exact ⟨lo',hi',a1,(s4 _).1 a2,(s4 _).2 a3⟩
end
@[simp] theorem Zbmk (b:Box) (hb:LeX b) (l:List Int) (hl:Le l):Zmz b l=some (Bo (inBox b.Low b.High l),[]):=by
 refine Zbim _ _ _ ?_
 unfold inBox
 have h1:=Zvh b hb
 have h2:=Zvg l b.Low hl
 have h3:=Zvg b.High l hb.2
 refine ⟨_,h1,?_⟩
 rcases tf (Zbg b.Low b.High) with e | e
 ·rw [e];simp
 rw [e,if_pos rfl]
 refine ⟨_,h2,?_⟩
 rcases tf (dom l b.Low) with e2 | e2
 ·rw [e2];simp
 rw [e2,if_pos rfl]
 exact ⟨_,h3,by simp⟩
@[simp] theorem Zbml (b:Box) (hb:LeX b) (l:List Int) (hl:Le l):Zm1 b l=some (Bo (inBox b.Low b.High l),[]):=by
 refine Zbio _ _ _ ?_
 unfold inBox
 have h1:=Zvi b hb
 have h2:=Zvf l b.Low hl
 have h3:=Zvf b.High l hb.2
 refine ⟨_,h1,?_⟩
 rcases tf (Zbg b.Low b.High) with e | e
 ·rw [e];simp
 rw [e,if_pos rfl]
 refine ⟨_,h2,?_⟩
 rcases tf (dom l b.Low) with e2 | e2
 ·rw [e2];simp
 rw [e2,if_pos rfl]
 exact ⟨_,h3,by simp⟩
end Go.Proofs.YtbapkgocloaaeaaGreat
/- part: LK -/
namespace Go.Proofs.YtbapkgocloaaeaaGreat
open Go.AM
abbrev Lq (q:Zb):Prop:=q.Atoms.length≤4294967296∧∀ a∈q.Atoms,a.Vars.length≤4294967296
abbrev Lr (r:Region):Prop:=r.Plan.Steps.length≤4294967296∧r.Box.Low.length≤4294967296∧r.Box.High.length≤4294967296
abbrev Lc (es:List Zf):Prop:=es.length≤4294967296∧∀ e∈es,Lq e.Zb∧Lr e.Region
theorem Lq.le {q:Zb} (h:Lq q):LeQ q:=⟨by have:=h.1;omega,fun a ha=>by have:=h.2 a ha;omega⟩
theorem Lc.le {c:Zp} (h:Lc c.Entries):LeC c:=⟨by have:=h.1;omega,fun e he=>⟨(h.2 e he).1.le,by have:=(h.2 e he).2.2.1;omega,by have:=(h.2 e he).2.2.2;omega⟩⟩
def qRes (n:Int) (as':List Atom):AV×List Blk:=if as'=[] then (.agg [I n,.t .nil],[]) else (.agg [I n,.own 0],[.arr 223 2 true (as'.map Atom.c)])
def rRes (r:Region):AV×List Blk:=(.agg [.own 0,.own 1,.own 2,I r.Percent],[.arr 142 3 true (r.Plan.Steps.map Zc.c),.arr 3 1 true (r.Box.Low.map ic),.arr 3 1 true (r.Box.High.map ic)])
def cRes (n:Int) (es:List Zf):AV×List Blk:=if es=[] then (.agg [I n,.t .nil],[]) else (.agg [I n,.own 0],[.arr 114 8 true (es.map Zf.c)])
theorem Zbmm (a b:Int) (as':List Atom) (h:as'.length≤4294967296∧∀ a∈as',a.Vars.length≤4294967296):∀ i,i≤as'.length→∀ acc,acc.length=i→Zi0 a b acc as' as'.length i=some (.agg [I b,.own 0],[.arr 223 2 true ((acc++as'.drop i).map Atom.c)]):=by
 refine down _ ?_ ?_
 ·intro acc ho
  refine Z43 _ _ _ _ _ _ _ ?_
  rw [if_neg (by omega),List.drop_length];simp
 ·intro i hi ih acc ho
  have h5:=inc64 (i:=i) (by omega)
  refine Z43 _ _ _ _ _ _ _ ?_
  rw [if_pos (by omega)]
  refine ⟨by omega,_,List.getElem?_eq_getElem hi,_,Znq _ (by have:=h.2 _ (List.getElem_mem hi);omega),by omega,?_⟩
  have ih:=ih (acc++[as'[i]]) (by simp [ho])
  rw [List.append_assoc,List.singleton_append,← List.drop_eq_getElem_cons hi] at ih
  rw [show w ((i:Int)+1)=((i+1:Nat):Int) from h5]
  exact ih
theorem Z7c (q:Zb) (h:Lq q):Zfp q=some (qRes q.Ze q.Atoms):=by
 refine Zbir _ _ (Zbiq _ _ _ _ _ _ ?_)
 unfold qRes
 cases he:q.Atoms with
 | nil=>simp
 | cons a as' =>
  rw [if_pos (by simp)]
  have hv:=h.2 a (by rw [he];simp)
  refine ⟨by omega,a,rfl,_,Znq _ (by omega),?_⟩
  have:=Zbmm 0 q.Ze (a::as') (by rw [← he];exact h) 1 (by simp) [a] rfl
  rw [show w (0+1)=((1:Nat):Int) from by decide,if_neg (by simp)]
  exact this
theorem Zbmn (b:Box) (h1:b.Low.length≤4294967296) (h2:b.High.length≤4294967296):Zm5 b=some (.agg [.own 0,.own 1],[.arr 3 1 true (b.Low.map ic),.arr 3 1 true (b.High.map ic)]):=Zbis _ _ ⟨_,Znq _ (by omega),_,Znq _ (by omega),rfl⟩
theorem Z7d (p:Plan) (h:p.Steps.length≤4294967296):Zcg p=some (.agg [.own 0],[.arr 142 3 true (p.Steps.map Zc.c)]):=Z3o _ _ ⟨by omega,rfl⟩
theorem Z7e (r:Region) (h:Lr r):Zfq r=some (rRes r):=Zbit _ _ ⟨_,Z7d _ h.1,_,_,Zbmn _ h.2.1 h.2.2,rfl⟩
theorem entE (e:Zf) (he:e.Zb.Atoms=[]):(⟨⟨e.Zb.Ze,[]⟩,⟨⟨e.Region.Plan.Steps⟩,⟨e.Region.Box.Low,e.Region.Box.High⟩,e.Region.Percent⟩,e.Version,e.Used⟩:Zf)=e:=by rw [← he]
theorem Zbmo (a b:Int) (es:List Zf) (h:Lc es):∀ i,i≤es.length→∀ acc,acc.length=i→Zfr a b acc es es.length i=some (.agg [I b,.own 0],[.arr 114 8 true ((acc++es.drop i).map Zf.c)]):=by
 refine down _ ?_ ?_
 ·intro acc ho
  refine Z44 _ _ _ _ _ _ _ ?_
  rw [if_neg (by omega),List.drop_length];simp
 ·intro i hi ih acc ho
  have h5:=inc64 (i:=i) (by have:=h.1;omega)
  have hl:=h.1
  obtain ⟨g1,g2⟩:=h.2 _ (List.getElem_mem hi)
  have ih:=ih (acc++[es[i]]) (by simp [ho])
  rw [List.append_assoc,show [es[i]]++es.drop (i+1)=es.drop i by rw [List.drop_eq_getElem_cons hi];rfl] at ih
  have q1:=Z7c _ g1
  have q2:=Z7e _ g2
  refine Z44 _ _ _ _ _ _ _ ?_
  rw [if_pos (by omega)]
  refine ⟨by omega,_,List.getElem?_eq_getElem hi,?_⟩
  rw [show w ((i:Int)+1)=((i+1:Nat):Int) from h5]
  unfold qRes at q1
  by_cases he:es[i].Zb.Atoms=[]
  ·rw [if_pos he] at q1
   exact .inl ⟨_,q1,_,_,_,_,q2,by omega,by rw [entE _ he];exact ih⟩
  ·rw [if_neg he] at q1
   exact .inr ⟨_,_,q1,_,_,_,_,q2,by omega,ih⟩
theorem Zbmp (c:Zp) (h:Lc c.Entries):Zj4 c=some (cRes c.Clock c.Entries):=by
 refine Zbiv _ _ (Zbiu _ _ _ _ _ _ ?_)
 unfold cRes
 cases he:c.Entries with
 | nil=>simp
 | cons e es =>
  rw [if_pos (by simp),if_neg (by simp)]
  rw [he] at h
  obtain ⟨g1,g2⟩:=h.2 e (by simp)
  have q1:=Z7c _ g1
  have q2:=Z7e _ g2
  have ih:=Zbmo 0 c.Clock (e::es) h 1 (by simp) [e] rfl
  simp only [List.drop_succ_cons,List.drop_zero,List.singleton_append] at ih
  refine ⟨by omega,e,rfl,?_⟩
  rw [show w (0+1)=((1:Nat):Int) from by decide]
  unfold qRes at q1
  by_cases he2:e.Zb.Atoms=[]
  ·rw [if_pos he2] at q1
   exact .inl ⟨_,q1,_,_,_,_,q2,by rw [entE _ he2];exact ih⟩
  ·rw [if_neg he2] at q1
   exact .inr ⟨_,_,q1,_,_,_,_,q2,ih⟩
theorem Zbmq (q:Zb) (h:Lq q) (a b:Int):∀ i,i≤q.Atoms.length→∀ acc,acc.length=i→Zi5 q a b acc i=some (.agg [I b,.own 0],[.arr 223 2 true ((acc++q.Atoms.drop i).map Atom.c)]):=by
 refine down _ ?_ ?_
 ·intro acc ho
  refine Z48 _ _ _ _ _ _ ?_
  rw [if_neg (by omega),List.drop_length];simp
 ·intro i hi ih acc ho
  have h5:=inc64 (i:=i) (by have:=h.1;omega)
  have hl:=h.1
  refine Z48 _ _ _ _ _ _ ?_
  rw [if_pos (by omega)]
  refine ⟨by omega,_,List.getElem?_eq_getElem hi,by have:=h.2 _ (List.getElem_mem hi);omega,by omega,?_⟩
  have ih:=ih (acc++[q.Atoms[i]]) (by simp [ho])
  rw [List.append_assoc,List.singleton_append,← List.drop_eq_getElem_cons hi] at ih
  rw [show w ((i:Int)+1)=((i+1:Nat):Int) from h5]
  exact ih
theorem x_l7Copy (q:Zb) (h:Lq q):Zj6 q=some (qRes q.Ze q.Atoms):=by
 refine Zbi4 _ _ (Zbi3 _ _ _ _ _ ?_)
 unfold qRes
 by_cases he:q.Atoms=[]
 ·simp [he]
 ·have hlt:0<q.Atoms.length:=List.length_pos_iff.2 he
  rw [if_pos (by omega),if_neg he]
  have hv:=h.2 _ (List.getElem_mem hlt)
  refine ⟨by omega,_,List.getElem?_eq_getElem hlt,by omega,?_⟩
  have:=Zbmq q h 0 q.Ze 1 (by omega) [q.Atoms[0]] rfl
  rw [show w (0+1)=((1:Nat):Int) from by decide,this,List.singleton_append,← List.drop_eq_getElem_cons hlt,List.drop_zero]
theorem Zbmr (b:Box) (h1:b.Low.length≤4294967296) (h2:b.High.length≤4294967296):Zne b=some (.agg [.own 0,.own 1],[.arr 3 1 true (b.Low.map ic),.arr 3 1 true (b.High.map ic)]):=Zbi5 _ _ ⟨by omega,by omega,rfl⟩
theorem Zbms (r:Region) (h:Lr r):Zj7 r=some (rRes r):=Zbi6 _ _ ⟨by have:=h.1;omega,_,_,Zbmr _ h.2.1 h.2.2,rfl⟩
theorem Z7f (e:Zf) (h:Lq e.Zb∧Lr e.Region):(e.Zb.Atoms=[]∧Zeq e=some (.agg [I e.Zb.Ze,.t .nil,.own 0,.own 1,.own 2,I e.Region.Percent,I e.Version,I e.Used],[.arr 142 3 true (e.Region.Plan.Steps.map Zc.c),.arr 3 1 true (e.Region.Box.Low.map ic),.arr 3 1 true (e.Region.Box.High.map ic)])) ∨
  (e.Zb.Atoms≠[]∧Zeq e=some (.agg [I e.Zb.Ze,.own 0,.own 1,.own 2,.own 3,I e.Region.Percent,I e.Version,I e.Used],[.arr 223 2 true (e.Zb.Atoms.map Atom.c),.arr 142 3 true (e.Region.Plan.Steps.map Zc.c),.arr 3 1 true (e.Region.Box.Low.map ic),.arr 3 1 true (e.Region.Box.High.map ic)])):=by
 have q1:=x_l7Copy _ h.1
 have q2:=Zbms _ h.2
 unfold qRes at q1
 by_cases he:e.Zb.Atoms=[]
 ·rw [if_pos he] at q1
  exact .inl ⟨he,Z49 _ _ (.inl ⟨_,q1,_,_,_,_,q2,rfl⟩)⟩
 ·rw [if_neg he] at q1
  exact .inr ⟨he,Z49 _ _ (.inr ⟨_,_,q1,_,_,_,_,q2,rfl⟩)⟩
theorem Zbmt (c:Zp) (h:Lc c.Entries) (a b:Int):∀ i,i≤c.Entries.length→∀ acc,acc.length=i→Zfs c a b acc i=some (.agg [I b,.own 0],[.arr 114 8 true ((acc++c.Entries.drop i).map Zf.c)]):=by
 refine down _ ?_ ?_
 ·intro acc ho
  refine Z5a _ _ _ _ _ _ ?_
  rw [if_neg (by omega),List.drop_length];simp
 ·intro i hi ih acc ho
  have h5:=inc64 (i:=i) (by have:=h.1;omega)
  have hl:=h.1
  have ih:=ih (acc++[c.Entries[i]]) (by simp [ho])
  rw [List.append_assoc,show [c.Entries[i]]++c.Entries.drop (i+1)=c.Entries.drop i by rw [List.drop_eq_getElem_cons hi];rfl] at ih
  refine Z5a _ _ _ _ _ _ ?_
  rw [if_pos (by omega)]
  refine ⟨by omega,_,List.getElem?_eq_getElem hi,?_⟩
  rw [show w ((i:Int)+1)=((i+1:Nat):Int) from h5]
  rcases Z7f _ (h.2 _ (List.getElem_mem hi)) with ⟨he,q⟩ | ⟨he,q⟩
  ·exact .inl ⟨_,_,_,_,_,_,_,q,by omega,by rw [entE _ he];exact ih⟩
  ·exact .inr ⟨_,_,_,_,_,_,_,_,q,by omega,ih⟩
theorem Zbmu (c:Zp) (h:Lc c.Entries):Zj8 c=some (cRes c.Clock c.Entries):=by
 refine Zbi8 _ _ (Zbi7 _ _ _ _ _ ?_)
 unfold cRes
 by_cases he:c.Entries=[]
 ·simp [he]
 ·have hlt:0<c.Entries.length:=List.length_pos_iff.2 he
  rw [if_pos (by omega),if_neg he]
  have ih:=Zbmt c h 0 c.Clock 1 (by omega) [c.Entries[0]] rfl
  rw [List.singleton_append,← List.drop_eq_getElem_cons hlt,List.drop_zero] at ih
  refine ⟨by omega,_,List.getElem?_eq_getElem hlt,?_⟩
  rw [show w (0+1)=((1:Nat):Int) from by decide]
  rcases Z7f _ (h.2 _ (List.getElem_mem hlt)) with ⟨he,q⟩ | ⟨he,q⟩
  ·exact .inl ⟨_,_,_,_,_,_,_,q,by rw [entE _ he];exact ih⟩
  ·exact .inr ⟨_,_,_,_,_,_,_,_,q,ih⟩
theorem dropE {α:Type} {xs ys:List α} {i:Nat} (h:i<xs.length) (h':i<ys.length):(xs.drop i=ys.drop i)↔(xs[i]=ys[i]∧xs.drop (i+1)=ys.drop (i+1)):=by rw [List.drop_eq_getElem_cons h,List.drop_eq_getElem_cons h',List.cons.injEq]
theorem l_slEq (xs ys:List Int) (hl:ys.length=xs.length) (hx:xs.length≤4294967296):∀ i,i≤xs.length→Zi1 xs ys xs.length i=some (Bo (decide (xs.drop i=ys.drop i)),[]):=by
 refine down _ ?_ ?_
 ·refine Z45 _ _ _ _ _ ?_
  rw [if_neg (by omega),List.drop_length,← hl,List.drop_length];simp
 ·intro i hi ih
  have h5:=inc64 (i:=i) (by omega)
  have hi':i<ys.length:=by omega
  refine Z45 _ _ _ _ _ ?_
  rw [if_pos (by omega)]
  refine ⟨by omega,_,List.getElem?_eq_getElem hi,_,List.getElem?_eq_getElem hi',?_⟩
  rw [show w ((i:Int)+1)=((i+1:Nat):Int) from h5]
  by_cases c:xs[i]=ys[i]
  ·rw [if_pos (by simpa using c),ih];simp [dropE hi hi',c]
  ·rw [if_neg (by simpa using c)];simp [dropE hi hi',c]
theorem x_slEq (xs ys:List Int) (hx:xs.length≤4294967296):Zm8 xs ys=some (Bo (decide (xs=ys)),[]):=by
 refine Zbiw _ _ _ ?_
 by_cases c:(xs.length:Int)=(ys.length:Int)
 ·rw [if_pos c]
  simpa using l_slEq xs ys (by omega) hx 0 (Nat.zero_le _)
 ·rw [if_neg c]
  have:¬ xs=ys:=fun hc=>c (by rw [hc])
  simp [this]
theorem Zbmv (a b:Atom) (h:a.Vars.length≤4294967296):Zm9 a b=some (Bo (decide (a=b)),[]):=by
 refine Zbix _ _ _ ?_
 by_cases c:a.Name=b.Name
 ·rw [if_pos c]
  exact ⟨_,x_slEq _ _ h,by simp [Atom.ext_iff,c]⟩
 ·rw [if_neg c];simp [Atom.ext_iff,c]
theorem l_eqF (xs ys:List Atom) (hl:ys.length=xs.length) (hx:xs.length≤4294967296∧∀ a∈xs,a.Vars.length≤4294967296):∀ i,i≤xs.length→Zi2 ys xs xs.length i=some (Bo (decide (xs.drop i=ys.drop i)),[]):=by
 refine down _ ?_ ?_
 ·refine Z46 _ _ _ _ _ ?_
  rw [if_neg (by omega),List.drop_length,← hl,List.drop_length];simp
 ·intro i hi ih
  have h5:=inc64 (i:=i) (by omega)
  have hi':i<ys.length:=by omega
  refine Z46 _ _ _ _ _ ?_
  rw [if_pos (by omega)]
  refine ⟨by omega,_,List.getElem?_eq_getElem hi,_,List.getElem?_eq_getElem hi',_,Zbmv _ _ (hx.2 _ (List.getElem_mem hi)),?_⟩
  rw [show w ((i:Int)+1)=((i+1:Nat):Int) from h5]
  by_cases c:xs[i]=ys[i]
  ·rw [if_pos (by simpa using c),ih];simp [dropE hi hi',c]
  ·rw [if_neg (by simpa using c)];simp [dropE hi hi',c]
theorem Zbmw (a b:Zb) (h:Lq a):Zna a b=some (Bo (decide (a=b)),[]):=by
 refine Zbiz _ _ _ ?_
 by_cases c:a.Ze=b.Ze
 ·rw [if_pos c]
  refine ⟨decide (a.Atoms=b.Atoms),Zbiy _ _ _ ?_,by simp [Zb.ext_iff,c]⟩
  by_cases c2:(a.Atoms.length:Int)=(b.Atoms.length:Int)
  ·rw [if_pos c2]
   simpa using l_eqF a.Atoms b.Atoms (by omega) h 0 (Nat.zero_le _)
  ·rw [if_neg c2]
   have:¬ a.Atoms=b.Atoms:=fun hc=>c2 (by rw [hc])
   simp [this]
 ·rw [if_neg c];simp [Zb.ext_iff,c]
def cmpEnd (a b:List Int):Int:=if a.length<b.length then -1 else if b.length<a.length then 1 else 0
theorem j_cmp (a b:List Int) (i:Int) (x:Bool):Zj9 a b i x=some (I (cmpEnd a b),[]):=by
 refine Zbi9 _ _ _ _ _ ?_
 unfold cmpEnd
 by_cases c:a.length<b.length
 ·rw [if_pos (by omega),if_pos c]
 ·rw [if_neg (by omega),if_neg c]
  by_cases c2:b.length<a.length
  ·rw [if_pos (by omega),if_pos c2]
  ·rw [if_neg (by omega),if_neg c2]
theorem l_cmp (a b:List Int) (ha:a.length≤4294967296):∀ i,i≤a.length→Zi6 a b i=some (I (match Zc5 (a.drop i) (b.drop i) with | some r=>r | none=>cmpEnd a b),[]):=by
 refine down _ ?_ ?_
 ·refine Z5b _ _ _ _ ?_
  rw [if_neg (by omega),List.drop_length,j_cmp];simp [Zc5]
 ·intro i hi ih
  have h5:=inc64 (i:=i) (by omega)
  refine Z5b _ _ _ _ ?_
  rw [if_pos (by omega)]
  by_cases c:i<b.length
  ·rw [if_pos (by omega)]
   refine ⟨by omega,_,List.getElem?_eq_getElem hi,_,List.getElem?_eq_getElem c,?_⟩
   rw [show w ((i:Int)+1)=((i+1:Nat):Int) from h5,List.drop_eq_getElem_cons hi,List.drop_eq_getElem_cons c,Zc5]
   by_cases c1:a[i]<b[i]
   ·rw [if_pos (by simpa using c1),if_pos c1]
   ·rw [if_neg (by simpa using c1),if_neg c1]
    by_cases c2:b[i]<a[i]
    ·rw [if_pos (by simpa using c2),if_pos (by simpa using c2)]
    ·rw [if_neg (by simpa using c2),if_neg (by simpa using c2)];exact ih
  ·rw [if_neg (by omega),j_cmp,List.drop_eq_getElem_cons hi,List.drop_eq_nil_of_le (by omega:b.length≤i)]
   simp [Zc5]
theorem Zbmx (a b:List Int) (ha:a.length≤4294967296):Znh a b=some (I (Zq3 a b),[]):=by
 have:=l_cmp a b ha 0 (Nat.zero_le _)
 simp only [List.drop_zero] at this
 refine Zbja _ _ _ this
theorem l_sEq (a b:Zb) (hl:b.Atoms.length=a.Atoms.length) (h:Lq a):∀ i,i≤a.Atoms.length→Zi7 a b i=some (Bo (decide (a.Atoms.drop i=b.Atoms.drop i)),[]):=by
 refine down _ ?_ ?_
 ·refine Z5c _ _ _ _ ?_
  rw [if_neg (by omega),List.drop_length,← hl,List.drop_length];simp
 ·intro i hi ih
  have h5:=inc64 (i:=i) (by have:=h.1;omega)
  have hi':i<b.Atoms.length:=by omega
  refine Z5c _ _ _ _ ?_
  rw [if_pos (by omega)]
  refine ⟨by omega,_,List.getElem?_eq_getElem hi,_,List.getElem?_eq_getElem hi',?_⟩
  rw [show w ((i:Int)+1)=((i+1:Nat):Int) from h5]
  by_cases c:a.Atoms[i].Name=b.Atoms[i].Name
  ·rw [if_pos (by simpa using c)]
   refine ⟨_,Zbmx _ _ (h.2 _ (List.getElem_mem hi)),?_⟩
   by_cases c2:a.Atoms[i].Vars=b.Atoms[i].Vars
   ·rw [if_pos ((Zxc _ _).2 (by simpa using c2)),ih]
    have:a.Atoms[i]=b.Atoms[i]:=Atom.ext c c2
    simp [dropE hi hi',this]
   ·rw [if_neg (fun hc=>c2 (by simpa using (Zxc _ _).1 hc))]
    have:¬ a.Atoms[i]=b.Atoms[i]:=fun hc=>c2 (by rw [hc])
    simp [dropE hi hi',this]
  ·rw [if_neg (by simpa using c)]
   have:¬ a.Atoms[i]=b.Atoms[i]:=fun hc=>c (by rw [hc])
   simp [dropE hi hi',this]
theorem Zbmy (a b:Zb) (h:Lq a):Zni a b=some (Bo (decide (a=b)),[]):=by
 refine Zbjb _ _ _ ?_
 by_cases c:a.Ze=b.Ze
 ·rw [if_pos c]
  by_cases c2:(a.Atoms.length:Int)=(b.Atoms.length:Int)
  ·rw [if_pos c2]
   have:=l_sEq a b (by omega) h 0 (Nat.zero_le _)
   simp only [List.drop_zero] at this
   rw [show ((0:Nat):Int)=0 from rfl] at this
   rw [this]
   simp [Zb.ext_iff,c]
  ·rw [if_neg c2]
   have:¬ a.Atoms=b.Atoms:=fun hc=>c2 (by rw [hc])
   simp [Zb.ext_iff,this]
 ·rw [if_neg c];simp [Zb.ext_iff,c]
def fits (q:Zb) (v:Int) (l:List Int) (e:Zf):Bool:=decide (e.Version=v) && (decide (e.Zb=q) && inBox e.Region.Box.Low e.Region.Box.High l)
theorem l_findE (es:List Zf) (h:Lc es) (q:Zb) (v:Int) (l:List Int) (hl:Le l):∀ i,i≤es.length→Zi3 es v q l es.length i=some (I (Zbi (fits q v l) (es.drop i) i),[]):=by
 refine down _ ?_ ?_
 ·refine Z47 _ _ _ _ _ _ _ ?_
  rw [if_neg (by omega),List.drop_length];rfl
 ·intro i hi ih
  have h5:=inc64 (i:=i) (by have:=h.1;omega)
  obtain ⟨g1,g2⟩:=h.2 _ (List.getElem_mem hi)
  have q1:Znb es[i] v q l=some (Bo (fits q v l es[i]),[]):=by
   refine Zbi0 _ _ _ _ _ ?_
   unfold fits
   by_cases c:es[i].Version=v
   ·rw [if_pos c]
    refine ⟨_,Zbmw _ _ g1,?_⟩
    by_cases c2:es[i].Zb=q
    ·rw [if_pos (by simp [c2])]
     exact ⟨_,Zbmk _ ⟨by have:=g2.2.1;omega,by have:=g2.2.2;omega⟩ _ hl,by simp [c,c2]⟩
    ·rw [if_neg (by simp [c2])];simp [c2]
   ·rw [if_neg c];simp [c]
  refine Z47 _ _ _ _ _ _ _ ?_
  rw [if_pos (by omega)]
  refine ⟨by omega,_,List.getElem?_eq_getElem hi,_,q1,?_⟩
  rw [Zog _ hi]
  split
  ·rfl
  ·rw [show w ((i:Int)+1)=((i+1:Nat):Int) from h5]
   exact ih
theorem Zbmz (c:Zp) (h:Lc c.Entries) (q:Zb) (v:Int) (l:List Int) (hl:Le l):Zj5 c q v l=some (I (Zbi (fits q v l) c.Entries 0),[]) :=
 Zbi2 _ _ _ _ _ ⟨_,Zbi1 _ _ _ _ _ (l_findE _ h q v l hl 0 (Nat.zero_le _)),rfl⟩
theorem l_sfind (c:Zp) (h:Lc c.Entries) (q:Zb) (v:Int) (l:List Int) (hl:Le l):∀ i,i≤c.Entries.length→Zft c q v l i=some (I (Zbi (fits q v l) (c.Entries.drop i) i),[]):=by
 refine down _ ?_ ?_
 ·refine Z5d _ _ _ _ _ _ ?_
  rw [if_neg (by omega),List.drop_length];rfl
 ·intro i hi ih
  have h5:=inc64 (i:=i) (by have:=h.1;omega)
  obtain ⟨g1,g2⟩:=h.2 _ (List.getElem_mem hi)
  refine Z5d _ _ _ _ _ _ ?_
  rw [if_pos (by omega)]
  refine ⟨by omega,_,List.getElem?_eq_getElem hi,?_⟩
  rw [Zog _ hi,show w ((i:Int)+1)=((i+1:Nat):Int) from h5]
  unfold fits
  by_cases c1:c.Entries[i].Version=v
  ·rw [if_pos (by simpa using c1)]
   refine ⟨_,Zbmy _ _ g1,?_⟩
   by_cases c2:c.Entries[i].Zb=q
   ·rw [if_pos (by simpa using c2)]
    refine ⟨_,Zbml _ ⟨by have:=g2.2.1;omega,by have:=g2.2.2;omega⟩ _ hl,?_⟩
    rcases tf (inBox c.Entries[i].Region.Box.Low c.Entries[i].Region.Box.High l) with e | e
    ·rw [e,if_neg (by simp),if_neg (by simp)];exact ih
    ·rw [e,if_pos rfl,if_pos (by simp [c1,c2])]
   ·rw [if_neg (by simpa using c2),if_neg (by simp [c2])];exact ih
  ·rw [if_neg (by simpa using c1),if_neg (by simp [c1])];exact ih
theorem Zbm0 (c:Zp) (h:Lc c.Entries) (q:Zb) (v:Int) (l:List Int) (hl:Le l):Zka c q v l=some (I (Zbi (fits q v l) c.Entries 0),[]) :=
 Zbjc _ _ _ _ _ (l_sfind c h q v l hl 0 (Nat.zero_le _))
theorem Z7g {α:Type} (p:α→Bool):∀ (xs:List α) (i:Nat),Zbi p xs i=-1∨∃ j:Nat,Zbi p xs i=((i+j:Nat):Int)∧∃ hj:j<xs.length,p xs[j]=true
 | [],_=>.inl rfl
 | x::xs,i=>by
  unfold Zbi
  split
  ·rename_i h
   exact .inr ⟨0,rfl,by simp,by simpa using h⟩
  ·rcases Z7g p xs (i+1) with h | ⟨j,h1,h2,h3⟩
   ·exact .inl h
   ·exact .inr ⟨j+1,by rw [h1];omega,by simp;omega,by simpa using h3⟩
end Go.Proofs.YtbapkgocloaaeaaGreat
/- part: LL -/
namespace Go.Proofs.YtbapkgocloaaeaaGreat
open Go.AM
def lkNo (c:Zp):AV×List Blk:=if c.Entries=[] then (.tup [.agg [I c.Clock,.t .nil],.agg [.t .nil],Bo false],[]) else (.tup [.agg [I c.Clock,.own 0],.agg [.t .nil],Bo false],[.arr 114 8 true (c.Entries.map Zf.c)])
def touched (es:List Zf) (i:Nat) (e:Zf) (n:Int):List Zf:=es.set i ⟨e.Zb,e.Region,e.Version,n⟩
def lkYes (c:Zp) (i:Nat) (e:Zf):AV×List Blk:=(.tup [.agg [I (c.Clock+1),.own 0],.agg [.own 1],Bo true],[.arr 114 8 true ((touched c.Entries i e (c.Clock+1)).map Zf.c),.arr 142 3 true (e.Region.Plan.Steps.map Zc.c)])
def Found (m:Zd) (c:Zp) (q:Zb) (v:Int) (l:List Int) (i:Nat) (e:Zf):Prop:=Zbi (fits q v l) c.Entries 0=(i:Int)∧c.Entries[i]?=some e∧c.Clock≠1000000∧Zfx m c=true
theorem Zbm1 (m:Zd) (hm:LeM m) (c:Zp) (h:Lc c.Entries) (q:Zb) (v:Int) (l:List Int) (hl:Le l) :
  (Zi4 m c q v l=some (lkNo c)∧Zi8 m c q v l=some (lkNo c)) ∨
  ∃ i e,Found m c q v l i e∧Zi4 m c q v l=some (lkYes c i e)∧Zi8 m c q v l=some (lkYes c i e):=by
 have q1:=Zbmp c h
 have q2:=Zbmu c h
 have q3:=Zbmz c h q v l hl
 have q4:=Zbm0 c h q v l hl
 have q5:=Zbmg m hm c h.le
 have q6:=Zbmj m hm c h.le
 unfold cRes at q1 q2
 by_cases he:c.Entries=[]
 ·rw [if_pos he] at q1 q2
  have hf:Zbi (fits q v l) c.Entries 0=-1:=by rw [he];rfl
  rw [hf] at q3 q4
  refine .inl ⟨Zvd _ _ _ _ _ _ (.inl ⟨_,q1,_,q3,?_⟩),Zve _ _ _ _ _ _ (.inl ⟨_,q2,_,q4,_,q6,?_⟩)⟩
  ·rw [if_pos (by decide)];unfold lkNo;rw [if_pos he]
  ·rw [if_pos (by decide:(-1:Int)<0)];unfold lkNo;rw [if_pos he];split <;> rfl
 rw [if_neg he] at q1 q2
 have no:(Zbi (fits q v l) c.Entries 0<0∨c.Clock=1000000∨Zfx m c=false)→Zi4 m c q v l=some (lkNo c)∧Zi8 m c q v l=some (lkNo c):=by
  intro hn
  refine ⟨Zvd _ _ _ _ _ _ (.inr ⟨_,_,q1,_,q3,?_⟩),Zve _ _ _ _ _ _ (.inr ⟨_,_,q2,_,q4,_,q6,?_⟩)⟩
  all_goals (unfold lkNo;rw [if_neg he])
  ·split
   ·rfl
   ·split
    ·rfl
    ·refine ⟨_,q5,?_⟩
     rcases hn with hn | hn | hn
     ·contradiction
     ·contradiction
     ·rw [hn];rfl
  ·rcases tf (Zfx m c) with e | e
   ·rw [e];rfl
   ·rw [e,if_pos rfl]
    split
    ·rfl
    ·split
     ·rfl
     ·rcases hn with hn | hn | hn
      ·contradiction
      ·contradiction
      ·rw [hn] at e;cases e
 rcases Z7g (fits q v l) c.Entries 0 with hf | ⟨j,hf,hj,hfit⟩
 ·exact .inl (no (.inl (by omega)))
 by_cases hc:c.Clock=1000000
 ·exact .inl (no (.inr (.inl hc)))
 rcases tf (Zfx m c) with hv | hv
 ·exact .inl (no (.inr (.inr hv)))
 rw [Nat.zero_add] at hf
 have hk:inR c.Clock 0 1000000=true:=by
  unfold Zfx at hv
  simp only [Bool.and_eq_true] at hv
  exact hv.1
 simp [inR] at hk
 have hw:w (c.Clock+1)=c.Clock+1:=wrap64 (by omega) (by omega)
 have hej:=List.getElem?_eq_getElem hj
 obtain ⟨g1,g2⟩:=h.2 _ (List.getElem_mem hj)
 rw [hf] at q3 q4
 refine .inr ⟨j,c.Entries[j],⟨hf,hej,hc,hv⟩,Zvd _ _ _ _ _ _ (.inr ⟨_,_,q1,_,q3,?_⟩),Zve _ _ _ _ _ _ (.inr ⟨_,_,q2,_,q4,_,q6,?_⟩)⟩
 ·rw [if_neg (by omega),if_neg hc]
  refine ⟨_,q5,?_⟩
  rw [hv,if_pos rfl]
  refine ⟨by omega,_,hej,_,hej,_,Z7d _ g2.1,?_⟩
  rw [hw];rfl
 ·rw [hv,if_pos rfl,if_neg (by omega),if_neg hc]
  refine ⟨by omega,_,hej,_,hej,by have:=g2.1;omega,?_⟩
  rw [hw];rfl
end Go.Proofs.YtbapkgocloaaeaaGreat
