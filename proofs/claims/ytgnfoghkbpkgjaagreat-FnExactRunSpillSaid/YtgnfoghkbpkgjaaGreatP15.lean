/-
  Parts of the proofs for this seat: SE SF RX RT SQ SG SH SR.
-/
import Derived.Test.YtgnfoghkbpkgjaaGreatP11
import Derived.Test.YtgnfoghkbpkgjaaGreatP14
set_option linter.unusedSimpArgs false
set_option linter.unusedVariables false
set_option maxRecDepth 100000
set_option maxHeartbeats 4000000
namespace Go.Proofs.YtgnfoghkbpkgjaaGreat
open Go.AM
theorem J2.of {q:Zd} (hq:Zn q.Zl q.Atoms=true) {u z:Zb} {a b:Za} (A:GS q u a) (B:GS q z b) (hu:0≤u.Mask∧u.Mask<16) (hz:0≤z.Mask∧z.Mask<16) (h0:andI u.Mask z.Mask=0):J2 a b:=by
 refine ⟨A.vs hq,B.vs hq,?_⟩;have h1:=Nat.mul_le_mul A.len B.len;rw [← Nat.pow_add,← pc_or hu hz h0] at h1;exact Nat.le_trans h1 (Zqg _)
theorem Zd6 {out:List Za} {s:Int} (h:s.toNat<out.length):out[s.toNat]?=some (out.getD s.toNat ⟨[],[]⟩):=by rw [List.getD_eq_getElem?_getD,List.getElem?_eq_getElem h];rfl
section
variable {d:Zk} (hd:LeD d) {q:Zd} (hq:LeQ q) (h:qFor d q=true) {info:List Zb} (hM:∀ y∈info,0≤y.Mask∧y.Mask<16)
include hd hq h hM
omit hd hq in
theorem Z9a {out:List Za} (G:GSs q info out) {i:Nat} (hi:out.length=i) {x:Ze} {y:Zb} (F:Zd5 q.Atoms x (info.take i) y) (k1:x.Kind≠1) (k2:x.Kind≠2) :
  0≤y.Left∧out[y.Left.toNat]?=some (out.getD y.Left.toNat ⟨[],[]⟩)∧0≤y.Right∧out[y.Right.toNat]?=some (out.getD y.Right.toNat ⟨[],[]⟩)∧J2 (out.getD y.Left.toNat ⟨[],[]⟩) (out.getD y.Right.toNat ⟨[],[]⟩)∧(x.Kind=3∨x.Kind=4∨x.Kind=5) ∧
  (x.Kind=4→∃ v,x.Order=v∧has (out.getD y.Left.toNat ⟨[],[]⟩).Vars v=true∧has (out.getD y.Right.toNat ⟨[],[]⟩).Vars v=true ∧
   ((out.getD y.Left.toNat ⟨[],[]⟩).Rows.Pairwise fun p q=>kx (cix (out.getD y.Left.toNat ⟨[],[]⟩).Vars v).toNat p≤kx (cix (out.getD y.Left.toNat ⟨[],[]⟩).Vars v).toNat q) ∧
   ((out.getD y.Right.toNat ⟨[],[]⟩).Rows.Pairwise fun p q=>kx (cix (out.getD y.Right.toNat ⟨[],[]⟩).Vars v).toNat p≤kx (cix (out.getD y.Right.toNat ⟨[],[]⟩).Vars v).toNat q)):=by
 have hv:Zn q.Zl q.Atoms=true:=by unfold qFor at h;simp only [Bool.and_eq_true] at h;exact h.1
 have hm:∀ {s:Nat} {u:Zb},(info.take i)[s]?=some u→0≤u.Mask∧u.Mask<16:=fun hs=>hM _ (List.mem_of_mem_take (List.mem_of_getElem? hs))
 obtain ⟨s,u,t,z,o,f1,f2,f3,f4,f5,rfl,f6⟩:=F.join k1 k2;obtain ⟨a1,a2,A⟩:=Zj6 G hi f1 f2;obtain ⟨b1,b2,B⟩:=Zj6 G hi f3 f4;refine ⟨f1,a2,f3,b2,J2.of hv A B (hm f2) (hm f4) f5,by omega,fun k4=>?_⟩;rcases f6 with ⟨k,_⟩ | ⟨k,_⟩ | ⟨k,g1,g2,g3,g4,_⟩
 ·omega
 ·omega
 ·have h0:0≤x.Order:=by unfold vin at g1;simp only [Bool.and_eq_true] at g1;have:=g1.1;simp [inR] at this;omega
  have A2:=A.ord (by rw [g3];exact h0);have B2:=B.ord (by rw [g4];exact h0);rw [g3] at A2;rw [g4] at B2;exact ⟨_,rfl,A2.1,B2.1,A2.2,B2.2⟩
omit hd hq hM in
theorem Z9b {out:List Za} (G:GSs q info out) {i:Nat} (hi:out.length=i) {x:Ze} {y:Zb} (F:Zd5 q.Atoms x (info.take i) y) (k2:x.Kind=2) :
  0≤y.Left∧out[y.Left.toNat]?=some (out.getD y.Left.toNat ⟨[],[]⟩)∧VS (out.getD y.Left.toNat ⟨[],[]⟩)∧has (out.getD y.Left.toNat ⟨[],[]⟩).Vars x.Order=true:=by
 have hv:Zn q.Zl q.Atoms=true:=by unfold qFor at h;simp only [Bool.and_eq_true] at h;exact h.1
 obtain ⟨s,u,f1,f2,f3,rfl⟩:=F.sort k2;obtain ⟨a1,a2,A⟩:=Zj6 G hi f1 f2;exact ⟨f1,a2,A.vs hv,(Z73 hv A f3 s).2⟩
omit hd hq h hM in
theorem Zeq (s:Za):(s=⟨s.Vars,[]⟩∧Zw s=(.tup [.agg [.own 0,.t .nil],Bo true],[.arr 3 1 true (s.Vars.map ic)]))∨Zw s=(.tup [.agg [.own 0,.own 1],Bo true],[.arr 3 1 true (s.Vars.map ic),.arr 30 1 true (s.Rows.map isc)]):=by
 by_cases e:s.Rows=[]
 ·left;refine ⟨by cases s;simp only at e;rw [e],?_⟩;unfold Zw;rw [if_pos e]
 ·right;unfold Zw;rw [if_neg e]
theorem l_exec {steps:List Ze} (hl:info.length=steps.length) (h14:steps.length≤14) (hF:∀ (j:Nat) (y:Zb) (x:Ze),info[j]?=some y→steps[j]?=some x→Zd5 q.Atoms x (info.take j) y):∀ i,i≤steps.length→∀ (out:List Za) (fr:Bool),out.length=i→GSs q info out →
  ∃ fr',Zb4 d q info fr out steps steps.length i=some (.tup [.own 0,.own 1,Bo true],[.arr 209 4 true (info.map Zb.c),.arr 199 2 fr' ((Zbo d q (steps.drop i) (info.drop i) out).map Za.c)]):=by
 refine down _ ?_ ?_
 ·intro out fr hi G;refine ⟨fr,Zp1 _ _ _ _ _ _ _ _ _ ?_⟩;rw [if_neg (by omega),List.drop_length];rfl
 ·intro i hi ih out fr ho G;have hi2:i<info.length:=by omega
  have hx:steps[i]?=some steps[i]:=List.getElem?_eq_getElem hi;have hy:info[i]?=some info[i]:=List.getElem?_eq_getElem hi2;have F:=hF i _ _ hy hx;have hg:=st_gs h G hM ho F;have G2:=Zxq G ho hy hg;have step:Zbo d q (steps.drop i) (info.drop i) out=Zbo d q (steps.drop (i+1)) (info.drop (i+1)) (out++[stS d q steps[i] info[i] out]):=by
   rw [List.drop_eq_getElem_cons hi,List.drop_eq_getElem_cons hi2,Zbo]
  have nx:∀ fr,∃ fr',Zb4 d q info fr (out++[stS d q steps[i] info[i] out]) steps steps.length ((i+1:Nat):Int)=some (.tup [.own 0,.own 1,Bo true],[.arr 209 4 true (info.map Zb.c),.arr 199 2 fr' ((Zbo d q (steps.drop i) (info.drop i) out).map Za.c)]):=by
   intro fr;rw [step];exact ih _ fr (by simp [ho]) G2
  generalize Zbo d q (steps.drop i) (info.drop i) out=fin at nx ⊢;generalize hxx:steps[i]=x at *
  generalize hyy:info[i]=y at *
  have hol:out.length+1≤68719476736:=by omega
  unfold stS at nx;by_cases k1:x.Kind=1
  ·rw [if_pos k1] at nx;obtain ⟨f1,-⟩:=F.scan k1;have hs:=Zbnv hd hq h f1;obtain ⟨fr',hn⟩:=nx fr;refine ⟨fr',Zp1 _ _ _ _ _ _ _ _ _ ?_⟩;rw [if_pos (by omega),wS hi (by omega)];refine ⟨by omega,x,by rw [Int.toNat_natCast];exact hx,?_⟩;rw [if_pos k1];rcases Zeq (Zda d q x.Atom) with ⟨e1,e2⟩ | e2
   ·rw [e2] at hs;rw [e1] at hn;exact .inr (.inl ⟨_,hs,hol,hn⟩)
   ·rw [e2] at hs;exact .inr (.inr ⟨_,_,hs,hol,hn⟩)
  ·rw [if_neg k1] at nx;by_cases k2:x.Kind=2
   ·rw [if_pos k2] at nx;obtain ⟨l1,l2,l3,l4⟩:=Z9b h G ho F k2;obtain ⟨fs,hs⟩:=Zbnn l3 l4;obtain ⟨fr',hn⟩:=nx (fr && fs);refine ⟨fr',Zp1 _ _ _ _ _ _ _ _ _ ?_⟩;rw [if_pos (by omega),wS hi (by omega)];refine ⟨by omega,x,by rw [Int.toNat_natCast];exact hx,?_⟩;rw [if_neg k1,if_pos k2];exact ⟨y,by rw [Int.toNat_natCast];exact hy,l1,_,l2,.inr ⟨_,_,_,hs,hol,hn⟩⟩
   ·rw [if_neg k2] at nx;obtain ⟨l1,l2,r1,r2,J,kk,m4⟩:=Z9a h hM G ho F k1 k2;obtain ⟨fr',hn⟩:=nx fr;refine ⟨fr',Zp1 _ _ _ _ _ _ _ _ _ ?_⟩;rw [if_pos (by omega),wS hi (by omega)];refine ⟨by omega,x,by rw [Int.toNat_natCast];exact hx,?_⟩;rw [if_neg k1,if_neg k2];by_cases k3:x.Kind=3
    ·rw [if_pos k3] at hn ⊢;refine ⟨y,by rw [Int.toNat_natCast];exact hy,l1,_,l2,r1,_,r2,?_⟩;have hs:=Zbn2 J;rcases Zeq (hashS (out.getD y.Left.toNat ⟨[],[]⟩) (out.getD y.Right.toNat ⟨[],[]⟩)) with ⟨e1,e2⟩ | e2
     ·rw [e2] at hs;rw [e1] at hn;exact .inr (.inl ⟨_,hs,hol,hn⟩)
     ·rw [e2] at hs;exact .inr (.inr ⟨_,_,hs,hol,hn⟩)
    ·rw [if_neg k3] at hn ⊢;by_cases k4:x.Kind=4
     ·rw [if_pos k4];refine ⟨y,by rw [Int.toNat_natCast];exact hy,l1,_,l2,r1,_,r2,?_⟩;obtain ⟨v,v1,v2,v3,v4,v5⟩:=m4 k4;have hs:=Zbn3 J v2 v3 v4 v5;rw [← v1] at hs;rcases Zeq (Zbn (out.getD y.Left.toNat ⟨[],[]⟩) (out.getD y.Right.toNat ⟨[],[]⟩)) with ⟨e1,e2⟩ | e2
      ·rw [e2] at hs;rw [e1] at hn;exact .inr (.inl ⟨_,hs,hol,hn⟩)
      ·rw [e2] at hs;exact .inr (.inr ⟨_,_,hs,hol,hn⟩)
     ·rw [if_neg k4];refine ⟨y,by rw [Int.toNat_natCast];exact hy,l1,_,l2,r1,_,r2,?_⟩;have hs:=Z83 J;rcases Zeq (Zbn (out.getD y.Left.toNat ⟨[],[]⟩) (out.getD y.Right.toNat ⟨[],[]⟩)) with ⟨e1,e2⟩ | e2
      ·rw [e2] at hs;rw [e1] at hn;exact .inr (.inl ⟨_,hs,hol,hn⟩)
      ·rw [e2] at hs;exact .inr (.inr ⟨_,_,hs,hol,hn⟩)
theorem l_strm {p:Plan} (hl:info.length=p.Steps.length) (h14:p.Steps.length≤14) (hF:∀ (j:Nat) (y:Zb) (x:Ze),info[j]?=some y→p.Steps[j]?=some x→Zd5 q.Atoms x (info.take j) y):∀ i,i≤p.Steps.length→∀ (out:List Za),out.length=i→GSs q info out →
  Zbj d q p info out i=some (.tup [.own 0,.own 1,Bo true],[.arr 199 2 true ((Zbo d q (p.Steps.drop i) (info.drop i) out).map Za.c),.arr 209 4 true (info.map Zb.c)]):=by
 refine down _ ?_ ?_
 ·intro out hi G;refine Z6j _ _ _ _ _ _ _ ?_;rw [if_neg (by omega),List.drop_length];rfl
 ·intro i hi ih out ho G;have hi2:i<info.length:=by omega
  have hx:p.Steps[i]?=some p.Steps[i]:=List.getElem?_eq_getElem hi;have hy:info[i]?=some info[i]:=List.getElem?_eq_getElem hi2;have F:=hF i _ _ hy hx;have hg:=st_gs h G hM ho F;have G2:=Zxq G ho hy hg;have step:Zbo d q (p.Steps.drop i) (info.drop i) out=Zbo d q (p.Steps.drop (i+1)) (info.drop (i+1)) (out++[stS d q p.Steps[i] info[i] out]):=by
   rw [List.drop_eq_getElem_cons hi,List.drop_eq_getElem_cons hi2,Zbo]
  have hn:Zbj d q p info (out++[stS d q p.Steps[i] info[i] out]) ((i+1:Nat):Int)=some (.tup [.own 0,.own 1,Bo true],[.arr 199 2 true ((Zbo d q (p.Steps.drop i) (info.drop i) out).map Za.c),.arr 209 4 true (info.map Zb.c)]):=by
   rw [step];exact ih _ (by simp [ho]) G2
  generalize Zbo d q (p.Steps.drop i) (info.drop i) out=fin at hn ⊢;generalize hxx:p.Steps[i]=x at *
  generalize hyy:info[i]=y at *
  have hol:out.length+1≤68719476736:=by omega
  unfold stS at hn;refine Z6j _ _ _ _ _ _ _ ?_;rw [if_pos (by omega),wS hi (by omega)];refine ⟨by omega,x,by rw [Int.toNat_natCast];exact hx,?_⟩;by_cases k1:x.Kind=1
  ·rw [if_pos k1] at hn ⊢;obtain ⟨f1,-⟩:=F.scan k1;have hs:=Zbn0 hd hq h f1;rcases Zeq (Zda d q x.Atom) with ⟨e1,e2⟩ | e2
   ·rw [e2] at hs;rw [e1] at hn;exact .inr (.inl ⟨_,hs,hol,hn⟩)
   ·rw [e2] at hs;exact .inr (.inr ⟨_,_,hs,hol,hn⟩)
  ·rw [if_neg k1] at hn ⊢;by_cases k2:x.Kind=2
   ·rw [if_pos k2] at hn ⊢;obtain ⟨l1,l2,l3,l4⟩:=Z9b h G ho F k2;have hs:=Zbnr l3 l4;refine ⟨y,by rw [Int.toNat_natCast];exact hy,l1,_,l2,?_⟩;rcases Zeq (sortS (out.getD y.Left.toNat ⟨[],[]⟩) x.Order) with ⟨e1,e2⟩ | e2
    ·rw [e2] at hs;rw [e1] at hn;exact .inr (.inl ⟨_,hs,hol,hn⟩)
    ·rw [e2] at hs;exact .inr (.inr ⟨_,_,hs,hol,hn⟩)
   ·rw [if_neg k2] at hn ⊢;obtain ⟨l1,l2,r1,r2,J,kk,m4⟩:=Z9a h hM G ho F k1 k2;by_cases k3:x.Kind=3
    ·rw [if_pos k3] at hn ⊢;refine ⟨y,by rw [Int.toNat_natCast];exact hy,l1,_,l2,r1,_,r2,?_⟩;have hs:=Zbn4 J;rcases Zeq (hashS (out.getD y.Left.toNat ⟨[],[]⟩) (out.getD y.Right.toNat ⟨[],[]⟩)) with ⟨e1,e2⟩ | e2
     ·rw [e2] at hs;rw [e1] at hn;exact .inl ⟨_,hs,hol,hn⟩
     ·rw [e2] at hs;exact .inr (.inr ⟨_,_,hs,hol,hn⟩)
    ·rw [if_neg k3] at hn ⊢;by_cases k5:x.Kind=5
     ·rw [if_pos k5];refine ⟨y,by rw [Int.toNat_natCast];exact hy,l1,_,l2,r1,_,r2,?_⟩;have hs:=Zbn5 J;rcases Zeq (Zbn (out.getD y.Left.toNat ⟨[],[]⟩) (out.getD y.Right.toNat ⟨[],[]⟩)) with ⟨e1,e2⟩ | e2
      ·rw [e2] at hs;rw [e1] at hn;exact .inl ⟨_,hs,hol,hn⟩
      ·rw [e2] at hs;exact .inr (.inr ⟨_,_,hs,hol,hn⟩)
     ·rw [if_neg k5];refine ⟨y,by rw [Int.toNat_natCast];exact hy,l1,_,l2,r1,_,r2,?_⟩;have k4:x.Kind=4:=by clear m4;omega
      obtain ⟨v,v1,v2,v3,v4,v5⟩:=m4 k4;have hs:=Zbn6 J v2 v3 v4 v5;rw [← v1] at hs;rcases Zeq (Zbn (out.getD y.Left.toNat ⟨[],[]⟩) (out.getD y.Right.toNat ⟨[],[]⟩)) with ⟨e1,e2⟩ | e2
      ·rw [e2] at hs;rw [e1] at hn;exact .inr (.inl ⟨_,hs,hol,hn⟩)
      ·rw [e2] at hs;exact .inr (.inr ⟨_,_,hs,hol,hn⟩)
end
def strm (d:Zk) (q:Zd) (steps:List Ze) (info:List Zb):List Za:=Zbo d q steps info []
theorem Zx2 (q:Zd) (info:List Zb):GSs q info []:=fun j s h=>by simp at h
theorem Zbn7 {d:Zk} {q:Zd} (h:qFor d q=true) {info:List Zb} (hM:∀ y∈info,0≤y.Mask∧y.Mask<16) {steps:List Ze} (hl:info.length=steps.length) (hF:∀ (j:Nat) (y:Zb) (x:Ze),info[j]?=some y→steps[j]?=some x→Zd5 q.Atoms x (info.take j) y) :
  ∀ i,i≤steps.length→∀ (out:List Za),out.length=i→GSs q info out→GSs q info (Zbo d q (steps.drop i) (info.drop i) out)∧(Zbo d q (steps.drop i) (info.drop i) out).length=steps.length:=by
 refine down _ ?_ ?_
 ·intro out ho G;rw [List.drop_length];exact ⟨G,ho⟩
 ·intro i hi ih out ho G;have hi2:i<info.length:=by omega
  have hx:steps[i]?=some steps[i]:=List.getElem?_eq_getElem hi;have hy:info[i]?=some info[i]:=List.getElem?_eq_getElem hi2;have hg:=st_gs h G hM ho (hF i _ _ hy hx);rw [List.drop_eq_getElem_cons hi,List.drop_eq_getElem_cons hi2,Zbo];exact ih _ (by simp [ho]) (Zxq G ho hy hg)
structure PI (q:Zd) (p:Plan) (info:List Zb):Prop where
 eq:Z3 q.Zl q.Atoms p.Steps=some info
theorem PI.val {q:Zd} {p:Plan} {info:List Zb} (P:PI q p info):Zn q.Zl q.Atoms=true∧info.length=p.Steps.length∧1≤p.Steps.length∧p.Steps.length≤14:=by
 have h:=Zfs P.eq;have h2:=P.eq;unfold Z3 at h2;split at h2
 ·rename_i hc;have:=hc.2;simp [inR] at this;exact ⟨h.1,h.2.1,by omega,by omega⟩
 ·cases h2
theorem PI.mask {q:Zd} {p:Plan} {info:List Zb} (P:PI q p info):∀ y∈info,0≤y.Mask∧y.Mask<16:=by
 intro y hy;have h1:=(Zy9 P.eq).1 y hy;have h2:=Zdt P.val.1;unfold Zft at h1;have:(2:Int) ^ q.Atoms.length≤2 ^ 4:=by
  rcases (show q.Atoms.length=1∨q.Atoms.length=2∨q.Atoms.length=3∨q.Atoms.length=4 by omega) with e | e | e | e <;> rw [e] <;> decide
 omega
theorem Zx3 {d:Zk} {q:Zd} (h:qFor d q=true) {p:Plan} {info:List Zb} (P:PI q p info):GSs q info (strm d q p.Steps info)∧(strm d q p.Steps info).length=p.Steps.length:=by
 have:=Zbn7 h P.mask P.val.2.1 (Zqi P.eq) 0 (Nat.zero_le _) [] rfl (Zx2 q info);simpa [strm] using this
theorem Zbn8 {d:Zk} (hd:LeD d) {q:Zd} (hq:LeQ q) (h:qFor d q=true) {p:Plan} {info:List Zb} (P:PI q p info):∃ fr,Zgf d q p=some (.tup [.own 0,.own 1,Bo true],[.arr 209 4 true (info.map Zb.c),.arr 199 2 fr ((strm d q p.Steps info).map Za.c)]):=by
 obtain ⟨fr,hf⟩:=l_exec hd hq h P.mask P.val.2.1 P.val.2.2.2 (Zqi P.eq) 0 (Nat.zero_le _) [] true rfl (Zx2 q info);have hp:=Zp8 q p hq;rw [P.eq] at hp;refine ⟨fr,Zwt _ _ _ _ (.inr ⟨_,hp,_,Zxd d hd q hq,?_⟩)⟩;rw [h,if_pos rfl];exact hf
theorem Z9c {d:Zk} (hd:LeD d) {q:Zd} (hq:LeQ q) {p:Plan} (h:Z3 q.Zl q.Atoms p.Steps=none∨qFor d q=false):Zgf d q p=some (.tup [.t .nil,.t .nil,Bo false],[]):=by
 have hp:=Zp8 q p hq
 cases e:Z3 q.Zl q.Atoms p.Steps with
 | none =>
  rw [e] at hp
  exact Zwt _ _ _ _ (.inl ⟨hp,rfl⟩)
 | some info =>
  rw [e] at hp;have h2:qFor d q=false:=h.resolve_left (by rw [e];simp);refine Zwt _ _ _ _ (.inr ⟨_,hp,_,Zxd d hd q hq,?_⟩);rw [h2,if_neg (by decide)]
theorem Zbn9 {d:Zk} (hd:LeD d) {q:Zd} (hq:LeQ q) (h:qFor d q=true) {p:Plan} {info:List Zb} (P:PI q p info):Zjb d q p=some (.tup [.own 0,.own 1,Bo true],[.arr 199 2 true ((strm d q p.Steps info).map Za.c),.arr 209 4 true (info.map Zb.c)]):=by
 have hf:=l_strm hd hq h P.mask (p:=p) P.val.2.1 P.val.2.2.2 (Zqi P.eq) 0 (Nat.zero_le _) [] rfl (Zx2 q info);have hp:=Zp7 q p hq;rw [P.eq] at hp;refine Zw2 _ _ _ _ ⟨_,_,hp,?_⟩;rw [if_pos rfl];refine ⟨_,Zxe d hd q hq,?_⟩;rw [h,if_pos rfl];exact hf
theorem Z9d {d:Zk} (hd:LeD d) {q:Zd} (hq:LeQ q) {p:Plan} (h:Z3 q.Zl q.Atoms p.Steps=none∨qFor d q=false):∃ info:List Zb,Zjb d q p=some (.tup [.own 0,.own 1,Bo false],[.arr 199 2 true (([]:List Za).map Za.c),.arr 209 4 true (info.map Zb.c)]):=by
 have hp:=Zp7 q p hq
 cases e:Z3 q.Zl q.Atoms p.Steps with
 | none =>
  rw [e] at hp;refine ⟨[],Zw2 _ _ _ _ ⟨[],false,hp,?_⟩⟩
  rw [if_neg (by decide)]
 | some info =>
  rw [e] at hp;have h2:qFor d q=false:=h.resolve_left (by rw [e];simp);refine ⟨info,Zw2 _ _ _ _ ⟨_,_,hp,?_⟩⟩;rw [if_pos rfl];refine ⟨_,Zxe d hd q hq,?_⟩;rw [h2,if_neg (by decide)]
def ansR (rows:List (List Int)):List (List Int):=cptR (srtR rows)
abbrev AscR (l:List (List Int)):Prop:=l.Pairwise fun a b=>cmpR a b<0
theorem Z9e:∀ {a b:List (List Int)},AscR a→AscR b→(∀ x,x∈a↔x∈b)→a=b
 | [],[],_,_,_=>rfl
 | [],y::b,_,_,h=>by have:=(h y).2 (by simp);cases this
 | x::a,[],_,_,h=>by have:=(h x).1 (by simp);cases this
 | x::a,y::b,ha,hb,h=>by
  have ha':=List.pairwise_cons.1 ha;have hb':=List.pairwise_cons.1 hb;have e:x=y:=by
   have h1:=(h x).1 (by simp);have h2:=(h y).2 (by simp);rcases List.mem_cons.1 h1 with e | e
   ·exact e
   ·rcases List.mem_cons.1 h2 with e2 | e2
    ·exact e2.symm
    ·have h3:=hb'.1 x e;have h4:=ha'.1 y e2;have:=Zca x y;omega
  subst e;rw [Z9e ha'.2 hb'.2 fun z=>?_];constructor
  ·intro hz;have:=(h z).1 (by simp [hz]);rcases List.mem_cons.1 this with e | e
   ·subst e;have:=ha'.1 _ hz;rw [Zxr] at this;omega
   ·exact e
  ·intro hz;have:=(h z).2 (by simp [hz]);rcases List.mem_cons.1 this with e | e
   ·subst e;have:=hb'.1 _ hz;rw [Zxr] at this;omega
   ·exact e
theorem Z9f:∀ {l:List (List Int)},(l.Pairwise fun a b=>leR a b=true)→AscR (cptR l)
 | [],_=>by simp [cptR]
 | [a],_=>by simp [cptR]
 | a::b::l,h=>by
  have h1:=List.pairwise_cons.1 h;have ih:=Z9f h1.2;unfold cptR;split
  ·exact ih
  ·rename_i e;refine List.pairwise_cons.2 ⟨fun x hx=>?_,ih⟩;rw [Zxs] at hx;have hab:cmpR a b<0:=by
    have h3:=h1.1 b (by simp);unfold leR at h3;simp only [decide_eq_true_eq] at h3;rcases Int.lt_or_eq_of_le h3 with h4 | h4
    ·exact h4
    ·exact absurd (Zhg _ _ h4) e
   rcases List.mem_cons.1 hx with rfl | hx
   ·exact hab
   ·have h2:=(List.pairwise_cons.1 h1.2).1 x hx;unfold leR at h2;simp only [decide_eq_true_eq] at h2;have h5:=Zj7 a b x (by omega) h2;rcases Int.lt_or_eq_of_le h5 with h4 | h4
    ·exact h4
    ·have:=Zhg _ _ h4;subst this;have:=Zca a b;omega
theorem ansR_asc (rows:List (List Int)):AscR (ansR rows):=Z9f (Z77 rows)
theorem Z9g (rows:List (List Int)) (x:List Int):x∈ansR rows↔x∈rows:=by unfold ansR;rw [Zxs,(Znc rows).mem_iff]
theorem Z9h (rows:List (List Int)):(ansR rows).length≤rows.length:=by unfold ansR;rw [← (Znc rows).length_eq];exact Z78 _
theorem Zboa {rows:List (List Int)} (h1:rows.length≤4096) (h2:∀ r∈rows,r.length≤4):Zo4 rows=some (.own 0,[.arr 30 1 true ((ansR rows).map isc)]):=by
 have hl:=(Znc rows).length_eq;refine Zbjn _ _ ⟨_,Zxc rows h2 (by omega),srtR rows,?_,ansR rows,?_,rfl⟩
 ·unfold Zub;exact c_sort h1 h2
 ·unfold Zuc;exact c_cpt (by omega) fun r hr=>h2 r ((Znc rows).mem_iff.1 hr)
theorem Z9i {s:Za} (h:VS s):Zdh s=some (.tup [.agg [.own 0,.own 1],Bo true],[.arr 3 1 true (s.Vars.map ic),.arr 30 1 true ((ansR s.Rows).map isc)]):=by
 refine Zbjo _ _ ⟨_,Zhh h,?_⟩;rw [if_pos rfl];exact ⟨_,Zj1 _ (by have:=h.four;omega),_,Zboa h.len fun r hr=>(h.row4 hr).2,rfl⟩
def putR:List (List Int)→List Int→Bool→List (List Int)
 | [],row,put=>if put=true then [] else [row]
 | e::es,row,put=>if cmpR e row=0 then e::putR es row true else if 0<cmpR e row then (if put=true then e::putR es row true else row::e::putR es row true) else e::putR es row put
theorem Zqv:∀ (es:List (List Int)) (row:List Int),putR es row true=es
 | [],_=>rfl
 | e::es,row=>by
  unfold putR;rw [Zqv es row];simp
theorem Zqw:∀ (es:List (List Int)) (row x:List Int),x∈putR es row false↔x∈es∨x=row
 | [],row,x=>by simp [putR]
 | e::es,row,x=>by
  have ih:=Zqw es row x;unfold putR;rw [Zqv];by_cases h1:cmpR e row=0
  ·rw [if_pos h1];have:=Zhg _ _ h1;subst this;simp;exact fun h=>.inl h
  ·rw [if_neg h1];by_cases h2:0<cmpR e row
   ·rw [if_pos h2,if_neg (by decide)];simp only [List.mem_cons];constructor
    ·rintro (h | h | h)
     ·exact .inr h
     ·exact .inl (.inl h)
     ·exact .inl (.inr h)
    ·rintro ((h | h) | h)
     ·exact .inr (.inl h)
     ·exact .inr (.inr h)
     ·exact .inl h
   ·rw [if_neg h2,List.mem_cons,ih,List.mem_cons,or_assoc]
theorem Z9j:∀ {es:List (List Int)} (row:List Int),AscR es→AscR (putR es row false)
 | [],row,_=>by simp [putR]
 | e::es,row,h=>by
  have h':=List.pairwise_cons.1 h;unfold putR;rw [Zqv];by_cases h1:cmpR e row=0
  ·rw [if_pos h1];exact h
  ·rw [if_neg h1];by_cases h2:0<cmpR e row
   ·rw [if_pos h2,if_neg (by decide)];have h3:cmpR row e<0:=by have:=Zca e row;omega
    refine List.pairwise_cons.2 ⟨fun x hx=>?_,h⟩;rcases List.mem_cons.1 hx with rfl | hx
    ·exact h3
    ·have h4:=h'.1 x hx;have h5:=Zj7 row e x (by omega) (by omega);rcases Int.lt_or_eq_of_le h5 with h6 | h6
     ·exact h6
     ·have:=Zhg _ _ h6;subst this;have:=Zca e row;omega
   ·rw [if_neg h2];refine List.pairwise_cons.2 ⟨fun x hx=>?_,Z9j row h'.2⟩;rw [Zqw] at hx;rcases hx with hx | rfl
    ·exact h'.1 x hx
    ·omega
theorem Z9k:∀ (es:List (List Int)) (row:List Int) (put:Bool),(putR es row put).length≤es.length+1
 | [],row,put=>by unfold putR;split <;> simp
 | e::es,row,put=>by
  unfold putR;rw [Zqv];have:=Z9k es row put;split
  ·simp
  ·split
   ·split <;> simp
   ·simp only [List.length_cons];omega
theorem l_put {rows:List (List Int)} {row:List Int} (hl:rows.length≤5000) (h4:∀ r∈rows,r.length≤4) (hr:row.length≤4):∀ i,i≤rows.length→∀ (out:List (List Int)) (put:Bool),out.length+2*(rows.length - i)≤20000→Zem out rows row put i=some (.own 0,[.arr 30 1 true ((out++putR (rows.drop i) row put).map isc)]):=by
 refine down _ ?_ ?_
 ·intro out put ho;refine Z6u _ _ _ _ _ _ ?_;rw [if_neg (by omega),List.drop_length];rcases tf put with e | e
  ·subst e;rw [if_neg (by decide)];exact ⟨by omega,by omega,rfl⟩
  ·subst e;rw [if_pos rfl];simp [putR]
 ·intro i hi ih out put ho;have he:=h4 _ (List.getElem_mem hi);refine Z6u _ _ _ _ _ _ ?_;rw [if_pos (by omega),wS hi (by omega),List.drop_eq_getElem_cons hi];refine ⟨by omega,_,gE hi,_,Z7c _ _ (by omega) (by omega),?_⟩;unfold putR;by_cases h1:cmpR rows[i] row=0
  ·rw [if_pos h1,if_pos h1,if_neg (by omega)];refine ⟨by omega,by omega,?_⟩;rw [ih _ _ (by simp;omega)];simp
  ·rw [if_neg h1,if_neg h1];by_cases h2:0<cmpR rows[i] row
   ·rw [if_pos h2,if_pos h2];rcases tf put with e | e
    ·subst e;rw [if_neg (by decide),if_neg (by decide)];refine ⟨by omega,by omega,by omega,by omega,?_⟩;rw [ih _ _ (by simp;omega)];simp
    ·subst e;rw [if_pos rfl,if_pos rfl];refine ⟨by omega,by omega,?_⟩;rw [ih _ _ (by simp;omega)];simp
   ·rw [if_neg h2,if_neg h2];refine ⟨by omega,by omega,?_⟩;rw [ih _ _ (by simp;omega)];simp
theorem x_put1 {rows:List (List Int)} {row:List Int} (hl:rows.length≤5000) (h4:∀ r∈rows,r.length≤4) (hr:row.length≤4):Zmq rows row=some (.own 0,[.arr 30 1 true ((putR rows row false).map isc)]) :=
 Zblb _ _ _ (by simpa using l_put hl h4 hr 0 (Nat.zero_le _) [] false (by simp;omega))
theorem x_put0 {row:List Int} (hr:row.length≤4):Zmp row=some (.own 0,[.arr 30 1 true (([row]).map isc)]):=by
 refine Zbla _ _ (Zbk9 _ _ _ _ _ ?_);rw [if_neg (by decide),if_neg (by decide)];exact ⟨by omega,by simp,rfl⟩
def Zhj (acc rows:List (List Int)):List (List Int):=rows.foldl (fun l r=>putR l r false) acc
theorem Z9l:∀ (rows acc:List (List Int)) (x:List Int),x∈Zhj acc rows↔x∈acc∨x∈rows
 | [],acc,x=>by simp [Zhj]
 | r::rows,acc,x=>by
  show x∈Zhj (putR acc r false) rows↔_;rw [Z9l rows,Zqw,List.mem_cons,or_assoc]
theorem Z9m:∀ {rows acc:List (List Int)},AscR acc→AscR (Zhj acc rows)
 | [],acc,h=>h
 | r::rows,acc,h=>Z9m (rows:=rows) (Z9j r h)
theorem Zbob (rows:List (List Int)):Zhj [] rows=ansR rows :=
 Z9e (Z9m .nil) (ansR_asc rows) fun x=>by rw [Z9l,Z9g];simp
theorem Zboc {s:Za} (h:VS s):∀ i,i≤s.Rows.length→∀ acc:List (List Int),acc.length≤i→(∀ r∈acc,r.length≤4)→Zmr s s.Vars acc i=some (.tup [.agg [.own 0,.own 1],Bo true],[.arr 3 1 true (s.Vars.map ic),.arr 30 1 true ((Zhj acc (s.Rows.drop i)).map isc)]):=by
 have hl:=h.len;refine down _ ?_ ?_
 ·intro acc ha h4;refine Z6v _ _ _ _ _ ?_;rw [if_neg (by omega),List.drop_length];rfl
 ·intro i hi ih acc ha h4;have hr:=h.row4 (List.getElem_mem hi);refine Z6v _ _ _ _ _ ?_;rw [if_pos (by omega),wS hi (by omega),List.drop_eq_getElem_cons hi];have hp:=Z9k acc s.Rows[i] false
  exact ⟨by omega,_,gE hi,_,x_put1 (by omega) h4 hr.2,ih _ (by omega) (fun r hm=>by
   rcases (Zqw _ _ _).1 hm with hm | rfl
   ·exact h4 r hm
   ·exact hr.2)⟩
def ansF (s:Za):AV×List Blk:=if s.Rows=[] then (.tup [.agg [.own 0,.t .nil],Bo true],[.arr 3 1 true (s.Vars.map ic)]) else (.tup [.agg [.own 0,.own 1],Bo true],[.arr 3 1 true (s.Vars.map ic),.arr 30 1 true ((ansR s.Rows).map isc)])
theorem Z9n {s:Za} (h:VS s):Zen s=some (ansF s):=by
 have h4:=h.four;refine Zbld _ _ ⟨_,Zhi h,?_⟩;rw [if_pos rfl];refine ⟨by omega,Zblc _ _ _ _ ?_⟩;unfold ansF;by_cases e:s.Rows=[]
 ·rw [if_neg (by rw [e];simp),if_pos e]
 ·have h0:0<s.Rows.length:=List.length_pos_iff.2 e;have hr:=h.row4 (List.getElem_mem h0);rw [if_pos (by omega),if_neg e];refine ⟨by omega,_,gE h0,_,x_put0 hr.2,?_⟩;have:=Zboc h 1 (by omega) [s.Rows[0]] (by simp) (by simp [hr.2]);have e2:Zhj [s.Rows[0]] (s.Rows.drop 1)=ansR s.Rows:=by
   rw [← Zbob]
   conv=>rhs;rw [← List.drop_zero (l:=s.Rows),List.drop_eq_getElem_cons h0]
   rfl
  rw [e2] at this;rw [show w (0+1)=((1:Nat):Int) by decide];exact this
theorem Zbod (n:Int) (h0:0≤n) (h1:n≤4096):Zlp n 0=some (I (Zck n),[]):=by
 unfold Zck;rw [if_neg (by omega:¬ n<0)];refine Zff _ _ _ ⟨_,Zd2 0,?_⟩;rw [show Zz 0=0 from by decide];by_cases c0:n≤0
 ·rw [if_pos c0,if_pos c0]
 rw [if_neg c0,if_neg c0,show w (0+1)=1 from by decide];refine Zff _ _ _ ⟨_,Zd2 1,?_⟩;rw [show Zz 1=1 from by decide];by_cases c1:n≤1
 ·rw [if_pos c1,if_pos c1]
 rw [if_neg c1,if_neg c1,show w (1+1)=2 from by decide];refine Zff _ _ _ ⟨_,Zd2 2,?_⟩;rw [show Zz 2=4 from by decide];by_cases c2:n≤4
 ·rw [if_pos c2,if_pos c2]
 rw [if_neg c2,if_neg c2,show w (2+1)=3 from by decide];refine Zff _ _ _ ⟨_,Zd2 3,?_⟩;rw [show Zz 3=16 from by decide];by_cases c3:n≤16
 ·rw [if_pos c3,if_pos c3]
 rw [if_neg c3,if_neg c3,show w (3+1)=4 from by decide];refine Zff _ _ _ ⟨_,Zd2 4,?_⟩;rw [show Zz 4=64 from by decide];by_cases c4:n≤64
 ·rw [if_pos c4,if_pos c4]
 rw [if_neg c4,if_neg c4,show w (4+1)=5 from by decide];refine Zff _ _ _ ⟨_,Zd2 5,?_⟩;rw [show Zz 5=256 from by decide];by_cases c5:n≤256
 ·rw [if_pos c5,if_pos c5]
 rw [if_neg c5,if_neg c5,show w (5+1)=6 from by decide];refine Zff _ _ _ ⟨_,Zd2 6,?_⟩;rw [show Zz 6=1024 from by decide];by_cases c6:n≤1024
 ·rw [if_pos c6,if_pos c6]
 rw [if_neg c6,if_neg c6,show w (6+1)=7 from by decide];refine Zff _ _ _ ⟨_,Zd2 7,?_⟩;rw [show Zz 7=4096 from by decide];rw [if_pos h1,if_pos h1]
theorem Zfm {c a b:Prop} [Decidable c] (h:c) (ha:a):if c then a else b:=by rw [if_pos h];exact ha
theorem Zboe (n:Int) (h0:0≤n) (h1:n≤4096):Zmo n 0=some (I (Zck n),[]):=by
 unfold Zck;rw [if_neg (by omega:¬ n<0)];refine Zfg _ _ _ (Zfm (by decide) ⟨_,Zd3 0,?_⟩);rw [show Zz 0=0 from by decide];by_cases c0:n≤0
 ·rw [if_pos c0,if_pos c0]
 rw [if_neg c0,if_neg c0,show w (0+1)=1 from by decide];refine Zfg _ _ _ (Zfm (by decide) ⟨_,Zd3 1,?_⟩);rw [show Zz 1=1 from by decide];by_cases c1:n≤1
 ·rw [if_pos c1,if_pos c1]
 rw [if_neg c1,if_neg c1,show w (1+1)=2 from by decide];refine Zfg _ _ _ (Zfm (by decide) ⟨_,Zd3 2,?_⟩);rw [show Zz 2=4 from by decide];by_cases c2:n≤4
 ·rw [if_pos c2,if_pos c2]
 rw [if_neg c2,if_neg c2,show w (2+1)=3 from by decide];refine Zfg _ _ _ (Zfm (by decide) ⟨_,Zd3 3,?_⟩);rw [show Zz 3=16 from by decide];by_cases c3:n≤16
 ·rw [if_pos c3,if_pos c3]
 rw [if_neg c3,if_neg c3,show w (3+1)=4 from by decide];refine Zfg _ _ _ (Zfm (by decide) ⟨_,Zd3 4,?_⟩);rw [show Zz 4=64 from by decide];by_cases c4:n≤64
 ·rw [if_pos c4,if_pos c4]
 rw [if_neg c4,if_neg c4,show w (4+1)=5 from by decide];refine Zfg _ _ _ (Zfm (by decide) ⟨_,Zd3 5,?_⟩);rw [show Zz 5=256 from by decide];by_cases c5:n≤256
 ·rw [if_pos c5,if_pos c5]
 rw [if_neg c5,if_neg c5,show w (5+1)=6 from by decide];refine Zfg _ _ _ (Zfm (by decide) ⟨_,Zd3 6,?_⟩);rw [show Zz 6=1024 from by decide];by_cases c6:n≤1024
 ·rw [if_pos c6,if_pos c6]
 rw [if_neg c6,if_neg c6,show w (6+1)=7 from by decide];refine Zfg _ _ _ (Zfm (by decide) ⟨_,Zd3 7,?_⟩);rw [show Zz 7=4096 from by decide];rw [if_pos h1,if_pos h1]
theorem Zbof {n:Int} (h:inR n 0 4096=false):Zck n=-1:=by
 simp [inR] at h;unfold Zck
 repeat' split
 all_goals omega
theorem Zx4 (n:Int):Ze6 n=some (I (Zck n),[]):=by
 refine Zbjh _ _ ⟨_,Zby _ _ _,?_⟩;rcases tf (inR n 0 4096) with e | e
 ·rw [e,Zbof e];simp
 ·rw [if_pos e];simp [inR] at e;exact Zbod n e.1 e.2
theorem Zx5 (n:Int):Zgk n=some (I (Zkj n),[]):=Zbji _ _ ⟨_,Zx4 n,_,Zd2 _,rfl⟩
theorem Zx6 (n:Int) (h1:n≤4096):Zhc n=some (I (Zck n),[]):=by
 refine Zbk5 _ _ ?_;by_cases c:n<0
 ·rw [if_pos c];unfold Zck;rw [if_pos c]
 ·rw [if_neg c];exact Zboe n (by omega) h1
theorem Zx7 (n:Int) (h1:n≤4096):Zbm n=some (I (Zkj n),[]):=Zbk6 _ _ ⟨_,Zx6 n h1,_,Zd3 _,rfl⟩
theorem Zx8 (m:Zj):Zcl m=some (.bsl 1 5,[.box (m.c.map .t),.box [.ptr 0 0,.ptr 0 6,.ptr 0 12,.ptr 0 18,.ptr 0 24]]):=Z43 _ _ rfl
theorem Zbog {qa:List Atom} {x:Ze} {info:List Zb} {st:List Int} {y:Zb} (hs:StOk info st) (h:Zbq qa x info st=some y):y.Left<info.length∧(0≤y.Right→x.Kind≤5):=by
 unfold Zbq at h;split at h
 ·split at h
  ·cases h;exact ⟨by simp;omega,fun hc=>absurd (show (0:Int)≤-1 from hc) (by decide)⟩
  ·cases h
 ·split at h
  ·cases h
  ·split at h
   ·split at h
    ·rename_i s y' ht;split at h
     ·cases h;obtain ⟨_,t2,t3,_⟩:=Zdc hs (Nat.le_refl 1) ht;exact ⟨by simp;omega,fun hc=>absurd (show (0:Int)≤-1 from hc) (by decide)⟩
     ·cases h
    ·cases h
   ·split at h
    ·rename_i s y' t z ht hu;split at h
     ·obtain ⟨_,t2,t3,_⟩:=Zdc hs (by omega:1≤2) ht;obtain ⟨o,ho,rfl⟩:=Option.map_eq_some_iff.1 h;refine ⟨by simp;omega,fun _=>?_⟩;unfold Zcd at ho;split at ho
      ·omega
      ·split at ho
       ·omega
       ·split at ho
        ·omega
        ·cases ho
     ·cases h
    ·cases h
theorem Z9o {qa:List Atom}:∀ {xs:List Ze} {i:Nat} {info:List Zb} {st:List Int} {info':List Zb} {st':List Int},Zbb qa xs i info st=some (info',st') →
  StOk info st→info.length=i→∃ tail,info'=info++tail∧tail.length=xs.length∧∀ (j:Nat) (y:Zb) (x:Ze),tail[j]?=some y→xs[j]?=some x→y.Left<(i:Int)+j∧(0≤y.Right→x.Kind≤5)
 | [],i,info,st,info',st',h,hs,hi=>by
  simp [Zbb] at h;obtain ⟨rfl,rfl⟩:=h
  exact ⟨[],by simp,rfl,by intro j y x hj;simp at hj⟩
 | x::xs,i,info,st,info',st',h,hs,hi=>by
  rw [Zbb] at h;split at h
  ·cases h
  ·rename_i y hy;have hn:=Zkn hs y (st.length - pops y);rw [hi] at hn;obtain ⟨tail,g2,g3,g4⟩:=Z9o h hn (by simp [hi]);refine ⟨y::tail,by simp [g2],by simp [g3],?_⟩;intro j y' x' hj hx
   cases j with
   | zero =>
    simp at hj hx;subst hj;subst hx;have:=Zbog hs hy
    exact ⟨by omega,this.2⟩
   | succ j =>
    have:=g4 j y' x' (by simpa using hj) (by simpa using hx);exact ⟨by omega,this.2⟩
def lw (info:List Zb):Prop:=∀ (i:Nat) (y:Zb),info[i]?=some y→y.Left<(i:Int)
theorem Z9p {n:Int} {qa:List Atom} {steps:List Ze} {info:List Zb} (h:Z3 n qa steps=some info) :
  lw info∧∀ (j:Nat) (y:Zb) (x:Ze),info[j]?=some y→steps[j]?=some x→0≤y.Right→x.Kind≤5:=by
 have hl:=(Zfs h).2.1;unfold Z3 at h;split at h
 ·split at h
  ·rename_i info' st hg;split at h
   ·cases h;obtain ⟨tail,g2,g3,g4⟩:=Z9o hg (fun s hs=>by cases hs) rfl;simp at g2;subst g2;refine ⟨fun i y hi=>?_,fun j y x hj hx=>(g4 j y x hj hx).2⟩;have hi2:i<steps.length:=by
     have:=(List.getElem?_eq_some_iff.1 hi).1;omega
    have:=(g4 i y _ hi (List.getElem?_eq_getElem hi2)).1;omega
   ·cases h
  ·cases h
 ·cases h
def fst (info:List Zb):Nat→Int→Int
 | 0,i=>i
 | f+1,i=>match info[i.toNat]? with
  | some y=>if 0≤y.Left then fst info f y.Left else i
  | none=>i
def first (info:List Zb) (i:Int):Int:=fst info (i.toNat+1) i
theorem Z9q {info:List Zb} (h:lw info):∀ (f:Nat) (i:Int),0≤i→i.toNat<f→i.toNat<info.length→Zku info i=some (I (fst info f i),[])
 | 0,_,_,h1,_=>absurd h1 (Nat.not_lt_zero _)
 | f+1,i,h0,h1,h2=>by
  have e:=List.getElem?_eq_getElem h2;have hl:=h _ _ e;refine Zbh2 _ _ _ ⟨h0,_,e,?_⟩;unfold fst;rw [e];by_cases c:0≤info[i.toNat].Left
  ·simp only [if_pos c];exact Z9q h f _ c (by omega) (by omega)
  ·simp only [if_neg c]
theorem Z9r {info:List Zb} (h:lw info):∀ (f:Nat) (i:Int),0≤i→i.toNat<f→i.toNat<info.length→Zly info i=some (I (fst info f i),[])
 | 0,_,_,h1,_=>absurd h1 (Nat.not_lt_zero _)
 | f+1,i,h0,h1,h2=>by
  have e:=List.getElem?_eq_getElem h2;have hl:=h _ _ e;refine Zbjy _ _ _ ⟨h0,_,e,?_⟩;unfold fst;rw [e];by_cases c:0≤info[i.toNat].Left
  ·simp only [if_pos c];exact Z9r h f _ c (by omega) (by omega)
  ·simp only [if_neg c]
theorem x_begins {info:List Zb} (h:lw info) {i:Int} (h0:0≤i) (h2:i.toNat<info.length):Zob info i=some (I (first info i),[]):=Zbh3 _ _ _ (Z9q h _ i h0 (by omega) h2)
theorem Zboh {info:List Zb} (h:lw info) {i:Int} (h0:0≤i) (h2:i.toNat<info.length):Zlx info i=some (I (first info i),[]):=Zbjz _ _ _ (Z9r h _ i h0 (by omega) h2)
theorem Zboi (steps:List Ze) (hl:steps.length≤100):∀ i,i≤steps.length→∀ out,out.length≤i→Zhx out steps steps.length i=some (.own 0,[.arr Zbg 1 true ((out++jst (steps.drop i) i).map ic)]):=by
 refine down _ ?_ ?_
 ·intro out ho;refine Z33 _ _ _ _ _ ?_;rw [if_neg (by omega),List.drop_length];simp [jst]
 ·intro i hi ih out ho;have h5:=inc64 (i:=i) (by omega);refine Z33 _ _ _ _ _ ?_;rw [if_pos (by omega),Zza hi];refine ⟨by omega,_,List.getElem?_eq_getElem hi,?_⟩;rw [show w ((i:Int)+1)=((i+1:Nat):Int) from h5];by_cases c:3≤(steps[i]).Kind
  ·rw [if_pos (by simpa using c),if_pos c];refine ⟨by omega,?_⟩;rw [ih _ (by simp;omega)];simp
  ·rw [if_neg (by simpa using c),if_neg c];exact ih _ (by omega)
theorem Zboj (p:Plan) (hl:p.Steps.length≤100):Zkt p=some (.own 0,[.arr Zbg 1 true ((jst p.Steps 0).map ic)]):=by
 have:=Zboi p.Steps hl 0 (Nat.zero_le _) [] (Nat.zero_le _);exact Zbh1 _ _ (by simpa using this)
theorem fst_in {info:List Zb} (h:lw info):∀ (f:Nat) (i:Int),0≤i→0≤fst info f i∧fst info f i≤i
 | 0,i,h0=>⟨h0,Int.le_refl _⟩
 | f+1,i,h0=>by
  unfold fst;split
  ·rename_i y hy;split
   ·rename_i c;have:=h _ _ hy;have:=fst_in h f y.Left c;omega
   ·exact ⟨h0,Int.le_refl _⟩
  ·exact ⟨h0,Int.le_refl _⟩
theorem Z9s {info:List Zb} (h:lw info) {i:Int} (h0:0≤i):0≤first info i∧first info i≤i:=fst_in h _ i h0
def subp (info:List Zb) (steps:List Ze) (i:Int):List Ze:=(steps.take (i+1).toNat).drop (first info i).toNat
def noP:AV×List Blk:=(.tup [.agg [.t .nil],Bo false],[])
def yesP (l:List Ze):AV×List Blk:=(.tup [.agg [.own 0],Bo true],[.arr 194 3 true (l.map Ze.c)])
theorem Zbok (q:Zd) (hq:LeQ q) (p:Plan) {info:List Zb} (he:Z3 q.Zl q.Atoms p.Steps=some info) {i:Int} (h0:0≤i) (h1:i.toNat<info.length):Zhy q p i=some (yesP (subp info p.Steps i)):=by
 have q1:=Zp8 q p hq;rw [he] at q1;obtain ⟨l1,l2,l3,l4⟩:=Zfs he;obtain ⟨lf,l5⟩:=Z9p he;obtain ⟨b0,b1⟩:=Z9s lf h0;have w1:w ((info.length:Int) - 1)=(info.length:Int) - 1:=wrap64 (by omega) (by omega);have w2:w (i+1)=i+1:=wrap64 (by omega) (by omega);refine Zbh5 _ _ _ _ (.inr ⟨info,q1,_,Zby _ _ _,?_⟩);rw [if_pos (by rw [w1];simp [inR];omega)];refine ⟨_,x_begins lf h0 h1,b0,?_⟩;rw [w2];refine ⟨by omega,by omega,by omega,_,Zbh4 _ _ ⟨?_,rfl⟩,rfl⟩;show (List.drop _ (List.take _ _)).length≤_;rw [List.length_drop,List.length_take];omega
theorem Zbol (q:Zd) (hq:LeQ q) (p:Plan) {info:List Zb} (he:Z3 q.Zl q.Atoms p.Steps=some info) {i:Int} (h0:0≤i) (h1:i.toNat<info.length):Zin q p i=some (yesP (subp info p.Steps i)):=by
 have q1:=Zp7 q p hq;rw [he] at q1;obtain ⟨l1,l2,l3,l4⟩:=Zfs he;obtain ⟨lf,l5⟩:=Z9p he;obtain ⟨b0,b1⟩:=Z9s lf h0;have w1:w ((info.length:Int) - 1)=(info.length:Int) - 1:=wrap64 (by omega) (by omega);have w2:w (i+1)=i+1:=wrap64 (by omega) (by omega);refine Zbj0 _ _ _ _ ⟨info,true,q1,?_⟩;rw [if_pos rfl];refine ⟨_,Zb7 _ _ _,?_⟩;rw [if_pos (by rw [w1];simp [inR];omega)];refine ⟨_,Zboh lf h0 h1,b0,?_⟩;rw [w2];refine ⟨by omega,by omega,by omega,?_,rfl⟩;rw [List.length_drop,List.length_take];omega
def spl (info:List Zb) (mask:Int):List Int→Option Int
 | []=>none
 | j::js=>match info[j.toNat]? with
  | some y=>if y.Mask=mask then some j else spl info mask js
  | none=>none
def spillR (info:List Zb) (steps:List Ze):Option Int→AV×List Blk
 | some j=>yesP (subp info steps j)
 | none=>noP
theorem Zbom (q:Zd) (hq:LeQ q) (p:Plan) {info:List Zb} (he:Z3 q.Zl q.Atoms p.Steps=some info) (mask:Int) (js:List Int) (hj:∀ j∈js,0≤j∧j.toNat<info.length) (hl:js.length≤1000):∀ i,i≤js.length →
  Zkv q p info js mask js.length i=some (spillR info p.Steps (spl info mask (js.drop i))):=by
 refine down _ ?_ ?_
 ·refine Z34 _ _ _ _ _ _ _ _ ?_;rw [if_neg (by omega),List.drop_length];rfl
 ·intro i hi ih;have h5:=inc64 (i:=i) (by omega);obtain ⟨j0,j1⟩:=hj _ (List.getElem_mem hi);refine Z34 _ _ _ _ _ _ _ _ ?_;rw [if_pos (by omega)];refine ⟨by omega,_,List.getElem?_eq_getElem hi,j0,_,List.getElem?_eq_getElem j1,?_⟩;rw [List.drop_eq_getElem_cons hi,spl,List.getElem?_eq_getElem j1];simp only;by_cases c:info[js[i].toNat].Mask=mask
  ·rw [if_pos (by simpa using c),if_pos (by simpa using c)];exact .inr ⟨_,Zbok q hq p he j0 j1,rfl⟩
  ·rw [if_neg (by simpa using c),if_neg (by simpa using c),show w ((i:Int)+1)=((i+1:Nat):Int) from h5];exact ih
def Zj8 (q:Zd) (p:Plan) (mask:Int):AV×List Blk:=match Z3 q.Zl q.Atoms p.Steps with
 | some info=>spillR info p.Steps (spl info mask (jst p.Steps 0))
 | none=>noP
theorem Zbon (q:Zd) (hq:LeQ q) (p:Plan) (mask:Int):Zhz q p mask=some (Zj8 q p mask):=by
 have q1:=Zp8 q p hq;refine Zbh7 _ _ _ _ ?_;unfold Zj8
 cases he:Z3 q.Zl q.Atoms p.Steps with
 | none=>rw [he] at q1;exact .inl ⟨q1,rfl⟩
 | some info =>
  rw [he] at q1;obtain ⟨l1,l2,l3,l4⟩:=Zfs he;have hjl:=Zzb p.Steps 0;refine .inr ⟨info,q1,_,Zboj p (by omega),?_⟩;have:=Zbom q hq p he mask (jst p.Steps 0) (fun j hj=>by have:=Zrs hj;omega) (by omega) 0 (Nat.zero_le _);rw [List.drop_zero] at this;exact this
theorem Zboo (q:Zd) (hq:LeQ q) (p:Plan) {info:List Zb} (he:Z3 q.Zl q.Atoms p.Steps=some info) (mask:Int):∀ i,i≤p.Steps.length →
  Zip q p info mask true i=some (spillR info p.Steps (spl info mask (jst (p.Steps.drop i) i))):=by
 obtain ⟨l1,l2,l3,l4⟩:=Zfs he;have l6:=(Zy9 he).2;refine down _ ?_ ?_
 ·refine Zwy _ _ _ _ _ _ _ ?_;rw [if_neg (by omega),List.drop_length];rfl
 ·intro i hi ih;have h5:=inc64 (i:=i) (by omega);have hi':i<info.length:=by omega
  have hk:=l6 _ _ _ (List.getElem?_eq_getElem hi') (List.getElem?_eq_getElem hi);refine Zwy _ _ _ _ _ _ _ ?_;rw [if_pos (by omega),if_pos rfl];refine ⟨by omega,_,List.getElem?_eq_getElem hi',?_⟩;rw [Zza hi,show w ((i:Int)+1)=((i+1:Nat):Int) from h5];by_cases c:3≤p.Steps[i].Kind
  ·rw [if_pos (by simpa using hk.2 c),if_pos c,spl];simp only [Int.toNat_natCast,List.getElem?_eq_getElem hi'];by_cases c2:info[i].Mask=mask
   ·rw [if_pos c2,if_pos c2];exact .inl ⟨_,Zbol q hq p he (by omega) (by omega),rfl⟩
   ·rw [if_neg c2,if_neg c2];exact ih
  ·rw [if_neg (fun hc=>c (hk.1 (by simpa using hc))),if_neg c];exact ih
theorem Zbop (q:Zd) (hq:LeQ q) (p:Plan) (mask:Int):Zio q p mask=some (Zj8 q p mask):=by
 have q1:=Zp7 q p hq;refine Zbj1 _ _ _ _ ?_;unfold Zj8
 cases he:Z3 q.Zl q.Atoms p.Steps with
 | none =>
  rw [he] at q1;refine ⟨[],false,q1,Zwy _ _ _ _ _ _ _ ?_⟩
  simp;rfl
 | some info =>
  rw [he] at q1;refine ⟨info,true,q1,?_⟩;have:=Zboo q hq p he mask 0 (Nat.zero_le _);rw [List.drop_zero] at this;exact this
def ruS (l:List Za) (i:Int):Int:=Zkj ((l.getD i.toNat ⟨[],[]⟩).Rows.length:Int)
def lfC (l:List Za) (y:Zb) (i:Nat):Int:=if 0≤y.Left then ruS l y.Left else ruS l i
def rtC (l:List Za) (y:Zb):Int:=if 0≤y.Right then ruS l y.Right else 0
def stC (m:Zj) (l:List Za) (x:Ze) (y:Zb) (i:Nat):Int:=Zci (mOp m x.Kind) (lfC l y i) (rtC l y) (ruS l i)
def alwF (o:Zi) (l r b:Int) (k:Nat):Int:=match (List.range' k (8 - k)).find? (fun j:Nat=>decide (b<Zci o l r (Zz j))) with
 | some j=>(j:Int)
 | none=>8
def obs1 (m:Zj) (l:List Za) (x:Ze) (y:Zb) (b:Int):Zf:=⟨y.Mask,alwF (mOp m x.Kind) (ruS l y.Left) (ruS l y.Right) b 0,false⟩
def obs2 (l:List Za) (y:Zb) (i:Nat):Zf:=⟨y.Mask,Zck ((l.getD i ⟨[],[]⟩).Rows.length:Int),true⟩
def runF (m:Zj) (l:List Za) (bud:Int):List Ze→List Zb→Nat→Int→Int→List Zf→Bool×Int×Int×List Zf
 | x::xs,y::ys,i,c,st,seen =>
  if w (bud - c)<stC m l x y i then (false,bud,st,if 3≤x.Kind then seen++[obs1 m l x y (w (bud - c))] else seen)
  else runF m l bud xs ys (i+1) (w (c+stC m l x y i)) (w (st+1)) (if 3≤x.Kind then seen++[obs2 l y i] else seen)
 | _,_,_,c,st,seen=>(true,c,st,seen)
def runR (nl:Bool) (s:Za):Bool×Int×Int×List Zf→AV×List Blk
 | (false,c,st,seen)=>if seen=[] then (.tup [.agg [Bo false,I c,I st,.t .nil,.t .nil,.t .nil],Bo true],[]) else (.tup [.agg [Bo false,I c,I st,.own 0,.t .nil,.t .nil],Bo true],[.arr 211 3 true (seen.map Zf.c)])
 | (true,c,st,seen)=>if nl=true∧s.Rows=[] then
   (if seen=[] then (.tup [.agg [Bo true,I c,I st,.t .nil,.own 0,.t .nil],Bo true],[.arr 3 1 true (s.Vars.map ic)]) else (.tup [.agg [Bo true,I c,I st,.own 0,.own 1,.t .nil],Bo true],[.arr 211 3 true (seen.map Zf.c),.arr 3 1 true (s.Vars.map ic)]))
  else (if seen=[] then (.tup [.agg [Bo true,I c,I st,.t .nil,.own 0,.own 1],Bo true],[.arr 3 1 true (s.Vars.map ic),.arr 30 1 true ((ansR s.Rows).map isc)]) else (.tup [.agg [Bo true,I c,I st,.own 0,.own 1,.own 2],Bo true],[.arr 211 3 true (seen.map Zf.c),.arr 3 1 true (s.Vars.map ic),.arr 30 1 true ((ansR s.Rows).map isc)]))
theorem Zj9 {m:Zj} (hm:LeM m) (k:Int):Le (mOp m k).Steps:=by
 obtain ⟨h1,h2,h3,h4,h5⟩:=hm;unfold mOp;split
 ·exact h1
 ·split
  ·exact h2
  ·split
   ·exact h3
   ·split
    ·exact h4
    ·exact h5
theorem adm_op {m:Zj} (h:Zc7 m) (k:Int):Z5 (mOp m k)=true:=by
 obtain ⟨h1,h2,h3,h4,h5⟩:=h;unfold mOp;split
 ·exact h1.1
 ·split
  ·exact h2.1
  ·split
   ·exact h3.1
   ·split
    ·exact h4.1
    ·exact h5.1
theorem ru_in {n:Nat} (h:n≤4096):inR (Zkj (n:Int)) 0 4096=true:=by
 unfold Zkj Zck;rw [if_neg (by omega)]
 repeat' split
 all_goals first | decide | omega
theorem cls_in {k:Nat} (h:k≤7):inR (Zz (k:Int)) 0 4096=true:=by
 have:∀ k:Fin 8,inR (Zz (k.1:Int)) 0 4096=true:=by decide
 exact this ⟨k,by omega⟩
theorem opc_eq {o:Zi} (h:Z5 o=true) {l r n:Int} (hl:inR l 0 4096=true) (hr:inR r 0 4096=true) (hn:inR n 0 4096=true):Zjw o l r n=Zci o l r n:=by
 unfold Zci;rw [if_pos (by rw [h,hl,hr,hn];rfl)]
theorem Z9t {o:Zi} {l r b:Int} {k:Nat} (h:k<8):alwF o l r b k=if b<Zci o l r (Zz k) then (k:Int) else alwF o l r b (k+1):=by
 unfold alwF;rw [show 8 - k=(8 - (k+1))+1 by omega,List.range'_succ,List.find?_cons];by_cases e:b<Zci o l r (Zz k)
 ·rw [if_pos e];simp [e]
 ·rw [if_neg e];simp [e]
theorem Zboq {o:Zi} (hs:Le o.Steps) (hv:Z5 o=true) {l r b:Int} (hl:inR l 0 4096=true) (hr:inR r 0 4096=true):∀ k:Nat,k≤8→Zlq o l r b k=some (I (alwF o l r b k),[]):=by
 refine down 8 ?_ ?_
 ·refine Z5g _ _ _ _ _ _ ?_;rw [if_neg (by decide)];rfl
 ·intro k hk ih;refine Z5g _ _ _ _ _ _ ?_;rw [if_pos (by omega),wS hk (by omega),Z9t hk];refine ⟨_,Zd2 _,_,Zbl9 o hs _ _ _,?_⟩;rw [opc_eq hv hl hr (cls_in (by omega))];by_cases e:b<Zci o l r (Zz k)
  ·rw [if_neg (by omega),if_pos e]
  ·rw [if_pos (by omega),if_neg e];exact ih
theorem Z9u {o:Zi} (hs:Le o.Steps) (hv:Z5 o=true) {l r b:Int} (hl:inR l 0 4096=true) (hr:inR r 0 4096=true):Z9 o l r b=some (I (alwF o l r b 0),[]) :=
 Zbjl _ _ _ _ _ (Zboq hs hv hl hr 0 (by omega))
theorem Zbor {m:Zj} (hm:LeM m) (kd:Int) {l r b:Int}:∀ k:Nat,k≤8→Zjn m kd l r b k=some (I (alwF (mOp m kd) l r b k),[]):=by
 refine down 8 ?_ ?_
 ·refine Z6t _ _ _ _ _ _ _ ?_;rw [if_neg (by decide)];rfl
 ·intro k hk ih;refine Z6t _ _ _ _ _ _ _ ?_;rw [if_pos (by omega),wS hk (by omega),Z9t hk];refine ⟨_,Zxb m kd,_,Zd3 _,_,Zp9 _ (Zj9 hm kd) _ _ _,?_⟩;by_cases e:b<Zci (mOp m kd) l r (Zz k)
  ·rw [if_neg (by omega),if_pos e]
  ·rw [if_pos (by omega),if_neg e];exact ih
theorem Z9v {m:Zj} (hm:LeM m) (ha:Zc7 m) {kd:Int} (hk:inR kd 1 5=true) {l r b:Int} (hl:inR l 0 4096=true) (hr:inR r 0 4096=true):Zjm m kd l r b=some (I (alwF (mOp m kd) l r b 0),[]):=by
 refine Zbk8 _ _ _ _ _ _ ⟨_,Z68 m hm,?_⟩;rw [if_pos (by simpa using ha)];refine ⟨_,Zb7 _ _ _,?_⟩;rw [hk,if_pos rfl];refine ⟨_,Zb7 _ _ _,?_⟩;rw [hl,if_pos rfl];refine ⟨_,Zb7 _ _ _,?_⟩;rw [hr,if_pos rfl];exact Zbor hm kd 0 (by omega)
structure RunI (q:Zd) (p:Plan) (info:List Zb) (l:List Za):Prop where
 P:PI q p info
 G:GSs q info l
 len:l.length=p.Steps.length
section
variable {q:Zd} {p:Plan} {info:List Zb} {l:List Za} (R:RunI q p info l)
include R
theorem RunI.n4096 (i:Int):(l.getD i.toNat ⟨[],[]⟩).Rows.length≤4096:=by
 by_cases h:i.toNat<l.length
 ·obtain ⟨y,_,g⟩:=R.G _ _ (Zd6 h);have:=g.len;have:=Zqg y.Mask;omega
 ·rw [List.getD_eq_getElem?_getD,List.getElem?_eq_none (by omega)];simp
theorem RunI.ru (i:Int):inR (ruS l i) 0 4096=true:=ru_in (R.n4096 i)
theorem RunI.at_ {i:Nat} (hi:i<p.Steps.length):∃ x y,p.Steps[i]?=some x∧info[i]?=some y∧p.Steps[i]=x∧(1≤x.Kind∧x.Kind≤5)∧(0≤y.Right↔3≤x.Kind)∧(0≤y.Right→0≤y.Left)∧(0≤y.Left→y.Left.toNat<i)∧(0≤y.Right→y.Right.toNat<i):=by
 have hl:=R.P.val.2.1;have hx:p.Steps[i]?=some p.Steps[i]:=List.getElem?_eq_getElem hi;have hy:info[i]?=some info[i]:=List.getElem?_eq_getElem (by omega);have F:=Zqi R.P.eq i _ _ hy hx;refine ⟨_,_,hx,hy,rfl,?_⟩;generalize p.Steps[i]=x at *
 generalize info[i]=y at *
 have hlt:∀ {s:Int} {u:Zb},(info.take i)[s.toNat]?=some u→s.toNat<i:=by
  intro s u h;rw [List.getElem?_take] at h;split at h
  ·assumption
  ·cases h
 by_cases k1:x.Kind=1
 ·obtain ⟨-,rfl⟩:=F.scan k1;refine ⟨by omega,?_,?_,?_,?_⟩ <;> simp <;> omega
 ·by_cases k2:x.Kind=2
  ·obtain ⟨s,u,f1,f2,-,rfl⟩:=F.sort k2;have:=hlt f2;refine ⟨by omega,?_,?_,?_,?_⟩ <;> simp <;> omega
  ·obtain ⟨s,u,t,z,o,f1,f2,f3,f4,-,rfl,f6⟩:=F.join k1 k2;have h1:=hlt f2;have h2:=hlt f4;have k3:3≤x.Kind∧x.Kind≤5:=by rcases f6 with ⟨k,_⟩ | ⟨k,_⟩ | ⟨k,_⟩ <;> omega
   refine ⟨by omega,?_,?_,?_,?_⟩ <;> simp <;> omega
theorem RunI.lf {y:Zb} (i:Nat):inR (lfC l y i) 0 4096=true:=by unfold lfC;split <;> exact R.ru _
theorem RunI.rt {y:Zb}:inR (rtC l y) 0 4096=true:=by
 unfold rtC;split
 ·exact R.ru _
 ·decide
theorem Zx9 {i:Nat} {x:Ze} {y:Zb} (hi:i<p.Steps.length) (hy:info[i]?=some y) (hL:0≤y.Left→y.Left.toNat<i) (hR:0≤y.Right→y.Right.toNat<i) (hRL:0≤y.Right→0≤y.Left):Zeh info l i=some (.tup [I (lfC l y i),I (rtC l y),I (ruS l i)],[]):=by
 have hl:=R.len;have h0:l[(i:Int).toNat]?=some (l.getD (i:Int).toNat ⟨[],[]⟩):=Zd6 (by omega);refine Zbjj _ _ _ _ ⟨by omega,_,h0,_,Zx5 _,y,by rw [Int.toNat_natCast];exact hy,?_⟩;unfold lfC rtC;by_cases h1:0≤y.Left
 ·rw [if_pos h1,if_pos h1];refine ⟨_,Zd6 (by have:=hL h1;omega),_,Zx5 _,?_⟩;by_cases h2:0≤y.Right
  ·rw [if_pos h2,if_pos h2];exact ⟨_,Zd6 (by have:=hR h2;omega),_,Zx5 _,rfl⟩
  ·rw [if_neg h2,if_neg h2];rfl
 ·have h2:¬ 0≤y.Right:=fun h=>h1 (hRL h)
  rw [if_neg h1,if_neg h1,if_neg h2,if_neg h2];rfl
theorem Z9w {m:Zj} (hm:LeM m) {i:Nat} {x:Ze} {y:Zb} (hi:i<p.Steps.length) (hx:p.Steps[i]?=some x) (hy:info[i]?=some y) (hk:1≤x.Kind∧x.Kind≤5) (hL:0≤y.Left→y.Left.toNat<i) (hR:0≤y.Right→y.Right.toNat<i) (hRL:0≤y.Right→0≤y.Left):Zgl m p info l i=some (I (stC m l x y i),[]):=by
 refine Zbjm _ _ _ _ _ _ ⟨_,_,_,Zx9 R (x:=x) hi hy hL hR hRL,Zx8 m,by omega,x,by rw [Int.toNat_natCast];exact hx,?_⟩;unfold stC mOp;rw [wA (by omega) (by omega)];obtain ⟨a1,a2,a3,a4,a5⟩:=hm;by_cases h1:x.Kind=1
 ·rw [if_pos (by omega),if_pos h1];exact ⟨_,Zm6 _ a1 _ _ _,rfl⟩
 ·rw [if_neg (by omega),if_neg h1];by_cases h2:x.Kind=2
  ·rw [if_pos (by omega),if_pos h2];exact ⟨_,Zm6 _ a2 _ _ _,rfl⟩
  ·rw [if_neg (by omega),if_neg h2];by_cases h3:x.Kind=3
   ·rw [if_pos (by omega),if_pos h3];exact ⟨_,Zm6 _ a3 _ _ _,rfl⟩
   ·rw [if_neg (by omega),if_neg h3];by_cases h4:x.Kind=4
    ·rw [if_pos (by omega),if_pos h4];exact ⟨_,Zm6 _ a4 _ _ _,rfl⟩
    ·rw [if_neg (by omega),if_neg h4,if_pos (by omega)];exact ⟨_,Zm6 _ a5 _ _ _,rfl⟩
theorem Zqx {m:Zj} {bud:Int} {i:Nat} {x:Ze} {y:Zb} (hi:i<p.Steps.length) (hx:p.Steps[i]?=some x) (hy:info[i]?=some y) (c st:Int) (seen:List Zf) :
  runF m l bud (p.Steps.drop i) (info.drop i) i c st seen=if w (bud - c)<stC m l x y i then (false,bud,st,if 3≤x.Kind then seen++[obs1 m l x y (w (bud - c))] else seen) else runF m l bud (p.Steps.drop (i+1)) (info.drop (i+1)) (i+1) (w (c+stC m l x y i)) (w (st+1)) (if 3≤x.Kind then seen++[obs2 l y i] else seen):=by
 have hl:=R.P.val.2.1;have hx':p.Steps[i]=x:=by rw [List.getElem?_eq_getElem hi] at hx;exact Option.some.inj hx
 have hy':info[i]'(by omega)=y:=by rw [List.getElem?_eq_getElem (by omega)] at hy;exact Option.some.inj hy
 rw [List.drop_eq_getElem_cons hi,List.drop_eq_getElem_cons (show i<info.length by omega),hx',hy',runF]
omit R in
theorem Zqy {m:Zj} {bud:Int} (c st:Int) (seen:List Zf):runF m l bud (p.Steps.drop p.Steps.length) (info.drop p.Steps.length) p.Steps.length c st seen=(true,c,st,seen):=by rw [List.drop_length];rfl
theorem RunI.last:l[((p.Steps.length - 1:Nat):Int).toNat]?=some (l.getD (p.Steps.length - 1) ⟨[],[]⟩)∧VS (l.getD (p.Steps.length - 1) ⟨[],[]⟩):=by
 have h:=R.P.val;have hl:=R.len;have h1:l[((p.Steps.length - 1:Nat):Int).toNat]?=some (l.getD ((p.Steps.length - 1:Nat):Int).toNat ⟨[],[]⟩):=Zd6 (by omega);rw [Int.toNat_natCast] at h1 ⊢;obtain ⟨y,_,g⟩:=R.G _ _ h1;exact ⟨h1,g.vs h.1⟩
end
section
variable {q:Zd} {p:Plan} {info:List Zb} {l:List Za} (R:RunI q p info l) {m:Zj} (hm:LeM m) (ha:Zc7 m) (fr:Bool) (bud:Int)
include R hm ha
theorem Zbos:∀ i,i≤p.Steps.length→∀ (c st:Int) (seen:List Zf),seen≠[]→seen.length≤i→Zei m p false 0 0 info fr l false c st seen bud p.Steps p.Steps.length i=some (runR false (l.getD (p.Steps.length - 1) ⟨[],[]⟩) (runF m l bud (p.Steps.drop i) (info.drop i) i c st seen)):=by
 have hv:=R.P.val;have hl:=R.len;refine down _ ?_ ?_
 ·intro c st seen h0 hs;obtain ⟨e1,e2⟩:=R.last;refine Z5i _ _ _ _ _ _ _ _ _ _ _ _ _ _ _ _ _ ?_;rw [if_neg (by omega),Zqy,hl,show w ((p.Steps.length:Int) - 1)=((p.Steps.length - 1:Nat):Int) by rw [wA (by omega) (by omega)];omega];refine ⟨by omega,_,e1,.inl ⟨_,_,Z9i e2,?_⟩⟩;simp [runR,h0]
 ·intro i hi ih c st seen h0 hs;obtain ⟨x,y,hx,hy,hxi,k15,kr,krl,hL,hR⟩:=R.at_ hi;refine Z5i _ _ _ _ _ _ _ _ _ _ _ _ _ _ _ _ _ ?_;rw [if_pos (by omega),Zqx R hi hx hy,wS hi (by omega)];refine ⟨by omega,x,by rw [Int.toNat_natCast];exact hx,_,_,_,Zx9 R (x:=x) hi hy hL hR krl,_,Z9w R hm hi hx hy k15 hL hR krl,?_⟩;by_cases hc:w (bud - c)<stC m l x y i
  ·rw [if_pos hc,if_pos hc];by_cases h3:3≤x.Kind
   ·rw [if_pos h3,if_pos h3];have h5:0≤y.Right:=kr.2 h3;have e1:lfC l y i=ruS l y.Left:=by unfold lfC;rw [if_pos (krl h5)]
    have e2:rtC l y=ruS l y.Right:=by unfold rtC;rw [if_pos h5]
    rw [e1,e2];have hA:∀ o,mOp m x.Kind=o→Z9 o (ruS l y.Left) (ruS l y.Right) (w (bud - c))=some (I (obs1 m l x y (w (bud - c))).Class,[]):=by
     intro o ho;have:=Z9u (Zj9 hm x.Kind) (adm_op ha x.Kind) (b:=w (bud - c)) (R.ru y.Left) (R.ru y.Right);rw [ho] at this;rw [this];simp only [obs1,ho]
    have res:runR false (l.getD (p.Steps.length - 1) ⟨[],[]⟩) (false,bud,st,seen++[obs1 m l x y (w (bud - c))])=(.tup [.agg [Bo false,I bud,I st,.own 0,.t .nil,.t .nil],Bo true],[.arr 211 3 true ((seen++[(⟨y.Mask,(obs1 m l x y (w (bud - c))).Class,false⟩:Zf)]).map Zf.c)]):=by
     simp [runR,obs1]
    rw [res];refine ⟨Zx8 m,?_⟩;rw [wA (by omega) (by omega),if_neg (by omega),if_neg (by omega)];have hy2:info[(i:Int).toNat]?=some y:=by rw [Int.toNat_natCast];exact hy
    by_cases g3:x.Kind=3
    ·rw [if_pos (by omega)];exact ⟨_,hA m.Hash (by simp [mOp,g3]),y,hy2,by omega,rfl⟩
    ·rw [if_neg (by omega)];by_cases g4:x.Kind=4
     ·rw [if_pos (by omega)];exact ⟨_,hA m.Merge (by simp [mOp,g4]),y,hy2,by omega,rfl⟩
     ·rw [if_neg (by omega),if_pos (by omega)];exact ⟨_,hA m.Nested (by simp [mOp,show x.Kind=5 by omega]),y,hy2,by omega,rfl⟩
   ·rw [if_neg h3,if_neg h3];simp [runR,h0]
  ·rw [if_neg hc,if_neg hc];by_cases h3:3≤x.Kind
   ·rw [if_pos h3,if_pos h3];refine ⟨y,by rw [Int.toNat_natCast];exact hy,_,Zd6 (by omega),_,Zx4 _,by omega,?_⟩;rw [Int.toNat_natCast];exact ih _ _ (seen++[obs2 l y i]) (by simp) (by simp;omega)
   ·rw [if_neg h3,if_neg h3];exact ih _ _ seen h0 (by omega)
theorem Zbot:∀ i,i≤p.Steps.length→∀ (c st:Int),Zgo m p false 0 0 info fr l false c st bud p.Steps p.Steps.length i=some (runR false (l.getD (p.Steps.length - 1) ⟨[],[]⟩) (runF m l bud (p.Steps.drop i) (info.drop i) i c st [])):=by
 have hv:=R.P.val;have hl:=R.len;refine down _ ?_ ?_
 ·intro c st;obtain ⟨e1,e2⟩:=R.last;refine Z5h _ _ _ _ _ _ _ _ _ _ _ _ _ _ _ _ ?_;rw [if_neg (by omega),Zqy,hl,show w ((p.Steps.length:Int) - 1)=((p.Steps.length - 1:Nat):Int) by rw [wA (by omega) (by omega)];omega];refine ⟨by omega,_,e1,.inl ⟨_,_,Z9i e2,?_⟩⟩;simp [runR]
 ·intro i hi ih c st;obtain ⟨x,y,hx,hy,hxi,k15,kr,krl,hL,hR⟩:=R.at_ hi;refine Z5h _ _ _ _ _ _ _ _ _ _ _ _ _ _ _ _ ?_;rw [if_pos (by omega),Zqx R hi hx hy,wS hi (by omega)];refine ⟨by omega,x,by rw [Int.toNat_natCast];exact hx,_,_,_,Zx9 R (x:=x) hi hy hL hR krl,_,Z9w R hm hi hx hy k15 hL hR krl,?_⟩;by_cases hc:w (bud - c)<stC m l x y i
  ·rw [if_pos hc,if_pos hc];by_cases h3:3≤x.Kind
   ·rw [if_pos h3,if_pos h3];have h5:0≤y.Right:=kr.2 h3;have e1:lfC l y i=ruS l y.Left:=by unfold lfC;rw [if_pos (krl h5)]
    have e2:rtC l y=ruS l y.Right:=by unfold rtC;rw [if_pos h5]
    rw [e1,e2];have hA:∀ o,mOp m x.Kind=o→Z9 o (ruS l y.Left) (ruS l y.Right) (w (bud - c))=some (I (obs1 m l x y (w (bud - c))).Class,[]):=by
     intro o ho;have:=Z9u (Zj9 hm x.Kind) (adm_op ha x.Kind) (b:=w (bud - c)) (R.ru y.Left) (R.ru y.Right);rw [ho] at this;rw [this];simp only [obs1,ho]
    have res:runR false (l.getD (p.Steps.length - 1) ⟨[],[]⟩) (false,bud,st,[]++[obs1 m l x y (w (bud - c))])=(.tup [.agg [Bo false,I bud,I st,.own 0,.t .nil,.t .nil],Bo true],[.arr 211 3 true (([(⟨y.Mask,(obs1 m l x y (w (bud - c))).Class,false⟩:Zf)]).map Zf.c)]):=by
     simp [runR,obs1]
    rw [res];refine ⟨Zx8 m,?_⟩;rw [wA (by omega) (by omega),if_neg (by omega),if_neg (by omega)];have hy2:info[(i:Int).toNat]?=some y:=by rw [Int.toNat_natCast];exact hy
    by_cases g3:x.Kind=3
    ·rw [if_pos (by omega)];exact ⟨_,hA m.Hash (by simp [mOp,g3]),y,hy2,rfl⟩
    ·rw [if_neg (by omega)];by_cases g4:x.Kind=4
     ·rw [if_pos (by omega)];exact ⟨_,hA m.Merge (by simp [mOp,g4]),y,hy2,rfl⟩
     ·rw [if_neg (by omega),if_pos (by omega)];exact ⟨_,hA m.Nested (by simp [mOp,show x.Kind=5 by omega]),y,hy2,rfl⟩
   ·rw [if_neg h3,if_neg h3];simp [runR]
  ·rw [if_neg hc,if_neg hc];by_cases h3:3≤x.Kind
   ·rw [if_pos h3,if_pos h3];refine ⟨y,by rw [Int.toNat_natCast];exact hy,_,Zd6 (by omega),_,Zx4 _,?_⟩;rw [Int.toNat_natCast];exact Zbos R hm ha fr bud (i+1) hi _ _ [obs2 l y i] (by simp) (by simp)
   ·rw [if_neg h3,if_neg h3];exact ih _ _
omit R hm ha in
theorem Zd7 {i:Nat} {k:Int} (hi:i<l.length) (h0:0≤k) (hk:k.toNat≤i):((l.take i).map (fun s:Za=>(s.Rows.length:Int))++[((l.getD i ⟨[],[]⟩).Rows.length:Int)])[k.toNat]?=some ((l.getD k.toNat ⟨[],[]⟩).Rows.length:Int):=by
 have e:(l.take i).map (fun s:Za=>(s.Rows.length:Int))++[((l.getD i ⟨[],[]⟩).Rows.length:Int)]=(l.take (i+1)).map fun s:Za=>(s.Rows.length:Int):=by
  rw [List.take_succ_eq_append_getElem hi,List.map_append,List.getD_eq_getElem?_getD,List.getElem?_eq_getElem hi];rfl
 rw [e,List.getElem?_map,List.getElem?_take,if_pos (by omega),Zd6 (by omega)];rfl
omit ha in
theorem x_l28 {i:Nat} {x:Ze} {y:Zb} (hi:i<p.Steps.length) (hx:p.Steps[i]?=some x) (hy:info[i]?=some y) (hL:0≤y.Left→y.Left.toNat<i) (hR:0≤y.Right→y.Right.toNat<i) (hRL:0≤y.Right→0≤y.Left):Zjl m p info ((l.take i).map (fun s:Za=>(s.Rows.length:Int))++[((l.getD i ⟨[],[]⟩).Rows.length:Int)]) i=some (I (stC m l x y i),[]):=by
 have hl:=R.len;have ru:∀ k:Int,Zbm ((l.getD k.toNat ⟨[],[]⟩).Rows.length:Int)=some (I (ruS l k),[]):=fun k=>Zx7 _ (by have:=R.n4096 k;omega)
 have h0:=Zd7 (l:=l) (i:=i) (k:=(i:Int)) (by omega) (by omega) (by omega);refine Zbk7 _ _ _ _ _ _ ⟨by omega,x,by rw [Int.toNat_natCast];exact hx,_,Zxb m x.Kind,y,by rw [Int.toNat_natCast];exact hy,?_⟩;unfold stC lfC rtC;by_cases h1:0≤y.Left
 ·rw [if_neg (by omega),if_pos h1];have hk:=hL h1;by_cases h2:0≤y.Right
  ·have hk2:=hR h2;rw [if_neg (by omega),if_pos h2];exact ⟨h1,_,Zd7 (l:=l) (by omega) h1 (by omega),_,ru y.Left,h2,_,Zd7 (l:=l) (by omega) h2 (by omega),_,ru y.Right,_,h0,_,ru i,_,Zp9 _ (Zj9 hm x.Kind) _ _ _,rfl⟩
  ·rw [if_pos (by omega),if_neg h2];exact ⟨h1,_,Zd7 (l:=l) (by omega) h1 (by omega),_,ru y.Left,_,h0,_,ru i,_,Zp9 _ (Zj9 hm x.Kind) _ _ _,rfl⟩
 ·have h2:¬ 0≤y.Right:=fun h=>h1 (hRL h)
  rw [if_pos (by omega),if_neg h1,if_neg h2];exact ⟨_,h0,_,ru i,_,Zp9 _ (Zj9 hm x.Kind) _ _ _,rfl⟩
omit R hm ha in
theorem Zqz {i:Nat} (hi:i<l.length):(l.take i).map (fun s:Za=>(s.Rows.length:Int))++[((l.getD i ⟨[],[]⟩).Rows.length:Int)]=(l.take (i+1)).map fun s:Za=>(s.Rows.length:Int):=by
 rw [List.take_succ_eq_append_getElem hi,List.map_append,List.getD_eq_getElem?_getD,List.getElem?_eq_getElem hi];rfl
theorem Zbou:∀ i,i≤p.Steps.length→∀ (c st:Int) (seen:List Zf),seen≠[]→seen.length≤i→Zjo m p false 0 0 l info ((l.take i).map fun s:Za=>(s.Rows.length:Int)) false c st seen bud i=some (runR true (l.getD (p.Steps.length - 1) ⟨[],[]⟩) (runF m l bud (p.Steps.drop i) (info.drop i) i c st seen)):=by
 have hv:=R.P.val;have hl:=R.len;refine down _ ?_ ?_
 ·intro c st seen h0 hs;obtain ⟨e1,e2⟩:=R.last;have hA:=Z9n e2;refine Z6x _ _ _ _ _ _ _ _ _ _ _ _ _ _ _ ?_;rw [if_neg (by omega),Zqy,hl,show w ((p.Steps.length:Int) - 1)=((p.Steps.length - 1:Nat):Int) by rw [wA (by omega) (by omega)];omega];refine ⟨by omega,_,e1,?_⟩;unfold ansF at hA;by_cases e:(l.getD (p.Steps.length - 1) ⟨[],[]⟩).Rows=[]
  ·rw [if_pos e] at hA;refine .inr (.inl ⟨_,hA,?_⟩);simp [runR,e,h0,-List.getD_eq_getElem?_getD]
  ·rw [if_neg e] at hA;refine .inr (.inr ⟨_,_,hA,?_⟩);simp [runR,e,h0,-List.getD_eq_getElem?_getD]
 ·intro i hi ih c st seen h0 hs;obtain ⟨x,y,hx,hy,hxi,k15,kr,krl,hL,hR⟩:=R.at_ hi;have hnl:((l.take i).map fun s:Za=>(s.Rows.length:Int)).length≤14:=by simp;omega
  have ru:∀ k:Int,Zbm ((l.getD k.toNat ⟨[],[]⟩).Rows.length:Int)=some (I (ruS l k),[]):=fun k=>Zx7 _ (by have:=R.n4096 k;omega)
  refine Z6x _ _ _ _ _ _ _ _ _ _ _ _ _ _ _ ?_;rw [if_pos (by omega),Zqx R hi hx hy,wS hi (by omega)];refine ⟨by omega,_,Zd6 (by omega),by omega,?_⟩;rw [Int.toNat_natCast];refine ⟨_,x_l28 R hm hi hx hy hL hR krl,?_⟩;by_cases hc:w (bud - c)<stC m l x y i
  ·rw [if_pos hc,if_pos hc];refine ⟨y,hy,?_⟩;by_cases h3:3≤x.Kind
   ·have h5:0≤y.Right:=kr.2 h3;have h6:=krl h5;rw [if_pos h5,if_pos h3];refine ⟨x,hx,h6,_,Zd7 (l:=l) (by omega) h6 (by have:=hL h6;omega),_,ru y.Left,_,Zd7 (l:=l) (by omega) h5 (by have:=hR h5;omega),_,ru y.Right,_,Z9v hm ha (by simp [inR];omega) (R.ru _) (R.ru _),by omega,?_⟩;simp [runR,obs1]
   ·rw [if_neg (fun h=>h3 (kr.1 h)),if_neg h3];simp [runR,h0]
  ·rw [if_neg hc,if_neg hc];refine ⟨y,hy,?_⟩;rw [Zqz (by omega)];by_cases h3:3≤x.Kind
   ·rw [if_pos (kr.2 h3),if_pos h3];have hg:=Zd7 (l:=l) (i:=i) (k:=(i:Int)) (by omega) (by omega) (by omega);rw [Int.toNat_natCast,Zqz (by omega)] at hg;refine ⟨_,hg,_,Zx6 _ (by have:=R.n4096 i;rw [Int.toNat_natCast] at this;omega),by omega,?_⟩;exact ih _ _ (seen++[obs2 l y i]) (by simp) (by simp;omega)
   ·rw [if_neg (fun h=>h3 (kr.1 h)),if_neg h3];exact ih _ _ seen h0 (by omega)
theorem Zbov:∀ i,i≤p.Steps.length→∀ (c st:Int),Zms m p false 0 0 l info ((l.take i).map fun s:Za=>(s.Rows.length:Int)) false c st bud i=some (runR true (l.getD (p.Steps.length - 1) ⟨[],[]⟩) (runF m l bud (p.Steps.drop i) (info.drop i) i c st [])):=by
 have hv:=R.P.val;have hl:=R.len;refine down _ ?_ ?_
 ·intro c st;obtain ⟨e1,e2⟩:=R.last;have hA:=Z9n e2;refine Z6w _ _ _ _ _ _ _ _ _ _ _ _ _ _ ?_;rw [if_neg (by omega),Zqy,hl,show w ((p.Steps.length:Int) - 1)=((p.Steps.length - 1:Nat):Int) by rw [wA (by omega) (by omega)];omega];refine ⟨by omega,_,e1,?_⟩;unfold ansF at hA;by_cases e:(l.getD (p.Steps.length - 1) ⟨[],[]⟩).Rows=[]
  ·rw [if_pos e] at hA;refine .inr (.inl ⟨_,hA,?_⟩);simp [runR,e,-List.getD_eq_getElem?_getD]
  ·rw [if_neg e] at hA;refine .inr (.inr ⟨_,_,hA,?_⟩);simp [runR,e,-List.getD_eq_getElem?_getD]
 ·intro i hi ih c st;obtain ⟨x,y,hx,hy,hxi,k15,kr,krl,hL,hR⟩:=R.at_ hi;have hnl:((l.take i).map fun s:Za=>(s.Rows.length:Int)).length≤14:=by simp;omega
  have ru:∀ k:Int,Zbm ((l.getD k.toNat ⟨[],[]⟩).Rows.length:Int)=some (I (ruS l k),[]):=fun k=>Zx7 _ (by have:=R.n4096 k;omega)
  refine Z6w _ _ _ _ _ _ _ _ _ _ _ _ _ _ ?_;rw [if_pos (by omega),Zqx R hi hx hy,wS hi (by omega)];refine ⟨by omega,_,Zd6 (by omega),by omega,?_⟩;rw [Int.toNat_natCast];refine ⟨_,x_l28 R hm hi hx hy hL hR krl,?_⟩;by_cases hc:w (bud - c)<stC m l x y i
  ·rw [if_pos hc,if_pos hc];refine ⟨y,hy,?_⟩;by_cases h3:3≤x.Kind
   ·have h5:0≤y.Right:=kr.2 h3;have h6:=krl h5;rw [if_pos h5,if_pos h3];refine ⟨x,hx,h6,_,Zd7 (l:=l) (by omega) h6 (by have:=hL h6;omega),_,ru y.Left,_,Zd7 (l:=l) (by omega) h5 (by have:=hR h5;omega),_,ru y.Right,_,Z9v hm ha (by simp [inR];omega) (R.ru _) (R.ru _),?_⟩;simp [runR,obs1]
   ·rw [if_neg (fun h=>h3 (kr.1 h)),if_neg h3];simp [runR]
  ·rw [if_neg hc,if_neg hc];refine ⟨y,hy,?_⟩;rw [Zqz (by omega)];by_cases h3:3≤x.Kind
   ·rw [if_pos (kr.2 h3),if_pos h3];have hg:=Zd7 (l:=l) (i:=i) (k:=(i:Int)) (by omega) (by omega) (by omega);rw [Int.toNat_natCast,Zqz (by omega)] at hg;refine ⟨_,hg,_,Zx6 _ (by have:=R.n4096 i;rw [Int.toNat_natCast] at this;omega),?_⟩;exact Zbou R hm ha bud (i+1) hi _ _ [obs2 l y i] (by simp) (by simp)
   ·rw [if_neg (fun h=>h3 (kr.1 h)),if_neg h3];exact ih _ _
end
open Classical in
noncomputable def rwbF (m:Zj) (d:Zk) (q:Zd) (p:Plan) (bud:Int):Option (Za×(Bool×Int×Int×List Zf)) :=
 match Z3 q.Zl q.Atoms p.Steps with
 | none=>none
 | some info=>if qFor d q=true∧Zc7 m∧inR bud 0 1000000000000=true then some ((strm d q p.Steps info).getD (p.Steps.length - 1) ⟨[],[]⟩,runF m (strm d q p.Steps info) bud p.Steps info 0 0 0 []) else none
def noRun:AV×List Blk:=(.tup [.agg [Bo false,I 0,I 0,.t .nil,.t .nil,.t .nil],Bo false],[])
def rwbR (nl:Bool):Option (Za×(Bool×Int×Int×List Zf))→AV×List Blk
 | none=>noRun
 | some (s,r)=>runR nl s r
theorem Zbow {m:Zj} (hm:LeM m) {d:Zk} (hd:LeD d) {q:Zd} (hq:LeQ q) (p:Plan) (bud:Int):Zgn m d q p bud=some (rwbR false (rwbF m d q p bud)):=by
 unfold rwbF
 cases e:Z3 q.Zl q.Atoms p.Steps with
 | none=>exact Zwv _ _ _ _ _ _ (.inl ⟨Z9c hd hq (.inl e),rfl⟩)
 | some info =>
  dsimp only;have P:PI q p info:=⟨e⟩;by_cases h:qFor d q=true
  ·obtain ⟨fr,hx⟩:=Zbn8 hd hq h P;have hg:=Zx3 h P;have R:RunI q p info (strm d q p.Steps info):=⟨P,hg.1,hg.2⟩;refine Zwv _ _ _ _ _ _ (.inr ⟨_,_,_,hx,_,Zbme m hm,?_⟩);by_cases ha:Zc7 m
   ·rw [if_pos (by simpa using ha)];refine ⟨_,Zby _ _ _,?_⟩;rcases tf (inR bud 0 1000000000000) with hb | hb
    ·rw [hb,if_neg (by decide),if_neg (by simp)];rfl
    ·rw [hb,if_pos rfl,if_pos ⟨h,ha,rfl⟩];have:=Zbot R hm ha fr bud 0 (Nat.zero_le _) 0 0;simpa [rwbR] using this
   ·rw [if_neg (by simpa using ha),if_neg (fun hh=>ha hh.2.1)];rfl
  ·rw [if_neg (fun hh=>h hh.1)];exact Zwv _ _ _ _ _ _ (.inl ⟨Z9c hd hq (.inr (by simpa using h)),rfl⟩)
theorem Zbox {m:Zj} (hm:LeM m) {d:Zk} (hd:LeD d) {q:Zd} (hq:LeQ q) (p:Plan) (bud:Int):Zeo m d q p bud=some (rwbR true (rwbF m d q p bud)):=by
 unfold rwbF
 cases e:Z3 q.Zl q.Atoms p.Steps with
 | none =>
  obtain ⟨info,hx⟩:=Z9d hd hq (p:=p) (.inl e);refine Zw4 _ _ _ _ _ _ ⟨_,_,_,hx,?_⟩
  rw [if_neg (by decide)];rfl
 | some info =>
  dsimp only;have P:PI q p info:=⟨e⟩;by_cases h:qFor d q=true
  ·have hx:=Zbn9 hd hq h P;have hg:=Zx3 h P;have R:RunI q p info (strm d q p.Steps info):=⟨P,hg.1,hg.2⟩;refine Zw4 _ _ _ _ _ _ ⟨_,_,_,hx,?_⟩;rw [if_pos rfl];refine ⟨_,Z68 m hm,?_⟩;by_cases ha:Zc7 m
   ·rw [if_pos (by simpa using ha)];refine ⟨_,Zb7 _ _ _,?_⟩;rcases tf (inR bud 0 1000000000000) with hb | hb
    ·rw [hb,if_neg (by decide),if_neg (by simp)];rfl
    ·rw [hb,if_pos rfl,if_pos ⟨h,ha,rfl⟩];have:=Zbov R hm ha bud 0 (Nat.zero_le _) 0 0;simpa [rwbR] using this
   ·rw [if_neg (by simpa using ha),if_neg (fun hh=>ha hh.2.1)];rfl
  ·obtain ⟨info',hx⟩:=Z9d hd hq (p:=p) (.inr (by simpa using h));rw [if_neg (fun hh=>h hh.1)];refine Zw4 _ _ _ _ _ _ ⟨_,_,_,hx,?_⟩;rw [if_neg (by decide)];rfl
theorem Z9x (nl:Bool) (x:Option (Za×(Bool×Int×Int×List Zf))) (Q:AV×List Blk→Prop)
  (h1:∀ (f:Bool) (c st:Int) (g:Bool),Q (.tup [.agg [Bo f,I c,I st,.t .nil,.t .nil,.t .nil],Bo g],[]))
  (h2:∀ (c st:Int) (o:List Zf),Q (.tup [.agg [Bo false,I c,I st,.own 0,.t .nil,.t .nil],Bo true],[.arr 211 3 true (o.map Zf.c)]))
  (h3:nl=true→∀ (c st:Int) (v:List Int),Q (.tup [.agg [Bo true,I c,I st,.t .nil,.own 0,.t .nil],Bo true],[.arr 3 1 true (v.map ic)]))
  (h4:nl=true→∀ (c st:Int) (o:List Zf) (v:List Int),Q (.tup [.agg [Bo true,I c,I st,.own 0,.own 1,.t .nil],Bo true],[.arr 211 3 true (o.map Zf.c),.arr 3 1 true (v.map ic)]))
  (h5:∀ (c st:Int) (v:List Int) (r:List (List Int)),Q (.tup [.agg [Bo true,I c,I st,.t .nil,.own 0,.own 1],Bo true],[.arr 3 1 true (v.map ic),.arr 30 1 true (r.map isc)]))
  (h6:∀ (c st:Int) (o:List Zf) (v:List Int) (r:List (List Int)),Q (.tup [.agg [Bo true,I c,I st,.own 0,.own 1,.own 2],Bo true],[.arr 211 3 true (o.map Zf.c),.arr 3 1 true (v.map ic),.arr 30 1 true (r.map isc)])) :
  Q (rwbR nl x):=by
 match x with
 | none=>exact h1 _ _ _ _
 | some (s,false,c,st,seen) =>
  by_cases e:seen=[]
  ·simp only [rwbR,runR,if_pos e];exact h1 _ _ _ _
  ·simp only [rwbR,runR,if_neg e];exact h2 _ _ _
 | some (s,true,c,st,seen) =>
  by_cases k:nl=true∧s.Rows=[]
  ·by_cases e:seen=[]
   ·simp only [rwbR,runR,if_pos e,if_pos k];exact h3 k.1 _ _ _
   ·simp only [rwbR,runR,if_neg e,if_pos k];exact h4 k.1 _ _ _ _
  ·by_cases e:seen=[]
   ·simp only [rwbR,runR,if_pos e,if_neg k];exact h5 _ _ _ _
   ·simp only [rwbR,runR,if_neg e,if_neg k];exact h6 _ _ _ _ _
def Znd (q:Zd) (p:Plan) (mask:Int):Option (List Ze):=match Z3 q.Zl q.Atoms p.Steps with
 | some info=>(spl info mask (jst p.Steps 0)).map (subp info p.Steps)
 | none=>none
theorem Z9y (q:Zd) (p:Plan) (mask:Int):Zj8 q p mask=match Znd q p mask with | some l=>yesP l | none=>noP:=by
 unfold Zj8 Znd
 cases Z3 q.Zl q.Atoms p.Steps with
 | none=>rfl
 | some info=>simp only;cases spl info mask (jst p.Steps 0) <;> rfl
noncomputable def spF (m:Zj) (d:Zk) (q:Zd) (p:Plan) (mask bud:Int):Option (Za×(Bool×Int×Int×List Zf)):=match Znd q p mask with
 | some l=>rwbF m d q ⟨l⟩ bud
 | none=>none
theorem Zboy {m:Zj} (hm:LeM m) {d:Zk} (hd:LeD d) {q:Zd} (hq:LeQ q) (p:Plan) (mask bud:Int):Zo5 m d q p mask bud=some (rwbR false (spF m d q p mask bud)):=by
 have hS:=Zbon q hq p mask;rw [Z9y] at hS;refine Zbjp _ _ _ _ _ _ _ ?_;unfold spF
 cases e:Znd q p mask with
 | none=>rw [e] at hS;exact .inl ⟨hS,rfl⟩
 | some l =>
  rw [e] at hS;refine .inr ⟨l,hS,?_⟩;have hR:=Zbow hm hd hq ⟨l⟩ bud;dsimp only;refine Z9x false (rwbF m d q ⟨l⟩ bud) (fun r=>rwbR false (rwbF m d q ⟨l⟩ bud)=r→_) ?_ ?_ ?_ ?_ ?_ ?_ rfl
  ·intro f c st g e;rw [e] at hR ⊢;exact .inl ⟨_,_,_,_,hR,rfl⟩
  ·intro c st o e;rw [e] at hR ⊢;exact .inr (.inl ⟨_,_,_,_,hR,rfl⟩)
  ·intro h;cases h
  ·intro h;cases h
  ·intro c st v r e;rw [e] at hR ⊢;exact .inr (.inr (.inl ⟨_,_,_,_,_,hR,rfl⟩))
  ·intro c st o v r e;rw [e] at hR ⊢;exact .inr (.inr (.inr ⟨_,_,_,_,_,_,hR,rfl⟩))
theorem Zboz {m:Zj} (hm:LeM m) {d:Zk} (hd:LeD d) {q:Zd} (hq:LeQ q) (p:Plan) (mask bud:Int):Zpv m d q p mask bud=some (rwbR true (spF m d q p mask bud)):=by
 have hS:=Zbop q hq p mask;rw [Z9y] at hS;refine Zble _ _ _ _ _ _ _ ?_;unfold spF
 cases e:Znd q p mask with
 | none=>rw [e] at hS;exact .inr ⟨hS,rfl⟩
 | some l =>
  rw [e] at hS;refine .inl ⟨l,hS,?_⟩;have hR:=Zbox hm hd hq ⟨l⟩ bud;dsimp only;refine Z9x true (rwbF m d q ⟨l⟩ bud) (fun r=>rwbR true (rwbF m d q ⟨l⟩ bud)=r→_) ?_ ?_ ?_ ?_ ?_ ?_ rfl
  ·intro f c st g e;rw [e] at hR ⊢;exact .inl ⟨_,_,_,_,hR,rfl⟩
  ·intro c st o e;rw [e] at hR ⊢;exact .inr (.inl ⟨_,_,_,_,hR,rfl⟩)
  ·intro _ c st v e;rw [e] at hR ⊢;exact .inr (.inr (.inl ⟨_,_,_,_,hR,rfl⟩))
  ·intro _ c st o v e;rw [e] at hR ⊢;exact .inr (.inr (.inr (.inr (.inl ⟨_,_,_,_,_,hR,rfl⟩))))
  ·intro c st v r e;rw [e] at hR ⊢;exact .inr (.inr (.inr (.inl ⟨_,_,_,_,_,hR,rfl⟩)))
  ·intro c st o v r e;rw [e] at hR ⊢;exact .inr (.inr (.inr (.inr (.inr ⟨_,_,_,_,_,_,hR,rfl⟩))))
end Go.Proofs.YtgnfoghkbpkgjaaGreat
