/-
  Parts of the proofs for this seat: MS SP L35.
-/
import Derived.Test.YtgnfoghkbpkgjaaGreatP15
import Derived.Test.YtgnfoghkbpkgjaaGreatP16
set_option linter.unusedSimpArgs false
set_option linter.unusedVariables false
set_option maxRecDepth 100000
set_option maxHeartbeats 4000000
namespace Go.Proofs.YtgnfoghkbpkgjaaGreat
open Go.AM
theorem Zbsr (fr:List Fr):∀ (xs d:List (List Int)) (k:Int),0≤k→k+(Zo xs:Int)≤4000000000000000000→d.length+xs.length≤4294967296→(∀ x∈xs,SmA x)→EvL C fr [0,1,5] Znn ⟨[(0,L 1 ((d++Zbk xs k).map isc)),(1,I k),(5,I d.length)],[[]],[]⟩ =
  EvX C fr (.x 0) ⟨[(0,L 1 ((d++Zbk xs k).map isc)),(1,I (k+Zo xs)),(5,I (d.length+xs.length)),(9,Bo false)],[[]],[]⟩:=by
 intro xs
 induction xs with
 | nil =>
  intro d k h1 h2 h3 h4;rw [EvL_eq Znn.eq_1]
  simp [Zbk,Zo,cnL,mkL]
 | cons x xs ih =>
  intro d k h1 h2 h3 h4;have hx:=h4 x (by simp);have e0:Zo (x::xs)=Zbp x+Zo xs:=rfl;rw [e0] at h2;simp only [List.length_cons] at h3;have e1:Zbp x=x.length:=rfl;have eK:k+(Zbp x:Int)=k+(x.length:Int):=by omega
  have eL:k+(Zo (x::xs):Int)=k+(x.length:Int)+(Zo xs:Int):=by omega
  have ih':=ih (d++[Zfn x k]) (k+(x.length:Int)) (by omega) (by omega) (by simp;omega) (fun y hy=>h4 y (by simp [hy]));rw [EvL_eq Znn.eq_1,eL,Zbbu,eK];have g1:IntKind.wrap .i64 ((d.length:Int)+1)=(d.length:Int)+1:=wrap64 (by omega) (by omega);have g3:(d.length:Int)<(d.length:Int)+(((Zbk xs (k+(x.length:Int))).length:Int)+1):=by omega
  have g5:(d.length:Int)+1+(xs.length:Int)=(d.length:Int)+((xs.length:Int)+1):=by omega
  have m0:=Zbbs x (k) (by omega) (by omega) hx;have z0:¬ (k+(x.length:Int)<0):=by omega
  simp [g5,Zfn,tI] at ih';simp +decide [g1,g3,m0,z0,ih',Zfn,tI]
theorem Zbss (xs:List (List Int)) (k:Int) (h1:0≤k) (h2:k+(Zo xs:Int)≤4000000000000000000) (h3:SmL SmA xs):C Zzj [L 1 ((Zbk xs k).map isc),I k] []=some (I (k+Zo xs),[]):=by
 refine run Zbbj rfl ?_;have h4:=fun fr=>Zbsr fr xs [] k h1 h2 (by have:xs.length≤4294967296:=h3.1;simp;omega) h3.2
 simp at h4;simp [Zyn,h4]
theorem Zbst (k:Int):C Zzj [.t .nil,I k] []=some (I k,[]):=by
 refine run Zbbj rfl ?_;simp [Zyn,EvL_eq Znn.eq_1]
theorem Zbsu:C Zru [.t .nil,.t .nil] []=some (Bo true,[]):=by
 refine run Zba0 rfl ?_;simp [Zrg,EvL_eq Znj.eq_1]
theorem Zbsv:C Zrt [.t .nil,.t .nil] []=some (Bo true,[]):=by
 refine run Z93 rfl ?_;simp [Zq0,EvL_eq Zne.eq_1]
theorem Zbsw:C Znz [.t .nil,.t .nil] []=some (Bo true,[]):=by
 refine run Zyd rfl ?_;simp [Zni,EvL_eq Zkb.eq_1]
theorem Zbsx:C Znz [.t (.lst 1 []),.t .nil] []=some (Bo true,[]):=by
 refine run Zyd rfl ?_;simp [Zni,EvL_eq Zkb.eq_1]
theorem Zho (f:Bool) (c st:Int) {s s' v v' r r':T} (h1:C Zru [.t s,.t s'] []=some (Bo true,[])) (h2:C Zrt [.t v,.t v'] []=some (Bo true,[])) (h3:C Znz [.t r,.t r'] []=some (Bo true,[])) :
  C Zbc2 [.agg [Bo f,I c,I st,.t s,.t v,.t r],.agg [Bo f,I c,I st,.t s',.t v',.t r']] []=some (Bo true,[]):=by
 have h4:C Zbdo [.agg [.t v,.t r],.agg [.t v',.t r']] []=some (Bo true,[]):=by
  refine run Zbp3 rfl ?_;simp [Zba1,h2,h3]
 refine run Zbph rfl ?_;simp [Zbah,h1,h4]
theorem Zbb3 (e0 e1:Nat) (v:List Int) (r:List (List Int)) (k:Int) (h1:0≤k) (h2:k+(v.length:Int)+(Zo r:Int)≤4000000000000000000) (hv:SmA v) (hr:SmL SmA r):C Zzg [.agg [.own 0,.own 1],I k] [.xarr e0 1 (v.map ic),.xarr e1 1 (r.map isc)]=some (I (k+(v.length:Int)+(Zo r:Int)),[.xarr e0 1 ((mkI v k).map ic),.xarr e1 1 ((Zbk r (k+(v.length:Int))).map isc)]):=by
 refine runM Zba3 rfl ?_;have m0:=Zbbq e0 v k (by omega) (by omega) hv;have m1:=Zbbv e1 r (k+(v.length:Int)) (by omega) (by omega) hr;simp [Zyi,m0,m1]
theorem Zbb4 (k:Int):C Zzg [.agg [.t .nil,.t .nil],I k] []=some (I k,[]):=by
 refine run Zba3 rfl ?_;simp [Zyi,Zbrw,Zbr3]
theorem Zbb5 (v:List Int) (r:List (List Int)) (k:Int) (h1:0≤k) (h2:k+(v.length:Int)+(Zo r:Int)≤4000000000000000000) (hv:SmA v) (hr:SmL SmA r):C Zzi [.agg [L 1 ((mkI v k).map ic),L 1 ((Zbk r (k+(v.length:Int))).map isc)],I k] []=some (I (k+(v.length:Int)+(Zo r:Int)),[]):=by
 refine run Zba5 rfl ?_;have m0:=Zbbs v k (by omega) (by omega) hv;have m1:=Zbss r (k+(v.length:Int)) (by omega) (by omega) hr;have z0:¬ (k+(v.length:Int)<0):=by omega
 have z1:¬ (k+(v.length:Int)+(Zo r:Int)<0):=by omega
 simp [Zyk,tI,tII,m0,m1,z0,z1]
theorem Zbb6 (k:Int) (h1:0≤k):C Zzi [.agg [.t .nil,.t .nil],I k] []=some (I k,[]):=by
 refine run Zba5 rfl ?_;have z:¬ (k<0):=by omega
 simp [Zyk,z,h1,Zbr0,Zbst]
theorem Zbb7 (f:Bool) (c st k:Int):C Znx [.agg [Bo f,I c,I st,.t .nil,.t .nil,.t .nil],I k] []=some (I k,[]):=by
 refine run Zq2 rfl ?_;simp [Zng,Zbby,Zbb4]
theorem Zbsy (e0:Nat) (f:Bool) (c st:Int) (o:List Zf) (k:Int) (h1:0≤k) (h2:k+(Zv o:Int)≤4000000000000000000) (ho:SmA o):C Znx [.agg [Bo f,I c,I st,.own 0,.t .nil,.t .nil],I k] [.xarr e0 3 (o.map Zf.c)]=some (I (k+(Zv o:Int)),[.xarr e0 3 ((Zcb o k).map Zf.c)]):=by
 refine runM Zq2 rfl ?_;have m0:=Zbbx e0 o k (by omega) (by omega) ho;simp [Zng,m0,Zbb4]
theorem Zbsz (e0 e1:Nat) (f:Bool) (c st:Int) (v:List Int) (r:List (List Int)) (k:Int) (h1:0≤k) (h2:k+(v.length:Int)+(Zo r:Int)≤4000000000000000000) (hv:SmA v) (hr:SmL SmA r):C Znx [.agg [Bo f,I c,I st,.t .nil,.own 0,.own 1],I k] [.xarr e0 1 (v.map ic),.xarr e1 1 (r.map isc)]=some (I (k+(v.length:Int)+(Zo r:Int)),[.xarr e0 1 ((mkI v k).map ic),.xarr e1 1 ((Zbk r (k+(v.length:Int))).map isc)]):=by
 refine runM Zq2 rfl ?_;have m0:=Zbb3 e0 e1 v r k h1 h2 hv hr;simp [Zng,m0,Zbby]
theorem Zbs0 (e0 e1 e2:Nat) (f:Bool) (c st:Int) (o:List Zf) (v:List Int) (r:List (List Int)) (k:Int) (h1:0≤k) (h2:k+(Zv o:Int)+(v.length:Int)+(Zo r:Int)≤4000000000000000000) (ho:SmA o) (hv:SmA v) (hr:SmL SmA r):C Znx [.agg [Bo f,I c,I st,.own 0,.own 1,.own 2],I k] [.xarr e0 3 (o.map Zf.c),.xarr e1 1 (v.map ic),.xarr e2 1 (r.map isc)]=some (I (k+(Zv o:Int)+(v.length:Int)+(Zo r:Int)),[.xarr e0 3 ((Zcb o k).map Zf.c),.xarr e1 1 ((mkI v (k+(Zv o:Int))).map ic),.xarr e2 1 ((Zbk r (k+(Zv o:Int)+(v.length:Int))).map isc)]):=by
 refine runM Zq2 rfl ?_;have m0:=Zbbx e0 o k (by omega) (by omega) ho;have m1:=Zbb3 e1 e2 v r (k+(Zv o:Int)) (by omega) h2 hv hr;simp [Zng,m0,m1]
theorem Zbb8 (f:Bool) (c st k:Int) (h1:0≤k):C Zny [.agg [Bo f,I c,I st,.t .nil,.t .nil,.t .nil],I k] []=some (I k,[]):=by
 refine run Zq3 rfl ?_;have z:¬ (k<0):=by omega
 simp [Znh,z,h1,Zbb0,Zbb6]
theorem Zbs1 (f:Bool) (c st:Int) (o:List Zf) (k:Int) (h1:0≤k) (h2:k+(Zv o:Int)≤4000000000000000000) (ho:SmA o):C Zny [.agg [Bo f,I c,I st,.t (.lst 3 ((Zcb o k).map Zf.c)),.t .nil,.t .nil],I k] []=some (I (k+(Zv o:Int)),[]):=by
 refine run Zq3 rfl ?_;have m0:=Zbbz o k (by omega) (by omega) ho;have z0:¬ (k+(Zv o:Int)<0):=by omega
 have m1:=Zbb6 (k+(Zv o:Int)) (by omega);simp [Znh,m0,m1,z0]
theorem Zbs2 (f:Bool) (c st:Int) (v:List Int) (r:List (List Int)) (k:Int) (h1:0≤k) (h2:k+(v.length:Int)+(Zo r:Int)≤4000000000000000000) (hv:SmA v) (hr:SmL SmA r):C Zny [.agg [Bo f,I c,I st,.t .nil,L 1 ((mkI v k).map ic),L 1 ((Zbk r (k+(v.length:Int))).map isc)],I k] []=some (I (k+(v.length:Int)+(Zo r:Int)),[]):=by
 refine run Zq3 rfl ?_;have m0:=Zbb5 v r k h1 h2 hv hr;have z:¬ (k<0):=by omega
 have z0:¬ (k+(v.length:Int)+(Zo r:Int)<0):=by omega
 simp [Znh,m0,z,z0,Zbb0]
theorem Zbs3 (f:Bool) (c st:Int) (o:List Zf) (v:List Int) (r:List (List Int)) (k:Int) (h1:0≤k) (h2:k+(Zv o:Int)+(v.length:Int)+(Zo r:Int)≤4000000000000000000) (ho:SmA o) (hv:SmA v) (hr:SmL SmA r):C Zny [.agg [Bo f,I c,I st,.t (.lst 3 ((Zcb o k).map Zf.c)),L 1 ((mkI v (k+(Zv o:Int))).map ic),L 1 ((Zbk r (k+(Zv o:Int)+(v.length:Int))).map isc)],I k] []=some (I (k+(Zv o:Int)+(v.length:Int)+(Zo r:Int)),[]):=by
 refine run Zq3 rfl ?_;have m0:=Zbbz o k (by omega) (by omega) ho;have m1:=Zbb5 v r (k+(Zv o:Int)) (by omega) h2 hv hr;have z0:¬ (k+(Zv o:Int)<0):=by omega
 have z1:¬ (k+(Zv o:Int)+(v.length:Int)+(Zo r:Int)<0):=by omega
 simp [Znh,m0,m1,z0,z1]
theorem Zbb9 (m:Zj) (l:List Za) (bud:Int):∀ (xs:List Ze) (ys:List Zb) (i:Nat) (c st:Int) (seen:List Zf),(runF m l bud xs ys i c st seen).2.2.2.length≤seen.length+xs.length
 | [],_,_,_,_,_=>by unfold runF;exact Nat.le_refl _
 | x::xs,[],_,_,_,_=>by unfold runF;exact Nat.le_add_right _ _
 | x::xs,y::ys,i,c,st,seen=>by
  unfold runF;split
  ·dsimp only;split <;> simp <;> omega
  ·have:=Zbb9 m l bud xs ys (i+1) (w (c+stC m l x y i)) (w (st+1)) (if 3≤x.Kind then seen++[obs2 l y i] else seen);have h:(if 3≤x.Kind then seen++[obs2 l y i] else seen).length≤seen.length+1:=by split <;> simp
   simp only [List.length_cons];omega
theorem rwbF_bd {m:Zj} {d:Zk} {q:Zd} {p:Plan} {bud:Int} {s:Za} {r:Bool×Int×Int×List Zf} (h:rwbF m d q p bud=some (s,r)):VS s∧r.2.2.2.length≤14:=by
 unfold rwbF at h
 cases e:Z3 q.Zl q.Atoms p.Steps with
 | none=>rw [e] at h;cases h
 | some info =>
  rw [e] at h;dsimp only at h;split at h
  ·rename_i hq;cases h;have P:PI q p info:=⟨e⟩;have hg:=Zx3 hq.1 P;have R:RunI q p info (strm d q p.Steps info):=⟨P,hg.1,hg.2⟩;have hv:=P.val;refine ⟨R.last.2,?_⟩;have:=Zbb9 m (strm d q p.Steps info) bud p.Steps info 0 0 0 [];simp only [List.length_nil] at this;omega
  ·cases h
theorem spF_bd {m:Zj} {d:Zk} {q:Zd} {p:Plan} {mask bud:Int} {s:Za} {r:Bool×Int×Int×List Zf} (h:spF m d q p mask bud=some (s,r)):VS s∧r.2.2.2.length≤14:=by
 unfold spF at h;split at h
 ·exact rwbF_bd h
 ·cases h
theorem cnL_le {α:Type} (n:α→Nat) (b:Nat):∀ xs:List α,(∀ x∈xs,n x≤b)→cnL n xs≤b*xs.length
 | [],_=>by simp [cnL]
 | x::xs,h=>by
  have h1:=h x (by simp);have h2:=cnL_le n b xs fun y hy=>h y (by simp [hy])
  simp only [cnL,List.length_cons,Nat.mul_succ];omega
theorem VS.ans {s:Za} (h:VS s):SmA s.Vars∧SmL SmA (ansR s.Rows)∧Zo (ansR s.Rows)≤16384∧s.Vars.length≤4:=by
 have h4:=h.four;have hl:=h.len;have ha:=Z9h s.Rows;have hr:∀ r∈ansR s.Rows,r.length≤4:=fun r hr=>by
  have:=h.rows r ((Z9g s.Rows r).1 hr);unfold rwB at this;simp only [Bool.and_eq_true,decide_eq_true_eq] at this;omega
 have hn:=cnL_le Zbp 4 (ansR s.Rows) hr;refine ⟨by show s.Vars.length≤4294967296;omega,⟨by show (ansR s.Rows).length≤4294967296;omega,fun r hh=>by have:=hr r hh;show r.length≤4294967296;omega⟩,?_,h4⟩;unfold Zo;omega
theorem obs_bd {o:List Zf} (h:o.length≤14):SmA o∧Zv o≤42:=by
 have:=cnL_le Zd9 3 o fun _ _=>Nat.le_refl _
 refine ⟨by show o.length≤4294967296;omega,?_⟩;unfold Zv;omega
theorem ansR_nil {s:Za} (h:s.Rows=[]):ansR s.Rows=[]:=by
 have:=Z9h s.Rows;rw [h] at this ⊢;exact List.length_eq_zero_iff.1 (by simpa using this)
theorem runR_t11 {s:Za} {o:List Zf} (c st:Int) (e:o=[]) (r:s.Rows=[]):runR true s (true,c,st,o)=(.tup [.agg [Bo true,I c,I st,.t .nil,.own 0,.t .nil],Bo true],[.arr 3 1 true (s.Vars.map ic)]):=by simp [runR,e,r]
theorem runR_t10 {s:Za} {o:List Zf} (c st:Int) (e:o=[]) (r:¬ s.Rows=[]):runR true s (true,c,st,o)=(.tup [.agg [Bo true,I c,I st,.t .nil,.own 0,.own 1],Bo true],[.arr 3 1 true (s.Vars.map ic),.arr 30 1 true ((ansR s.Rows).map isc)]):=by simp [runR,e,r]
theorem runR_t01 {s:Za} {o:List Zf} (c st:Int) (e:¬ o=[]) (r:s.Rows=[]):runR true s (true,c,st,o)=(.tup [.agg [Bo true,I c,I st,.own 0,.own 1,.t .nil],Bo true],[.arr 211 3 true (o.map Zf.c),.arr 3 1 true (s.Vars.map ic)]):=by simp [runR,e,r]
theorem runR_t00 {s:Za} {o:List Zf} (c st:Int) (e:¬ o=[]) (r:¬ s.Rows=[]):runR true s (true,c,st,o)=(.tup [.agg [Bo true,I c,I st,.own 0,.own 1,.own 2],Bo true],[.arr 211 3 true (o.map Zf.c),.arr 3 1 true (s.Vars.map ic),.arr 30 1 true ((ansR s.Rows).map isc)]):=by simp [runR,e,r]
theorem Zbca {s:Za} {o:List Zf} (c st:Int) (e:o=[]):runR false s (true,c,st,o)=(.tup [.agg [Bo true,I c,I st,.t .nil,.own 0,.own 1],Bo true],[.arr 3 1 true (s.Vars.map ic),.arr 30 1 true ((ansR s.Rows).map isc)]):=by simp [runR,e]
theorem Zbcb {s:Za} {o:List Zf} (c st:Int) (e:¬ o=[]):runR false s (true,c,st,o)=(.tup [.agg [Bo true,I c,I st,.own 0,.own 1,.own 2],Bo true],[.arr 211 3 true (o.map Zf.c),.arr 3 1 true (s.Vars.map ic),.arr 30 1 true ((ansR s.Rows).map isc)]):=by simp [runR,e]
theorem Zbcc (m:Zj) (d:Zk) (q:Zd) (p:Plan) (k b:Int) (hm:m.okay) (hd:d.okay) (hq:q.okay) (hp:p.okay) (hk:OkI k) (hb:OkI b):C Zbcl [.agg (m.c.map .t),.agg (d.c.map .t),.agg (q.c.map .t),.agg (p.c.map .t),I k,I b] []=some (Bo true,[]):=by
 refine run Zbo0 rfl ?_;have e1:=fun l=>Zbrj m.Scan.Fixed m.Scan.Zp m.Scan.Zq m.Scan.Zr m.Scan.Zs m.Scan.Steps m.Sort_.Fixed m.Sort_.Zp m.Sort_.Zq m.Sort_.Zr m.Sort_.Zs m.Sort_.Steps m.Hash.Fixed m.Hash.Zp m.Hash.Zq m.Hash.Zr m.Hash.Zs m.Hash.Steps m.Merge.Fixed m.Merge.Zp m.Merge.Zq m.Merge.Zr m.Merge.Zs m.Merge.Steps m.Nested.Fixed m.Nested.Zp m.Nested.Zq m.Nested.Zr m.Nested.Zs m.Nested.Steps l
 by_cases h1:Zj.sz m (1048576)<0
 ·simp [Zdb,e1,h1]
 obtain ⟨b1,g1⟩:=Zj.sz_ok m _ hm (by omega) (by omega) (by omega:0≤Zj.sz m (1048576));have u1:=(Zj.ct m _ hm (by omega) (by omega) (by omega:0≤Zj.sz m (1048576))).2;unfold Zyu at u1;have e2:=fun l=>Zbqz d.Tables l (hd)
 by_cases h2:Zk.sz d (Zj.sz m (1048576))<0
 ·simp [Zdb,e1,h1,e2,h2]
 obtain ⟨b2,g2⟩:=Zk.sz_ok d _ hd (by omega) (by omega) (by omega:0≤Zk.sz d (Zj.sz m (1048576)));have u2:=(Zk.ct d _ hd (by omega) (by omega) (by omega:0≤Zk.sz d (Zj.sz m (1048576)))).2;unfold Zyq at u2;have e3:=fun l=>Zbq8 q.Zl q.Atoms l (hq.2)
 by_cases h3:Zd.sz q (Zk.sz d (Zj.sz m (1048576)))<0
 ·simp [Zdb,e1,h1,e2,h2,e3,h3]
 obtain ⟨b3,g3⟩:=Zd.sz_ok q _ hq (by omega) (by omega) (by omega:0≤Zd.sz q (Zk.sz d (Zj.sz m (1048576))));have u3:=(Zd.ct q _ hq (by omega) (by omega) (by omega:0≤Zd.sz q (Zk.sz d (Zj.sz m (1048576))))).2;unfold Zys at u3;have e4:=fun l=>c_szPlan p.Steps l
 by_cases h4:Plan.sz p (Zd.sz q (Zk.sz d (Zj.sz m (1048576))))<0
 ·simp [Zdb,e1,h1,e2,h2,e3,h3,e4,h4]
 obtain ⟨b4,g4⟩:=Plan.sz_ok p _ hp (by omega) (by omega) (by omega:0≤Plan.sz p (Zd.sz q (Zk.sz d (Zj.sz m (1048576)))));have u4:=(Plan.ct p _ hp (by omega) (by omega) (by omega:0≤Plan.sz p (Zd.sz q (Zk.sz d (Zj.sz m (1048576)))))).2;unfold Zyv at u4;have t1:=Zbrh m.Scan.Fixed m.Scan.Zp m.Scan.Zq m.Scan.Zr m.Scan.Zs m.Scan.Steps m.Sort_.Fixed m.Sort_.Zp m.Sort_.Zq m.Sort_.Zr m.Sort_.Zs m.Sort_.Steps m.Hash.Fixed m.Hash.Zp m.Hash.Zq m.Hash.Zr m.Hash.Zs m.Hash.Steps m.Merge.Fixed m.Merge.Zp m.Merge.Zq m.Merge.Zr m.Merge.Zs m.Merge.Steps m.Nested.Fixed m.Nested.Zp m.Nested.Zq m.Nested.Zr m.Nested.Zs m.Nested.Steps (g1.1) (g1.2.1) (g1.2.2.1) (g1.2.2.2.1) (g1.2.2.2.2);have q1:=fun y0 y1 y2 y3 y4 y5 y6 y7 y8 y9 y10 y11 y12 y13 y14 y15 y16 y17 y18 y19 y20 y21 y22 y23 y24 y25 y26 y27 y28 y29=>Zbri m.Scan.Fixed m.Scan.Zp m.Scan.Zq m.Scan.Zr m.Scan.Zs m.Scan.Steps m.Sort_.Fixed m.Sort_.Zp m.Sort_.Zq m.Sort_.Zr m.Sort_.Zs m.Sort_.Steps m.Hash.Fixed m.Hash.Zp m.Hash.Zq m.Hash.Zr m.Hash.Zs m.Hash.Steps m.Merge.Fixed m.Merge.Zp m.Merge.Zq m.Merge.Zr m.Merge.Zs m.Merge.Steps m.Nested.Fixed m.Nested.Zp m.Nested.Zq m.Nested.Zr m.Nested.Zs m.Nested.Steps y0 y1 y2 y3 y4 y5 y6 y7 y8 y9 y10 y11 y12 y13 y14 y15 y16 y17 y18 y19 y20 y21 y22 y23 y24 y25 y26 y27 y28 y29 (g1.1) (g1.2.1) (g1.2.2.1) (g1.2.2.2.1) (g1.2.2.2.2)
 have t2:=Zbqx d.Tables (g2);have q2:=fun y0=>Zbqy d.Tables y0 (g2)
 have t3:=Zbq6 q.Zl q.Atoms (g3);have q3:=fun y0 y1=>Zbq7 q.Zl q.Atoms y0 y1 (g3)
 have t4:=c_toPlan p.Steps (g4);have q4:=fun y0=>c_eqPlan p.Steps y0 (g4)
 have m1:=fun a0 a1 a2 a3 a4=>Zbsk a0 a1 a2 a3 a4 m.Scan.Fixed m.Scan.Zp m.Scan.Zq m.Scan.Zr m.Scan.Zs m.Scan.Steps m.Sort_.Fixed m.Sort_.Zp m.Sort_.Zq m.Sort_.Zr m.Sort_.Zs m.Sort_.Steps m.Hash.Fixed m.Hash.Zp m.Hash.Zq m.Hash.Zr m.Hash.Zs m.Hash.Steps m.Merge.Fixed m.Merge.Zp m.Merge.Zq m.Merge.Zr m.Merge.Zs m.Merge.Steps m.Nested.Fixed m.Nested.Zp m.Nested.Zq m.Nested.Zr m.Nested.Zs m.Nested.Steps (1) (by omega) (by omega) (g1.1) (g1.2.1) (g1.2.2.1) (g1.2.2.2.1) (g1.2.2.2.2)
 have m2:=fun a0=>Zbsj a0 d.Tables (1+(Zm m.Scan.Steps:Int)+(Zm m.Sort_.Steps:Int)+(Zm m.Hash.Steps:Int)+(Zm m.Merge.Steps:Int)+(Zm m.Nested.Steps:Int)) (by omega) (by omega) (g2)
 have m3:=fun a0=>Zbsm a0 q.Zl q.Atoms (1+(Zm m.Scan.Steps:Int)+(Zm m.Sort_.Steps:Int)+(Zm m.Hash.Steps:Int)+(Zm m.Merge.Steps:Int)+(Zm m.Nested.Steps:Int)+(Zbu d.Tables:Int)) (by omega) (by omega) (g3)
 have m4:=fun a0=>Zbsl a0 p.Steps (1+(Zm m.Scan.Steps:Int)+(Zm m.Sort_.Steps:Int)+(Zm m.Hash.Steps:Int)+(Zm m.Merge.Steps:Int)+(Zm m.Nested.Steps:Int)+(Zbu d.Tables:Int)+(Zb1 q.Atoms:Int)) (by omega) (by omega) (g4)
 have zk:¬ (1+(Zm m.Scan.Steps:Int)+(Zm m.Sort_.Steps:Int)+(Zm m.Hash.Steps:Int)+(Zm m.Merge.Steps:Int)+(Zm m.Nested.Steps:Int)+(Zbu d.Tables:Int)+(Zb1 q.Atoms:Int)+(Zcc p.Steps:Int)<0):=by omega
 have nm:LeM m:=⟨by have:=g1.1;omega,by have:=g1.2.1;omega,by have:=g1.2.2.1;omega,by have:=g1.2.2.2.1;omega,by have:=g1.2.2.2.2;omega⟩;have nq:LeQ q:=⟨by have:=g3.1;omega,fun x hx=>by have:=(g3.2 x hx).2;omega⟩;have nd:LeD d:=⟨by have:=g2.1;omega,fun t ht=>⟨by have:=(g2.2 t ht).2.1;omega,fun r hr=>by have:=(g2.2 t ht).2.2 r hr;omega⟩⟩;have s0:=Zboz nm nd nq p k b;have s1:=Zboy nm nd nq p k b;unfold Zpv at s0;unfold Zo5 at s1;simp only [Zj.c_def,Zk.c_def,Zd.c_def,Plan.c_def,List.map_cons,List.map_nil] at s0 s1;have en:=Zbsu;have ei:=Zbsv;have es:=Zbsw
 match ho:spF m d q p k b with
 | none =>
  rw [ho] at s0 s1;simp only [rwbR,noRun] at s0 s1;have qq:=Zho false 0 0 en ei es;have mm:=Zbb7 false 0 0 1;have hh:=Zbb8 false 0 0 1 (by omega)
  simp +decide [Zdb,e1,h1,e2,h2,e3,h3,e4,h4,t1,q1,t2,q2,t3,q3,t4,q4,m1,m2,m3,m4,zk,s0,s1,qq,mm,hh]
 | some (s,f,c,st,o) =>
  obtain ⟨V,ol⟩:=spF_bd ho;obtain ⟨a1,a2,a3,a4⟩:=V.ans;obtain ⟨o1,o2⟩:=obs_bd (o:=o) ol;have eo:=Zbrt o o o1;have ev:=Zyo s.Vars s.Vars a1;have er:=Zbbo (ansR s.Rows) (ansR s.Rows) a2;simp only [decide_true] at eo ev er;rw [ho] at s0 s1;simp only [rwbR] at s0 s1;clear ho
  cases f with
  | false =>
   by_cases e:o=[]
   ·simp only [runR,if_pos e] at s0 s1;have qq:=Zho false c st en ei es;have mm:=Zbb7 false c st 1;have hh:=Zbb8 false c st 1 (by omega);simp +decide [Zdb,e1,h1,e2,h2,e3,h3,e4,h4,t1,q1,t2,q2,t3,q3,t4,q4,m1,m2,m3,m4,zk,s0,s1,qq,mm,hh]
   ·simp only [runR,if_neg e] at s0 s1;have qq:=Zho false c st eo ei es;have mm:=fun a=>Zbsy a false c st o 1 (by omega) (by omega) o1
    have hh:=Zbs1 false c st o 1 (by omega) (by omega) o1;have z2:¬ (1+(Zv o:Int)<0):=by omega
    simp +decide [Zdb,e1,h1,e2,h2,e3,h3,e4,h4,t1,q1,t2,q2,t3,q3,t4,q4,m1,m2,m3,m4,zk,s0,s1,qq,mm,hh,z2]
  | true =>
   have z3:¬ (1+(s.Vars.length:Int)+(Zo (ansR s.Rows):Int)<0):=by omega
   have z4:¬ (1+(Zv o:Int)+(s.Vars.length:Int)+(Zo (ansR s.Rows):Int)<0):=by omega
   have mc:=fun a b=>Zbsz a b true c st s.Vars (ansR s.Rows) 1 (by omega) (by omega) a1 a2
   have hc:=Zbs2 true c st s.Vars (ansR s.Rows) 1 (by omega) (by omega) a1 a2;have md:=fun a b e=>Zbs0 a b e true c st o s.Vars (ansR s.Rows) 1 (by omega) (by omega) o1 a1 a2
   have hd':=Zbs3 true c st o s.Vars (ansR s.Rows) 1 (by omega) (by omega) o1 a1 a2;by_cases r:s.Rows=[]
   ·have e0:ansR s.Rows=[]:=ansR_nil r;have er':=Zbsx;by_cases e:o=[]
    ·rw [runR_t11 c st e r] at s0;rw [Zbca c st e] at s1;simp only [e0,tII,List.map_nil] at s1 mc md hc hd' z3 z4;have qq:=Zho true c st en ev er';simp +decide [Zdb,e1,h1,e2,h2,e3,h3,e4,h4,t1,q1,t2,q2,t3,q3,t4,q4,m1,m2,m3,m4,zk,s0,s1,qq,mc,hc,z3]
    ·rw [runR_t01 c st e r] at s0;rw [Zbcb c st e] at s1;simp only [e0,tII,List.map_nil] at s1 mc md hc hd' z3 z4;have qq:=Zho true c st eo ev er';simp +decide [Zdb,e1,h1,e2,h2,e3,h3,e4,h4,t1,q1,t2,q2,t3,q3,t4,q4,m1,m2,m3,m4,zk,s0,s1,qq,md,hd',z4]
   ·by_cases e:o=[]
    ·rw [runR_t10 c st e r] at s0;rw [Zbca c st e] at s1;have qq:=Zho true c st en ev er;simp +decide [Zdb,e1,h1,e2,h2,e3,h3,e4,h4,t1,q1,t2,q2,t3,q3,t4,q4,m1,m2,m3,m4,zk,s0,s1,qq,mc,hc,z3]
    ·rw [runR_t00 c st e r] at s0;rw [Zbcb c st e] at s1;have qq:=Zho true c st eo ev er;simp +decide [Zdb,e1,h1,e2,h2,e3,h3,e4,h4,t1,q1,t2,q2,t3,q3,t4,q4,m1,m2,m3,m4,zk,s0,s1,qq,md,hd',z4]
end Go.Proofs.YtgnfoghkbpkgjaaGreat
