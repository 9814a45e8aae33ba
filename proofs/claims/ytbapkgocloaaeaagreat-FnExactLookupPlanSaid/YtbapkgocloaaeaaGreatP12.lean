/-
  Parts of the proofs for this seat: G8 G9 G10 G11 G12 G13 G14 G15.
-/
import Derived.Test.YtbapkgocloaaeaaGreatP10
set_option linter.unusedSimpArgs false
set_option linter.unusedVariables false
set_option maxRecDepth 100000
set_option maxHeartbeats 4000000
/- part: G8 -/
namespace Go.Proofs.YtbapkgocloaaeaaGreat
open Go.AM
theorem Z3v (Mask:Int) (Order:Int) (Cost:Int) (best:Za) (fr:Bool) (x:List Za) (x1:Int) (x2:Int) (r:AV×List Blk) (h:(if x2<x1 then (0≤x2∧(∃ (e1:Za),x[x2.toNat]?=some e1∧(if e1.Cost<best.Cost then (Zgh Mask Order Cost e1 fr x x1 (w (x2+1))=some r) else (Zgh Mask Order Cost best fr x x1 (w (x2+1))=some r)))) else (some (.agg (best.c.map .t),[.arr 174 4 fr (x.map Za.c)])=some r))):Zgh Mask Order Cost best fr x x1 x2=some r:=by
 unfold Zgh
 rw [EvL_eq Zll.eq_1]
 try simp only [itb] at h
 try simp only [itf,List.getElem?_eq_some_iff,kk] at h
 rcases h with ⟨q1,q2,e1,⟨g3,q3⟩,(⟨q4,h⟩ | ⟨q4,h⟩)⟩ | ⟨q1,h⟩
 all_goals (refine Eq.trans ?_ h;clear h;simp +decide [*,kk,Zgh,Zsj,Zlm])
theorem Zbgn (fr:Bool) (x:List Za) (r:AV×List Blk) (h:(∃ (e1:Za),x[0]?=some e1∧(Zgh 0 0 0 e1 fr x (x.length:Int) 0=some r))):Zlq fr x=some r:=by
 unfold Zlq
 refine runM Z2p rfl ?_
 try simp only [itb] at h
 try simp only [itf,List.getElem?_eq_some_iff,kk] at h
 rcases h with ⟨e1,⟨g1,q1⟩,h⟩
 all_goals (refine Eq.trans ?_ h;clear h;simp +decide [*,kk,Zsk,Zgh])
theorem Z3w (Mask:Int) (Order:Int) (Cost:Int) (fr:Bool) (x:List Za) (mask:Int) (x1:List Za) (x2:Int) (x3:Int) (r:AV×List Blk) (h:(if x3<x2 then (0≤x3∧(∃ (e1:Za),x1[x3.toNat]?=some e1∧(if e1.Mask=mask then (x.length+1≤68719476736∧(Zgi Mask Order Cost false (x++[e1]) mask x1 x2 (w (x3+1))=some r)) else (Zgi Mask Order Cost fr x mask x1 x2 (w (x3+1))=some r)))) else (if (x.length:Int)=0 then (some (.tup [.agg [I 0,I 0,I 0,.t .nil],Bo false],[])=some r) else (∃ (v2_0:Za),Zlq fr x=some (.agg (v2_0.c.map .t),[.arr 174 4 fr (x.map Za.c)])∧(∃ (v3_0:List Zc),Zcg v2_0.Plan=some (.agg [.own 0],[.arr 142 3 true (v3_0.map Zc.c)])∧(some (.tup [.agg [I v2_0.Mask,I v2_0.Order,I v2_0.Cost,.own 0],Bo true],[.arr 142 3 true (v3_0.map Zc.c)])=some r)))))):Zgi Mask Order Cost fr x mask x1 x2 x3=some r:=by
 unfold Zgi
 rw [EvL_eq Zsv.eq_1]
 simp only [Zlq,Zcg,Plan.c_def,Za.c_def,mpl,dfs] at h
 try simp only [itb] at h
 try simp only [itf,List.getElem?_eq_some_iff,kk] at h
 rcases h with ⟨q1,q2,e1,⟨g3,q3⟩,(⟨q4,q5,h⟩ | ⟨q4,h⟩)⟩ | ⟨q1,(⟨q6,h⟩ | ⟨q6,v2_0,q7,v3_0,q8,h⟩)⟩
 all_goals (refine Eq.trans ?_ h;clear h;simp +decide [*,kk,Zgi,Zzx,Zsw])
theorem Zbgo (a:List Za) (a1:Int) (r:AV×List Blk) (h:(Zgi 0 0 0 true ([]:List Za) a1 a (a.length:Int) 0=some r)):Zjv a a1=some r:=by
 unfold Zjv
 refine run Zbcv rfl ?_
 refine Eq.trans ?_ h;clear h;simp +decide [*,kk,Zzy,Zgi]
theorem Zbgp (a:Zd) (a1:Zb) (a2:List Int) (r:AV×List Blk) (h:((Zju a a1 a2=some (.t .nil,[])∧(∃ (v2_0:Int),Zb6 a1=some (I v2_0,[])∧((∃ (v3_0:Int) (v3_1:Int) (v3_2:Int),Zsu v2_0=some (.tup [.agg [I v3_0,I v3_1,I v3_2,.t .nil],Bo false],[])∧(some (.tup [.agg [I v3_0,I v3_1,I v3_2,.t .nil],Bo false],[])=some r))∨(∃ (v4_0:List Zc) (v4_1:Int) (v4_2:Int) (v4_3:Int),Zsu v2_0=some (.tup [.agg [I v4_1,I v4_2,I v4_3,.own 0],Bo true],[.arr 142 3 true (v4_0.map Zc.c)])∧(some (.tup [.agg [I v4_1,I v4_2,I v4_3,.own 0],Bo true],[.arr 142 3 true (v4_0.map Zc.c)])=some r)))))∨(∃ (v5_0:Bool) (v5_1:List Za),Zju a a1 a2=some (.own 0,[.arr 174 4 v5_0 (v5_1.map Za.c)])∧(∃ (v6_0:Int),Zb6 a1=some (I v6_0,[])∧((∃ (v7_0:Int) (v7_1:Int) (v7_2:Int),Zjv v5_1 v6_0=some (.tup [.agg [I v7_0,I v7_1,I v7_2,.t .nil],Bo false],[])∧(some (.tup [.agg [I v7_0,I v7_1,I v7_2,.t .nil],Bo false],[])=some r))∨(∃ (v8_0:List Zc) (v8_1:Int) (v8_2:Int) (v8_3:Int),Zjv v5_1 v6_0=some (.tup [.agg [I v8_1,I v8_2,I v8_3,.own 0],Bo true],[.arr 142 3 true (v8_0.map Zc.c)])∧(some (.tup [.agg [I v8_1,I v8_2,I v8_3,.own 0],Bo true],[.arr 142 3 true (v8_0.map Zc.c)])=some r))))))):Zjw a a1 a2=some r:=by
 unfold Zjw
 refine run Zbcw rfl ?_
 simp only [Zju,Zb6,Zsu,Zjv,Zd.c_def,Zi.c_def,Plan.c_def,Za.c_def,Zb.c_def,mpl,dfs] at h
 rcases h with ⟨q2,v2_0,q3,(⟨v3_0,v3_1,v3_2,q5,h⟩ | ⟨v4_0,v4_1,v4_2,v4_3,q6,h⟩)⟩ | ⟨v5_0,v5_1,q7,v6_0,q8,(⟨v7_0,v7_1,v7_2,q10,h⟩ | ⟨v8_0,v8_1,v8_2,v8_3,q11,h⟩)⟩
 all_goals (refine Eq.trans ?_ h;clear h;simp +decide [*,kk,Zzz])
theorem Zbgq (a:Zd) (a1:Zb) (a2:List Int) (r:AV×List Blk) (h:((∃ (v1_0:Int) (v1_1:Int) (v1_2:Int),Zjw a a1 a2=some (.tup [.agg [I v1_0,I v1_1,I v1_2,.t .nil],Bo false],[])∧(some (I (-1),[])=some r))∨(∃ (v2_0:List Zc) (v2_1:Int) (v2_2:Int) (v2_3:Int),Zjw a a1 a2=some (.tup [.agg [I v2_1,I v2_2,I v2_3,.own 0],Bo true],[.arr 142 3 true (v2_0.map Zc.c)])∧(some (I v2_3,[])=some r)))):Zlr a a1 a2=some r:=by
 unfold Zlr
 refine run Zbcx rfl ?_
 simp only [Zjw,Zd.c_def,Zi.c_def,Zb.c_def,mpl,dfs] at h
 rcases h with ⟨v1_0,v1_1,v1_2,q2,h⟩ | ⟨v2_0,v2_1,v2_2,v2_3,q3,h⟩
 all_goals (refine Eq.trans ?_ h;clear h;simp +decide [*,kk,Zz0])
theorem Zbgr (a:Zd) (a1:Zb) (a2:List Int) (r:AV×List Blk) (h:((∃ (v1_0:List Int),Zfc a2=some (.own 0,[.arr 3 1 true (v1_0.map ic)])∧(∃ (v2_0:Int),Zlr a a1 v1_0=some (I v2_0,[])∧(some (I v2_0,[])=some r)))∨(Zfc a2=some (.t .nil,[])∧(∃ (v4_0:Int),Zz1 a a1=some (I v4_0,[])∧(some (I v4_0,[])=some r))))):Zls a a1 a2=some r:=by
 unfold Zls
 refine run Zbcy rfl ?_
 simp only [Zfc,Zlr,Zz1,Zd.c_def,Zi.c_def,Zb.c_def,mpl,dfs] at h
 rcases h with ⟨v1_0,q2,v2_0,q3,h⟩ | ⟨q4,v4_0,q5,h⟩
 all_goals (refine Eq.trans ?_ h;clear h;simp +decide [*,kk,Zz2])
theorem Zbgs (a:Zd) (a1:Zb) (a2:Region) (r:AV×List Blk) (h:(∃ (v1_0:Int),Zli a a1 a2.Plan a2.Box.High=some (I v1_0,[])∧(∃ (v2_0:Int),Zls a a1 a2.Box.Low=some (I v2_0,[])∧(some (Bo (decide ((w (100*v1_0))≤(w (a2.Percent*v2_0)))),[])=some r)))):Zdy a a1 a2=some r:=by
 unfold Zdy
 refine run Zbcz rfl ?_
 simp only [Zli,Zls,Zd.c_def,Zi.c_def,Plan.c_def,Zb.c_def,mpl,dfs] at h
 rcases h with ⟨v1_0,q1,v2_0,q2,h⟩
 all_goals (refine Eq.trans ?_ h;clear h;simp +decide [*,kk,Zz3])
theorem Zbgt (a:Zd) (a1:Zb) (a2:Region) (r:AV×List Blk) (h:(∃ (v1_0:Bool),Zld a a1 a2=some (Bo v1_0,[])∧(if v1_0=true then (∃ (v2_0:Bool),Zdy a a1 a2=some (Bo v2_0,[])∧(some (Bo v2_0,[])=some r)) else (some (Bo false,[])=some r)))):Zlt a a1 a2=some r:=by
 unfold Zlt
 refine run Zbc0 rfl ?_
 simp only [Zld,Zdy,Box.c_def,Zd.c_def,Zi.c_def,Plan.c_def,Zb.c_def,Region.c_def,mpl,dfs] at h
 try simp only [itb] at h
 try simp only [itf,List.getElem?_eq_some_iff,kk] at h
 rcases h with ⟨v1_0,q1,(⟨q2,v2_0,q3,h⟩ | ⟨q2,h⟩)⟩
 all_goals (refine Eq.trans ?_ h;clear h;simp +decide [*,kk,Zz4])
theorem Zbgu (a:Zd) (a1:Int) (r:AV×List Blk) (h:(if a1=1 then (some (.agg (a.Scan.c.map .t),[])=some r) else (if a1=2 then (some (.agg (a.Sort_.c.map .t),[])=some r) else (if a1=3 then (some (.agg (a.Hash.c.map .t),[])=some r) else (if a1=4 then (some (.agg (a.Merge.c.map .t),[])=some r) else (some (.agg (a.Nested.c.map .t),[])=some r)))))):Zcp a a1=some r:=by
 unfold Zcp
 refine run Zbc1 rfl ?_
 try simp only [itb] at h
 try simp only [itf,List.getElem?_eq_some_iff,kk] at h
 rcases h with ⟨q1,h⟩ | ⟨q1,(⟨q2,h⟩ | ⟨q2,(⟨q3,h⟩ | ⟨q3,(⟨q4,h⟩ | ⟨q4,h⟩)⟩)⟩)⟩
 all_goals (refine Eq.trans ?_ h;clear h;simp +decide [*,kk,Zz5])
theorem Zbgv (a:Int) (a1:Int) (a2:Int) (r:AV×List Blk) (h:(if a1≤a then (some (Bo (decide (a≤a2)),[])=some r) else (some (Bo false,[])=some r))):Z1 a a1 a2=some r:=by
 unfold Z1
 refine run Zbc2 rfl ?_
 try simp only [itb] at h
 try simp only [itf,List.getElem?_eq_some_iff,kk] at h
 rcases h with ⟨q1,h⟩ | ⟨q1,h⟩
 all_goals (refine Eq.trans ?_ h;clear h;simp +decide [*,kk,Zz6])
theorem Zbgw (a:Int) (r:AV×List Blk) (h:(∃ (v1_0:Bool),Z1 a (-99) 99=some (Bo v1_0,[])∧(some (Bo v1_0,[])=some r))):Zdz a=some r:=by
 unfold Zdz
 refine run Zbc3 rfl ?_
 simp only [Z1,mpl,dfs] at h
 rcases h with ⟨v1_0,q1,h⟩
 all_goals (refine Eq.trans ?_ h;clear h;simp +decide [*,kk,Zz7])
theorem Z3x (o:Zi) (i:Int) (r:AV×List Blk) (h:(if i<(o.Steps.length:Int) then (0≤i∧(∃ (e1:Zg),o.Steps[i.toNat]?=some e1∧(∃ (v2_0:Bool),Z1 e1.From 1 8192=some (Bo v2_0,[])∧(if v2_0=true then (∃ (v3_0:Bool),Zdz e1.Add=some (Bo v3_0,[])∧(if v3_0=true then (if 0<i then (0≤(w (i - 1))∧(∃ (e4:Zg),o.Steps[(w (i - 1)).toNat]?=some e4∧(if e1.From≤e4.From then (some (Bo false,[])=some r) else (Zfg o (w (i+1))=some r)))) else (Zfg o (w (i+1))=some r)) else (some (Bo false,[])=some r))) else (some (Bo false,[])=some r))))) else (some (Bo true,[])=some r))):Zfg o i=some r:=by
 unfold Zfg
 rw [EvL_eq Zsx.eq_1]
 simp only [Z1,Zdz,mpl,dfs] at h
 try simp only [itb] at h
 try simp only [itf,List.getElem?_eq_some_iff,kk] at h
 rcases h with ⟨q1,q2,e1,⟨g3,q3⟩,v2_0,q4,(⟨q5,v3_0,q6,(⟨q7,(⟨q8,q9,e4,⟨g10,q10⟩,(⟨q11,h⟩ | ⟨q11,h⟩)⟩ | ⟨q8,h⟩)⟩ | ⟨q7,h⟩)⟩ | ⟨q5,h⟩)⟩ | ⟨q1,h⟩
 all_goals (refine Eq.trans ?_ h;clear h;simp +decide [*,kk,Zfg,Zsy])
theorem Zbgx (a:Zi) (r:AV×List Blk) (h:(∃ (v1_0:Bool),Zdz a.Fixed=some (Bo v1_0,[])∧(if v1_0=true then (∃ (v2_0:Bool),Zdz a.Zj=some (Bo v2_0,[])∧(if v2_0=true then (∃ (v3_0:Bool),Zdz a.Zk=some (Bo v3_0,[])∧(if v3_0=true then (∃ (v4_0:Bool),Zdz a.Zm=some (Bo v4_0,[])∧(if v4_0=true then (∃ (v5_0:Bool),Zdz a.Zl=some (Bo v5_0,[])∧(if v5_0=true then (if 4<(a.Steps.length:Int) then (some (Bo false,[])=some r) else (Zfg a 0=some r)) else (some (Bo false,[])=some r))) else (some (Bo false,[])=some r))) else (some (Bo false,[])=some r))) else (some (Bo false,[])=some r))) else (some (Bo false,[])=some r)))):Zem a=some r:=by
 unfold Zem
 refine run Zbc4 rfl ?_
 simp only [Zdz,mpl,dfs] at h
 try simp only [itb] at h
 try simp only [itf,List.getElem?_eq_some_iff,kk] at h
 rcases h with ⟨v1_0,q1,(⟨q2,v2_0,q3,(⟨q4,v3_0,q5,(⟨q6,v4_0,q7,(⟨q8,v5_0,q9,(⟨q10,(⟨q11,h⟩ | ⟨q11,h⟩)⟩ | ⟨q10,h⟩)⟩ | ⟨q8,h⟩)⟩ | ⟨q6,h⟩)⟩ | ⟨q4,h⟩)⟩ | ⟨q2,h⟩)⟩
 all_goals (refine Eq.trans ?_ h;clear h;simp +decide [*,kk,Zz8,Zfg])
theorem Zbgy (k:Int) (n:Int) (i:Int) (r:AV×List Blk) (h:(if i<k then (Zgj k (if 1<(w (n*4)) then (w (n*4)) else 1) (w (i+1))=some r) else (some (I n,[])=some r))):Zgj k n i=some r:=by
 unfold Zgj
 rw [EvL_eq Zsz.eq_1]
 try simp only [itb] at h
 try simp only [itf,List.getElem?_eq_some_iff,kk] at h
 rcases h with ⟨q1,h⟩ | ⟨q1,h⟩
 all_goals (refine Eq.trans ?_ h;clear h;simp +decide [*,kk,Zgj,Zs0])
theorem Zbgz (a:Int) (r:AV×List Blk) (h:(∃ (v1_0:Bool),Z1 a 0 7=some (Bo v1_0,[])∧(if v1_0=true then (Zgj a 0 0=some r) else (some (I (-1),[])=some r)))):Zfh a=some r:=by
 unfold Zfh
 refine run Zbc5 rfl ?_
 simp only [Z1,mpl,dfs] at h
 try simp only [itb] at h
 try simp only [itf,List.getElem?_eq_some_iff,kk] at h
 rcases h with ⟨v1_0,q1,(⟨q2,h⟩ | ⟨q2,h⟩)⟩
 all_goals (refine Eq.trans ?_ h;clear h;simp +decide [*,kk,Zz9,Zgj])
theorem Z3y (o:Zi) (l:Int) (r_1:Int) (n:Int) (i:Int) (r:AV×List Blk) (h:(if i<(o.Steps.length:Int) then (0≤i∧(∃ (e1:Zg),o.Steps[i.toNat]?=some e1∧(if e1.From≤(w (l+r_1)) then (Zfi o l r_1 (w (n+e1.Add)) (w (i+1))=some r) else (Zfi o l r_1 n (w (i+1))=some r)))) else (some (I n,[])=some r))):Zfi o l r_1 n i=some r:=by
 unfold Zfi
 rw [EvL_eq Zs1.eq_1]
 try simp only [itb] at h
 try simp only [itf,List.getElem?_eq_some_iff,kk] at h
 rcases h with ⟨q1,q2,e1,⟨g3,q3⟩,(⟨q4,h⟩ | ⟨q4,h⟩)⟩ | ⟨q1,h⟩
 all_goals (refine Eq.trans ?_ h;clear h;simp +decide [*,kk,Zfi,Z0a,Zs2])
theorem Zbg0 (a:Zi) (a1:Int) (a2:Int) (a3:Int) (r:AV×List Blk) (h:(∃ (v1_0:Bool),Zem a=some (Bo v1_0,[])∧(if v1_0=true then (∃ (v2_0:Bool),Z1 a1 0 4096=some (Bo v2_0,[])∧(if v2_0=true then (∃ (v3_0:Bool),Z1 a2 0 4096=some (Bo v3_0,[])∧(if v3_0=true then (∃ (v4_0:Bool),Z1 a3 0 4096=some (Bo v4_0,[])∧(if v4_0=true then (Zfi a a1 a2 (w ((w ((w ((w (a.Fixed+(w (a.Zj*a1))))+(w (a.Zk*a2))))+(w (a.Zm*a3))))+(w ((w (a.Zl*a1))*a2)))) 0=some r) else (some (I 0,[])=some r))) else (some (I 0,[])=some r))) else (some (I 0,[])=some r))) else (some (I 0,[])=some r)))):Zbw a a1 a2 a3=some r:=by
 unfold Zbw
 refine run Zbc6 rfl ?_
 simp only [Zem,Z1,Zi.c_def,mpl,dfs] at h
 try simp only [itb] at h
 try simp only [itf,List.getElem?_eq_some_iff,kk] at h
 rcases h with ⟨v1_0,q1,(⟨q2,v2_0,q3,(⟨q4,v3_0,q5,(⟨q6,v4_0,q7,(⟨q8,h⟩ | ⟨q8,h⟩)⟩ | ⟨q6,h⟩)⟩ | ⟨q4,h⟩)⟩ | ⟨q2,h⟩)⟩
 all_goals (refine Eq.trans ?_ h;clear h;simp +decide [*,kk,Z0b,Zfi])
theorem Zbg1 (a:Zi) (a1:List Int) (r:AV×List Blk) (h:(∃ (e1:Int),a1[0]?=some e1∧(∃ (v2_0:Int),Zfh e1=some (I v2_0,[])∧(∃ (e3:Int),a1[1]?=some e3∧(∃ (v4_0:Int),Zfh e3=some (I v4_0,[])∧(∃ (e5:Int),a1[2]?=some e5∧(∃ (v6_0:Int),Zfh e5=some (I v6_0,[])∧(∃ (v7_0:Int),Zbw a v2_0 v4_0 v6_0=some (I v7_0,[])∧(some (I v7_0,[])=some r))))))))):Zgk a a1=some r:=by
 unfold Zgk
 refine run Zbc7 rfl ?_
 simp only [Zfh,Zbw,Zi.c_def,mpl,dfs] at h
 try simp only [itb] at h
 try simp only [itf,List.getElem?_eq_some_iff,kk] at h
 rcases h with ⟨e1,⟨g1,q1⟩,v2_0,q2,e3,⟨g3,q3⟩,v4_0,q4,e5,⟨g5,q5⟩,v6_0,q6,v7_0,q7,h⟩
 all_goals (refine Eq.trans ?_ h;clear h;simp +decide [*,kk,Z0c])
theorem Z3z (o:Zi) (a:Int) (r:AV×List Blk) (h:(if a≤7 then (Zgm o a 0=some r) else (some (.tup [.own 0,.own 1,Bo false],[.arr 3 1 true (([]:List Int).map ic),.arr 3 1 true (([]:List Int).map ic)])=some r))):Zgl o a=some r:=by
 unfold Zgl
 rw [EvL_eq Zjx.eq_1]
 try simp only [itb] at h
 try simp only [itf,List.getElem?_eq_some_iff,kk] at h
 rcases h with ⟨q1,h⟩ | ⟨q1,h⟩
 all_goals (refine Eq.trans ?_ h;clear h;simp +decide [*,kk,Zgm,Zjy])
theorem Z30 (o:Zi) (a:Int) (b:Int) (r:AV×List Blk) (h:(if b≤7 then (Zgn o a b 0=some r) else (Zgl o (w (a+1))=some r))):Zgm o a b=some r:=by
 unfold Zgm
 rw [EvL_eq Zlu.eq_1]
 try simp only [itb] at h
 try simp only [itf,List.getElem?_eq_some_iff,kk] at h
 rcases h with ⟨q1,h⟩ | ⟨q1,h⟩
 all_goals (refine Eq.trans ?_ h;clear h;simp +decide [*,kk,Zgn,Zgl,Zlv])
theorem Z31 (o:Zi) (a:Int) (b:Int) (e:Int) (r:AV×List Blk) (h:(if e≤7 then (Zd0 o ([a,b,e]) a b e 0=some r) else (Zgm o a (w (b+1))=some r))):Zgn o a b e=some r:=by
 unfold Zgn
 rw [EvL_eq Zoy.eq_1]
 try simp only [itb] at h
 try simp only [itf,List.getElem?_eq_some_iff,kk] at h
 rcases h with ⟨q1,h⟩ | ⟨q1,h⟩
 all_goals (refine Eq.trans ?_ h;clear h;simp +decide [*,kk,Zd0,Zgm,Zoz])
theorem Z32 (o:Zi) (x:List Int) (a:Int) (b:Int) (e:Int) (k:Int) (r:AV×List Blk) (h:(if k<3 then (x.length≤68719476736∧(0≤k∧(∃ (e1:Int),x[k.toNat]?=some e1∧(if (w (e1+1))≤7 then (∃ (v2_0:Int),Zgk o (x.set k.toNat (w (e1+1)))=some (I v2_0,[])∧(∃ (v3_0:Int),Zgk o x=some (I v3_0,[])∧(if v2_0<v3_0 then (some (.tup [.own 0,.own 1,Bo true],[.arr 3 1 true (x.map ic),.arr 3 1 true ((x.set k.toNat (w (e1+1))).map ic)])=some r) else (Zd0 o x a b e (w (k+1))=some r)))) else (Zd0 o x a b e (w (k+1))=some r))))) else (Zgn o a b (w (e+1))=some r))):Zd0 o x a b e k=some r:=by
 unfold Zd0
 rw [EvL_eq Zs3.eq_1]
 simp only [Zgk,Zi.c_def,mpl,dfs] at h
 try simp only [itb] at h
 try simp only [itf,List.getElem?_eq_some_iff,kk] at h
 rcases h with ⟨q1,q2,q3,e1,⟨g4,q4⟩,(⟨q5,v2_0,q6,v3_0,q7,(⟨q8,h⟩ | ⟨q8,h⟩)⟩ | ⟨q5,h⟩)⟩ | ⟨q1,h⟩
 all_goals (refine Eq.trans ?_ h;clear h;simp +decide [*,kk,Zd0,Zgn,Zs4])
theorem Zbg2 (a:Zi) (r:AV×List Blk) (h:(∃ (v1_0:Bool),Zem a=some (Bo v1_0,[])∧(if v1_0=true then (Zgl a 0=some r) else (some (.tup [.own 0,.own 1,Bo false],[.arr 3 1 true (([]:List Int).map ic),.arr 3 1 true (([]:List Int).map ic)])=some r)))):Zlw a=some r:=by
 unfold Zlw
 refine run Zbc8 rfl ?_
 simp only [Zem,Zi.c_def,mpl,dfs] at h
 try simp only [itb] at h
 try simp only [itf,List.getElem?_eq_some_iff,kk] at h
 rcases h with ⟨v1_0,q1,(⟨q2,h⟩ | ⟨q2,h⟩)⟩
 all_goals (refine Eq.trans ?_ h;clear h;simp +decide [*,kk,Z0d,Zgl])
theorem Z33 (o:Zi) (a:Int) (r:AV×List Blk) (h:(if a≤7 then (Zgp o a 0=some r) else (some (.own 0,[.arr 3 1 true (([]:List Int).map ic)])=some r))):Zgo o a=some r:=by
 unfold Zgo
 rw [EvL_eq Zlx.eq_1]
 try simp only [itb] at h
 try simp only [itf,List.getElem?_eq_some_iff,kk] at h
 rcases h with ⟨q1,h⟩ | ⟨q1,h⟩
 all_goals (refine Eq.trans ?_ h;clear h;simp +decide [*,kk,Zgp,Zly])
theorem Z34 (o:Zi) (a:Int) (b:Int) (r:AV×List Blk) (h:(if b≤7 then (Zh9 o a b 0=some r) else (Zgo o (w (a+1))=some r))):Zgp o a b=some r:=by
 unfold Zgp
 rw [EvL_eq Zo0.eq_1]
 try simp only [itb] at h
 try simp only [itf,List.getElem?_eq_some_iff,kk] at h
 rcases h with ⟨q1,h⟩ | ⟨q1,h⟩
 all_goals (refine Eq.trans ?_ h;clear h;simp +decide [*,kk,Zh9,Zgo,Zo1])
theorem Zu6 (o:Zi) (a:Int) (b:Int) (e:Int) (r:AV×List Blk) (h:(if e≤7 then (∃ (v1_0:Int),Zgk o ([a,b,e])=some (I v1_0,[])∧(if v1_0<1 then (some (.own 0,[.arr 3 1 true (([a,b,e]).map ic)])=some r) else (Zh9 o a b (w (e+1))=some r))) else (Zgp o a (w (b+1))=some r))):Zh9 o a b e=some r:=by
 unfold Zh9
 rw [EvL_eq Zs5.eq_1]
 simp only [Zgk,Zi.c_def,mpl,dfs] at h
 try simp only [itb] at h
 try simp only [itf,List.getElem?_eq_some_iff,kk] at h
 rcases h with ⟨q1,v1_0,q2,(⟨q3,h⟩ | ⟨q3,h⟩)⟩ | ⟨q1,h⟩
 all_goals (refine Eq.trans ?_ h;clear h;simp +decide [*,kk,Zh9,Zgp,Zs6])
theorem Zbg3 (a:Zi) (r:AV×List Blk) (h:(Zgo a 0=some r)):Zlz a=some r:=by
 unfold Zlz
 refine run Zbc9 rfl ?_
 refine Eq.trans ?_ h;clear h;simp +decide [*,kk,Z0e,Zgo]
theorem Z35 (m:Zd) (k:Int) (r:AV×List Blk) (h:(if k≤5 then (∃ (v1_0:Zi),Zcp m k=some (.agg (v1_0.c.map .t),[])∧(∃ (v2_0:Bool),Zem v1_0=some (Bo v2_0,[])∧(if v2_0=true then (∃ (v3_0:List Int) (v3_1:List Int) (v3_2:Bool),Zlw v1_0=some (.tup [.own 0,.own 1,Bo v3_2],[.arr 3 1 true (v3_0.map ic),.arr 3 1 true (v3_1.map ic)])∧(if v3_2=true then (some (.tup [I k,.own 0,.own 1],[.arr 3 1 true (v3_0.map ic),.arr 3 1 true (v3_1.map ic)])=some r) else (∃ (v4_0:List Int),Zlz v1_0=some (.own 0,[.arr 3 1 true (v4_0.map ic)])∧(if 0<(v4_0.length:Int) then (some (.tup [I k,.own 0,.own 1],[.arr 3 1 true (v4_0.map ic),.arr 3 1 true (([]:List Int).map ic)])=some r) else (Zgq m (w (k+1))=some r))))) else (some (.tup [I k,.own 0,.own 1],[.arr 3 1 true (([]:List Int).map ic),.arr 3 1 true (([]:List Int).map ic)])=some r)))) else (some (.tup [I 0,.own 0,.own 1],[.arr 3 1 true (([]:List Int).map ic),.arr 3 1 true (([]:List Int).map ic)])=some r))):Zgq m k=some r:=by
 unfold Zgq
 rw [EvL_eq Zs7.eq_1]
 simp only [Zcp,Zem,Zlw,Zlz,Zd.c_def,Zi.c_def,mpl,dfs] at h
 try simp only [itb] at h
 try simp only [itf,List.getElem?_eq_some_iff,kk] at h
 rcases h with ⟨q1,v1_0,q2,v2_0,q3,(⟨q4,v3_0,v3_1,v3_2,q5,(⟨q6,h⟩ | ⟨q6,v4_0,q7,(⟨q8,h⟩ | ⟨q8,h⟩)⟩)⟩ | ⟨q4,h⟩)⟩ | ⟨q1,h⟩
 all_goals (refine Eq.trans ?_ h;clear h;simp +decide [*,kk,Zgq,Zs8])
theorem Zbg4 (a:Zd) (r:AV×List Blk) (h:(Zgq a 1=some r)):Zo2 a=some r:=by
 unfold Zo2
 refine run Zbda rfl ?_
 refine Eq.trans ?_ h;clear h;simp +decide [*,kk,Z0f,Zgq]
end Go.Proofs.YtbapkgocloaaeaaGreat
/- part: G9 -/
namespace Go.Proofs.YtbapkgocloaaeaaGreat
open Go.AM
theorem Zbg5 (a:Zd) (r:AV×List Blk) (h:(∃ (v1_0:List Int) (v1_1:List Int) (v1_2:Int),Zo2 a=some (.tup [I v1_2,.own 0,.own 1],[.arr 3 1 true (v1_0.map ic),.arr 3 1 true (v1_1.map ic)])∧(some (Bo (decide (v1_2=0)),[])=some r))):Zl0 a=some r:=by
 unfold Zl0
 refine run Zbdb rfl ?_
 simp only [Zo2,Zd.c_def,Zi.c_def,mpl,dfs] at h
 rcases h with ⟨v1_0,v1_1,v1_2,q1,h⟩
 all_goals (refine Eq.trans ?_ h;clear h;simp +decide [*,kk,Z0g])
theorem Zbg6 (a:ByteArray) (r:AV×List Blk) (h:(if (a.size:Int)=1 then (∃ (b1:UInt8),a[0]?=some b1∧(if 97≤(b1.toNat:Int) then (some (Bo (decide ((b1.toNat:Int)≤122)),[])=some r) else (some (Bo false,[])=some r))) else (some (Bo false,[])=some r))):Zl1 a=some r:=by
 unfold Zl1
 refine run Zbdc rfl ?_
 try simp only [itb] at h
 try simp only [itf,List.getElem?_eq_some_iff,kk] at h
 rcases h with ⟨q1,b1,q2,(⟨q3,h⟩ | ⟨q3,h⟩)⟩ | ⟨q1,h⟩
 all_goals (refine Eq.trans ?_ h;clear h;simp +decide [*,kk,Z0h])
theorem Z36 (l:List Int) (x:Int) (i:Int) (r:AV×List Blk) (h:(if i<(l.length:Int) then (0≤i∧(∃ (e1:Int),l[i.toNat]?=some e1∧(if e1=x then (some (Bo true,[])=some r) else (Zib l x (w (i+1))=some r)))) else (some (Bo false,[])=some r))):Zib l x i=some r:=by
 unfold Zib
 rw [EvL_eq Zs9.eq_1]
 try simp only [itb] at h
 try simp only [itf,List.getElem?_eq_some_iff,kk] at h
 rcases h with ⟨q1,q2,e1,⟨g3,q3⟩,(⟨q4,h⟩ | ⟨q4,h⟩)⟩ | ⟨q1,h⟩
 all_goals (refine Eq.trans ?_ h;clear h;simp +decide [*,kk,Zib,Zta])
theorem Zbg7 (a:List Int) (a1:Int) (r:AV×List Blk) (h:(Zib a a1 0=some r)):Zia a a1=some r:=by
 unfold Zia
 refine run Zbdd rfl ?_
 refine Eq.trans ?_ h;clear h;simp +decide [*,kk,Z0i,Zib]
theorem Z37 (q:Zb) (seen:Int) (i:Int) (r:AV×List Blk) (h:(if i<(q.Atoms.length:Int) then (0≤i∧(∃ (e1:Atom),q.Atoms[i.toNat]?=some e1∧(∃ (v2_0:Bool),Zl1 e1.Name=some (Bo v2_0,[])∧(if v2_0=true then (∃ (v3_0:Bool),Z1 (e1.Vars.length:Int) 1 3=some (Bo v3_0,[])∧(if v3_0=true then (Zic q e1 seen i 0=some r) else (some (Bo false,[])=some r))) else (some (Bo false,[])=some r))))) else (¬ q.Ze<0∧(some (Bo (decide (seen=(w ((shlI 1 q.Ze) - 1)))),[])=some r)))):Zgr q seen i=some r:=by
 unfold Zgr
 rw [EvL_eq Zo3.eq_1]
 simp only [Zl1,Z1,mpl,dfs] at h
 try simp only [itb] at h
 try simp only [itf,List.getElem?_eq_some_iff,kk] at h
 rcases h with ⟨q1,q2,e1,⟨g3,q3⟩,v2_0,q4,(⟨q5,v3_0,q6,(⟨q7,h⟩ | ⟨q7,h⟩)⟩ | ⟨q5,h⟩)⟩ | ⟨q1,q8,h⟩
 all_goals (refine Eq.trans ?_ h;clear h;simp +decide [*,kk,Zic,Zo4])
theorem Z38 (q:Zb) (a:Atom) (seen:Int) (i:Int) (k:Int) (r:AV×List Blk) (h:(if k<(a.Vars.length:Int) then (0≤k∧(∃ (e1:Int),a.Vars[k.toNat]?=some e1∧(∃ (v2_0:Bool),Z1 e1 0 (w (q.Ze - 1))=some (Bo v2_0,[])∧(if v2_0=true then (k.toNat≤a.Vars.length∧(∃ (v3_0:Bool),Zia (a.Vars.take k.toNat) e1=some (Bo v3_0,[])∧(if v3_0=true then (some (Bo false,[])=some r) else (¬ e1<0∧(Zic q a (orI seen (shlI 1 e1)) i (w (k+1))=some r))))) else (some (Bo false,[])=some r))))) else (Zgr q seen (w (i+1))=some r))):Zic q a seen i k=some r:=by
 unfold Zic
 rw [EvL_eq Ztb.eq_1]
 simp only [Z1,Zia,mpl,dfs] at h
 try simp only [itb] at h
 try simp only [itf,List.getElem?_eq_some_iff,kk] at h
 rcases h with ⟨q1,q2,e1,⟨g3,q3⟩,v2_0,q4,(⟨q5,q6,v3_0,q7,(⟨q8,h⟩ | ⟨q8,q9,h⟩)⟩ | ⟨q5,h⟩)⟩ | ⟨q1,h⟩
 all_goals (refine Eq.trans ?_ h;clear h;simp +decide [*,kk,Zic,Zgr,Ztc])
theorem Zbg8 (a:Zb) (r:AV×List Blk) (h:(∃ (v1_0:Bool),Z1 a.Ze 1 4=some (Bo v1_0,[])∧(if v1_0=true then (∃ (v2_0:Bool),Z1 (a.Atoms.length:Int) 1 4=some (Bo v2_0,[])∧(if v2_0=true then (Zgr a 0 0=some r) else (some (Bo false,[])=some r))) else (some (Bo false,[])=some r)))):Zd1 a=some r:=by
 unfold Zd1
 refine run Zbde rfl ?_
 simp only [Z1,mpl,dfs] at h
 try simp only [itb] at h
 try simp only [itf,List.getElem?_eq_some_iff,kk] at h
 rcases h with ⟨v1_0,q1,(⟨q2,v2_0,q3,(⟨q4,h⟩ | ⟨q4,h⟩)⟩ | ⟨q2,h⟩)⟩
 all_goals (refine Eq.trans ?_ h;clear h;simp +decide [*,kk,Z0j,Zgr])
theorem Zbg9 (a:Zb) (r:AV×List Blk) (h:(∃ (v1_0:Bool),Zd1 a=some (Bo v1_0,[])∧(if v1_0=true then (¬ (a.Atoms.length:Int)<0∧(some (I (w ((shlI 1 (a.Atoms.length:Int)) - 1)),[])=some r)) else (some (I 0,[])=some r)))):Zc8 a=some r:=by
 unfold Zc8
 refine run Zbdf rfl ?_
 simp only [Zd1,Zb.c_def,mpl,dfs] at h
 try simp only [itb] at h
 try simp only [itf,List.getElem?_eq_some_iff,kk] at h
 rcases h with ⟨v1_0,q1,(⟨q2,q3,h⟩ | ⟨q2,h⟩)⟩
 all_goals (refine Eq.trans ?_ h;clear h;simp +decide [*,kk,Z0k])
theorem Zbha (a:Zb) (a1:Int) (r:AV×List Blk) (h:(∃ (v1_0:Bool),Zd1 a=some (Bo v1_0,[])∧(if v1_0=true then (¬ (a.Atoms.length:Int)<0∧(∃ (v2_0:Bool),Z1 a1 0 (w ((shlI 1 (a.Atoms.length:Int)) - 1))=some (Bo v2_0,[])∧(some (Bo v2_0,[])=some r))) else (some (Bo false,[])=some r)))):Zid a a1=some r:=by
 unfold Zid
 refine run Zbdg rfl ?_
 simp only [Zd1,Z1,Zb.c_def,mpl,dfs] at h
 try simp only [itb] at h
 try simp only [itf,List.getElem?_eq_some_iff,kk] at h
 rcases h with ⟨v1_0,q1,(⟨q2,q3,v2_0,q4,h⟩ | ⟨q2,h⟩)⟩
 all_goals (refine Eq.trans ?_ h;clear h;simp +decide [*,kk,Z0l])
theorem Z39 (q:Zb) (mask:Int) (x:Int) (i:Int) (r:AV×List Blk) (h:(if i<(q.Atoms.length:Int) then (Zgs q mask x i 0=some r) else (some (I x,[])=some r))):Zfj q mask x i=some r:=by
 unfold Zfj
 rw [EvL_eq Zo5.eq_1]
 try simp only [itb] at h
 try simp only [itf,List.getElem?_eq_some_iff,kk] at h
 rcases h with ⟨q1,h⟩ | ⟨q1,h⟩
 all_goals (refine Eq.trans ?_ h;clear h;simp +decide [*,kk,Zgs,Zo6])
theorem Zu7 (q:Zb) (mask:Int) (x:Int) (i:Int) (k:Int) (r:AV×List Blk) (h:(0≤i∧(∃ (e1:Atom),q.Atoms[i.toNat]?=some e1∧(if k<(e1.Vars.length:Int) then (¬ i<0∧(if (andI (shrI mask i) 1)=1 then (0≤k∧(∃ (e2:Int),e1.Vars[k.toNat]?=some e2∧(¬ e2<0∧(Zgs q mask (orI x (shlI 1 e2)) i (w (k+1))=some r)))) else (Zfj q mask x (w (i+1))=some r))) else (Zfj q mask x (w (i+1))=some r))))):Zgs q mask x i k=some r:=by
 unfold Zgs
 rw [EvL_eq Ztd.eq_1]
 try simp only [itb] at h
 try simp only [itf,List.getElem?_eq_some_iff,kk] at h
 rcases h with ⟨q1,e1,⟨g2,q2⟩,(⟨q3,q4,(⟨q5,q6,e2,⟨g7,q7⟩,q8,h⟩ | ⟨q5,h⟩)⟩ | ⟨q3,h⟩)⟩
 all_goals (refine Eq.trans ?_ h;clear h;simp +decide [*,kk,Zgs,Zfj,Zte])
theorem Zbhb (a:Zb) (a1:Int) (r:AV×List Blk) (h:(Zfj a a1 0 0=some r)):Zcb a a1=some r:=by
 unfold Zcb
 refine run Zbdh rfl ?_
 refine Eq.trans ?_ h;clear h;simp +decide [*,kk,Z0m,Zfj]
theorem Z4a (q:Zb) (mask:Int) (out:Int) (bits:Int) (i:Int) (r:AV×List Blk) (h:(if i<(q.Atoms.length:Int) then (¬ i<0∧(if (andI (shrI mask i) 1)=0 then (∃ (v1_0:Int),Zcb q (shlI 1 i)=some (I v1_0,[])∧(if (andI v1_0 bits)=0 then (Zfk q mask out bits (w (i+1))=some r) else (Zfk q mask (orI out (shlI 1 i)) bits (w (i+1))=some r))) else (Zfk q mask out bits (w (i+1))=some r))) else (some (I out,[])=some r))):Zfk q mask out bits i=some r:=by
 unfold Zfk
 rw [EvL_eq Ztf.eq_1]
 simp only [Zcb,Zb.c_def,mpl,dfs] at h
 try simp only [itb] at h
 try simp only [itf,List.getElem?_eq_some_iff,kk] at h
 rcases h with ⟨q1,q2,(⟨q3,v1_0,q4,(⟨q5,h⟩ | ⟨q5,h⟩)⟩ | ⟨q3,h⟩)⟩ | ⟨q1,h⟩
 all_goals (refine Eq.trans ?_ h;clear h;simp +decide [*,kk,Zfk,Z0n,Ztg])
theorem Zbhc (a:Zb) (a1:Int) (r:AV×List Blk) (h:(∃ (v1_0:Int),Zcb a a1=some (I v1_0,[])∧(Zfk a a1 0 v1_0 0=some r))):Zl2 a a1=some r:=by
 unfold Zl2
 refine run Zbdi rfl ?_
 simp only [Zcb,Zb.c_def,mpl,dfs] at h
 rcases h with ⟨v1_0,q1,h⟩
 all_goals (refine Eq.trans ?_ h;clear h;simp +decide [*,kk,Z0o,Zfk])
theorem Z4b (q:Zb) (mask:Int) (x:Int) (n:Int) (r:AV×List Blk) (h:(if n<(q.Atoms.length:Int) then (∃ (v1_0:Int),Zl2 q x=some (I v1_0,[])∧(Zie q mask (orI x (andI v1_0 mask)) (w (n+1))=some r)) else (some (Bo (decide (x=mask)),[])=some r))):Zie q mask x n=some r:=by
 unfold Zie
 rw [EvL_eq Zth.eq_1]
 simp only [Zl2,Zb.c_def,mpl,dfs] at h
 try simp only [itb] at h
 try simp only [itf,List.getElem?_eq_some_iff,kk] at h
 rcases h with ⟨q1,v1_0,q2,h⟩ | ⟨q1,h⟩
 all_goals (refine Eq.trans ?_ h;clear h;simp +decide [*,kk,Zie,Zti])
theorem Zbhd (a:Zb) (a1:Int) (r:AV×List Blk) (h:(Zie a a1 (andI a1 (w (0 - a1))) 0=some r)):Zen a a1=some r:=by
 unfold Zen
 refine run Zbdj rfl ?_
 refine Eq.trans ?_ h;clear h;simp +decide [*,kk,Z0p,Zie]
theorem Zbhe (a:Zb) (a1:Int) (r:AV×List Blk) (h:(∃ (v1_0:Bool),Zid a a1=some (Bo v1_0,[])∧(if v1_0=true then (if 0<a1 then (∃ (v2_0:Bool),Zen a a1=some (Bo v2_0,[])∧(some (Bo v2_0,[])=some r)) else (some (Bo false,[])=some r)) else (some (Bo false,[])=some r)))):Zif a a1=some r:=by
 unfold Zif
 refine run Zbdk rfl ?_
 simp only [Zid,Zen,Zb.c_def,mpl,dfs] at h
 try simp only [itb] at h
 try simp only [itf,List.getElem?_eq_some_iff,kk] at h
 rcases h with ⟨v1_0,q1,(⟨q2,(⟨q3,v2_0,q4,h⟩ | ⟨q3,h⟩)⟩ | ⟨q2,h⟩)⟩
 all_goals (refine Eq.trans ?_ h;clear h;simp +decide [*,kk,Z0q])
theorem Z4c (l:List Int) (i:Int) (r:AV×List Blk) (h:(if i<(l.length:Int) then (0≤i∧(∃ (e1:Int),l[i.toNat]?=some e1∧(∃ (v2_0:Bool),Z1 e1 0 7=some (Bo v2_0,[])∧(if v2_0=true then (Zig l (w (i+1))=some r) else (some (Bo false,[])=some r))))) else (some (Bo (decide ((l.length:Int)≤16)),[])=some r))):Zig l i=some r:=by
 unfold Zig
 rw [EvL_eq Ztj.eq_1]
 simp only [Z1,mpl,dfs] at h
 try simp only [itb] at h
 try simp only [itf,List.getElem?_eq_some_iff,kk] at h
 rcases h with ⟨q1,q2,e1,⟨g3,q3⟩,v2_0,q4,(⟨q5,h⟩ | ⟨q5,h⟩)⟩ | ⟨q1,h⟩
 all_goals (refine Eq.trans ?_ h;clear h;simp +decide [*,kk,Zig,Ztk])
theorem Zbhf (a:List Int) (r:AV×List Blk) (h:(Zig a 0=some r)):Zgt a=some r:=by
 unfold Zgt
 refine run Zbdl rfl ?_
 refine Eq.trans ?_ h;clear h;simp +decide [*,kk,Z0r,Zig]
theorem Z4d (a:List Int) (b:List Int) (i:Int) (r:AV×List Blk) (h:(if i<(a.length:Int) then (0≤i∧(∃ (e1:Int),a[i.toNat]?=some e1∧(∃ (e2:Int),b[i.toNat]?=some e2∧(if e1<e2 then (some (Bo false,[])=some r) else (Zih a b (w (i+1))=some r))))) else (some (Bo true,[])=some r))):Zih a b i=some r:=by
 unfold Zih
 rw [EvL_eq Ztl.eq_1]
 try simp only [itb] at h
 try simp only [itf,List.getElem?_eq_some_iff,kk] at h
 rcases h with ⟨q1,q2,e1,⟨g3,q3⟩,e2,⟨g4,q4⟩,(⟨q5,h⟩ | ⟨q5,h⟩)⟩ | ⟨q1,h⟩
 all_goals (refine Eq.trans ?_ h;clear h;simp +decide [*,kk,Zih,Ztm])
theorem Zbhg (a:List Int) (a1:List Int) (r:AV×List Blk) (h:(if (a.length:Int)=(a1.length:Int) then (Zih a a1 0=some r) else (some (Bo false,[])=some r))):Zgu a a1=some r:=by
 unfold Zgu
 refine run Zbdm rfl ?_
 try simp only [itb] at h
 try simp only [itf,List.getElem?_eq_some_iff,kk] at h
 rcases h with ⟨q1,h⟩ | ⟨q1,h⟩
 all_goals (refine Eq.trans ?_ h;clear h;simp +decide [*,kk,Z0s,Zih])
theorem Zbhh (a:Box) (r:AV×List Blk) (h:(if 0<(a.Low.length:Int) then (∃ (v1_0:Bool),Zgt a.Low=some (Bo v1_0,[])∧(if v1_0=true then (∃ (v2_0:Bool),Zgt a.High=some (Bo v2_0,[])∧(if v2_0=true then (∃ (v3_0:Bool),Zgu a.High a.Low=some (Bo v3_0,[])∧(some (Bo v3_0,[])=some r)) else (some (Bo false,[])=some r))) else (some (Bo false,[])=some r))) else (some (Bo false,[])=some r))):Zfl a=some r:=by
 unfold Zfl
 refine run Zbdn rfl ?_
 simp only [Zgt,Zgu,mpl,dfs] at h
 try simp only [itb] at h
 try simp only [itf,List.getElem?_eq_some_iff,kk] at h
 rcases h with ⟨q1,v1_0,q2,(⟨q3,v2_0,q4,(⟨q5,v3_0,q6,h⟩ | ⟨q5,h⟩)⟩ | ⟨q3,h⟩)⟩ | ⟨q1,h⟩
 all_goals (refine Eq.trans ?_ h;clear h;simp +decide [*,kk,Z0t])
theorem Zbhi (a:Int) (a1:Int) (r:AV×List Blk) (h:(∃ (v1_0:Bool),Z1 a1 0 3=some (Bo v1_0,[])∧(if v1_0=true then (¬ a1<0∧(some (Bo (decide ((andI (shrI a a1) 1)=1)),[])=some r)) else (some (Bo false,[])=some r)))):Zfm a a1=some r:=by
 unfold Zfm
 refine run Zbdo rfl ?_
 simp only [Z1,mpl,dfs] at h
 try simp only [itb] at h
 try simp only [itf,List.getElem?_eq_some_iff,kk] at h
 rcases h with ⟨v1_0,q1,(⟨q2,q3,h⟩ | ⟨q2,h⟩)⟩
 all_goals (refine Eq.trans ?_ h;clear h;simp +decide [*,kk,Z0u])
end Go.Proofs.YtbapkgocloaaeaaGreat
/- part: G10 -/
namespace Go.Proofs.YtbapkgocloaaeaaGreat
open Go.AM
theorem Znj (q:Zb) (x:Zc) (x1:Zh) (info:List Zh) (stack:List Int) (n:Int) (x2:Int) (x3:Bool) (r:AV×List Blk) (h:(if x3=true then (if x.Atom=0 then (if n<2 then (some (.tup [.agg [I 0,I 0,I 0,I 0],I (-1)],[])=some r) else (0≤(w (n - 2))∧(∃ (e1:Int),stack[(w (n - 2)).toNat]?=some e1∧(0≤e1∧(∃ (e2:Zh),info[e1.toNat]?=some e2∧(0≤(w (n - 1))∧(∃ (e3:Int),stack[(w (n - 1)).toNat]?=some e3∧(0≤e3∧(∃ (e4:Zh),info[e3.toNat]?=some e4∧(∃ (v5_0:Int),Zcb q e2.Mask=some (I v5_0,[])∧(∃ (v6_0:Int),Zcb q e4.Mask=some (I v6_0,[])∧(if (andI e2.Mask e4.Mask)=0 then (if (andI v5_0 v6_0)=0 then (some (.tup [.agg [I 0,I 0,I 0,I 0],I (-1)],[])=some r) else (if x.Kind=4 then (Zgw q x x1 e2 e4 (⟨(orI e2.Mask e4.Mask),(-1),e1,e3⟩:Zh) (andI v5_0 v6_0) false=some r) else (if x.Order=0 then (if x.Kind=5 then (Zij q x x1 e2 e4 (⟨(orI e2.Mask e4.Mask),e2.Order,e1,e3⟩:Zh) (andI v5_0 v6_0)=some r) else (Zgw q x x1 e2 e4 (⟨(orI e2.Mask e4.Mask),(-1),e1,e3⟩:Zh) (andI v5_0 v6_0) false=some r)) else (some (.tup [.agg [I 0,I 0,I 0,I 0],I (-1)],[])=some r)))) else (some (.tup [.agg [I 0,I 0,I 0,I 0],I (-1)],[])=some r))))))))))))) else (some (.tup [.agg [I 0,I 0,I 0,I 0],I (-1)],[])=some r)) else (some (.tup [.agg [I 0,I 0,I 0,I 0],I (-1)],[])=some r))):Zii q x x1 info stack n x2 x3=some r:=by
 unfold Zii
 rw [Ev_eq Zo7.eq_1]
 by_cases q1:x3=true
 ·rw [if_pos q1] at h
  by_cases q2:x.Atom=0
  ·rw [if_pos q2] at h
   replace q2:=eq_true q2
   by_cases q3:n<2
   ·rw [if_pos q3] at h
    refine Eq.trans ?_ h
    clear h
    simp +decide [*]
   ·rw [if_neg q3] at h
    obtain ⟨q4,h⟩:=h
    obtain ⟨e1,q5,h⟩:=h
    have gq5:=ltOfGet q5
    have kq5:=getOf q5
    obtain ⟨q6,h⟩:=h
    obtain ⟨e2,q7,h⟩:=h
    have gq7:=ltOfGet q7
    have kq7:=getOf q7
    obtain ⟨q8,h⟩:=h
    obtain ⟨e3,q9,h⟩:=h
    have gq9:=ltOfGet q9
    have kq9:=getOf q9
    obtain ⟨q10,h⟩:=h
    obtain ⟨e4,q11,h⟩:=h
    have gq11:=ltOfGet q11
    have kq11:=getOf q11
    obtain ⟨v5_0,q12,h⟩:=h
    unfold Zcb at q12
    try simp at q12
    obtain ⟨v6_0,q13,h⟩:=h
    unfold Zcb at q13
    try simp at q13
    by_cases q14:(andI e2.Mask e4.Mask)=0
    ·rw [if_pos q14] at h
     replace q14:=eq_true q14
     by_cases q15:(andI v5_0 v6_0)=0
     ·rw [if_pos q15] at h
      replace q15:=eq_true q15
      refine Eq.trans ?_ h
      clear h
      simp +decide [*]
     ·rw [if_neg q15] at h
      replace q15:=eq_false q15
      by_cases q16:x.Kind=4
      ·rw [if_pos q16] at h
       replace q16:=eq_true q16
       have q17:(x.Kind=5)=False:=eq_false (by intro hh;simp_all)
       refine Eq.trans ?_ h
       clear h
       simp +decide [*,Zgw]
      ·rw [if_neg q16] at h
       replace q16:=eq_false q16
       by_cases q18:x.Order=0
       ·rw [if_pos q18] at h
        replace q18:=eq_true q18
        by_cases q19:x.Kind=5
        ·rw [if_pos q19] at h
         replace q19:=eq_true q19
         refine Eq.trans ?_ h
         clear h
         simp +decide [*,Zij]
        ·rw [if_neg q19] at h
         replace q19:=eq_false q19
         refine Eq.trans ?_ h
         clear h
         simp +decide [*,Zgw]
       ·rw [if_neg q18] at h
        replace q18:=eq_false q18
        refine Eq.trans ?_ h
        clear h
        simp +decide [*]
    ·rw [if_neg q14] at h
     replace q14:=eq_false q14
     refine Eq.trans ?_ h
     clear h
     simp +decide [*]
  ·rw [if_neg q2] at h
   replace q2:=eq_false q2
   refine Eq.trans ?_ h
   clear h
   simp +decide [*]
 ·rw [if_neg q1] at h
  refine Eq.trans ?_ h
  clear h
  simp +decide [*]
theorem Zbhj (x:Zb) (x1:Zc) (x2:Zh) (a:Zh) (b:Zh) (y:Zh) (v:Int) (r:AV×List Blk) (h:(if x1.Kind=4 then (∃ (v1_0:Bool),Zfm v x1.Order=some (Bo v1_0,[])∧(if v1_0=true then (if a.Order=x1.Order then (if b.Order=x1.Order then (some (.tup [.agg [I y.Mask,I x1.Order,I y.Left,I y.Right],I 2],[])=some r) else (some (.tup [.agg [I 0,I 0,I 0,I 0],I (-1)],[])=some r)) else (some (.tup [.agg [I 0,I 0,I 0,I 0],I (-1)],[])=some r)) else (some (.tup [.agg [I 0,I 0,I 0,I 0],I (-1)],[])=some r))) else (some (.tup [.agg (y.c.map .t),I 2],[])=some r))):Zij x x1 x2 a b y v=some r:=by
 unfold Zij
 rw [Ev_eq Zl3.eq_1]
 simp only [Zfm,mpl,dfs] at h
 try simp only [itb] at h
 try simp only [itf,List.getElem?_eq_some_iff,kk] at h
 rcases h with ⟨q1,v1_0,q2,(⟨q3,(⟨q4,(⟨q5,h⟩ | ⟨q5,h⟩)⟩ | ⟨q4,h⟩)⟩ | ⟨q3,h⟩)⟩ | ⟨q1,h⟩
 all_goals (refine Eq.trans ?_ h;clear h;simp +decide [*,kk,Ztn])
theorem Zu8 (x:Zb) (x1:Zc) (x2:Zh) (a:Zh) (b:Zh) (y:Zh) (v:Int) (x3:Bool) (r:AV×List Blk) (h:(if x1.Kind=4 then (∃ (v1_0:Bool),Zfm v x1.Order=some (Bo v1_0,[])∧(if v1_0=true then (if a.Order=x1.Order then (if b.Order=x1.Order then (some (.tup [.agg [I y.Mask,I x1.Order,I y.Left,I y.Right],I 2],[])=some r) else (some (.tup [.agg [I 0,I 0,I 0,I 0],I (-1)],[])=some r)) else (some (.tup [.agg [I 0,I 0,I 0,I 0],I (-1)],[])=some r)) else (some (.tup [.agg [I 0,I 0,I 0,I 0],I (-1)],[])=some r))) else (some (.tup [.agg (y.c.map .t),I 2],[])=some r))):Zgw x x1 x2 a b y v x3=some r:=by
 unfold Zgw
 rw [Ev_eq Zl3.eq_1]
 simp only [Zfm,mpl,dfs] at h
 try simp only [itb] at h
 try simp only [itf,List.getElem?_eq_some_iff,kk] at h
 rcases h with ⟨q1,v1_0,q2,(⟨q3,(⟨q4,(⟨q5,h⟩ | ⟨q5,h⟩)⟩ | ⟨q4,h⟩)⟩ | ⟨q3,h⟩)⟩ | ⟨q1,h⟩
 all_goals (refine Eq.trans ?_ h;clear h;simp +decide [*,kk,Ztn])
theorem Zer (a:Zb) (a1:Zc) (a2:List Zh) (a3:List Int) (r:AV×List Blk) (h:(if a1.Kind=1 then (∃ (v1_0:Bool),Z1 a1.Atom 0 (w ((a.Atoms.length:Int) - 1))=some (Bo v1_0,[])∧(if v1_0=true then (if a1.Order=0 then (¬ a1.Atom<0∧(0≤a1.Atom∧(∃ (e2:Atom),a.Atoms[a1.Atom.toNat]?=some e2∧(∃ (e3:Int),e2.Vars[0]?=some e3∧(some (.tup [.agg [I (shlI 1 a1.Atom),I e3,I (-1),I (-1)],I 0],[])=some r))))) else (some (.tup [.agg [I 0,I 0,I 0,I 0],I (-1)],[])=some r)) else (some (.tup [.agg [I 0,I 0,I 0,I 0],I (-1)],[])=some r))) else (if a1.Kind=2 then (if a1.Atom=0 then (if (a3.length:Int)<1 then (some (.tup [.agg [I 0,I 0,I 0,I 0],I (-1)],[])=some r) else (0≤(w ((a3.length:Int) - 1))∧(∃ (e4:Int),a3[(w ((a3.length:Int) - 1)).toNat]?=some e4∧(0≤e4∧(∃ (e5:Zh),a2[e4.toNat]?=some e5∧(if e5.Order=a1.Order then (some (.tup [.agg [I 0,I 0,I 0,I 0],I (-1)],[])=some r) else (∃ (v6_0:Int),Zcb a e5.Mask=some (I v6_0,[])∧(∃ (v7_0:Bool),Zfm v6_0 a1.Order=some (Bo v7_0,[])∧(if v7_0=true then (some (.tup [.agg [I e5.Mask,I a1.Order,I e4,I (-1)],I 1],[])=some r) else (some (.tup [.agg [I 0,I 0,I 0,I 0],I (-1)],[])=some r)))))))))) else (some (.tup [.agg [I 0,I 0,I 0,I 0],I (-1)],[])=some r)) else (if a1.Kind=3 then (Zii a a1 (⟨0,0,0,0⟩:Zh) a2 a3 (a3.length:Int) a1.Kind true=some r) else (if a1.Kind=4 then (Zii a a1 (⟨0,0,0,0⟩:Zh) a2 a3 (a3.length:Int) a1.Kind true=some r) else (if a1.Kind=5 then (if a1.Atom=0 then (if (a3.length:Int)<2 then (some (.tup [.agg [I 0,I 0,I 0,I 0],I (-1)],[])=some r) else (0≤(w ((a3.length:Int) - 2))∧(∃ (e8:Int),a3[(w ((a3.length:Int) - 2)).toNat]?=some e8∧(0≤e8∧(∃ (e9:Zh),a2[e8.toNat]?=some e9∧(0≤(w ((a3.length:Int) - 1))∧(∃ (e10:Int),a3[(w ((a3.length:Int) - 1)).toNat]?=some e10∧(0≤e10∧(∃ (e11:Zh),a2[e10.toNat]?=some e11∧(∃ (v12_0:Int),Zcb a e9.Mask=some (I v12_0,[])∧(∃ (v13_0:Int),Zcb a e11.Mask=some (I v13_0,[])∧(if (andI e9.Mask e11.Mask)=0 then (if (andI v12_0 v13_0)=0 then (some (.tup [.agg [I 0,I 0,I 0,I 0],I (-1)],[])=some r) else (if a1.Order=0 then (Zij a a1 (⟨0,0,0,0⟩:Zh) e9 e11 (⟨(orI e9.Mask e11.Mask),e9.Order,e8,e10⟩:Zh) (andI v12_0 v13_0)=some r) else (some (.tup [.agg [I 0,I 0,I 0,I 0],I (-1)],[])=some r))) else (some (.tup [.agg [I 0,I 0,I 0,I 0],I (-1)],[])=some r))))))))))))) else (some (.tup [.agg [I 0,I 0,I 0,I 0],I (-1)],[])=some r)) else (some (.tup [.agg [I 0,I 0,I 0,I 0],I (-1)],[])=some r))))))):Zgv a a1 a2 a3=some r:=by
 unfold Zgv
 refine run Zbdp rfl ?_
 simp only [Z1,Zcb,Zfm,Zb.c_def,mpl,dfs] at h
 try simp only [itb] at h
 try simp only [itf,List.getElem?_eq_some_iff,kk] at h
 rcases h with ⟨q1,v1_0,q2,(⟨q3,(⟨q4,q5,q6,e2,⟨g7,q7⟩,e3,⟨g8,q8⟩,h⟩ | ⟨q4,h⟩)⟩ | ⟨q3,h⟩)⟩ | ⟨q1,(⟨q9,(⟨q10,(⟨q11,h⟩ | ⟨q11,q12,e4,⟨g13,q13⟩,q14,e5,⟨g15,q15⟩,(⟨q16,h⟩ | ⟨q16,v6_0,q17,v7_0,q18,(⟨q19,h⟩ | ⟨q19,h⟩)⟩)⟩)⟩ | ⟨q10,h⟩)⟩ | ⟨q9,(⟨q20,h⟩ | ⟨q20,(⟨q21,h⟩ | ⟨q21,(⟨q22,(⟨q23,(⟨q24,h⟩ | ⟨q24,q25,e8,⟨g26,q26⟩,q27,e9,⟨g28,q28⟩,q29,e10,⟨g30,q30⟩,q31,e11,⟨g32,q32⟩,v12_0,q33,v13_0,q34,(⟨q35,(⟨q36,h⟩ | ⟨q36,(⟨q37,h⟩ | ⟨q37,h⟩)⟩)⟩ | ⟨q35,h⟩)⟩)⟩ | ⟨q23,h⟩)⟩ | ⟨q22,h⟩)⟩)⟩)⟩)⟩
 all_goals (refine Eq.trans ?_ h;clear h;simp +decide [*,kk,Z0v,Zii,Zo7,Zij])
theorem Z4e (q:Zb) (p:Plan) (info:List Zh) (stack:List Int) (i:Int) (r:AV×List Blk) (h:(if i<(p.Steps.length:Int) then (0≤i∧(∃ (e1:Zc),p.Steps[i.toNat]?=some e1∧(∃ (v2_0:Zh) (v2_1:Int),Zgv q e1 info stack=some (.tup [.agg (v2_0.c.map .t),I v2_1],[])∧(if v2_1<0 then (some (.tup [.own 0,Bo false],[.arr 138 4 true (([]:List Zh).map Zh.c)])=some r) else (info.length+1≤68719476736∧(0≤(w ((stack.length:Int) - v2_1))∧((w ((stack.length:Int) - v2_1)).toNat≤stack.length∧((w ((stack.length:Int) - v2_1)).toNat≤68719476736∧((w ((stack.length:Int) - v2_1)).toNat+1≤68719476736∧(Zil q p (info++[v2_0]) ((stack.take ((w ((stack.length:Int) - v2_1)).toNat))++[i]) (w (i+1))=some r)))))))))) else (if (stack.length:Int)=1 then (some (.tup [.own 0,Bo true],[.arr 138 4 true (info.map Zh.c)])=some r) else (some (.tup [.own 0,Bo false],[.arr 138 4 true (([]:List Zh).map Zh.c)])=some r)))):Zil q p info stack i=some r:=by
 unfold Zil
 rw [EvL_eq Zto.eq_1]
 simp only [Zgv,Zc.c_def,Zb.c_def,Zh.c_def,mpl,dfs] at h
 try simp only [itb] at h
 try simp only [itf,List.getElem?_eq_some_iff,kk] at h
 rcases h with ⟨q1,q2,e1,⟨g3,q3⟩,v2_0,v2_1,q4,(⟨q5,h⟩ | ⟨q5,q6,q7,q8,q9,q10,h⟩)⟩ | ⟨q1,(⟨q11,h⟩ | ⟨q11,h⟩)⟩
 all_goals (refine Eq.trans ?_ h;clear h;simp +decide [*,kk,Zil,Ztp])
theorem Zbhk (a:Zb) (a1:Plan) (r:AV×List Blk) (h:(∃ (v1_0:Bool),Zd1 a=some (Bo v1_0,[])∧(if v1_0=true then (∃ (v2_0:Bool),Z1 (a1.Steps.length:Int) 1 14=some (Bo v2_0,[])∧(if v2_0=true then (Zil a a1 ([]:List Zh) ([]:List Int) 0=some r) else (some (.tup [.own 0,Bo false],[.arr 138 4 true (([]:List Zh).map Zh.c)])=some r))) else (some (.tup [.own 0,Bo false],[.arr 138 4 true (([]:List Zh).map Zh.c)])=some r)))):Zik a a1=some r:=by
 unfold Zik
 refine run Zbdq rfl ?_
 simp only [Zd1,Z1,Zb.c_def,mpl,dfs] at h
 try simp only [itb] at h
 try simp only [itf,List.getElem?_eq_some_iff,kk] at h
 rcases h with ⟨v1_0,q1,(⟨q2,v2_0,q3,(⟨q4,h⟩ | ⟨q4,h⟩)⟩ | ⟨q2,h⟩)⟩
 all_goals (refine Eq.trans ?_ h;clear h;simp +decide [*,kk,Z0w,Zil])
theorem Zbhl (a:Zb) (a1:Plan) (r:AV×List Blk) (h:(∃ (v1_0:List Zh) (v1_1:Bool),Zik a a1=some (.tup [.own 0,Bo v1_1],[.arr 138 4 true (v1_0.map Zh.c)])∧(if v1_1=true then (0≤(w ((v1_0.length:Int) - 1))∧(∃ (e2:Zh),v1_0[(w ((v1_0.length:Int) - 1)).toNat]?=some e2∧(some (I e2.Mask,[])=some r))) else (some (I 0,[])=some r)))):Zl4 a a1=some r:=by
 unfold Zl4
 refine run Zbdr rfl ?_
 simp only [Zik,Plan.c_def,Zb.c_def,mpl,dfs] at h
 try simp only [itb] at h
 try simp only [itf,List.getElem?_eq_some_iff,kk] at h
 rcases h with ⟨v1_0,v1_1,q1,(⟨q2,q3,e2,⟨g4,q4⟩,h⟩ | ⟨q2,h⟩)⟩
 all_goals (refine Eq.trans ?_ h;clear h;simp +decide [*,kk,Z0x])
theorem Zbhm (a:Zb) (a1:Region) (r:AV×List Blk) (h:(∃ (v1_0:Bool),Zfl a1.Box=some (Bo v1_0,[])∧(if v1_0=true then (∃ (v2_0:Int),Zc8 a=some (I v2_0,[])∧(if (a1.Box.Low.length:Int)=(w (v2_0+1)) then (∃ (v3_0:Int),Zl4 a a1.Plan=some (I v3_0,[])∧(if v3_0=v2_0 then (if 0<v2_0 then (∃ (v4_0:Bool),Z1 a1.Percent 100 1000=some (Bo v4_0,[])∧(some (Bo v4_0,[])=some r)) else (some (Bo false,[])=some r)) else (some (Bo false,[])=some r))) else (some (Bo false,[])=some r))) else (some (Bo false,[])=some r)))):Zl5 a a1=some r:=by
 unfold Zl5
 refine run Zbds rfl ?_
 simp only [Zfl,Zc8,Zl4,Z1,Box.c_def,Plan.c_def,Zb.c_def,mpl,dfs] at h
 try simp only [itb] at h
 try simp only [itf,List.getElem?_eq_some_iff,kk] at h
 rcases h with ⟨v1_0,q1,(⟨q2,v2_0,q3,(⟨q4,v3_0,q5,(⟨q6,(⟨q7,v4_0,q8,h⟩ | ⟨q7,h⟩)⟩ | ⟨q6,h⟩)⟩ | ⟨q4,h⟩)⟩ | ⟨q2,h⟩)⟩
 all_goals (refine Eq.trans ?_ h;clear h;simp +decide [*,kk,Z0y])
theorem Z4f (q:Zb) (out:List Int) (full:Int) (m:Int) (r:AV×List Blk) (h:(if m≤full then (∃ (v1_0:Bool),Zen q m=some (Bo v1_0,[])∧(if v1_0=true then (out.length+1≤68719476736∧(Zgx q (out++[m]) full (w (m+1))=some r)) else (Zgx q out full (w (m+1))=some r))) else (some (.own 0,[.arr 3 1 true (out.map ic)])=some r))):Zgx q out full m=some r:=by
 unfold Zgx
 rw [EvL_eq Ztq.eq_1]
 simp only [Zen,Zb.c_def,mpl,dfs] at h
 try simp only [itb] at h
 try simp only [itf,List.getElem?_eq_some_iff,kk] at h
 rcases h with ⟨q1,v1_0,q2,(⟨q3,q4,h⟩ | ⟨q3,h⟩)⟩ | ⟨q1,h⟩
 all_goals (refine Eq.trans ?_ h;clear h;simp +decide [*,kk,Zgx,Z0z,Ztr])
theorem Zbhn (a:Zb) (r:AV×List Blk) (h:(∃ (v1_0:Int),Zc8 a=some (I v1_0,[])∧(Zgx a ([]:List Int) v1_0 1=some r))):Zl6 a=some r:=by
 unfold Zl6
 refine run Zbdt rfl ?_
 simp only [Zc8,Zb.c_def,mpl,dfs] at h
 rcases h with ⟨v1_0,q1,h⟩
 all_goals (refine Eq.trans ?_ h;clear h;simp +decide [*,kk,Z00,Zgx])
theorem Z4g (q:Zb) (out:List Int) (mask:Int) (m:Int) (r:AV×List Blk) (h:(if m<mask then (if (andI m mask)=m then (∃ (v1_0:Bool),Zen q m=some (Bo v1_0,[])∧(if v1_0=true then (∃ (v2_0:Bool),Zen q (w (mask - m))=some (Bo v2_0,[])∧(if v2_0=true then (out.length+1≤68719476736∧(Zd2 q (out++[m]) mask (w (m+1))=some r)) else (Zd2 q out mask (w (m+1))=some r))) else (Zd2 q out mask (w (m+1))=some r))) else (Zd2 q out mask (w (m+1))=some r)) else (some (.own 0,[.arr 3 1 true (out.map ic)])=some r))):Zd2 q out mask m=some r:=by
 unfold Zd2
 rw [EvL_eq Zts.eq_1]
 simp only [Zen,Zb.c_def,mpl,dfs] at h
 try simp only [itb] at h
 try simp only [itf,List.getElem?_eq_some_iff,kk] at h
 rcases h with ⟨q1,(⟨q2,v1_0,q3,(⟨q4,v2_0,q5,(⟨q6,q7,h⟩ | ⟨q6,h⟩)⟩ | ⟨q4,h⟩)⟩ | ⟨q2,h⟩)⟩ | ⟨q1,h⟩
 all_goals (refine Eq.trans ?_ h;clear h;simp +decide [*,kk,Zd2,Z01,Ztt])
theorem Zbho (a:Zb) (a1:Int) (r:AV×List Blk) (h:(∃ (v1_0:Bool),Zif a a1=some (Bo v1_0,[])∧(if v1_0=true then (Zd2 a ([]:List Int) a1 1=some r) else (some (.own 0,[.arr 3 1 true (([]:List Int).map ic)])=some r)))):Zl7 a a1=some r:=by
 unfold Zl7
 refine run Zbdu rfl ?_
 simp only [Zif,Zb.c_def,mpl,dfs] at h
 try simp only [itb] at h
 try simp only [itf,List.getElem?_eq_some_iff,kk] at h
 rcases h with ⟨v1_0,q1,(⟨q2,h⟩ | ⟨q2,h⟩)⟩
 all_goals (refine Eq.trans ?_ h;clear h;simp +decide [*,kk,Z02,Zd2])
theorem Z4h (out:List Int) (bits:Int) (v:Int) (r:AV×List Blk) (h:(if v<4 then (¬ v<0∧(if (andI (shrI bits v) 1)=1 then (out.length+1≤68719476736∧(Zgy (out++[v]) bits (w (v+1))=some r)) else (Zgy out bits (w (v+1))=some r))) else (some (.own 0,[.arr 3 1 true (out.map ic)])=some r))):Zgy out bits v=some r:=by
 unfold Zgy
 rw [EvL_eq Ztu.eq_1]
 try simp only [itb] at h
 try simp only [itf,List.getElem?_eq_some_iff,kk] at h
 rcases h with ⟨q1,q2,(⟨q3,q4,h⟩ | ⟨q3,h⟩)⟩ | ⟨q1,h⟩
 all_goals (refine Eq.trans ?_ h;clear h;simp +decide [*,kk,Zgy,Z03,Ztv])
theorem Zbhp (a:Int) (r:AV×List Blk) (h:(Zgy ([]:List Int) a 0=some r)):Zo8 a=some r:=by
 unfold Zo8
 refine run Zbdv rfl ?_
 refine Eq.trans ?_ h;clear h;simp +decide [*,kk,Z04,Zgy]
theorem Zbhq (a:Zb) (a1:Int) (r:AV×List Blk) (h:(∃ (v1_0:Bool),Zid a a1=some (Bo v1_0,[])∧(if v1_0=true then (∃ (v2_0:Int),Zcb a a1=some (I v2_0,[])∧(∃ (v3_0:List Int),Zo8 v2_0=some (.own 0,[.arr 3 1 true (v3_0.map ic)])∧(some (.own 0,[.arr 3 1 true (v3_0.map ic)])=some r))) else (some (.own 0,[.arr 3 1 true (([]:List Int).map ic)])=some r)))):Zjz a a1=some r:=by
 unfold Zjz
 refine run Zbdw rfl ?_
 simp only [Zid,Zcb,Zo8,Zb.c_def,mpl,dfs] at h
 try simp only [itb] at h
 try simp only [itf,List.getElem?_eq_some_iff,kk] at h
 rcases h with ⟨v1_0,q1,(⟨q2,v2_0,q3,v3_0,q4,h⟩ | ⟨q2,h⟩)⟩
 all_goals (refine Eq.trans ?_ h;clear h;simp +decide [*,kk,Z05])
theorem Z4i (out:List Int) (x:List Int) (y:List Int) (i:Int) (r:AV×List Blk) (h:(if i<(x.length:Int) then (0≤i∧(∃ (e1:Int),x[i.toNat]?=some e1∧(∃ (v2_0:Bool),Zia y e1=some (Bo v2_0,[])∧(if v2_0=true then (out.length+1≤68719476736∧(Zg0 (out++[e1]) x y (w (i+1))=some r)) else (Zg0 out x y (w (i+1))=some r))))) else (some (.own 0,[.arr 3 1 true (out.map ic)])=some r))):Zg0 out x y i=some r:=by
 unfold Zg0
 rw [EvL_eq Ztw.eq_1]
 simp only [Zia,mpl,dfs] at h
 try simp only [itb] at h
 try simp only [itf,List.getElem?_eq_some_iff,kk] at h
 rcases h with ⟨q1,q2,e1,⟨g3,q3⟩,v2_0,q4,(⟨q5,q6,h⟩ | ⟨q5,h⟩)⟩ | ⟨q1,h⟩
 all_goals (refine Eq.trans ?_ h;clear h;simp +decide [*,kk,Zg0,Z06,Ztx])
theorem Zbhr (a:Zb) (a1:Int) (a2:Int) (r:AV×List Blk) (h:(∃ (v1_0:List Int),Zjz a a1=some (.own 0,[.arr 3 1 true (v1_0.map ic)])∧(∃ (v2_0:List Int),Zjz a a2=some (.own 0,[.arr 3 1 true (v2_0.map ic)])∧(Zg0 ([]:List Int) v1_0 v2_0 0=some r)))):Zgz a a1 a2=some r:=by
 unfold Zgz
 refine run Zbdx rfl ?_
 simp only [Zjz,Zb.c_def,mpl,dfs] at h
 rcases h with ⟨v1_0,q1,v2_0,q2,h⟩
 all_goals (refine Eq.trans ?_ h;clear h;simp +decide [*,kk,Z07,Zg0])
end Go.Proofs.YtbapkgocloaaeaaGreat
/- part: G11 -/
namespace Go.Proofs.YtbapkgocloaaeaaGreat
open Go.AM
theorem Z4j (q:Zb) (out:List Zv) (masks:List Int) (i:Int) (r:AV×List Blk) (h:(if i<(masks.length:Int) then (0≤i∧(∃ (e1:Int),masks[i.toNat]?=some e1∧(∃ (v2_0:List Int),Zl7 q e1=some (.own 0,[.arr 3 1 true (v2_0.map ic)])∧(Zme q out masks e1 v2_0 i 0=some r)))) else (some (.own 0,[.arr 242 3 true (out.map Zv.c)])=some r))):Zd3 q out masks i=some r:=by
 unfold Zd3
 rw [EvL_eq Zmb.eq_1]
 simp only [Zl7,Zb.c_def,mpl,dfs] at h
 try simp only [itb] at h
 try simp only [itf,List.getElem?_eq_some_iff,kk] at h
 rcases h with ⟨q1,q2,e1,⟨g3,q3⟩,v2_0,q4,h⟩ | ⟨q1,h⟩
 all_goals (refine Eq.trans ?_ h;clear h;simp +decide [*,kk,Zme,Zmc])
theorem Zbhs (q:Zb) (out:List Zv) (masks:List Int) (mask:Int) (x:List Int) (i:Int) (k:Int) (r:AV×List Blk) (h:(if k<(x.length:Int) then (0≤k∧(∃ (e1:Int),x[k.toNat]?=some e1∧(0≤i∧(∃ (e2:Int),masks[i.toNat]?=some e2∧(∃ (v3_0:List Int),Zgz q e1 (w (e2 - e1))=some (.own 0,[.arr 3 1 true (v3_0.map ic)])∧(Zim q out masks mask x ([v3_0]) i (w (k+1))=some r)))))) else (out.length+1≤68719476736∧(Zd3 q (out++[(⟨mask,x,[]⟩:Zv)]) masks (w (i+1))=some r)))):Zme q out masks mask x i k=some r:=by
 unfold Zme
 rw [EvL_eq Zl8.eq_1]
 simp only [Zgz,Zb.c_def,mpl,dfs] at h
 try simp only [itb] at h
 try simp only [itf,List.getElem?_eq_some_iff,kk] at h
 rcases h with ⟨q1,q2,e1,⟨g3,q3⟩,q4,e2,⟨g5,q5⟩,v3_0,q6,h⟩ | ⟨q1,q7,h⟩
 all_goals (refine Eq.trans ?_ h;clear h;simp +decide [*,kk,Zim,Zd3,Zma,Zl9])
theorem Z4k (q:Zb) (out:List Zv) (masks:List Int) (mask:Int) (x:List Int) (x1:List (List Int)) (i:Int) (k:Int) (r:AV×List Blk) (h:(if k<(x.length:Int) then (0≤k∧(∃ (e1:Int),x[k.toNat]?=some e1∧(0≤i∧(∃ (e2:Int),masks[i.toNat]?=some e2∧(∃ (v3_0:List Int),Zgz q e1 (w (e2 - e1))=some (.own 0,[.arr 3 1 true (v3_0.map ic)])∧(x1.length+1≤68719476736∧(Zim q out masks mask x (x1++[v3_0]) i (w (k+1))=some r))))))) else (out.length+1≤68719476736∧(Zd3 q (out++[(⟨mask,x,x1⟩:Zv)]) masks (w (i+1))=some r)))):Zim q out masks mask x x1 i k=some r:=by
 unfold Zim
 rw [EvL_eq Zl8.eq_1]
 simp only [Zgz,Zb.c_def,mpl,dfs] at h
 try simp only [itb] at h
 try simp only [itf,List.getElem?_eq_some_iff,kk] at h
 rcases h with ⟨q1,q2,e1,⟨g3,q3⟩,q4,e2,⟨g5,q5⟩,v3_0,q6,q7,h⟩ | ⟨q1,q8,h⟩
 all_goals (refine Eq.trans ?_ h;clear h;simp +decide [*,kk,Zim,Zd3,Zma,Zl9])
theorem Zbht (a:Zb) (r:AV×List Blk) (h:(∃ (v1_0:List Int),Zl6 a=some (.own 0,[.arr 3 1 true (v1_0.map ic)])∧(Zd3 a ([]:List Zv) v1_0 0=some r))):Zmd a=some r:=by
 unfold Zmd
 refine run Zbdy rfl ?_
 simp only [Zl6,Zb.c_def,mpl,dfs] at h
 rcases h with ⟨v1_0,q1,h⟩
 all_goals (refine Eq.trans ?_ h;clear h;simp +decide [*,kk,Z08,Zd3])
theorem Zu9 (out:List Int) (l:List Int) (i:Int) (r:AV×List Blk) (h:(if i<(l.length:Int) then (∃ (v1_0:Bool),Zgt l=some (Bo v1_0,[])∧(if v1_0=true then (0≤i∧(∃ (e2:Int),l[i.toNat]?=some e2∧(∃ (v3_0:Int),Zfh e2=some (I v3_0,[])∧(out.length+1≤68719476736∧(Zio (out++[v3_0]) l (w (i+1))=some r))))) else (some (.own 0,[.arr 3 1 true (out.map ic)])=some r))) else (some (.own 0,[.arr 3 1 true (out.map ic)])=some r))):Zio out l i=some r:=by
 unfold Zio
 rw [EvL_eq Zty.eq_1]
 simp only [Zgt,Zfh,mpl,dfs] at h
 try simp only [itb] at h
 try simp only [itf,List.getElem?_eq_some_iff,kk] at h
 rcases h with ⟨q1,v1_0,q2,(⟨q3,q4,e2,⟨g5,q5⟩,v3_0,q6,q7,h⟩ | ⟨q3,h⟩)⟩ | ⟨q1,h⟩
 all_goals (refine Eq.trans ?_ h;clear h;simp +decide [*,kk,Zio,Ztz])
theorem Z4l (a:List Int) (r:AV×List Blk) (h:(Zio ([]:List Int) a 0=some r)):Zin a=some r:=by
 unfold Zin
 refine run Zbdz rfl ?_
 refine Eq.trans ?_ h;clear h;simp +decide [*,kk,Z09,Zio]
theorem Z4m (out:List Int) (mask:Int) (i:Int) (r:AV×List Blk) (h:(if i<4 then (∃ (v1_0:Bool),Z1 mask 0 15=some (Bo v1_0,[])∧(if v1_0=true then (¬ i<0∧(if (andI (shrI mask i) 1)=1 then (out.length+1≤68719476736∧(Zg1 (out++[i]) mask (w (i+1))=some r)) else (Zg1 out mask (w (i+1))=some r))) else (some (.own 0,[.arr 3 1 true (out.map ic)])=some r))) else (some (.own 0,[.arr 3 1 true (out.map ic)])=some r))):Zg1 out mask i=some r:=by
 unfold Zg1
 rw [EvL_eq Zt0.eq_1]
 simp only [Z1,mpl,dfs] at h
 try simp only [itb] at h
 try simp only [itf,List.getElem?_eq_some_iff,kk] at h
 rcases h with ⟨q1,v1_0,q2,(⟨q3,q4,(⟨q5,q6,h⟩ | ⟨q5,h⟩)⟩ | ⟨q3,h⟩)⟩ | ⟨q1,h⟩
 all_goals (refine Eq.trans ?_ h;clear h;simp +decide [*,kk,Zg1,Z1a,Zt1])
theorem Zbhu (a:Int) (r:AV×List Blk) (h:(Zg1 ([]:List Int) a 0=some r)):Zmf a=some r:=by
 unfold Zmf
 refine run Zbd0 rfl ?_
 refine Eq.trans ?_ h;clear h;simp +decide [*,kk,Z1b,Zg1]
theorem Zbhv (a:Int) (r:AV×List Blk) (h:(some (.agg [.own 0],[.arr 142 3 true (([(⟨1,a,0⟩:Zc)]).map Zc.c)])=some r)):Zmg a=some r:=by
 unfold Zmg
 refine run Zbd1 rfl ?_
 refine Eq.trans ?_ h;clear h;simp +decide [*,kk,Z1c]
theorem Z4n (l:List Za) (mask:Int) (best:Int) (i:Int) (r:AV×List Blk) (h:(if i<(l.length:Int) then (0≤i∧(∃ (e1:Za),l[i.toNat]?=some e1∧(if e1.Mask=mask then (if best<0 then (Zep l mask i (w (i+1))=some r) else (0≤best∧(∃ (e2:Za),l[best.toNat]?=some e2∧(if e1.Cost<e2.Cost then (Zep l mask i (w (i+1))=some r) else (Zep l mask best (w (i+1))=some r))))) else (Zep l mask best (w (i+1))=some r)))) else (some (I best,[])=some r))):Zep l mask best i=some r:=by
 unfold Zep
 rw [EvL_eq Zt2.eq_1]
 try simp only [itb] at h
 try simp only [itf,List.getElem?_eq_some_iff,kk] at h
 rcases h with ⟨q1,q2,e1,⟨g3,q3⟩,(⟨q4,(⟨q5,h⟩ | ⟨q5,q6,e2,⟨g7,q7⟩,(⟨q8,h⟩ | ⟨q8,h⟩)⟩)⟩ | ⟨q4,h⟩)⟩ | ⟨q1,h⟩
 all_goals (refine Eq.trans ?_ h;clear h;simp +decide [*,kk,Zep,Z1d,Zt3])
theorem Zbhw (a:List Za) (a1:Int) (r:AV×List Blk) (h:(Zep a a1 (-1) 0=some r)):Zeo a a1=some r:=by
 unfold Zeo
 refine run Zbd2 rfl ?_
 refine Eq.trans ?_ h;clear h;simp +decide [*,kk,Z1e,Zep]
theorem Zbhx (a:Plan) (a1:Plan) (a2:Int) (a3:Int) (r:AV×List Blk) (h:(a.Steps.length≤68719476736∧(a.Steps.length+a1.Steps.length≤68719476736∧(a.Steps.length+a1.Steps.length+1≤68719476736∧(some (.agg [.own 0],[.arr 142 3 true (((a.Steps++a1.Steps)++[(⟨a2,0,a3⟩:Zc)]).map Zc.c)])=some r))))):Zcq a a1 a2 a3=some r:=by
 unfold Zcq
 refine run Zbd3 rfl ?_
 rcases h with ⟨q1,q2,q3,h⟩
 all_goals (refine Eq.trans ?_ h;clear h;simp +decide [*,kk,Z1f])
theorem Zbhy (x:List Int) (x1:List Za) (a:Zd) (a1:Za) (a2:Za) (a3:Int) (a4:Int) (a5:Int) (r:AV×List Blk) (h:(∃ (v1_0:Zi),Zcp a a3=some (.agg (v1_0.c.map .t),[])∧(0≤a1.Mask∧(∃ (e2:Int),x[a1.Mask.toNat]?=some e2∧(0≤a2.Mask∧(∃ (e3:Int),x[a2.Mask.toNat]?=some e3∧(0≤(orI a1.Mask a2.Mask)∧(∃ (e4:Int),x[(orI a1.Mask a2.Mask).toNat]?=some e4∧(∃ (v5_0:Int),Zbw v1_0 e2 e3 e4=some (I v5_0,[])∧(0≤(w (a5+1))∧(∃ (e6:Za),x1[(w (a5+1)).toNat]?=some e6∧(if e6.Mask=0 then (∃ (v7_0:List Zc),Zcq a1.Plan a2.Plan a3 a4=some (.agg [.own 0],[.arr 142 3 true (v7_0.map Zc.c)])∧(some (.tup [],[.arr 3 1 true (x.map ic),.arr 174 4 true ((x1.set ((w (a5+1)).toNat) (⟨(orI a1.Mask a2.Mask),a5,(w ((w (a1.Cost+a2.Cost))+v5_0)),(⟨v7_0⟩:Plan)⟩:Za)).map Za.c)])=some r)) else (if (w ((w (a1.Cost+a2.Cost))+v5_0))<e6.Cost then (∃ (v8_0:List Zc),Zcq a1.Plan a2.Plan a3 a4=some (.agg [.own 0],[.arr 142 3 true (v8_0.map Zc.c)])∧(some (.tup [],[.arr 3 1 true (x.map ic),.arr 174 4 true ((x1.set ((w (a5+1)).toNat) (⟨(orI a1.Mask a2.Mask),a5,(w ((w (a1.Cost+a2.Cost))+v5_0)),(⟨v8_0⟩:Plan)⟩:Za)).map Za.c)])=some r)) else (some (.tup [],[.arr 3 1 true (x.map ic),.arr 174 4 true (x1.map Za.c)])=some r)))))))))))))):Zfn x x1 a a1 a2 a3 a4 a5=some r:=by
 unfold Zfn
 refine runM Zpt rfl ?_
 simp only [Zcp,Zbw,Zcq,Zd.c_def,Zi.c_def,Plan.c_def,mpl,dfs] at h
 try simp only [itb] at h
 try simp only [itf,List.getElem?_eq_some_iff,kk] at h
 rcases h with ⟨v1_0,q1,q2,e2,⟨g3,q3⟩,q4,e3,⟨g5,q5⟩,q6,e4,⟨g7,q7⟩,v5_0,q8,q9,e6,⟨g10,q10⟩,(⟨q11,v7_0,q12,h⟩ | ⟨q11,(⟨q13,v8_0,q14,h⟩ | ⟨q13,h⟩)⟩)⟩
 all_goals (refine Eq.trans ?_ h;clear h;simp +decide [*,kk,Zmh])
theorem Z4o (l:List Za) (mask:Int) (order:Int) (i:Int) (r:AV×List Blk) (h:(if i<(l.length:Int) then (0≤i∧(∃ (e1:Za),l[i.toNat]?=some e1∧(if e1.Mask=mask then (if e1.Order=order then (some (I i,[])=some r) else (Zg2 l mask order (w (i+1))=some r)) else (Zg2 l mask order (w (i+1))=some r)))) else (some (I (-1),[])=some r))):Zg2 l mask order i=some r:=by
 unfold Zg2
 rw [EvL_eq Zt4.eq_1]
 try simp only [itb] at h
 try simp only [itf,List.getElem?_eq_some_iff,kk] at h
 rcases h with ⟨q1,q2,e1,⟨g3,q3⟩,(⟨q4,(⟨q5,h⟩ | ⟨q5,h⟩)⟩ | ⟨q4,h⟩)⟩ | ⟨q1,h⟩
 all_goals (refine Eq.trans ?_ h;clear h;simp +decide [*,kk,Zg2,Zt5])
theorem Zbhz (a:List Za) (a1:Int) (a2:Int) (r:AV×List Blk) (h:(Zg2 a a1 a2 0=some r)):Zip a a1 a2=some r:=by
 unfold Zip
 refine run Zbd4 rfl ?_
 refine Eq.trans ?_ h;clear h;simp +decide [*,kk,Z1g,Zg2]
theorem Zbh0 (a:Plan) (a1:Int) (r:AV×List Blk) (h:(a.Steps.length≤68719476736∧(a.Steps.length+1≤68719476736∧(some (.agg [.own 0],[.arr 142 3 true ((a.Steps++[(⟨2,0,a1⟩:Zc)]).map Zc.c)])=some r)))):Zj0 a a1=some r:=by
 unfold Zj0
 refine run Zbd5 rfl ?_
 rcases h with ⟨q1,q2,h⟩
 all_goals (refine Eq.trans ?_ h;clear h;simp +decide [*,kk,Z1h])
theorem Zbh1 (x:List Int) (x1:List Za) (x2:List Zc) (a:Zd) (a1:Za) (Mask:Int) (Order:Int) (Cost:Int) (a2:Int) (a3:Int) (a4:Int) (r:AV×List Blk) (h:(∃ (v1_0:Zi),Zcp a a2=some (.agg (v1_0.c.map .t),[])∧(0≤a1.Mask∧(∃ (e2:Int),x[a1.Mask.toNat]?=some e2∧(0≤Mask∧(∃ (e3:Int),x[Mask.toNat]?=some e3∧(0≤(orI a1.Mask Mask)∧(∃ (e4:Int),x[(orI a1.Mask Mask).toNat]?=some e4∧(∃ (v5_0:Int),Zbw v1_0 e2 e3 e4=some (I v5_0,[])∧(0≤(w (a4+1))∧(∃ (e6:Za),x1[(w (a4+1)).toNat]?=some e6∧(if e6.Mask=0 then (∃ (v7_0:List Zc),Zcq a1.Plan (⟨x2⟩:Plan) a2 a3=some (.agg [.own 0],[.arr 142 3 true (v7_0.map Zc.c)])∧(some (.tup [],[.arr 3 1 true (x.map ic),.arr 174 4 true ((x1.set ((w (a4+1)).toNat) (⟨(orI a1.Mask Mask),a4,(w ((w (a1.Cost+Cost))+v5_0)),(⟨v7_0⟩:Plan)⟩:Za)).map Za.c),.arr 142 3 true (x2.map Zc.c)])=some r)) else (if (w ((w (a1.Cost+Cost))+v5_0))<e6.Cost then (∃ (v8_0:List Zc),Zcq a1.Plan (⟨x2⟩:Plan) a2 a3=some (.agg [.own 0],[.arr 142 3 true (v8_0.map Zc.c)])∧(some (.tup [],[.arr 3 1 true (x.map ic),.arr 174 4 true ((x1.set ((w (a4+1)).toNat) (⟨(orI a1.Mask Mask),a4,(w ((w (a1.Cost+Cost))+v5_0)),(⟨v8_0⟩:Plan)⟩:Za)).map Za.c),.arr 142 3 true (x2.map Zc.c)])=some r)) else (some (.tup [],[.arr 3 1 true (x.map ic),.arr 174 4 true (x1.map Za.c),.arr 142 3 true (x2.map Zc.c)])=some r)))))))))))))):Zmi x x1 x2 a a1 Mask Order Cost a2 a3 a4=some r:=by
 unfold Zmi
 refine runM Zpt rfl ?_
 simp only [Zcp,Zbw,Zcq,Zd.c_def,Zi.c_def,Plan.c_def,mpl,dfs] at h
 try simp only [itb] at h
 try simp only [itf,List.getElem?_eq_some_iff,kk] at h
 rcases h with ⟨v1_0,q1,q2,e2,⟨g3,q3⟩,q4,e3,⟨g5,q5⟩,q6,e4,⟨g7,q7⟩,v5_0,q8,q9,e6,⟨g10,q10⟩,(⟨q11,v7_0,q12,h⟩ | ⟨q11,(⟨q13,v8_0,q14,h⟩ | ⟨q13,h⟩)⟩)⟩
 all_goals (refine Eq.trans ?_ h;clear h;simp +decide [*,kk,Zmh])
theorem Zbh2 (x:List Int) (x1:List Za) (x2:List Zc) (a:Zd) (Mask:Int) (Order:Int) (Cost:Int) (a1:Za) (a2:Int) (a3:Int) (a4:Int) (r:AV×List Blk) (h:(∃ (v1_0:Zi),Zcp a a2=some (.agg (v1_0.c.map .t),[])∧(0≤Mask∧(∃ (e2:Int),x[Mask.toNat]?=some e2∧(0≤a1.Mask∧(∃ (e3:Int),x[a1.Mask.toNat]?=some e3∧(0≤(orI Mask a1.Mask)∧(∃ (e4:Int),x[(orI Mask a1.Mask).toNat]?=some e4∧(∃ (v5_0:Int),Zbw v1_0 e2 e3 e4=some (I v5_0,[])∧(0≤(w (a4+1))∧(∃ (e6:Za),x1[(w (a4+1)).toNat]?=some e6∧(if e6.Mask=0 then (∃ (v7_0:List Zc),Zcq (⟨x2⟩:Plan) a1.Plan a2 a3=some (.agg [.own 0],[.arr 142 3 true (v7_0.map Zc.c)])∧(some (.tup [],[.arr 3 1 true (x.map ic),.arr 174 4 true ((x1.set ((w (a4+1)).toNat) (⟨(orI Mask a1.Mask),a4,(w ((w (Cost+a1.Cost))+v5_0)),(⟨v7_0⟩:Plan)⟩:Za)).map Za.c),.arr 142 3 true (x2.map Zc.c)])=some r)) else (if (w ((w (Cost+a1.Cost))+v5_0))<e6.Cost then (∃ (v8_0:List Zc),Zcq (⟨x2⟩:Plan) a1.Plan a2 a3=some (.agg [.own 0],[.arr 142 3 true (v8_0.map Zc.c)])∧(some (.tup [],[.arr 3 1 true (x.map ic),.arr 174 4 true ((x1.set ((w (a4+1)).toNat) (⟨(orI Mask a1.Mask),a4,(w ((w (Cost+a1.Cost))+v5_0)),(⟨v8_0⟩:Plan)⟩:Za)).map Za.c),.arr 142 3 true (x2.map Zc.c)])=some r)) else (some (.tup [],[.arr 3 1 true (x.map ic),.arr 174 4 true (x1.map Za.c),.arr 142 3 true (x2.map Zc.c)])=some r)))))))))))))):Zmj x x1 x2 a Mask Order Cost a1 a2 a3 a4=some r:=by
 unfold Zmj
 refine runM Zpt rfl ?_
 simp only [Zcp,Zbw,Zcq,Zd.c_def,Zi.c_def,Plan.c_def,mpl,dfs] at h
 try simp only [itb] at h
 try simp only [itf,List.getElem?_eq_some_iff,kk] at h
 rcases h with ⟨v1_0,q1,q2,e2,⟨g3,q3⟩,q4,e3,⟨g5,q5⟩,q6,e4,⟨g7,q7⟩,v5_0,q8,q9,e6,⟨g10,q10⟩,(⟨q11,v7_0,q12,h⟩ | ⟨q11,(⟨q13,v8_0,q14,h⟩ | ⟨q13,h⟩)⟩)⟩
 all_goals (refine Eq.trans ?_ h;clear h;simp +decide [*,kk,Zmh])
theorem Zbh3 (x:List Int) (x1:List Za) (x2:List Zc) (x3:List Zc) (a:Zd) (Mask:Int) (Order:Int) (Cost:Int) (Mask1:Int) (Order1:Int) (Cost1:Int) (a1:Int) (a2:Int) (a3:Int) (r:AV×List Blk) (h:(∃ (v1_0:Zi),Zcp a a1=some (.agg (v1_0.c.map .t),[])∧(0≤Mask∧(∃ (e2:Int),x[Mask.toNat]?=some e2∧(0≤Mask1∧(∃ (e3:Int),x[Mask1.toNat]?=some e3∧(0≤(orI Mask Mask1)∧(∃ (e4:Int),x[(orI Mask Mask1).toNat]?=some e4∧(∃ (v5_0:Int),Zbw v1_0 e2 e3 e4=some (I v5_0,[])∧(0≤(w (a3+1))∧(∃ (e6:Za),x1[(w (a3+1)).toNat]?=some e6∧(if e6.Mask=0 then (∃ (v7_0:List Zc),Zcq (⟨x2⟩:Plan) (⟨x3⟩:Plan) a1 a2=some (.agg [.own 0],[.arr 142 3 true (v7_0.map Zc.c)])∧(some (.tup [],[.arr 3 1 true (x.map ic),.arr 174 4 true ((x1.set ((w (a3+1)).toNat) (⟨(orI Mask Mask1),a3,(w ((w (Cost+Cost1))+v5_0)),(⟨v7_0⟩:Plan)⟩:Za)).map Za.c),.arr 142 3 true (x2.map Zc.c),.arr 142 3 true (x3.map Zc.c)])=some r)) else (if (w ((w (Cost+Cost1))+v5_0))<e6.Cost then (∃ (v8_0:List Zc),Zcq (⟨x2⟩:Plan) (⟨x3⟩:Plan) a1 a2=some (.agg [.own 0],[.arr 142 3 true (v8_0.map Zc.c)])∧(some (.tup [],[.arr 3 1 true (x.map ic),.arr 174 4 true ((x1.set ((w (a3+1)).toNat) (⟨(orI Mask Mask1),a3,(w ((w (Cost+Cost1))+v5_0)),(⟨v8_0⟩:Plan)⟩:Za)).map Za.c),.arr 142 3 true (x2.map Zc.c),.arr 142 3 true (x3.map Zc.c)])=some r)) else (some (.tup [],[.arr 3 1 true (x.map ic),.arr 174 4 true (x1.map Za.c),.arr 142 3 true (x2.map Zc.c),.arr 142 3 true (x3.map Zc.c)])=some r)))))))))))))):Zmk x x1 x2 x3 a Mask Order Cost Mask1 Order1 Cost1 a1 a2 a3=some r:=by
 unfold Zmk
 refine runM Zpt rfl ?_
 simp only [Zcp,Zbw,Zcq,Zd.c_def,Zi.c_def,Plan.c_def,mpl,dfs] at h
 try simp only [itb] at h
 try simp only [itf,List.getElem?_eq_some_iff,kk] at h
 rcases h with ⟨v1_0,q1,q2,e2,⟨g3,q3⟩,q4,e3,⟨g5,q5⟩,q6,e4,⟨g7,q7⟩,v5_0,q8,q9,e6,⟨g10,q10⟩,(⟨q11,v7_0,q12,h⟩ | ⟨q11,(⟨q13,v8_0,q14,h⟩ | ⟨q13,h⟩)⟩)⟩
 all_goals (refine Eq.trans ?_ h;clear h;simp +decide [*,kk,Zmh])
theorem Zva (x:List Int) (fr:Bool) (x1:List Za) (a:Zd) (a1:Int) (a2:Int) (r:AV×List Blk) (h:(∃ (v1_0:Int),Zeo x1 a1=some (I v1_0,[])∧(0≤v1_0∧(∃ (e2:Za),x1[v1_0.toNat]?=some e2∧(0≤a1∧(∃ (e3:Int),x[a1.toNat]?=some e3∧(∃ (v4_0:Int),Zbw a.Sort_ e3 0 e3=some (I v4_0,[])∧(∃ (v5_0:Int),Zip x1 a1 a2=some (I v5_0,[])∧(if 0≤v5_0 then (∃ (e6:Za),x1[v5_0.toNat]?=some e6∧(if e6.Cost≤(w (e2.Cost+v4_0)) then (some (.agg (e6.c.map .t),[.arr 3 1 true (x.map ic),.arr 174 4 fr (x1.map Za.c)])=some r) else (∃ (v7_0:List Zc),Zj0 e2.Plan a2=some (.agg [.own 0],[.arr 142 3 true (v7_0.map Zc.c)])∧(some (.agg [I a1,I a2,I (w (e2.Cost+v4_0)),.own 2],[.arr 3 1 true (x.map ic),.arr 174 4 fr (x1.map Za.c),.arr 142 3 true (v7_0.map Zc.c)])=some r)))) else (∃ (v8_0:List Zc),Zj0 e2.Plan a2=some (.agg [.own 0],[.arr 142 3 true (v8_0.map Zc.c)])∧(some (.agg [I a1,I a2,I (w (e2.Cost+v4_0)),.own 2],[.arr 3 1 true (x.map ic),.arr 174 4 fr (x1.map Za.c),.arr 142 3 true (v8_0.map Zc.c)])=some r))))))))))):Zd4 x fr x1 a a1 a2=some r:=by
 unfold Zd4
 refine runM Zbd6 rfl ?_
 simp only [Zeo,Zbw,Zip,Zj0,Zi.c_def,Plan.c_def,Za.c_def,mpl,dfs] at h
 try simp only [itb] at h
 try simp only [itf,List.getElem?_eq_some_iff,kk] at h
 rcases h with ⟨v1_0,q1,q2,e2,⟨g3,q3⟩,q4,e3,⟨g5,q5⟩,v4_0,q6,v5_0,q7,(⟨q8,e6,⟨g9,q9⟩,(⟨q10,h⟩ | ⟨q10,v7_0,q11,h⟩)⟩ | ⟨q8,v8_0,q12,h⟩)⟩
 all_goals (refine Eq.trans ?_ h;clear h;simp +decide [*,kk,Z1i])
end Go.Proofs.YtbapkgocloaaeaaGreat
/- part: G12 -/
namespace Go.Proofs.YtbapkgocloaaeaaGreat
open Go.AM
theorem Z4p (sizes:List Int) (fr:Bool) (l:List Za) (m:Zd) (x:Zv) (mine:List Za) (k:Int) (r:AV×List Blk) (h:(if k<(x.Zt.length:Int) then (0≤k∧(∃ (e1:Int),x.Zt[k.toNat]?=some e1∧(∃ (v2_0:Int),Zeo l e1=some (I v2_0,[])∧(0≤v2_0∧(∃ (e3:Za),l[v2_0.toNat]?=some e3∧(∃ (v4_0:Int),Zeo l (w (x.mask - e1))=some (I v4_0,[])∧(0≤v4_0∧(∃ (e5:Za),l[v4_0.toNat]?=some e5∧(∃ (v6_0:List Int) (v6_1:List Za),Zfn sizes mine m e3 e5 3 0 (-1)=some (.tup [],[.arr 3 1 true (v6_0.map ic),.arr 174 4 true (v6_1.map Za.c)])∧(Zg4 v6_0 fr l m x v6_1 e5 k e1 (w (x.mask - e1)) (-1)=some r)))))))))) else (Zfo mine true ([]:List Za) sizes fr l 0=some r))):Zg3 sizes fr l m x mine k=some r:=by
 unfold Zg3
 rw [EvL_eq Zml.eq_1]
 simp only [Zeo,Zfn,Zd.c_def,Zi.c_def,Plan.c_def,Za.c_def,mpl,dfs] at h
 try simp only [itb] at h
 try simp only [itf,List.getElem?_eq_some_iff,kk] at h
 rcases h with ⟨q1,q2,e1,⟨g3,q3⟩,v2_0,q4,q5,e3,⟨g6,q6⟩,v4_0,q7,q8,e5,⟨g9,q9⟩,v6_0,v6_1,q10,h⟩ | ⟨q1,h⟩
 all_goals (refine Eq.trans ?_ h;clear h;simp +decide [*,kk,Zg4,Zfo,Zmm])
theorem Z4q (sizes:List Int) (fr:Bool) (l:List Za) (m:Zd) (x:Zv) (mine:List Za) (b:Za) (k:Int) (left:Int) (right:Int) (o:Int) (r:AV×List Blk) (h:(if o<4 then (∃ (v1_0:Int),Zip l left o=some (I v1_0,[])∧(if 0≤v1_0 then (∃ (e2:Za),l[v1_0.toNat]?=some e2∧(∃ (v3_0:List Int) (v3_1:List Za),Zfn sizes mine m e2 b 5 0 o=some (.tup [],[.arr 3 1 true (v3_0.map ic),.arr 174 4 true (v3_1.map Za.c)])∧(Zg4 v3_0 fr l m x v3_1 b k left right (w (o+1))=some r))) else (Zg4 sizes fr l m x mine b k left right (w (o+1))=some r))) else (Zd5 sizes fr l m x mine k left right 0=some r))):Zg4 sizes fr l m x mine b k left right o=some r:=by
 unfold Zg4
 rw [EvL_eq Zt6.eq_1]
 simp only [Zip,Zfn,Zd.c_def,Zi.c_def,Plan.c_def,Za.c_def,mpl,dfs] at h
 try simp only [itb] at h
 try simp only [itf,List.getElem?_eq_some_iff,kk] at h
 rcases h with ⟨q1,v1_0,q2,(⟨q3,e2,⟨g4,q4⟩,v3_0,v3_1,q5,h⟩ | ⟨q3,h⟩)⟩ | ⟨q1,h⟩
 all_goals (refine Eq.trans ?_ h;clear h;simp +decide [*,kk,Zg4,Z1j,Zd5,Zt8])
theorem Zvb (mine:List Za) (fr:Bool) (out:List Za) (x:List Int) (fr1:Bool) (x1:List Za) (o:Int) (r:AV×List Blk) (h:(if o≤4 then (0≤o∧(∃ (e1:Za),mine[o.toNat]?=some e1∧(if 0<e1.Mask then (out.length+1≤68719476736∧(Zfo mine false (out++[e1]) x fr1 x1 (w (o+1))=some r)) else (Zfo mine fr out x fr1 x1 (w (o+1))=some r)))) else (some (.own 2,[.arr 3 1 true (x.map ic),.arr 174 4 fr1 (x1.map Za.c),.arr 174 4 fr (out.map Za.c)])=some r))):Zfo mine fr out x fr1 x1 o=some r:=by
 unfold Zfo
 rw [EvL_eq Zt9.eq_1]
 try simp only [itb] at h
 try simp only [itf,List.getElem?_eq_some_iff,kk] at h
 rcases h with ⟨q1,q2,e1,⟨g3,q3⟩,(⟨q4,q5,h⟩ | ⟨q4,h⟩)⟩ | ⟨q1,h⟩
 all_goals (refine Eq.trans ?_ h;clear h;simp +decide [*,kk,Zfo,Z1k,Zua])
theorem Z4r (sizes:List Int) (fr:Bool) (l:List Za) (m:Zd) (x:Zv) (mine:List Za) (k:Int) (left:Int) (right:Int) (e:Int) (r:AV×List Blk) (h:(0≤k∧(∃ (e1:List Int),x.shared[k.toNat]?=some e1∧(if e<(e1.length:Int) then (0≤e∧(∃ (e2:Int),e1[e.toNat]?=some e2∧((∃ (v3_0:Za),Zd4 sizes fr l m left e2=some (.agg (v3_0.c.map .t),[.arr 3 1 true (sizes.map ic),.arr 174 4 fr (l.map Za.c)])∧((∃ (v4_0:Za),Zd4 sizes fr l m right e2=some (.agg (v4_0.c.map .t),[.arr 3 1 true (sizes.map ic),.arr 174 4 fr (l.map Za.c)])∧(∃ (v5_0:List Int) (v5_1:List Za),Zfn sizes mine m v3_0 v4_0 4 e2 e2=some (.tup [],[.arr 3 1 true (v5_0.map ic),.arr 174 4 true (v5_1.map Za.c)])∧(Zd5 v5_0 fr l m x v5_1 k left right (w (e+1))=some r)))∨(∃ (v6_0:List Zc) (v6_1:Int) (v6_2:Int) (v6_3:Int),Zd4 sizes fr l m right e2=some (.agg [I v6_1,I v6_2,I v6_3,.own 2],[.arr 3 1 true (sizes.map ic),.arr 174 4 fr (l.map Za.c),.arr 142 3 true (v6_0.map Zc.c)])∧(∃ (v7_0:List Int) (v7_1:List Za) (v7_2:List Zc),Zmi sizes mine v6_0 m v3_0 v6_1 v6_2 v6_3 4 e2 e2=some (.tup [],[.arr 3 1 true (v7_0.map ic),.arr 174 4 true (v7_1.map Za.c),.arr 142 3 true (v7_2.map Zc.c)])∧(Zd5 v7_0 fr l m x v7_1 k left right (w (e+1))=some r)))))∨(∃ (v8_0:List Zc) (v8_1:Int) (v8_2:Int) (v8_3:Int),Zd4 sizes fr l m left e2=some (.agg [I v8_1,I v8_2,I v8_3,.own 2],[.arr 3 1 true (sizes.map ic),.arr 174 4 fr (l.map Za.c),.arr 142 3 true (v8_0.map Zc.c)])∧((∃ (v9_0:Za),Zd4 sizes fr l m right e2=some (.agg (v9_0.c.map .t),[.arr 3 1 true (sizes.map ic),.arr 174 4 fr (l.map Za.c)])∧(∃ (v10_0:List Int) (v10_1:List Za) (v10_2:List Zc),Zmj sizes mine v8_0 m v8_1 v8_2 v8_3 v9_0 4 e2 e2=some (.tup [],[.arr 3 1 true (v10_0.map ic),.arr 174 4 true (v10_1.map Za.c),.arr 142 3 true (v10_2.map Zc.c)])∧(Zd5 v10_0 fr l m x v10_1 k left right (w (e+1))=some r)))∨(∃ (v11_0:List Zc) (v11_1:Int) (v11_2:Int) (v11_3:Int),Zd4 sizes fr l m right e2=some (.agg [I v11_1,I v11_2,I v11_3,.own 2],[.arr 3 1 true (sizes.map ic),.arr 174 4 fr (l.map Za.c),.arr 142 3 true (v11_0.map Zc.c)])∧(∃ (v12_0:List Int) (v12_1:List Za) (v12_2:List Zc) (v12_3:List Zc),Zmk sizes mine v8_0 v11_0 m v8_1 v8_2 v8_3 v11_1 v11_2 v11_3 4 e2 e2=some (.tup [],[.arr 3 1 true (v12_0.map ic),.arr 174 4 true (v12_1.map Za.c),.arr 142 3 true (v12_2.map Zc.c),.arr 142 3 true (v12_3.map Zc.c)])∧(Zd5 v12_0 fr l m x v12_1 k left right (w (e+1))=some r)))))))) else (Zg3 sizes fr l m x mine (w (k+1))=some r))))):Zd5 sizes fr l m x mine k left right e=some r:=by
 unfold Zd5
 rw [EvL_eq Zt7.eq_1]
 simp only [Zd4,Zfn,Zmi,Zmj,Zmk,Zd.c_def,Zi.c_def,Plan.c_def,Za.c_def,Zc.c_def,mpl,dfs] at h
 try simp only [itb] at h
 try simp only [itf,List.getElem?_eq_some_iff,kk] at h
 rcases h with ⟨q1,e1,⟨g2,q2⟩,(⟨q3,q4,e2,⟨g5,q5⟩,(⟨v3_0,q7,(⟨v4_0,q9,v5_0,v5_1,q10,h⟩ | ⟨v6_0,v6_1,v6_2,v6_3,q11,v7_0,v7_1,v7_2,q12,h⟩)⟩ | ⟨v8_0,v8_1,v8_2,v8_3,q13,(⟨v9_0,q15,v10_0,v10_1,v10_2,q16,h⟩ | ⟨v11_0,v11_1,v11_2,v11_3,q17,v12_0,v12_1,v12_2,v12_3,q18,h⟩)⟩)⟩ | ⟨q3,h⟩)⟩
 all_goals (refine Eq.trans ?_ h;clear h;simp +decide [*,kk,Zd5,Zg3,Zo9])
theorem Zbh4 (x:List Int) (fr:Bool) (x1:List Za) (a:Zd) (a1:Zv) (r:AV×List Blk) (h:(Zg3 x fr x1 a a1 (List.replicate 5 (⟨0,0,0,(⟨[]⟩:Plan)⟩:Za)) 0=some r)):Zmn x fr x1 a a1=some r:=by
 unfold Zmn
 refine runM Zbd7 rfl ?_
 refine Eq.trans ?_ h;clear h;simp +decide [*,kk,Z1l,Zg3]
theorem Zvc (shapes:List Zv) (sizes:List Int) (m:Zd) (q:Zb) (fr:Bool) (out:List Za) (i:Int) (r:AV×List Blk) (h:(if i<(shapes.length:Int) then (0≤i∧(∃ (e1:Zv),shapes[i.toNat]?=some e1∧(if (andI e1.mask (w (e1.mask - 1)))=0 then (∃ (v2_0:List Int),Zmf e1.mask=some (.own 0,[.arr 3 1 true (v2_0.map ic)])∧(∃ (e3:Int),v2_0[0]?=some e3∧(0≤e3∧(∃ (e4:Atom),q.Atoms[e3.toNat]?=some e4∧(∃ (e5:Int),e4.Vars[0]?=some e5∧(0≤e1.mask∧(∃ (e6:Int),sizes[e1.mask.toNat]?=some e6∧(∃ (v7_0:Int),Zbw m.Scan e6 0 e6=some (I v7_0,[])∧(∃ (v8_0:List Zc),Zmg e3=some (.agg [.own 0],[.arr 142 3 true (v8_0.map Zc.c)])∧(out.length+1≤68719476736∧(Zg5 shapes sizes m q fr (out++[(⟨e1.mask,e5,v7_0,(⟨v8_0⟩:Plan)⟩:Za)]) (w (i+1))=some r))))))))))) else (∃ (v9_0:Bool) (v9_1:List Za),Zmn sizes fr out m e1=some (.own 2,[.arr 3 1 true (sizes.map ic),.arr 174 4 fr (out.map Za.c),.arr 174 4 v9_0 (v9_1.map Za.c)])∧(out.length+v9_1.length≤68719476736∧(Zg5 shapes sizes m q (fr && flat (v9_1.map Za.c)) (out++v9_1) (w (i+1))=some r)))))) else (some (.own 2,[.arr 242 3 true (shapes.map Zv.c),.arr 3 1 true (sizes.map ic),.arr 174 4 fr (out.map Za.c)])=some r))):Zg5 shapes sizes m q fr out i=some r:=by
 unfold Zg5
 rw [EvL_eq Zub.eq_1]
 simp only [Zmf,Zbw,Zmg,Zmn,Zv.c_def,Zd.c_def,Zi.c_def,Plan.c_def,Za.c_def,mpl,dfs] at h
 try simp only [itb] at h
 try simp only [itf,List.getElem?_eq_some_iff,kk] at h
 rcases h with ⟨q1,q2,e1,⟨g3,q3⟩,(⟨q4,v2_0,q5,e3,⟨g6,q6⟩,q7,e4,⟨g8,q8⟩,e5,⟨g9,q9⟩,q10,e6,⟨g11,q11⟩,v7_0,q12,v8_0,q13,q14,h⟩ | ⟨q4,v9_0,v9_1,q15,q16,h⟩)⟩ | ⟨q1,h⟩
 all_goals (refine Eq.trans ?_ h;clear h;simp +decide [*,kk,Zg5,Z1m,Zuc])
theorem Zbh5 (x:List Zv) (x1:List Int) (a:Zd) (a1:Zb) (r:AV×List Blk) (h:(Zg5 x x1 a a1 true ([]:List Za) 0=some r)):Zmo x x1 a a1=some r:=by
 unfold Zmo
 refine runM Zbd8 rfl ?_
 refine Eq.trans ?_ h;clear h;simp +decide [*,kk,Z1n,Zg5]
theorem Zbh6 (a:List Za) (a1:Int) (r:AV×List Blk) (h:(∃ (v1_0:Int),Zeo a a1=some (I v1_0,[])∧(if v1_0<0 then (some (.tup [.agg [I 0,I 0,I 0,.t .nil],Bo false],[])=some r) else (0≤v1_0∧(∃ (e2:Za),a[v1_0.toNat]?=some e2∧(e2.Plan.Steps.length≤68719476736∧(some (.tup [.agg [I e2.Mask,I e2.Order,I e2.Cost,.own 0],Bo true],[.arr 142 3 true (e2.Plan.Steps.map Zc.c)])=some r))))))):Zj1 a a1=some r:=by
 unfold Zj1
 refine run Zbd9 rfl ?_
 simp only [Zeo,Plan.c_def,Za.c_def,mpl,dfs] at h
 try simp only [itb] at h
 try simp only [itf,List.getElem?_eq_some_iff,kk] at h
 rcases h with ⟨v1_0,q1,(⟨q2,h⟩ | ⟨q2,q3,e2,⟨g4,q4⟩,q5,h⟩)⟩
 all_goals (refine Eq.trans ?_ h;clear h;simp +decide [*,kk,Z1o])
theorem Z4s (sizes:List Int) (i:Int) (r:AV×List Blk) (h:(if i<(sizes.length:Int) then (0≤i∧(∃ (e1:Int),sizes[i.toNat]?=some e1∧(∃ (v2_0:Bool),Z1 e1 0 4096=some (Bo v2_0,[])∧(if v2_0=true then (Ziq sizes (w (i+1))=some r) else (some (Bo false,[])=some r))))) else (some (Bo true,[])=some r))):Ziq sizes i=some r:=by
 unfold Ziq
 rw [EvL_eq Zud.eq_1]
 simp only [Z1,mpl,dfs] at h
 try simp only [itb] at h
 try simp only [itf,List.getElem?_eq_some_iff,kk] at h
 rcases h with ⟨q1,q2,e1,⟨g3,q3⟩,v2_0,q4,(⟨q5,h⟩ | ⟨q5,h⟩)⟩ | ⟨q1,h⟩
 all_goals (refine Eq.trans ?_ h;clear h;simp +decide [*,kk,Ziq,Zue])
theorem Zbh7 (a:Zb) (a1:List Int) (r:AV×List Blk) (h:(∃ (v1_0:Bool),Zd1 a=some (Bo v1_0,[])∧(if v1_0=true then (∃ (v2_0:Int),Zc8 a=some (I v2_0,[])∧(if (a1.length:Int)=(w (v2_0+1)) then (Ziq a1 0=some r) else (some (Bo false,[])=some r))) else (some (Bo false,[])=some r)))):Zmp a a1=some r:=by
 unfold Zmp
 refine run Zbea rfl ?_
 simp only [Zd1,Zc8,Zb.c_def,mpl,dfs] at h
 try simp only [itb] at h
 try simp only [itf,List.getElem?_eq_some_iff,kk] at h
 rcases h with ⟨v1_0,q1,(⟨q2,v2_0,q3,(⟨q4,h⟩ | ⟨q4,h⟩)⟩ | ⟨q2,h⟩)⟩
 all_goals (refine Eq.trans ?_ h;clear h;simp +decide [*,kk,Z1p,Ziq])
theorem Zbh8 (a:Zd) (a1:Int) (a2:List Zh) (a3:Int) (a4:List Int) (r:AV×List Blk) (h:(0≤a3∧(∃ (e1:Zh),a2[a3.toNat]?=some e1∧(∃ (v2_0:Zi),Zcp a a1=some (.agg (v2_0.c.map .t),[])∧(if e1.Left<0 then (0≤e1.Mask∧(∃ (e3:Int),a4[e1.Mask.toNat]?=some e3∧(∃ (v4_0:Int),Zbw v2_0 e3 0 e3=some (I v4_0,[])∧(some (I v4_0,[])=some r)))) else (if e1.Right<0 then (0≤e1.Left∧(∃ (e5:Zh),a2[e1.Left.toNat]?=some e5∧(0≤e5.Mask∧(∃ (e6:Int),a4[e5.Mask.toNat]?=some e6∧(0≤e1.Mask∧(∃ (e7:Int),a4[e1.Mask.toNat]?=some e7∧(∃ (v8_0:Int),Zbw v2_0 e6 0 e7=some (I v8_0,[])∧(some (I v8_0,[])=some r)))))))) else (0≤e1.Left∧(∃ (e9:Zh),a2[e1.Left.toNat]?=some e9∧(0≤e9.Mask∧(∃ (e10:Int),a4[e9.Mask.toNat]?=some e10∧(0≤e1.Right∧(∃ (e11:Zh),a2[e1.Right.toNat]?=some e11∧(0≤e11.Mask∧(∃ (e12:Int),a4[e11.Mask.toNat]?=some e12∧(0≤e1.Mask∧(∃ (e13:Int),a4[e1.Mask.toNat]?=some e13∧(∃ (v14_0:Int),Zbw v2_0 e10 e12 e13=some (I v14_0,[])∧(some (I v14_0,[])=some r)))))))))))))))))):Zmq a a1 a2 a3 a4=some r:=by
 unfold Zmq
 refine run Zbeb rfl ?_
 simp only [Zcp,Zbw,Zd.c_def,Zi.c_def,mpl,dfs] at h
 try simp only [itb] at h
 try simp only [itf,List.getElem?_eq_some_iff,kk] at h
 rcases h with ⟨q1,e1,⟨g2,q2⟩,v2_0,q3,(⟨q4,q5,e3,⟨g6,q6⟩,v4_0,q7,h⟩ | ⟨q4,(⟨q8,q9,e5,⟨g10,q10⟩,q11,e6,⟨g12,q12⟩,q13,e7,⟨g14,q14⟩,v8_0,q15,h⟩ | ⟨q8,q16,e9,⟨g17,q17⟩,q18,e10,⟨g19,q19⟩,q20,e11,⟨g21,q21⟩,q22,e12,⟨g23,q23⟩,q24,e13,⟨g25,q25⟩,v14_0,q26,h⟩)⟩)⟩
 all_goals (refine Eq.trans ?_ h;clear h;simp +decide [*,kk,Z1q])
theorem Z4t (m:Zd) (p:Plan) (out:List Int) (info:List Zh) (sizes:List Int) (i:Int) (r:AV×List Blk) (h:(if i<(info.length:Int) then (0≤i∧(∃ (e1:Zc),p.Steps[i.toNat]?=some e1∧(∃ (v2_0:Int),Zmq m e1.Kind info i sizes=some (I v2_0,[])∧(out.length+1≤68719476736∧(Zir m p (out++[v2_0]) info sizes (w (i+1))=some r))))) else (some (.own 0,[.arr 3 1 true (out.map ic)])=some r))):Zir m p out info sizes i=some r:=by
 unfold Zir
 rw [EvL_eq Zuf.eq_1]
 simp only [Zmq,Zd.c_def,Zi.c_def,Zh.c_def,mpl,dfs] at h
 try simp only [itb] at h
 try simp only [itf,List.getElem?_eq_some_iff,kk] at h
 rcases h with ⟨q1,q2,e1,⟨g3,q3⟩,v2_0,q4,q5,h⟩ | ⟨q1,h⟩
 all_goals (refine Eq.trans ?_ h;clear h;simp +decide [*,kk,Zir,Zug])
theorem Zbh9 (a:Zd) (a1:Zb) (a2:Plan) (a3:List Int) (r:AV×List Blk) (h:(∃ (v1_0:List Zh) (v1_1:Bool),Zik a1 a2=some (.tup [.own 0,Bo v1_1],[.arr 138 4 true (v1_0.map Zh.c)])∧(if v1_1=true then (∃ (v2_0:Bool),Zmp a1 a3=some (Bo v2_0,[])∧(if v2_0=true then (Zir a a2 ([]:List Int) v1_0 a3 0=some r) else (some (.own 0,[.arr 3 1 true (([]:List Int).map ic)])=some r))) else (some (.own 0,[.arr 3 1 true (([]:List Int).map ic)])=some r)))):Zmr a a1 a2 a3=some r:=by
 unfold Zmr
 refine run Zbec rfl ?_
 simp only [Zik,Zmp,Plan.c_def,Zb.c_def,mpl,dfs] at h
 try simp only [itb] at h
 try simp only [itf,List.getElem?_eq_some_iff,kk] at h
 rcases h with ⟨v1_0,v1_1,q1,(⟨q2,v2_0,q3,(⟨q4,h⟩ | ⟨q4,h⟩)⟩ | ⟨q2,h⟩)⟩
 all_goals (refine Eq.trans ?_ h;clear h;simp +decide [*,kk,Z1r,Zir])
theorem Z4u (l:List Int) (n:Int) (i:Int) (r:AV×List Blk) (h:(if i<(l.length:Int) then (0≤i∧(∃ (e1:Int),l[i.toNat]?=some e1∧(Zis l (w (n+e1)) (w (i+1))=some r))) else (some (I n,[])=some r))):Zis l n i=some r:=by
 unfold Zis
 rw [EvL_eq Zuh.eq_1]
 try simp only [itb] at h
 try simp only [itf,List.getElem?_eq_some_iff,kk] at h
 rcases h with ⟨q1,q2,e1,⟨g3,q3⟩,h⟩ | ⟨q1,h⟩
 all_goals (refine Eq.trans ?_ h;clear h;simp +decide [*,kk,Zis,Zui])
theorem Zbia (a:Zd) (a1:Zb) (a2:Plan) (a3:List Int) (r:AV×List Blk) (h:(∃ (v1_0:List Int),Zmr a a1 a2 a3=some (.own 0,[.arr 3 1 true (v1_0.map ic)])∧(if (v1_0.length:Int)=0 then (some (I (-1),[])=some r) else (Zis v1_0 0 0=some r)))):Zms a a1 a2 a3=some r:=by
 unfold Zms
 refine run Zbed rfl ?_
 simp only [Zmr,Zd.c_def,Zi.c_def,Plan.c_def,Zb.c_def,mpl,dfs] at h
 try simp only [itb] at h
 try simp only [itf,List.getElem?_eq_some_iff,kk] at h
 rcases h with ⟨v1_0,q1,(⟨q2,h⟩ | ⟨q2,h⟩)⟩
 all_goals (refine Eq.trans ?_ h;clear h;simp +decide [*,kk,Z1s,Zis])
theorem Zbib (a:Zd) (a1:Zb) (a2:Plan) (a3:List Int) (r:AV×List Blk) (h:(∃ (v1_0:List Int),Zin a3=some (.own 0,[.arr 3 1 true (v1_0.map ic)])∧(∃ (v2_0:Int),Zms a a1 a2 v1_0=some (I v2_0,[])∧(some (I v2_0,[])=some r)))):Zmt a a1 a2 a3=some r:=by
 unfold Zmt
 refine run Zbee rfl ?_
 simp only [Zin,Zms,Zd.c_def,Zi.c_def,Plan.c_def,Zb.c_def,mpl,dfs] at h
 rcases h with ⟨v1_0,q1,v2_0,q2,h⟩
 all_goals (refine Eq.trans ?_ h;clear h;simp +decide [*,kk,Z1t])
theorem Zbic (a:Zd) (a1:Zb) (a2:Region) (r:AV×List Blk) (h:(∃ (v1_0:List Zv),Zmd a1=some (.own 0,[.arr 242 3 true (v1_0.map Zv.c)])∧(∃ (v2_0:List Int),Zin a2.Box.Low=some (.own 0,[.arr 3 1 true (v2_0.map ic)])∧(∃ (v3_0:Bool) (v3_1:List Za),Zmo v1_0 v2_0 a a1=some (.own 2,[.arr 242 3 true (v1_0.map Zv.c),.arr 3 1 true (v2_0.map ic),.arr 174 4 v3_0 (v3_1.map Za.c)])∧(∃ (v4_0:Int),Zc8 a1=some (I v4_0,[])∧((∃ (v5_0:Int) (v5_1:Int) (v5_2:Int),Zj1 v3_1 v4_0=some (.tup [.agg [I v5_0,I v5_1,I v5_2,.t .nil],Bo false],[])∧(some (Bo false,[])=some r))∨(∃ (v6_0:List Zc) (v6_1:Int) (v6_2:Int) (v6_3:Int),Zj1 v3_1 v4_0=some (.tup [.agg [I v6_1,I v6_2,I v6_3,.own 0],Bo true],[.arr 142 3 true (v6_0.map Zc.c)])∧(∃ (v7_0:Int),Zmt a a1 a2.Plan a2.Box.High=some (I v7_0,[])∧(some (Bo (decide ((w (v7_0*100))≤(w (a2.Percent*v6_3)))),[])=some r))))))))):Zd6 a a1 a2=some r:=by
 unfold Zd6
 refine run Zbef rfl ?_
 simp only [Zmd,Zin,Zmo,Zc8,Zj1,Zmt,Zv.c_def,Zd.c_def,Zi.c_def,Plan.c_def,Za.c_def,Zb.c_def,mpl,dfs] at h
 rcases h with ⟨v1_0,q1,v2_0,q2,v3_0,v3_1,q3,v4_0,q4,(⟨v5_0,v5_1,v5_2,q6,h⟩ | ⟨v6_0,v6_1,v6_2,v6_3,q7,v7_0,q8,h⟩)⟩
 all_goals (refine Eq.trans ?_ h;clear h;simp +decide [*,kk,Z1u])
theorem Zbid (a:Zd) (a1:Zb) (a2:Region) (r:AV×List Blk) (h:(∃ (v1_0:Bool),Zl0 a=some (Bo v1_0,[])∧(if v1_0=true then (∃ (v2_0:Int),Zc8 a1=some (I v2_0,[])∧(∃ (v3_0:Bool),Zif a1 v2_0=some (Bo v3_0,[])∧(if v3_0=true then (∃ (v4_0:Bool),Zl5 a1 a2=some (Bo v4_0,[])∧(if v4_0=true then (∃ (v5_0:Bool),Zd6 a a1 a2=some (Bo v5_0,[])∧(some (Bo v5_0,[])=some r)) else (some (Bo false,[])=some r))) else (some (Bo false,[])=some r)))) else (some (Bo false,[])=some r)))):Zmu a a1 a2=some r:=by
 unfold Zmu
 refine run Zbeg rfl ?_
 simp only [Zl0,Zc8,Zif,Zl5,Zd6,Box.c_def,Zd.c_def,Zi.c_def,Plan.c_def,Zb.c_def,Region.c_def,mpl,dfs] at h
 try simp only [itb] at h
 try simp only [itf,List.getElem?_eq_some_iff,kk] at h
 rcases h with ⟨v1_0,q1,(⟨q2,v2_0,q3,v3_0,q4,(⟨q5,v4_0,q6,(⟨q7,v5_0,q8,h⟩ | ⟨q7,h⟩)⟩ | ⟨q5,h⟩)⟩ | ⟨q2,h⟩)⟩
 all_goals (refine Eq.trans ?_ h;clear h;simp +decide [*,kk,Z1v])
theorem Z4v (b:Box) (n:Int) (x:Int) (x1:Int) (r:AV×List Blk) (h:(if x1<x then (0≤x1∧(∃ (e1:Int),b.High[x1.toNat]?=some e1∧(∃ (e2:Int),b.Low[x1.toNat]?=some e2∧(Zit b (w (n*(w ((w (e1 - e2))+1)))) x (w (x1+1))=some r)))) else (some (I n,[])=some r))):Zit b n x x1=some r:=by
 unfold Zit
 rw [EvL_eq Zuj.eq_1]
 try simp only [itb] at h
 try simp only [itf,List.getElem?_eq_some_iff,kk] at h
 rcases h with ⟨q1,q2,e1,⟨g3,q3⟩,e2,⟨g4,q4⟩,h⟩ | ⟨q1,h⟩
 all_goals (refine Eq.trans ?_ h;clear h;simp +decide [*,kk,Zit,Zuk])
theorem Zbie (a:Box) (r:AV×List Blk) (h:(Zit a 1 (a.Low.length:Int) 0=some r)):Zmv a=some r:=by
 unfold Zmv
 refine run Zbeh rfl ?_
 refine Eq.trans ?_ h;clear h;simp +decide [*,kk,Z1w,Zit]
theorem Zbif (a:Box) (r:AV×List Blk) (h:(∃ (v1_0:Bool),Zey a=some (Bo v1_0,[])∧(if v1_0=true then (∃ (v2_0:Int),Zmv a=some (I v2_0,[])∧(some (I (if 401<v2_0 then 401 else v2_0),[])=some r)) else (some (I 0,[])=some r)))):Zul a=some r:=by
 unfold Zul
 refine run Zbei rfl ?_
 simp only [Zey,Zmv,Box.c_def,mpl,dfs] at h
 try simp only [itb] at h
 try simp only [itf,List.getElem?_eq_some_iff,kk] at h
 rcases h with ⟨v1_0,q1,(⟨q2,v2_0,q3,h⟩ | ⟨q2,h⟩)⟩
 all_goals (refine Eq.trans ?_ h;clear h;simp +decide [*,kk,Z1x])
end Go.Proofs.YtbapkgocloaaeaaGreat
/- part: G13 -/
namespace Go.Proofs.YtbapkgocloaaeaaGreat
open Go.AM
theorem Z4w (b:Box) (n:Int) (i:Int) (r:AV×List Blk) (h:(if i<(b.Low.length:Int) then (0≤i∧(∃ (e1:Int),b.High[i.toNat]?=some e1∧(∃ (e2:Int),b.Low[i.toNat]?=some e2∧(Ziu b (if (w (n*(w ((w (e1 - e2))+1))))<401 then (w (n*(w ((w (e1 - e2))+1)))) else 401) (w (i+1))=some r)))) else (some (I n,[])=some r))):Ziu b n i=some r:=by
 unfold Ziu
 rw [EvL_eq Zum.eq_1]
 try simp only [itb] at h
 try simp only [itf,List.getElem?_eq_some_iff,kk] at h
 rcases h with ⟨q1,q2,e1,⟨g3,q3⟩,e2,⟨g4,q4⟩,h⟩ | ⟨q1,h⟩
 all_goals (refine Eq.trans ?_ h;clear h;simp +decide [*,kk,Ziu,Zun])
theorem Zbig (a:Box) (r:AV×List Blk) (h:(∃ (v1_0:Bool),Zfl a=some (Bo v1_0,[])∧(if v1_0=true then (Ziu a 1 0=some r) else (some (I 0,[])=some r)))):Zuo a=some r:=by
 unfold Zuo
 refine run Zbej rfl ?_
 simp only [Zfl,Box.c_def,mpl,dfs] at h
 try simp only [itb] at h
 try simp only [itf,List.getElem?_eq_some_iff,kk] at h
 rcases h with ⟨v1_0,q1,(⟨q2,h⟩ | ⟨q2,h⟩)⟩
 all_goals (refine Eq.trans ?_ h;clear h;simp +decide [*,kk,Z1y,Ziu])
theorem Zbih (a:Zf) (a1:Zf) (r:AV×List Blk) (h:(some (Bo (decide (a.Used=a1.Used)),[])=some r)):Zpa a a1=some r:=by
 unfold Zpa
 refine run Zbek rfl ?_
 refine Eq.trans ?_ h;clear h;simp +decide [*,kk,Z1z]
theorem Z4x (s:List Zf) (f:Zf) (x:Int) (x1:Int) (r:AV×List Blk) (h:(if x1<x then (0≤x1∧(∃ (e1:Zf),s[x1.toNat]?=some e1∧(∃ (v2_0:Bool),Zpa e1 f=some (Bo v2_0,[])∧(if v2_0=true then (some (I x1,[])=some r) else (Ziv s f x (w (x1+1))=some r))))) else (some (I (-1),[])=some r))):Ziv s f x x1=some r:=by
 unfold Ziv
 rw [EvL_eq Zmw.eq_1]
 simp only [Zpa,Box.c_def,Zf.c_def,Plan.c_def,Zb.c_def,Region.c_def,mpl,dfs] at h
 try simp only [itb] at h
 try simp only [itf,List.getElem?_eq_some_iff,kk] at h
 rcases h with ⟨q1,q2,e1,⟨g3,q3⟩,v2_0,q4,(⟨q5,h⟩ | ⟨q5,h⟩)⟩ | ⟨q1,h⟩
 all_goals (refine Eq.trans ?_ h;clear h;simp +decide [*,kk,Ziv,Zmx])
theorem Zbii (a:List Zf) (a1:Zf) (r:AV×List Blk) (h:(Ziv a a1 (a.length:Int) 0=some r)):Zpb a a1=some r:=by
 unfold Zpb
 refine run Z2q rfl ?_
 refine Eq.trans ?_ h;clear h;simp +decide [*,kk,Zup,Ziv]
theorem Zbij (a:List Zf) (a1:Zf) (r:AV×List Blk) (h:(∃ (v1_0:Int),Zpb a a1=some (I v1_0,[])∧(some (Bo (decide (0≤v1_0)),[])=some r))):Zmy a a1=some r:=by
 unfold Zmy
 refine run Zbel rfl ?_
 simp only [Zpb,Box.c_def,Zf.c_def,Plan.c_def,Zb.c_def,Region.c_def,mpl,dfs] at h
 rcases h with ⟨v1_0,q1,h⟩
 all_goals (refine Eq.trans ?_ h;clear h;simp +decide [*,kk,Z10])
theorem Z4y (m:Zd) (c:Zp) (x:List Zf) (x1:Int) (x2:Int) (r:AV×List Blk) (h:(if x2<x1 then (0≤x2∧(∃ (e1:Zf),x[x2.toNat]?=some e1∧(∃ (v2_0:Bool),Zy e1.Version 1 999=some (Bo v2_0,[])∧(if v2_0=true then (∃ (v3_0:Bool),Zy e1.Used 1 c.Clock=some (Bo v3_0,[])∧(if v3_0=true then (∃ (v4_0:Bool),Zlt m e1.Zb e1.Region=some (Bo v4_0,[])∧(if v4_0=true then (x2.toNat≤c.Entries.length∧(∃ (v5_0:Bool),Zmy (c.Entries.take x2.toNat) e1=some (Bo v5_0,[])∧(if v5_0=true then (some (Bo false,[])=some r) else (Ziw m c x x1 (w (x2+1))=some r)))) else (some (Bo false,[])=some r))) else (some (Bo false,[])=some r))) else (some (Bo false,[])=some r))))) else (some (Bo true,[])=some r))):Ziw m c x x1 x2=some r:=by
 unfold Ziw
 rw [EvL_eq Zuq.eq_1]
 simp only [Zy,Zlt,Zmy,Box.c_def,Zf.c_def,Zd.c_def,Zi.c_def,Plan.c_def,Zb.c_def,Region.c_def,mpl,dfs] at h
 try simp only [itb] at h
 try simp only [itf,List.getElem?_eq_some_iff,kk] at h
 rcases h with ⟨q1,q2,e1,⟨g3,q3⟩,v2_0,q4,(⟨q5,v3_0,q6,(⟨q7,v4_0,q8,(⟨q9,q10,v5_0,q11,(⟨q12,h⟩ | ⟨q12,h⟩)⟩ | ⟨q9,h⟩)⟩ | ⟨q7,h⟩)⟩ | ⟨q5,h⟩)⟩ | ⟨q1,h⟩
 all_goals (refine Eq.trans ?_ h;clear h;simp +decide [*,kk,Ziw,Zur])
theorem Zbik (a:Zd) (a1:Zp) (r:AV×List Blk) (h:(∃ (v1_0:Bool),Zy a1.Clock 0 1000000=some (Bo v1_0,[])∧(if v1_0=true then (if 4<(a1.Entries.length:Int) then (some (Bo false,[])=some r) else (Ziw a a1 a1.Entries (a1.Entries.length:Int) 0=some r)) else (some (Bo false,[])=some r)))):Zj2 a a1=some r:=by
 unfold Zj2
 refine run Zbem rfl ?_
 simp only [Zy,mpl,dfs] at h
 try simp only [itb] at h
 try simp only [itf,List.getElem?_eq_some_iff,kk] at h
 rcases h with ⟨v1_0,q1,(⟨q2,(⟨q3,h⟩ | ⟨q3,h⟩)⟩ | ⟨q2,h⟩)⟩
 all_goals (refine Eq.trans ?_ h;clear h;simp +decide [*,kk,Z11,Ziw])
theorem Z4z (m:Zd) (c:Zp) (i:Int) (r:AV×List Blk) (h:(if i<(c.Entries.length:Int) then (0≤i∧(∃ (e1:Zf),c.Entries[i.toNat]?=some e1∧(∃ (v2_0:Bool),Z1 e1.Version 1 999=some (Bo v2_0,[])∧(if v2_0=true then (∃ (v3_0:Bool),Z1 e1.Used 1 c.Clock=some (Bo v3_0,[])∧(if v3_0=true then (∃ (v4_0:Bool),Zmu m e1.Zb e1.Region=some (Bo v4_0,[])∧(if v4_0=true then (Zix m c e1 i 0=some r) else (some (Bo false,[])=some r))) else (some (Bo false,[])=some r))) else (some (Bo false,[])=some r))))) else (∃ (v5_0:Bool),Z1 c.Clock 0 1000000=some (Bo v5_0,[])∧(if v5_0=true then (some (Bo (decide ((c.Entries.length:Int)≤4)),[])=some r) else (some (Bo false,[])=some r))))):Zg6 m c i=some r:=by
 unfold Zg6
 rw [EvL_eq Zpc.eq_1]
 simp only [Z1,Zmu,Box.c_def,Zd.c_def,Zi.c_def,Plan.c_def,Zb.c_def,Region.c_def,mpl,dfs] at h
 try simp only [itb] at h
 try simp only [itf,List.getElem?_eq_some_iff,kk] at h
 rcases h with ⟨q1,q2,e1,⟨g3,q3⟩,v2_0,q4,(⟨q5,v3_0,q6,(⟨q7,v4_0,q8,(⟨q9,h⟩ | ⟨q9,h⟩)⟩ | ⟨q7,h⟩)⟩ | ⟨q5,h⟩)⟩ | ⟨q1,v5_0,q10,(⟨q11,h⟩ | ⟨q11,h⟩)⟩
 all_goals (refine Eq.trans ?_ h;clear h;simp +decide [*,kk,Zix,Zpd])
theorem Z40 (m:Zd) (c:Zp) (e:Zf) (i:Int) (k:Int) (r:AV×List Blk) (h:(if k<i then (0≤k∧(∃ (e1:Zf),c.Entries[k.toNat]?=some e1∧(if e1.Used=e.Used then (some (Bo false,[])=some r) else (Zix m c e i (w (k+1))=some r)))) else (Zg6 m c (w (i+1))=some r))):Zix m c e i k=some r:=by
 unfold Zix
 rw [EvL_eq Zus.eq_1]
 try simp only [itb] at h
 try simp only [itf,List.getElem?_eq_some_iff,kk] at h
 rcases h with ⟨q1,q2,e1,⟨g3,q3⟩,(⟨q4,h⟩ | ⟨q4,h⟩)⟩ | ⟨q1,h⟩
 all_goals (refine Eq.trans ?_ h;clear h;simp +decide [*,kk,Zix,Zg6,Zut])
theorem Zbil (a:Zd) (a1:Zp) (r:AV×List Blk) (h:(Zg6 a a1 0=some r)):Zj3 a a1=some r:=by
 unfold Zj3
 refine run Zben rfl ?_
 refine Eq.trans ?_ h;clear h;simp +decide [*,kk,Z12,Zg6]
theorem Zbim (a:Box) (a1:List Int) (r:AV×List Blk) (h:(∃ (v1_0:Bool),Zey a=some (Bo v1_0,[])∧(if v1_0=true then (∃ (v2_0:Bool),Zf4 a1 a.Low=some (Bo v2_0,[])∧(if v2_0=true then (∃ (v3_0:Bool),Zf4 a.High a1=some (Bo v3_0,[])∧(some (Bo v3_0,[])=some r)) else (some (Bo false,[])=some r))) else (some (Bo false,[])=some r)))):Zmz a a1=some r:=by
 unfold Zmz
 refine run Zbeo rfl ?_
 simp only [Zey,Zf4,Box.c_def,mpl,dfs] at h
 try simp only [itb] at h
 try simp only [itf,List.getElem?_eq_some_iff,kk] at h
 rcases h with ⟨v1_0,q1,(⟨q2,v2_0,q3,(⟨q4,v3_0,q5,h⟩ | ⟨q4,h⟩)⟩ | ⟨q2,h⟩)⟩
 all_goals (refine Eq.trans ?_ h;clear h;simp +decide [*,kk,Z13])
end Go.Proofs.YtbapkgocloaaeaaGreat
/- part: G14 -/
namespace Go.Proofs.YtbapkgocloaaeaaGreat
open Go.AM
theorem Zbin (m:Zd) (q:Zb) (limit:Box) (Percent:Int) (Percent1:Int) (x:List Zc) (x1:List Int) (x2:List Int) (location:List Int) (again:Bool) (r:AV×List Blk) (h:(if again=true then (Zb0 m q limit Percent Percent1 x x1 x2 location false (location.length:Int) 0=some r) else (some (.tup [.agg [.own 0,.own 1,.own 2,I Percent1],Bo true],[.arr 142 3 true (x.map Zc.c),.arr 3 1 true (x1.map ic),.arr 3 1 true (x2.map ic)])=some r))):Ziy m q limit Percent Percent1 x x1 x2 location again=some r:=by
 unfold Ziy
 rw [EvL_eq Zpg.eq_1]
 try simp only [itb] at h
 try simp only [itf,List.getElem?_eq_some_iff,kk] at h
 rcases h with ⟨q1,h⟩ | ⟨q1,h⟩
 all_goals (refine Eq.trans ?_ h;clear h;simp +decide [*,kk,Zb0,Zph])
theorem Zpv (m:Zd) (q:Zb) (limit:Box) (Percent:Int) (Percent1:Int) (x:List Zc) (x1:List Int) (x2:List Int) (location:List Int) (again:Bool) (x3:Int) (x4:Int) (r:AV×List Blk) (h:(if x4<x3 then (0≤x4∧(∃ (e1:Int),x2[x4.toNat]?=some e1∧(∃ (e2:Int),limit.High[x4.toNat]?=some e2∧(if e1<e2 then (∃ (v3_0:Bool),Zdy m q (⟨(⟨x⟩:Plan),(⟨x1,(x2.set x4.toNat (w (e1+1)))⟩:Box),Percent1⟩:Region)=some (Bo v3_0,[])∧(if v3_0=true then (Zm0 m q limit Percent Percent1 x x1 (x2.set x4.toNat (w (e1+1))) location true x4 x3 x4=some r) else (Zm0 m q limit Percent Percent1 x x1 ((x2.set x4.toNat (w (e1+1))).set x4.toNat (w ((w (e1+1)) - 1))) location again x4 x3 x4=some r))) else (∃ (e4:Int),x1[x4.toNat]?=some e4∧(∃ (e5:Int),limit.Low[x4.toNat]?=some e5∧(if e5<e4 then (∃ (v6_0:Bool),Zdy m q (⟨(⟨x⟩:Plan),(⟨(x1.set x4.toNat (w (e4 - 1))),x2⟩:Box),Percent1⟩:Region)=some (Bo v6_0,[])∧(if v6_0=true then (Zb0 m q limit Percent Percent1 x (x1.set x4.toNat (w (e4 - 1))) x2 location true x3 (w (x4+1))=some r) else (Zb0 m q limit Percent Percent1 x ((x1.set x4.toNat (w (e4 - 1))).set x4.toNat (w ((w (e4 - 1))+1))) x2 location again x3 (w (x4+1))=some r))) else (Zb0 m q limit Percent Percent1 x x1 x2 location again x3 (w (x4+1))=some r)))))))) else (Ziy m q limit Percent Percent1 x x1 x2 location again=some r))):Zb0 m q limit Percent Percent1 x x1 x2 location again x3 x4=some r:=by
 unfold Zb0
 rw [EvL_eq Zpf.eq_1]
 simp only [Zdy,Box.c_def,Zd.c_def,Zi.c_def,Plan.c_def,Zb.c_def,Region.c_def,tI,mpl,dfs] at h
 try simp only [itb] at h
 try simp only [itf,List.getElem?_eq_some_iff,kk] at h
 rcases h with ⟨q1,q2,e1,⟨g3,q3⟩,e2,⟨g4,q4⟩,(⟨q5,v3_0,q6,(⟨q7,h⟩ | ⟨q7,h⟩)⟩ | ⟨q5,e4,⟨g8,q8⟩,e5,⟨g9,q9⟩,(⟨q10,v6_0,q11,(⟨q12,h⟩ | ⟨q12,h⟩)⟩ | ⟨q10,h⟩)⟩)⟩ | ⟨q1,h⟩
 all_goals (refine Eq.trans ?_ h;clear h;simp +decide [*,kk,Zm0,Zb0,Zpe,Ziy])
theorem Z41 (m:Zd) (q:Zb) (limit:Box) (Percent:Int) (Percent1:Int) (x:List Zc) (x1:List Int) (x2:List Int) (location:List Int) (again:Bool) (i:Int) (x3:Int) (x4:Int) (r:AV×List Blk) (h:(0≤i∧(∃ (e1:Int),x1[i.toNat]?=some e1∧(∃ (e2:Int),limit.Low[i.toNat]?=some e2∧(if e2<e1 then (∃ (v3_0:Bool),Zdy m q (⟨(⟨x⟩:Plan),(⟨(x1.set i.toNat (w (e1 - 1))),x2⟩:Box),Percent1⟩:Region)=some (Bo v3_0,[])∧(if v3_0=true then (Zb0 m q limit Percent Percent1 x (x1.set i.toNat (w (e1 - 1))) x2 location true x3 (w (x4+1))=some r) else (Zb0 m q limit Percent Percent1 x ((x1.set i.toNat (w (e1 - 1))).set i.toNat (w ((w (e1 - 1))+1))) x2 location again x3 (w (x4+1))=some r))) else (Zb0 m q limit Percent Percent1 x x1 x2 location again x3 (w (x4+1))=some r)))))):Zm0 m q limit Percent Percent1 x x1 x2 location again i x3 x4=some r:=by
 unfold Zm0
 rw [Ev_eq Zpe.eq_1]
 simp only [Zdy,Box.c_def,Zd.c_def,Zi.c_def,Plan.c_def,Zb.c_def,Region.c_def,tI,mpl,dfs] at h
 try simp only [itb] at h
 try simp only [itf,List.getElem?_eq_some_iff,kk] at h
 rcases h with ⟨q1,e1,⟨g2,q2⟩,e2,⟨g3,q3⟩,(⟨q4,v3_0,q5,(⟨q6,h⟩ | ⟨q6,h⟩)⟩ | ⟨q4,h⟩)⟩
 all_goals (refine Eq.trans ?_ h;clear h;simp +decide [*,kk,Zb0])
theorem Zbio (a:Box) (a1:List Int) (r:AV×List Blk) (h:(∃ (v1_0:Bool),Zfl a=some (Bo v1_0,[])∧(if v1_0=true then (∃ (v2_0:Bool),Zgu a1 a.Low=some (Bo v2_0,[])∧(if v2_0=true then (∃ (v3_0:Bool),Zgu a.High a1=some (Bo v3_0,[])∧(some (Bo v3_0,[])=some r)) else (some (Bo false,[])=some r))) else (some (Bo false,[])=some r)))):Zm1 a a1=some r:=by
 unfold Zm1
 refine run Zbep rfl ?_
 simp only [Zfl,Zgu,Box.c_def,mpl,dfs] at h
 try simp only [itb] at h
 try simp only [itf,List.getElem?_eq_some_iff,kk] at h
 rcases h with ⟨v1_0,q1,(⟨q2,v2_0,q3,(⟨q4,v3_0,q5,h⟩ | ⟨q4,h⟩)⟩ | ⟨q2,h⟩)⟩
 all_goals (refine Eq.trans ?_ h;clear h;simp +decide [*,kk,Z14])
theorem Zbip (m:Zd) (q:Zb) (limit:Box) (Percent:Int) (Percent1:Int) (x:List Zc) (x1:List Int) (x2:List Int) (l:List Int) (grown:Bool) (r:AV×List Blk) (h:(if grown=true then (Zb1 m q limit Percent Percent1 x x1 x2 l false 0=some r) else (some (.tup [.agg [.own 0,.own 1,.own 2,I Percent1],Bo true],[.arr 142 3 true (x.map Zc.c),.arr 3 1 true (x1.map ic),.arr 3 1 true (x2.map ic)])=some r))):Ziz m q limit Percent Percent1 x x1 x2 l grown=some r:=by
 unfold Ziz
 rw [EvL_eq Zpk.eq_1]
 try simp only [itb] at h
 try simp only [itf,List.getElem?_eq_some_iff,kk] at h
 rcases h with ⟨q1,h⟩ | ⟨q1,h⟩
 all_goals (refine Eq.trans ?_ h;clear h;simp +decide [*,kk,Zb1,Zpl])
theorem Zpw (m:Zd) (q:Zb) (limit:Box) (Percent:Int) (Percent1:Int) (x:List Zc) (x1:List Int) (x2:List Int) (l:List Int) (grown:Bool) (k:Int) (r:AV×List Blk) (h:(if k<(l.length:Int) then (0≤k∧(∃ (e1:Int),x2[k.toNat]?=some e1∧(∃ (e2:Int),limit.High[k.toNat]?=some e2∧(if e1<e2 then (∃ (v3_0:Bool),Zd6 m q (⟨(⟨x⟩:Plan),(⟨x1,(x2.set k.toNat (w (e1+1)))⟩:Box),Percent1⟩:Region)=some (Bo v3_0,[])∧(if v3_0=true then (Zm2 m q limit Percent Percent1 x x1 (x2.set k.toNat (w (e1+1))) l true k=some r) else (Zm2 m q limit Percent Percent1 x x1 ((x2.set k.toNat (w (e1+1))).set k.toNat (w ((w (e1+1)) - 1))) l grown k=some r))) else (∃ (e4:Int),x1[k.toNat]?=some e4∧(∃ (e5:Int),limit.Low[k.toNat]?=some e5∧(if e5<e4 then (∃ (v6_0:Bool),Zd6 m q (⟨(⟨x⟩:Plan),(⟨(x1.set k.toNat (w (e4 - 1))),x2⟩:Box),Percent1⟩:Region)=some (Bo v6_0,[])∧(if v6_0=true then (Zb1 m q limit Percent Percent1 x (x1.set k.toNat (w (e4 - 1))) x2 l true (w (k+1))=some r) else (Zb1 m q limit Percent Percent1 x ((x1.set k.toNat (w (e4 - 1))).set k.toNat (w ((w (e4 - 1))+1))) x2 l grown (w (k+1))=some r))) else (Zb1 m q limit Percent Percent1 x x1 x2 l grown (w (k+1))=some r)))))))) else (Ziz m q limit Percent Percent1 x x1 x2 l grown=some r))):Zb1 m q limit Percent Percent1 x x1 x2 l grown k=some r:=by
 unfold Zb1
 rw [EvL_eq Zpj.eq_1]
 simp only [Zd6,Box.c_def,Zd.c_def,Zi.c_def,Plan.c_def,Zb.c_def,Region.c_def,tI,mpl,dfs] at h
 try simp only [itb] at h
 try simp only [itf,List.getElem?_eq_some_iff,kk] at h
 rcases h with ⟨q1,q2,e1,⟨g3,q3⟩,e2,⟨g4,q4⟩,(⟨q5,v3_0,q6,(⟨q7,h⟩ | ⟨q7,h⟩)⟩ | ⟨q5,e4,⟨g8,q8⟩,e5,⟨g9,q9⟩,(⟨q10,v6_0,q11,(⟨q12,h⟩ | ⟨q12,h⟩)⟩ | ⟨q10,h⟩)⟩)⟩ | ⟨q1,h⟩
 all_goals (refine Eq.trans ?_ h;clear h;simp +decide [*,kk,Zm2,Zb1,Zpi,Ziz])
theorem Z42 (m:Zd) (q:Zb) (limit:Box) (Percent:Int) (Percent1:Int) (x:List Zc) (x1:List Int) (x2:List Int) (l:List Int) (grown:Bool) (k:Int) (r:AV×List Blk) (h:(0≤k∧(∃ (e1:Int),x1[k.toNat]?=some e1∧(∃ (e2:Int),limit.Low[k.toNat]?=some e2∧(if e2<e1 then (∃ (v3_0:Bool),Zd6 m q (⟨(⟨x⟩:Plan),(⟨(x1.set k.toNat (w (e1 - 1))),x2⟩:Box),Percent1⟩:Region)=some (Bo v3_0,[])∧(if v3_0=true then (Zb1 m q limit Percent Percent1 x (x1.set k.toNat (w (e1 - 1))) x2 l true (w (k+1))=some r) else (Zb1 m q limit Percent Percent1 x ((x1.set k.toNat (w (e1 - 1))).set k.toNat (w ((w (e1 - 1))+1))) x2 l grown (w (k+1))=some r))) else (Zb1 m q limit Percent Percent1 x x1 x2 l grown (w (k+1))=some r)))))):Zm2 m q limit Percent Percent1 x x1 x2 l grown k=some r:=by
 unfold Zm2
 rw [Ev_eq Zpi.eq_1]
 simp only [Zd6,Box.c_def,Zd.c_def,Zi.c_def,Plan.c_def,Zb.c_def,Region.c_def,tI,mpl,dfs] at h
 try simp only [itb] at h
 try simp only [itf,List.getElem?_eq_some_iff,kk] at h
 rcases h with ⟨q1,e1,⟨g2,q2⟩,e2,⟨g3,q3⟩,(⟨q4,v3_0,q5,(⟨q6,h⟩ | ⟨q6,h⟩)⟩ | ⟨q4,h⟩)⟩
 all_goals (refine Eq.trans ?_ h;clear h;simp +decide [*,kk,Zb1])
end Go.Proofs.YtbapkgocloaaeaaGreat
/- part: G15 -/
namespace Go.Proofs.YtbapkgocloaaeaaGreat
open Go.AM
theorem Zbiq (Ze:Int) (VariableCount1:Int) (x:List Atom) (x1:Int) (x2:Int) (r:AV×List Blk) (h:(if x2<x1 then (0≤x2∧(∃ (e1:Atom),x[x2.toNat]?=some e1∧(∃ (v2_0:List Int),Zdf e1.Vars=some (.own 0,[.arr 3 1 true (v2_0.map ic)])∧(Zi0 Ze VariableCount1 ([(⟨e1.Name,v2_0⟩:Atom)]) x x1 (w (x2+1))=some r)))) else (some (.agg [I VariableCount1,.t .nil],[])=some r))):Zpm Ze VariableCount1 x x1 x2=some r:=by
 unfold Zpm
 rw [EvL_eq Zm3.eq_1]
 simp only [Zdf,mpl,dfs] at h
 try simp only [itb] at h
 try simp only [itf,List.getElem?_eq_some_iff,kk] at h
 rcases h with ⟨q1,q2,e1,⟨g3,q3⟩,v2_0,q4,h⟩ | ⟨q1,h⟩
 all_goals (refine Eq.trans ?_ h;clear h;simp +decide [*,kk,Zi0,Zm4])
theorem Z43 (Ze:Int) (VariableCount1:Int) (x:List Atom) (x1:List Atom) (x2:Int) (x3:Int) (r:AV×List Blk) (h:(if x3<x2 then (0≤x3∧(∃ (e1:Atom),x1[x3.toNat]?=some e1∧(∃ (v2_0:List Int),Zdf e1.Vars=some (.own 0,[.arr 3 1 true (v2_0.map ic)])∧(x.length+1≤68719476736∧(Zi0 Ze VariableCount1 (x++[(⟨e1.Name,v2_0⟩:Atom)]) x1 x2 (w (x3+1))=some r))))) else (some (.agg [I VariableCount1,.own 0],[.arr 223 2 true (x.map Atom.c)])=some r))):Zi0 Ze VariableCount1 x x1 x2 x3=some r:=by
 unfold Zi0
 rw [EvL_eq Zm3.eq_1]
 simp only [Zdf,mpl,dfs] at h
 try simp only [itb] at h
 try simp only [itf,List.getElem?_eq_some_iff,kk] at h
 rcases h with ⟨q1,q2,e1,⟨g3,q3⟩,v2_0,q4,q5,h⟩ | ⟨q1,h⟩
 all_goals (refine Eq.trans ?_ h;clear h;simp +decide [*,kk,Zi0,Zm4])
theorem Zbir (a:Zb) (r:AV×List Blk) (h:(Zpm 0 a.Ze a.Atoms (a.Atoms.length:Int) 0=some r)):Zfp a=some r:=by
 unfold Zfp
 refine run Zbeq rfl ?_
 refine Eq.trans ?_ h;clear h;simp +decide [*,kk,Z15,Zpm]
theorem Zbis (a:Box) (r:AV×List Blk) (h:(∃ (v1_0:List Int),Zdf a.Low=some (.own 0,[.arr 3 1 true (v1_0.map ic)])∧(∃ (v2_0:List Int),Zdf a.High=some (.own 0,[.arr 3 1 true (v2_0.map ic)])∧(some (.agg [.own 0,.own 1],[.arr 3 1 true (v1_0.map ic),.arr 3 1 true (v2_0.map ic)])=some r)))):Zm5 a=some r:=by
 unfold Zm5
 refine run Zber rfl ?_
 simp only [Zdf,mpl,dfs] at h
 rcases h with ⟨v1_0,q1,v2_0,q2,h⟩
 all_goals (refine Eq.trans ?_ h;clear h;simp +decide [*,kk,Z16])
theorem Zbit (a:Region) (r:AV×List Blk) (h:(∃ (v1_0:List Zc),Zcg a.Plan=some (.agg [.own 0],[.arr 142 3 true (v1_0.map Zc.c)])∧(∃ (v2_0:List Int) (v2_1:List Int),Zm5 a.Box=some (.agg [.own 0,.own 1],[.arr 3 1 true (v2_0.map ic),.arr 3 1 true (v2_1.map ic)])∧(some (.agg [.own 0,.own 1,.own 2,I a.Percent],[.arr 142 3 true (v1_0.map Zc.c),.arr 3 1 true (v2_0.map ic),.arr 3 1 true (v2_1.map ic)])=some r)))):Zfq a=some r:=by
 unfold Zfq
 refine run Zbes rfl ?_
 simp only [Zcg,Zm5,Box.c_def,Plan.c_def,mpl,dfs] at h
 rcases h with ⟨v1_0,q1,v2_0,v2_1,q2,h⟩
 all_goals (refine Eq.trans ?_ h;clear h;simp +decide [*,kk,Z17])
theorem Zbiu (Clock:Int) (Clock1:Int) (x:List Zf) (x1:Int) (x2:Int) (r:AV×List Blk) (h:(if x2<x1 then (0≤x2∧(∃ (e1:Zf),x[x2.toNat]?=some e1∧((∃ (v2_0:Int),Zfp e1.Zb=some (.agg [I v2_0,.t .nil],[])∧(∃ (v3_0:List Zc) (v3_1:List Int) (v3_2:List Int) (v3_3:Int),Zfq e1.Region=some (.agg [.own 0,.own 1,.own 2,I v3_3],[.arr 142 3 true (v3_0.map Zc.c),.arr 3 1 true (v3_1.map ic),.arr 3 1 true (v3_2.map ic)])∧(Zfr Clock Clock1 ([(⟨(⟨v2_0,[]⟩:Zb),(⟨(⟨v3_0⟩:Plan),(⟨v3_1,v3_2⟩:Box),v3_3⟩:Region),e1.Version,e1.Used⟩:Zf)]) x x1 (w (x2+1))=some r)))∨(∃ (v4_0:List Atom) (v4_1:Int),Zfp e1.Zb=some (.agg [I v4_1,.own 0],[.arr 223 2 true (v4_0.map Atom.c)])∧(∃ (v5_0:List Zc) (v5_1:List Int) (v5_2:List Int) (v5_3:Int),Zfq e1.Region=some (.agg [.own 0,.own 1,.own 2,I v5_3],[.arr 142 3 true (v5_0.map Zc.c),.arr 3 1 true (v5_1.map ic),.arr 3 1 true (v5_2.map ic)])∧(Zfr Clock Clock1 ([(⟨(⟨v4_1,v4_0⟩:Zb),(⟨(⟨v5_0⟩:Plan),(⟨v5_1,v5_2⟩:Box),v5_3⟩:Region),e1.Version,e1.Used⟩:Zf)]) x x1 (w (x2+1))=some r)))))) else (some (.agg [I Clock1,.t .nil],[])=some r))):Zpn Clock Clock1 x x1 x2=some r:=by
 unfold Zpn
 rw [EvL_eq Zm6.eq_1]
 simp only [Zfp,Zfq,Box.c_def,Plan.c_def,Zb.c_def,Region.c_def,mpl,dfs] at h
 try simp only [itb] at h
 try simp only [itf,List.getElem?_eq_some_iff,kk] at h
 rcases h with ⟨q1,q2,e1,⟨g3,q3⟩,(⟨v2_0,q5,v3_0,v3_1,v3_2,v3_3,q6,h⟩ | ⟨v4_0,v4_1,q7,v5_0,v5_1,v5_2,v5_3,q8,h⟩)⟩ | ⟨q1,h⟩
 all_goals (refine Eq.trans ?_ h;clear h;simp +decide [*,kk,Zfr,Zm7])
theorem Z44 (Clock:Int) (Clock1:Int) (x:List Zf) (x1:List Zf) (x2:Int) (x3:Int) (r:AV×List Blk) (h:(if x3<x2 then (0≤x3∧(∃ (e1:Zf),x1[x3.toNat]?=some e1∧((∃ (v2_0:Int),Zfp e1.Zb=some (.agg [I v2_0,.t .nil],[])∧(∃ (v3_0:List Zc) (v3_1:List Int) (v3_2:List Int) (v3_3:Int),Zfq e1.Region=some (.agg [.own 0,.own 1,.own 2,I v3_3],[.arr 142 3 true (v3_0.map Zc.c),.arr 3 1 true (v3_1.map ic),.arr 3 1 true (v3_2.map ic)])∧(x.length+1≤68719476736∧(Zfr Clock Clock1 (x++[(⟨(⟨v2_0,[]⟩:Zb),(⟨(⟨v3_0⟩:Plan),(⟨v3_1,v3_2⟩:Box),v3_3⟩:Region),e1.Version,e1.Used⟩:Zf)]) x1 x2 (w (x3+1))=some r))))∨(∃ (v4_0:List Atom) (v4_1:Int),Zfp e1.Zb=some (.agg [I v4_1,.own 0],[.arr 223 2 true (v4_0.map Atom.c)])∧(∃ (v5_0:List Zc) (v5_1:List Int) (v5_2:List Int) (v5_3:Int),Zfq e1.Region=some (.agg [.own 0,.own 1,.own 2,I v5_3],[.arr 142 3 true (v5_0.map Zc.c),.arr 3 1 true (v5_1.map ic),.arr 3 1 true (v5_2.map ic)])∧(x.length+1≤68719476736∧(Zfr Clock Clock1 (x++[(⟨(⟨v4_1,v4_0⟩:Zb),(⟨(⟨v5_0⟩:Plan),(⟨v5_1,v5_2⟩:Box),v5_3⟩:Region),e1.Version,e1.Used⟩:Zf)]) x1 x2 (w (x3+1))=some r))))))) else (some (.agg [I Clock1,.own 0],[.arr 114 8 true (x.map Zf.c)])=some r))):Zfr Clock Clock1 x x1 x2 x3=some r:=by
 unfold Zfr
 rw [EvL_eq Zm6.eq_1]
 simp only [Zfp,Zfq,Box.c_def,Plan.c_def,Zb.c_def,Region.c_def,mpl,dfs] at h
 try simp only [itb] at h
 try simp only [itf,List.getElem?_eq_some_iff,kk] at h
 rcases h with ⟨q1,q2,e1,⟨g3,q3⟩,(⟨v2_0,q5,v3_0,v3_1,v3_2,v3_3,q6,q7,h⟩ | ⟨v4_0,v4_1,q8,v5_0,v5_1,v5_2,v5_3,q9,q10,h⟩)⟩ | ⟨q1,h⟩
 all_goals (refine Eq.trans ?_ h;clear h;simp +decide [*,kk,Zfr,Zm7])
theorem Zbiv (a:Zp) (r:AV×List Blk) (h:(Zpn 0 a.Clock a.Entries (a.Entries.length:Int) 0=some r)):Zj4 a=some r:=by
 unfold Zj4
 refine run Zbet rfl ?_
 refine Eq.trans ?_ h;clear h;simp +decide [*,kk,Z18,Zpn]
theorem Z45 (s1:List Int) (s2:List Int) (x:Int) (x1:Int) (r:AV×List Blk) (h:(if x1<x then (0≤x1∧(∃ (e1:Int),s1[x1.toNat]?=some e1∧(∃ (e2:Int),s2[x1.toNat]?=some e2∧(if e1=e2 then (Zi1 s1 s2 x (w (x1+1))=some r) else (some (Bo false,[])=some r))))) else (some (Bo true,[])=some r))):Zi1 s1 s2 x x1=some r:=by
 unfold Zi1
 rw [EvL_eq Zuu.eq_1]
 try simp only [itb] at h
 try simp only [itf,List.getElem?_eq_some_iff,kk] at h
 rcases h with ⟨q1,q2,e1,⟨g3,q3⟩,e2,⟨g4,q4⟩,(⟨q5,h⟩ | ⟨q5,h⟩)⟩ | ⟨q1,h⟩
 all_goals (refine Eq.trans ?_ h;clear h;simp +decide [*,kk,Zi1,Zuv])
theorem Zbiw (a:List Int) (a1:List Int) (r:AV×List Blk) (h:(if (a.length:Int)=(a1.length:Int) then (Zi1 a a1 (a.length:Int) 0=some r) else (some (Bo false,[])=some r))):Zm8 a a1=some r:=by
 unfold Zm8
 refine run Zbeu rfl ?_
 try simp only [itb] at h
 try simp only [itf,List.getElem?_eq_some_iff,kk] at h
 rcases h with ⟨q1,h⟩ | ⟨q1,h⟩
 all_goals (refine Eq.trans ?_ h;clear h;simp +decide [*,kk,Z19,Zi1])
end Go.Proofs.YtbapkgocloaaeaaGreat
