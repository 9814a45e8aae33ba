/-
  Parts of the proofs for this seat: G1 G2 G3 G4 G5 G6 G7.
-/
import Derived.Test.YtbapkgocloaaeaaGreatP10
set_option linter.unusedSimpArgs false
set_option linter.unusedVariables false
set_option maxRecDepth 100000
set_option maxHeartbeats 4000000
/- part: G1 -/
namespace Go.Proofs.YtbapkgocloaaeaaGreat
open Go.AM
theorem Zbfa (a:Int) (a1:Int) (a2:Int) (r:AV×List Blk) (h:(if a1≤a then (some (Bo (decide (a≤a2)),[])=some r) else (some (Bo false,[])=some r))):Zy a a1 a2=some r:=by
 unfold Zy
 refine run Zbbd rfl ?_
 try simp only [itb] at h
 try simp only [itf,List.getElem?_eq_some_iff,kk] at h
 rcases h with ⟨q1,h⟩ | ⟨q1,h⟩
 all_goals (refine Eq.trans ?_ h;clear h;simp +decide [*,kk,Zx5])
theorem Zbfb (a:ByteArray) (r:AV×List Blk) (h:(if (a.size:Int)=1 then (∃ (b1:UInt8),a[0]?=some b1∧(if 97≤(b1.toNat:Int) then (some (Bo (decide ((b1.toNat:Int)≤122)),[])=some r) else (some (Bo false,[])=some r))) else (some (Bo false,[])=some r))):Zk2 a=some r:=by
 unfold Zk2
 refine run Zbbe rfl ?_
 try simp only [itb] at h
 try simp only [itf,List.getElem?_eq_some_iff,kk] at h
 rcases h with ⟨q1,b1,q2,(⟨q3,h⟩ | ⟨q3,h⟩)⟩ | ⟨q1,h⟩
 all_goals (refine Eq.trans ?_ h;clear h;simp +decide [*,kk,Zx6])
theorem Z2r (s:List Int) (v:Int) (x:Int) (x1:Int) (r:AV×List Blk) (h:(if x1<x then (0≤x1∧(∃ (e1:Int),s[x1.toNat]?=some e1∧(if v=e1 then (some (I x1,[])=some r) else (Zhp s v x (w (x1+1))=some r)))) else (some (I (-1),[])=some r))):Zhp s v x x1=some r:=by
 unfold Zhp
 rw [EvL_eq Zrd.eq_1]
 try simp only [itb] at h
 try simp only [itf,List.getElem?_eq_some_iff,kk] at h
 rcases h with ⟨q1,q2,e1,⟨g3,q3⟩,(⟨q4,h⟩ | ⟨q4,h⟩)⟩ | ⟨q1,h⟩
 all_goals (refine Eq.trans ?_ h;clear h;simp +decide [*,kk,Zhp,Zre])
theorem Zbfc (a:List Int) (a1:Int) (r:AV×List Blk) (h:(Zhp a a1 (a.length:Int) 0=some r)):Zk3 a a1=some r:=by
 unfold Zk3
 refine run Zbbf rfl ?_
 refine Eq.trans ?_ h;clear h;simp +decide [*,kk,Zx7,Zhp]
theorem Zbfd (a:List Int) (a1:Int) (r:AV×List Blk) (h:(∃ (v1_0:Int),Zk3 a a1=some (I v1_0,[])∧(some (Bo (decide (0≤v1_0)),[])=some r))):Zde a a1=some r:=by
 unfold Zde
 refine run Zbbg rfl ?_
 simp only [Zk3,mpl,dfs] at h
 rcases h with ⟨v1_0,q1,h⟩
 all_goals (refine Eq.trans ?_ h;clear h;simp +decide [*,kk,Zx8])
theorem Z2s (s:List Bool) (v:Bool) (x:Int) (x1:Int) (r:AV×List Blk) (h:(if x1<x then (0≤x1∧(∃ (e1:Bool),s[x1.toNat]?=some e1∧(if v=e1 then (some (I x1,[])=some r) else (Zhq s v x (w (x1+1))=some r)))) else (some (I (-1),[])=some r))):Zhq s v x x1=some r:=by
 unfold Zhq
 rw [EvL_eq Zrf.eq_1]
 try simp only [itb] at h
 try simp only [itf,List.getElem?_eq_some_iff,kk] at h
 rcases h with ⟨q1,q2,e1,⟨g3,q3⟩,(⟨q4,h⟩ | ⟨q4,h⟩)⟩ | ⟨q1,h⟩
 all_goals (refine Eq.trans ?_ h;clear h;simp +decide [*,kk,Zhq,Zrg])
theorem Zbfe (a:List Bool) (a1:Bool) (r:AV×List Blk) (h:(Zhq a a1 (a.length:Int) 0=some r)):Zk4 a a1=some r:=by
 unfold Zk4
 refine run Zbbh rfl ?_
 refine Eq.trans ?_ h;clear h;simp +decide [*,kk,Zx9,Zhq]
theorem Zbff (a:List Bool) (a1:Bool) (r:AV×List Blk) (h:(∃ (v1_0:Int),Zk4 a a1=some (I v1_0,[])∧(some (Bo (decide (0≤v1_0)),[])=some r))):Zk5 a a1=some r:=by
 unfold Zk5
 refine run Zbbi rfl ?_
 simp only [Zk4,mpl,dfs] at h
 rcases h with ⟨v1_0,q1,h⟩
 all_goals (refine Eq.trans ?_ h;clear h;simp +decide [*,kk,Zya])
theorem Z2t (q:Zb) (seen:List Bool) (x:List Atom) (x1:Int) (x2:Int) (r:AV×List Blk) (h:(if x2<x1 then (0≤x2∧(∃ (e1:Atom),x[x2.toNat]?=some e1∧(∃ (v2_0:Bool),Zk2 e1.Name=some (Bo v2_0,[])∧(if v2_0=true then (∃ (v3_0:Bool),Zy (e1.Vars.length:Int) 1 3=some (Bo v3_0,[])∧(if v3_0=true then (Zhr q seen e1 x x1 x2 e1.Vars (e1.Vars.length:Int) 0=some r) else (some (Bo false,[])=some r))) else (some (Bo false,[])=some r))))) else (∃ (v4_0:Bool),Zk5 seen false=some (Bo v4_0,[])∧(some (Bo (!v4_0),[])=some r)))):Zf2 q seen x x1 x2=some r:=by
 unfold Zf2
 rw [EvL_eq Zon.eq_1]
 simp only [Zk2,Zy,Zk5,mpl,dfs] at h
 try simp only [itb] at h
 try simp only [itf,List.getElem?_eq_some_iff,kk] at h
 rcases h with ⟨q1,q2,e1,⟨g3,q3⟩,v2_0,q4,(⟨q5,v3_0,q6,(⟨q7,h⟩ | ⟨q7,h⟩)⟩ | ⟨q5,h⟩)⟩ | ⟨q1,v4_0,q8,h⟩
 all_goals (refine Eq.trans ?_ h;clear h;simp +decide [*,kk,Zhr,Zoo])
theorem Z2u (q:Zb) (seen:List Bool) (a:Atom) (x:List Atom) (x1:Int) (x2:Int) (x3:List Int) (x4:Int) (x5:Int) (r:AV×List Blk) (h:(if x5<x4 then (0≤x5∧(∃ (e1:Int),x3[x5.toNat]?=some e1∧(∃ (v2_0:Bool),Zy e1 0 (w (q.Ze - 1))=some (Bo v2_0,[])∧(if v2_0=true then (x5.toNat≤a.Vars.length∧(∃ (v3_0:Bool),Zde (a.Vars.take x5.toNat) e1=some (Bo v3_0,[])∧(if v3_0=true then (some (Bo false,[])=some r) else (0≤e1∧(∃ (e4:Bool),seen[e1.toNat]?=some e4∧(Zhr q (seen.set e1.toNat true) a x x1 x2 x3 x4 (w (x5+1))=some r)))))) else (some (Bo false,[])=some r))))) else (Zf2 q seen x x1 (w (x2+1))=some r))):Zhr q seen a x x1 x2 x3 x4 x5=some r:=by
 unfold Zhr
 rw [EvL_eq Zrh.eq_1]
 simp only [Zy,Zde,mpl,dfs] at h
 try simp only [itb] at h
 try simp only [itf,List.getElem?_eq_some_iff,kk] at h
 rcases h with ⟨q1,q2,e1,⟨g3,q3⟩,v2_0,q4,(⟨q5,q6,v3_0,q7,(⟨q8,h⟩ | ⟨q8,q9,e4,⟨g10,q10⟩,h⟩)⟩ | ⟨q5,h⟩)⟩ | ⟨q1,h⟩
 all_goals (refine Eq.trans ?_ h;clear h;simp +decide [*,kk,Zhr,Zf2,Zri])
theorem Zbfg (a:Zb) (r:AV×List Blk) (h:(∃ (v1_0:Bool),Zy a.Ze 1 4=some (Bo v1_0,[])∧(if v1_0=true then (∃ (v2_0:Bool),Zy (a.Atoms.length:Int) 1 4=some (Bo v2_0,[])∧(if v2_0=true then (0≤a.Ze∧(a.Ze.toNat*1≤room∧(a.Ze≤140737488355328∧(Zf2 a (List.replicate (a.Ze).toNat false) a.Atoms (a.Atoms.length:Int) 0=some r)))) else (some (Bo false,[])=some r))) else (some (Bo false,[])=some r)))):Zc7 a=some r:=by
 unfold Zc7
 refine run Zbbj rfl ?_
 obtain ⟨v1_0,q1,h⟩:=h
 unfold Zy at q1
 try simp at q1
 by_cases q2:v1_0=true
 ·rw [if_pos q2] at h
  obtain ⟨v2_0,q3,h⟩:=h
  unfold Zy at q3
  try simp at q3
  by_cases q4:v2_0=true
  ·rw [if_pos q4] at h
   obtain ⟨q5,h⟩:=h
   obtain ⟨q6,h⟩:=h
   have zq6:=q6;try simp at zq6
   obtain ⟨q7,h⟩:=h
   refine Eq.trans ?_ h
   clear h
   simp +decide [*,Zop,Zf2]
  ·rw [if_neg q4] at h
   refine Eq.trans ?_ h
   clear h
   simp +decide [*,Zop]
 ·rw [if_neg q2] at h
  refine Eq.trans ?_ h
  clear h
  simp +decide [*,Zop]
theorem Z2v (location:List Int) (x:List Int) (x1:Int) (x2:Int) (r:AV×List Blk) (h:(if x2<x1 then (0≤x2∧(∃ (e1:Int),x[x2.toNat]?=some e1∧(∃ (v2_0:Bool),Zy e1 0 7=some (Bo v2_0,[])∧(if v2_0=true then (Zhs location x x1 (w (x2+1))=some r) else (some (Bo false,[])=some r))))) else (some (Bo (decide ((location.length:Int)≤16)),[])=some r))):Zhs location x x1 x2=some r:=by
 unfold Zhs
 rw [EvL_eq Zrj.eq_1]
 simp only [Zy,mpl,dfs] at h
 try simp only [itb] at h
 try simp only [itf,List.getElem?_eq_some_iff,kk] at h
 rcases h with ⟨q1,q2,e1,⟨g3,q3⟩,v2_0,q4,(⟨q5,h⟩ | ⟨q5,h⟩)⟩ | ⟨q1,h⟩
 all_goals (refine Eq.trans ?_ h;clear h;simp +decide [*,kk,Zhs,Zrk])
theorem Zbfh (a:List Int) (r:AV×List Blk) (h:(Zhs a a (a.length:Int) 0=some r)):Zf3 a=some r:=by
 unfold Zf3
 refine run Zbbk rfl ?_
 refine Eq.trans ?_ h;clear h;simp +decide [*,kk,Zyb,Zhs]
theorem Z2w (a:List Int) (b:List Int) (x:Int) (x1:Int) (r:AV×List Blk) (h:(if x1<x then (0≤x1∧(∃ (e1:Int),a[x1.toNat]?=some e1∧(∃ (e2:Int),b[x1.toNat]?=some e2∧(if e1<e2 then (some (Bo false,[])=some r) else (Zht a b x (w (x1+1))=some r))))) else (some (Bo true,[])=some r))):Zht a b x x1=some r:=by
 unfold Zht
 rw [EvL_eq Zrl.eq_1]
 try simp only [itb] at h
 try simp only [itf,List.getElem?_eq_some_iff,kk] at h
 rcases h with ⟨q1,q2,e1,⟨g3,q3⟩,e2,⟨g4,q4⟩,(⟨q5,h⟩ | ⟨q5,h⟩)⟩ | ⟨q1,h⟩
 all_goals (refine Eq.trans ?_ h;clear h;simp +decide [*,kk,Zht,Zrm])
theorem Zbfi (a:List Int) (a1:List Int) (r:AV×List Blk) (h:(if (a.length:Int)=(a1.length:Int) then (Zht a a1 (a.length:Int) 0=some r) else (some (Bo false,[])=some r))):Zf4 a a1=some r:=by
 unfold Zf4
 refine run Zbbl rfl ?_
 try simp only [itb] at h
 try simp only [itf,List.getElem?_eq_some_iff,kk] at h
 rcases h with ⟨q1,h⟩ | ⟨q1,h⟩
 all_goals (refine Eq.trans ?_ h;clear h;simp +decide [*,kk,Zyc,Zht])
theorem Zbfj (a:Box) (r:AV×List Blk) (h:(∃ (v1_0:Bool),Zf3 a.Low=some (Bo v1_0,[])∧(if v1_0=true then (∃ (v2_0:Bool),Zf3 a.High=some (Bo v2_0,[])∧(if v2_0=true then (if 0<(a.Low.length:Int) then (∃ (v3_0:Bool),Zf4 a.High a.Low=some (Bo v3_0,[])∧(some (Bo v3_0,[])=some r)) else (some (Bo false,[])=some r)) else (some (Bo false,[])=some r))) else (some (Bo false,[])=some r)))):Zey a=some r:=by
 unfold Zey
 refine run Zbbm rfl ?_
 simp only [Zf3,Zf4,mpl,dfs] at h
 try simp only [itb] at h
 try simp only [itf,List.getElem?_eq_some_iff,kk] at h
 rcases h with ⟨v1_0,q1,(⟨q2,v2_0,q3,(⟨q4,(⟨q5,v3_0,q6,h⟩ | ⟨q5,h⟩)⟩ | ⟨q4,h⟩)⟩ | ⟨q2,h⟩)⟩
 all_goals (refine Eq.trans ?_ h;clear h;simp +decide [*,kk,Zyd])
theorem Zbfk (a:Zb) (r:AV×List Blk) (h:(∃ (v1_0:Bool),Zc7 a=some (Bo v1_0,[])∧(if v1_0=true then (¬ (a.Atoms.length:Int)<0∧(some (I (w ((shlI 1 (a.Atoms.length:Int)) - 1)),[])=some r)) else (some (I 0,[])=some r)))):Zb6 a=some r:=by
 unfold Zb6
 refine run Zbbn rfl ?_
 simp only [Zc7,Zb.c_def,mpl,dfs] at h
 try simp only [itb] at h
 try simp only [itf,List.getElem?_eq_some_iff,kk] at h
 rcases h with ⟨v1_0,q1,(⟨q2,q3,h⟩ | ⟨q2,h⟩)⟩
 all_goals (refine Eq.trans ?_ h;clear h;simp +decide [*,kk,Zye])
theorem Zbfl (a:Zb) (a1:Box) (r:AV×List Blk) (h:(∃ (v1_0:Bool),Zey a1=some (Bo v1_0,[])∧(if v1_0=true then (∃ (v2_0:Int),Zb6 a=some (I v2_0,[])∧(some (Bo (decide ((a1.Low.length:Int)=(w (v2_0+1)))),[])=some r)) else (some (Bo false,[])=some r)))):Zk6 a a1=some r:=by
 unfold Zk6
 refine run Zbbo rfl ?_
 simp only [Zey,Zb6,Box.c_def,Zb.c_def,mpl,dfs] at h
 try simp only [itb] at h
 try simp only [itf,List.getElem?_eq_some_iff,kk] at h
 rcases h with ⟨v1_0,q1,(⟨q2,v2_0,q3,h⟩ | ⟨q2,h⟩)⟩
 all_goals (refine Eq.trans ?_ h;clear h;simp +decide [*,kk,Zyf])
theorem Z2x (q:Zb) (out:List Int) (mask:Int) (v:Int) (r:AV×List Blk) (h:(if v<q.Ze then (Zf5 q out mask v q.Atoms (q.Atoms.length:Int) 0=some r) else (some (.own 0,[.arr 3 1 true (out.map ic)])=some r))):Zez q out mask v=some r:=by
 unfold Zez
 rw [EvL_eq Zoq.eq_1]
 try simp only [itb] at h
 try simp only [itf,List.getElem?_eq_some_iff,kk] at h
 rcases h with ⟨q1,h⟩ | ⟨q1,h⟩
 all_goals (refine Eq.trans ?_ h;clear h;simp +decide [*,kk,Zf5,Zor])
theorem Z2y (q:Zb) (out:List Int) (mask:Int) (v:Int) (x:List Atom) (x1:Int) (x2:Int) (r:AV×List Blk) (h:(if x2<x1 then (0≤x2∧(∃ (e1:Atom),x[x2.toNat]?=some e1∧(¬ x2<0∧(if (andI (shrI mask x2) 1)=1 then (∃ (v2_0:Bool),Zde e1.Vars v=some (Bo v2_0,[])∧(if v2_0=true then (out.length+1≤68719476736∧(Zez q (out++[v]) mask (w (v+1))=some r)) else (Zf5 q out mask v x x1 (w (x2+1))=some r))) else (Zf5 q out mask v x x1 (w (x2+1))=some r))))) else (Zez q out mask (w (v+1))=some r))):Zf5 q out mask v x x1 x2=some r:=by
 unfold Zf5
 rw [EvL_eq Zrn.eq_1]
 simp only [Zde,mpl,dfs] at h
 try simp only [itb] at h
 try simp only [itf,List.getElem?_eq_some_iff,kk] at h
 rcases h with ⟨q1,q2,e1,⟨g3,q3⟩,q4,(⟨q5,v2_0,q6,(⟨q7,q8,h⟩ | ⟨q7,h⟩)⟩ | ⟨q5,h⟩)⟩ | ⟨q1,h⟩
 all_goals (refine Eq.trans ?_ h;clear h;simp +decide [*,kk,Zez,Zro,Zf5])
theorem Zbfm (a:Zb) (a1:Int) (r:AV×List Blk) (h:(Zez a ([]:List Int) a1 0=some r)):Zdt a a1=some r:=by
 unfold Zdt
 refine run Zbbp rfl ?_
 refine Eq.trans ?_ h;clear h;simp +decide [*,kk,Zyg,Zez]
theorem Z2z (out:List Int) (b:List Int) (x:List Int) (x1:Int) (x2:Int) (r:AV×List Blk) (h:(if x2<x1 then (0≤x2∧(∃ (e1:Int),x[x2.toNat]?=some e1∧(∃ (v2_0:Bool),Zde b e1=some (Bo v2_0,[])∧(if v2_0=true then (out.length+1≤68719476736∧(Zf6 (out++[e1]) b x x1 (w (x2+1))=some r)) else (Zf6 out b x x1 (w (x2+1))=some r))))) else (some (.own 0,[.arr 3 1 true (out.map ic)])=some r))):Zf6 out b x x1 x2=some r:=by
 unfold Zf6
 rw [EvL_eq Zrp.eq_1]
 simp only [Zde,mpl,dfs] at h
 try simp only [itb] at h
 try simp only [itf,List.getElem?_eq_some_iff,kk] at h
 rcases h with ⟨q1,q2,e1,⟨g3,q3⟩,v2_0,q4,(⟨q5,q6,h⟩ | ⟨q5,h⟩)⟩ | ⟨q1,h⟩
 all_goals (refine Eq.trans ?_ h;clear h;simp +decide [*,kk,Zf6,Zyh,Zrq])
theorem Zbfn (a:List Int) (a1:List Int) (r:AV×List Blk) (h:(Zf6 ([]:List Int) a1 a (a.length:Int) 0=some r)):Ze0 a a1=some r:=by
 unfold Ze0
 refine run Zbbq rfl ?_
 refine Eq.trans ?_ h;clear h;simp +decide [*,kk,Zyi,Zf6]
theorem Zg7 (a:Zb) (a1:Zc) (a2:List Zh) (a3:List Int) (r:AV×List Blk) (h:(if a1.Kind=1 then (∃ (v1_0:Bool),Zy a1.Atom 0 (w ((a.Atoms.length:Int) - 1))=some (Bo v1_0,[])∧(if v1_0=true then (if a1.Order=0 then (¬ a1.Atom<0∧(0≤a1.Atom∧(∃ (e2:Atom),a.Atoms[a1.Atom.toNat]?=some e2∧(∃ (e3:Int),e2.Vars[0]?=some e3∧(some (.tup [.agg [I (shlI 1 a1.Atom),I e3,I (-1),I (-1)],Bo true],[])=some r))))) else (some (.tup [.agg [I 0,I (-1),I (-1),I (-1)],Bo false],[])=some r)) else (some (.tup [.agg [I 0,I (-1),I (-1),I (-1)],Bo false],[])=some r))) else (if a1.Atom=0 then (if a1.Kind=2 then (if (a3.length:Int)<1 then (some (.tup [.agg [I 0,I (-1),I (-1),I (-1)],Bo false],[])=some r) else (0≤(w ((a3.length:Int) - 1))∧(∃ (e4:Int),a3[(w ((a3.length:Int) - 1)).toNat]?=some e4∧(0≤e4∧(∃ (e5:Zh),a2[e4.toNat]?=some e5∧(∃ (v6_0:List Int),Zdt a e5.Mask=some (.own 0,[.arr 3 1 true (v6_0.map ic)])∧(∃ (v7_0:Bool),Zde v6_0 a1.Order=some (Bo v7_0,[])∧(if v7_0=true then (if e5.Order=a1.Order then (some (.tup [.agg [I 0,I (-1),I (-1),I (-1)],Bo false],[])=some r) else (some (.tup [.agg [I e5.Mask,I a1.Order,I e4,I (-1)],Bo true],[])=some r)) else (some (.tup [.agg [I 0,I (-1),I (-1),I (-1)],Bo false],[])=some r))))))))) else (if (a3.length:Int)<2 then (some (.tup [.agg [I 0,I (-1),I (-1),I (-1)],Bo false],[])=some r) else (0≤(w ((a3.length:Int) - 2))∧(∃ (e8:Int),a3[(w ((a3.length:Int) - 2)).toNat]?=some e8∧(0≤(w ((a3.length:Int) - 1))∧(∃ (e9:Int),a3[(w ((a3.length:Int) - 1)).toNat]?=some e9∧(0≤e8∧(∃ (e10:Zh),a2[e8.toNat]?=some e10∧(0≤e9∧(∃ (e11:Zh),a2[e9.toNat]?=some e11∧(∃ (v12_0:List Int),Zdt a e10.Mask=some (.own 0,[.arr 3 1 true (v12_0.map ic)])∧(∃ (v13_0:List Int),Zdt a e11.Mask=some (.own 0,[.arr 3 1 true (v13_0.map ic)])∧(∃ (v14_0:List Int),Ze0 v12_0 v13_0=some (.own 0,[.arr 3 1 true (v14_0.map ic)])∧(if (andI e10.Mask e11.Mask)=0 then (if (v14_0.length:Int)=0 then (some (.tup [.agg [I (orI e10.Mask e11.Mask),I (-1),I e8,I e9],Bo false],[])=some r) else (if a1.Kind=3 then (some (.tup [.agg [I (orI e10.Mask e11.Mask),I (-1),I e8,I e9],Bo (decide (a1.Order=0))],[])=some r) else (if a1.Kind=5 then (some (.tup [.agg [I (orI e10.Mask e11.Mask),I e10.Order,I e8,I e9],Bo (decide (a1.Order=0))],[])=some r) else (if a1.Kind=4 then (∃ (v15_0:Bool),Zde v14_0 a1.Order=some (Bo v15_0,[])∧(if v15_0=true then (if e10.Order=a1.Order then (some (.tup [.agg [I (orI e10.Mask e11.Mask),I a1.Order,I e8,I e9],Bo (decide (e11.Order=a1.Order))],[])=some r) else (some (.tup [.agg [I (orI e10.Mask e11.Mask),I a1.Order,I e8,I e9],Bo false],[])=some r)) else (some (.tup [.agg [I (orI e10.Mask e11.Mask),I a1.Order,I e8,I e9],Bo false],[])=some r))) else (some (.tup [.agg [I (orI e10.Mask e11.Mask),I (-1),I e8,I e9],Bo false],[])=some r))))) else (some (.tup [.agg [I (orI e10.Mask e11.Mask),I (-1),I e8,I e9],Bo false],[])=some r))))))))))))))) else (some (.tup [.agg [I 0,I (-1),I (-1),I (-1)],Bo false],[])=some r)))):Zhu a a1 a2 a3=some r:=by
 unfold Zhu
 refine run Zbbr rfl ?_
 simp only [Zy,Zdt,Zde,Ze0,Zb.c_def,mpl,dfs] at h
 try simp only [itb] at h
 try simp only [itf,List.getElem?_eq_some_iff,kk] at h
 rcases h with ⟨q1,v1_0,q2,(⟨q3,(⟨q4,q5,q6,e2,⟨g7,q7⟩,e3,⟨g8,q8⟩,h⟩ | ⟨q4,h⟩)⟩ | ⟨q3,h⟩)⟩ | ⟨q1,(⟨q9,(⟨q10,(⟨q11,h⟩ | ⟨q11,q12,e4,⟨g13,q13⟩,q14,e5,⟨g15,q15⟩,v6_0,q16,v7_0,q17,(⟨q18,(⟨q19,h⟩ | ⟨q19,h⟩)⟩ | ⟨q18,h⟩)⟩)⟩ | ⟨q10,(⟨q20,h⟩ | ⟨q20,q21,e8,⟨g22,q22⟩,q23,e9,⟨g24,q24⟩,q25,e10,⟨g26,q26⟩,q27,e11,⟨g28,q28⟩,v12_0,q29,v13_0,q30,v14_0,q31,(⟨q32,(⟨q33,h⟩ | ⟨q33,(⟨q34,h⟩ | ⟨q34,(⟨q35,h⟩ | ⟨q35,(⟨q36,v15_0,q37,(⟨q38,(⟨q39,h⟩ | ⟨q39,h⟩)⟩ | ⟨q38,h⟩)⟩ | ⟨q36,h⟩)⟩)⟩)⟩)⟩ | ⟨q32,h⟩)⟩)⟩)⟩ | ⟨q9,h⟩)⟩
 all_goals (refine Eq.trans ?_ h;clear h;simp +decide [*,kk,Zyj])
theorem Z20 (q:Zb) (info:List Zh) (stack:List Int) (x:List Zc) (x1:Int) (x2:Int) (r:AV×List Blk) (h:(if x2<x1 then (0≤x2∧(∃ (e1:Zc),x[x2.toNat]?=some e1∧(∃ (v2_0:Zh) (v2_1:Bool),Zhu q e1 info stack=some (.tup [.agg (v2_0.c.map .t),Bo v2_1],[])∧(if v2_1=true then (info.length+1≤68719476736∧(if 0≤v2_0.Right then (0≤(w ((stack.length:Int) - 2))∧((w ((stack.length:Int) - 2)).toNat≤stack.length∧((w ((stack.length:Int) - 2)).toNat+1≤68719476736∧(Ze2 q (info++[v2_0]) ((stack.take ((w ((stack.length:Int) - 2)).toNat))++[x2]) x x1 (w (x2+1))=some r)))) else (if 0≤v2_0.Left then (0≤(w ((stack.length:Int) - 1))∧((w ((stack.length:Int) - 1)).toNat≤stack.length∧((w ((stack.length:Int) - 1)).toNat+1≤68719476736∧(Ze2 q (info++[v2_0]) ((stack.take ((w ((stack.length:Int) - 1)).toNat))++[x2]) x x1 (w (x2+1))=some r)))) else (stack.length+1≤68719476736∧(Ze2 q (info++[v2_0]) (stack++[x2]) x x1 (w (x2+1))=some r))))) else (some (.tup [.t .nil,Bo false],[])=some r))))) else (if (stack.length:Int)=1 then (some (.tup [.own 0,Bo true],[.arr 138 4 true (info.map Zh.c)])=some r) else (some (.tup [.t .nil,Bo false],[])=some r)))):Ze2 q info stack x x1 x2=some r:=by
 unfold Ze2
 rw [EvL_eq Zrr.eq_1]
 simp only [Zhu,Zc.c_def,Zb.c_def,Zh.c_def,mpl,dfs] at h
 try simp only [itb] at h
 try simp only [itf,List.getElem?_eq_some_iff,kk] at h
 rcases h with ⟨q1,q2,e1,⟨g3,q3⟩,v2_0,v2_1,q4,(⟨q5,q6,(⟨q7,q8,q9,q10,h⟩ | ⟨q7,(⟨q11,q12,q13,q14,h⟩ | ⟨q11,q15,h⟩)⟩)⟩ | ⟨q5,h⟩)⟩ | ⟨q1,(⟨q16,h⟩ | ⟨q16,h⟩)⟩
 all_goals (refine Eq.trans ?_ h;clear h;simp +decide [*,kk,Ze2,Zyk,Zrs])
theorem Zbfo (a:Zb) (a1:Plan) (r:AV×List Blk) (h:(∃ (v1_0:Bool),Zc7 a=some (Bo v1_0,[])∧(if v1_0=true then (∃ (v2_0:Bool),Zy (a1.Steps.length:Int) 1 14=some (Bo v2_0,[])∧(if v2_0=true then (Ze2 a ([]:List Zh) ([]:List Int) a1.Steps (a1.Steps.length:Int) 0=some r) else (some (.tup [.t .nil,Bo false],[])=some r))) else (some (.tup [.t .nil,Bo false],[])=some r)))):Ze1 a a1=some r:=by
 unfold Ze1
 refine run Zbbs rfl ?_
 simp only [Zc7,Zy,Zb.c_def,mpl,dfs] at h
 try simp only [itb] at h
 try simp only [itf,List.getElem?_eq_some_iff,kk] at h
 rcases h with ⟨v1_0,q1,(⟨q2,v2_0,q3,(⟨q4,h⟩ | ⟨q4,h⟩)⟩ | ⟨q2,h⟩)⟩
 all_goals (refine Eq.trans ?_ h;clear h;simp +decide [*,kk,Zyl,Ze2])
theorem Zbfp (a:Zb) (a1:Plan) (r:AV×List Blk) (h:((Ze1 a a1=some (.tup [.t .nil,Bo false],[])∧(some (I 0,[])=some r))∨(∃ (v2_0:List Zh),Ze1 a a1=some (.tup [.own 0,Bo true],[.arr 138 4 true (v2_0.map Zh.c)])∧(0≤(w ((v2_0.length:Int) - 1))∧(∃ (e3:Zh),v2_0[(w ((v2_0.length:Int) - 1)).toNat]?=some e3∧(some (I e3.Mask,[])=some r)))))):Zk7 a a1=some r:=by
 unfold Zk7
 refine run Zbbt rfl ?_
 simp only [Ze1,Plan.c_def,Zb.c_def,mpl,dfs] at h
 try simp only [itb] at h
 try simp only [itf,List.getElem?_eq_some_iff,kk] at h
 rcases h with ⟨q2,h⟩ | ⟨v2_0,q3,q4,e3,⟨g5,q5⟩,h⟩
 all_goals (refine Eq.trans ?_ h;clear h;simp +decide [*,kk,Zym])
end Go.Proofs.YtbapkgocloaaeaaGreat
/- part: G2 -/
namespace Go.Proofs.YtbapkgocloaaeaaGreat
open Go.AM
theorem Zbfq (a:Zb) (a1:Region) (r:AV×List Blk) (h:(∃ (v1_0:Bool),Zc7 a=some (Bo v1_0,[])∧(if v1_0=true then (∃ (v2_0:Bool),Zk6 a a1.Box=some (Bo v2_0,[])∧(if v2_0=true then (∃ (v3_0:Int),Zk7 a a1.Plan=some (I v3_0,[])∧(∃ (v4_0:Int),Zb6 a=some (I v4_0,[])∧(if v3_0=v4_0 then (∃ (v5_0:Bool),Zy a1.Percent 100 1000=some (Bo v5_0,[])∧(some (Bo v5_0,[])=some r)) else (some (Bo false,[])=some r)))) else (some (Bo false,[])=some r))) else (some (Bo false,[])=some r)))):Zk8 a a1=some r:=by
 unfold Zk8
 refine run Zbbu rfl ?_
 simp only [Zc7,Zk6,Zk7,Zb6,Zy,Box.c_def,Plan.c_def,Zb.c_def,mpl,dfs] at h
 try simp only [itb] at h
 try simp only [itf,List.getElem?_eq_some_iff,kk] at h
 rcases h with ⟨v1_0,q1,(⟨q2,v2_0,q3,(⟨q4,v3_0,q5,v4_0,q6,(⟨q7,v5_0,q8,h⟩ | ⟨q7,h⟩)⟩ | ⟨q4,h⟩)⟩ | ⟨q2,h⟩)⟩
 all_goals (refine Eq.trans ?_ h;clear h;simp +decide [*,kk,Zyn])
theorem Zbfr (a:Zb) (a1:Int) (r:AV×List Blk) (h:(∃ (v1_0:Bool),Zc7 a=some (Bo v1_0,[])∧(if v1_0=true then (¬ (a.Atoms.length:Int)<0∧(∃ (v2_0:Bool),Zy a1 0 (w ((shlI 1 (a.Atoms.length:Int)) - 1))=some (Bo v2_0,[])∧(some (Bo v2_0,[])=some r))) else (some (Bo false,[])=some r)))):Zhv a a1=some r:=by
 unfold Zhv
 refine run Zbbv rfl ?_
 simp only [Zc7,Zy,Zb.c_def,mpl,dfs] at h
 try simp only [itb] at h
 try simp only [itf,List.getElem?_eq_some_iff,kk] at h
 rcases h with ⟨v1_0,q1,(⟨q2,q3,v2_0,q4,h⟩ | ⟨q2,h⟩)⟩
 all_goals (refine Eq.trans ?_ h;clear h;simp +decide [*,kk,Zyo])
theorem Z21 (vars:List Int) (mask:Int) (out:Int) (x:List Atom) (x1:Int) (x2:Int) (r:AV×List Blk) (h:(if x2<x1 then (0≤x2∧(∃ (e1:Atom),x[x2.toNat]?=some e1∧(¬ x2<0∧(if (andI (shrI mask x2) 1)=0 then (∃ (v2_0:List Int),Ze0 e1.Vars vars=some (.own 0,[.arr 3 1 true (v2_0.map ic)])∧(if 0<(v2_0.length:Int) then (Ze3 vars mask (orI out (shlI 1 x2)) x x1 (w (x2+1))=some r) else (Ze3 vars mask out x x1 (w (x2+1))=some r))) else (Ze3 vars mask out x x1 (w (x2+1))=some r))))) else (some (I out,[])=some r))):Ze3 vars mask out x x1 x2=some r:=by
 unfold Ze3
 rw [EvL_eq Zrt.eq_1]
 simp only [Ze0,mpl,dfs] at h
 try simp only [itb] at h
 try simp only [itf,List.getElem?_eq_some_iff,kk] at h
 rcases h with ⟨q1,q2,e1,⟨g3,q3⟩,q4,(⟨q5,v2_0,q6,(⟨q7,h⟩ | ⟨q7,h⟩)⟩ | ⟨q5,h⟩)⟩ | ⟨q1,h⟩
 all_goals (refine Eq.trans ?_ h;clear h;simp +decide [*,kk,Ze3,Zyp,Zru])
theorem Zbfs (a:Zb) (a1:Int) (r:AV×List Blk) (h:(∃ (v1_0:List Int),Zdt a a1=some (.own 0,[.arr 3 1 true (v1_0.map ic)])∧(Ze3 v1_0 a1 0 a.Atoms (a.Atoms.length:Int) 0=some r))):Zk9 a a1=some r:=by
 unfold Zk9
 refine run Zbbw rfl ?_
 simp only [Zdt,Zb.c_def,mpl,dfs] at h
 rcases h with ⟨v1_0,q1,h⟩
 all_goals (refine Eq.trans ?_ h;clear h;simp +decide [*,kk,Zyq,Ze3])
theorem Z22 (q:Zb) (mask:Int) (got:Int) (r:AV×List Blk) (h:(∃ (v1_0:Int),Zk9 q got=some (I v1_0,[])∧(if (orI got (andI v1_0 mask))=got then (some (Bo (decide (got=mask)),[])=some r) else (Zhw q mask (orI got (andI v1_0 mask))=some r)))):Zhw q mask got=some r:=by
 unfold Zhw
 rw [EvL_eq Zrv.eq_1]
 simp only [Zk9,Zb.c_def,mpl,dfs] at h
 try simp only [itb] at h
 try simp only [itf,List.getElem?_eq_some_iff,kk] at h
 rcases h with ⟨v1_0,q1,(⟨q2,h⟩ | ⟨q2,h⟩)⟩
 all_goals (refine Eq.trans ?_ h;clear h;simp +decide [*,kk,Zhw])
theorem Z23 (a:Zb) (a1:Int) (r:AV×List Blk) (h:(if a1=0 then (some (Bo false,[])=some r) else (Zhw a a1 (andI a1 (w (0 - a1)))=some r))):Zeh a a1=some r:=by
 unfold Zeh
 refine run Zbbx rfl ?_
 try simp only [itb] at h
 try simp only [itf,List.getElem?_eq_some_iff,kk] at h
 rcases h with ⟨q1,h⟩ | ⟨q1,h⟩
 all_goals (refine Eq.trans ?_ h;clear h;simp +decide [*,kk,Zyr,Zhw])
theorem Zbft (a:Zb) (a1:Int) (r:AV×List Blk) (h:(∃ (v1_0:Bool),Zhv a a1=some (Bo v1_0,[])∧(if v1_0=true then (∃ (v2_0:Bool),Zeh a a1=some (Bo v2_0,[])∧(some (Bo v2_0,[])=some r)) else (some (Bo false,[])=some r)))):Zhx a a1=some r:=by
 unfold Zhx
 refine run Zbby rfl ?_
 simp only [Zhv,Zeh,Zb.c_def,mpl,dfs] at h
 try simp only [itb] at h
 try simp only [itf,List.getElem?_eq_some_iff,kk] at h
 rcases h with ⟨v1_0,q1,(⟨q2,v2_0,q3,h⟩ | ⟨q2,h⟩)⟩
 all_goals (refine Eq.trans ?_ h;clear h;simp +decide [*,kk,Zys])
theorem Z24 (x:Zd) (r:AV×List Blk) (h:(some (.bsl 1 5,[.box (x.c.map .t),.box [.ptr 0 0,.ptr 0 6,.ptr 0 12,.ptr 0 18,.ptr 0 24]])=some r)):Zei x=some r:=by
 unfold Zei
 refine runM Zbbz rfl ?_
 refine Eq.trans ?_ h;clear h;simp +decide [*,kk,Zyt]
theorem Zbfu (x:Zi) (r:AV×List Blk) (h:(some (.bsl 1 5,[.box (x.c.map .t),.box [.ptr 0 0,.ptr 0 1,.ptr 0 2,.ptr 0 3,.ptr 0 4]])=some r)):Zla x=some r:=by
 unfold Zla
 refine runM Zbb0 rfl ?_
 refine Eq.trans ?_ h;clear h;simp +decide [*,kk,Zyu]
theorem Zkb (o:Zi) (x:Int) (x1:Int) (r:AV×List Blk) (h:(if x1<x then (if x1=0 then (∃ (v1_0:Bool),Zy o.Fixed (-99) 99=some (Bo v1_0,[])∧(if v1_0=true then (Zcx o x (w (x1+1))=some r) else (some (Bo false,[])=some r))) else (if x1=1 then (∃ (v2_0:Bool),Zy o.Zj (-99) 99=some (Bo v2_0,[])∧(if v2_0=true then (Zcx o x (w (x1+1))=some r) else (some (Bo false,[])=some r))) else (if x1=2 then (∃ (v3_0:Bool),Zy o.Zk (-99) 99=some (Bo v3_0,[])∧(if v3_0=true then (Zcx o x (w (x1+1))=some r) else (some (Bo false,[])=some r))) else (if x1=3 then (∃ (v4_0:Bool),Zy o.Zm (-99) 99=some (Bo v4_0,[])∧(if v4_0=true then (Zcx o x (w (x1+1))=some r) else (some (Bo false,[])=some r))) else (if x1=4 then (∃ (v5_0:Bool),Zy o.Zl (-99) 99=some (Bo v5_0,[])∧(if v5_0=true then (Zcx o x (w (x1+1))=some r) else (some (Bo false,[])=some r))) else False))))) else (Ze4 o o.Steps (o.Steps.length:Int) 0=some r))):Zcx o x x1=some r:=by
 unfold Zcx
 rw [EvL_eq Zrw.eq_1]
 by_cases q1:x1<x
 ·rw [if_pos q1] at h
  by_cases q2:x1=0
  ·rw [if_pos q2] at h
   subst q2
   obtain ⟨v1_0,q3,h⟩:=h
   unfold Zy at q3
   try simp at q3
   by_cases q4:v1_0=true
   ·rw [if_pos q4] at h
    refine Eq.trans ?_ h
    clear h
    simp +decide [*,Zcx]
   ·rw [if_neg q4] at h
    refine Eq.trans ?_ h
    clear h
    simp +decide [*]
  ·rw [if_neg q2] at h
   replace q2:=eq_false q2
   by_cases q5:x1=1
   ·rw [if_pos q5] at h
    subst q5
    obtain ⟨v2_0,q6,h⟩:=h
    unfold Zy at q6
    try simp at q6
    by_cases q7:v2_0=true
    ·rw [if_pos q7] at h
     refine Eq.trans ?_ h
     clear h
     simp +decide [*,Zcx]
    ·rw [if_neg q7] at h
     refine Eq.trans ?_ h
     clear h
     simp +decide [*]
   ·rw [if_neg q5] at h
    replace q5:=eq_false q5
    by_cases q8:x1=2
    ·rw [if_pos q8] at h
     subst q8
     obtain ⟨v3_0,q9,h⟩:=h
     unfold Zy at q9
     try simp at q9
     by_cases q10:v3_0=true
     ·rw [if_pos q10] at h
      refine Eq.trans ?_ h
      clear h
      simp +decide [*,Zcx]
     ·rw [if_neg q10] at h
      refine Eq.trans ?_ h
      clear h
      simp +decide [*]
    ·rw [if_neg q8] at h
     replace q8:=eq_false q8
     by_cases q11:x1=3
     ·rw [if_pos q11] at h
      subst q11
      obtain ⟨v4_0,q12,h⟩:=h
      unfold Zy at q12
      try simp at q12
      by_cases q13:v4_0=true
      ·rw [if_pos q13] at h
       refine Eq.trans ?_ h
       clear h
       simp +decide [*,Zcx]
      ·rw [if_neg q13] at h
       refine Eq.trans ?_ h
       clear h
       simp +decide [*]
     ·rw [if_neg q11] at h
      replace q11:=eq_false q11
      by_cases q14:x1=4
      ·rw [if_pos q14] at h
       subst q14
       obtain ⟨v5_0,q15,h⟩:=h
       unfold Zy at q15
       try simp at q15
       by_cases q16:v5_0=true
       ·rw [if_pos q16] at h
        refine Eq.trans ?_ h
        clear h
        simp +decide [*,Zcx]
       ·rw [if_neg q16] at h
        refine Eq.trans ?_ h
        clear h
        simp +decide [*]
      ·rw [if_neg q14] at h
       replace q14:=eq_false q14
       cases h
 ·rw [if_neg q1] at h
  refine Eq.trans ?_ h
  clear h
  simp +decide [*,Ze4,Zrz]
theorem Z25 (o:Zi) (x:List Zg) (x1:Int) (x2:Int) (r:AV×List Blk) (h:(if x2<x1 then (0≤x2∧(∃ (e1:Zg),x[x2.toNat]?=some e1∧(∃ (v2_0:Bool),Zy e1.Add (-99) 99=some (Bo v2_0,[])∧(if v2_0=true then (∃ (v3_0:Bool),Zy e1.From 1 8192=some (Bo v3_0,[])∧(if v3_0=true then (if 0<x2 then (0≤(w (x2 - 1))∧(∃ (e4:Zg),o.Steps[(w (x2 - 1)).toNat]?=some e4∧(if e1.From≤e4.From then (some (Bo false,[])=some r) else (Ze4 o x x1 (w (x2+1))=some r)))) else (Ze4 o x x1 (w (x2+1))=some r)) else (some (Bo false,[])=some r))) else (some (Bo false,[])=some r))))) else (some (Bo (decide ((o.Steps.length:Int)≤4)),[])=some r))):Ze4 o x x1 x2=some r:=by
 unfold Ze4
 rw [EvL_eq Zrx.eq_1]
 simp only [Zy,mpl,dfs] at h
 try simp only [itb] at h
 try simp only [itf,List.getElem?_eq_some_iff,kk] at h
 rcases h with ⟨q1,q2,e1,⟨g3,q3⟩,v2_0,q4,(⟨q5,v3_0,q6,(⟨q7,(⟨q8,q9,e4,⟨g10,q10⟩,(⟨q11,h⟩ | ⟨q11,h⟩)⟩ | ⟨q8,h⟩)⟩ | ⟨q7,h⟩)⟩ | ⟨q5,h⟩)⟩ | ⟨q1,h⟩
 all_goals (refine Eq.trans ?_ h;clear h;simp +decide [*,kk,Ze4,Zry])
theorem Zbfv (a:Zi) (r:AV×List Blk) (h:(Zla a=some (.bsl 1 5,[.box (a.c.map .t),.box [.ptr 0 0,.ptr 0 1,.ptr 0 2,.ptr 0 3,.ptr 0 4]])∧(Zcx a 5 0=some r))):Zbq a=some r:=by
 unfold Zbq
 refine run Zbb1 rfl ?_
 simp only [Zla,Zi.c_def,mpl,dfs] at h
 rcases h with ⟨q1,h⟩
 all_goals (refine Eq.trans ?_ h;clear h;simp +decide [*,kk,Zyv,Zcx])
theorem Z26 (out:List (List Int)) (a:Int) (r:AV×List Blk) (h:(if a≤7 then (Ze5 out a 0=some r) else (some (.own 0,[.arr 38 1 true (out.map isc)])=some r))):Zf7 out a=some r:=by
 unfold Zf7
 rw [EvL_eq Zlb.eq_1]
 try simp only [itb] at h
 try simp only [itf,List.getElem?_eq_some_iff,kk] at h
 rcases h with ⟨q1,h⟩ | ⟨q1,h⟩
 all_goals (refine Eq.trans ?_ h;clear h;simp +decide [*,kk,Ze5,Zlc])
theorem Z27 (out:List (List Int)) (a:Int) (b:Int) (r:AV×List Blk) (h:(if b≤7 then (Zf8 out a b 0=some r) else (Zf7 out (w (a+1))=some r))):Ze5 out a b=some r:=by
 unfold Ze5
 rw [EvL_eq Zos.eq_1]
 try simp only [itb] at h
 try simp only [itf,List.getElem?_eq_some_iff,kk] at h
 rcases h with ⟨q1,h⟩ | ⟨q1,h⟩
 all_goals (refine Eq.trans ?_ h;clear h;simp +decide [*,kk,Zf8,Zf7,Zot])
theorem Z28 (out:List (List Int)) (a:Int) (b:Int) (c:Int) (r:AV×List Blk) (h:(if c≤7 then (out.length+1≤68719476736∧(Zf8 (out++[[a,b,c]]) a b (w (c+1))=some r)) else (Ze5 out a (w (b+1))=some r))):Zf8 out a b c=some r:=by
 unfold Zf8
 rw [EvL_eq Zr0.eq_1]
 try simp only [itb] at h
 try simp only [itf,List.getElem?_eq_some_iff,kk] at h
 rcases h with ⟨q1,q2,h⟩ | ⟨q1,h⟩
 all_goals (refine Eq.trans ?_ h;clear h;simp +decide [*,kk,Zf8,Ze5,Zr1])
theorem Zbfw (r:AV×List Blk) (h:(Zf7 ([]:List (List Int)) 0=some r)):Zcn=some r:=by
 unfold Zcn
 refine run Zbb2 rfl ?_
 refine Eq.trans ?_ h;clear h;simp +decide [*,kk,Zyw,Zf7]
theorem Zbfx (a:List Int) (r:AV×List Blk) (h:(a.length≤68719476736∧(some (.own 0,[.arr 3 1 true (a.map ic)])=some r))):Zdf a=some r:=by
 unfold Zdf
 refine run Zbb3 rfl ?_
 rcases h with ⟨q1,h⟩
 all_goals (refine Eq.trans ?_ h;clear h;simp +decide [*,kk,Zyx])
theorem Zbfy (a:Int) (r:AV×List Blk) (h:(∃ (v1_0:Bool),Zy a 0 7=some (Bo v1_0,[])∧(if v1_0=true then (if a=0 then (some (I 0,[])=some r) else (¬ (w (2*(w (a - 1))))<0∧(some (I (shlI 1 (w (2*(w (a - 1))))),[])=some r))) else (some (I (-1),[])=some r)))):Ze6 a=some r:=by
 unfold Ze6
 refine run Zbb4 rfl ?_
 simp only [Zy,mpl,dfs] at h
 try simp only [itb] at h
 try simp only [itf,List.getElem?_eq_some_iff,kk] at h
 rcases h with ⟨v1_0,q1,(⟨q2,(⟨q3,h⟩ | ⟨q3,q4,h⟩)⟩ | ⟨q2,h⟩)⟩
 all_goals (refine Eq.trans ?_ h;clear h;simp +decide [*,kk,Zyy])
theorem Z29 (left:Int) (right:Int) (n:Int) (x:List Zg) (x1:Int) (x2:Int) (r:AV×List Blk) (h:(if x2<x1 then (0≤x2∧(∃ (e1:Zg),x[x2.toNat]?=some e1∧(if e1.From≤(w (left+right)) then (Zf9 left right (w (n+e1.Add)) x x1 (w (x2+1))=some r) else (Zf9 left right n x x1 (w (x2+1))=some r)))) else (some (I n,[])=some r))):Zf9 left right n x x1 x2=some r:=by
 unfold Zf9
 rw [EvL_eq Zr2.eq_1]
 try simp only [itb] at h
 try simp only [itf,List.getElem?_eq_some_iff,kk] at h
 rcases h with ⟨q1,q2,e1,⟨g3,q3⟩,(⟨q4,h⟩ | ⟨q4,h⟩)⟩ | ⟨q1,h⟩
 all_goals (refine Eq.trans ?_ h;clear h;simp +decide [*,kk,Zf9,Zyz,Zr3])
theorem Zbfz (a:Zi) (a1:Int) (a2:Int) (a3:Int) (r:AV×List Blk) (h:(Zf9 a1 a2 (w ((w ((w ((w (a.Fixed+(w (a.Zj*a1))))+(w (a.Zk*a2))))+(w (a.Zm*a3))))+(w ((w (a.Zl*a1))*a2)))) a.Steps (a.Steps.length:Int) 0=some r)):Zhy a a1 a2 a3=some r:=by
 unfold Zhy
 refine run Zbb5 rfl ?_
 refine Eq.trans ?_ h;clear h;simp +decide [*,kk,Zy0,Zf9]
theorem Zbf0 (a:Zi) (a1:List Int) (r:AV×List Blk) (h:(∃ (e1:Int),a1[0]?=some e1∧(∃ (v2_0:Int),Ze6 e1=some (I v2_0,[])∧(∃ (e3:Int),a1[1]?=some e3∧(∃ (v4_0:Int),Ze6 e3=some (I v4_0,[])∧(∃ (e5:Int),a1[2]?=some e5∧(∃ (v6_0:Int),Ze6 e5=some (I v6_0,[])∧(∃ (v7_0:Int),Zhy a v2_0 v4_0 v6_0=some (I v7_0,[])∧(some (I v7_0,[])=some r))))))))):Zce a a1=some r:=by
 unfold Zce
 refine run Zbb6 rfl ?_
 simp only [Ze6,Zhy,Zi.c_def,mpl,dfs] at h
 try simp only [itb] at h
 try simp only [itf,List.getElem?_eq_some_iff,kk] at h
 rcases h with ⟨e1,⟨g1,q1⟩,v2_0,q2,e3,⟨g3,q3⟩,v4_0,q4,e5,⟨g5,q5⟩,v6_0,q6,v7_0,q7,h⟩
 all_goals (refine Eq.trans ?_ h;clear h;simp +decide [*,kk,Zy1])
theorem Z3a (o:Zi) (x:List (List Int)) (x1:Int) (x2:Int) (r:AV×List Blk) (h:(if x2<x1 then (0≤x2∧(∃ (e1:List Int),x[x2.toNat]?=some e1∧(Zcy o x e1 x1 x2 (e1.length:Int) 0=some r))) else (some (.tup [.t .nil,.t .nil,Bo false],[])=some r))):Zej o x x1 x2=some r:=by
 unfold Zej
 rw [EvL_eq Zou.eq_1]
 try simp only [itb] at h
 try simp only [itf,List.getElem?_eq_some_iff,kk] at h
 rcases h with ⟨q1,q2,e1,⟨g3,q3⟩,h⟩ | ⟨q1,h⟩
 all_goals (refine Eq.trans ?_ h;clear h;simp +decide [*,kk,Zcy,Zov])
theorem Zu3 (o:Zi) (x:List (List Int)) (t:List Int) (x1:Int) (x2:Int) (x3:Int) (x4:Int) (r:AV×List Blk) (h:(if x4<x3 then (0≤x4∧(∃ (e1:Int),t[x4.toNat]?=some e1∧(if e1=7 then (Zcy o x t x1 x2 x3 (w (x4+1))=some r) else (∃ (v2_0:List Int),Zdf t=some (.own 0,[.arr 3 1 true (v2_0.map ic)])∧(∃ (e3:Int),v2_0[x4.toNat]?=some e3∧(∃ (v4_0:Int),Zce o (v2_0.set x4.toNat (w (e3+1)))=some (I v4_0,[])∧(∃ (v5_0:Int),Zce o t=some (I v5_0,[])∧(if v4_0<v5_0 then (some (.tup [L 1 (t.map ic),.own 0,Bo true],[.arr 3 1 true ((v2_0.set x4.toNat (w (e3+1))).map ic)])=some r) else (Zcy o x t x1 x2 x3 (w (x4+1))=some r))))))))) else (Zej o x x1 (w (x2+1))=some r))):Zcy o x t x1 x2 x3 x4=some r:=by
 unfold Zcy
 rw [EvL_eq Zr4.eq_1]
 simp only [Zdf,Zce,Zi.c_def,mpl,dfs] at h
 try simp only [itb] at h
 try simp only [itf,List.getElem?_eq_some_iff,kk] at h
 rcases h with ⟨q1,q2,e1,⟨g3,q3⟩,(⟨q4,h⟩ | ⟨q4,v2_0,q5,e3,⟨g6,q6⟩,v4_0,q7,v5_0,q8,(⟨q9,h⟩ | ⟨q9,h⟩)⟩)⟩ | ⟨q1,h⟩
 all_goals (refine Eq.trans ?_ h;clear h;simp +decide [*,kk,Zcy,Zy2,Zej,Zr5])
theorem Zbf1 (a:Zi) (r:AV×List Blk) (h:(∃ (v1_0:Bool),Zbq a=some (Bo v1_0,[])∧(if v1_0=true then (∃ (v2_0:List (List Int)),Zcn=some (.own 0,[.arr 38 1 true (v2_0.map isc)])∧(Zej a v2_0 (v2_0.length:Int) 0=some r)) else (some (.tup [.t .nil,.t .nil,Bo false],[])=some r)))):Zbl a=some r:=by
 unfold Zbl
 refine run Zbb7 rfl ?_
 simp only [Zbq,Zcn,Zi.c_def,mpl,dfs] at h
 try simp only [itb] at h
 try simp only [itf,List.getElem?_eq_some_iff,kk] at h
 rcases h with ⟨v1_0,q1,(⟨q2,v2_0,q3,h⟩ | ⟨q2,h⟩)⟩
 all_goals (refine Eq.trans ?_ h;clear h;simp +decide [*,kk,Zy3,Zej])
end Go.Proofs.YtbapkgocloaaeaaGreat
/- part: G3 -/
namespace Go.Proofs.YtbapkgocloaaeaaGreat
open Go.AM
theorem Zkc (x:Zd) (x1:Int) (x2:Int) (r:AV×List Blk) (h:(if x2<x1 then (if x2=0 then (∃ (v1_0:Bool),Zbq x.Scan=some (Bo v1_0,[])∧(if v1_0=true then ((Zbl x.Scan=some (.tup [.t .nil,.t .nil,Bo false],[])∧(∃ (v3_0:List (List Int)),Zcn=some (.own 0,[.arr 38 1 true (v3_0.map isc)])∧(Ze7 x v3_0 (w (1+x2)) x1 x2 (v3_0.length:Int) 0=some r)))∨(∃ (v4_0:List Int) (v4_1:List Int),Zbl x.Scan=some (.tup [L 1 (v4_1.map ic),.own 0,Bo true],[.arr 3 1 true (v4_0.map ic)])∧(some (.tup [I (w (1+x2)),L 1 (v4_1.map ic),.own 0],[.arr 3 1 true (v4_0.map ic)])=some r))) else (some (.tup [I (w (1+x2)),.t .nil,.t .nil],[])=some r))) else (if x2=1 then (∃ (v5_0:Bool),Zbq x.Sort_=some (Bo v5_0,[])∧(if v5_0=true then ((Zbl x.Sort_=some (.tup [.t .nil,.t .nil,Bo false],[])∧(∃ (v7_0:List (List Int)),Zcn=some (.own 0,[.arr 38 1 true (v7_0.map isc)])∧(Ze8 x v7_0 (w (1+x2)) x1 x2 (v7_0.length:Int) 0=some r)))∨(∃ (v8_0:List Int) (v8_1:List Int),Zbl x.Sort_=some (.tup [L 1 (v8_1.map ic),.own 0,Bo true],[.arr 3 1 true (v8_0.map ic)])∧(some (.tup [I (w (1+x2)),L 1 (v8_1.map ic),.own 0],[.arr 3 1 true (v8_0.map ic)])=some r))) else (some (.tup [I (w (1+x2)),.t .nil,.t .nil],[])=some r))) else (if x2=2 then (∃ (v9_0:Bool),Zbq x.Hash=some (Bo v9_0,[])∧(if v9_0=true then ((Zbl x.Hash=some (.tup [.t .nil,.t .nil,Bo false],[])∧(∃ (v11_0:List (List Int)),Zcn=some (.own 0,[.arr 38 1 true (v11_0.map isc)])∧(Ze9 x v11_0 (w (1+x2)) x1 x2 (v11_0.length:Int) 0=some r)))∨(∃ (v12_0:List Int) (v12_1:List Int),Zbl x.Hash=some (.tup [L 1 (v12_1.map ic),.own 0,Bo true],[.arr 3 1 true (v12_0.map ic)])∧(some (.tup [I (w (1+x2)),L 1 (v12_1.map ic),.own 0],[.arr 3 1 true (v12_0.map ic)])=some r))) else (some (.tup [I (w (1+x2)),.t .nil,.t .nil],[])=some r))) else (if x2=3 then (∃ (v13_0:Bool),Zbq x.Merge=some (Bo v13_0,[])∧(if v13_0=true then ((Zbl x.Merge=some (.tup [.t .nil,.t .nil,Bo false],[])∧(∃ (v15_0:List (List Int)),Zcn=some (.own 0,[.arr 38 1 true (v15_0.map isc)])∧(Zfa x v15_0 (w (1+x2)) x1 x2 (v15_0.length:Int) 0=some r)))∨(∃ (v16_0:List Int) (v16_1:List Int),Zbl x.Merge=some (.tup [L 1 (v16_1.map ic),.own 0,Bo true],[.arr 3 1 true (v16_0.map ic)])∧(some (.tup [I (w (1+x2)),L 1 (v16_1.map ic),.own 0],[.arr 3 1 true (v16_0.map ic)])=some r))) else (some (.tup [I (w (1+x2)),.t .nil,.t .nil],[])=some r))) else (if x2=4 then (∃ (v17_0:Bool),Zbq x.Nested=some (Bo v17_0,[])∧(if v17_0=true then ((Zbl x.Nested=some (.tup [.t .nil,.t .nil,Bo false],[])∧(∃ (v19_0:List (List Int)),Zcn=some (.own 0,[.arr 38 1 true (v19_0.map isc)])∧(Zfb x v19_0 (w (1+x2)) x1 x2 (v19_0.length:Int) 0=some r)))∨(∃ (v20_0:List Int) (v20_1:List Int),Zbl x.Nested=some (.tup [L 1 (v20_1.map ic),.own 0,Bo true],[.arr 3 1 true (v20_0.map ic)])∧(some (.tup [I (w (1+x2)),L 1 (v20_1.map ic),.own 0],[.arr 3 1 true (v20_0.map ic)])=some r))) else (some (.tup [I (w (1+x2)),.t .nil,.t .nil],[])=some r))) else False))))) else (some (.tup [I 0,.t .nil,.t .nil],[])=some r))):Z5 x x1 x2=some r:=by
 unfold Z5
 rw [EvL_eq Zga.eq_1]
 by_cases q1:x2<x1
 ·rw [if_pos q1] at h
  by_cases q2:x2=0
  ·rw [if_pos q2] at h
   subst q2
   obtain ⟨v1_0,q3,h⟩:=h
   unfold Zbq at q3
   try simp at q3
   by_cases q4:v1_0=true
   ·rw [if_pos q4] at h
    rcases h with h | h
    ·
     obtain ⟨q5,h⟩:=h
     unfold Zbl at q5
     try simp at q5
     obtain ⟨v3_0,q6,h⟩:=h
     unfold Zcn at q6
     try simp at q6
     refine Eq.trans ?_ h
     clear h
     simp +decide [*,Ze7]
    ·
     obtain ⟨v4_0,v4_1,q7,h⟩:=h
     unfold Zbl at q7
     try simp at q7
     refine Eq.trans ?_ h
     clear h
     simp +decide [*]
   ·rw [if_neg q4] at h
    refine Eq.trans ?_ h
    clear h
    simp +decide [*]
  ·rw [if_neg q2] at h
   replace q2:=eq_false q2
   by_cases q8:x2=1
   ·rw [if_pos q8] at h
    subst q8
    obtain ⟨v5_0,q9,h⟩:=h
    unfold Zbq at q9
    try simp at q9
    by_cases q10:v5_0=true
    ·rw [if_pos q10] at h
     rcases h with h | h
     ·
      obtain ⟨q11,h⟩:=h
      unfold Zbl at q11
      try simp at q11
      obtain ⟨v7_0,q12,h⟩:=h
      unfold Zcn at q12
      try simp at q12
      refine Eq.trans ?_ h
      clear h
      simp +decide [*,Ze8]
     ·
      obtain ⟨v8_0,v8_1,q13,h⟩:=h
      unfold Zbl at q13
      try simp at q13
      refine Eq.trans ?_ h
      clear h
      simp +decide [*]
    ·rw [if_neg q10] at h
     refine Eq.trans ?_ h
     clear h
     simp +decide [*]
   ·rw [if_neg q8] at h
    replace q8:=eq_false q8
    by_cases q14:x2=2
    ·rw [if_pos q14] at h
     subst q14
     obtain ⟨v9_0,q15,h⟩:=h
     unfold Zbq at q15
     try simp at q15
     by_cases q16:v9_0=true
     ·rw [if_pos q16] at h
      rcases h with h | h
      ·
       obtain ⟨q17,h⟩:=h
       unfold Zbl at q17
       try simp at q17
       obtain ⟨v11_0,q18,h⟩:=h
       unfold Zcn at q18
       try simp at q18
       refine Eq.trans ?_ h
       clear h
       simp +decide [*,Ze9]
      ·
       obtain ⟨v12_0,v12_1,q19,h⟩:=h
       unfold Zbl at q19
       try simp at q19
       refine Eq.trans ?_ h
       clear h
       simp +decide [*]
     ·rw [if_neg q16] at h
      refine Eq.trans ?_ h
      clear h
      simp +decide [*]
    ·rw [if_neg q14] at h
     replace q14:=eq_false q14
     by_cases q20:x2=3
     ·rw [if_pos q20] at h
      subst q20
      obtain ⟨v13_0,q21,h⟩:=h
      unfold Zbq at q21
      try simp at q21
      by_cases q22:v13_0=true
      ·rw [if_pos q22] at h
       rcases h with h | h
       ·
        obtain ⟨q23,h⟩:=h
        unfold Zbl at q23
        try simp at q23
        obtain ⟨v15_0,q24,h⟩:=h
        unfold Zcn at q24
        try simp at q24
        refine Eq.trans ?_ h
        clear h
        simp +decide [*,Zfa]
       ·
        obtain ⟨v16_0,v16_1,q25,h⟩:=h
        unfold Zbl at q25
        try simp at q25
        refine Eq.trans ?_ h
        clear h
        simp +decide [*]
      ·rw [if_neg q22] at h
       refine Eq.trans ?_ h
       clear h
       simp +decide [*]
     ·rw [if_neg q20] at h
      replace q20:=eq_false q20
      by_cases q26:x2=4
      ·rw [if_pos q26] at h
       subst q26
       obtain ⟨v17_0,q27,h⟩:=h
       unfold Zbq at q27
       try simp at q27
       by_cases q28:v17_0=true
       ·rw [if_pos q28] at h
        rcases h with h | h
        ·
         obtain ⟨q29,h⟩:=h
         unfold Zbl at q29
         try simp at q29
         obtain ⟨v19_0,q30,h⟩:=h
         unfold Zcn at q30
         try simp at q30
         refine Eq.trans ?_ h
         clear h
         simp +decide [*,Zfb]
        ·
         obtain ⟨v20_0,v20_1,q31,h⟩:=h
         unfold Zbl at q31
         try simp at q31
         refine Eq.trans ?_ h
         clear h
         simp +decide [*]
       ·rw [if_neg q28] at h
        refine Eq.trans ?_ h
        clear h
        simp +decide [*]
      ·rw [if_neg q26] at h
       replace q26:=eq_false q26
       cases h
 ·rw [if_neg q1] at h
  refine Eq.trans ?_ h
  clear h
  simp +decide [*,Zgb]
theorem Z3b (o:Zd) (x:List (List Int)) (kind:Int) (x1:Int) (x2:Int) (x3:Int) (x4:Int) (r:AV×List Blk) (h:(if x4<x3 then (0≤x4∧(∃ (e1:List Int),x[x4.toNat]?=some e1∧(∃ (v2_0:Int),Zce o.Scan e1=some (I v2_0,[])∧(if v2_0<1 then (some (.tup [I kind,L 1 (e1.map ic),.t .nil],[])=some r) else (Ze7 o x kind x1 x2 x3 (w (x4+1))=some r))))) else (Z5 o x1 (w (x2+1))=some r))):Ze7 o x kind x1 x2 x3 x4=some r:=by
 unfold Ze7
 rw [EvL_eq Zdu.eq_1]
 simp only [Zce,Zi.c_def,mpl,dfs] at h
 try simp only [itb] at h
 try simp only [itf,List.getElem?_eq_some_iff,kk] at h
 rcases h with ⟨q1,q2,e1,⟨g3,q3⟩,v2_0,q4,(⟨q5,h⟩ | ⟨q5,h⟩)⟩ | ⟨q1,h⟩
 all_goals (refine Eq.trans ?_ h;clear h;simp +decide [*,kk,Ze7,Z5,Zdv])
theorem Z3c (o:Zd) (x:List (List Int)) (kind:Int) (x1:Int) (x2:Int) (x3:Int) (x4:Int) (r:AV×List Blk) (h:(if x4<x3 then (0≤x4∧(∃ (e1:List Int),x[x4.toNat]?=some e1∧(∃ (v2_0:Int),Zce o.Sort_ e1=some (I v2_0,[])∧(if v2_0<1 then (some (.tup [I kind,L 1 (e1.map ic),.t .nil],[])=some r) else (Ze8 o x kind x1 x2 x3 (w (x4+1))=some r))))) else (Z5 o x1 (w (x2+1))=some r))):Ze8 o x kind x1 x2 x3 x4=some r:=by
 unfold Ze8
 rw [EvL_eq Zdu.eq_1]
 simp only [Zce,Zi.c_def,mpl,dfs] at h
 try simp only [itb] at h
 try simp only [itf,List.getElem?_eq_some_iff,kk] at h
 rcases h with ⟨q1,q2,e1,⟨g3,q3⟩,v2_0,q4,(⟨q5,h⟩ | ⟨q5,h⟩)⟩ | ⟨q1,h⟩
 all_goals (refine Eq.trans ?_ h;clear h;simp +decide [*,kk,Ze8,Z5,Zdv])
theorem Z3d (o:Zd) (x:List (List Int)) (kind:Int) (x1:Int) (x2:Int) (x3:Int) (x4:Int) (r:AV×List Blk) (h:(if x4<x3 then (0≤x4∧(∃ (e1:List Int),x[x4.toNat]?=some e1∧(∃ (v2_0:Int),Zce o.Hash e1=some (I v2_0,[])∧(if v2_0<1 then (some (.tup [I kind,L 1 (e1.map ic),.t .nil],[])=some r) else (Ze9 o x kind x1 x2 x3 (w (x4+1))=some r))))) else (Z5 o x1 (w (x2+1))=some r))):Ze9 o x kind x1 x2 x3 x4=some r:=by
 unfold Ze9
 rw [EvL_eq Zdu.eq_1]
 simp only [Zce,Zi.c_def,mpl,dfs] at h
 try simp only [itb] at h
 try simp only [itf,List.getElem?_eq_some_iff,kk] at h
 rcases h with ⟨q1,q2,e1,⟨g3,q3⟩,v2_0,q4,(⟨q5,h⟩ | ⟨q5,h⟩)⟩ | ⟨q1,h⟩
 all_goals (refine Eq.trans ?_ h;clear h;simp +decide [*,kk,Ze9,Z5,Zdv])
theorem Z3e (o:Zd) (x:List (List Int)) (kind:Int) (x1:Int) (x2:Int) (x3:Int) (x4:Int) (r:AV×List Blk) (h:(if x4<x3 then (0≤x4∧(∃ (e1:List Int),x[x4.toNat]?=some e1∧(∃ (v2_0:Int),Zce o.Merge e1=some (I v2_0,[])∧(if v2_0<1 then (some (.tup [I kind,L 1 (e1.map ic),.t .nil],[])=some r) else (Zfa o x kind x1 x2 x3 (w (x4+1))=some r))))) else (Z5 o x1 (w (x2+1))=some r))):Zfa o x kind x1 x2 x3 x4=some r:=by
 unfold Zfa
 rw [EvL_eq Zdu.eq_1]
 simp only [Zce,Zi.c_def,mpl,dfs] at h
 try simp only [itb] at h
 try simp only [itf,List.getElem?_eq_some_iff,kk] at h
 rcases h with ⟨q1,q2,e1,⟨g3,q3⟩,v2_0,q4,(⟨q5,h⟩ | ⟨q5,h⟩)⟩ | ⟨q1,h⟩
 all_goals (refine Eq.trans ?_ h;clear h;simp +decide [*,kk,Zfa,Z5,Zdv])
theorem Z3f (o:Zd) (x:List (List Int)) (kind:Int) (x1:Int) (x2:Int) (x3:Int) (x4:Int) (r:AV×List Blk) (h:(if x4<x3 then (0≤x4∧(∃ (e1:List Int),x[x4.toNat]?=some e1∧(∃ (v2_0:Int),Zce o.Nested e1=some (I v2_0,[])∧(if v2_0<1 then (some (.tup [I kind,L 1 (e1.map ic),.t .nil],[])=some r) else (Zfb o x kind x1 x2 x3 (w (x4+1))=some r))))) else (Z5 o x1 (w (x2+1))=some r))):Zfb o x kind x1 x2 x3 x4=some r:=by
 unfold Zfb
 rw [EvL_eq Zdu.eq_1]
 simp only [Zce,Zi.c_def,mpl,dfs] at h
 try simp only [itb] at h
 try simp only [itf,List.getElem?_eq_some_iff,kk] at h
 rcases h with ⟨q1,q2,e1,⟨g3,q3⟩,v2_0,q4,(⟨q5,h⟩ | ⟨q5,h⟩)⟩ | ⟨q1,h⟩
 all_goals (refine Eq.trans ?_ h;clear h;simp +decide [*,kk,Zfb,Z5,Zdv])
theorem Zbf2 (a:Zd) (r:AV×List Blk) (h:(Zei a=some (.bsl 1 5,[.box (a.c.map .t),.box [.ptr 0 0,.ptr 0 6,.ptr 0 12,.ptr 0 18,.ptr 0 24]])∧(Z5 a 5 0=some r))):Zhz a=some r:=by
 unfold Zhz
 refine run Zbb8 rfl ?_
 simp only [Zei,Zd.c_def,Zi.c_def,mpl,dfs] at h
 rcases h with ⟨q1,h⟩
 all_goals (refine Eq.trans ?_ h;clear h;simp +decide [*,kk,Zy4,Z5])
theorem Zbf3 (a:Zd) (r:AV×List Blk) (h:((∃ (v1_0:List Int) (v1_1:Int) (v1_2:List Int),Zhz a=some (.tup [I v1_1,L 1 (v1_2.map ic),.own 0],[.arr 3 1 true (v1_0.map ic)])∧(some (Bo (decide (v1_1=0)),[])=some r))∨(∃ (v2_0:Int),Zhz a=some (.tup [I v2_0,.t .nil,.t .nil],[])∧(some (Bo (decide (v2_0=0)),[])=some r))∨(∃ (v3_0:Int) (v3_1:List Int),Zhz a=some (.tup [I v3_0,L 1 (v3_1.map ic),.t .nil],[])∧(some (Bo (decide (v3_0=0)),[])=some r)))):Zh0 a=some r:=by
 unfold Zh0
 refine run Zbb9 rfl ?_
 simp only [Zhz,Zd.c_def,Zi.c_def,mpl,dfs] at h
 rcases h with ⟨v1_0,v1_1,v1_2,q2,h⟩ | ⟨v2_0,q3,h⟩ | ⟨v3_0,v3_1,q4,h⟩
 all_goals (refine Eq.trans ?_ h;clear h;simp +decide [*,kk,Zy5])
theorem Zbf4 (a:Zd) (a1:Zb) (a2:Region) (r:AV×List Blk) (h:(∃ (v1_0:Bool),Zk8 a1 a2=some (Bo v1_0,[])∧(if v1_0=true then (∃ (v2_0:Int),Zb6 a1=some (I v2_0,[])∧(∃ (v3_0:Bool),Zhx a1 v2_0=some (Bo v3_0,[])∧(if v3_0=true then (∃ (v4_0:Bool),Zh0 a=some (Bo v4_0,[])∧(some (Bo v4_0,[])=some r)) else (some (Bo false,[])=some r)))) else (some (Bo false,[])=some r)))):Zld a a1 a2=some r:=by
 unfold Zld
 refine run Zbca rfl ?_
 simp only [Zk8,Zb6,Zhx,Zh0,Box.c_def,Zd.c_def,Zi.c_def,Plan.c_def,Zb.c_def,Region.c_def,mpl,dfs] at h
 try simp only [itb] at h
 try simp only [itf,List.getElem?_eq_some_iff,kk] at h
 rcases h with ⟨v1_0,q1,(⟨q2,v2_0,q3,v3_0,q4,(⟨q5,v4_0,q6,h⟩ | ⟨q5,h⟩)⟩ | ⟨q2,h⟩)⟩
 all_goals (refine Eq.trans ?_ h;clear h;simp +decide [*,kk,Zy6])
theorem Zu4 (out:List Int) (location:List Int) (x:List Int) (x1:Int) (x2:Int) (r:AV×List Blk) (h:(if x2<x1 then (0≤x2∧(∃ (e1:Int),x[x2.toNat]?=some e1∧(∃ (v2_0:Int),Ze6 e1=some (I v2_0,[])∧(out.length+1≤68719476736∧(Zfd (out++[v2_0]) location x x1 (w (x2+1))=some r))))) else (∃ (v3_0:Bool),Zf3 location=some (Bo v3_0,[])∧(if v3_0=true then (some (.own 0,[.arr 3 1 true (out.map ic)])=some r) else (some (.t .nil,[])=some r))))):Zfd out location x x1 x2=some r:=by
 unfold Zfd
 rw [EvL_eq Zr6.eq_1]
 simp only [Ze6,Zf3,mpl,dfs] at h
 try simp only [itb] at h
 try simp only [itf,List.getElem?_eq_some_iff,kk] at h
 rcases h with ⟨q1,q2,e1,⟨g3,q3⟩,v2_0,q4,q5,h⟩ | ⟨q1,v3_0,q6,(⟨q7,h⟩ | ⟨q7,h⟩)⟩
 all_goals (refine Eq.trans ?_ h;clear h;simp +decide [*,kk,Zfd,Zr7])
theorem Z3g (a:List Int) (r:AV×List Blk) (h:(Zfd ([]:List Int) a a (a.length:Int) 0=some r)):Zfc a=some r:=by
 unfold Zfc
 refine run Zbcb rfl ?_
 refine Eq.trans ?_ h;clear h;simp +decide [*,kk,Zy7,Zfd]
theorem Z3h (q:Zb) (sizes:List Int) (x:List Int) (x1:Int) (x2:Int) (r:AV×List Blk) (h:(if x2<x1 then (0≤x2∧(∃ (e1:Int),x[x2.toNat]?=some e1∧(∃ (v2_0:Bool),Zy e1 0 4096=some (Bo v2_0,[])∧(if v2_0=true then (Zh2 q sizes x x1 (w (x2+1))=some r) else (some (Bo false,[])=some r))))) else (∃ (v3_0:Bool),Zc7 q=some (Bo v3_0,[])∧(if v3_0=true then (∃ (v4_0:Int),Zb6 q=some (I v4_0,[])∧(some (Bo (decide ((sizes.length:Int)=(w (v4_0+1)))),[])=some r)) else (some (Bo false,[])=some r))))):Zh2 q sizes x x1 x2=some r:=by
 unfold Zh2
 rw [EvL_eq Zr8.eq_1]
 simp only [Zy,Zc7,Zb6,Zb.c_def,mpl,dfs] at h
 try simp only [itb] at h
 try simp only [itf,List.getElem?_eq_some_iff,kk] at h
 rcases h with ⟨q1,q2,e1,⟨g3,q3⟩,v2_0,q4,(⟨q5,h⟩ | ⟨q5,h⟩)⟩ | ⟨q1,v3_0,q6,(⟨q7,v4_0,q8,h⟩ | ⟨q7,h⟩)⟩
 all_goals (refine Eq.trans ?_ h;clear h;simp +decide [*,kk,Zh2,Zr9])
theorem Zbf5 (a:Zb) (a1:List Int) (r:AV×List Blk) (h:(Zh2 a a1 a1 (a1.length:Int) 0=some r)):Zh1 a a1=some r:=by
 unfold Zh1
 refine run Zbcc rfl ?_
 refine Eq.trans ?_ h;clear h;simp +decide [*,kk,Zy8,Zh2]
theorem Zbf6 (a:Zi) (a1:Int) (a2:Int) (a3:Int) (r:AV×List Blk) (h:(∃ (v1_0:Bool),Zbq a=some (Bo v1_0,[])∧(if v1_0=true then (∃ (v2_0:Bool),Zy a1 0 4096=some (Bo v2_0,[])∧(if v2_0=true then (∃ (v3_0:Bool),Zy a2 0 4096=some (Bo v3_0,[])∧(if v3_0=true then (∃ (v4_0:Bool),Zy a3 0 4096=some (Bo v4_0,[])∧(if v4_0=true then (∃ (v5_0:Int),Zhy a a1 a2 a3=some (I v5_0,[])∧(some (I v5_0,[])=some r)) else (some (I 0,[])=some r))) else (some (I 0,[])=some r))) else (some (I 0,[])=some r))) else (some (I 0,[])=some r)))):Zbm a a1 a2 a3=some r:=by
 unfold Zbm
 refine run Zbcd rfl ?_
 simp only [Zbq,Zy,Zhy,Zi.c_def,mpl,dfs] at h
 try simp only [itb] at h
 try simp only [itf,List.getElem?_eq_some_iff,kk] at h
 rcases h with ⟨v1_0,q1,(⟨q2,v2_0,q3,(⟨q4,v3_0,q5,(⟨q6,v4_0,q7,(⟨q8,v5_0,q9,h⟩ | ⟨q8,h⟩)⟩ | ⟨q6,h⟩)⟩ | ⟨q4,h⟩)⟩ | ⟨q2,h⟩)⟩
 all_goals (refine Eq.trans ?_ h;clear h;simp +decide [*,kk,Zy9])
end Go.Proofs.YtbapkgocloaaeaaGreat
/- part: G4 -/
namespace Go.Proofs.YtbapkgocloaaeaaGreat
open Go.AM
theorem Z3i (m:Zd) (info:List Zh) (out:List Int) (sizes:List Int) (x:List Zc) (x1:Int) (x2:Int) (r:AV×List Blk) (h:(if x2<x1 then (0≤x2∧(∃ (e1:Zc),x[x2.toNat]?=some e1∧(∃ (e2:Zh),info[x2.toNat]?=some e2∧(0≤e2.Mask∧(∃ (e3:Int),sizes[e2.Mask.toNat]?=some e3∧(if 0≤e2.Left then (∃ (e4:Zh),info[e2.Left.toNat]?=some e4∧(0≤e4.Mask∧(∃ (e5:Int),sizes[e4.Mask.toNat]?=some e5∧(if 0≤e2.Right then (∃ (e6:Zh),info[e2.Right.toNat]?=some e6∧(0≤e6.Mask∧(∃ (e7:Int),sizes[e6.Mask.toNat]?=some e7∧(Zjo m info out e1 sizes x2 e5 e7 x x1 x2=some r)))) else (Zjp m info out e1 sizes x2 e5 0 x x1 x2 false=some r))))) else (if 0≤e2.Right then (∃ (e8:Zh),info[e2.Right.toNat]?=some e8∧(0≤e8.Mask∧(∃ (e9:Int),sizes[e8.Mask.toNat]?=some e9∧(Zjo m info out e1 sizes x2 e3 e9 x x1 x2=some r)))) else (Zjp m info out e1 sizes x2 e3 0 x x1 x2 false=some r)))))))) else (some (.own 0,[.arr 3 1 true (out.map ic)])=some r))):Zbe m info out sizes x x1 x2=some r:=by
 unfold Zbe
 rw [EvL_eq Zlf.eq_1]
 try simp only [itb] at h
 try simp only [itf,List.getElem?_eq_some_iff,kk] at h
 rcases h with ⟨q1,q2,e1,⟨g3,q3⟩,e2,⟨g4,q4⟩,q5,e3,⟨g6,q6⟩,(⟨q7,e4,⟨g8,q8⟩,q9,e5,⟨g10,q10⟩,(⟨q11,e6,⟨g12,q12⟩,q13,e7,⟨g14,q14⟩,h⟩ | ⟨q11,h⟩)⟩ | ⟨q7,(⟨q15,e8,⟨g16,q16⟩,q17,e9,⟨g18,q18⟩,h⟩ | ⟨q15,h⟩)⟩)⟩ | ⟨q1,h⟩
 all_goals (refine Eq.trans ?_ h;clear h;simp +decide [*,kk,Zjo,Zza,Zjp,Zlg])
theorem Zbf7 (m:Zd) (info:List Zh) (out:List Int) (x:Zc) (sizes:List Int) (i:Int) (left:Int) (right:Int) (x1:List Zc) (x2:Int) (x3:Int) (r:AV×List Blk) (h:(Zei m=some (.bsl 1 5,[.box (m.c.map .t),.box [.ptr 0 0,.ptr 0 6,.ptr 0 12,.ptr 0 18,.ptr 0 24]])∧(if (w (x.Kind - 1))=0 then (0≤i∧(∃ (e2:Zh),info[i.toNat]?=some e2∧(0≤e2.Mask∧(∃ (e3:Int),sizes[e2.Mask.toNat]?=some e3∧(∃ (v4_0:Int),Zbm m.Scan left right e3=some (I v4_0,[])∧(out.length+1≤68719476736∧(Zbe m info (out++[v4_0]) sizes x1 x2 (w (x3+1))=some r))))))) else (if (w (x.Kind - 1))=1 then (0≤i∧(∃ (e5:Zh),info[i.toNat]?=some e5∧(0≤e5.Mask∧(∃ (e6:Int),sizes[e5.Mask.toNat]?=some e6∧(∃ (v7_0:Int),Zbm m.Sort_ left right e6=some (I v7_0,[])∧(out.length+1≤68719476736∧(Zbe m info (out++[v7_0]) sizes x1 x2 (w (x3+1))=some r))))))) else (if (w (x.Kind - 1))=2 then (0≤i∧(∃ (e8:Zh),info[i.toNat]?=some e8∧(0≤e8.Mask∧(∃ (e9:Int),sizes[e8.Mask.toNat]?=some e9∧(∃ (v10_0:Int),Zbm m.Hash left right e9=some (I v10_0,[])∧(out.length+1≤68719476736∧(Zbe m info (out++[v10_0]) sizes x1 x2 (w (x3+1))=some r))))))) else (if (w (x.Kind - 1))=3 then (0≤i∧(∃ (e11:Zh),info[i.toNat]?=some e11∧(0≤e11.Mask∧(∃ (e12:Int),sizes[e11.Mask.toNat]?=some e12∧(∃ (v13_0:Int),Zbm m.Merge left right e12=some (I v13_0,[])∧(out.length+1≤68719476736∧(Zbe m info (out++[v13_0]) sizes x1 x2 (w (x3+1))=some r))))))) else (if (w (x.Kind - 1))=4 then (0≤i∧(∃ (e14:Zh),info[i.toNat]?=some e14∧(0≤e14.Mask∧(∃ (e15:Int),sizes[e14.Mask.toNat]?=some e15∧(∃ (v16_0:Int),Zbm m.Nested left right e15=some (I v16_0,[])∧(out.length+1≤68719476736∧(Zbe m info (out++[v16_0]) sizes x1 x2 (w (x3+1))=some r))))))) else False))))))):Zjo m info out x sizes i left right x1 x2 x3=some r:=by
 unfold Zjo
 rw [Ev_eq Zle.eq_1]
 obtain ⟨q1,h⟩:=h
 unfold Zei at q1
 try simp at q1
 by_cases q2:(w (x.Kind - 1))=0
 ·rw [if_pos q2] at h
  obtain ⟨q3,h⟩:=h
  obtain ⟨e2,q4,h⟩:=h
  have gq4:=ltOfGet q4
  have kq4:=getOf q4
  obtain ⟨q5,h⟩:=h
  obtain ⟨e3,q6,h⟩:=h
  have gq6:=ltOfGet q6
  have kq6:=getOf q6
  obtain ⟨v4_0,q7,h⟩:=h
  unfold Zbm at q7
  try simp at q7
  obtain ⟨q8,h⟩:=h
  have rq8:=roomA (b:=8) q8 (by omega)
  have sq8:=roomB q8
  try simp [*] at rq8
  try simp [*] at sq8
  refine Eq.trans ?_ h
  clear h
  simp +decide [*,Zbe]
 ·rw [if_neg q2] at h
  replace q2:=eq_false q2
  by_cases q9:(w (x.Kind - 1))=1
  ·rw [if_pos q9] at h
   obtain ⟨q10,h⟩:=h
   obtain ⟨e5,q11,h⟩:=h
   have gq11:=ltOfGet q11
   have kq11:=getOf q11
   obtain ⟨q12,h⟩:=h
   obtain ⟨e6,q13,h⟩:=h
   have gq13:=ltOfGet q13
   have kq13:=getOf q13
   obtain ⟨v7_0,q14,h⟩:=h
   unfold Zbm at q14
   try simp at q14
   obtain ⟨q15,h⟩:=h
   have rq15:=roomA (b:=8) q15 (by omega)
   have sq15:=roomB q15
   try simp [*] at rq15
   try simp [*] at sq15
   refine Eq.trans ?_ h
   clear h
   simp +decide [*,Zbe]
  ·rw [if_neg q9] at h
   replace q9:=eq_false q9
   by_cases q16:(w (x.Kind - 1))=2
   ·rw [if_pos q16] at h
    obtain ⟨q17,h⟩:=h
    obtain ⟨e8,q18,h⟩:=h
    have gq18:=ltOfGet q18
    have kq18:=getOf q18
    obtain ⟨q19,h⟩:=h
    obtain ⟨e9,q20,h⟩:=h
    have gq20:=ltOfGet q20
    have kq20:=getOf q20
    obtain ⟨v10_0,q21,h⟩:=h
    unfold Zbm at q21
    try simp at q21
    obtain ⟨q22,h⟩:=h
    have rq22:=roomA (b:=8) q22 (by omega)
    have sq22:=roomB q22
    try simp [*] at rq22
    try simp [*] at sq22
    refine Eq.trans ?_ h
    clear h
    simp +decide [*,Zbe]
   ·rw [if_neg q16] at h
    replace q16:=eq_false q16
    by_cases q23:(w (x.Kind - 1))=3
    ·rw [if_pos q23] at h
     obtain ⟨q24,h⟩:=h
     obtain ⟨e11,q25,h⟩:=h
     have gq25:=ltOfGet q25
     have kq25:=getOf q25
     obtain ⟨q26,h⟩:=h
     obtain ⟨e12,q27,h⟩:=h
     have gq27:=ltOfGet q27
     have kq27:=getOf q27
     obtain ⟨v13_0,q28,h⟩:=h
     unfold Zbm at q28
     try simp at q28
     obtain ⟨q29,h⟩:=h
     have rq29:=roomA (b:=8) q29 (by omega)
     have sq29:=roomB q29
     try simp [*] at rq29
     try simp [*] at sq29
     refine Eq.trans ?_ h
     clear h
     simp +decide [*,Zbe]
    ·rw [if_neg q23] at h
     replace q23:=eq_false q23
     by_cases q30:(w (x.Kind - 1))=4
     ·rw [if_pos q30] at h
      obtain ⟨q31,h⟩:=h
      obtain ⟨e14,q32,h⟩:=h
      have gq32:=ltOfGet q32
      have kq32:=getOf q32
      obtain ⟨q33,h⟩:=h
      obtain ⟨e15,q34,h⟩:=h
      have gq34:=ltOfGet q34
      have kq34:=getOf q34
      obtain ⟨v16_0,q35,h⟩:=h
      unfold Zbm at q35
      try simp at q35
      obtain ⟨q36,h⟩:=h
      have rq36:=roomA (b:=8) q36 (by omega)
      have sq36:=roomB q36
      try simp [*] at rq36
      try simp [*] at sq36
      refine Eq.trans ?_ h
      clear h
      simp +decide [*,Zbe]
     ·rw [if_neg q30] at h
      replace q30:=eq_false q30
      cases h
theorem Zbf8 (m:Zd) (info:List Zh) (out:List Int) (x:Zc) (sizes:List Int) (i:Int) (left:Int) (right:Int) (x1:List Zc) (x2:Int) (x3:Int) (x4:Bool) (r:AV×List Blk) (h:(Zei m=some (.bsl 1 5,[.box (m.c.map .t),.box [.ptr 0 0,.ptr 0 6,.ptr 0 12,.ptr 0 18,.ptr 0 24]])∧(if (w (x.Kind - 1))=0 then (0≤i∧(∃ (e2:Zh),info[i.toNat]?=some e2∧(0≤e2.Mask∧(∃ (e3:Int),sizes[e2.Mask.toNat]?=some e3∧(∃ (v4_0:Int),Zbm m.Scan left right e3=some (I v4_0,[])∧(out.length+1≤68719476736∧(Zbe m info (out++[v4_0]) sizes x1 x2 (w (x3+1))=some r))))))) else (if (w (x.Kind - 1))=1 then (0≤i∧(∃ (e5:Zh),info[i.toNat]?=some e5∧(0≤e5.Mask∧(∃ (e6:Int),sizes[e5.Mask.toNat]?=some e6∧(∃ (v7_0:Int),Zbm m.Sort_ left right e6=some (I v7_0,[])∧(out.length+1≤68719476736∧(Zbe m info (out++[v7_0]) sizes x1 x2 (w (x3+1))=some r))))))) else (if (w (x.Kind - 1))=2 then (0≤i∧(∃ (e8:Zh),info[i.toNat]?=some e8∧(0≤e8.Mask∧(∃ (e9:Int),sizes[e8.Mask.toNat]?=some e9∧(∃ (v10_0:Int),Zbm m.Hash left right e9=some (I v10_0,[])∧(out.length+1≤68719476736∧(Zbe m info (out++[v10_0]) sizes x1 x2 (w (x3+1))=some r))))))) else (if (w (x.Kind - 1))=3 then (0≤i∧(∃ (e11:Zh),info[i.toNat]?=some e11∧(0≤e11.Mask∧(∃ (e12:Int),sizes[e11.Mask.toNat]?=some e12∧(∃ (v13_0:Int),Zbm m.Merge left right e12=some (I v13_0,[])∧(out.length+1≤68719476736∧(Zbe m info (out++[v13_0]) sizes x1 x2 (w (x3+1))=some r))))))) else (if (w (x.Kind - 1))=4 then (0≤i∧(∃ (e14:Zh),info[i.toNat]?=some e14∧(0≤e14.Mask∧(∃ (e15:Int),sizes[e14.Mask.toNat]?=some e15∧(∃ (v16_0:Int),Zbm m.Nested left right e15=some (I v16_0,[])∧(out.length+1≤68719476736∧(Zbe m info (out++[v16_0]) sizes x1 x2 (w (x3+1))=some r))))))) else False))))))):Zjp m info out x sizes i left right x1 x2 x3 x4=some r:=by
 unfold Zjp
 rw [Ev_eq Zle.eq_1]
 obtain ⟨q1,h⟩:=h
 unfold Zei at q1
 try simp at q1
 by_cases q2:(w (x.Kind - 1))=0
 ·rw [if_pos q2] at h
  obtain ⟨q3,h⟩:=h
  obtain ⟨e2,q4,h⟩:=h
  have gq4:=ltOfGet q4
  have kq4:=getOf q4
  obtain ⟨q5,h⟩:=h
  obtain ⟨e3,q6,h⟩:=h
  have gq6:=ltOfGet q6
  have kq6:=getOf q6
  obtain ⟨v4_0,q7,h⟩:=h
  unfold Zbm at q7
  try simp at q7
  obtain ⟨q8,h⟩:=h
  have rq8:=roomA (b:=8) q8 (by omega)
  have sq8:=roomB q8
  try simp [*] at rq8
  try simp [*] at sq8
  refine Eq.trans ?_ h
  clear h
  simp +decide [*,Zbe]
 ·rw [if_neg q2] at h
  replace q2:=eq_false q2
  by_cases q9:(w (x.Kind - 1))=1
  ·rw [if_pos q9] at h
   obtain ⟨q10,h⟩:=h
   obtain ⟨e5,q11,h⟩:=h
   have gq11:=ltOfGet q11
   have kq11:=getOf q11
   obtain ⟨q12,h⟩:=h
   obtain ⟨e6,q13,h⟩:=h
   have gq13:=ltOfGet q13
   have kq13:=getOf q13
   obtain ⟨v7_0,q14,h⟩:=h
   unfold Zbm at q14
   try simp at q14
   obtain ⟨q15,h⟩:=h
   have rq15:=roomA (b:=8) q15 (by omega)
   have sq15:=roomB q15
   try simp [*] at rq15
   try simp [*] at sq15
   refine Eq.trans ?_ h
   clear h
   simp +decide [*,Zbe]
  ·rw [if_neg q9] at h
   replace q9:=eq_false q9
   by_cases q16:(w (x.Kind - 1))=2
   ·rw [if_pos q16] at h
    obtain ⟨q17,h⟩:=h
    obtain ⟨e8,q18,h⟩:=h
    have gq18:=ltOfGet q18
    have kq18:=getOf q18
    obtain ⟨q19,h⟩:=h
    obtain ⟨e9,q20,h⟩:=h
    have gq20:=ltOfGet q20
    have kq20:=getOf q20
    obtain ⟨v10_0,q21,h⟩:=h
    unfold Zbm at q21
    try simp at q21
    obtain ⟨q22,h⟩:=h
    have rq22:=roomA (b:=8) q22 (by omega)
    have sq22:=roomB q22
    try simp [*] at rq22
    try simp [*] at sq22
    refine Eq.trans ?_ h
    clear h
    simp +decide [*,Zbe]
   ·rw [if_neg q16] at h
    replace q16:=eq_false q16
    by_cases q23:(w (x.Kind - 1))=3
    ·rw [if_pos q23] at h
     obtain ⟨q24,h⟩:=h
     obtain ⟨e11,q25,h⟩:=h
     have gq25:=ltOfGet q25
     have kq25:=getOf q25
     obtain ⟨q26,h⟩:=h
     obtain ⟨e12,q27,h⟩:=h
     have gq27:=ltOfGet q27
     have kq27:=getOf q27
     obtain ⟨v13_0,q28,h⟩:=h
     unfold Zbm at q28
     try simp at q28
     obtain ⟨q29,h⟩:=h
     have rq29:=roomA (b:=8) q29 (by omega)
     have sq29:=roomB q29
     try simp [*] at rq29
     try simp [*] at sq29
     refine Eq.trans ?_ h
     clear h
     simp +decide [*,Zbe]
    ·rw [if_neg q23] at h
     replace q23:=eq_false q23
     by_cases q30:(w (x.Kind - 1))=4
     ·rw [if_pos q30] at h
      obtain ⟨q31,h⟩:=h
      obtain ⟨e14,q32,h⟩:=h
      have gq32:=ltOfGet q32
      have kq32:=getOf q32
      obtain ⟨q33,h⟩:=h
      obtain ⟨e15,q34,h⟩:=h
      have gq34:=ltOfGet q34
      have kq34:=getOf q34
      obtain ⟨v16_0,q35,h⟩:=h
      unfold Zbm at q35
      try simp at q35
      obtain ⟨q36,h⟩:=h
      have rq36:=roomA (b:=8) q36 (by omega)
      have sq36:=roomB q36
      try simp [*] at rq36
      try simp [*] at sq36
      refine Eq.trans ?_ h
      clear h
      simp +decide [*,Zbe]
     ·rw [if_neg q30] at h
      replace q30:=eq_false q30
      cases h
theorem Zu5 (a:Zd) (a1:Zb) (a2:Plan) (a3:List Int) (r:AV×List Blk) (h:((Ze1 a1 a2=some (.tup [.t .nil,Bo false],[])∧(some (.t .nil,[])=some r))∨(∃ (v2_0:List Zh),Ze1 a1 a2=some (.tup [.own 0,Bo true],[.arr 138 4 true (v2_0.map Zh.c)])∧(∃ (v3_0:Bool),Zh1 a1 a3=some (Bo v3_0,[])∧(if v3_0=true then (Zbe a v2_0 ([]:List Int) a3 a2.Steps (a2.Steps.length:Int) 0=some r) else (some (.t .nil,[])=some r)))))):Zh3 a a1 a2 a3=some r:=by
 unfold Zh3
 refine run Zbce rfl ?_
 simp only [Ze1,Zh1,Plan.c_def,Zb.c_def,mpl,dfs] at h
 try simp only [itb] at h
 try simp only [itf,List.getElem?_eq_some_iff,kk] at h
 rcases h with ⟨q2,h⟩ | ⟨v2_0,q3,v3_0,q4,(⟨q5,h⟩ | ⟨q5,h⟩)⟩
 all_goals (refine Eq.trans ?_ h;clear h;simp +decide [*,kk,Zzb,Zbe])
theorem Z3j (n:Int) (x:List Int) (x1:Int) (x2:Int) (r:AV×List Blk) (h:(if x2<x1 then (0≤x2∧(∃ (e1:Int),x[x2.toNat]?=some e1∧(Zh4 (w (n+e1)) x x1 (w (x2+1))=some r))) else (some (I n,[])=some r))):Zh4 n x x1 x2=some r:=by
 unfold Zh4
 rw [EvL_eq Zsa.eq_1]
 try simp only [itb] at h
 try simp only [itf,List.getElem?_eq_some_iff,kk] at h
 rcases h with ⟨q1,q2,e1,⟨g3,q3⟩,h⟩ | ⟨q1,h⟩
 all_goals (refine Eq.trans ?_ h;clear h;simp +decide [*,kk,Zh4,Zsb])
theorem Zbf9 (a:List Int) (r:AV×List Blk) (h:(Zh4 0 a (a.length:Int) 0=some r)):Zlh a=some r:=by
 unfold Zlh
 refine run Zbcf rfl ?_
 refine Eq.trans ?_ h;clear h;simp +decide [*,kk,Zzc,Zh4]
theorem Zbga (a:Zd) (a1:Zb) (a2:Plan) (a3:List Int) (r:AV×List Blk) (h:((Zh3 a a1 a2 a3=some (.t .nil,[])∧(some (I (-1),[])=some r))∨(∃ (v2_0:List Int),Zh3 a a1 a2 a3=some (.own 0,[.arr 3 1 true (v2_0.map ic)])∧(v2_0≠[]∧(∃ (v3_0:Int),Zlh v2_0=some (I v3_0,[])∧(some (I v3_0,[])=some r)))))):Zfe a a1 a2 a3=some r:=by
 unfold Zfe
 refine run Zbcg rfl ?_
 rcases h with h | h
 ·
  obtain ⟨q1,h⟩:=h
  unfold Zh3 at q1
  try simp at q1
  refine Eq.trans ?_ h
  clear h
  simp +decide [*,Zsc]
 ·
  obtain ⟨v2_0,q2,h⟩:=h
  unfold Zh3 at q2
  try simp at q2
  obtain ⟨q3,h⟩:=h
  obtain ⟨yq3,ysq3,eq3⟩:=List.exists_cons_of_ne_nil q3
  first | subst eq3 | skip
  obtain ⟨v3_0,q4,h⟩:=h
  unfold Zlh at q4
  try simp at q4
  refine Eq.trans ?_ h
  clear h
  simp +decide [*,Zsc]
theorem Zbgb (a:Zd) (a1:Zb) (a2:Plan) (a3:List Int) (r:AV×List Blk) (h:((∃ (v1_0:List Int),Zfc a3=some (.own 0,[.arr 3 1 true (v1_0.map ic)])∧(∃ (v2_0:Int),Zfe a a1 a2 v1_0=some (I v2_0,[])∧(some (I v2_0,[])=some r)))∨(Zfc a3=some (.t .nil,[])∧(∃ (v4_0:Int),Zzd a a1 a2=some (I v4_0,[])∧(some (I v4_0,[])=some r))))):Zli a a1 a2 a3=some r:=by
 unfold Zli
 refine run Zbch rfl ?_
 simp only [Zfc,Zfe,Zzd,Zd.c_def,Zi.c_def,Plan.c_def,Zb.c_def,mpl,dfs] at h
 rcases h with ⟨v1_0,q2,v2_0,q3,h⟩ | ⟨q4,v4_0,q5,h⟩
 all_goals (refine Eq.trans ?_ h;clear h;simp +decide [*,kk,Zze])
theorem Z3k (q:Zb) (out:List Int) (mask:Int) (r:AV×List Blk) (h:(∃ (v1_0:Int),Zb6 q=some (I v1_0,[])∧(if mask≤v1_0 then (∃ (v2_0:Bool),Zeh q mask=some (Bo v2_0,[])∧(if v2_0=true then (out.length+1≤68719476736∧(Zgc q (out++[mask]) (w (mask+1))=some r)) else (Zgc q out (w (mask+1))=some r))) else (some (.own 0,[.arr 3 1 true (out.map ic)])=some r)))):Zgc q out mask=some r:=by
 unfold Zgc
 rw [EvL_eq Zsd.eq_1]
 simp only [Zb6,Zeh,Zb.c_def,mpl,dfs] at h
 try simp only [itb] at h
 try simp only [itf,List.getElem?_eq_some_iff,kk] at h
 rcases h with ⟨v1_0,q1,(⟨q2,v2_0,q3,(⟨q4,q5,h⟩ | ⟨q4,h⟩)⟩ | ⟨q2,h⟩)⟩
 all_goals (refine Eq.trans ?_ h;clear h;simp +decide [*,kk,Zgc,Zzf,Zse])
theorem Zbgc (a:Zb) (r:AV×List Blk) (h:(Zgc a ([]:List Int) 1=some r)):Zlj a=some r:=by
 unfold Zlj
 refine run Zbci rfl ?_
 refine Eq.trans ?_ h;clear h;simp +decide [*,kk,Zzg,Zgc]
theorem Z3l (out:List Int) (mask:Int) (i:Int) (r:AV×List Blk) (h:(if i<4 then (¬ i<0∧(if (andI (shrI mask i) 1)=1 then (out.length+1≤68719476736∧(Zgd (out++[i]) mask (w (i+1))=some r)) else (Zgd out mask (w (i+1))=some r))) else (some (.own 0,[.arr 3 1 true (out.map ic)])=some r))):Zgd out mask i=some r:=by
 unfold Zgd
 rw [EvL_eq Zsf.eq_1]
 try simp only [itb] at h
 try simp only [itf,List.getElem?_eq_some_iff,kk] at h
 rcases h with ⟨q1,q2,(⟨q3,q4,h⟩ | ⟨q3,h⟩)⟩ | ⟨q1,h⟩
 all_goals (refine Eq.trans ?_ h;clear h;simp +decide [*,kk,Zgd,Zzh,Zsg])
theorem Zbgd (a:Int) (r:AV×List Blk) (h:(∃ (v1_0:Bool),Zy a 0 15=some (Bo v1_0,[])∧(if v1_0=true then (Zgd ([]:List Int) a 0=some r) else (some (.t .nil,[])=some r)))):Zjq a=some r:=by
 unfold Zjq
 refine run Zbcj rfl ?_
 simp only [Zy,mpl,dfs] at h
 try simp only [itb] at h
 try simp only [itf,List.getElem?_eq_some_iff,kk] at h
 rcases h with ⟨v1_0,q1,(⟨q2,h⟩ | ⟨q2,h⟩)⟩
 all_goals (refine Eq.trans ?_ h;clear h;simp +decide [*,kk,Zzi,Zgd])
theorem Zbge (a:Int) (r:AV×List Blk) (h:(some (.agg [.own 0],[.arr 142 3 true (([(⟨1,a,0⟩:Zc)]).map Zc.c)])=some r)):Zlk a=some r:=by
 unfold Zlk
 refine run Zbck rfl ?_
 refine Eq.trans ?_ h;clear h;simp +decide [*,kk,Zzj]
end Go.Proofs.YtbapkgocloaaeaaGreat
/- part: G5 -/
namespace Go.Proofs.YtbapkgocloaaeaaGreat
open Go.AM
theorem Zcr (m:Zd) (q:Zb) (sizes:List Int) (mask:Int) (list0:Za) (list1:Za) (list2:Za) (list3:Za) (list4:Za) (some0:Bool) (some1:Bool) (some2:Bool) (some3:Bool) (some4:Bool) (x:List Zc) (a:Int) (r:AV×List Blk) (h:(∃ (v1_0:Int),Zfe m q (⟨x⟩:Plan) sizes=some (I v1_0,[])∧(if (w (a+1))=0 then (if some0=true then (if v1_0<list0.Cost then (some (.tup [],[.box [I m.Scan.Fixed,I m.Scan.Zj,I m.Scan.Zk,I m.Scan.Zm,I m.Scan.Zl,L 2 (m.Scan.Steps.map Zg.c),I m.Sort_.Fixed,I m.Sort_.Zj,I m.Sort_.Zk,I m.Sort_.Zm,I m.Sort_.Zl,L 2 (m.Sort_.Steps.map Zg.c),I m.Hash.Fixed,I m.Hash.Zj,I m.Hash.Zk,I m.Hash.Zm,I m.Hash.Zl,L 2 (m.Hash.Steps.map Zg.c),I m.Merge.Fixed,I m.Merge.Zj,I m.Merge.Zk,I m.Merge.Zm,I m.Merge.Zl,L 2 (m.Merge.Steps.map Zg.c),I m.Nested.Fixed,I m.Nested.Zj,I m.Nested.Zk,I m.Nested.Zm,I m.Nested.Zl,L 2 (m.Nested.Steps.map Zg.c),I q.Ze,L 2 (q.Atoms.map Atom.c),L 1 (sizes.map ic),I mask,I mask,I a,I v1_0,L 3 (x.map Zc.c),I list1.Mask,I list1.Order,I list1.Cost,L 3 (list1.Plan.Steps.map Zc.c),I list2.Mask,I list2.Order,I list2.Cost,L 3 (list2.Plan.Steps.map Zc.c),I list3.Mask,I list3.Order,I list3.Cost,L 3 (list3.Plan.Steps.map Zc.c),I list4.Mask,I list4.Order,I list4.Cost,L 3 (list4.Plan.Steps.map Zc.c),Bo true,Bo some1,Bo some2,Bo some3,Bo some4],.dead])=some r) else (some (.tup [],[boxO m q sizes mask list0 list1 list2 list3 list4 some0 some1 some2 some3 some4,.arr 142 3 true (x.map Zc.c)])=some r)) else (some (.tup [],[.box [I m.Scan.Fixed,I m.Scan.Zj,I m.Scan.Zk,I m.Scan.Zm,I m.Scan.Zl,L 2 (m.Scan.Steps.map Zg.c),I m.Sort_.Fixed,I m.Sort_.Zj,I m.Sort_.Zk,I m.Sort_.Zm,I m.Sort_.Zl,L 2 (m.Sort_.Steps.map Zg.c),I m.Hash.Fixed,I m.Hash.Zj,I m.Hash.Zk,I m.Hash.Zm,I m.Hash.Zl,L 2 (m.Hash.Steps.map Zg.c),I m.Merge.Fixed,I m.Merge.Zj,I m.Merge.Zk,I m.Merge.Zm,I m.Merge.Zl,L 2 (m.Merge.Steps.map Zg.c),I m.Nested.Fixed,I m.Nested.Zj,I m.Nested.Zk,I m.Nested.Zm,I m.Nested.Zl,L 2 (m.Nested.Steps.map Zg.c),I q.Ze,L 2 (q.Atoms.map Atom.c),L 1 (sizes.map ic),I mask,I mask,I a,I v1_0,L 3 (x.map Zc.c),I list1.Mask,I list1.Order,I list1.Cost,L 3 (list1.Plan.Steps.map Zc.c),I list2.Mask,I list2.Order,I list2.Cost,L 3 (list2.Plan.Steps.map Zc.c),I list3.Mask,I list3.Order,I list3.Cost,L 3 (list3.Plan.Steps.map Zc.c),I list4.Mask,I list4.Order,I list4.Cost,L 3 (list4.Plan.Steps.map Zc.c),Bo true,Bo some1,Bo some2,Bo some3,Bo some4],.dead])=some r)) else (if (w (a+1))=1 then (if some1=true then (if v1_0<list1.Cost then (some (.tup [],[.box [I m.Scan.Fixed,I m.Scan.Zj,I m.Scan.Zk,I m.Scan.Zm,I m.Scan.Zl,L 2 (m.Scan.Steps.map Zg.c),I m.Sort_.Fixed,I m.Sort_.Zj,I m.Sort_.Zk,I m.Sort_.Zm,I m.Sort_.Zl,L 2 (m.Sort_.Steps.map Zg.c),I m.Hash.Fixed,I m.Hash.Zj,I m.Hash.Zk,I m.Hash.Zm,I m.Hash.Zl,L 2 (m.Hash.Steps.map Zg.c),I m.Merge.Fixed,I m.Merge.Zj,I m.Merge.Zk,I m.Merge.Zm,I m.Merge.Zl,L 2 (m.Merge.Steps.map Zg.c),I m.Nested.Fixed,I m.Nested.Zj,I m.Nested.Zk,I m.Nested.Zm,I m.Nested.Zl,L 2 (m.Nested.Steps.map Zg.c),I q.Ze,L 2 (q.Atoms.map Atom.c),L 1 (sizes.map ic),I mask,I list0.Mask,I list0.Order,I list0.Cost,L 3 (list0.Plan.Steps.map Zc.c),I mask,I a,I v1_0,L 3 (x.map Zc.c),I list2.Mask,I list2.Order,I list2.Cost,L 3 (list2.Plan.Steps.map Zc.c),I list3.Mask,I list3.Order,I list3.Cost,L 3 (list3.Plan.Steps.map Zc.c),I list4.Mask,I list4.Order,I list4.Cost,L 3 (list4.Plan.Steps.map Zc.c),Bo some0,Bo true,Bo some2,Bo some3,Bo some4],.dead])=some r) else (some (.tup [],[boxO m q sizes mask list0 list1 list2 list3 list4 some0 some1 some2 some3 some4,.arr 142 3 true (x.map Zc.c)])=some r)) else (some (.tup [],[.box [I m.Scan.Fixed,I m.Scan.Zj,I m.Scan.Zk,I m.Scan.Zm,I m.Scan.Zl,L 2 (m.Scan.Steps.map Zg.c),I m.Sort_.Fixed,I m.Sort_.Zj,I m.Sort_.Zk,I m.Sort_.Zm,I m.Sort_.Zl,L 2 (m.Sort_.Steps.map Zg.c),I m.Hash.Fixed,I m.Hash.Zj,I m.Hash.Zk,I m.Hash.Zm,I m.Hash.Zl,L 2 (m.Hash.Steps.map Zg.c),I m.Merge.Fixed,I m.Merge.Zj,I m.Merge.Zk,I m.Merge.Zm,I m.Merge.Zl,L 2 (m.Merge.Steps.map Zg.c),I m.Nested.Fixed,I m.Nested.Zj,I m.Nested.Zk,I m.Nested.Zm,I m.Nested.Zl,L 2 (m.Nested.Steps.map Zg.c),I q.Ze,L 2 (q.Atoms.map Atom.c),L 1 (sizes.map ic),I mask,I list0.Mask,I list0.Order,I list0.Cost,L 3 (list0.Plan.Steps.map Zc.c),I mask,I a,I v1_0,L 3 (x.map Zc.c),I list2.Mask,I list2.Order,I list2.Cost,L 3 (list2.Plan.Steps.map Zc.c),I list3.Mask,I list3.Order,I list3.Cost,L 3 (list3.Plan.Steps.map Zc.c),I list4.Mask,I list4.Order,I list4.Cost,L 3 (list4.Plan.Steps.map Zc.c),Bo some0,Bo true,Bo some2,Bo some3,Bo some4],.dead])=some r)) else (if (w (a+1))=2 then (if some2=true then (if v1_0<list2.Cost then (some (.tup [],[.box [I m.Scan.Fixed,I m.Scan.Zj,I m.Scan.Zk,I m.Scan.Zm,I m.Scan.Zl,L 2 (m.Scan.Steps.map Zg.c),I m.Sort_.Fixed,I m.Sort_.Zj,I m.Sort_.Zk,I m.Sort_.Zm,I m.Sort_.Zl,L 2 (m.Sort_.Steps.map Zg.c),I m.Hash.Fixed,I m.Hash.Zj,I m.Hash.Zk,I m.Hash.Zm,I m.Hash.Zl,L 2 (m.Hash.Steps.map Zg.c),I m.Merge.Fixed,I m.Merge.Zj,I m.Merge.Zk,I m.Merge.Zm,I m.Merge.Zl,L 2 (m.Merge.Steps.map Zg.c),I m.Nested.Fixed,I m.Nested.Zj,I m.Nested.Zk,I m.Nested.Zm,I m.Nested.Zl,L 2 (m.Nested.Steps.map Zg.c),I q.Ze,L 2 (q.Atoms.map Atom.c),L 1 (sizes.map ic),I mask,I list0.Mask,I list0.Order,I list0.Cost,L 3 (list0.Plan.Steps.map Zc.c),I list1.Mask,I list1.Order,I list1.Cost,L 3 (list1.Plan.Steps.map Zc.c),I mask,I a,I v1_0,L 3 (x.map Zc.c),I list3.Mask,I list3.Order,I list3.Cost,L 3 (list3.Plan.Steps.map Zc.c),I list4.Mask,I list4.Order,I list4.Cost,L 3 (list4.Plan.Steps.map Zc.c),Bo some0,Bo some1,Bo true,Bo some3,Bo some4],.dead])=some r) else (some (.tup [],[boxO m q sizes mask list0 list1 list2 list3 list4 some0 some1 some2 some3 some4,.arr 142 3 true (x.map Zc.c)])=some r)) else (some (.tup [],[.box [I m.Scan.Fixed,I m.Scan.Zj,I m.Scan.Zk,I m.Scan.Zm,I m.Scan.Zl,L 2 (m.Scan.Steps.map Zg.c),I m.Sort_.Fixed,I m.Sort_.Zj,I m.Sort_.Zk,I m.Sort_.Zm,I m.Sort_.Zl,L 2 (m.Sort_.Steps.map Zg.c),I m.Hash.Fixed,I m.Hash.Zj,I m.Hash.Zk,I m.Hash.Zm,I m.Hash.Zl,L 2 (m.Hash.Steps.map Zg.c),I m.Merge.Fixed,I m.Merge.Zj,I m.Merge.Zk,I m.Merge.Zm,I m.Merge.Zl,L 2 (m.Merge.Steps.map Zg.c),I m.Nested.Fixed,I m.Nested.Zj,I m.Nested.Zk,I m.Nested.Zm,I m.Nested.Zl,L 2 (m.Nested.Steps.map Zg.c),I q.Ze,L 2 (q.Atoms.map Atom.c),L 1 (sizes.map ic),I mask,I list0.Mask,I list0.Order,I list0.Cost,L 3 (list0.Plan.Steps.map Zc.c),I list1.Mask,I list1.Order,I list1.Cost,L 3 (list1.Plan.Steps.map Zc.c),I mask,I a,I v1_0,L 3 (x.map Zc.c),I list3.Mask,I list3.Order,I list3.Cost,L 3 (list3.Plan.Steps.map Zc.c),I list4.Mask,I list4.Order,I list4.Cost,L 3 (list4.Plan.Steps.map Zc.c),Bo some0,Bo some1,Bo true,Bo some3,Bo some4],.dead])=some r)) else (if (w (a+1))=3 then (if some3=true then (if v1_0<list3.Cost then (some (.tup [],[.box [I m.Scan.Fixed,I m.Scan.Zj,I m.Scan.Zk,I m.Scan.Zm,I m.Scan.Zl,L 2 (m.Scan.Steps.map Zg.c),I m.Sort_.Fixed,I m.Sort_.Zj,I m.Sort_.Zk,I m.Sort_.Zm,I m.Sort_.Zl,L 2 (m.Sort_.Steps.map Zg.c),I m.Hash.Fixed,I m.Hash.Zj,I m.Hash.Zk,I m.Hash.Zm,I m.Hash.Zl,L 2 (m.Hash.Steps.map Zg.c),I m.Merge.Fixed,I m.Merge.Zj,I m.Merge.Zk,I m.Merge.Zm,I m.Merge.Zl,L 2 (m.Merge.Steps.map Zg.c),I m.Nested.Fixed,I m.Nested.Zj,I m.Nested.Zk,I m.Nested.Zm,I m.Nested.Zl,L 2 (m.Nested.Steps.map Zg.c),I q.Ze,L 2 (q.Atoms.map Atom.c),L 1 (sizes.map ic),I mask,I list0.Mask,I list0.Order,I list0.Cost,L 3 (list0.Plan.Steps.map Zc.c),I list1.Mask,I list1.Order,I list1.Cost,L 3 (list1.Plan.Steps.map Zc.c),I list2.Mask,I list2.Order,I list2.Cost,L 3 (list2.Plan.Steps.map Zc.c),I mask,I a,I v1_0,L 3 (x.map Zc.c),I list4.Mask,I list4.Order,I list4.Cost,L 3 (list4.Plan.Steps.map Zc.c),Bo some0,Bo some1,Bo some2,Bo true,Bo some4],.dead])=some r) else (some (.tup [],[boxO m q sizes mask list0 list1 list2 list3 list4 some0 some1 some2 some3 some4,.arr 142 3 true (x.map Zc.c)])=some r)) else (some (.tup [],[.box [I m.Scan.Fixed,I m.Scan.Zj,I m.Scan.Zk,I m.Scan.Zm,I m.Scan.Zl,L 2 (m.Scan.Steps.map Zg.c),I m.Sort_.Fixed,I m.Sort_.Zj,I m.Sort_.Zk,I m.Sort_.Zm,I m.Sort_.Zl,L 2 (m.Sort_.Steps.map Zg.c),I m.Hash.Fixed,I m.Hash.Zj,I m.Hash.Zk,I m.Hash.Zm,I m.Hash.Zl,L 2 (m.Hash.Steps.map Zg.c),I m.Merge.Fixed,I m.Merge.Zj,I m.Merge.Zk,I m.Merge.Zm,I m.Merge.Zl,L 2 (m.Merge.Steps.map Zg.c),I m.Nested.Fixed,I m.Nested.Zj,I m.Nested.Zk,I m.Nested.Zm,I m.Nested.Zl,L 2 (m.Nested.Steps.map Zg.c),I q.Ze,L 2 (q.Atoms.map Atom.c),L 1 (sizes.map ic),I mask,I list0.Mask,I list0.Order,I list0.Cost,L 3 (list0.Plan.Steps.map Zc.c),I list1.Mask,I list1.Order,I list1.Cost,L 3 (list1.Plan.Steps.map Zc.c),I list2.Mask,I list2.Order,I list2.Cost,L 3 (list2.Plan.Steps.map Zc.c),I mask,I a,I v1_0,L 3 (x.map Zc.c),I list4.Mask,I list4.Order,I list4.Cost,L 3 (list4.Plan.Steps.map Zc.c),Bo some0,Bo some1,Bo some2,Bo true,Bo some4],.dead])=some r)) else (if (w (a+1))=4 then (if some4=true then (if v1_0<list4.Cost then (some (.tup [],[.box [I m.Scan.Fixed,I m.Scan.Zj,I m.Scan.Zk,I m.Scan.Zm,I m.Scan.Zl,L 2 (m.Scan.Steps.map Zg.c),I m.Sort_.Fixed,I m.Sort_.Zj,I m.Sort_.Zk,I m.Sort_.Zm,I m.Sort_.Zl,L 2 (m.Sort_.Steps.map Zg.c),I m.Hash.Fixed,I m.Hash.Zj,I m.Hash.Zk,I m.Hash.Zm,I m.Hash.Zl,L 2 (m.Hash.Steps.map Zg.c),I m.Merge.Fixed,I m.Merge.Zj,I m.Merge.Zk,I m.Merge.Zm,I m.Merge.Zl,L 2 (m.Merge.Steps.map Zg.c),I m.Nested.Fixed,I m.Nested.Zj,I m.Nested.Zk,I m.Nested.Zm,I m.Nested.Zl,L 2 (m.Nested.Steps.map Zg.c),I q.Ze,L 2 (q.Atoms.map Atom.c),L 1 (sizes.map ic),I mask,I list0.Mask,I list0.Order,I list0.Cost,L 3 (list0.Plan.Steps.map Zc.c),I list1.Mask,I list1.Order,I list1.Cost,L 3 (list1.Plan.Steps.map Zc.c),I list2.Mask,I list2.Order,I list2.Cost,L 3 (list2.Plan.Steps.map Zc.c),I list3.Mask,I list3.Order,I list3.Cost,L 3 (list3.Plan.Steps.map Zc.c),I mask,I a,I v1_0,L 3 (x.map Zc.c),Bo some0,Bo some1,Bo some2,Bo some3,Bo true],.dead])=some r) else (some (.tup [],[boxO m q sizes mask list0 list1 list2 list3 list4 some0 some1 some2 some3 some4,.arr 142 3 true (x.map Zc.c)])=some r)) else (some (.tup [],[.box [I m.Scan.Fixed,I m.Scan.Zj,I m.Scan.Zk,I m.Scan.Zm,I m.Scan.Zl,L 2 (m.Scan.Steps.map Zg.c),I m.Sort_.Fixed,I m.Sort_.Zj,I m.Sort_.Zk,I m.Sort_.Zm,I m.Sort_.Zl,L 2 (m.Sort_.Steps.map Zg.c),I m.Hash.Fixed,I m.Hash.Zj,I m.Hash.Zk,I m.Hash.Zm,I m.Hash.Zl,L 2 (m.Hash.Steps.map Zg.c),I m.Merge.Fixed,I m.Merge.Zj,I m.Merge.Zk,I m.Merge.Zm,I m.Merge.Zl,L 2 (m.Merge.Steps.map Zg.c),I m.Nested.Fixed,I m.Nested.Zj,I m.Nested.Zk,I m.Nested.Zm,I m.Nested.Zl,L 2 (m.Nested.Steps.map Zg.c),I q.Ze,L 2 (q.Atoms.map Atom.c),L 1 (sizes.map ic),I mask,I list0.Mask,I list0.Order,I list0.Cost,L 3 (list0.Plan.Steps.map Zc.c),I list1.Mask,I list1.Order,I list1.Cost,L 3 (list1.Plan.Steps.map Zc.c),I list2.Mask,I list2.Order,I list2.Cost,L 3 (list2.Plan.Steps.map Zc.c),I list3.Mask,I list3.Order,I list3.Cost,L 3 (list3.Plan.Steps.map Zc.c),I mask,I a,I v1_0,L 3 (x.map Zc.c),Bo some0,Bo some1,Bo some2,Bo some3,Bo true],.dead])=some r)) else False))))))):Zbr m q sizes mask list0 list1 list2 list3 list4 some0 some1 some2 some3 some4 x a=some r:=by
 unfold Zbr
 refine runM Zbcl rfl ?_
 obtain ⟨v1_0,q1,h⟩:=h
 unfold Zfe at q1
 try simp at q1
 by_cases q2:(w (a+1))=0
 ·rw [if_pos q2] at h
  by_cases q3:some0=true
  ·rw [if_pos q3] at h
   by_cases q4:v1_0<list0.Cost
   ·rw [if_pos q4] at h
    refine Eq.trans ?_ h
    clear h
    simp +decide [*,Zcf]
   ·rw [if_neg q4] at h
    refine Eq.trans ?_ h
    clear h
    simp +decide [*,Zcf]
  ·rw [if_neg q3] at h
   refine Eq.trans ?_ h
   clear h
   simp +decide [*,Zcf]
 ·rw [if_neg q2] at h
  replace q2:=eq_false q2
  by_cases q5:(w (a+1))=1
  ·rw [if_pos q5] at h
   by_cases q6:some1=true
   ·rw [if_pos q6] at h
    by_cases q7:v1_0<list1.Cost
    ·rw [if_pos q7] at h
     refine Eq.trans ?_ h
     clear h
     simp +decide [*,Zcf]
    ·rw [if_neg q7] at h
     refine Eq.trans ?_ h
     clear h
     simp +decide [*,Zcf]
   ·rw [if_neg q6] at h
    refine Eq.trans ?_ h
    clear h
    simp +decide [*,Zcf]
  ·rw [if_neg q5] at h
   replace q5:=eq_false q5
   by_cases q8:(w (a+1))=2
   ·rw [if_pos q8] at h
    by_cases q9:some2=true
    ·rw [if_pos q9] at h
     by_cases q10:v1_0<list2.Cost
     ·rw [if_pos q10] at h
      refine Eq.trans ?_ h
      clear h
      simp +decide [*,Zcf]
     ·rw [if_neg q10] at h
      refine Eq.trans ?_ h
      clear h
      simp +decide [*,Zcf]
    ·rw [if_neg q9] at h
     refine Eq.trans ?_ h
     clear h
     simp +decide [*,Zcf]
   ·rw [if_neg q8] at h
    replace q8:=eq_false q8
    by_cases q11:(w (a+1))=3
    ·rw [if_pos q11] at h
     by_cases q12:some3=true
     ·rw [if_pos q12] at h
      by_cases q13:v1_0<list3.Cost
      ·rw [if_pos q13] at h
       refine Eq.trans ?_ h
       clear h
       simp +decide [*,Zcf]
      ·rw [if_neg q13] at h
       refine Eq.trans ?_ h
       clear h
       simp +decide [*,Zcf]
     ·rw [if_neg q12] at h
      refine Eq.trans ?_ h
      clear h
      simp +decide [*,Zcf]
    ·rw [if_neg q11] at h
     replace q11:=eq_false q11
     by_cases q14:(w (a+1))=4
     ·rw [if_pos q14] at h
      by_cases q15:some4=true
      ·rw [if_pos q15] at h
       by_cases q16:v1_0<list4.Cost
       ·rw [if_pos q16] at h
        refine Eq.trans ?_ h
        clear h
        simp +decide [*,Zcf]
       ·rw [if_neg q16] at h
        refine Eq.trans ?_ h
        clear h
        simp +decide [*,Zcf]
      ·rw [if_neg q15] at h
       refine Eq.trans ?_ h
       clear h
       simp +decide [*,Zcf]
     ·rw [if_neg q14] at h
      replace q14:=eq_false q14
      cases h
theorem Z3m (q:Zb) (out:List Int) (mask:Int) (x:Int) (r:AV×List Blk) (h:(if x<mask then (if (andI x mask)=x then (∃ (v1_0:Bool),Zeh q x=some (Bo v1_0,[])∧(if v1_0=true then (∃ (v2_0:Bool),Zeh q (andNotI mask x)=some (Bo v2_0,[])∧(if v2_0=true then (out.length+1≤68719476736∧(Zdw q (out++[x]) mask (w (x+1))=some r)) else (Zdw q out mask (w (x+1))=some r))) else (Zdw q out mask (w (x+1))=some r))) else (Zdw q out mask (w (x+1))=some r)) else (some (.own 0,[.arr 3 1 true (out.map ic)])=some r))):Zdw q out mask x=some r:=by
 unfold Zdw
 rw [EvL_eq Zsh.eq_1]
 simp only [Zeh,Zb.c_def,mpl,dfs] at h
 try simp only [itb] at h
 try simp only [itf,List.getElem?_eq_some_iff,kk] at h
 rcases h with ⟨q1,(⟨q2,v1_0,q3,(⟨q4,v2_0,q5,(⟨q6,q7,h⟩ | ⟨q6,h⟩)⟩ | ⟨q4,h⟩)⟩ | ⟨q2,h⟩)⟩ | ⟨q1,h⟩
 all_goals (refine Eq.trans ?_ h;clear h;simp +decide [*,kk,Zdw,Zzk,Zsi])
theorem Zbgf (a:Zb) (a1:Int) (r:AV×List Blk) (h:(∃ (v1_0:Bool),Zhx a a1=some (Bo v1_0,[])∧(if v1_0=true then (Zdw a ([]:List Int) a1 1=some r) else (some (.t .nil,[])=some r)))):Zdg a a1=some r:=by
 unfold Zdg
 refine run Zbcm rfl ?_
 simp only [Zhx,Zb.c_def,mpl,dfs] at h
 try simp only [itb] at h
 try simp only [itf,List.getElem?_eq_some_iff,kk] at h
 rcases h with ⟨v1_0,q1,(⟨q2,h⟩ | ⟨q2,h⟩)⟩
 all_goals (refine Eq.trans ?_ h;clear h;simp +decide [*,kk,Zzl,Zdw])
end Go.Proofs.YtbapkgocloaaeaaGreat
/- part: G6 -/
namespace Go.Proofs.YtbapkgocloaaeaaGreat
open Go.AM
theorem Z3n (Mask:Int) (Order:Int) (Cost:Int) (best:Za) (x:List Za) (x1:Int) (x2:Int) (r:AV×List Blk) (h:(if x2<x1 then (0≤x2∧(∃ (e1:Za),x[x2.toNat]?=some e1∧(if e1.Cost<best.Cost then (Zgf Mask Order Cost e1 x x1 (w (x2+1))=some r) else (Zgf Mask Order Cost best x x1 (w (x2+1))=some r)))) else (some (.agg (best.c.map .t),[])=some r))):Zgf Mask Order Cost best x x1 x2=some r:=by
 unfold Zgf
 rw [EvL_eq Zll.eq_1]
 try simp only [itb] at h
 try simp only [itf,List.getElem?_eq_some_iff,kk] at h
 rcases h with ⟨q1,q2,e1,⟨g3,q3⟩,(⟨q4,h⟩ | ⟨q4,h⟩)⟩ | ⟨q1,h⟩
 all_goals (refine Eq.trans ?_ h;clear h;simp +decide [*,kk,Zgf,Zsj,Zlm])
theorem Zbgg (a:List Za) (r:AV×List Blk) (h:(∃ (e1:Za),a[0]?=some e1∧(Zgf 0 0 0 e1 a (a.length:Int) 0=some r))):Zge a=some r:=by
 unfold Zge
 refine run Z2p rfl ?_
 try simp only [itb] at h
 try simp only [itf,List.getElem?_eq_some_iff,kk] at h
 rcases h with ⟨e1,⟨g1,q1⟩,h⟩
 all_goals (refine Eq.trans ?_ h;clear h;simp +decide [*,kk,Zsk,Zgf])
theorem Z3o (a:Plan) (r:AV×List Blk) (h:(a.Steps.length≤68719476736∧(some (.agg [.own 0],[.arr 142 3 true (a.Steps.map Zc.c)])=some r))):Zcg a=some r:=by
 unfold Zcg
 refine run Zbcn rfl ?_
 rcases h with ⟨q1,h⟩
 all_goals (refine Eq.trans ?_ h;clear h;simp +decide [*,kk,Zzm])
theorem Zbgh (a:Plan) (a1:Plan) (a2:Int) (a3:Int) (r:AV×List Blk) (h:(∃ (v1_0:List Zc),Zcg a=some (.agg [.own 0],[.arr 142 3 true (v1_0.map Zc.c)])∧(v1_0.length+a1.Steps.length≤68719476736∧(v1_0.length+a1.Steps.length+1≤68719476736∧(some (.agg [.own 0],[.arr 142 3 true (((v1_0++a1.Steps)++[(⟨a2,0,a3⟩:Zc)]).map Zc.c)])=some r))))):Zdh a a1 a2 a3=some r:=by
 unfold Zdh
 refine run Zbco rfl ?_
 simp only [Zcg,Plan.c_def,mpl,dfs] at h
 rcases h with ⟨v1_0,q1,q2,q3,h⟩
 all_goals (refine Eq.trans ?_ h;clear h;simp +decide [*,kk,Zzn])
theorem Zd7 (m:Zd) (q:Zb) (sizes:List Int) (mask:Int) (list0:Za) (list1:Za) (list2:Za) (list3:Za) (list4:Za) (some0:Bool) (some1:Bool) (some2:Bool) (some3:Bool) (some4:Bool) (fr:Bool) (out:List Za) (x0:Bool) (x1:Bool) (x2:Bool) (x3:Bool) (x4:Bool) (x:Int) (r:AV×List Blk) (h:(if x<5 then (if x=0 then (if x0=true then (out.length+1≤68719476736∧(Zbb m q sizes mask list0 list1 list2 list3 list4 some0 some1 some2 some3 some4 false (out++[list0]) true x1 x2 x3 x4 (w (x+1))=some r)) else (Zbb m q sizes mask list0 list1 list2 list3 list4 some0 some1 some2 some3 some4 fr out false x1 x2 x3 x4 (w (x+1))=some r)) else (if x=1 then (if x1=true then (out.length+1≤68719476736∧(Zbb m q sizes mask list0 list1 list2 list3 list4 some0 some1 some2 some3 some4 false (out++[list1]) x0 true x2 x3 x4 (w (x+1))=some r)) else (Zbb m q sizes mask list0 list1 list2 list3 list4 some0 some1 some2 some3 some4 fr out x0 false x2 x3 x4 (w (x+1))=some r)) else (if x=2 then (if x2=true then (out.length+1≤68719476736∧(Zbb m q sizes mask list0 list1 list2 list3 list4 some0 some1 some2 some3 some4 false (out++[list2]) x0 x1 true x3 x4 (w (x+1))=some r)) else (Zbb m q sizes mask list0 list1 list2 list3 list4 some0 some1 some2 some3 some4 fr out x0 x1 false x3 x4 (w (x+1))=some r)) else (if x=3 then (if x3=true then (out.length+1≤68719476736∧(Zbb m q sizes mask list0 list1 list2 list3 list4 some0 some1 some2 some3 some4 false (out++[list3]) x0 x1 x2 true x4 (w (x+1))=some r)) else (Zbb m q sizes mask list0 list1 list2 list3 list4 some0 some1 some2 some3 some4 fr out x0 x1 x2 false x4 (w (x+1))=some r)) else (if x=4 then (if x4=true then (out.length+1≤68719476736∧(Zbb m q sizes mask list0 list1 list2 list3 list4 some0 some1 some2 some3 some4 false (out++[list4]) x0 x1 x2 x3 true (w (x+1))=some r)) else (Zbb m q sizes mask list0 list1 list2 list3 list4 some0 some1 some2 some3 some4 fr out x0 x1 x2 x3 false (w (x+1))=some r)) else False))))) else (some (.own 1,[boxO m q sizes mask list0 list1 list2 list3 list4 some0 some1 some2 some3 some4,.arr 174 4 fr (out.map Za.c)])=some r))):Zbb m q sizes mask list0 list1 list2 list3 list4 some0 some1 some2 some3 some4 fr out x0 x1 x2 x3 x4 x=some r:=by
 unfold Zbb
 rw [EvL_eq Zsl.eq_1]
 by_cases q1:x<5
 ·rw [if_pos q1] at h
  by_cases q2:x=0
  ·rw [if_pos q2] at h
   subst q2
   by_cases q3:x0=true
   ·rw [if_pos q3] at h
    obtain ⟨q4,h⟩:=h
    have rq4:=roomA (b:=48) q4 (by omega)
    have sq4:=roomB q4
    try simp [*] at rq4
    try simp [*] at sq4
    refine Eq.trans ?_ h
    clear h
    simp +decide [*,Zbb,Zdx]
   ·rw [if_neg q3] at h
    refine Eq.trans ?_ h
    clear h
    simp +decide [*,Zbb,Zdx]
  ·rw [if_neg q2] at h
   replace q2:=eq_false q2
   by_cases q5:x=1
   ·rw [if_pos q5] at h
    subst q5
    by_cases q6:x1=true
    ·rw [if_pos q6] at h
     obtain ⟨q7,h⟩:=h
     have rq7:=roomA (b:=48) q7 (by omega)
     have sq7:=roomB q7
     try simp [*] at rq7
     try simp [*] at sq7
     refine Eq.trans ?_ h
     clear h
     simp +decide [*,Zbb,Zdx]
    ·rw [if_neg q6] at h
     refine Eq.trans ?_ h
     clear h
     simp +decide [*,Zbb,Zdx]
   ·rw [if_neg q5] at h
    replace q5:=eq_false q5
    by_cases q8:x=2
    ·rw [if_pos q8] at h
     subst q8
     by_cases q9:x2=true
     ·rw [if_pos q9] at h
      obtain ⟨q10,h⟩:=h
      have rq10:=roomA (b:=48) q10 (by omega)
      have sq10:=roomB q10
      try simp [*] at rq10
      try simp [*] at sq10
      refine Eq.trans ?_ h
      clear h
      simp +decide [*,Zbb,Zdx]
     ·rw [if_neg q9] at h
      refine Eq.trans ?_ h
      clear h
      simp +decide [*,Zbb,Zdx]
    ·rw [if_neg q8] at h
     replace q8:=eq_false q8
     by_cases q11:x=3
     ·rw [if_pos q11] at h
      subst q11
      by_cases q12:x3=true
      ·rw [if_pos q12] at h
       obtain ⟨q13,h⟩:=h
       have rq13:=roomA (b:=48) q13 (by omega)
       have sq13:=roomB q13
       try simp [*] at rq13
       try simp [*] at sq13
       refine Eq.trans ?_ h
       clear h
       simp +decide [*,Zbb,Zdx]
      ·rw [if_neg q12] at h
       refine Eq.trans ?_ h
       clear h
       simp +decide [*,Zbb,Zdx]
     ·rw [if_neg q11] at h
      replace q11:=eq_false q11
      by_cases q14:x=4
      ·rw [if_pos q14] at h
       subst q14
       by_cases q15:x4=true
       ·rw [if_pos q15] at h
        obtain ⟨q16,h⟩:=h
        have rq16:=roomA (b:=48) q16 (by omega)
        have sq16:=roomB q16
        try simp [*] at rq16
        try simp [*] at sq16
        refine Eq.trans ?_ h
        clear h
        simp +decide [*,Zbb,Zdx]
       ·rw [if_neg q15] at h
        refine Eq.trans ?_ h
        clear h
        simp +decide [*,Zbb,Zdx]
      ·rw [if_neg q14] at h
       replace q14:=eq_false q14
       cases h
 ·rw [if_neg q1] at h
  refine Eq.trans ?_ h
  clear h
  simp +decide [*,Zsm]
theorem Zbgi (m:Zd) (q:Zb) (sizes:List Int) (mask:Int) (list0:Za) (list1:Za) (list2:Za) (list3:Za) (list4:Za) (some0:Bool) (some1:Bool) (some2:Bool) (some3:Bool) (some4:Bool) (r:AV×List Blk) (h:(Zbb m q sizes mask list0 list1 list2 list3 list4 some0 some1 some2 some3 some4 true ([]:List Za) some0 some1 some2 some3 some4 0=some r)):Zln m q sizes mask list0 list1 list2 list3 list4 some0 some1 some2 some3 some4=some r:=by
 unfold Zln
 refine runM Zbcp rfl ?_
 refine Eq.trans ?_ h;clear h;simp +decide [*,kk,Zzo,Zbb]
theorem Zbgj (a:Zb) (a1:Int) (r:AV×List Blk) (h:(∃ (v1_0:Bool),Zhv a a1=some (Bo v1_0,[])∧(if v1_0=true then (∃ (v2_0:List Int),Zdt a a1=some (.own 0,[.arr 3 1 true (v2_0.map ic)])∧(some (.own 0,[.arr 3 1 true (v2_0.map ic)])=some r)) else (some (.t .nil,[])=some r)))):Zek a a1=some r:=by
 unfold Zek
 refine run Zbcq rfl ?_
 simp only [Zhv,Zdt,Zb.c_def,mpl,dfs] at h
 try simp only [itb] at h
 try simp only [itf,List.getElem?_eq_some_iff,kk] at h
 rcases h with ⟨v1_0,q1,(⟨q2,v2_0,q3,h⟩ | ⟨q2,h⟩)⟩
 all_goals (refine Eq.trans ?_ h;clear h;simp +decide [*,kk,Zzp])
theorem Zbgk (a:Zb) (a1:Int) (a2:Int) (r:AV×List Blk) (h:((∃ (v1_0:List Int),Zek a a1=some (.own 0,[.arr 3 1 true (v1_0.map ic)])∧((∃ (v2_0:List Int),Zek a a2=some (.own 0,[.arr 3 1 true (v2_0.map ic)])∧(∃ (v3_0:List Int),Ze0 v1_0 v2_0=some (.own 0,[.arr 3 1 true (v3_0.map ic)])∧(some (.own 0,[.arr 3 1 true (v3_0.map ic)])=some r)))∨(Zek a a2=some (.t .nil,[])∧(∃ (v5_0:List Int),Zzq v1_0=some (.own 0,[.arr 3 1 true (v5_0.map ic)])∧(some (.own 0,[.arr 3 1 true (v5_0.map ic)])=some r)))))∨(Zek a a1=some (.t .nil,[])∧((∃ (v7_0:List Int),Zek a a2=some (.own 0,[.arr 3 1 true (v7_0.map ic)])∧(∃ (v8_0:List Int),Zzr v7_0=some (.own 0,[.arr 3 1 true (v8_0.map ic)])∧(some (.own 0,[.arr 3 1 true (v8_0.map ic)])=some r)))∨(Zek a a2=some (.t .nil,[])∧(∃ (v10_0:List Int),Zzs=some (.own 0,[.arr 3 1 true (v10_0.map ic)])∧(some (.own 0,[.arr 3 1 true (v10_0.map ic)])=some r))))))):Zh5 a a1 a2=some r:=by
 unfold Zh5
 refine run Zbcr rfl ?_
 simp only [Zek,Ze0,Zzq,Zzr,Zzs,Zb.c_def,mpl,dfs] at h
 rcases h with ⟨v1_0,q2,(⟨v2_0,q4,v3_0,q5,h⟩ | ⟨q6,v5_0,q7,h⟩)⟩ | ⟨q8,(⟨v7_0,q10,v8_0,q11,h⟩ | ⟨q12,v10_0,q13,h⟩)⟩
 all_goals (refine Eq.trans ?_ h;clear h;simp +decide [*,kk,Zzt])
theorem Zbgl (a:Plan) (a1:Int) (r:AV×List Blk) (h:(∃ (v1_0:List Zc),Zcg a=some (.agg [.own 0],[.arr 142 3 true (v1_0.map Zc.c)])∧(v1_0.length+1≤68719476736∧(some (.agg [.own 0],[.arr 142 3 true ((v1_0++[(⟨2,0,a1⟩:Zc)]).map Zc.c)])=some r)))):Zlo a a1=some r:=by
 unfold Zlo
 refine run Zbcs rfl ?_
 simp only [Zcg,Plan.c_def,mpl,dfs] at h
 rcases h with ⟨v1_0,q1,q2,h⟩
 all_goals (refine Eq.trans ?_ h;clear h;simp +decide [*,kk,Zzu])
theorem Zpu (m:Zd) (q:Zb) (x:List Zc) (sizes:List Int) (v:Int) (x1:List Za) (x2:Int) (x3:Int) (r:AV×List Blk) (h:(if x3<x2 then (0≤x3∧(∃ (e1:Za),x1[x3.toNat]?=some e1∧(if e1.Order=v then (∃ (v2_0:Int),Zfe m q (⟨x⟩:Plan) sizes=some (I v2_0,[])∧(if e1.Cost≤v2_0 then (some (.agg (e1.Plan.c.map .t),[])=some r) else (Zgg m q x sizes v x1 x2 (w (x3+1))=some r))) else (Zgg m q x sizes v x1 x2 (w (x3+1))=some r)))) else (some (.agg [.own 0],[.arr 142 3 true (x.map Zc.c)])=some r))):Zgg m q x sizes v x1 x2 x3=some r:=by
 unfold Zgg
 rw [EvL_eq Zsn.eq_1]
 simp only [Zfe,Zd.c_def,Zi.c_def,Plan.c_def,Zb.c_def,mpl,dfs] at h
 try simp only [itb] at h
 try simp only [itf,List.getElem?_eq_some_iff,kk] at h
 rcases h with ⟨q1,q2,e1,⟨g3,q3⟩,(⟨q4,v2_0,q5,(⟨q6,h⟩ | ⟨q6,h⟩)⟩ | ⟨q4,h⟩)⟩ | ⟨q1,h⟩
 all_goals (refine Eq.trans ?_ h;clear h;simp +decide [*,kk,Zgg,Zso])
theorem Z3p (a:Zd) (a1:Zb) (a2:List Int) (a3:List Za) (a4:Int) (r:AV×List Blk) (h:(∃ (v1_0:Za),Zge a3=some (.agg (v1_0.c.map .t),[])∧(if v1_0.Order=a4 then (some (.agg (v1_0.Plan.c.map .t),[])=some r) else (∃ (v2_0:List Zc),Zlo v1_0.Plan a4=some (.agg [.own 0],[.arr 142 3 true (v2_0.map Zc.c)])∧(Zgg a a1 v2_0 a2 a4 a3 (a3.length:Int) 0=some r))))):Zdi a a1 a2 a3 a4=some r:=by
 unfold Zdi
 refine run Zbct rfl ?_
 simp only [Zge,Zlo,Plan.c_def,Za.c_def,mpl,dfs] at h
 try simp only [itb] at h
 try simp only [itf,List.getElem?_eq_some_iff,kk] at h
 rcases h with ⟨v1_0,q1,(⟨q2,h⟩ | ⟨q2,v2_0,q3,h⟩)⟩
 all_goals (refine Eq.trans ?_ h;clear h;simp +decide [*,kk,Zzv,Zgg])
end Go.Proofs.YtbapkgocloaaeaaGreat
/- part: G7 -/
namespace Go.Proofs.YtbapkgocloaaeaaGreat
open Go.AM
theorem Z3q (m:Zd) (q:Zb) (fr:Bool) (table:List (List Za)) (fr1:Bool) (out:List Za) (x:List Int) (sizes:List Int) (x1:Int) (x2:Int) (r:AV×List Blk) (h:(if x2<x1 then (0≤x2∧(∃ (e1:Int),x[x2.toNat]?=some e1∧((Zjq e1=some (.t .nil,[])∧((Zdg q e1=some (.t .nil,[])∧(Zlp m q fr table fr1 out m q sizes e1 (⟨0,0,0,(⟨[]⟩:Plan)⟩:Za) (⟨0,0,0,(⟨[]⟩:Plan)⟩:Za) (⟨0,0,0,(⟨[]⟩:Plan)⟩:Za) (⟨0,0,0,(⟨[]⟩:Plan)⟩:Za) (⟨0,0,0,(⟨[]⟩:Plan)⟩:Za) false false false false false x sizes e1 x1 x2 0 0=some r))∨(∃ (v4_0:List Int),Zdg q e1=some (.own 0,[.arr 3 1 true (v4_0.map ic)])∧(Zdj m q fr table fr1 out m q sizes e1 (⟨0,0,0,(⟨[]⟩:Plan)⟩:Za) (⟨0,0,0,(⟨[]⟩:Plan)⟩:Za) (⟨0,0,0,(⟨[]⟩:Plan)⟩:Za) (⟨0,0,0,(⟨[]⟩:Plan)⟩:Za) (⟨0,0,0,(⟨[]⟩:Plan)⟩:Za) false false false false false x v4_0 sizes e1 x1 x2 (v4_0.length:Int) 0=some r))))∨(∃ (v5_0:List Int),Zjq e1=some (.own 0,[.arr 3 1 true (v5_0.map ic)])∧(if (v5_0.length:Int)=1 then (∃ (e6:Int),v5_0[0]?=some e6∧(∃ (v7_0:List Zc),Zlk e6=some (.agg [.own 0],[.arr 142 3 true (v7_0.map Zc.c)])∧(0≤e6∧(∃ (e8:Atom),q.Atoms[e6.toNat]?=some e8∧(∃ (e9:Int),e8.Vars[0]?=some e9∧((∃ (v10_0:Zd) (v10_1:Zb) (v10_2:List Int) (v10_3:Int) (v10_4:Za) (v10_5:Za) (v10_6:Za) (v10_7:Za) (v10_8:Za) (v10_9:Bool) (v10_10:Bool) (v10_11:Bool) (v10_12:Bool) (v10_13:Bool),Zbr m q sizes e1 (⟨0,0,0,(⟨[]⟩:Plan)⟩:Za) (⟨0,0,0,(⟨[]⟩:Plan)⟩:Za) (⟨0,0,0,(⟨[]⟩:Plan)⟩:Za) (⟨0,0,0,(⟨[]⟩:Plan)⟩:Za) (⟨0,0,0,(⟨[]⟩:Plan)⟩:Za) false false false false false v7_0 e9=some (.tup [],[boxO v10_0 v10_1 v10_2 v10_3 v10_4 v10_5 v10_6 v10_7 v10_8 v10_9 v10_10 v10_11 v10_12 v10_13,.dead])∧((Zdg q e1=some (.t .nil,[])∧(Zlp m q fr table fr1 out v10_0 v10_1 v10_2 v10_3 v10_4 v10_5 v10_6 v10_7 v10_8 v10_9 v10_10 v10_11 v10_12 v10_13 x sizes e1 x1 x2 0 0=some r))∨(∃ (v12_0:List Int),Zdg q e1=some (.own 0,[.arr 3 1 true (v12_0.map ic)])∧(Zdj m q fr table fr1 out v10_0 v10_1 v10_2 v10_3 v10_4 v10_5 v10_6 v10_7 v10_8 v10_9 v10_10 v10_11 v10_12 v10_13 x v12_0 sizes e1 x1 x2 (v12_0.length:Int) 0=some r))))∨(∃ (v13_0:Zd) (v13_1:Zb) (v13_2:List Int) (v13_3:Int) (v13_4:Za) (v13_5:Za) (v13_6:Za) (v13_7:Za) (v13_8:Za) (v13_9:Bool) (v13_10:Bool) (v13_11:Bool) (v13_12:Bool) (v13_13:Bool) (v13_14:List Zc),Zbr m q sizes e1 (⟨0,0,0,(⟨[]⟩:Plan)⟩:Za) (⟨0,0,0,(⟨[]⟩:Plan)⟩:Za) (⟨0,0,0,(⟨[]⟩:Plan)⟩:Za) (⟨0,0,0,(⟨[]⟩:Plan)⟩:Za) (⟨0,0,0,(⟨[]⟩:Plan)⟩:Za) false false false false false v7_0 e9=some (.tup [],[boxO v13_0 v13_1 v13_2 v13_3 v13_4 v13_5 v13_6 v13_7 v13_8 v13_9 v13_10 v13_11 v13_12 v13_13,.arr 142 3 true (v13_14.map Zc.c)])∧((Zdg q e1=some (.t .nil,[])∧(Zlp m q fr table fr1 out v13_0 v13_1 v13_2 v13_3 v13_4 v13_5 v13_6 v13_7 v13_8 v13_9 v13_10 v13_11 v13_12 v13_13 x sizes e1 x1 x2 0 0=some r))∨(∃ (v15_0:List Int),Zdg q e1=some (.own 0,[.arr 3 1 true (v15_0.map ic)])∧(Zdj m q fr table fr1 out v13_0 v13_1 v13_2 v13_3 v13_4 v13_5 v13_6 v13_7 v13_8 v13_9 v13_10 v13_11 v13_12 v13_13 x v15_0 sizes e1 x1 x2 (v15_0.length:Int) 0=some r)))))))))) else ((Zdg q e1=some (.t .nil,[])∧(Zlp m q fr table fr1 out m q sizes e1 (⟨0,0,0,(⟨[]⟩:Plan)⟩:Za) (⟨0,0,0,(⟨[]⟩:Plan)⟩:Za) (⟨0,0,0,(⟨[]⟩:Plan)⟩:Za) (⟨0,0,0,(⟨[]⟩:Plan)⟩:Za) (⟨0,0,0,(⟨[]⟩:Plan)⟩:Za) false false false false false x sizes e1 x1 x2 0 0=some r))∨(∃ (v17_0:List Int),Zdg q e1=some (.own 0,[.arr 3 1 true (v17_0.map ic)])∧(Zdj m q fr table fr1 out m q sizes e1 (⟨0,0,0,(⟨[]⟩:Plan)⟩:Za) (⟨0,0,0,(⟨[]⟩:Plan)⟩:Za) (⟨0,0,0,(⟨[]⟩:Plan)⟩:Za) (⟨0,0,0,(⟨[]⟩:Plan)⟩:Za) (⟨0,0,0,(⟨[]⟩:Plan)⟩:Za) false false false false false x v17_0 sizes e1 x1 x2 (v17_0.length:Int) 0=some r)))))))) else (Zh8 fr1 out (out.length:Int) 0=some r))):Zff m q fr table fr1 out x sizes x1 x2=some r:=by
 unfold Zff
 rw [EvL_eq Zh6.eq_1]
 simp only [Zjq,Zdg,Zlk,Zbr,Zd.c_def,Zi.c_def,Plan.c_def,Za.c_def,Zc.c_def,Zb.c_def,mpl,dfs,Zk1] at h
 try simp only [itb] at h
 try simp only [itf,List.getElem?_eq_some_iff,kk] at h
 rcases h with ⟨q1,q2,e1,⟨g3,q3⟩,(⟨q5,(⟨q7,h⟩ | ⟨v4_0,q8,h⟩)⟩ | ⟨v5_0,q9,(⟨q10,e6,⟨g11,q11⟩,v7_0,q12,q13,e8,⟨g14,q14⟩,e9,⟨g15,q15⟩,(⟨v10_0,v10_1,v10_2,v10_3,v10_4,v10_5,v10_6,v10_7,v10_8,v10_9,v10_10,v10_11,v10_12,v10_13,q17,(⟨q19,h⟩ | ⟨v12_0,q20,h⟩)⟩ | ⟨v13_0,v13_1,v13_2,v13_3,v13_4,v13_5,v13_6,v13_7,v13_8,v13_9,v13_10,v13_11,v13_12,v13_13,v13_14,q21,(⟨q23,h⟩ | ⟨v15_0,q24,h⟩)⟩)⟩ | ⟨q10,(⟨q26,h⟩ | ⟨v17_0,q27,h⟩)⟩)⟩)⟩ | ⟨q1,h⟩
 all_goals (refine Eq.trans ?_ h;clear h;simp +decide [*,kk,Zlp,Zzw,Zdj,Zh8,Zh7])
theorem Z3r (m:Zd) (q:Zb) (fr:Bool) (table:List (List Za)) (fr1:Bool) (out:List Za) (m_1:Zd) (q_1:Zb) (sizes:List Int) (mask:Int) (list0:Za) (list1:Za) (list2:Za) (list3:Za) (list4:Za) (some0:Bool) (some1:Bool) (some2:Bool) (some3:Bool) (some4:Bool) (x:List Int) (x1:List Int) (sizes1:List Int) (mask1:Int) (x2:Int) (x3:Int) (x4:Int) (x5:Int) (r:AV×List Blk) (h:(if x5<x4 then (0≤x5∧(∃ (e1:Int),x1[x5.toNat]?=some e1∧(0≤e1∧(∃ (e2:List Za),table[e1.toNat]?=some e2∧(0≤(andNotI mask1 e1)∧(∃ (e3:List Za),table[(andNotI mask1 e1).toNat]?=some e3∧(∃ (v4_0:Za),Zge e3=some (.agg (v4_0.c.map .t),[])∧(∃ (v5_0:Za),Zge e2=some (.agg (v5_0.c.map .t),[])∧(∃ (v6_0:List Zc),Zdh v5_0.Plan v4_0.Plan 3 0=some (.agg [.own 0],[.arr 142 3 true (v6_0.map Zc.c)])∧((∃ (v7_0:Zd) (v7_1:Zb) (v7_2:List Int) (v7_3:Int) (v7_4:Za) (v7_5:Za) (v7_6:Za) (v7_7:Za) (v7_8:Za) (v7_9:Bool) (v7_10:Bool) (v7_11:Bool) (v7_12:Bool) (v7_13:Bool),Zbr m_1 q_1 sizes mask list0 list1 list2 list3 list4 some0 some1 some2 some3 some4 v6_0 (-1)=some (.tup [],[boxO v7_0 v7_1 v7_2 v7_3 v7_4 v7_5 v7_6 v7_7 v7_8 v7_9 v7_10 v7_11 v7_12 v7_13,.dead])∧(Zel m q fr table fr1 out v7_0 v7_1 v7_2 v7_3 v7_4 v7_5 v7_6 v7_7 v7_8 v7_9 v7_10 v7_11 v7_12 v7_13 v4_0.Plan x x1 sizes1 mask1 e1 e2 e3 x2 x3 x4 x5 e2 (e2.length:Int) 0=some r))∨(∃ (v8_0:Zd) (v8_1:Zb) (v8_2:List Int) (v8_3:Int) (v8_4:Za) (v8_5:Za) (v8_6:Za) (v8_7:Za) (v8_8:Za) (v8_9:Bool) (v8_10:Bool) (v8_11:Bool) (v8_12:Bool) (v8_13:Bool) (v8_14:List Zc),Zbr m_1 q_1 sizes mask list0 list1 list2 list3 list4 some0 some1 some2 some3 some4 v6_0 (-1)=some (.tup [],[boxO v8_0 v8_1 v8_2 v8_3 v8_4 v8_5 v8_6 v8_7 v8_8 v8_9 v8_10 v8_11 v8_12 v8_13,.arr 142 3 true (v8_14.map Zc.c)])∧(Zel m q fr table fr1 out v8_0 v8_1 v8_2 v8_3 v8_4 v8_5 v8_6 v8_7 v8_8 v8_9 v8_10 v8_11 v8_12 v8_13 v4_0.Plan x x1 sizes1 mask1 e1 e2 e3 x2 x3 x4 x5 e2 (e2.length:Int) 0=some r)))))))))))) else (∃ (v9_0:Bool) (v9_1:List Za),Zln m_1 q_1 sizes mask list0 list1 list2 list3 list4 some0 some1 some2 some3 some4=some (.own 1,[boxO m_1 q_1 sizes mask list0 list1 list2 list3 list4 some0 some1 some2 some3 some4,.arr 174 4 v9_0 (v9_1.map Za.c)])∧(0≤mask1∧(∃ (e10:List Za),table[mask1.toNat]?=some e10∧(out.length+v9_1.length≤68719476736∧(Zff m q (fr && v9_0) (table.set mask1.toNat v9_1) (fr1 && flat (v9_1.map Za.c)) (out++v9_1) x sizes1 x2 (w (x3+1))=some r))))))):Zdj m q fr table fr1 out m_1 q_1 sizes mask list0 list1 list2 list3 list4 some0 some1 some2 some3 some4 x x1 sizes1 mask1 x2 x3 x4 x5=some r:=by
 unfold Zdj
 rw [EvL_eq Zjr.eq_1]
 simp only [Zge,Zdh,Zbr,Zln,Zd.c_def,Zi.c_def,Plan.c_def,Za.c_def,Zc.c_def,Zb.c_def,mpl,dfs,Zk1] at h
 try simp only [itb] at h
 try simp only [itf,List.getElem?_eq_some_iff,kk] at h
 rcases h with ⟨q1,q2,e1,⟨g3,q3⟩,q4,e2,⟨g5,q5⟩,q6,e3,⟨g7,q7⟩,v4_0,q8,v5_0,q9,v6_0,q10,(⟨v7_0,v7_1,v7_2,v7_3,v7_4,v7_5,v7_6,v7_7,v7_8,v7_9,v7_10,v7_11,v7_12,v7_13,q12,h⟩ | ⟨v8_0,v8_1,v8_2,v8_3,v8_4,v8_5,v8_6,v8_7,v8_8,v8_9,v8_10,v8_11,v8_12,v8_13,v8_14,q13,h⟩)⟩ | ⟨q1,v9_0,v9_1,q14,q15,e10,⟨g16,q16⟩,q17,h⟩
 all_goals (refine Eq.trans ?_ h;clear h;simp +decide [*,kk,Zel,Zff,Zjt,Zjs])
theorem Z3s (fr:Bool) (out:List Za) (x:Int) (x1:Int) (r:AV×List Blk) (h:(if x1<x then (0≤x1∧(∃ (e1:Za),out[x1.toNat]?=some e1∧(∃ (v2_0:List Zc),Zcg e1.Plan=some (.agg [.own 0],[.arr 142 3 true (v2_0.map Zc.c)])∧(Zh8 fr (out.set x1.toNat (⟨e1.Mask,e1.Order,e1.Cost,(⟨v2_0⟩:Plan)⟩:Za)) x (w (x1+1))=some r)))) else (some (.own 0,[.arr 174 4 fr (out.map Za.c)])=some r))):Zh8 fr out x x1=some r:=by
 unfold Zh8
 rw [EvL_eq Zss.eq_1]
 simp only [Zcg,Plan.c_def,mpl,dfs,Zk1] at h
 try simp only [itb] at h
 try simp only [itf,List.getElem?_eq_some_iff,kk] at h
 rcases h with ⟨q1,q2,e1,⟨g3,q3⟩,v2_0,q4,h⟩ | ⟨q1,h⟩
 all_goals (refine Eq.trans ?_ h;clear h;simp +decide [*,kk,Zh8,Zst])
theorem Z3t (m:Zd) (q:Zb) (fr:Bool) (table:List (List Za)) (fr1:Bool) (out:List Za) (m_1:Zd) (q_1:Zb) (sizes:List Int) (mask:Int) (list0:Za) (list1:Za) (list2:Za) (list3:Za) (list4:Za) (some0:Bool) (some1:Bool) (some2:Bool) (some3:Bool) (some4:Bool) (y:Plan) (x:List Int) (x1:List Int) (sizes1:List Int) (mask1:Int) (x2:Int) (left:List Za) (right:List Za) (x3:Int) (x4:Int) (x5:Int) (x6:Int) (x7:List Za) (x8:Int) (x9:Int) (r:AV×List Blk) (h:(if x9<x8 then (0≤x9∧(∃ (e1:Za),x7[x9.toNat]?=some e1∧(∃ (v2_0:List Zc),Zdh e1.Plan y 5 0=some (.agg [.own 0],[.arr 142 3 true (v2_0.map Zc.c)])∧((∃ (v3_0:Zd) (v3_1:Zb) (v3_2:List Int) (v3_3:Int) (v3_4:Za) (v3_5:Za) (v3_6:Za) (v3_7:Za) (v3_8:Za) (v3_9:Bool) (v3_10:Bool) (v3_11:Bool) (v3_12:Bool) (v3_13:Bool),Zbr m_1 q_1 sizes mask list0 list1 list2 list3 list4 some0 some1 some2 some3 some4 v2_0 e1.Order=some (.tup [],[boxO v3_0 v3_1 v3_2 v3_3 v3_4 v3_5 v3_6 v3_7 v3_8 v3_9 v3_10 v3_11 v3_12 v3_13,.dead])∧(Zel m q fr table fr1 out v3_0 v3_1 v3_2 v3_3 v3_4 v3_5 v3_6 v3_7 v3_8 v3_9 v3_10 v3_11 v3_12 v3_13 y x x1 sizes1 mask1 x2 left right x3 x4 x5 x6 x7 x8 (w (x9+1))=some r))∨(∃ (v4_0:Zd) (v4_1:Zb) (v4_2:List Int) (v4_3:Int) (v4_4:Za) (v4_5:Za) (v4_6:Za) (v4_7:Za) (v4_8:Za) (v4_9:Bool) (v4_10:Bool) (v4_11:Bool) (v4_12:Bool) (v4_13:Bool) (v4_14:List Zc),Zbr m_1 q_1 sizes mask list0 list1 list2 list3 list4 some0 some1 some2 some3 some4 v2_0 e1.Order=some (.tup [],[boxO v4_0 v4_1 v4_2 v4_3 v4_4 v4_5 v4_6 v4_7 v4_8 v4_9 v4_10 v4_11 v4_12 v4_13,.arr 142 3 true (v4_14.map Zc.c)])∧(Zel m q fr table fr1 out v4_0 v4_1 v4_2 v4_3 v4_4 v4_5 v4_6 v4_7 v4_8 v4_9 v4_10 v4_11 v4_12 v4_13 y x x1 sizes1 mask1 x2 left right x3 x4 x5 x6 x7 x8 (w (x9+1))=some r)))))) else (∃ (v5_0:List Int),Zh5 q x2 (andNotI mask1 x2)=some (.own 0,[.arr 3 1 true (v5_0.map ic)])∧(Zco m q fr table fr1 out m_1 q_1 sizes mask list0 list1 list2 list3 list4 some0 some1 some2 some3 some4 x x1 v5_0 sizes1 mask1 left right x3 x4 x5 x6 (v5_0.length:Int) 0=some r)))):Zel m q fr table fr1 out m_1 q_1 sizes mask list0 list1 list2 list3 list4 some0 some1 some2 some3 some4 y x x1 sizes1 mask1 x2 left right x3 x4 x5 x6 x7 x8 x9=some r:=by
 unfold Zel
 rw [EvL_eq Zsp.eq_1]
 simp only [Zdh,Zbr,Zh5,Zd.c_def,Zi.c_def,Plan.c_def,Za.c_def,Zc.c_def,Zb.c_def,mpl,dfs,Zk1] at h
 try simp only [itb] at h
 try simp only [itf,List.getElem?_eq_some_iff,kk] at h
 rcases h with ⟨q1,q2,e1,⟨g3,q3⟩,v2_0,q4,(⟨v3_0,v3_1,v3_2,v3_3,v3_4,v3_5,v3_6,v3_7,v3_8,v3_9,v3_10,v3_11,v3_12,v3_13,q6,h⟩ | ⟨v4_0,v4_1,v4_2,v4_3,v4_4,v4_5,v4_6,v4_7,v4_8,v4_9,v4_10,v4_11,v4_12,v4_13,v4_14,q7,h⟩)⟩ | ⟨q1,v5_0,q8,h⟩
 all_goals (refine Eq.trans ?_ h;clear h;simp +decide [*,kk,Zel,Zco,Zsr])
theorem Z3u (m:Zd) (q:Zb) (fr:Bool) (table:List (List Za)) (fr1:Bool) (out:List Za) (m_1:Zd) (q_1:Zb) (sizes:List Int) (mask:Int) (list0:Za) (list1:Za) (list2:Za) (list3:Za) (list4:Za) (some0:Bool) (some1:Bool) (some2:Bool) (some3:Bool) (some4:Bool) (x:List Int) (x1:List Int) (x2:List Int) (sizes1:List Int) (mask1:Int) (left:List Za) (right:List Za) (x3:Int) (x4:Int) (x5:Int) (x6:Int) (x7:Int) (x8:Int) (r:AV×List Blk) (h:(if x8<x7 then (0≤x8∧(∃ (e1:Int),x2[x8.toNat]?=some e1∧((∃ (v2_0:Plan),Zdi m q sizes1 left e1=some (.agg (v2_0.c.map .t),[])∧((∃ (v3_0:Plan),Zdi m q sizes1 right e1=some (.agg (v3_0.c.map .t),[])∧(∃ (v4_0:List Zc),Zdh v2_0 v3_0 4 e1=some (.agg [.own 0],[.arr 142 3 true (v4_0.map Zc.c)])∧((∃ (v5_0:Zd) (v5_1:Zb) (v5_2:List Int) (v5_3:Int) (v5_4:Za) (v5_5:Za) (v5_6:Za) (v5_7:Za) (v5_8:Za) (v5_9:Bool) (v5_10:Bool) (v5_11:Bool) (v5_12:Bool) (v5_13:Bool),Zbr m_1 q_1 sizes mask list0 list1 list2 list3 list4 some0 some1 some2 some3 some4 v4_0 e1=some (.tup [],[boxO v5_0 v5_1 v5_2 v5_3 v5_4 v5_5 v5_6 v5_7 v5_8 v5_9 v5_10 v5_11 v5_12 v5_13,.dead])∧(Zco m q fr table fr1 out v5_0 v5_1 v5_2 v5_3 v5_4 v5_5 v5_6 v5_7 v5_8 v5_9 v5_10 v5_11 v5_12 v5_13 x x1 x2 sizes1 mask1 left right x3 x4 x5 x6 x7 (w (x8+1))=some r))∨(∃ (v6_0:Zd) (v6_1:Zb) (v6_2:List Int) (v6_3:Int) (v6_4:Za) (v6_5:Za) (v6_6:Za) (v6_7:Za) (v6_8:Za) (v6_9:Bool) (v6_10:Bool) (v6_11:Bool) (v6_12:Bool) (v6_13:Bool) (v6_14:List Zc),Zbr m_1 q_1 sizes mask list0 list1 list2 list3 list4 some0 some1 some2 some3 some4 v4_0 e1=some (.tup [],[boxO v6_0 v6_1 v6_2 v6_3 v6_4 v6_5 v6_6 v6_7 v6_8 v6_9 v6_10 v6_11 v6_12 v6_13,.arr 142 3 true (v6_14.map Zc.c)])∧(Zco m q fr table fr1 out v6_0 v6_1 v6_2 v6_3 v6_4 v6_5 v6_6 v6_7 v6_8 v6_9 v6_10 v6_11 v6_12 v6_13 x x1 x2 sizes1 mask1 left right x3 x4 x5 x6 x7 (w (x8+1))=some r)))))∨(∃ (v7_0:List Zc),Zdi m q sizes1 right e1=some (.agg [.own 0],[.arr 142 3 true (v7_0.map Zc.c)])∧(∃ (v8_0:List Zc),Zdh v2_0 (⟨v7_0⟩:Plan) 4 e1=some (.agg [.own 0],[.arr 142 3 true (v8_0.map Zc.c)])∧((∃ (v9_0:Zd) (v9_1:Zb) (v9_2:List Int) (v9_3:Int) (v9_4:Za) (v9_5:Za) (v9_6:Za) (v9_7:Za) (v9_8:Za) (v9_9:Bool) (v9_10:Bool) (v9_11:Bool) (v9_12:Bool) (v9_13:Bool),Zbr m_1 q_1 sizes mask list0 list1 list2 list3 list4 some0 some1 some2 some3 some4 v8_0 e1=some (.tup [],[boxO v9_0 v9_1 v9_2 v9_3 v9_4 v9_5 v9_6 v9_7 v9_8 v9_9 v9_10 v9_11 v9_12 v9_13,.dead])∧(Zco m q fr table fr1 out v9_0 v9_1 v9_2 v9_3 v9_4 v9_5 v9_6 v9_7 v9_8 v9_9 v9_10 v9_11 v9_12 v9_13 x x1 x2 sizes1 mask1 left right x3 x4 x5 x6 x7 (w (x8+1))=some r))∨(∃ (v10_0:Zd) (v10_1:Zb) (v10_2:List Int) (v10_3:Int) (v10_4:Za) (v10_5:Za) (v10_6:Za) (v10_7:Za) (v10_8:Za) (v10_9:Bool) (v10_10:Bool) (v10_11:Bool) (v10_12:Bool) (v10_13:Bool) (v10_14:List Zc),Zbr m_1 q_1 sizes mask list0 list1 list2 list3 list4 some0 some1 some2 some3 some4 v8_0 e1=some (.tup [],[boxO v10_0 v10_1 v10_2 v10_3 v10_4 v10_5 v10_6 v10_7 v10_8 v10_9 v10_10 v10_11 v10_12 v10_13,.arr 142 3 true (v10_14.map Zc.c)])∧(Zco m q fr table fr1 out v10_0 v10_1 v10_2 v10_3 v10_4 v10_5 v10_6 v10_7 v10_8 v10_9 v10_10 v10_11 v10_12 v10_13 x x1 x2 sizes1 mask1 left right x3 x4 x5 x6 x7 (w (x8+1))=some r)))))))∨(∃ (v11_0:List Zc),Zdi m q sizes1 left e1=some (.agg [.own 0],[.arr 142 3 true (v11_0.map Zc.c)])∧((∃ (v12_0:Plan),Zdi m q sizes1 right e1=some (.agg (v12_0.c.map .t),[])∧(∃ (v13_0:List Zc),Zdh (⟨v11_0⟩:Plan) v12_0 4 e1=some (.agg [.own 0],[.arr 142 3 true (v13_0.map Zc.c)])∧((∃ (v14_0:Zd) (v14_1:Zb) (v14_2:List Int) (v14_3:Int) (v14_4:Za) (v14_5:Za) (v14_6:Za) (v14_7:Za) (v14_8:Za) (v14_9:Bool) (v14_10:Bool) (v14_11:Bool) (v14_12:Bool) (v14_13:Bool),Zbr m_1 q_1 sizes mask list0 list1 list2 list3 list4 some0 some1 some2 some3 some4 v13_0 e1=some (.tup [],[boxO v14_0 v14_1 v14_2 v14_3 v14_4 v14_5 v14_6 v14_7 v14_8 v14_9 v14_10 v14_11 v14_12 v14_13,.dead])∧(Zco m q fr table fr1 out v14_0 v14_1 v14_2 v14_3 v14_4 v14_5 v14_6 v14_7 v14_8 v14_9 v14_10 v14_11 v14_12 v14_13 x x1 x2 sizes1 mask1 left right x3 x4 x5 x6 x7 (w (x8+1))=some r))∨(∃ (v15_0:Zd) (v15_1:Zb) (v15_2:List Int) (v15_3:Int) (v15_4:Za) (v15_5:Za) (v15_6:Za) (v15_7:Za) (v15_8:Za) (v15_9:Bool) (v15_10:Bool) (v15_11:Bool) (v15_12:Bool) (v15_13:Bool) (v15_14:List Zc),Zbr m_1 q_1 sizes mask list0 list1 list2 list3 list4 some0 some1 some2 some3 some4 v13_0 e1=some (.tup [],[boxO v15_0 v15_1 v15_2 v15_3 v15_4 v15_5 v15_6 v15_7 v15_8 v15_9 v15_10 v15_11 v15_12 v15_13,.arr 142 3 true (v15_14.map Zc.c)])∧(Zco m q fr table fr1 out v15_0 v15_1 v15_2 v15_3 v15_4 v15_5 v15_6 v15_7 v15_8 v15_9 v15_10 v15_11 v15_12 v15_13 x x1 x2 sizes1 mask1 left right x3 x4 x5 x6 x7 (w (x8+1))=some r)))))∨(∃ (v16_0:List Zc),Zdi m q sizes1 right e1=some (.agg [.own 0],[.arr 142 3 true (v16_0.map Zc.c)])∧(∃ (v17_0:List Zc),Zdh (⟨v11_0⟩:Plan) (⟨v16_0⟩:Plan) 4 e1=some (.agg [.own 0],[.arr 142 3 true (v17_0.map Zc.c)])∧((∃ (v18_0:Zd) (v18_1:Zb) (v18_2:List Int) (v18_3:Int) (v18_4:Za) (v18_5:Za) (v18_6:Za) (v18_7:Za) (v18_8:Za) (v18_9:Bool) (v18_10:Bool) (v18_11:Bool) (v18_12:Bool) (v18_13:Bool),Zbr m_1 q_1 sizes mask list0 list1 list2 list3 list4 some0 some1 some2 some3 some4 v17_0 e1=some (.tup [],[boxO v18_0 v18_1 v18_2 v18_3 v18_4 v18_5 v18_6 v18_7 v18_8 v18_9 v18_10 v18_11 v18_12 v18_13,.dead])∧(Zco m q fr table fr1 out v18_0 v18_1 v18_2 v18_3 v18_4 v18_5 v18_6 v18_7 v18_8 v18_9 v18_10 v18_11 v18_12 v18_13 x x1 x2 sizes1 mask1 left right x3 x4 x5 x6 x7 (w (x8+1))=some r))∨(∃ (v19_0:Zd) (v19_1:Zb) (v19_2:List Int) (v19_3:Int) (v19_4:Za) (v19_5:Za) (v19_6:Za) (v19_7:Za) (v19_8:Za) (v19_9:Bool) (v19_10:Bool) (v19_11:Bool) (v19_12:Bool) (v19_13:Bool) (v19_14:List Zc),Zbr m_1 q_1 sizes mask list0 list1 list2 list3 list4 some0 some1 some2 some3 some4 v17_0 e1=some (.tup [],[boxO v19_0 v19_1 v19_2 v19_3 v19_4 v19_5 v19_6 v19_7 v19_8 v19_9 v19_10 v19_11 v19_12 v19_13,.arr 142 3 true (v19_14.map Zc.c)])∧(Zco m q fr table fr1 out v19_0 v19_1 v19_2 v19_3 v19_4 v19_5 v19_6 v19_7 v19_8 v19_9 v19_10 v19_11 v19_12 v19_13 x x1 x2 sizes1 mask1 left right x3 x4 x5 x6 x7 (w (x8+1))=some r)))))))))) else (Zdj m q fr table fr1 out m_1 q_1 sizes mask list0 list1 list2 list3 list4 some0 some1 some2 some3 some4 x x1 sizes1 mask1 x3 x4 x5 (w (x6+1))=some r))):Zco m q fr table fr1 out m_1 q_1 sizes mask list0 list1 list2 list3 list4 some0 some1 some2 some3 some4 x x1 x2 sizes1 mask1 left right x3 x4 x5 x6 x7 x8=some r:=by
 unfold Zco
 rw [EvL_eq Zsq.eq_1]
 simp only [Zdi,Zdh,Zbr,Zd.c_def,Zi.c_def,Plan.c_def,Za.c_def,Zc.c_def,Zb.c_def,mpl,dfs,Zk1] at h
 try simp only [itb] at h
 try simp only [itf,List.getElem?_eq_some_iff,kk] at h
 rcases h with ⟨q1,q2,e1,⟨g3,q3⟩,(⟨v2_0,q5,(⟨v3_0,q7,v4_0,q8,(⟨v5_0,v5_1,v5_2,v5_3,v5_4,v5_5,v5_6,v5_7,v5_8,v5_9,v5_10,v5_11,v5_12,v5_13,q10,h⟩ | ⟨v6_0,v6_1,v6_2,v6_3,v6_4,v6_5,v6_6,v6_7,v6_8,v6_9,v6_10,v6_11,v6_12,v6_13,v6_14,q11,h⟩)⟩ | ⟨v7_0,q12,v8_0,q13,(⟨v9_0,v9_1,v9_2,v9_3,v9_4,v9_5,v9_6,v9_7,v9_8,v9_9,v9_10,v9_11,v9_12,v9_13,q15,h⟩ | ⟨v10_0,v10_1,v10_2,v10_3,v10_4,v10_5,v10_6,v10_7,v10_8,v10_9,v10_10,v10_11,v10_12,v10_13,v10_14,q16,h⟩)⟩)⟩ | ⟨v11_0,q17,(⟨v12_0,q19,v13_0,q20,(⟨v14_0,v14_1,v14_2,v14_3,v14_4,v14_5,v14_6,v14_7,v14_8,v14_9,v14_10,v14_11,v14_12,v14_13,q22,h⟩ | ⟨v15_0,v15_1,v15_2,v15_3,v15_4,v15_5,v15_6,v15_7,v15_8,v15_9,v15_10,v15_11,v15_12,v15_13,v15_14,q23,h⟩)⟩ | ⟨v16_0,q24,v17_0,q25,(⟨v18_0,v18_1,v18_2,v18_3,v18_4,v18_5,v18_6,v18_7,v18_8,v18_9,v18_10,v18_11,v18_12,v18_13,q27,h⟩ | ⟨v19_0,v19_1,v19_2,v19_3,v19_4,v19_5,v19_6,v19_7,v19_8,v19_9,v19_10,v19_11,v19_12,v19_13,v19_14,q28,h⟩)⟩)⟩)⟩ | ⟨q1,h⟩
 all_goals (refine Eq.trans ?_ h;clear h;simp +decide [*,kk,Zco,Zdj,Zow])
theorem Zbgm (a:Zd) (a1:Zb) (a2:List Int) (r:AV×List Blk) (h:(∃ (v1_0:Bool),Zh0 a=some (Bo v1_0,[])∧(if v1_0=true then (∃ (v2_0:Bool),Zh1 a1 a2=some (Bo v2_0,[])∧(if v2_0=true then (∃ (v3_0:Int),Zb6 a1=some (I v3_0,[])∧(0≤(w (v3_0+1))∧((w (v3_0+1))≤(w (v3_0+1))∧((w (v3_0+1)).toNat*24≤room∧((w (v3_0+1))≤140737488355328∧(∃ (v4_0:List Int),Zlj a1=some (.own 0,[.arr 3 1 true (v4_0.map ic)])∧(Zff a a1 true (List.replicate ((w (v3_0+1))).toNat ([])) true ([]:List Za) v4_0 a2 (v4_0.length:Int) 0=some r))))))) else (some (.t .nil,[])=some r))) else (some (.t .nil,[])=some r)))):Zju a a1 a2=some r:=by
 unfold Zju
 refine run Zbcu rfl ?_
 obtain ⟨v1_0,q1,h⟩:=h
 unfold Zh0 at q1
 try simp at q1
 by_cases q2:v1_0=true
 ·rw [if_pos q2] at h
  obtain ⟨v2_0,q3,h⟩:=h
  unfold Zh1 at q3
  try simp at q3
  by_cases q4:v2_0=true
  ·rw [if_pos q4] at h
   obtain ⟨v3_0,q5,h⟩:=h
   unfold Zb6 at q5
   try simp at q5
   obtain ⟨q6,h⟩:=h
   obtain ⟨q7,h⟩:=h
   obtain ⟨q8,h⟩:=h
   have zq8:=q8;try simp at zq8
   obtain ⟨q9,h⟩:=h
   obtain ⟨v4_0,q10,h⟩:=h
   unfold Zlj at q10
   try simp at q10
   refine Eq.trans ?_ h
   clear h
   simp +decide [*,Zox,Zff]
  ·rw [if_neg q4] at h
   refine Eq.trans ?_ h
   clear h
   simp +decide [*,Zox]
 ·rw [if_neg q2] at h
  refine Eq.trans ?_ h
  clear h
  simp +decide [*,Zox]
end Go.Proofs.YtbapkgocloaaeaaGreat
