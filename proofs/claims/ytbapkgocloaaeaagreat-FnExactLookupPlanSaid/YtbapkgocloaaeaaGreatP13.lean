/-
  Parts of the proofs for this seat: G16 G17 V1 V2 V3 V4 V5 V6 OP.
-/
import Derived.Test.YtbapkgocloaaeaaGreatP8
import Derived.Test.YtbapkgocloaaeaaGreatP10
import Derived.Test.YtbapkgocloaaeaaGreatP11
import Derived.Test.YtbapkgocloaaeaaGreatP12
set_option linter.unusedSimpArgs false
set_option linter.unusedVariables false
set_option maxRecDepth 100000
set_option maxHeartbeats 4000000
/- part: G16 -/
namespace Go.Proofs.YtbapkgocloaaeaaGreat
open Go.AM
theorem Zbix (a:Atom) (a1:Atom) (r:AV×List Blk) (h:(if a.Name=a1.Name then (∃ (v1_0:Bool),Zm8 a.Vars a1.Vars=some (Bo v1_0,[])∧(some (Bo v1_0,[])=some r)) else (some (Bo false,[])=some r))):Zm9 a a1=some r:=by
 unfold Zm9
 refine run Zbev rfl ?_
 simp only [Zm8,mpl,dfs] at h
 try simp only [itb] at h
 try simp only [itf,List.getElem?_eq_some_iff,kk] at h
 rcases h with ⟨q1,v1_0,q2,h⟩ | ⟨q1,h⟩
 all_goals (refine Eq.trans ?_ h;clear h;simp +decide [*,kk,Z2a])
theorem Z46 (s2:List Atom) (x:List Atom) (x1:Int) (x2:Int) (r:AV×List Blk) (h:(if x2<x1 then (0≤x2∧(∃ (e1:Atom),x[x2.toNat]?=some e1∧(∃ (e2:Atom),s2[x2.toNat]?=some e2∧(∃ (v3_0:Bool),Zm9 e1 e2=some (Bo v3_0,[])∧(if v3_0=true then (Zi2 s2 x x1 (w (x2+1))=some r) else (some (Bo false,[])=some r)))))) else (some (Bo true,[])=some r))):Zi2 s2 x x1 x2=some r:=by
 unfold Zi2
 rw [EvL_eq Zuw.eq_1]
 simp only [Zm9,Atom.c_def,mpl,dfs] at h
 try simp only [itb] at h
 try simp only [itf,List.getElem?_eq_some_iff,kk] at h
 rcases h with ⟨q1,q2,e1,⟨g3,q3⟩,e2,⟨g4,q4⟩,v3_0,q5,(⟨q6,h⟩ | ⟨q6,h⟩)⟩ | ⟨q1,h⟩
 all_goals (refine Eq.trans ?_ h;clear h;simp +decide [*,kk,Zi2,Zux])
theorem Zbiy (a:List Atom) (a1:List Atom) (r:AV×List Blk) (h:(if (a.length:Int)=(a1.length:Int) then (Zi2 a1 a (a.length:Int) 0=some r) else (some (Bo false,[])=some r))):Zpo a a1=some r:=by
 unfold Zpo
 refine run Zbew rfl ?_
 try simp only [itb] at h
 try simp only [itf,List.getElem?_eq_some_iff,kk] at h
 rcases h with ⟨q1,h⟩ | ⟨q1,h⟩
 all_goals (refine Eq.trans ?_ h;clear h;simp +decide [*,kk,Z2b,Zi2])
theorem Zbiz (a:Zb) (a1:Zb) (r:AV×List Blk) (h:(if a.Ze=a1.Ze then (∃ (v1_0:Bool),Zpo a.Atoms a1.Atoms=some (Bo v1_0,[])∧(some (Bo v1_0,[])=some r)) else (some (Bo false,[])=some r))):Zna a a1=some r:=by
 unfold Zna
 refine run Zbex rfl ?_
 simp only [Zpo,Atom.c_def,mpl,dfs] at h
 try simp only [itb] at h
 try simp only [itf,List.getElem?_eq_some_iff,kk] at h
 rcases h with ⟨q1,v1_0,q2,h⟩ | ⟨q1,h⟩
 all_goals (refine Eq.trans ?_ h;clear h;simp +decide [*,kk,Z2c])
theorem Zbi0 (a:Zf) (a1:Int) (a2:Zb) (a3:List Int) (r:AV×List Blk) (h:(if a.Version=a1 then (∃ (v1_0:Bool),Zna a.Zb a2=some (Bo v1_0,[])∧(if v1_0=true then (∃ (v2_0:Bool),Zmz a.Region.Box a3=some (Bo v2_0,[])∧(some (Bo v2_0,[])=some r)) else (some (Bo false,[])=some r))) else (some (Bo false,[])=some r))):Znb a a1 a2 a3=some r:=by
 unfold Znb
 refine run Zbey rfl ?_
 simp only [Zna,Zmz,Box.c_def,Zb.c_def,mpl,dfs] at h
 try simp only [itb] at h
 try simp only [itf,List.getElem?_eq_some_iff,kk] at h
 rcases h with ⟨q1,v1_0,q2,(⟨q3,v2_0,q4,h⟩ | ⟨q3,h⟩)⟩ | ⟨q1,h⟩
 all_goals (refine Eq.trans ?_ h;clear h;simp +decide [*,kk,Z2d])
theorem Z47 (s:List Zf) (f:Int) (f1:Zb) (f2:List Int) (x:Int) (x1:Int) (r:AV×List Blk) (h:(if x1<x then (0≤x1∧(∃ (e1:Zf),s[x1.toNat]?=some e1∧(∃ (v2_0:Bool),Znb e1 f f1 f2=some (Bo v2_0,[])∧(if v2_0=true then (some (I x1,[])=some r) else (Zi3 s f f1 f2 x (w (x1+1))=some r))))) else (some (I (-1),[])=some r))):Zi3 s f f1 f2 x x1=some r:=by
 unfold Zi3
 rw [EvL_eq Zmw.eq_1]
 simp only [Znb,Box.c_def,Zf.c_def,Plan.c_def,Zb.c_def,Region.c_def,mpl,dfs] at h
 try simp only [itb] at h
 try simp only [itf,List.getElem?_eq_some_iff,kk] at h
 rcases h with ⟨q1,q2,e1,⟨g3,q3⟩,v2_0,q4,(⟨q5,h⟩ | ⟨q5,h⟩)⟩ | ⟨q1,h⟩
 all_goals (refine Eq.trans ?_ h;clear h;simp +decide [*,kk,Zi3,Zmx])
theorem Zbi1 (a:List Zf) (a1:Int) (a2:Zb) (a3:List Int) (r:AV×List Blk) (h:(Zi3 a a1 a2 a3 (a.length:Int) 0=some r)):Zpp a a1 a2 a3=some r:=by
 unfold Zpp
 refine run Z2q rfl ?_
 refine Eq.trans ?_ h;clear h;simp +decide [*,kk,Zup,Zi3]
theorem Zbi2 (a:Zp) (a1:Zb) (a2:Int) (a3:List Int) (r:AV×List Blk) (h:(∃ (v1_0:Int),Zpp a.Entries a2 a1 a3=some (I v1_0,[])∧(some (I v1_0,[])=some r))):Zj5 a a1 a2 a3=some r:=by
 unfold Zj5
 refine run Zbez rfl ?_
 simp only [Zpp,Box.c_def,Zf.c_def,Plan.c_def,Zb.c_def,Region.c_def,mpl,dfs] at h
 rcases h with ⟨v1_0,q1,h⟩
 all_goals (refine Eq.trans ?_ h;clear h;simp +decide [*,kk,Z2e])
theorem Zvd (a:Zd) (a1:Zp) (a2:Zb) (a3:Int) (a4:List Int) (r:AV×List Blk) (h:((∃ (v1_0:Int),Zj4 a1=some (.agg [I v1_0,.t .nil],[])∧(∃ (v2_0:Int),Zj5 a1 a2 a3 a4=some (I v2_0,[])∧(if v2_0<0 then (some (.tup [.agg [I v1_0,.t .nil],.agg [.t .nil],Bo false],[])=some r) else (if a1.Clock=1000000 then (some (.tup [.agg [I v1_0,.t .nil],.agg [.t .nil],Bo false],[])=some r) else (∃ (v3_0:Bool),Zj2 a a1=some (Bo v3_0,[])∧(if v3_0=true then False else (some (.tup [.agg [I v1_0,.t .nil],.agg [.t .nil],Bo false],[])=some r)))))))∨(∃ (v4_0:List Zf) (v4_1:Int),Zj4 a1=some (.agg [I v4_1,.own 0],[.arr 114 8 true (v4_0.map Zf.c)])∧(∃ (v5_0:Int),Zj5 a1 a2 a3 a4=some (I v5_0,[])∧(if v5_0<0 then (some (.tup [.agg [I v4_1,.own 0],.agg [.t .nil],Bo false],[.arr 114 8 true (v4_0.map Zf.c)])=some r) else (if a1.Clock=1000000 then (some (.tup [.agg [I v4_1,.own 0],.agg [.t .nil],Bo false],[.arr 114 8 true (v4_0.map Zf.c)])=some r) else (∃ (v6_0:Bool),Zj2 a a1=some (Bo v6_0,[])∧(if v6_0=true then (0≤v5_0∧(∃ (e7:Zf),v4_0[v5_0.toNat]?=some e7∧(∃ (e8:Zf),a1.Entries[v5_0.toNat]?=some e8∧(∃ (v9_0:List Zc),Zcg e8.Region.Plan=some (.agg [.own 0],[.arr 142 3 true (v9_0.map Zc.c)])∧(some (.tup [.agg [I (w (v4_1+1)),.own 0],.agg [.own 1],Bo true],[.arr 114 8 true ((v4_0.set v5_0.toNat (⟨e7.Zb,e7.Region,e7.Version,(w (v4_1+1))⟩:Zf)).map Zf.c),.arr 142 3 true (v9_0.map Zc.c)])=some r))))) else (some (.tup [.agg [I v4_1,.own 0],.agg [.t .nil],Bo false],[.arr 114 8 true (v4_0.map Zf.c)])=some r))))))))):Zi4 a a1 a2 a3 a4=some r:=by
 unfold Zi4
 refine run Zbe0 rfl ?_
 simp only [Zj4,Zj5,Zj2,Zcg,Zd.c_def,Zi.c_def,Plan.c_def,Zp.c_def,Zb.c_def,mpl,dfs] at h
 try simp only [itb] at h
 try simp only [itf,List.getElem?_eq_some_iff,kk] at h
 rcases h with ⟨v1_0,q2,v2_0,q3,(⟨q4,h⟩ | ⟨q4,(⟨q5,h⟩ | ⟨q5,v3_0,q6,(⟨q7,⟨⟩⟩ | ⟨q7,h⟩)⟩)⟩)⟩ | ⟨v4_0,v4_1,q8,v5_0,q9,(⟨q10,h⟩ | ⟨q10,(⟨q11,h⟩ | ⟨q11,v6_0,q12,(⟨q13,q14,e7,⟨g15,q15⟩,e8,⟨g16,q16⟩,v9_0,q17,h⟩ | ⟨q13,h⟩)⟩)⟩)⟩
 all_goals (refine Eq.trans ?_ h;clear h;simp +decide [*,kk,Z2f])
theorem Zbi3 (q:Zb) (Ze:Int) (VariableCount1:Int) (i:Int) (r:AV×List Blk) (h:(if i<(q.Atoms.length:Int) then (0≤i∧(∃ (e1:Atom),q.Atoms[i.toNat]?=some e1∧(e1.Vars.length≤68719476736∧(Zi5 q Ze VariableCount1 ([e1]) (w (i+1))=some r)))) else (some (.agg [I VariableCount1,.t .nil],[])=some r))):Zpq q Ze VariableCount1 i=some r:=by
 unfold Zpq
 rw [EvL_eq Znc.eq_1]
 try simp only [itb] at h
 try simp only [itf,List.getElem?_eq_some_iff,kk] at h
 rcases h with ⟨q1,q2,e1,⟨g3,q3⟩,q4,h⟩ | ⟨q1,h⟩
 all_goals (refine Eq.trans ?_ h;clear h;simp +decide [*,kk,Zi5,Znd])
theorem Z48 (q:Zb) (Ze:Int) (VariableCount1:Int) (x:List Atom) (i:Int) (r:AV×List Blk) (h:(if i<(q.Atoms.length:Int) then (0≤i∧(∃ (e1:Atom),q.Atoms[i.toNat]?=some e1∧(e1.Vars.length≤68719476736∧(x.length+1≤68719476736∧(Zi5 q Ze VariableCount1 (x++[e1]) (w (i+1))=some r))))) else (some (.agg [I VariableCount1,.own 0],[.arr 223 2 true (x.map Atom.c)])=some r))):Zi5 q Ze VariableCount1 x i=some r:=by
 unfold Zi5
 rw [EvL_eq Znc.eq_1]
 try simp only [itb] at h
 try simp only [itf,List.getElem?_eq_some_iff,kk] at h
 rcases h with ⟨q1,q2,e1,⟨g3,q3⟩,q4,q5,h⟩ | ⟨q1,h⟩
 all_goals (refine Eq.trans ?_ h;clear h;simp +decide [*,kk,Zi5,Znd])
theorem Zbi4 (a:Zb) (r:AV×List Blk) (h:(Zpq a 0 a.Ze 0=some r)):Zj6 a=some r:=by
 unfold Zj6
 refine run Zbe1 rfl ?_
 refine Eq.trans ?_ h;clear h;simp +decide [*,kk,Z2g,Zpq]
theorem Zbi5 (a:Box) (r:AV×List Blk) (h:(a.Low.length≤68719476736∧(a.High.length≤68719476736∧(some (.agg [.own 0,.own 1],[.arr 3 1 true (a.Low.map ic),.arr 3 1 true (a.High.map ic)])=some r)))):Zne a=some r:=by
 unfold Zne
 refine run Zbe2 rfl ?_
 rcases h with ⟨q1,q2,h⟩
 all_goals (refine Eq.trans ?_ h;clear h;simp +decide [*,kk,Z2h])
theorem Zbi6 (a:Region) (r:AV×List Blk) (h:(a.Plan.Steps.length≤68719476736∧(∃ (v1_0:List Int) (v1_1:List Int),Zne a.Box=some (.agg [.own 0,.own 1],[.arr 3 1 true (v1_0.map ic),.arr 3 1 true (v1_1.map ic)])∧(some (.agg [.own 0,.own 1,.own 2,I a.Percent],[.arr 142 3 true (a.Plan.Steps.map Zc.c),.arr 3 1 true (v1_0.map ic),.arr 3 1 true (v1_1.map ic)])=some r)))):Zj7 a=some r:=by
 unfold Zj7
 refine run Zbe3 rfl ?_
 simp only [Zne,Box.c_def,mpl,dfs] at h
 rcases h with ⟨q1,v1_0,v1_1,q2,h⟩
 all_goals (refine Eq.trans ?_ h;clear h;simp +decide [*,kk,Z2i])
theorem Z49 (a:Zf) (r:AV×List Blk) (h:((∃ (v1_0:Int),Zj6 a.Zb=some (.agg [I v1_0,.t .nil],[])∧(∃ (v2_0:List Zc) (v2_1:List Int) (v2_2:List Int) (v2_3:Int),Zj7 a.Region=some (.agg [.own 0,.own 1,.own 2,I v2_3],[.arr 142 3 true (v2_0.map Zc.c),.arr 3 1 true (v2_1.map ic),.arr 3 1 true (v2_2.map ic)])∧(some (.agg [I v1_0,.t .nil,.own 0,.own 1,.own 2,I v2_3,I a.Version,I a.Used],[.arr 142 3 true (v2_0.map Zc.c),.arr 3 1 true (v2_1.map ic),.arr 3 1 true (v2_2.map ic)])=some r)))∨(∃ (v3_0:List Atom) (v3_1:Int),Zj6 a.Zb=some (.agg [I v3_1,.own 0],[.arr 223 2 true (v3_0.map Atom.c)])∧(∃ (v4_0:List Zc) (v4_1:List Int) (v4_2:List Int) (v4_3:Int),Zj7 a.Region=some (.agg [.own 0,.own 1,.own 2,I v4_3],[.arr 142 3 true (v4_0.map Zc.c),.arr 3 1 true (v4_1.map ic),.arr 3 1 true (v4_2.map ic)])∧(some (.agg [I v3_1,.own 0,.own 1,.own 2,.own 3,I v4_3,I a.Version,I a.Used],[.arr 223 2 true (v3_0.map Atom.c),.arr 142 3 true (v4_0.map Zc.c),.arr 3 1 true (v4_1.map ic),.arr 3 1 true (v4_2.map ic)])=some r))))):Zeq a=some r:=by
 unfold Zeq
 refine run Zbe4 rfl ?_
 simp only [Zj6,Zj7,Box.c_def,Plan.c_def,Zb.c_def,Region.c_def,mpl,dfs] at h
 rcases h with ⟨v1_0,q2,v2_0,v2_1,v2_2,v2_3,q3,h⟩ | ⟨v3_0,v3_1,q4,v4_0,v4_1,v4_2,v4_3,q5,h⟩
 all_goals (refine Eq.trans ?_ h;clear h;simp +decide [*,kk,Z2j])
theorem Zbi7 (c:Zp) (Clock:Int) (Clock1:Int) (i:Int) (r:AV×List Blk) (h:(if i<(c.Entries.length:Int) then (0≤i∧(∃ (e1:Zf),c.Entries[i.toNat]?=some e1∧((∃ (v2_0:List Zc) (v2_1:List Int) (v2_2:List Int) (v2_3:Int) (v2_4:Int) (v2_5:Int) (v2_6:Int),Zeq e1=some (.agg [I v2_3,.t .nil,.own 0,.own 1,.own 2,I v2_4,I v2_5,I v2_6],[.arr 142 3 true (v2_0.map Zc.c),.arr 3 1 true (v2_1.map ic),.arr 3 1 true (v2_2.map ic)])∧(Zfs c Clock Clock1 ([(⟨(⟨v2_3,[]⟩:Zb),(⟨(⟨v2_0⟩:Plan),(⟨v2_1,v2_2⟩:Box),v2_4⟩:Region),v2_5,v2_6⟩:Zf)]) (w (i+1))=some r))∨(∃ (v3_0:List Atom) (v3_1:List Zc) (v3_2:List Int) (v3_3:List Int) (v3_4:Int) (v3_5:Int) (v3_6:Int) (v3_7:Int),Zeq e1=some (.agg [I v3_4,.own 0,.own 1,.own 2,.own 3,I v3_5,I v3_6,I v3_7],[.arr 223 2 true (v3_0.map Atom.c),.arr 142 3 true (v3_1.map Zc.c),.arr 3 1 true (v3_2.map ic),.arr 3 1 true (v3_3.map ic)])∧(Zfs c Clock Clock1 ([(⟨(⟨v3_4,v3_0⟩:Zb),(⟨(⟨v3_1⟩:Plan),(⟨v3_2,v3_3⟩:Box),v3_5⟩:Region),v3_6,v3_7⟩:Zf)]) (w (i+1))=some r))))) else (some (.agg [I Clock1,.t .nil],[])=some r))):Zpr c Clock Clock1 i=some r:=by
 unfold Zpr
 rw [EvL_eq Znf.eq_1]
 simp only [Zeq,Box.c_def,Zf.c_def,Plan.c_def,Zb.c_def,Region.c_def,mpl,dfs] at h
 try simp only [itb] at h
 try simp only [itf,List.getElem?_eq_some_iff,kk] at h
 rcases h with ⟨q1,q2,e1,⟨g3,q3⟩,(⟨v2_0,v2_1,v2_2,v2_3,v2_4,v2_5,v2_6,q5,h⟩ | ⟨v3_0,v3_1,v3_2,v3_3,v3_4,v3_5,v3_6,v3_7,q6,h⟩)⟩ | ⟨q1,h⟩
 all_goals (refine Eq.trans ?_ h;clear h;simp +decide [*,kk,Zfs,Zng])
theorem Z5a (c:Zp) (Clock:Int) (Clock1:Int) (x:List Zf) (i:Int) (r:AV×List Blk) (h:(if i<(c.Entries.length:Int) then (0≤i∧(∃ (e1:Zf),c.Entries[i.toNat]?=some e1∧((∃ (v2_0:List Zc) (v2_1:List Int) (v2_2:List Int) (v2_3:Int) (v2_4:Int) (v2_5:Int) (v2_6:Int),Zeq e1=some (.agg [I v2_3,.t .nil,.own 0,.own 1,.own 2,I v2_4,I v2_5,I v2_6],[.arr 142 3 true (v2_0.map Zc.c),.arr 3 1 true (v2_1.map ic),.arr 3 1 true (v2_2.map ic)])∧(x.length+1≤68719476736∧(Zfs c Clock Clock1 (x++[(⟨(⟨v2_3,[]⟩:Zb),(⟨(⟨v2_0⟩:Plan),(⟨v2_1,v2_2⟩:Box),v2_4⟩:Region),v2_5,v2_6⟩:Zf)]) (w (i+1))=some r)))∨(∃ (v3_0:List Atom) (v3_1:List Zc) (v3_2:List Int) (v3_3:List Int) (v3_4:Int) (v3_5:Int) (v3_6:Int) (v3_7:Int),Zeq e1=some (.agg [I v3_4,.own 0,.own 1,.own 2,.own 3,I v3_5,I v3_6,I v3_7],[.arr 223 2 true (v3_0.map Atom.c),.arr 142 3 true (v3_1.map Zc.c),.arr 3 1 true (v3_2.map ic),.arr 3 1 true (v3_3.map ic)])∧(x.length+1≤68719476736∧(Zfs c Clock Clock1 (x++[(⟨(⟨v3_4,v3_0⟩:Zb),(⟨(⟨v3_1⟩:Plan),(⟨v3_2,v3_3⟩:Box),v3_5⟩:Region),v3_6,v3_7⟩:Zf)]) (w (i+1))=some r)))))) else (some (.agg [I Clock1,.own 0],[.arr 114 8 true (x.map Zf.c)])=some r))):Zfs c Clock Clock1 x i=some r:=by
 unfold Zfs
 rw [EvL_eq Znf.eq_1]
 simp only [Zeq,Box.c_def,Zf.c_def,Plan.c_def,Zb.c_def,Region.c_def,mpl,dfs] at h
 try simp only [itb] at h
 try simp only [itf,List.getElem?_eq_some_iff,kk] at h
 rcases h with ⟨q1,q2,e1,⟨g3,q3⟩,(⟨v2_0,v2_1,v2_2,v2_3,v2_4,v2_5,v2_6,q5,q6,h⟩ | ⟨v3_0,v3_1,v3_2,v3_3,v3_4,v3_5,v3_6,v3_7,q7,q8,h⟩)⟩ | ⟨q1,h⟩
 all_goals (refine Eq.trans ?_ h;clear h;simp +decide [*,kk,Zfs,Zng])
theorem Zbi8 (a:Zp) (r:AV×List Blk) (h:(Zpr a 0 a.Clock 0=some r)):Zj8 a=some r:=by
 unfold Zj8
 refine run Zbe5 rfl ?_
 refine Eq.trans ?_ h;clear h;simp +decide [*,kk,Z2k,Zpr]
theorem Z5b (a:List Int) (b:List Int) (i:Int) (r:AV×List Blk) (h:(if i<(a.length:Int) then (if i<(b.length:Int) then (0≤i∧(∃ (e1:Int),a[i.toNat]?=some e1∧(∃ (e2:Int),b[i.toNat]?=some e2∧(if e1<e2 then (some (I (-1),[])=some r) else (if e2<e1 then (some (I 1,[])=some r) else (Zi6 a b (w (i+1))=some r)))))) else (Zj9 a b i false=some r)) else (Zj9 a b i false=some r))):Zi6 a b i=some r:=by
 unfold Zi6
 rw [EvL_eq Zuy.eq_1]
 try simp only [itb] at h
 try simp only [itf,List.getElem?_eq_some_iff,kk] at h
 rcases h with ⟨q1,(⟨q2,q3,e1,⟨g4,q4⟩,e2,⟨g5,q5⟩,(⟨q6,h⟩ | ⟨q6,(⟨q7,h⟩ | ⟨q7,h⟩)⟩)⟩ | ⟨q2,h⟩)⟩ | ⟨q1,h⟩
 all_goals (refine Eq.trans ?_ h;clear h;simp +decide [*,kk,Zi6,Zj9])
theorem Zbi9 (a:List Int) (b:List Int) (i:Int) (x:Bool) (r:AV×List Blk) (h:(if (a.length:Int)<(b.length:Int) then (some (I (-1),[])=some r) else (if (b.length:Int)<(a.length:Int) then (some (I 1,[])=some r) else (some (I 0,[])=some r)))):Zj9 a b i x=some r:=by
 unfold Zj9
 rw [Ev_eq Zps.eq_1]
 try simp only [itb] at h
 try simp only [itf,List.getElem?_eq_some_iff,kk] at h
 rcases h with ⟨q1,h⟩ | ⟨q1,(⟨q2,h⟩ | ⟨q2,h⟩)⟩
 all_goals (refine Eq.trans ?_ h;clear h;simp +decide [*,kk])
theorem Zbja (a:List Int) (a1:List Int) (r:AV×List Blk) (h:(Zi6 a a1 0=some r)):Znh a a1=some r:=by
 unfold Znh
 refine run Zbe6 rfl ?_
 refine Eq.trans ?_ h;clear h;simp +decide [*,kk,Z2l,Zi6]
theorem Z5c (a:Zb) (b:Zb) (i:Int) (r:AV×List Blk) (h:(if i<(a.Atoms.length:Int) then (0≤i∧(∃ (e1:Atom),a.Atoms[i.toNat]?=some e1∧(∃ (e2:Atom),b.Atoms[i.toNat]?=some e2∧(if e1.Name=e2.Name then (∃ (v3_0:Int),Znh e1.Vars e2.Vars=some (I v3_0,[])∧(if v3_0=0 then (Zi7 a b (w (i+1))=some r) else (some (Bo false,[])=some r))) else (some (Bo false,[])=some r))))) else (some (Bo true,[])=some r))):Zi7 a b i=some r:=by
 unfold Zi7
 rw [EvL_eq Zuz.eq_1]
 simp only [Znh,mpl,dfs] at h
 try simp only [itb] at h
 try simp only [itf,List.getElem?_eq_some_iff,kk] at h
 rcases h with ⟨q1,q2,e1,⟨g3,q3⟩,e2,⟨g4,q4⟩,(⟨q5,v3_0,q6,(⟨q7,h⟩ | ⟨q7,h⟩)⟩ | ⟨q5,h⟩)⟩ | ⟨q1,h⟩
 all_goals (refine Eq.trans ?_ h;clear h;simp +decide [*,kk,Zi7,Zu0])
theorem Zbjb (a:Zb) (a1:Zb) (r:AV×List Blk) (h:(if a.Ze=a1.Ze then (if (a.Atoms.length:Int)=(a1.Atoms.length:Int) then (Zi7 a a1 0=some r) else (some (Bo false,[])=some r)) else (some (Bo false,[])=some r))):Zni a a1=some r:=by
 unfold Zni
 refine run Zbe7 rfl ?_
 try simp only [itb] at h
 try simp only [itf,List.getElem?_eq_some_iff,kk] at h
 rcases h with ⟨q1,(⟨q2,h⟩ | ⟨q2,h⟩)⟩ | ⟨q1,h⟩
 all_goals (refine Eq.trans ?_ h;clear h;simp +decide [*,kk,Z2m,Zi7])
theorem Z5d (c:Zp) (q:Zb) (version:Int) (l:List Int) (i:Int) (r:AV×List Blk) (h:(if i<(c.Entries.length:Int) then (0≤i∧(∃ (e1:Zf),c.Entries[i.toNat]?=some e1∧(if e1.Version=version then (∃ (v2_0:Bool),Zni e1.Zb q=some (Bo v2_0,[])∧(if v2_0=true then (∃ (v3_0:Bool),Zm1 e1.Region.Box l=some (Bo v3_0,[])∧(if v3_0=true then (some (I i,[])=some r) else (Zft c q version l (w (i+1))=some r))) else (Zft c q version l (w (i+1))=some r))) else (Zft c q version l (w (i+1))=some r)))) else (some (I (-1),[])=some r))):Zft c q version l i=some r:=by
 unfold Zft
 rw [EvL_eq Zu1.eq_1]
 simp only [Zni,Zm1,Box.c_def,Zb.c_def,mpl,dfs] at h
 try simp only [itb] at h
 try simp only [itf,List.getElem?_eq_some_iff,kk] at h
 rcases h with ⟨q1,q2,e1,⟨g3,q3⟩,(⟨q4,v2_0,q5,(⟨q6,v3_0,q7,(⟨q8,h⟩ | ⟨q8,h⟩)⟩ | ⟨q6,h⟩)⟩ | ⟨q4,h⟩)⟩ | ⟨q1,h⟩
 all_goals (refine Eq.trans ?_ h;clear h;simp +decide [*,kk,Zft,Zu2])
theorem Zbjc (a:Zp) (a1:Zb) (a2:Int) (a3:List Int) (r:AV×List Blk) (h:(Zft a a1 a2 a3 0=some r)):Zka a a1 a2 a3=some r:=by
 unfold Zka
 refine run Zbe8 rfl ?_
 refine Eq.trans ?_ h;clear h;simp +decide [*,kk,Z2n,Zft]
end Go.Proofs.YtbapkgocloaaeaaGreat
/- part: G17 -/
namespace Go.Proofs.YtbapkgocloaaeaaGreat
open Go.AM
theorem Zve (a:Zd) (a1:Zp) (a2:Zb) (a3:Int) (a4:List Int) (r:AV×List Blk) (h:((∃ (v1_0:Int),Zj8 a1=some (.agg [I v1_0,.t .nil],[])∧(∃ (v2_0:Int),Zka a1 a2 a3 a4=some (I v2_0,[])∧(∃ (v3_0:Bool),Zj3 a a1=some (Bo v3_0,[])∧(if v3_0=true then (if v2_0<0 then (some (.tup [.agg [I v1_0,.t .nil],.agg [.t .nil],Bo false],[])=some r) else (if a1.Clock=1000000 then (some (.tup [.agg [I v1_0,.t .nil],.agg [.t .nil],Bo false],[])=some r) else False)) else (some (.tup [.agg [I v1_0,.t .nil],.agg [.t .nil],Bo false],[])=some r)))))∨(∃ (v4_0:List Zf) (v4_1:Int),Zj8 a1=some (.agg [I v4_1,.own 0],[.arr 114 8 true (v4_0.map Zf.c)])∧(∃ (v5_0:Int),Zka a1 a2 a3 a4=some (I v5_0,[])∧(∃ (v6_0:Bool),Zj3 a a1=some (Bo v6_0,[])∧(if v6_0=true then (if v5_0<0 then (some (.tup [.agg [I v4_1,.own 0],.agg [.t .nil],Bo false],[.arr 114 8 true (v4_0.map Zf.c)])=some r) else (if a1.Clock=1000000 then (some (.tup [.agg [I v4_1,.own 0],.agg [.t .nil],Bo false],[.arr 114 8 true (v4_0.map Zf.c)])=some r) else (0≤v5_0∧(∃ (e7:Zf),v4_0[v5_0.toNat]?=some e7∧(∃ (e8:Zf),a1.Entries[v5_0.toNat]?=some e8∧(e8.Region.Plan.Steps.length≤68719476736∧(some (.tup [.agg [I (w (v4_1+1)),.own 0],.agg [.own 1],Bo true],[.arr 114 8 true ((v4_0.set v5_0.toNat (⟨e7.Zb,e7.Region,e7.Version,(w (v4_1+1))⟩:Zf)).map Zf.c),.arr 142 3 true (e8.Region.Plan.Steps.map Zc.c)])=some r))))))) else (some (.tup [.agg [I v4_1,.own 0],.agg [.t .nil],Bo false],[.arr 114 8 true (v4_0.map Zf.c)])=some r))))))):Zi8 a a1 a2 a3 a4=some r:=by
 unfold Zi8
 refine run Zbe9 rfl ?_
 simp only [Zj8,Zka,Zj3,Zd.c_def,Zi.c_def,Zp.c_def,Zb.c_def,mpl,dfs] at h
 try simp only [itb] at h
 try simp only [itf,List.getElem?_eq_some_iff,kk] at h
 rcases h with ⟨v1_0,q2,v2_0,q3,v3_0,q4,(⟨q5,(⟨q6,h⟩ | ⟨q6,(⟨q7,h⟩ | ⟨q7,⟨⟩⟩)⟩)⟩ | ⟨q5,h⟩)⟩ | ⟨v4_0,v4_1,q8,v5_0,q9,v6_0,q10,(⟨q11,(⟨q12,h⟩ | ⟨q12,(⟨q13,h⟩ | ⟨q13,q14,e7,⟨g15,q15⟩,e8,⟨g16,q16⟩,q17,h⟩)⟩)⟩ | ⟨q11,h⟩)⟩
 all_goals (refine Eq.trans ?_ h;clear h;simp +decide [*,kk,Z2o])
end Go.Proofs.YtbapkgocloaaeaaGreat
/- part: V1 -/
namespace Go.Proofs.YtbapkgocloaaeaaGreat
open Go.AM
@[simp] theorem Zcs (a b c:Int):Zy a b c=some (Bo (inR a b c),[]):=by
 refine Zbfa _ _ _ _ ?_
 by_cases h:b≤a <;> simp [inR,h]
@[simp] theorem Zd8 (a b c:Int):Z1 a b c=some (Bo (inR a b c),[]):=by
 refine Zbgv _ _ _ _ ?_
 by_cases h:b≤a <;> simp [inR,h]
theorem lIndexI (xs:List Int) (v:Int) (hx:Le xs):∀ i,i≤xs.length →
  Zhp xs v xs.length i=some (I (Zbi (fun x=>decide (v=x)) (xs.drop i) i),[]):=by
 refine down _ ?_ ?_
 ·refine Z2r _ _ _ _ _ ?_
  simp [Zbi]
 ·intro i hi ih
  refine Z2r _ _ _ _ _ ?_
  have h4:=inc64 (i:=i) (by omega)
  rw [Zog _ hi]
  simp at ih
  by_cases e:v=xs[i] <;> simp [hi,h4,e,ih]
@[simp] theorem xIndexI (xs:List Int) (v:Int) (hx:Le xs):Zk3 xs v=some (I (Zbi (fun x=>decide (v=x)) xs 0),[]):=by
 refine Zbfc _ _ _ ?_
 have:=lIndexI xs v hx 0 (Nat.zero_le _)
 simpa using this
@[simp] theorem Znk (xs:List Int) (v:Int) (hx:Le xs):Zde xs v=some (Bo (has xs v),[]):=by
 refine Zbfd _ _ _ ?_
 unfold has
 rcases tf (xs.any (fun x=>decide (v=x))) with e | e
 ·simp [hx,Zxh _ _ _ e,e]
 ·have:=Zxi _ _ 0 e
  simp [hx,this,e]
theorem lIndexB (xs:List Bool) (v:Bool) (hx:Le xs):∀ i,i≤xs.length →
  Zhq xs v xs.length i=some (I (Zbi (fun x=>v == x) (xs.drop i) i),[]):=by
 refine down _ ?_ ?_
 ·refine Z2s _ _ _ _ _ ?_
  simp [Zbi]
 ·intro i hi ih
  refine Z2s _ _ _ _ _ ?_
  have h4:=inc64 (i:=i) (by omega)
  rw [Zog _ hi]
  simp at ih
  by_cases e:v=xs[i] <;> simp [hi,h4,e,ih]
@[simp] theorem Zbjd (xs:List Bool) (v:Bool) (hx:Le xs):Zk5 xs v=some (Bo (xs.any (fun x=>v == x)),[]):=by
 refine Zbff _ _ _ ?_
 have q:Zk4 xs v=some (I (Zbi (fun x=>v == x) xs 0),[]):=by
  refine Zbfe _ _ _ ?_
  have:=lIndexB xs v hx 0 (Nat.zero_le _)
  simpa using this
 rcases tf (xs.any (fun x=>v == x)) with e | e
 ·rw [Zxh _ _ _ e] at q
  rw [e];simp [q]
 ·have:=Zxi _ _ 0 e
  rw [e];simp [q,this]
theorem l_l7Has (xs:List Int) (v:Int) (hx:Le xs):∀ i,i≤xs.length→Zib xs v i=some (Bo (has (xs.drop i) v),[]):=by
 unfold has
 refine down _ ?_ ?_
 ·refine Z36 _ _ _ _ ?_
  simp
 ·intro i hi ih
  refine Z36 _ _ _ _ ?_
  have h4:=inc64 (i:=i) (by omega)
  rw [drop_any _ hi]
  simp at ih
  by_cases e:v=xs[i]
  ·simp [hi,h4,← e]
  ·have e':¬ xs[i]=v:=fun hc=>e hc.symm
   simp [hi,h4,e,e',ih]
@[simp] theorem Z5e (xs:List Int) (v:Int) (hx:Le xs):Zia xs v=some (Bo (has xs v),[]):=by
 refine Zbg7 _ _ _ ?_
 have:=l_l7Has xs v hx 0 (Nat.zero_le _)
 simpa using this
theorem nm_aux (s:ByteArray) (P:Prop):(if (s.size:Int)=1 then (∃ (b1:UInt8),s[0]?=some b1∧(if 97≤(b1.toNat:Int) then (some (Bo (decide ((b1.toNat:Int)≤122)),[])=some (Bo (nmOk s),([]:List Blk))) else (some (Bo false,[])=some (Bo (nmOk s),([]:List Blk))))) else (some (Bo false,[])=some (Bo (nmOk s),([]:List Blk)))):=by
 by_cases h:s.size=1
 ·obtain ⟨b,hb⟩:=get0 h
  rw [if_pos (by omega)]
  refine ⟨b,hb,?_⟩
  have e:nmOk s=(decide (97≤(b.toNat:Int)) && decide ((b.toNat:Int)≤122)):=by
   unfold nmOk;rw [hb];simp only [h,decide_true,Bool.true_and]
  by_cases h1:(97:Int)≤(b.toNat:Int)
  ·rw [if_pos h1,e,decide_eq_true h1,Bool.true_and]
  ·rw [if_neg h1,e,decide_eq_false h1,Bool.false_and]
 ·have h':¬ (s.size:Int)=1:=by omega
  have:nmOk s=false:=by unfold nmOk;split <;> simp [h]
  simp [h',this]
@[simp] theorem x_nameOk (s:ByteArray):Zk2 s=some (Bo (nmOk s),[]):=Zbfb _ _ (nm_aux s True)
@[simp] theorem x_l4Name (s:ByteArray):Zl1 s=some (Bo (nmOk s),[]):=Zbg6 _ _ (nm_aux s True)
def LeQ (q:Zb):Prop:=Le q.Atoms∧∀ a∈q.Atoms,Le a.Vars
def blB (p:Nat→Bool) (n:Nat):List Bool:=(List.range n).map p
theorem blB_set (p:Nat→Bool) (n:Nat) {v:Int} (h:inR v 0 ((n:Int) - 1)=true):(blB p n).set v.toNat true=blB (addV p [v]) n:=by
 simp [inR] at h
 apply List.ext_getElem
 ·simp [blB]
 ·intro i h1 h2
  simp only [blB,List.length_set,List.length_map,List.length_range] at h1
  rw [List.getElem_set]
  simp only [blB,List.getElem_map,List.getElem_range]
  by_cases e:v.toNat=i
  ·have:(i:Int)=v:=by omega
   simp [e,addV,has,this]
  ·have:¬ (i:Int)=v:=by omega
   simp [e,addV,has,this]
theorem Zbje (q:Zb) (n:Nat) (hn:n≤4) (hq:q.Ze=n) (a:Atom) (qa:List Atom) (l j:Int) (hv:Le a.Vars) (r:AV×List Blk):∀ k,k≤a.Vars.length→∀ p,
  (if Zc6 n (a.Vars.take k) (a.Vars.drop k)=true then Zf2 q (blB (addV p (a.Vars.drop k)) n) qa l (w (j+1))=some r else some (Bo false,[])=some r) →
  Zhr q (blB p n) a qa l j a.Vars a.Vars.length k=some r:=by
 refine down _ ?_ ?_
 ·intro p h
  refine Z2u _ _ _ _ _ _ _ _ _ _ ?_
  simpa [Zc6,Zq4] using h
 ·intro k hk ih p h
  have h4:=inc64 (i:=k) (by omega)
  have hw:w (q.Ze - 1)=(n:Int) - 1:=by rw [hq];exact wrap64 (by omega) (by omega)
  have hl:=Znk (a.Vars.take k) a.Vars[k] (by simp;omega)
  refine Z2u _ _ _ _ _ _ _ _ _ _ ?_
  rw [Zxj _ hk] at h
  rcases tf (inR a.Vars[k] 0 ((n:Int) - 1)) with e1 | e1
  ·simp [e1] at h
   simp [hk,h4,hw,e1,← h]
  ·rcases tf (has (a.Vars.take k) a.Vars[k]) with e2 | e2
   ·rw [Zq5 p hk] at h
    simp only [e1,e2,Bool.true_and,Bool.not_false] at h
    have ih:=ih _ h
    have e0:=e1
    simp [inR] at e0
    have e5:(a.Vars[k]).toNat<(blB p n).length:=by simp [blB];omega
    have e6:=blB_set p n e1
    have e7:k≤a.Vars.length:=by omega
    simp at ih
    simp [hk,h4,hw,e1,e2,hl,e0,e5,e6,e7,ih]
   ·simp [e1,e2] at h
    have e7:k≤a.Vars.length:=by omega
    simp [hk,h4,hw,e1,e2,hl,e7,← h]
theorem Zbjf (q:Zb) (n:Nat) (hn:n≤4) (hq:q.Ze=n) (qa:List Atom) (hl:Le qa) (hv:∀ a∈qa,Le a.Vars):∀ k,k≤qa.length→∀ p,
  Zf2 q (blB p n) qa qa.length k=some (Bo ((qa.drop k).all (Zbx n) && (List.range n).all (addA p (qa.drop k))),[]):=by
 refine down _ ?_ ?_
 ·intro p
  refine Z2t _ _ _ _ _ _ ?_
  have e:addA p []=p:=by funext u;simp [addA]
  have q1:=Zbjd (blB p n) false (by simp [blB];omega)
  have q2:(blB p n).any (fun x=>false == x)=!(List.range n).all p:=bl_any p n
  rw [q2] at q1
  simp [q1,e]
 ·intro k hk ih p
  refine Z2t _ _ _ _ _ _ ?_
  have h4:=inc64 (i:=k) (by omega)
  rw [Zkw _ hk]
  rcases tf (nmOk qa[k].Name) with e1 | e1
  ·simp [hk,e1,Zbx]
  rcases tf (inR qa[k].Vars.length 1 3) with e2 | e2
  ·simp [hk,e1,e2,Zbx]
  have b:=Zbje q n hn hq qa[k] qa qa.length k (hv _ (List.getElem_mem hk)) (Bo (Zbx n qa[k] && (qa.drop (k+1)).all (Zbx n) && (List.range n).all (addA p (qa.drop k))),[]) 0 (Nat.zero_le _) p ?_
  ·simp at b
   simp [hk,e1,e2,b]
  ·simp only [List.take_zero,List.drop_zero,Zbx,e1,e2,Bool.true_and]
   rcases tf (Zc6 n [] qa[k].Vars) with e3 | e3
   ·simp [e3]
   ·have ih:=ih (addV p qa[k].Vars)
    simp only [e3,if_true,Bool.true_and,Zxk p hk]
    simp at ih
    rw [show w ((k:Int)+1)=(k:Int)+1 from h4,ih]
@[simp] theorem Znl (q:Zb) (h:LeQ q):Zc7 q=some (Bo (Zn q.Ze q.Atoms),[]):=by
 refine Zbfg _ _ ?_
 unfold Zn
 rcases tf (inR q.Ze 1 4) with e1 | e1
 ·simp [e1]
 rcases tf (inR q.Atoms.length 1 4) with e2 | e2
 ·simp [e1,e2]
 have e0:=e1
 simp [inR] at e0
 have hn:q.Ze=(q.Ze.toNat:Int):=by omega
 have b:=Zbjf q q.Ze.toNat (by omega) hn q.Atoms h.1 h.2 0 (Nat.zero_le _) (fun _=>false)
 have r1:q.Ze.toNat≤room:=room2 (by omega)
 have r2:q.Ze≤room:=by
  have:(q.Ze.toNat:Int)≤room:=by exact_mod_cast r1
  omega
 have r3:q.Ze≤140737488355328:=by omega
 have ez:blB (fun _=>false) q.Ze.toNat=List.replicate q.Ze.toNat false:=by
  apply List.ext_getElem <;> simp [blB]
 rw [ez,← hn] at b
 simp at b
 simp [e1,e2,e0,r1,r2,r3,b]
 omega
theorem Zbjg (q:Zb) (n:Nat) (hn1:1≤n) (hn:n≤4) (hq:q.Ze=n) (a:Atom) (j:Int) (hv:Le a.Vars) (r:AV×List Blk):∀ k,k≤a.Vars.length→∀ p,
  (if Zc6 n (a.Vars.take k) (a.Vars.drop k)=true then Zgr q (Z0 (addV p (a.Vars.drop k))) (w (j+1))=some r else some (Bo false,[])=some r) →
  Zic q a (Z0 p) j k=some r:=by
 refine down _ ?_ ?_
 ·intro p h
  refine Z38 _ _ _ _ _ _ ?_
  simpa [Zc6,Zq4] using h
 ·intro k hk ih p h
  have h4:=inc64 (i:=k) (by omega)
  have hw:w (q.Ze - 1)=(n:Int) - 1:=by rw [hq];exact wrap64 (by omega) (by omega)
  have hl:=Z5e (a.Vars.take k) a.Vars[k] (by simp;omega)
  have e7:k≤a.Vars.length:=by omega
  refine Z38 _ _ _ _ _ _ ?_
  rw [Zxj _ hk] at h
  rcases tf (inR a.Vars[k] 0 ((n:Int) - 1)) with e1 | e1
  ·simp [e1] at h
   simp [hk,h4,hw,e1,← h]
  ·rcases tf (has (a.Vars.take k) a.Vars[k]) with e2 | e2
   ·rw [Zq5 p hk] at h
    simp only [e1,e2,Bool.true_and,Bool.not_false] at h
    have ih:=ih _ h
    have e0:=e1
    simp [inR] at e0
    have e6:=Zof p (v:=a.Vars[k]) (by simp [inR];omega)
    have e8:¬ a.Vars[k]<0:=by omega
    simp at ih
    simp [hk,h4,hw,e1,e2,hl,e0,e6,e7,e8,ih]
   ·simp [e1,e2] at h
    simp [hk,h4,hw,e1,e2,hl,e7,← h]
end Go.Proofs.YtbapkgocloaaeaaGreat
/- part: V2 -/
namespace Go.Proofs.YtbapkgocloaaeaaGreat
open Go.AM
def Znm (n:Int) (p:Nat→Bool):Bool:=decide (Z0 p=w (shlI 1 n - 1))
theorem Zbjh (q:Zb) (n:Nat) (hn1:1≤n) (hn:n≤4) (hq:q.Ze=n) (hl:Le q.Atoms) (hv:∀ a∈q.Atoms,Le a.Vars):∀ k,k≤q.Atoms.length→∀ p,
  Zgr q (Z0 p) k=some (Bo ((q.Atoms.drop k).all (Zbx n) && Znm n (addA p (q.Atoms.drop k))),[]):=by
 refine down _ ?_ ?_
 ·intro p
  refine Z37 _ _ _ _ ?_
  have e:addA p []=p:=by funext u;simp [addA]
  have h0:¬ (n:Int)<0:=by omega
  simp [e,hq,h0,Znm]
 ·intro k hk ih p
  refine Z37 _ _ _ _ ?_
  have h4:=inc64 (i:=k) (by omega)
  rw [Zkw _ hk]
  rcases tf (nmOk q.Atoms[k].Name) with e1 | e1
  ·simp [hk,e1,Zbx]
  rcases tf (inR q.Atoms[k].Vars.length 1 3) with e2 | e2
  ·simp [hk,e1,e2,Zbx]
  have b:=Zbjg q n hn1 hn hq q.Atoms[k] k (hv _ (List.getElem_mem hk)) (Bo (Zbx n q.Atoms[k] && (q.Atoms.drop (k+1)).all (Zbx n) && Znm n (addA p (q.Atoms.drop k))),[]) 0 (Nat.zero_le _) p ?_
  ·simp at b
   simp [hk,e1,e2,b]
  ·simp only [List.take_zero,List.drop_zero,Zbx,e1,e2,Bool.true_and]
   rcases tf (Zc6 n [] q.Atoms[k].Vars) with e3 | e3
   ·simp [e3]
   ·have ih:=ih (addV p q.Atoms[k].Vars)
    simp only [e3,if_true,Bool.true_and,Zxk p hk]
    simp at ih
    rw [show w ((k:Int)+1)=(k:Int)+1 from h4,ih]
@[simp] theorem Zpx (q:Zb) (h:LeQ q):Zd1 q=some (Bo (Zn q.Ze q.Atoms),[]):=by
 refine Zbg8 _ _ ?_
 unfold Zn
 rcases tf (inR q.Ze 1 4) with e1 | e1
 ·simp [e1]
 rcases tf (inR q.Atoms.length 1 4) with e2 | e2
 ·simp [e1,e2]
 have e0:=e1
 simp [inR] at e0
 obtain ⟨k,hk⟩:∃ k:Nat,q.Ze=k:=⟨q.Ze.toNat,by omega⟩
 have b:=Zbjh q k (by omega) (by omega) hk h.1 h.2 0 (Nat.zero_le _) (fun _=>false)
 have ez:Z0 (fun _=>false)=0:=rfl
 rw [ez] at b
 simp only [List.drop_zero,Int.ofNat_zero] at b
 have e3:(q.Atoms.all (Zbx k) && Znm k (addA (fun _=>false) q.Atoms))=(q.Atoms.all (Zbx k) && (List.range k).all (addA (fun _=>false) q.Atoms)):=by
  rcases tf (q.Atoms.all (Zbx k)) with e3 | e3
  ·simp [e3]
  ·have hk':k=1∨k=2∨k=3∨k=4:=by omega
   have hz:=all_in e3
   have hz':∀ u:Nat,k≤u→addA (fun _=>false) q.Atoms u=false:=fun u hu=>by simp only [addA,Bool.false_or];exact hz u (by omega)
   rw [e3,Bool.true_and,Bool.true_and,Bool.eq_iff_iff,Znm,decide_eq_true_eq,Z0]
   rcases hk' with rfl | rfl | rfl | rfl
   ·simp [shlI,wrap64,Zoh,hz' 1 (by omega),hz' 2 (by omega),hz' 3 (by omega),List.range_succ]
   ·simp [shlI,wrap64,Zoh,hz' 2 (by omega),hz' 3 (by omega),List.range_succ]
   ·simp [shlI,wrap64,Zoh,hz' 3 (by omega),List.range_succ,and_assoc]
   ·simp [shlI,wrap64,Zoh,List.range_succ,and_assoc]
 rw [e3] at b
 rw [hk] at e1
 simp only [Zd8,Option.some.injEq,Prod.mk.injEq,AV.t.injEq,T.bool.injEq,and_true,exists_eq_left',e1,e2,if_true,b,hk,Int.toNat_natCast]
 simp
@[simp] theorem Zg8 (q:Zb) (h:LeQ q):Zb6 q=some (I (Zw q.Ze q.Atoms),[]):=by
 refine Zbfk _ _ ?_
 have q1:=Znl q h
 unfold Zw
 rcases tf (Zn q.Ze q.Atoms) with e | e
 ·simp [q1,e]
 ·have:=(Zhj e).2.2.1
  have h0:¬ ((q.Atoms.length:Int)<0):=by omega
  simp [q1,e,this,h0]
@[simp] theorem Znn (q:Zb) (h:LeQ q):Zc8 q=some (I (Zw q.Ze q.Atoms),[]):=by
 refine Zbg9 _ _ ?_
 have q1:=Zpx q h
 unfold Zw
 rcases tf (Zn q.Ze q.Atoms) with e | e
 ·simp [q1,e]
 ·have:=(Zhj e).2.2.1
  have h0:¬ ((q.Atoms.length:Int)<0):=by omega
  simp [q1,e,this,h0]
theorem Zbji (xs:List Int) (hx:Le xs):∀ i,i≤xs.length→Zig xs i=some (Bo (Zbp (xs.drop i) && decide ((xs.length:Int)≤16)),[]):=by
 refine down _ ?_ ?_
 ·refine Z4c _ _ _ ?_
  simp [Zbp]
 ·intro i hi ih
  refine Z4c _ _ _ ?_
  have h4:=inc64 (i:=i) (by omega)
  rw [Zxe hi]
  simp at ih
  rcases tf (inR xs[i] 0 7) with h | h <;> simp [hi,h4,h,ih]
@[simp] theorem Zpy (xs:List Int) (hx:Le xs):Zgt xs=some (Bo (Zba xs),[]):=by
 refine Zbhf _ _ ?_
 have:=Zbji xs hx 0 (Nat.zero_le _)
 simpa [Zba] using this
theorem Zbjj (xs:List Int) (hx:Le xs):∀ i,i≤xs.length→Zhs xs xs xs.length i=some (Bo (Zbp (xs.drop i) && decide ((xs.length:Int)≤16)),[]):=by
 refine down _ ?_ ?_
 ·refine Z2v _ _ _ _ _ ?_
  simp [Zbp]
 ·intro i hi ih
  refine Z2v _ _ _ _ _ ?_
  have h4:=inc64 (i:=i) (by omega)
  rw [Zxe hi]
  simp at ih
  rcases tf (inR xs[i] 0 7) with h | h <;> simp [hi,h4,h,ih]
@[simp] theorem Zpz (xs:List Int) (hx:Le xs):Zf3 xs=some (Bo (Zba xs),[]):=by
 refine Zbfh _ _ ?_
 have:=Zbjj xs hx 0 (Nat.zero_le _)
 simpa [Zba] using this
theorem Zbjk (xs ys:List Int) (hx:Le xs) (hl:ys.length=xs.length):∀ i,i≤xs.length→Zih xs ys i=some (Bo (Z3 (xs.drop i) (ys.drop i)),[]):=by
 refine down _ ?_ ?_
 ·refine Z4d _ _ _ _ ?_
  simp [Z3]
 ·intro i hi ih
  refine Z4d _ _ _ _ ?_
  have hi2:i<ys.length:=by omega
  have h4:=inc64 (i:=i) (by omega)
  rw [Zxf hi hi2]
  simp at ih
  by_cases h:xs[i]<ys[i]
  ·simp [hi,hi2,h4,h,show ¬ ys[i]≤xs[i] by omega]
  ·simp [hi,hi2,h4,h,show ys[i]≤xs[i] by omega,ih]
@[simp] theorem Zvf (xs ys:List Int) (hx:Le xs):Zgu xs ys=some (Bo (dom xs ys),[]):=by
 refine Zbhg _ _ _ ?_
 by_cases hl:ys.length=xs.length
 ·have:=Zbjk xs ys hx hl 0 (Nat.zero_le _)
  simp at this
  simp [hl,this,dom]
 ·have h2:¬ ((xs.length:Int)=ys.length):=by omega
  have h1:¬ (xs.length=ys.length):=by omega
  simp [h1,h2,dom]
theorem Zbjl (xs ys:List Int) (hx:Le xs) (hl:ys.length=xs.length):∀ i,i≤xs.length→Zht xs ys xs.length i=some (Bo (Z3 (xs.drop i) (ys.drop i)),[]):=by
 refine down _ ?_ ?_
 ·refine Z2w _ _ _ _ _ ?_
  simp [Z3]
 ·intro i hi ih
  refine Z2w _ _ _ _ _ ?_
  have hi2:i<ys.length:=by omega
  have h4:=inc64 (i:=i) (by omega)
  rw [Zxf hi hi2]
  simp at ih
  by_cases h:xs[i]<ys[i]
  ·simp [hi,hi2,h4,h,show ¬ ys[i]≤xs[i] by omega]
  ·simp [hi,hi2,h4,h,show ys[i]≤xs[i] by omega,ih]
@[simp] theorem Zvg (xs ys:List Int) (hx:Le xs):Zf4 xs ys=some (Bo (dom xs ys),[]):=by
 refine Zbfi _ _ _ ?_
 by_cases hl:ys.length=xs.length
 ·have:=Zbjl xs ys hx hl 0 (Nat.zero_le _)
  simp at this
  simp [hl,this,dom]
 ·have h2:¬ ((xs.length:Int)=ys.length):=by omega
  have h1:¬ (xs.length=ys.length):=by omega
  simp [h1,h2,dom]
def LeX (b:Box):Prop:=Le b.Low∧Le b.High
@[simp] theorem Zvh (b:Box) (h:LeX b):Zey b=some (Bo (Zbg b.Low b.High),[]):=by
 refine Zbfj _ _ ?_
 have q1:=Zpz b.Low h.1
 have q2:=Zpz b.High h.2
 have q3:=Zvg b.High b.Low h.2
 unfold Zbg
 rcases tf (Zba b.Low) with e1 | e1 <;> rcases tf (Zba b.High) with e2 | e2 <;> by_cases e3:0<b.Low.length <;> simp [q1,q2,q3,e1,e2,e3]
@[simp] theorem Zvi (b:Box) (h:LeX b):Zfl b=some (Bo (Zbg b.Low b.High),[]):=by
 refine Zbhh _ _ ?_
 have q1:=Zpy b.Low h.1
 have q2:=Zpy b.High h.2
 have q3:=Zvf b.High b.Low h.2
 unfold Zbg
 rcases tf (Zba b.Low) with e1 | e1 <;> rcases tf (Zba b.High) with e2 | e2 <;> by_cases e3:0<b.Low.length <;> simp [q1,q2,q3,e1,e2,e3]
theorem l_volume (b:Box) (hv:Zbg b.Low b.High=true):∀ i,i≤b.Low.length→∀ n:Int,1≤n→n≤8 ^ i →
  Zit b n b.Low.length i=some (I (n*vol (b.Low.drop i) (b.High.drop i)),[]):=by
 obtain ⟨b1,b2,b3,b4⟩:=Zxs hv
 refine down _ ?_ ?_
 ·intro n _ _
  refine Z4v _ _ _ _ _ ?_
  rw [List.drop_length,← b1,List.drop_length,Zxp]
  simp
 ·intro i hi0 ih n hn1 hn2
  refine Z4v _ _ _ _ _ ?_
  have h5:=inc64 (i:=i) (by omega)
  have hi2:i<b.High.length:=by omega
  obtain ⟨g1,g2,g3⟩:=b4 i hi0 hi2
  have p1:=pow8 (i:=i+1) (by omega)
  have p2:(8:Int) ^ (i+1)=8 ^ i*8:=Int.pow_succ 8 i
  have hd:(b.High[i] - b.Low[i]+1)≤8:=by omega
  have hd1:1≤(b.High[i] - b.Low[i]+1):=by omega
  have m1:n*(b.High[i] - b.Low[i]+1)≤8 ^ i*8:=Int.mul_le_mul hn2 hd (by omega) (by omega)
  have m2:1≤n*(b.High[i] - b.Low[i]+1):=by
   have:=Int.mul_le_mul hn1 hd1 (by omega) (by omega)
   omega
  have w1:IntKind.wrap .i64 (b.High[i] - b.Low[i])=b.High[i] - b.Low[i]:=wrap64 (by omega) (by omega)
  have w2:IntKind.wrap .i64 (b.High[i] - b.Low[i]+1)=b.High[i] - b.Low[i]+1:=wrap64 (by omega) (by omega)
  have w3:IntKind.wrap .i64 (n*(b.High[i] - b.Low[i]+1))=n*(b.High[i] - b.Low[i]+1):=wrap64 (by omega) (by omega)
  have ih:=ih (n*(b.High[i] - b.Low[i]+1)) m2 (by omega)
  rw [Zxq hi0 hi2,← Int.mul_assoc]
  simp at ih
  simp [hi0,hi2,h5,w1,w2,w3,ih]
@[simp] theorem Zbqi (b:Box) (h:LeX b):Zul b=some (I (Zjm b.Low b.High),[]):=by
 refine Zbif _ _ ?_
 have q1:=Zvh b h
 unfold Zjm
 rcases tf (Zbg b.Low b.High) with e | e
 ·simp [q1,e]
 ·have q2:=l_volume b e 0 (Nat.zero_le _) 1 (by omega) (by decide)
  have q3:Zmv b=some (I (vol b.Low b.High),[]):=Zbie _ _ (by simpa using q2)
  simp [q1,q3,e,capV]
theorem Zbjm (b:Box) (hv:Zbg b.Low b.High=true):∀ i,i≤b.Low.length→∀ n:Int,1≤n →
  Ziu b (capV n) i=some (I (capV (n*vol (b.Low.drop i) (b.High.drop i))),[]):=by
 obtain ⟨b1,b2,b3,b4⟩:=Zxs hv
 refine down _ ?_ ?_
 ·intro n _
  refine Z4w _ _ _ _ ?_
  rw [List.drop_length,← b1,List.drop_length,Zxp]
  simp [b1]
 ·intro i hi0 ih n hn1
  refine Z4w _ _ _ _ ?_
  have h5:=inc64 (i:=i) (by omega)
  have hi2:i<b.High.length:=by omega
  obtain ⟨g1,g2,g3⟩:=b4 i hi0 hi2
  have hd:(b.High[i] - b.Low[i]+1)≤8:=by omega
  have hd1:1≤(b.High[i] - b.Low[i]+1):=by omega
  obtain ⟨c1,c2⟩:=cap_le hn1
  have m1:capV n*(b.High[i] - b.Low[i]+1)≤401*8:=Int.mul_le_mul c2 hd (by omega) (by omega)
  have m2:1*1≤capV n*(b.High[i] - b.Low[i]+1):=Int.mul_le_mul c1 hd1 (by omega) (by omega)
  have m3:1*1≤n*(b.High[i] - b.Low[i]+1):=Int.mul_le_mul hn1 hd1 (by omega) (by omega)
  have w1:IntKind.wrap .i64 (b.High[i] - b.Low[i])=b.High[i] - b.Low[i]:=wrap64 (by omega) (by omega)
  have w2:IntKind.wrap .i64 (b.High[i] - b.Low[i]+1)=b.High[i] - b.Low[i]+1:=wrap64 (by omega) (by omega)
  have w3:IntKind.wrap .i64 (capV n*(b.High[i] - b.Low[i]+1))=capV n*(b.High[i] - b.Low[i]+1):=wrap64 (by omega) (by omega)
  have ih:=ih (n*(b.High[i] - b.Low[i]+1)) (by omega)
  rw [← cap_mul hn1 hd1] at ih
  rw [Zxq hi0 hi2,← Int.mul_assoc]
  simp at ih
  simp [hi0,hi2,h5,w1,w2,w3,cap_flip,ih]
@[simp] theorem Zbqj (b:Box) (h:LeX b):Zuo b=some (I (Zjm b.Low b.High),[]):=by
 refine Zbig _ _ ?_
 have q1:=Zvi b h
 unfold Zjm
 rcases tf (Zbg b.Low b.High) with e | e
 ·simp [q1,e]
 ·have q2:=Zbjm b e 0 (Nat.zero_le _) 1 (by omega)
  have e1:capV 1=1:=by decide
  rw [e1] at q2
  simp at q2
  simp [q1,e,q2]
end Go.Proofs.YtbapkgocloaaeaaGreat
/- part: V3 -/
namespace Go.Proofs.YtbapkgocloaaeaaGreat
open Go.AM
theorem l_vars0 (q:Zb) (m:Int) (hl:Le q.Atoms) (hv:∀ a∈q.Atoms,Le a.Vars) (v:Nat) (hv4:v<8) (out:List Int) (ho:out.length≤8) (r:AV×List Blk):∀ i,i≤q.Atoms.length →
  Zez q (out++if hasV m (q.Atoms.drop i) i v=true then [(v:Int)] else []) m (w ((v:Int)+1))=some r →
  Zf5 q out m v q.Atoms q.Atoms.length i=some r:=by
 refine down _ ?_ ?_
 ·intro h
  refine Z2y _ _ _ _ _ _ _ _ ?_
  simpa [hasV] using h
 ·intro i hi ih h
  refine Z2y _ _ _ _ _ _ _ _ ?_
  have h4:=inc64 (i:=i) (by omega)
  have c1:=Znk q.Atoms[i].Vars v (hv _ (List.getElem_mem hi))
  have h0:¬ (i:Int)<0:=by omega
  rw [Zq7 _ hi] at h
  by_cases e1:andI (shrI m i) 1=1
  ·have e2:Zu m i=true:=by simp [Zu,e1]
   rcases tf (has q.Atoms[i].Vars v) with e3 | e3
   ·simp [e2,e3] at h
    have ih:=ih (by simpa using h)
    simp at ih
    simp [hi,h4,h0,e1,c1,e3,ih]
   ·simp [e2,e3] at h
    have e4:out.length+1≤68719476736:=by omega
    simp [hi,h4,h0,e1,c1,e3,e4,h]
  ·have e2:Zu m i=false:=by simp [Zu,e1]
   simp [e2] at h
   have ih:=ih (by simpa using h)
   simp at ih
   simp [hi,h4,h0,e1,ih]
theorem l_vars1 (q:Zb) (m:Int) (hl:Le q.Atoms) (hv:∀ a∈q.Atoms,Le a.Vars) (n:Nat) (hq:q.Ze=n) (hn:n≤4):∀ k,k≤n →
  Zez q (varL m q.Atoms k) m k=some (.own 0,[.arr Zx 1 true ((varL m q.Atoms n).map ic)]):=by
 refine down _ ?_ ?_
 ·refine Z2x _ _ _ _ _ ?_
  simp [hq]
 ·intro k hk ih
  refine Z2x _ _ _ _ _ ?_
  have h4:=inc64 (i:=k) (by omega)
  have b:=l_vars0 q m hl hv k (by omega) (varL m q.Atoms k) (by have:=Zjl m q.Atoms k;omega) _ 0 (Nat.zero_le _) (by
   rw [List.drop_zero,← Z9v,show w ((k:Int)+1)=(k:Int)+1 from h4];simpa using ih)
  simp at b
  simp [hq,hk,b]
@[simp] theorem Zno (q:Zb) (m:Int) (h:LeQ q) (hv:Zn q.Ze q.Atoms=true):Zdt q m=some (.own 0,[.arr Zx 1 true ((varL m q.Atoms q.Ze.toNat).map ic)]):=by
 refine Zbfm _ _ _ ?_
 have hn:=Zdd hv
 have b:=l_vars1 q m h.1 h.2 q.Ze.toNat (by omega) (by omega) 0 (Nat.zero_le _)
 simpa [varL] using b
theorem l_both (b xs:List Int) (hb:Le b) (hx:xs.length≤1000000):∀ i,i≤xs.length →
  Zf6 ((xs.take i).filter (has b)) b xs xs.length i=some (.own 0,[.arr Zx 1 true ((xs.filter (has b)).map ic)]):=by
 refine down _ ?_ ?_
 ·refine Z2z _ _ _ _ _ _ ?_
  simp
 ·intro i hi ih
  refine Z2z _ _ _ _ _ _ ?_
  have h4:=inc64 (i:=i) (by omega)
  have c1:=Znk b xs[i] hb
  have e4:((xs.take i).filter (has b)).length+1≤68719476736:=by
   have:=List.length_filter_le (has b) (xs.take i)
   simp at this
   omega
  rw [Zq8 _ hi] at ih
  rcases tf (has b xs[i]) with e | e
  ·simp [e] at ih
   simp [hi,h4,c1,e,ih]
  ·simp [e] at ih
   simp [hi,h4,c1,e,e4,ih]
@[simp] theorem x_both (xs b:List Int) (hb:Le b) (hx:xs.length≤1000000):Ze0 xs b=some (.own 0,[.arr Zx 1 true ((xs.filter (has b)).map ic)]):=by
 refine Zbfn _ _ _ ?_
 have:=l_both b xs hb hx 0 (Nat.zero_le _)
 simpa using this
theorem l_bits0 (q:Zb) (m:Int) (hv:∀ a∈q.Atoms,Le a.Vars) (h4v:Var4 q.Atoms) (i:Nat) (hi:i<q.Atoms.length) (hm:Zu m i=true) (r:AV×List Blk):∀ k,k≤q.Atoms[i].Vars.length→∀ p,
  Zfj q m (Z0 (addV p (q.Atoms[i].Vars.drop k))) (w ((i:Int)+1))=some r→Zgs q m (Z0 p) i k=some r:=by
 have e1:andI (shrI m i) 1=1:=by simpa [Zu] using hm
 have h0:¬ (i:Int)<0:=by omega
 have ha:=List.getElem_mem hi
 refine down _ ?_ ?_
 ·intro p h
  refine Zu7 _ _ _ _ _ _ ?_
  rw [List.drop_length,Zq4] at h
  simp [hi,h]
 ·intro k hk ih p h
  refine Zu7 _ _ _ _ _ _ ?_
  have h4:=inc64 (i:=k) (by have:=hv _ ha;omega)
  have e6:=Zof p (v:=q.Atoms[i].Vars[k]) (h4v _ ha _ (List.getElem_mem hk))
  have e7:=h4v _ ha _ (List.getElem_mem hk)
  simp [inR] at e7
  have e8:¬ q.Atoms[i].Vars[k]<0:=by omega
  rw [Zq5 p hk] at h
  have ih:=ih _ h
  simp at ih
  simp [hi,hk,h0,e1,h4,e6,e7,e8,ih]
theorem l_bits1 (q:Zb) (m:Int) (hl:Le q.Atoms) (hv:∀ a∈q.Atoms,Le a.Vars) (h4v:Var4 q.Atoms):∀ i,i≤q.Atoms.length→∀ p,
  Zfj q m (Z0 p) i=some (I (Z0 (addM m p q.Atoms i)),[]):=by
 refine down _ ?_ ?_
 ·intro p
  refine Z39 _ _ _ _ _ ?_
  have e:addM m p q.Atoms q.Atoms.length=p:=by funext u;simp [addM,hasV]
  simp [e]
 ·intro i hi ih p
  refine Z39 _ _ _ _ _ ?_
  have h4:=inc64 (i:=i) (by omega)
  have h0:¬ (i:Int)<0:=by omega
  rw [Z9u m p hi]
  rcases tf (Zu m i) with e | e
  ·have e1:¬ andI (shrI m i) 1=1:=by simpa [Zu] using e
   have ih:=ih p
   simp at ih
   have b:Zgs q m (Z0 p) i 0=some (I (Z0 (addM m p q.Atoms (i+1))),[]):=by
    refine Zu7 _ _ _ _ _ _ ?_
    simp [hi,h0,e1,h4,ih]
   simp [hi,e,b]
  ·have ih:=ih (addV p q.Atoms[i].Vars)
   have b:=l_bits0 q m hv h4v i hi e _ 0 (Nat.zero_le _) p (by rw [List.drop_zero,show w ((i:Int)+1)=(i:Int)+1 from h4];simpa using ih)
   simp at b
   simp [hi,e,b]
@[simp] theorem Zkd (q:Zb) (m:Int) (h:LeQ q) (h4v:Var4 q.Atoms):Zcb q m=some (I (Z0 (pV m q.Atoms)),[]):=by
 refine Zbhb _ _ _ ?_
 have b:=l_bits1 q m h.1 h.2 h4v 0 (Nat.zero_le _) (fun _=>false)
 have ez:Z0 (fun _=>false)=0:=rfl
 have e:addM m (fun _=>false) q.Atoms 0=pV m q.Atoms:=by funext u;simp [addM,pV]
 rw [ez,e] at b
 simpa using b
end Go.Proofs.YtbapkgocloaaeaaGreat
/- part: V4 -/
namespace Go.Proofs.YtbapkgocloaaeaaGreat
open Go.AM
theorem Zbjn (q:Zb) (hq:LeQ q) (h:Zn q.Ze q.Atoms=true) (x:Zc) (info:List Zh) (st:List Int) (hs:StOk info st) (hil:info.length≤100) (hst:st.length≤100) :
  match Zca q.Atoms x info st with
  | some y=>Zhu q x info st=some (.tup [.agg (y.c.map .t),Bo true],[])
  | none=>∃ y:Zh,Zhu q x info st=some (.tup [.agg (y.c.map .t),Bo false],[]):=by
 have hl:=Zbv h
 have wl:w ((q.Atoms.length:Int) - 1)=(q.Atoms.length:Int) - 1:=wrap64 (by omega) (by omega)
 unfold Zca
 by_cases k1:x.Kind=1
 ·rw [if_pos k1]
  by_cases c1:inR x.Atom 0 (q.Atoms.length - 1)=true∧x.Order=0
  ·rw [if_pos c1]
   have c2:=c1.1
   simp [inR] at c2
   have hlt:x.Atom.toNat<q.Atoms.length:=by omega
   have hv:=Zjk h _ (List.getElem_mem hlt)
   have h0:¬ x.Atom<0:=by omega
   simp only
   refine Zg7 _ _ _ _ _ ?_
   have e:q.Atoms[x.Atom.toNat].Vars.headD 0=q.Atoms[x.Atom.toNat].Vars[0]'(by omega):=by
    rw [List.headD_eq_head?_getD,hd0 (by omega)]
   rw [List.headD_eq_head?_getD] at e
   simp [k1,wl,c1,h0,hlt,c2,e,show 0<q.Atoms[x.Atom.toNat].Vars.length by omega]
  ·rw [if_neg c1]
   refine ⟨⟨0,-1,-1,-1⟩,Zg7 _ _ _ _ _ ?_⟩
   rcases tf (inR x.Atom 0 (q.Atoms.length - 1)) with e | e
   ·simp [k1,wl,e]
   ·have e2:¬ x.Order=0:=fun hc=>c1 ⟨e,hc⟩
    simp [k1,wl,e,e2]
 rw [if_neg k1]
 by_cases k0:x.Atom=0
 rotate_left
 ·rw [if_pos k0]
  exact ⟨⟨0,-1,-1,-1⟩,Zg7 _ _ _ _ _ (by simp [k1,k0])⟩
 rw [if_neg (by simpa using k0)]
 have w1:w ((st.length:Int) - 1)=(st.length:Int) - 1:=wrap64 (by omega) (by omega)
 have w2:w ((st.length:Int) - 2)=(st.length:Int) - 2:=wrap64 (by omega) (by omega)
 by_cases k2:x.Kind=2
 ·rw [if_pos k2]
  by_cases n1:st.length<1
  ·have:Zbh st info 1=none:=by unfold Zbh;rw [if_neg (by omega)]
   rw [this]
   have n1':(st.length:Int)<1:=by omega
   exact ⟨⟨0,-1,-1,-1⟩,Zg7 _ _ _ _ _ (by simp [k1,k2,k0,n1'])⟩
  ·have n1':¬ (st.length:Int)<1:=by omega
   obtain ⟨s,y,t1,t2,t3,t4⟩:=Zhl hs (by omega:1≤1) (by omega:1≤st.length)
   have z1:(0:Int)≤(st.length:Int) - 1:=by omega
   have z5:(1:Int)≤(st.length:Int):=by omega
   have z2:((st.length:Int) - 1).toNat=st.length - 1:=by omega
   have q1:=Zno q y.Mask hq h
   have q2:=Znk (varL y.Mask q.Atoms q.Ze.toNat) x.Order (by have:=Zjl y.Mask q.Atoms q.Ze.toNat;have:=Zdd h;omega)
   rw [Zkx h] at q2
   rw [t1]
   simp only
   by_cases c1:vin q.Atoms y.Mask x.Order=true∧y.Order≠x.Order
   ·rw [if_pos c1]
    refine Zg7 _ _ _ _ _ ?_
    simp [k1,k2,k0,n1',w1,z1,z2,z5,t2,t3,t4,q1,q2,c1]
   ·rw [if_neg c1]
    refine ⟨⟨0,-1,-1,-1⟩,Zg7 _ _ _ _ _ ?_⟩
    rcases tf (vin q.Atoms y.Mask x.Order) with e | e
    ·simp [k1,k2,k0,n1',w1,z1,z2,z5,t2,t3,t4,q1,q2,e]
    ·have e2:y.Order=x.Order:=Decidable.byContradiction fun hc=>c1 ⟨e,hc⟩
     simp [k1,k2,k0,n1',w1,z1,z2,z5,t2,t3,t4,q1,q2,e,e2]
 rw [if_neg k2]
 by_cases n2:st.length<2
 ·have:Zbh st info 2=none:=by unfold Zbh;rw [if_neg (by omega)]
  rw [this]
  have n2':(st.length:Int)<2:=by omega
  exact ⟨⟨0,-1,-1,-1⟩,Zg7 _ _ _ _ _ (by simp [k1,k2,k0,n2'])⟩
 have n2':¬ (st.length:Int)<2:=by omega
 obtain ⟨s,y,t1,t2,t3,t4⟩:=Zhl hs (by omega:1≤2) (by omega:2≤st.length)
 obtain ⟨t,z,u1,u2,u3,u4⟩:=Zhl hs (by omega:1≤1) (by omega:1≤st.length)
 have z1:(0:Int)≤(st.length:Int) - 1:=by omega
 have z2:((st.length:Int) - 1).toNat=st.length - 1:=by omega
 have z3:(0:Int)≤(st.length:Int) - 2:=by omega
 have z4:((st.length:Int) - 2).toNat=st.length - 2:=by omega
 have hn:=Zdd h
 have q1:=Zno q y.Mask hq h
 have q2:=Zno q z.Mask hq h
 have l1:=Zjl y.Mask q.Atoms q.Ze.toNat
 have l2:=Zjl z.Mask q.Atoms q.Ze.toNat
 have q3:=x_both (varL y.Mask q.Atoms q.Ze.toNat) (varL z.Mask q.Atoms q.Ze.toNat) (by omega) (by omega)
 have q4:=Znk ((varL y.Mask q.Atoms q.Ze.toNat).filter (has (varL z.Mask q.Atoms q.Ze.toNat))) x.Order (by
  have:=List.length_filter_le (has (varL z.Mask q.Atoms q.Ze.toNat)) (varL y.Mask q.Atoms q.Ze.toNat);omega)
 rw [Z9x h] at q4
 have q5:=Z9w h y.Mask z.Mask
 generalize hS:(varL y.Mask q.Atoms q.Ze.toNat).filter (has (varL z.Mask q.Atoms q.Ze.toNat))=S at q3 q4 q5
 rw [t1,u1]
 simp only
 have base:∀ (r:AV×List Blk),(if andI y.Mask z.Mask=0 then
    if ((S.length:Int)=0) then some (.tup [.agg [I (orI y.Mask z.Mask),I (-1),I s,I t],Bo false],[])=some r
    else if x.Kind=3 then some (.tup [.agg [I (orI y.Mask z.Mask),I (-1),I s,I t],Bo (decide (x.Order=0))],[])=some r
    else if x.Kind=5 then some (.tup [.agg [I (orI y.Mask z.Mask),I y.Order,I s,I t],Bo (decide (x.Order=0))],[])=some r
    else if x.Kind=4 then
     if (vin q.Atoms y.Mask x.Order && vin q.Atoms z.Mask x.Order)=true then
      if y.Order=x.Order then some (.tup [.agg [I (orI y.Mask z.Mask),I x.Order,I s,I t],Bo (decide (z.Order=x.Order))],[])=some r
      else some (.tup [.agg [I (orI y.Mask z.Mask),I x.Order,I s,I t],Bo false],[])=some r
     else some (.tup [.agg [I (orI y.Mask z.Mask),I x.Order,I s,I t],Bo false],[])=some r
    else some (.tup [.agg [I (orI y.Mask z.Mask),I (-1),I s,I t],Bo false],[])=some r
   else some (.tup [.agg [I (orI y.Mask z.Mask),I (-1),I s,I t],Bo false],[])=some r)→Zhu q x info st=some r:=by
  intro r hr
  refine Zg7 _ _ _ _ _ ?_
  simp only [k1,k0,k2,if_false,if_true,n2',w1,w2,z1,z2,z3,z4,t2,t3,t4,u2,u3,u4,q1,q2,true_and,Option.some.injEq,exists_eq_left']
  refine ⟨_,rfl,_,rfl,S,?_,?_⟩
  ·simpa using q3
  ·simp only [q4,Option.some.injEq,Prod.mk.injEq,AV.t.injEq,T.bool.injEq,and_true,exists_eq_left']
   simpa using hr
 by_cases c1:andI y.Mask z.Mask=0∧shr q.Atoms y.Mask z.Mask=true
 rotate_left
 ·rw [if_neg c1]
  refine ⟨⟨orI y.Mask z.Mask,-1,s,t⟩,base _ ?_⟩
  by_cases c2:andI y.Mask z.Mask=0
  ·have c3:S.length=0:=q5.2 (by rcases tf (shr q.Atoms y.Mask z.Mask) with e | e;exact e;exact absurd ⟨c2,e⟩ c1)
   have c4:(S.length:Int)=0:=by omega
   rw [if_pos c2,if_pos c4]
   simp
  ·rw [if_neg c2]
   simp
 rw [if_pos c1]
 have c4:¬ (S.length:Int)=0:=fun hc=>by
  have:=q5.1 (by omega)
  rw [c1.2] at this
  cases this
 have c5:¬ S=[]:=fun hc=>c4 (by simp [hc])
 unfold Zbz
 by_cases j1:x.Kind=3∧x.Order=0
 ·rw [if_pos j1]
  exact base _ (by simp [c1.1,c4,c5,j1])
 rw [if_neg j1]
 by_cases j2:x.Kind=5∧x.Order=0
 ·rw [if_pos j2]
  exact base _ (by simp [c1.1,c4,c5,j2])
 rw [if_neg j2]
 by_cases j3:x.Kind=4∧vin q.Atoms y.Mask x.Order=true∧vin q.Atoms z.Mask x.Order=true∧y.Order=x.Order∧z.Order=x.Order
 ·rw [if_pos j3]
  exact base _ (by simp [c1.1,c4,c5,j3])
 rw [if_neg j3]
 simp only [Option.map_none]
 by_cases k3:x.Kind=3
 ·have e:¬ x.Order=0:=fun hc=>j1 ⟨k3,hc⟩
  exact ⟨⟨orI y.Mask z.Mask,-1,s,t⟩,base _ (by simp [c1.1,c4,c5,k3,e])⟩
 by_cases k5:x.Kind=5
 ·have e:¬ x.Order=0:=fun hc=>j2 ⟨k5,hc⟩
  exact ⟨⟨orI y.Mask z.Mask,y.Order,s,t⟩,base _ (by simp [c1.1,c4,c5,k5,e])⟩
 by_cases k4:x.Kind=4
 ·refine ⟨⟨orI y.Mask z.Mask,x.Order,s,t⟩,base _ ?_⟩
  rcases tf (vin q.Atoms y.Mask x.Order) with e1 | e1 <;> rcases tf (vin q.Atoms z.Mask x.Order) with e2 | e2 <;> by_cases e3:y.Order=x.Order <;> simp [c1.1,c4,c5,k4,e1,e2,e3]
  exact fun e4=>j3 ⟨k4,e1,e2,e3,e4⟩
 ·exact ⟨⟨orI y.Mask z.Mask,-1,s,t⟩,base _ (by simp [c1.1,c4,c5,k3,k4,k5])⟩
end Go.Proofs.YtbapkgocloaaeaaGreat
/- part: V5 -/
namespace Go.Proofs.YtbapkgocloaaeaaGreat
open Go.AM
@[simp] theorem Zp0 (b v:Int):Zfm b v=some (Bo (inR v 0 3 && decide (andI (shrI b v) 1=1)),[]):=by
 refine Zbhi _ _ _ ?_
 rcases tf (inR v 0 3) with e | e
 ·simp [e]
 ·have e0:=e
  simp [inR] at e0
  have:¬ v<0:=by omega
  simp [e,this]
def Z8 (x:Zc):Option Zh→AV×List Blk
 | some y=>(.tup [.agg (y.c.map .t),I (popsI x)],[])
 | none=>(.tup [.agg [I 0,I 0,I 0,I 0],I (-1)],[])
theorem Zbjo (q:Zb) (hq:LeQ q) (h:Zn q.Ze q.Atoms=true) (x:Zc) (info:List Zh) (st:List Int) (hs:StOk info st) (hil:info.length≤100) (hst:st.length≤100) :
  Zgv q x info st=some (Z8 x (Zca q.Atoms x info st)):=by
 have hl:=Zbv h
 have wl:w ((q.Atoms.length:Int) - 1)=(q.Atoms.length:Int) - 1:=wrap64 (by omega) (by omega)
 unfold Zca
 by_cases k1:x.Kind=1
 ·rw [if_pos k1]
  by_cases c1:inR x.Atom 0 (q.Atoms.length - 1)=true∧x.Order=0
  ·rw [if_pos c1]
   have c2:=c1.1
   simp [inR] at c2
   have hlt:x.Atom.toNat<q.Atoms.length:=by omega
   have hv:=Zjk h _ (List.getElem_mem hlt)
   have h0:¬ x.Atom<0:=by omega
   refine Zer _ _ _ _ _ ?_
   have e:q.Atoms[x.Atom.toNat].Vars.headD 0=q.Atoms[x.Atom.toNat].Vars[0]'(by omega):=by
    rw [List.headD_eq_head?_getD,hd0 (by omega)]
   rw [List.headD_eq_head?_getD] at e
   simp [k1,wl,c1,h0,hlt,c2,e,Z8,popsI,show 0<q.Atoms[x.Atom.toNat].Vars.length by omega]
  ·rw [if_neg c1]
   refine Zer _ _ _ _ _ ?_
   rcases tf (inR x.Atom 0 (q.Atoms.length - 1)) with e | e
   ·simp [k1,wl,e,Z8]
   ·have e2:¬ x.Order=0:=fun hc=>c1 ⟨e,hc⟩
    simp [k1,wl,e,e2,Z8]
 rw [if_neg k1]
 have w1:w ((st.length:Int) - 1)=(st.length:Int) - 1:=wrap64 (by omega) (by omega)
 have w2:w ((st.length:Int) - 2)=(st.length:Int) - 2:=wrap64 (by omega) (by omega)
 by_cases k0:x.Atom=0
 rotate_left
 ·rw [if_pos k0]
  refine Zer _ _ _ _ _ ?_
  have j:∀ b,Zii q x ⟨0,0,0,0⟩ info st st.length x.Kind b=some (Z8 x none):=by
   intro b
   refine Znj _ _ _ _ _ _ _ _ _ ?_
   cases b <;> simp [k0,Z8]
  by_cases k2:x.Kind=2
  ·simp [k1,k2,k0,Z8]
  ·by_cases k3:x.Kind=3 <;> by_cases k4:x.Kind=4 <;> simp [k1,k2,k0,k3,k4,j] <;> first | (simp only [k3] at j;simp [j,Z8]) | (simp only [k4] at j;simp [j,Z8]) | simp [Z8]
 rw [if_neg (by simpa using k0)]
 by_cases k2:x.Kind=2
 ·rw [if_pos k2]
  refine Zer _ _ _ _ _ ?_
  by_cases n1:st.length<1
  ·have:Zbh st info 1=none:=by unfold Zbh;rw [if_neg (by omega)]
   rw [this]
   have n1':(st.length:Int)<1:=by omega
   simp [k1,k2,k0,n1',Z8]
  ·have n1':¬ (st.length:Int)<1:=by omega
   obtain ⟨s,y,t1,t2,t3,t4⟩:=Zhl hs (by omega:1≤1) (by omega:1≤st.length)
   have z1:(0:Int)≤(st.length:Int) - 1:=by omega
   have z5:(1:Int)≤(st.length:Int):=by omega
   have z2:((st.length:Int) - 1).toNat=st.length - 1:=by omega
   have q1:=Zkd q y.Mask hq (Zhk h)
   have q2:(inR x.Order 0 3 && decide (andI (shrI (Z0 (pV y.Mask q.Atoms)) x.Order) 1=1))=vin q.Atoms y.Mask x.Order:=by
    unfold vin
    rcases tf (inR x.Order 0 3) with e | e
    ·simp [e]
    ·rw [e,Bool.true_and,Bool.true_and,Bool.eq_iff_iff,decide_eq_true_eq]
     exact at_bit _ e
   rw [t1]
   simp only
   by_cases e2:y.Order=x.Order
   ·simp [k1,k2,k0,n1',w1,z1,z2,z5,t2,t3,t4,e2,Z8]
   ·rcases tf (vin q.Atoms y.Mask x.Order) with e | e
    ·simp only [k1,k2,k0,n1',w1,z1,z2,t2,t3,t4,q1,Zp0,q2,e,e2,if_false,if_true,true_and,Option.some.injEq,exists_eq_left',Prod.mk.injEq,AV.t.injEq,T.int.injEq,T.bool.injEq,and_true]
     simp [Z8]
    ·simp only [k1,k2,k0,n1',w1,z1,z2,t2,t3,t4,q1,Zp0,q2,e,e2,if_false,if_true,true_and,Option.some.injEq,exists_eq_left',Prod.mk.injEq,AV.t.injEq,T.int.injEq,T.bool.injEq,and_true]
     simp [Z8,popsI,k1,k2,e2]
 rw [if_neg k2]
 -- a join
 have q0:∀ (b:Zh) (c:Zh) (y:Zh) (f:Bool),x.Kind=4→∀ m1 m2,Zgw q x ⟨0,0,0,0⟩ b c y (andI (Z0 (pV m1 q.Atoms)) (Z0 (pV m2 q.Atoms))) f =
   if vin q.Atoms m1 x.Order=true∧vin q.Atoms m2 x.Order=true∧b.Order=x.Order∧c.Order=x.Order then some (.tup [.agg [I y.Mask,I x.Order,I y.Left,I y.Right],I 2],[]) else some (Z8 x none):=by
  intro b c y f k4 m1 m2
  have e:(inR x.Order 0 3 && decide (andI (shrI (andI (Z0 (pV m1 q.Atoms)) (Z0 (pV m2 q.Atoms))) x.Order) 1=1))=(vin q.Atoms m1 x.Order && vin q.Atoms m2 x.Order):=by
   unfold vin
   rcases tf (inR x.Order 0 3) with e | e
   ·simp [e]
   ·rw [e,Bool.true_and,Bool.true_and,Bool.true_and,Bool.eq_iff_iff,decide_eq_true_eq,Zxg]
    simpa using at_bit (fun u=>pV m1 q.Atoms u && pV m2 q.Atoms u) e
  split
  ·rename_i hc
   refine Zu8 _ _ _ _ _ _ _ _ _ ?_
   simp only [Zp0,e,hc]
   simp [k4]
  ·rename_i hc
   refine Zu8 _ _ _ _ _ _ _ _ _ ?_
   simp only [Zp0,e]
   rcases tf (vin q.Atoms m1 x.Order) with e1 | e1 <;> rcases tf (vin q.Atoms m2 x.Order) with e2 | e2 <;> by_cases e3:b.Order=x.Order <;> by_cases e4:c.Order=x.Order <;> simp [k4,e1,e2,e3,e4,Z8]
   exact hc ⟨e1,e2,e3,e4⟩
 have q3:∀ (b:Zh) (c:Zh) (y:Zh) (v:Int) (f:Bool),x.Kind≠4→Zgw q x ⟨0,0,0,0⟩ b c y v f=some (.tup [.agg (y.c.map .t),I 2],[]):=by
  intro b c y v f k4
  exact Zu8 _ _ _ _ _ _ _ _ _ (by simp [k4])
 have q5:∀ (b:Zh) (c:Zh) (y:Zh) (v:Int),x.Kind≠4→Zij q x ⟨0,0,0,0⟩ b c y v=some (.tup [.agg (y.c.map .t),I 2],[]):=by
  intro b c y v k4
  exact Zbhj _ _ _ _ _ _ _ _ (by simp [k4])
 by_cases kk:x.Kind=3∨x.Kind=4∨x.Kind=5
 rotate_left
 ·have k3:¬ x.Kind=3:=fun hc=>kk (.inl hc)
  have k4:¬ x.Kind=4:=fun hc=>kk (.inr (.inl hc))
  have k5:¬ x.Kind=5:=fun hc=>kk (.inr (.inr hc))
  have hj:∀ y z,Zbz q.Atoms x y z=none:=by intro y z;simp [Zbz,k3,k4,k5]
  refine Eq.trans (b:=some (Z8 x none)) (Zer _ _ _ _ _ (by simp [k1,k2,k3,k4,k5,Z8])) ?_
  simp only [hj,Option.map_none,ite_self]
  split <;> rfl
 have k5':x.Kind≠3→x.Kind≠4→x.Kind=5:=fun a b=>by rcases kk with h | h | h;exact absurd h a;exact absurd h b;exact h
 have red:∀ r,Zii q x ⟨0,0,0,0⟩ info st st.length x.Kind true=some r→(x.Kind=5→Zgv q x info st=some r)→Zgv q x info st=some r:=by
  intro r hr h5
  by_cases k5:x.Kind=5
  ·exact h5 k5
  ·refine Zer _ _ _ _ _ ?_
   by_cases k3:x.Kind=3
   ·rw [if_neg k1,if_neg k2,if_pos k3];exact hr
   ·by_cases k4:x.Kind=4
    ·rw [if_neg k1,if_neg k2,if_neg k3,if_pos k4];exact hr
    ·exact absurd (k5' k3 k4) k5
 by_cases n2:st.length<2
 ·have:Zbh st info 2=none:=by unfold Zbh;rw [if_neg (by omega)]
  rw [this]
  have n2':(st.length:Int)<2:=by omega
  refine red _ ?_ ?_
  ·exact Znj _ _ _ _ _ _ _ _ _ (by simp [k0,n2',Z8])
  ·intro k5
   exact Zer _ _ _ _ _ (by simp [k5,k0,n2',Z8])
 have n2':¬ (st.length:Int)<2:=by omega
 obtain ⟨s,y,t1,t2,t3,t4⟩:=Zhl hs (by omega:1≤2) (by omega:2≤st.length)
 obtain ⟨t,z,u1,u2,u3,u4⟩:=Zhl hs (by omega:1≤1) (by omega:1≤st.length)
 have z1:(0:Int)≤(st.length:Int) - 1:=by omega
 have z2:((st.length:Int) - 1).toNat=st.length - 1:=by omega
 have z3:(0:Int)≤(st.length:Int) - 2:=by omega
 have z4:((st.length:Int) - 2).toNat=st.length - 2:=by omega
 have b1:=Zkd q y.Mask hq (Zhk h)
 have b2:=Zkd q z.Mask hq (Zhk h)
 have b3:=Zq9 q.Atoms y.Mask z.Mask
 rw [t1,u1]
 simp only
 by_cases c1:andI y.Mask z.Mask=0
 rotate_left
 ·rw [if_neg (fun hc=>c1 hc.1)]
  refine red _ ?_ ?_
  ·refine Znj _ _ _ _ _ _ _ _ _ ?_
   simp only [k0,n2',w1,w2,z1,z2,z3,z4,t2,t3,t4,u2,u3,u4,b1,b2,c1,if_true,if_false,true_and,Option.some.injEq,exists_eq_left',Prod.mk.injEq,AV.t.injEq,T.int.injEq,and_true]
   simp [Z8]
  ·intro k5
   refine Zer _ _ _ _ _ ?_
   simp only [k5,k0,n2',w1,w2,z1,z2,z3,z4,t2,t3,t4,u2,u3,u4,b1,b2,c1,if_true,if_false,true_and,Option.some.injEq,exists_eq_left',Prod.mk.injEq,AV.t.injEq,T.int.injEq,and_true]
   simp [Z8]
 rcases tf (shr q.Atoms y.Mask z.Mask) with c2 | c2
 ·rw [if_neg (fun hc=>by rw [hc.2] at c2;cases c2)]
  have c3:=b3.2 c2
  refine red _ ?_ ?_
  ·refine Znj _ _ _ _ _ _ _ _ _ ?_
   simp only [k0,n2',w1,w2,z1,z2,z3,z4,t2,t3,t4,u2,u3,u4,b1,b2,c1,c3,if_true,if_false,true_and,Option.some.injEq,exists_eq_left',Prod.mk.injEq,AV.t.injEq,T.int.injEq,and_true]
   simp [Z8]
  ·intro k5
   refine Zer _ _ _ _ _ ?_
   simp only [k5,k0,n2',w1,w2,z1,z2,z3,z4,t2,t3,t4,u2,u3,u4,b1,b2,c1,c3,if_true,if_false,true_and,Option.some.injEq,exists_eq_left',Prod.mk.injEq,AV.t.injEq,T.int.injEq,and_true]
   simp [Z8]
 rw [if_pos ⟨c1,c2⟩]
 have c3:¬ andI (Z0 (pV y.Mask q.Atoms)) (Z0 (pV z.Mask q.Atoms))=0:=fun hc=>by rw [b3.1 hc] at c2;cases c2
 have p2:popsI x=2:=by unfold popsI;rw [if_neg k1,if_neg k2]
 refine red _ ?_ ?_
 ·refine Znj _ _ _ _ _ _ _ _ _ ?_
  simp only [k0,n2',w1,w2,z1,z2,z3,z4,t2,t3,t4,u2,u3,u4,b1,b2,c1,c3,if_true,if_false,true_and,Option.some.injEq,exists_eq_left',Prod.mk.injEq,AV.t.injEq,T.int.injEq,and_true]
  by_cases k4:x.Kind=4
  ·have k3:¬ x.Kind=3:=by omega
   have k5:¬ x.Kind=5:=by omega
   rw [if_pos k4,q0 _ _ _ _ k4]
   simp only [Zbz,k3,k4,k5,false_and,true_and,if_false]
   split
   ·rename_i hc;simp [Z8,p2]
   ·rfl
  ·by_cases e:x.Order=0
   ·by_cases k5:x.Kind=5
    ·rw [if_neg k4,if_pos e,if_pos k5,q5 _ _ _ _ k4]
     simp [Zbz,k5,e,Z8,p2]
    ·have k3:x.Kind=3:=by omega
     rw [if_neg k4,if_pos e,if_neg k5,q3 _ _ _ _ _ k4]
     simp [Zbz,k3,e,Z8,p2]
   ·rw [if_neg k4,if_neg e]
    simp [Zbz,k4,e,Z8]
 ·intro k5
  refine Zer _ _ _ _ _ ?_
  have k4:x.Kind≠4:=by omega
  simp only [k5,k0,n2',w1,w2,z1,z2,z3,z4,t2,t3,t4,u2,u3,u4,b1,b2,c1,c3,if_true,if_false,true_and,Option.some.injEq,exists_eq_left',Prod.mk.injEq,AV.t.injEq,T.int.injEq,and_true]
  by_cases e:x.Order=0
  ·simp [e,q5 _ _ _ _ k4,Zbz,k5,Z8,p2]
  ·simp [e,Zbz,k5,Z8]
theorem Zbjp (q:Zb) (hq:LeQ q) (h:Zn q.Ze q.Atoms=true) (p:Plan) (hl:p.Steps.length≤14):∀ i,i≤p.Steps.length→∀ info st,StOk info st→info.length=i→st.length≤i →
  Zil q p info st i=some (match Zbj q.Atoms (p.Steps.drop i) i info st with
   | some (info',st')=>if st'.length=1 then (.tup [.own 0,Bo true],[.arr Zho 4 true (info'.map Zh.c)]) else (.tup [.own 0,Bo false],[.arr Zho 4 true []])
   | none=>(.tup [.own 0,Bo false],[.arr Zho 4 true []])):=by
 refine down _ ?_ ?_
 ·intro info st _ _ _
  rw [List.drop_length,Zbj]
  refine Z4e _ _ _ _ _ _ ?_
  by_cases c:st.length=1
  ·simp [c]
  ·have c':¬ (st.length:Int)=1:=by omega
   simp [c,c']
 ·intro i hi ih info st hs hil hst
  have h5:=inc64 (i:=i) (by omega)
  have s1:=Zbjo q hq h p.Steps[i] info st hs (by omega) (by omega)
  rw [Zxl q.Atoms hi]
  refine Z4e _ _ _ _ _ _ ?_
  cases he:Zca q.Atoms p.Steps[i] info st with
  | none =>
   rw [he,Z8] at s1
   have e0:Zgv q p.Steps[i] info st=some (.tup [.agg ((⟨0,0,0,0⟩:Zh).c.map .t),I (-1)],[]):=s1
   rw [if_pos (by omega)]
   refine ⟨by omega,_,List.getElem?_eq_getElem hi,_,_,e0,?_⟩
   simp
  | some y =>
   rw [he,Z8] at s1
   obtain ⟨f1,f2,f3⟩:=Zra hs he
   rw [f1] at s1
   have hn:=Zky hs y (st.length - pops y)
   rw [hil] at hn
   have ih:=ih (info++[y]) (st.take (st.length - pops y)++[(i:Int)]) hn (by simp [hil]) (st_len hst _)
   have w2:w ((st.length:Int) - (pops y:Int))=(st.length:Int) - (pops y:Int):=wrap64 (by omega) (by omega)
   have z2:((st.length:Int) - (pops y:Int)).toNat=st.length - pops y:=by omega
   rw [if_pos (by omega)]
   refine ⟨by omega,_,List.getElem?_eq_getElem hi,_,_,s1,?_⟩
   rw [if_neg (by omega),w2,z2]
   refine ⟨by omega,by omega,by omega,by omega,by omega,?_⟩
   rw [show w ((i:Int)+1)=(i:Int)+1 from h5]
   simpa using ih
@[simp] theorem Z5f (q:Zb) (p:Plan) (hq:LeQ q):Zik q p=some (match Zbk q.Ze q.Atoms p.Steps with
  | some info=>(.tup [.own 0,Bo true],[.arr Zho 4 true (info.map Zh.c)])
  | none=>(.tup [.own 0,Bo false],[.arr Zho 4 true []])):=by
 refine Zbhk _ _ _ ?_
 have q1:=Zpx q hq
 unfold Zbk
 rcases tf (Zn q.Ze q.Atoms) with e | e
 ·simp [q1,e]
 rcases tf (inR p.Steps.length 1 14) with e2 | e2
 ·simp [q1,e,e2]
 ·have e3:=e2
  simp [inR] at e3
  have b:=Zbjp q hq e p (by omega) 0 (Nat.zero_le _) [] [] (fun s hs=>by cases hs) rfl (Nat.le_refl _)
  simp only [List.drop_zero] at b
  simp only [q1,e,e2,Zd8,Option.some.injEq,Prod.mk.injEq,AV.t.injEq,T.bool.injEq,and_true,exists_eq_left',if_true,and_self]
  refine Eq.trans b ?_
  cases Zbj q.Atoms p.Steps 0 [] [] with
  | none=>rfl
  | some r=>obtain ⟨a,b⟩:=r;simp only;split <;> rfl
end Go.Proofs.YtbapkgocloaaeaaGreat
/- part: V6 -/
namespace Go.Proofs.YtbapkgocloaaeaaGreat
open Go.AM
theorem Zbjq (q:Zb) (hq:LeQ q) (h:Zn q.Ze q.Atoms=true) (steps:List Zc) (hl:steps.length≤14):∀ i,i≤steps.length→∀ info st,StOk info st→info.length=i→st.length≤i →
  Ze2 q info st steps steps.length i=some (match Zbj q.Atoms (steps.drop i) i info st with
   | some (info',st')=>if st'.length=1 then (.tup [.own 0,Bo true],[.arr Zho 4 true (info'.map Zh.c)]) else (.tup [.t .nil,Bo false],[])
   | none=>(.tup [.t .nil,Bo false],[])):=by
 refine down _ ?_ ?_
 ·intro info st _ _ _
  rw [List.drop_length,Zbj]
  refine Z20 _ _ _ _ _ _ _ ?_
  by_cases c:st.length=1
  ·simp [c]
  ·have c':¬ (st.length:Int)=1:=by omega
   simp [c,c']
 ·intro i hi ih info st hs hil hst
  have h5:=inc64 (i:=i) (by omega)
  have s1:=Zbjn q hq h steps[i] info st hs (by omega) (by omega)
  rw [Zxl q.Atoms hi]
  refine Z20 _ _ _ _ _ _ _ ?_
  cases he:Zca q.Atoms steps[i] info st with
  | none =>
   rw [he] at s1
   obtain ⟨y,s1⟩:=s1
   rw [if_pos (by omega)]
   refine ⟨by omega,_,List.getElem?_eq_getElem hi,_,_,s1,?_⟩
   simp
  | some y =>
   rw [he] at s1
   obtain ⟨f1,f2,f3⟩:=Zra hs he
   have hn:=Zky hs y (st.length - pops y)
   rw [hil] at hn
   have ih:=ih (info++[y]) (st.take (st.length - pops y)++[(i:Int)]) hn (by simp [hil]) (st_len hst _)
   rw [if_pos (by omega)]
   refine ⟨by omega,_,List.getElem?_eq_getElem hi,_,_,s1,?_⟩
   rw [if_pos rfl]
   refine ⟨by omega,?_⟩
   simp only
   unfold pops at ih f2 ⊢
   rw [show w ((i:Int)+1)=(i:Int)+1 from h5]
   by_cases r:0≤y.Right
   ·simp only [if_pos r] at ih f2 ⊢
    have w2:w ((st.length:Int) - 2)=(st.length:Int) - 2:=wrap64 (by omega) (by omega)
    have z2:((st.length:Int) - 2).toNat=st.length - 2:=by omega
    rw [w2,z2]
    refine ⟨by omega,by omega,by omega,by simpa using ih⟩
   ·simp only [if_neg r] at ih f2 ⊢
    by_cases l:0≤y.Left
    ·simp only [if_pos l] at ih f2 ⊢
     have w2:w ((st.length:Int) - 1)=(st.length:Int) - 1:=wrap64 (by omega) (by omega)
     have z2:((st.length:Int) - 1).toNat=st.length - 1:=by omega
     rw [w2,z2]
     refine ⟨by omega,by omega,by omega,by simpa using ih⟩
    ·simp only [if_neg l] at ih f2 ⊢
     exact ⟨by omega,by simpa using ih⟩
@[simp] theorem Z5g (q:Zb) (p:Plan) (hq:LeQ q):Ze1 q p=some (match Zbk q.Ze q.Atoms p.Steps with
  | some info=>(.tup [.own 0,Bo true],[.arr Zho 4 true (info.map Zh.c)])
  | none=>(.tup [.t .nil,Bo false],[])):=by
 refine Zbfo _ _ _ ?_
 have q1:=Znl q hq
 unfold Zbk
 rcases tf (Zn q.Ze q.Atoms) with e | e
 ·simp [q1,e]
 rcases tf (inR p.Steps.length 1 14) with e2 | e2
 ·simp [q1,e,e2]
 ·have e3:=e2
  simp [inR] at e3
  have b:=Zbjq q hq e p.Steps (by omega) 0 (Nat.zero_le _) [] [] (fun s hs=>by cases hs) rfl (Nat.le_refl _)
  simp only [List.drop_zero] at b
  simp only [q1,e,e2,Zcs,Option.some.injEq,Prod.mk.injEq,AV.t.injEq,T.bool.injEq,and_true,exists_eq_left',if_true,and_self]
  refine Eq.trans b ?_
  cases Zbj q.Atoms p.Steps 0 [] [] with
  | none=>rfl
  | some r=>obtain ⟨a,b⟩:=r;simp only;split <;> rfl
@[simp] theorem Zbjr (q:Zb) (p:Plan) (hq:LeQ q):Zk7 q p=some (I (Zf0 q.Ze q.Atoms p.Steps),[]):=by
 refine Zbfp _ _ _ ?_
 have q1:=Z5g q p hq
 unfold Zf0
 cases he:Zbk q.Ze q.Atoms p.Steps with
 | none=>rw [he] at q1;exact .inl ⟨q1,rfl⟩
 | some info =>
  obtain ⟨l1,l2,l3,l4⟩:=Zhm he
  rw [he] at q1
  have hlt:info.length - 1<info.length:=by omega
  have w1:w ((info.length:Int) - 1)=(info.length:Int) - 1:=wrap64 (by omega) (by omega)
  have z2:((info.length:Int) - 1).toNat=info.length - 1:=by omega
  refine .inr ⟨info,q1,?_⟩
  rw [w1,z2]
  refine ⟨by omega,_,List.getElem?_eq_getElem hlt,?_⟩
  simp [List.getElem?_eq_getElem hlt]
@[simp] theorem Zbjs (q:Zb) (p:Plan) (hq:LeQ q):Zl4 q p=some (I (Zf0 q.Ze q.Atoms p.Steps),[]):=by
 refine Zbhl _ _ _ ?_
 have q1:=Z5f q p hq
 unfold Zf0
 cases he:Zbk q.Ze q.Atoms p.Steps with
 | none=>rw [he] at q1;exact ⟨[],false,q1,by simp⟩
 | some info =>
  obtain ⟨l1,l2,l3,l4⟩:=Zhm he
  rw [he] at q1
  have hlt:info.length - 1<info.length:=by omega
  have w1:w ((info.length:Int) - 1)=(info.length:Int) - 1:=wrap64 (by omega) (by omega)
  have z2:((info.length:Int) - 1).toNat=info.length - 1:=by omega
  refine ⟨info,true,q1,?_⟩
  rw [if_pos rfl,w1,z2]
  refine ⟨by omega,_,List.getElem?_eq_getElem hlt,?_⟩
  simp [List.getElem?_eq_getElem hlt]
end Go.Proofs.YtbapkgocloaaeaaGreat
/- part: OP -/
namespace Go.Proofs.YtbapkgocloaaeaaGreat
open Go.AM
def Zdk:Int→List Zg→Bool
 | _,[]=>true
 | p,s::r=>inR s.From 1 8192 && inR s.Add (-99) 99 && decide (p<s.From) && Zdk s.From r
def Zch (l:List Zg):Nat→Int
 | 0=>0
 | i+1=>match l[i]? with | some s=>s.From | none=>0
def Zci (n:Int):Bool:=inR n (-99) 99
def Zbc (o:Zi):Bool:=Zci o.Fixed && Zci o.Zj && Zci o.Zk && Zci o.Zm && Zci o.Zl && decide (o.Steps.length≤4) && Zdk 0 o.Steps
theorem Z5h (p:Int) {l:List Zg} {i:Nat} (h:i<l.length):Zdk p (l.drop i)=(inR l[i].From 1 8192 && inR l[i].Add (-99) 99 && decide (p<l[i].From) && Zdk l[i].From (l.drop (i+1))):=by
 rw [List.drop_eq_getElem_cons h,Zdk]
@[simp] theorem Zbjt (n:Int):Zdz n=some (Bo (Zci n),[]):=by
 refine Zbgw _ _ ?_
 simp [Zci]
theorem Zbju (o:Zi) (hl:Le o.Steps):∀ i,i≤o.Steps.length→Zfg o i=some (Bo (Zdk (Zch o.Steps i) (o.Steps.drop i)),[]):=by
 refine down _ ?_ ?_
 ·refine Z3x _ _ _ ?_
  simp [Zdk]
 ·intro i hi ih
  refine Z3x _ _ _ ?_
  have h4:=inc64 (i:=i) (by omega)
  rw [Z5h _ hi]
  have pn:Zch o.Steps (i+1)=o.Steps[i].From:=by simp [Zch,List.getElem?_eq_getElem hi]
  rw [pn] at ih
  simp only [Int.natCast_add,Int.cast_ofNat_Int] at ih
  rw [if_pos (by omega)]
  refine ⟨by omega,o.Steps[i],by rw [Int.toNat_natCast];exact List.getElem?_eq_getElem hi,_,Zd8 _ _ _,?_⟩
  rcases tf (inR o.Steps[i].From 1 8192) with e1 | e1
  ·rw [e1];simp
  rw [e1,if_pos rfl]
  refine ⟨_,Zbjt _,?_⟩
  unfold Zci
  rcases tf (inR o.Steps[i].Add (-99) 99) with e2 | e2
  ·rw [e2];simp
  rw [e2,if_pos rfl,show w ((i:Int)+1)=(i:Int)+1 from h4]
  cases i with
  | zero =>
   rw [if_neg (by omega),ih]
   have:Zch o.Steps 0<o.Steps[0].From:=by simp [inR] at e1;simp [Zch];omega
   simp [this]
  | succ j =>
   have hj:j<o.Steps.length:=by omega
   have w2:w (((j+1:Nat):Int) - 1)=j:=by rw [show ((j+1:Nat):Int) - 1=j by omega];exact wrap64 (by omega) (by omega)
   have pj:Zch o.Steps (j+1)=o.Steps[j].From:=by simp [Zch,List.getElem?_eq_getElem hj]
   rw [if_pos (by omega),w2,pj]
   refine ⟨by omega,o.Steps[j],by rw [Int.toNat_natCast];exact List.getElem?_eq_getElem hj,?_⟩
   by_cases e3:o.Steps[j+1].From≤o.Steps[j].From
   ·rw [if_pos e3,decide_eq_false (by omega)];simp
   ·rw [if_neg e3,decide_eq_true (by omega),ih];simp
@[simp] theorem Znp (o:Zi) (hl:Le o.Steps):Zem o=some (Bo (Zbc o),[]):=by
 refine Zbgx _ _ ?_
 have b:=Zbju o hl 0 (Nat.zero_le _)
 simp only [Zch,List.drop_zero,Int.ofNat_zero] at b
 have b:Zfg o 0=_:=b
 unfold Zbc
 rcases tf (Zci o.Fixed) with e1 | e1
 ·simp [e1]
 rcases tf (Zci o.Zj) with e2 | e2
 ·simp [e1,e2]
 rcases tf (Zci o.Zk) with e3 | e3
 ·simp [e1,e2,e3]
 rcases tf (Zci o.Zm) with e4 | e4
 ·simp [e1,e2,e3,e4]
 rcases tf (Zci o.Zl) with e5 | e5
 ·simp [e1,e2,e3,e4,e5]
 by_cases e6:o.Steps.length≤4
 ·have e7:¬ (4:Int)<o.Steps.length:=by omega
  simp [e1,e2,e3,e4,e5,e6,e7,b]
 ·have e7:(4:Int)<o.Steps.length:=by omega
  simp [e1,e2,e3,e4,e5,e6,e7]
theorem Zbjv (o:Zi) (hl:Le o.Steps):∀ i,i≤o.Steps.length→Ze4 o o.Steps o.Steps.length i=some (Bo (Zdk (Zch o.Steps i) (o.Steps.drop i) && decide (o.Steps.length≤4)),[]):=by
 refine down _ ?_ ?_
 ·refine Z25 _ _ _ _ _ ?_
  rw [if_neg (by omega)]
  by_cases e:o.Steps.length≤4
  ·simp [Zdk,e];omega
  ·simp [Zdk,e];omega
 ·intro i hi ih
  refine Z25 _ _ _ _ _ ?_
  have h4:=inc64 (i:=i) (by omega)
  rw [Z5h _ hi]
  have pn:Zch o.Steps (i+1)=o.Steps[i].From:=by simp [Zch,List.getElem?_eq_getElem hi]
  rw [pn] at ih
  simp only [Int.natCast_add,Int.cast_ofNat_Int] at ih
  rw [if_pos (by omega)]
  refine ⟨by omega,o.Steps[i],by rw [Int.toNat_natCast];exact List.getElem?_eq_getElem hi,_,Zcs _ _ _,?_⟩
  rcases tf (inR o.Steps[i].Add (-99) 99) with e2 | e2
  ·rw [e2];simp
  rw [e2,if_pos rfl]
  refine ⟨_,Zcs _ _ _,?_⟩
  rcases tf (inR o.Steps[i].From 1 8192) with e1 | e1
  ·rw [e1];simp
  rw [e1,if_pos rfl,show w ((i:Int)+1)=(i:Int)+1 from h4]
  cases i with
  | zero =>
   rw [if_neg (by omega),ih]
   have:Zch o.Steps 0<o.Steps[0].From:=by simp [inR] at e1;simp [Zch];omega
   simp [this]
  | succ j =>
   have hj:j<o.Steps.length:=by omega
   have w2:w (((j+1:Nat):Int) - 1)=j:=by rw [show ((j+1:Nat):Int) - 1=j by omega];exact wrap64 (by omega) (by omega)
   have pj:Zch o.Steps (j+1)=o.Steps[j].From:=by simp [Zch,List.getElem?_eq_getElem hj]
   rw [if_pos (by omega),w2,pj]
   refine ⟨by omega,o.Steps[j],by rw [Int.toNat_natCast];exact List.getElem?_eq_getElem hj,?_⟩
   by_cases e3:o.Steps[j+1].From≤o.Steps[j].From
   ·rw [if_pos e3,decide_eq_false (by omega)];simp
   ·rw [if_neg e3,decide_eq_true (by omega),ih];simp
@[simp] theorem Zcj (o:Zi) (hl:Le o.Steps):Zbq o=some (Bo (Zbc o),[]):=by
 refine Zbfv _ _ ?_
 have hc:Zla o=some (.bsl 1 5,[.box (o.c.map .t),.box [.ptr 0 0,.ptr 0 1,.ptr 0 2,.ptr 0 3,.ptr 0 4]]):=Zbfu _ _ rfl
 refine ⟨hc,?_⟩
 have b:=Zbjv o hl 0 (Nat.zero_le _)
 simp only [Zch,List.drop_zero] at b
 have b:Ze4 o o.Steps o.Steps.length 0=_:=b
 have w1:w (0+1)=1:=by decide
 have w2:w (1+1)=2:=by decide
 have w3:w (2+1)=3:=by decide
 have w4:w (3+1)=4:=by decide
 have w5:w (4+1)=5:=by decide
 unfold Zbc Zci
 refine Zkb _ _ _ _ ?_
 rw [if_pos (by omega),if_pos rfl]
 refine ⟨_,Zcs _ _ _,?_⟩
 rcases tf (inR o.Fixed (-99) 99) with e1 | e1
 ·rw [e1];simp
 rw [e1,if_pos rfl,w1]
 refine Zkb _ _ _ _ ?_
 rw [if_pos (by omega),if_neg (by omega),if_pos rfl]
 refine ⟨_,Zcs _ _ _,?_⟩
 rcases tf (inR o.Zj (-99) 99) with e2 | e2
 ·rw [e2];simp
 rw [e2,if_pos rfl,w2]
 refine Zkb _ _ _ _ ?_
 rw [if_pos (by omega),if_neg (by omega),if_neg (by omega),if_pos rfl]
 refine ⟨_,Zcs _ _ _,?_⟩
 rcases tf (inR o.Zk (-99) 99) with e3 | e3
 ·rw [e3];simp
 rw [e3,if_pos rfl,w3]
 refine Zkb _ _ _ _ ?_
 rw [if_pos (by omega),if_neg (by omega),if_neg (by omega),if_neg (by omega),if_pos rfl]
 refine ⟨_,Zcs _ _ _,?_⟩
 rcases tf (inR o.Zm (-99) 99) with e4 | e4
 ·rw [e4];simp
 rw [e4,if_pos rfl,w4]
 refine Zkb _ _ _ _ ?_
 rw [if_pos (by omega),if_neg (by omega),if_neg (by omega),if_neg (by omega),if_neg (by omega),if_pos rfl]
 refine ⟨_,Zcs _ _ _,?_⟩
 rcases tf (inR o.Zl (-99) 99) with e5 | e5
 ·rw [e5];simp
 rw [e5,if_pos rfl,w5]
 refine Zkb _ _ _ _ ?_
 rw [if_neg (by omega),b]
 simp [Bool.and_comm]
def Zfu (o:Zi) (l r n:Int):Int:=w (w (w (w (o.Fixed+w (o.Zj*l))+w (o.Zk*r))+w (o.Zm*n))+w (w (o.Zl*l)*r))
def Zdl (l r:Int) (n:Int) (s:Zg):Int:=if s.From≤w (l+r) then w (n+s.Add) else n
def Zke (o:Zi) (l r n:Int):Int:=o.Steps.foldl (Zdl l r) (Zfu o l r n)
def Z9 (o:Zi) (l r n:Int):Int:=if (Zbc o && inR l 0 4096 && inR r 0 4096 && inR n 0 4096)=true then Zke o l r n else 0
theorem Zbjw (l r:Int) (st:List Zg) (hl:Le st):∀ i,i≤st.length→∀ n,Zf9 l r n st st.length i=some (I ((st.drop i).foldl (Zdl l r) n),[]):=by
 refine down _ ?_ ?_
 ·intro n
  refine Z29 _ _ _ _ _ _ _ ?_
  simp
 ·intro i hi ih n
  refine Z29 _ _ _ _ _ _ _ ?_
  have h4:=inc64 (i:=i) (by omega)
  rw [List.drop_eq_getElem_cons hi,List.foldl_cons]
  simp only [Int.natCast_add,Int.cast_ofNat_Int] at ih
  by_cases e:st[i].From≤w (l+r)
  ·simp [hi,h4,e,ih,Zdl]
  ·simp [hi,h4,e,ih,Zdl]
@[simp] theorem Zbqk (o:Zi) (hl:Le o.Steps) (l r n:Int):Zhy o l r n=some (I (Zke o l r n),[]):=by
 refine Zbfz _ _ _ _ _ ?_
 have b:=Zbjw l r o.Steps hl 0 (Nat.zero_le _) (Zfu o l r n)
 simpa [Zke,Zfu] using b
@[simp] theorem Zes (o:Zi) (hl:Le o.Steps) (l r n:Int):Zbm o l r n=some (I (Z9 o l r n),[]):=by
 refine Zbf6 _ _ _ _ _ ?_
 unfold Z9
 rcases tf (Zbc o) with e1 | e1 <;> rcases tf (inR l 0 4096) with e2 | e2 <;> rcases tf (inR r 0 4096) with e3 | e3 <;> rcases tf (inR n 0 4096) with e4 | e4 <;> simp [hl,e1,e2,e3,e4]
theorem Zbjx (o:Zi) (l r:Int) (hl:Le o.Steps):∀ i,i≤o.Steps.length→∀ n,Zfi o l r n i=some (I ((o.Steps.drop i).foldl (Zdl l r) n),[]):=by
 refine down _ ?_ ?_
 ·intro n
  refine Z3y _ _ _ _ _ _ ?_
  simp
 ·intro i hi ih n
  refine Z3y _ _ _ _ _ _ ?_
  have h4:=inc64 (i:=i) (by omega)
  rw [List.drop_eq_getElem_cons hi,List.foldl_cons]
  simp only [Int.natCast_add,Int.cast_ofNat_Int] at ih
  by_cases e:o.Steps[i].From≤w (l+r)
  ·simp [hi,h4,e,ih,Zdl]
  ·simp [hi,h4,e,ih,Zdl]
@[simp] theorem Zd9 (o:Zi) (hl:Le o.Steps) (l r n:Int):Zbw o l r n=some (I (Z9 o l r n),[]):=by
 refine Zbg0 _ _ _ _ _ ?_
 have b:=Zbjx o l r hl 0 (Nat.zero_le _) (Zfu o l r n)
 simp only [List.drop_zero,Zfu] at b
 have b:Zfi o l r _ 0=_:=b
 unfold Z9
 rcases tf (Zbc o) with e1 | e1 <;> rcases tf (inR l 0 4096) with e2 | e2 <;> rcases tf (inR r 0 4096) with e3 | e3 <;> rcases tf (inR n 0 4096) with e4 | e4 <;> simp [hl,e1,e2,e3,e4,b,Zke,Zfu]
end Go.Proofs.YtbapkgocloaaeaaGreat
