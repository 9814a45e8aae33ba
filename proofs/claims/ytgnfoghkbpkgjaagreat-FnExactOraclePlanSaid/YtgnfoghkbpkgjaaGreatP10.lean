/-
  Parts of the proofs for this seat: G5 G6 G7 G8 G9 G10 G11 G12 G13 G14 V1 V2 V3.
-/
import Derived.Test.YtgnfoghkbpkgjaaGreatP7
import Derived.Test.YtgnfoghkbpkgjaaGreatP9
set_option linter.unusedSimpArgs false
set_option linter.unusedVariables false
set_option maxRecDepth 100000
set_option maxHeartbeats 4000000
namespace Go.Proofs.YtgnfoghkbpkgjaaGreat
open Go.AM
theorem Zf5:(∀ a a1 a2 a3 r,Im (Zis a a1 a2 a3=some r) (if a1.Kind=1 then (∃ v1_0,Zy a1.Atom 0 (w ((a.Atoms.length:Int) - 1))=some (Bo v1_0,[])∧(if v1_0=true then (if a1.Order=0 then (¬ a1.Atom<0∧(0≤a1.Atom∧(∃ e2,a.Atoms[a1.Atom.toNat]?=some e2∧(∃ e3,e2.Vars[0]?=some e3∧(some (.tup [.agg [I (shlI 1 a1.Atom),I e3,I (-1),I (-1)],Bo true],[])=some r))))) else (some (.tup [.agg [I 0,I (-1),I (-1),I (-1)],Bo false],[])=some r)) else (some (.tup [.agg [I 0,I (-1),I (-1),I (-1)],Bo false],[])=some r))) else (if a1.Atom=0 then (if a1.Kind=2 then (if (a3.length:Int)<1 then (some (.tup [.agg [I 0,I (-1),I (-1),I (-1)],Bo false],[])=some r) else (0≤(w ((a3.length:Int) - 1))∧(∃ e4,a3[(w ((a3.length:Int) - 1)).toNat]?=some e4∧(0≤e4∧(∃ e5,a2[e4.toNat]?=some e5∧(∃ (v6_0:List Int),Zc1 a e5.Mask=some (.own 0,[.arr 3 1 true (v6_0.map ic)])∧(∃ v7_0,Zeb v6_0 a1.Order=some (Bo v7_0,[])∧(if v7_0=true then (if e5.Order=a1.Order then (some (.tup [.agg [I 0,I (-1),I (-1),I (-1)],Bo false],[])=some r) else (some (.tup [.agg [I e5.Mask,I a1.Order,I e4,I (-1)],Bo true],[])=some r)) else (some (.tup [.agg [I 0,I (-1),I (-1),I (-1)],Bo false],[])=some r))))))))) else (if (a3.length:Int)<2 then (some (.tup [.agg [I 0,I (-1),I (-1),I (-1)],Bo false],[])=some r) else (0≤(w ((a3.length:Int) - 2))∧(∃ e8,a3[(w ((a3.length:Int) - 2)).toNat]?=some e8∧(0≤(w ((a3.length:Int) - 1))∧(∃ e9,a3[(w ((a3.length:Int) - 1)).toNat]?=some e9∧(0≤e8∧(∃ e10,a2[e8.toNat]?=some e10∧(0≤e9∧(∃ e11,a2[e9.toNat]?=some e11∧(∃ (v12_0:List Int),Zc1 a e10.Mask=some (.own 0,[.arr 3 1 true (v12_0.map ic)])∧(∃ (v13_0:List Int),Zc1 a e11.Mask=some (.own 0,[.arr 3 1 true (v13_0.map ic)])∧(∃ (v14_0:List Int),Zfl v12_0 v13_0=some (.own 0,[.arr 3 1 true (v14_0.map ic)])∧(if (andI e10.Mask e11.Mask)=0 then (if (v14_0.length:Int)=0 then (some (.tup [.agg [I (orI e10.Mask e11.Mask),I (-1),I e8,I e9],Bo false],[])=some r) else (if a1.Kind=3 then (some (.tup [.agg [I (orI e10.Mask e11.Mask),I (-1),I e8,I e9],Bo (decide (a1.Order=0))],[])=some r) else (if a1.Kind=5 then (some (.tup [.agg [I (orI e10.Mask e11.Mask),I e10.Order,I e8,I e9],Bo (decide (a1.Order=0))],[])=some r) else (if a1.Kind=4 then (∃ v15_0,Zeb v14_0 a1.Order=some (Bo v15_0,[])∧(if v15_0=true then (if e10.Order=a1.Order then (some (.tup [.agg [I (orI e10.Mask e11.Mask),I a1.Order,I e8,I e9],Bo (decide (e11.Order=a1.Order))],[])=some r) else (some (.tup [.agg [I (orI e10.Mask e11.Mask),I a1.Order,I e8,I e9],Bo false],[])=some r)) else (some (.tup [.agg [I (orI e10.Mask e11.Mask),I a1.Order,I e8,I e9],Bo false],[])=some r))) else (some (.tup [.agg [I (orI e10.Mask e11.Mask),I (-1),I e8,I e9],Bo false],[])=some r))))) else (some (.tup [.agg [I (orI e10.Mask e11.Mask),I (-1),I e8,I e9],Bo false],[])=some r))))))))))))))) else (some (.tup [.agg [I 0,I (-1),I (-1),I (-1)],Bo false],[])=some r)))) ∧
 (∀ q info stack x x1 x2 r,Im (Zg3 q info stack x x1 x2=some r) (if x2<x1 then (0≤x2∧(∃ e1,x[x2.toNat]?=some e1∧(∃ (v2_0:Zk),∃ v2_1,Zis q e1 info stack=some (.tup [.agg (v2_0.c.map .t),Bo v2_1],[])∧(if v2_1=true then (info.length+1≤68719476736∧(if 0≤v2_0.Right then (0≤(w ((stack.length:Int) - 2))∧((w ((stack.length:Int) - 2)).toNat≤stack.length∧((w ((stack.length:Int) - 2)).toNat+1≤68719476736∧(Zg3 q (info++[v2_0]) ((stack.take ((w ((stack.length:Int) - 2)).toNat))++[x2]) x x1 (w (x2+1))=some r)))) else (if 0≤v2_0.Left then (0≤(w ((stack.length:Int) - 1))∧((w ((stack.length:Int) - 1)).toNat≤stack.length∧((w ((stack.length:Int) - 1)).toNat+1≤68719476736∧(Zg3 q (info++[v2_0]) ((stack.take ((w ((stack.length:Int) - 1)).toNat))++[x2]) x x1 (w (x2+1))=some r)))) else (stack.length+1≤68719476736∧(Zg3 q (info++[v2_0]) (stack++[x2]) x x1 (w (x2+1))=some r))))) else (some (.tup [.t .nil,Bo false],[])=some r))))) else (if (stack.length:Int)=1 then (some (.tup [.own 0,Bo true],[.arr 209 4 true (info.map Zk.c)])=some r) else (some (.tup [.t .nil,Bo false],[])=some r)))) ∧
 (∀ a a1 r,Im (Zld a a1=some r) (∃ v1_0,Zc0 a=some (Bo v1_0,[])∧(if v1_0=true then (∃ v2_0,Zy (a1.Steps.length:Int) 1 14=some (Bo v2_0,[])∧(if v2_0=true then (Zg3 a ([]:List Zk) ([]:List Int) a1.Steps (a1.Steps.length:Int) 0=some r) else (some (.tup [.t .nil,Bo false],[])=some r))) else (some (.tup [.t .nil,Bo false],[])=some r)))) ∧
 (∀ a a1 a2 a3 r,Im (Zbg a a1 a2 a3=some r) (∃ v1_0,Zbi a=some (Bo v1_0,[])∧(if v1_0=true then (∃ v2_0,Zy a1 0 4096=some (Bo v2_0,[])∧(if v2_0=true then (∃ v3_0,Zy a2 0 4096=some (Bo v3_0,[])∧(if v3_0=true then (∃ v4_0,Zy a3 0 4096=some (Bo v4_0,[])∧(if v4_0=true then (∃ v5_0,Zie a a1 a2 a3=some (I v5_0,[])∧(some (I v5_0,[])=some r)) else (some (I 0,[])=some r))) else (some (I 0,[])=some r))) else (some (I 0,[])=some r))) else (some (I 0,[])=some r)))) ∧
 (∀ m info out sizes x x1 x2 r,Im (Zbc m info out sizes x x1 x2=some r) (if x2<x1 then (0≤x2∧(∃ e1,x[x2.toNat]?=some e1∧(∃ e2,info[x2.toNat]?=some e2∧(0≤e2.Mask∧(∃ e3,sizes[e2.Mask.toNat]?=some e3∧(if 0≤e2.Left then (∃ e4,info[e2.Left.toNat]?=some e4∧(0≤e4.Mask∧(∃ e5,sizes[e4.Mask.toNat]?=some e5∧(if 0≤e2.Right then (∃ e6,info[e2.Right.toNat]?=some e6∧(0≤e6.Mask∧(∃ e7,sizes[e6.Mask.toNat]?=some e7∧(Zit m info out e1 sizes x2 e5 e7 x x1 x2=some r)))) else (Ziu m info out e1 sizes x2 e5 0 x x1 x2 false=some r))))) else (if 0≤e2.Right then (∃ e8,info[e2.Right.toNat]?=some e8∧(0≤e8.Mask∧(∃ e9,sizes[e8.Mask.toNat]?=some e9∧(Zit m info out e1 sizes x2 e3 e9 x x1 x2=some r)))) else (Ziu m info out e1 sizes x2 e3 0 x x1 x2 false=some r)))))))) else (some (.own 0,[.arr 3 1 true (out.map ic)])=some r))) ∧
 (∀ a a1 a2 a3 r,Im (Zg4 a a1 a2 a3=some r) ((Zld a1 a2=some (.tup [.t .nil,Bo false],[])∧(some (.t .nil,[])=some r))∨(∃ (v2_0:List Zk),Zld a1 a2=some (.tup [.own 0,Bo true],[.arr 209 4 true (v2_0.map Zk.c)])∧(∃ v3_0,Zg2 a1 a3=some (Bo v3_0,[])∧(if v3_0=true then (Zbc a v2_0 ([]:List Int) a3 a2.Steps (a2.Steps.length:Int) 0=some r) else (some (.t .nil,[])=some r)))))) ∧
 (∀ n x x1 x2 r,Im (Zli n x x1 x2=some r) (if x2<x1 then (0≤x2∧(∃ e1,x[x2.toNat]?=some e1∧(Zli (w (n+e1)) x x1 (w (x2+1))=some r))) else (some (I n,[])=some r))) ∧
 (∀ a r,Im (Zlh a=some r) (Zli 0 a (a.length:Int) 0=some r)):=by
 and_intros
 all_goals intros
 all_goals unfold Im
 all_goals try simp only [Zis,Zg3,Zld,Zbg,Zbc,Zg4,Zli,Zlh,Zy,Zc1,Zeb,Zfl,Zc.c_def,Zb.c_def,Zk.c_def,Zc0,Zbi,Zie,Zj.c_def,Zg2,Plan.c_def,Zit,Ziu,mpl,dfs]
 all_goals try simp only [itb]
 all_goals try simp only [itf,gS,kk]
 all_goals repeat' first | refine exI fun _=>?_ | refine anJ fun _ _=>?_ | refine anI fun _=>?_ | refine orE2 ?_ ?_ | exact False.elim
 all_goals (intro h;first | refine run Zbdi rfl ?_ | rw [EvL_eq Ztg.eq_1] | refine run Zbdj rfl ?_ | refine run Zbdk rfl ?_ | rw [EvL_eq Zlf.eq_1] | refine run Zbdl rfl ?_ | rw [EvL_eq Zti.eq_1] | refine run Zbdm rfl ?_)
 all_goals (refine Eq.trans ?_ h;clear h;simp +decide [*,kk,tI,tII,Z0k,Z0l,Zth,Z0m,Z0n,Z0o,Zlg,Z0p,Ztj,Z0q])
abbrev Zf6:=Zf5.1
abbrev Z4h:=Zf5.2.1
abbrev Zbg4:=Zf5.2.2.1
abbrev Zbg5:=Zf5.2.2.2.1
abbrev Z4i:=Zf5.2.2.2.2.1
abbrev Zwb:=Zf5.2.2.2.2.2.1
abbrev Z4j:=Zf5.2.2.2.2.2.2.1
abbrev Zbg6:=Zf5.2.2.2.2.2.2.2
theorem Zbg7 (m:Zd) (info:List Zk) (out:List Int) (x:Zb) (sizes:List Int) (i:Int) (left:Int) (right:Int) (x1:List Zb) (x2:Int) (x3:Int) (r:AV×List Blk) (h:(Zec m=some (.bsl 1 5,[.box (m.c.map .t),.box [.ptr 0 0,.ptr 0 6,.ptr 0 12,.ptr 0 18,.ptr 0 24]])∧(if (w (x.Kind - 1))=0 then (0≤i∧(∃ (e2:Zk),info[i.toNat]?=some e2∧(0≤e2.Mask∧(∃ (e3:Int),sizes[e2.Mask.toNat]?=some e3∧(∃ (v4_0:Int),Zbg m.Scan left right e3=some (I v4_0,[])∧(out.length+1≤68719476736∧(Zbc m info (out++[v4_0]) sizes x1 x2 (w (x3+1))=some r))))))) else (if (w (x.Kind - 1))=1 then (0≤i∧(∃ (e5:Zk),info[i.toNat]?=some e5∧(0≤e5.Mask∧(∃ (e6:Int),sizes[e5.Mask.toNat]?=some e6∧(∃ (v7_0:Int),Zbg m.Sort_ left right e6=some (I v7_0,[])∧(out.length+1≤68719476736∧(Zbc m info (out++[v7_0]) sizes x1 x2 (w (x3+1))=some r))))))) else (if (w (x.Kind - 1))=2 then (0≤i∧(∃ (e8:Zk),info[i.toNat]?=some e8∧(0≤e8.Mask∧(∃ (e9:Int),sizes[e8.Mask.toNat]?=some e9∧(∃ (v10_0:Int),Zbg m.Hash left right e9=some (I v10_0,[])∧(out.length+1≤68719476736∧(Zbc m info (out++[v10_0]) sizes x1 x2 (w (x3+1))=some r))))))) else (if (w (x.Kind - 1))=3 then (0≤i∧(∃ (e11:Zk),info[i.toNat]?=some e11∧(0≤e11.Mask∧(∃ (e12:Int),sizes[e11.Mask.toNat]?=some e12∧(∃ (v13_0:Int),Zbg m.Merge left right e12=some (I v13_0,[])∧(out.length+1≤68719476736∧(Zbc m info (out++[v13_0]) sizes x1 x2 (w (x3+1))=some r))))))) else (if (w (x.Kind - 1))=4 then (0≤i∧(∃ (e14:Zk),info[i.toNat]?=some e14∧(0≤e14.Mask∧(∃ (e15:Int),sizes[e14.Mask.toNat]?=some e15∧(∃ (v16_0:Int),Zbg m.Nested left right e15=some (I v16_0,[])∧(out.length+1≤68719476736∧(Zbc m info (out++[v16_0]) sizes x1 x2 (w (x3+1))=some r))))))) else False))))))):Zit m info out x sizes i left right x1 x2 x3=some r:=by
 unfold Zit
 rw [Ev_eq Zle.eq_1]
 obtain ⟨q1,h⟩:=h
 unfold Zec at q1
 try simp at q1
 by_cases q2:(w (x.Kind - 1))=0
 ·rw [if_pos q2] at h
  obtain ⟨q3,h⟩:=h
  obtain ⟨e2,q4,h⟩:=h
  have gq4:=ltOfGet q4
  have kq4:=getOf q4
  obtain ⟨q5,h⟩:=h
  obtain ⟨e3,q6,h⟩:=h
  have gq6:=ltOfGet q6
  have kq6:=getOf q6
  obtain ⟨v4_0,q7,h⟩:=h
  unfold Zbg at q7
  try simp at q7
  obtain ⟨q8,h⟩:=h
  have rq8:=roomA (b:=8) q8 (by omega)
  have sq8:=roomB q8
  try simp [*] at rq8
  try simp [*] at sq8
  refine Eq.trans ?_ h
  clear h
  simp +decide [*,tI,tII,Zbc]
 ·rw [if_neg q2] at h
  replace q2:=eq_false q2
  by_cases q9:(w (x.Kind - 1))=1
  ·rw [if_pos q9] at h
   obtain ⟨q10,h⟩:=h
   obtain ⟨e5,q11,h⟩:=h
   have gq11:=ltOfGet q11
   have kq11:=getOf q11
   obtain ⟨q12,h⟩:=h
   obtain ⟨e6,q13,h⟩:=h
   have gq13:=ltOfGet q13
   have kq13:=getOf q13
   obtain ⟨v7_0,q14,h⟩:=h
   unfold Zbg at q14
   try simp at q14
   obtain ⟨q15,h⟩:=h
   have rq15:=roomA (b:=8) q15 (by omega)
   have sq15:=roomB q15
   try simp [*] at rq15
   try simp [*] at sq15
   refine Eq.trans ?_ h
   clear h
   simp +decide [*,tI,tII,Zbc]
  ·rw [if_neg q9] at h
   replace q9:=eq_false q9
   by_cases q16:(w (x.Kind - 1))=2
   ·rw [if_pos q16] at h
    obtain ⟨q17,h⟩:=h
    obtain ⟨e8,q18,h⟩:=h
    have gq18:=ltOfGet q18
    have kq18:=getOf q18
    obtain ⟨q19,h⟩:=h
    obtain ⟨e9,q20,h⟩:=h
    have gq20:=ltOfGet q20
    have kq20:=getOf q20
    obtain ⟨v10_0,q21,h⟩:=h
    unfold Zbg at q21
    try simp at q21
    obtain ⟨q22,h⟩:=h
    have rq22:=roomA (b:=8) q22 (by omega)
    have sq22:=roomB q22
    try simp [*] at rq22
    try simp [*] at sq22
    refine Eq.trans ?_ h
    clear h
    simp +decide [*,tI,tII,Zbc]
   ·rw [if_neg q16] at h
    replace q16:=eq_false q16
    by_cases q23:(w (x.Kind - 1))=3
    ·rw [if_pos q23] at h
     obtain ⟨q24,h⟩:=h
     obtain ⟨e11,q25,h⟩:=h
     have gq25:=ltOfGet q25
     have kq25:=getOf q25
     obtain ⟨q26,h⟩:=h
     obtain ⟨e12,q27,h⟩:=h
     have gq27:=ltOfGet q27
     have kq27:=getOf q27
     obtain ⟨v13_0,q28,h⟩:=h
     unfold Zbg at q28
     try simp at q28
     obtain ⟨q29,h⟩:=h
     have rq29:=roomA (b:=8) q29 (by omega)
     have sq29:=roomB q29
     try simp [*] at rq29
     try simp [*] at sq29
     refine Eq.trans ?_ h
     clear h
     simp +decide [*,tI,tII,Zbc]
    ·rw [if_neg q23] at h
     replace q23:=eq_false q23
     by_cases q30:(w (x.Kind - 1))=4
     ·rw [if_pos q30] at h
      obtain ⟨q31,h⟩:=h
      obtain ⟨e14,q32,h⟩:=h
      have gq32:=ltOfGet q32
      have kq32:=getOf q32
      obtain ⟨q33,h⟩:=h
      obtain ⟨e15,q34,h⟩:=h
      have gq34:=ltOfGet q34
      have kq34:=getOf q34
      obtain ⟨v16_0,q35,h⟩:=h
      unfold Zbg at q35
      try simp at q35
      obtain ⟨q36,h⟩:=h
      have rq36:=roomA (b:=8) q36 (by omega)
      have sq36:=roomB q36
      try simp [*] at rq36
      try simp [*] at sq36
      refine Eq.trans ?_ h
      clear h
      simp +decide [*,tI,tII,Zbc]
     ·rw [if_neg q30] at h
      replace q30:=eq_false q30
      cases h
theorem Zbg8 (m:Zd) (info:List Zk) (out:List Int) (x:Zb) (sizes:List Int) (i:Int) (left:Int) (right:Int) (x1:List Zb) (x2:Int) (x3:Int) (x4:Bool) (r:AV×List Blk) (h:(Zec m=some (.bsl 1 5,[.box (m.c.map .t),.box [.ptr 0 0,.ptr 0 6,.ptr 0 12,.ptr 0 18,.ptr 0 24]])∧(if (w (x.Kind - 1))=0 then (0≤i∧(∃ (e2:Zk),info[i.toNat]?=some e2∧(0≤e2.Mask∧(∃ (e3:Int),sizes[e2.Mask.toNat]?=some e3∧(∃ (v4_0:Int),Zbg m.Scan left right e3=some (I v4_0,[])∧(out.length+1≤68719476736∧(Zbc m info (out++[v4_0]) sizes x1 x2 (w (x3+1))=some r))))))) else (if (w (x.Kind - 1))=1 then (0≤i∧(∃ (e5:Zk),info[i.toNat]?=some e5∧(0≤e5.Mask∧(∃ (e6:Int),sizes[e5.Mask.toNat]?=some e6∧(∃ (v7_0:Int),Zbg m.Sort_ left right e6=some (I v7_0,[])∧(out.length+1≤68719476736∧(Zbc m info (out++[v7_0]) sizes x1 x2 (w (x3+1))=some r))))))) else (if (w (x.Kind - 1))=2 then (0≤i∧(∃ (e8:Zk),info[i.toNat]?=some e8∧(0≤e8.Mask∧(∃ (e9:Int),sizes[e8.Mask.toNat]?=some e9∧(∃ (v10_0:Int),Zbg m.Hash left right e9=some (I v10_0,[])∧(out.length+1≤68719476736∧(Zbc m info (out++[v10_0]) sizes x1 x2 (w (x3+1))=some r))))))) else (if (w (x.Kind - 1))=3 then (0≤i∧(∃ (e11:Zk),info[i.toNat]?=some e11∧(0≤e11.Mask∧(∃ (e12:Int),sizes[e11.Mask.toNat]?=some e12∧(∃ (v13_0:Int),Zbg m.Merge left right e12=some (I v13_0,[])∧(out.length+1≤68719476736∧(Zbc m info (out++[v13_0]) sizes x1 x2 (w (x3+1))=some r))))))) else (if (w (x.Kind - 1))=4 then (0≤i∧(∃ (e14:Zk),info[i.toNat]?=some e14∧(0≤e14.Mask∧(∃ (e15:Int),sizes[e14.Mask.toNat]?=some e15∧(∃ (v16_0:Int),Zbg m.Nested left right e15=some (I v16_0,[])∧(out.length+1≤68719476736∧(Zbc m info (out++[v16_0]) sizes x1 x2 (w (x3+1))=some r))))))) else False))))))):Ziu m info out x sizes i left right x1 x2 x3 x4=some r:=by
 unfold Ziu
 rw [Ev_eq Zle.eq_1]
 obtain ⟨q1,h⟩:=h
 unfold Zec at q1
 try simp at q1
 by_cases q2:(w (x.Kind - 1))=0
 ·rw [if_pos q2] at h
  obtain ⟨q3,h⟩:=h
  obtain ⟨e2,q4,h⟩:=h
  have gq4:=ltOfGet q4
  have kq4:=getOf q4
  obtain ⟨q5,h⟩:=h
  obtain ⟨e3,q6,h⟩:=h
  have gq6:=ltOfGet q6
  have kq6:=getOf q6
  obtain ⟨v4_0,q7,h⟩:=h
  unfold Zbg at q7
  try simp at q7
  obtain ⟨q8,h⟩:=h
  have rq8:=roomA (b:=8) q8 (by omega)
  have sq8:=roomB q8
  try simp [*] at rq8
  try simp [*] at sq8
  refine Eq.trans ?_ h
  clear h
  simp +decide [*,tI,tII,Zbc]
 ·rw [if_neg q2] at h
  replace q2:=eq_false q2
  by_cases q9:(w (x.Kind - 1))=1
  ·rw [if_pos q9] at h
   obtain ⟨q10,h⟩:=h
   obtain ⟨e5,q11,h⟩:=h
   have gq11:=ltOfGet q11
   have kq11:=getOf q11
   obtain ⟨q12,h⟩:=h
   obtain ⟨e6,q13,h⟩:=h
   have gq13:=ltOfGet q13
   have kq13:=getOf q13
   obtain ⟨v7_0,q14,h⟩:=h
   unfold Zbg at q14
   try simp at q14
   obtain ⟨q15,h⟩:=h
   have rq15:=roomA (b:=8) q15 (by omega)
   have sq15:=roomB q15
   try simp [*] at rq15
   try simp [*] at sq15
   refine Eq.trans ?_ h
   clear h
   simp +decide [*,tI,tII,Zbc]
  ·rw [if_neg q9] at h
   replace q9:=eq_false q9
   by_cases q16:(w (x.Kind - 1))=2
   ·rw [if_pos q16] at h
    obtain ⟨q17,h⟩:=h
    obtain ⟨e8,q18,h⟩:=h
    have gq18:=ltOfGet q18
    have kq18:=getOf q18
    obtain ⟨q19,h⟩:=h
    obtain ⟨e9,q20,h⟩:=h
    have gq20:=ltOfGet q20
    have kq20:=getOf q20
    obtain ⟨v10_0,q21,h⟩:=h
    unfold Zbg at q21
    try simp at q21
    obtain ⟨q22,h⟩:=h
    have rq22:=roomA (b:=8) q22 (by omega)
    have sq22:=roomB q22
    try simp [*] at rq22
    try simp [*] at sq22
    refine Eq.trans ?_ h
    clear h
    simp +decide [*,tI,tII,Zbc]
   ·rw [if_neg q16] at h
    replace q16:=eq_false q16
    by_cases q23:(w (x.Kind - 1))=3
    ·rw [if_pos q23] at h
     obtain ⟨q24,h⟩:=h
     obtain ⟨e11,q25,h⟩:=h
     have gq25:=ltOfGet q25
     have kq25:=getOf q25
     obtain ⟨q26,h⟩:=h
     obtain ⟨e12,q27,h⟩:=h
     have gq27:=ltOfGet q27
     have kq27:=getOf q27
     obtain ⟨v13_0,q28,h⟩:=h
     unfold Zbg at q28
     try simp at q28
     obtain ⟨q29,h⟩:=h
     have rq29:=roomA (b:=8) q29 (by omega)
     have sq29:=roomB q29
     try simp [*] at rq29
     try simp [*] at sq29
     refine Eq.trans ?_ h
     clear h
     simp +decide [*,tI,tII,Zbc]
    ·rw [if_neg q23] at h
     replace q23:=eq_false q23
     by_cases q30:(w (x.Kind - 1))=4
     ·rw [if_pos q30] at h
      obtain ⟨q31,h⟩:=h
      obtain ⟨e14,q32,h⟩:=h
      have gq32:=ltOfGet q32
      have kq32:=getOf q32
      obtain ⟨q33,h⟩:=h
      obtain ⟨e15,q34,h⟩:=h
      have gq34:=ltOfGet q34
      have kq34:=getOf q34
      obtain ⟨v16_0,q35,h⟩:=h
      unfold Zbg at q35
      try simp at q35
      obtain ⟨q36,h⟩:=h
      have rq36:=roomA (b:=8) q36 (by omega)
      have sq36:=roomB q36
      try simp [*] at rq36
      try simp [*] at sq36
      refine Eq.trans ?_ h
      clear h
      simp +decide [*,tI,tII,Zbc]
     ·rw [if_neg q30] at h
      replace q30:=eq_false q30
      cases h
theorem Zbg9 (a:Zd) (a1:Zc) (a2:Plan) (a3:List Int) (r:AV×List Blk) (h:((Zg4 a a1 a2 a3=some (.t .nil,[])∧(some (I (-1),[])=some r))∨(∃ (v2_0:List Int),Zg4 a a1 a2 a3=some (.own 0,[.arr 3 1 true (v2_0.map ic)])∧(v2_0≠[]∧(∃ (v3_0:Int),Zlh v2_0=some (I v3_0,[])∧(some (I v3_0,[])=some r)))))):Zg5 a a1 a2 a3=some r:=by
 unfold Zg5
 refine run Zbdn rfl ?_
 rcases h with h | h
 ·
  obtain ⟨q1,h⟩:=h
  unfold Zg4 at q1
  try simp at q1
  refine Eq.trans ?_ h
  clear h
  simp +decide [*,Ztk,tI,tII]
 ·
  obtain ⟨v2_0,q2,h⟩:=h
  unfold Zg4 at q2
  try simp at q2
  obtain ⟨q3,h⟩:=h
  obtain ⟨yq3,ysq3,eq3⟩:=List.exists_cons_of_ne_nil q3
  first | subst eq3 | skip
  obtain ⟨v3_0,q4,h⟩:=h
  unfold Zlh at q4
  try simp at q4
  refine Eq.trans ?_ h
  clear h
  simp +decide [*,Ztk,tI,tII]
theorem Zcf (m:Zd) (q:Zc) (sizes:List Int) (mask:Int) (list0:Za) (list1:Za) (list2:Za) (list3:Za) (list4:Za) (some0:Bool) (some1:Bool) (some2:Bool) (some3:Bool) (some4:Bool) (x:List Zb) (a:Int) (r:AV×List Blk) (h:(∃ (v1_0:Int),Zg5 m q (⟨x⟩:Plan) sizes=some (I v1_0,[])∧(if (w (a+1))=0 then (if some0=true then (if v1_0<list0.Cost then (some (.tup [],[.box [I m.Scan.Fixed,I m.Scan.Zl,I m.Scan.Zm,I m.Scan.Zo,I m.Scan.Zn,L 2 (m.Scan.Steps.map Zf.c),I m.Sort_.Fixed,I m.Sort_.Zl,I m.Sort_.Zm,I m.Sort_.Zo,I m.Sort_.Zn,L 2 (m.Sort_.Steps.map Zf.c),I m.Hash.Fixed,I m.Hash.Zl,I m.Hash.Zm,I m.Hash.Zo,I m.Hash.Zn,L 2 (m.Hash.Steps.map Zf.c),I m.Merge.Fixed,I m.Merge.Zl,I m.Merge.Zm,I m.Merge.Zo,I m.Merge.Zn,L 2 (m.Merge.Steps.map Zf.c),I m.Nested.Fixed,I m.Nested.Zl,I m.Nested.Zm,I m.Nested.Zo,I m.Nested.Zn,L 2 (m.Nested.Steps.map Zf.c),I q.Ze,L 2 (q.Atoms.map Atom.c),L 1 (sizes.map ic),I mask,I mask,I a,I v1_0,L 3 (x.map Zb.c),I list1.Mask,I list1.Order,I list1.Cost,L 3 (list1.Plan.Steps.map Zb.c),I list2.Mask,I list2.Order,I list2.Cost,L 3 (list2.Plan.Steps.map Zb.c),I list3.Mask,I list3.Order,I list3.Cost,L 3 (list3.Plan.Steps.map Zb.c),I list4.Mask,I list4.Order,I list4.Cost,L 3 (list4.Plan.Steps.map Zb.c),Bo true,Bo some1,Bo some2,Bo some3,Bo some4],.dead])=some r) else (some (.tup [],[boxO m q sizes mask list0 list1 list2 list3 list4 some0 some1 some2 some3 some4,.arr 194 3 true (x.map Zb.c)])=some r)) else (some (.tup [],[.box [I m.Scan.Fixed,I m.Scan.Zl,I m.Scan.Zm,I m.Scan.Zo,I m.Scan.Zn,L 2 (m.Scan.Steps.map Zf.c),I m.Sort_.Fixed,I m.Sort_.Zl,I m.Sort_.Zm,I m.Sort_.Zo,I m.Sort_.Zn,L 2 (m.Sort_.Steps.map Zf.c),I m.Hash.Fixed,I m.Hash.Zl,I m.Hash.Zm,I m.Hash.Zo,I m.Hash.Zn,L 2 (m.Hash.Steps.map Zf.c),I m.Merge.Fixed,I m.Merge.Zl,I m.Merge.Zm,I m.Merge.Zo,I m.Merge.Zn,L 2 (m.Merge.Steps.map Zf.c),I m.Nested.Fixed,I m.Nested.Zl,I m.Nested.Zm,I m.Nested.Zo,I m.Nested.Zn,L 2 (m.Nested.Steps.map Zf.c),I q.Ze,L 2 (q.Atoms.map Atom.c),L 1 (sizes.map ic),I mask,I mask,I a,I v1_0,L 3 (x.map Zb.c),I list1.Mask,I list1.Order,I list1.Cost,L 3 (list1.Plan.Steps.map Zb.c),I list2.Mask,I list2.Order,I list2.Cost,L 3 (list2.Plan.Steps.map Zb.c),I list3.Mask,I list3.Order,I list3.Cost,L 3 (list3.Plan.Steps.map Zb.c),I list4.Mask,I list4.Order,I list4.Cost,L 3 (list4.Plan.Steps.map Zb.c),Bo true,Bo some1,Bo some2,Bo some3,Bo some4],.dead])=some r)) else (if (w (a+1))=1 then (if some1=true then (if v1_0<list1.Cost then (some (.tup [],[.box [I m.Scan.Fixed,I m.Scan.Zl,I m.Scan.Zm,I m.Scan.Zo,I m.Scan.Zn,L 2 (m.Scan.Steps.map Zf.c),I m.Sort_.Fixed,I m.Sort_.Zl,I m.Sort_.Zm,I m.Sort_.Zo,I m.Sort_.Zn,L 2 (m.Sort_.Steps.map Zf.c),I m.Hash.Fixed,I m.Hash.Zl,I m.Hash.Zm,I m.Hash.Zo,I m.Hash.Zn,L 2 (m.Hash.Steps.map Zf.c),I m.Merge.Fixed,I m.Merge.Zl,I m.Merge.Zm,I m.Merge.Zo,I m.Merge.Zn,L 2 (m.Merge.Steps.map Zf.c),I m.Nested.Fixed,I m.Nested.Zl,I m.Nested.Zm,I m.Nested.Zo,I m.Nested.Zn,L 2 (m.Nested.Steps.map Zf.c),I q.Ze,L 2 (q.Atoms.map Atom.c),L 1 (sizes.map ic),I mask,I list0.Mask,I list0.Order,I list0.Cost,L 3 (list0.Plan.Steps.map Zb.c),I mask,I a,I v1_0,L 3 (x.map Zb.c),I list2.Mask,I list2.Order,I list2.Cost,L 3 (list2.Plan.Steps.map Zb.c),I list3.Mask,I list3.Order,I list3.Cost,L 3 (list3.Plan.Steps.map Zb.c),I list4.Mask,I list4.Order,I list4.Cost,L 3 (list4.Plan.Steps.map Zb.c),Bo some0,Bo true,Bo some2,Bo some3,Bo some4],.dead])=some r) else (some (.tup [],[boxO m q sizes mask list0 list1 list2 list3 list4 some0 some1 some2 some3 some4,.arr 194 3 true (x.map Zb.c)])=some r)) else (some (.tup [],[.box [I m.Scan.Fixed,I m.Scan.Zl,I m.Scan.Zm,I m.Scan.Zo,I m.Scan.Zn,L 2 (m.Scan.Steps.map Zf.c),I m.Sort_.Fixed,I m.Sort_.Zl,I m.Sort_.Zm,I m.Sort_.Zo,I m.Sort_.Zn,L 2 (m.Sort_.Steps.map Zf.c),I m.Hash.Fixed,I m.Hash.Zl,I m.Hash.Zm,I m.Hash.Zo,I m.Hash.Zn,L 2 (m.Hash.Steps.map Zf.c),I m.Merge.Fixed,I m.Merge.Zl,I m.Merge.Zm,I m.Merge.Zo,I m.Merge.Zn,L 2 (m.Merge.Steps.map Zf.c),I m.Nested.Fixed,I m.Nested.Zl,I m.Nested.Zm,I m.Nested.Zo,I m.Nested.Zn,L 2 (m.Nested.Steps.map Zf.c),I q.Ze,L 2 (q.Atoms.map Atom.c),L 1 (sizes.map ic),I mask,I list0.Mask,I list0.Order,I list0.Cost,L 3 (list0.Plan.Steps.map Zb.c),I mask,I a,I v1_0,L 3 (x.map Zb.c),I list2.Mask,I list2.Order,I list2.Cost,L 3 (list2.Plan.Steps.map Zb.c),I list3.Mask,I list3.Order,I list3.Cost,L 3 (list3.Plan.Steps.map Zb.c),I list4.Mask,I list4.Order,I list4.Cost,L 3 (list4.Plan.Steps.map Zb.c),Bo some0,Bo true,Bo some2,Bo some3,Bo some4],.dead])=some r)) else (if (w (a+1))=2 then (if some2=true then (if v1_0<list2.Cost then (some (.tup [],[.box [I m.Scan.Fixed,I m.Scan.Zl,I m.Scan.Zm,I m.Scan.Zo,I m.Scan.Zn,L 2 (m.Scan.Steps.map Zf.c),I m.Sort_.Fixed,I m.Sort_.Zl,I m.Sort_.Zm,I m.Sort_.Zo,I m.Sort_.Zn,L 2 (m.Sort_.Steps.map Zf.c),I m.Hash.Fixed,I m.Hash.Zl,I m.Hash.Zm,I m.Hash.Zo,I m.Hash.Zn,L 2 (m.Hash.Steps.map Zf.c),I m.Merge.Fixed,I m.Merge.Zl,I m.Merge.Zm,I m.Merge.Zo,I m.Merge.Zn,L 2 (m.Merge.Steps.map Zf.c),I m.Nested.Fixed,I m.Nested.Zl,I m.Nested.Zm,I m.Nested.Zo,I m.Nested.Zn,L 2 (m.Nested.Steps.map Zf.c),I q.Ze,L 2 (q.Atoms.map Atom.c),L 1 (sizes.map ic),I mask,I list0.Mask,I list0.Order,I list0.Cost,L 3 (list0.Plan.Steps.map Zb.c),I list1.Mask,I list1.Order,I list1.Cost,L 3 (list1.Plan.Steps.map Zb.c),I mask,I a,I v1_0,L 3 (x.map Zb.c),I list3.Mask,I list3.Order,I list3.Cost,L 3 (list3.Plan.Steps.map Zb.c),I list4.Mask,I list4.Order,I list4.Cost,L 3 (list4.Plan.Steps.map Zb.c),Bo some0,Bo some1,Bo true,Bo some3,Bo some4],.dead])=some r) else (some (.tup [],[boxO m q sizes mask list0 list1 list2 list3 list4 some0 some1 some2 some3 some4,.arr 194 3 true (x.map Zb.c)])=some r)) else (some (.tup [],[.box [I m.Scan.Fixed,I m.Scan.Zl,I m.Scan.Zm,I m.Scan.Zo,I m.Scan.Zn,L 2 (m.Scan.Steps.map Zf.c),I m.Sort_.Fixed,I m.Sort_.Zl,I m.Sort_.Zm,I m.Sort_.Zo,I m.Sort_.Zn,L 2 (m.Sort_.Steps.map Zf.c),I m.Hash.Fixed,I m.Hash.Zl,I m.Hash.Zm,I m.Hash.Zo,I m.Hash.Zn,L 2 (m.Hash.Steps.map Zf.c),I m.Merge.Fixed,I m.Merge.Zl,I m.Merge.Zm,I m.Merge.Zo,I m.Merge.Zn,L 2 (m.Merge.Steps.map Zf.c),I m.Nested.Fixed,I m.Nested.Zl,I m.Nested.Zm,I m.Nested.Zo,I m.Nested.Zn,L 2 (m.Nested.Steps.map Zf.c),I q.Ze,L 2 (q.Atoms.map Atom.c),L 1 (sizes.map ic),I mask,I list0.Mask,I list0.Order,I list0.Cost,L 3 (list0.Plan.Steps.map Zb.c),I list1.Mask,I list1.Order,I list1.Cost,L 3 (list1.Plan.Steps.map Zb.c),I mask,I a,I v1_0,L 3 (x.map Zb.c),I list3.Mask,I list3.Order,I list3.Cost,L 3 (list3.Plan.Steps.map Zb.c),I list4.Mask,I list4.Order,I list4.Cost,L 3 (list4.Plan.Steps.map Zb.c),Bo some0,Bo some1,Bo true,Bo some3,Bo some4],.dead])=some r)) else (if (w (a+1))=3 then (if some3=true then (if v1_0<list3.Cost then (some (.tup [],[.box [I m.Scan.Fixed,I m.Scan.Zl,I m.Scan.Zm,I m.Scan.Zo,I m.Scan.Zn,L 2 (m.Scan.Steps.map Zf.c),I m.Sort_.Fixed,I m.Sort_.Zl,I m.Sort_.Zm,I m.Sort_.Zo,I m.Sort_.Zn,L 2 (m.Sort_.Steps.map Zf.c),I m.Hash.Fixed,I m.Hash.Zl,I m.Hash.Zm,I m.Hash.Zo,I m.Hash.Zn,L 2 (m.Hash.Steps.map Zf.c),I m.Merge.Fixed,I m.Merge.Zl,I m.Merge.Zm,I m.Merge.Zo,I m.Merge.Zn,L 2 (m.Merge.Steps.map Zf.c),I m.Nested.Fixed,I m.Nested.Zl,I m.Nested.Zm,I m.Nested.Zo,I m.Nested.Zn,L 2 (m.Nested.Steps.map Zf.c),I q.Ze,L 2 (q.Atoms.map Atom.c),L 1 (sizes.map ic),I mask,I list0.Mask,I list0.Order,I list0.Cost,L 3 (list0.Plan.Steps.map Zb.c),I list1.Mask,I list1.Order,I list1.Cost,L 3 (list1.Plan.Steps.map Zb.c),I list2.Mask,I list2.Order,I list2.Cost,L 3 (list2.Plan.Steps.map Zb.c),I mask,I a,I v1_0,L 3 (x.map Zb.c),I list4.Mask,I list4.Order,I list4.Cost,L 3 (list4.Plan.Steps.map Zb.c),Bo some0,Bo some1,Bo some2,Bo true,Bo some4],.dead])=some r) else (some (.tup [],[boxO m q sizes mask list0 list1 list2 list3 list4 some0 some1 some2 some3 some4,.arr 194 3 true (x.map Zb.c)])=some r)) else (some (.tup [],[.box [I m.Scan.Fixed,I m.Scan.Zl,I m.Scan.Zm,I m.Scan.Zo,I m.Scan.Zn,L 2 (m.Scan.Steps.map Zf.c),I m.Sort_.Fixed,I m.Sort_.Zl,I m.Sort_.Zm,I m.Sort_.Zo,I m.Sort_.Zn,L 2 (m.Sort_.Steps.map Zf.c),I m.Hash.Fixed,I m.Hash.Zl,I m.Hash.Zm,I m.Hash.Zo,I m.Hash.Zn,L 2 (m.Hash.Steps.map Zf.c),I m.Merge.Fixed,I m.Merge.Zl,I m.Merge.Zm,I m.Merge.Zo,I m.Merge.Zn,L 2 (m.Merge.Steps.map Zf.c),I m.Nested.Fixed,I m.Nested.Zl,I m.Nested.Zm,I m.Nested.Zo,I m.Nested.Zn,L 2 (m.Nested.Steps.map Zf.c),I q.Ze,L 2 (q.Atoms.map Atom.c),L 1 (sizes.map ic),I mask,I list0.Mask,I list0.Order,I list0.Cost,L 3 (list0.Plan.Steps.map Zb.c),I list1.Mask,I list1.Order,I list1.Cost,L 3 (list1.Plan.Steps.map Zb.c),I list2.Mask,I list2.Order,I list2.Cost,L 3 (list2.Plan.Steps.map Zb.c),I mask,I a,I v1_0,L 3 (x.map Zb.c),I list4.Mask,I list4.Order,I list4.Cost,L 3 (list4.Plan.Steps.map Zb.c),Bo some0,Bo some1,Bo some2,Bo true,Bo some4],.dead])=some r)) else (if (w (a+1))=4 then (if some4=true then (if v1_0<list4.Cost then (some (.tup [],[.box [I m.Scan.Fixed,I m.Scan.Zl,I m.Scan.Zm,I m.Scan.Zo,I m.Scan.Zn,L 2 (m.Scan.Steps.map Zf.c),I m.Sort_.Fixed,I m.Sort_.Zl,I m.Sort_.Zm,I m.Sort_.Zo,I m.Sort_.Zn,L 2 (m.Sort_.Steps.map Zf.c),I m.Hash.Fixed,I m.Hash.Zl,I m.Hash.Zm,I m.Hash.Zo,I m.Hash.Zn,L 2 (m.Hash.Steps.map Zf.c),I m.Merge.Fixed,I m.Merge.Zl,I m.Merge.Zm,I m.Merge.Zo,I m.Merge.Zn,L 2 (m.Merge.Steps.map Zf.c),I m.Nested.Fixed,I m.Nested.Zl,I m.Nested.Zm,I m.Nested.Zo,I m.Nested.Zn,L 2 (m.Nested.Steps.map Zf.c),I q.Ze,L 2 (q.Atoms.map Atom.c),L 1 (sizes.map ic),I mask,I list0.Mask,I list0.Order,I list0.Cost,L 3 (list0.Plan.Steps.map Zb.c),I list1.Mask,I list1.Order,I list1.Cost,L 3 (list1.Plan.Steps.map Zb.c),I list2.Mask,I list2.Order,I list2.Cost,L 3 (list2.Plan.Steps.map Zb.c),I list3.Mask,I list3.Order,I list3.Cost,L 3 (list3.Plan.Steps.map Zb.c),I mask,I a,I v1_0,L 3 (x.map Zb.c),Bo some0,Bo some1,Bo some2,Bo some3,Bo true],.dead])=some r) else (some (.tup [],[boxO m q sizes mask list0 list1 list2 list3 list4 some0 some1 some2 some3 some4,.arr 194 3 true (x.map Zb.c)])=some r)) else (some (.tup [],[.box [I m.Scan.Fixed,I m.Scan.Zl,I m.Scan.Zm,I m.Scan.Zo,I m.Scan.Zn,L 2 (m.Scan.Steps.map Zf.c),I m.Sort_.Fixed,I m.Sort_.Zl,I m.Sort_.Zm,I m.Sort_.Zo,I m.Sort_.Zn,L 2 (m.Sort_.Steps.map Zf.c),I m.Hash.Fixed,I m.Hash.Zl,I m.Hash.Zm,I m.Hash.Zo,I m.Hash.Zn,L 2 (m.Hash.Steps.map Zf.c),I m.Merge.Fixed,I m.Merge.Zl,I m.Merge.Zm,I m.Merge.Zo,I m.Merge.Zn,L 2 (m.Merge.Steps.map Zf.c),I m.Nested.Fixed,I m.Nested.Zl,I m.Nested.Zm,I m.Nested.Zo,I m.Nested.Zn,L 2 (m.Nested.Steps.map Zf.c),I q.Ze,L 2 (q.Atoms.map Atom.c),L 1 (sizes.map ic),I mask,I list0.Mask,I list0.Order,I list0.Cost,L 3 (list0.Plan.Steps.map Zb.c),I list1.Mask,I list1.Order,I list1.Cost,L 3 (list1.Plan.Steps.map Zb.c),I list2.Mask,I list2.Order,I list2.Cost,L 3 (list2.Plan.Steps.map Zb.c),I list3.Mask,I list3.Order,I list3.Cost,L 3 (list3.Plan.Steps.map Zb.c),I mask,I a,I v1_0,L 3 (x.map Zb.c),Bo some0,Bo some1,Bo some2,Bo some3,Bo true],.dead])=some r)) else False))))))):Zbs m q sizes mask list0 list1 list2 list3 list4 some0 some1 some2 some3 some4 x a=some r:=by
 unfold Zbs
 refine runM Zbdo rfl ?_
 obtain ⟨v1_0,q1,h⟩:=h
 unfold Zg5 at q1
 try simp at q1
 by_cases q2:(w (a+1))=0
 ·rw [if_pos q2] at h
  by_cases q3:some0=true
  ·rw [if_pos q3] at h
   by_cases q4:v1_0<list0.Cost
   ·rw [if_pos q4] at h
    refine Eq.trans ?_ h
    clear h
    simp +decide [*,Zb5,tI,tII]
   ·rw [if_neg q4] at h
    refine Eq.trans ?_ h
    clear h
    simp +decide [*,Zb5,tI,tII]
  ·rw [if_neg q3] at h
   refine Eq.trans ?_ h
   clear h
   simp +decide [*,Zb5,tI,tII]
 ·rw [if_neg q2] at h
  replace q2:=eq_false q2
  by_cases q5:(w (a+1))=1
  ·rw [if_pos q5] at h
   by_cases q6:some1=true
   ·rw [if_pos q6] at h
    by_cases q7:v1_0<list1.Cost
    ·rw [if_pos q7] at h
     refine Eq.trans ?_ h
     clear h
     simp +decide [*,Zb5,tI,tII]
    ·rw [if_neg q7] at h
     refine Eq.trans ?_ h
     clear h
     simp +decide [*,Zb5,tI,tII]
   ·rw [if_neg q6] at h
    refine Eq.trans ?_ h
    clear h
    simp +decide [*,Zb5,tI,tII]
  ·rw [if_neg q5] at h
   replace q5:=eq_false q5
   by_cases q8:(w (a+1))=2
   ·rw [if_pos q8] at h
    by_cases q9:some2=true
    ·rw [if_pos q9] at h
     by_cases q10:v1_0<list2.Cost
     ·rw [if_pos q10] at h
      refine Eq.trans ?_ h
      clear h
      simp +decide [*,Zb5,tI,tII]
     ·rw [if_neg q10] at h
      refine Eq.trans ?_ h
      clear h
      simp +decide [*,Zb5,tI,tII]
    ·rw [if_neg q9] at h
     refine Eq.trans ?_ h
     clear h
     simp +decide [*,Zb5,tI,tII]
   ·rw [if_neg q8] at h
    replace q8:=eq_false q8
    by_cases q11:(w (a+1))=3
    ·rw [if_pos q11] at h
     by_cases q12:some3=true
     ·rw [if_pos q12] at h
      by_cases q13:v1_0<list3.Cost
      ·rw [if_pos q13] at h
       refine Eq.trans ?_ h
       clear h
       simp +decide [*,Zb5,tI,tII]
      ·rw [if_neg q13] at h
       refine Eq.trans ?_ h
       clear h
       simp +decide [*,Zb5,tI,tII]
     ·rw [if_neg q12] at h
      refine Eq.trans ?_ h
      clear h
      simp +decide [*,Zb5,tI,tII]
    ·rw [if_neg q11] at h
     replace q11:=eq_false q11
     by_cases q14:(w (a+1))=4
     ·rw [if_pos q14] at h
      by_cases q15:some4=true
      ·rw [if_pos q15] at h
       by_cases q16:v1_0<list4.Cost
       ·rw [if_pos q16] at h
        refine Eq.trans ?_ h
        clear h
        simp +decide [*,Zb5,tI,tII]
       ·rw [if_neg q16] at h
        refine Eq.trans ?_ h
        clear h
        simp +decide [*,Zb5,tI,tII]
      ·rw [if_neg q15] at h
       refine Eq.trans ?_ h
       clear h
       simp +decide [*,Zb5,tI,tII]
     ·rw [if_neg q14] at h
      replace q14:=eq_false q14
      cases h
theorem Zdd:(∀ q out mask x r,Im (Zew q out mask x=some r) (if x<mask then (if (andI x mask)=x then (∃ v1_0,Zev q x=some (Bo v1_0,[])∧(if v1_0=true then (∃ v2_0,Zev q (andNotI mask x)=some (Bo v2_0,[])∧(if v2_0=true then (out.length+1≤68719476736∧(Zew q (out++[x]) mask (w (x+1))=some r)) else (Zew q out mask (w (x+1))=some r))) else (Zew q out mask (w (x+1))=some r))) else (Zew q out mask (w (x+1))=some r)) else (some (.own 0,[.arr 3 1 true (out.map ic)])=some r))) ∧
 (∀ a a1 r,Im (Zc4 a a1=some r) (∃ v1_0,Zgq a a1=some (Bo v1_0,[])∧(if v1_0=true then (Zew a ([]:List Int) a1 1=some r) else (some (.t .nil,[])=some r)))) ∧
 (∀ Mask Order Cost best x x1 x2 r,Im (Ziv Mask Order Cost best x x1 x2=some r) (if x2<x1 then (0≤x2∧(∃ e1,x[x2.toNat]?=some e1∧(if e1.Cost<best.Cost then (Ziv Mask Order Cost e1 x x1 (w (x2+1))=some r) else (Ziv Mask Order Cost best x x1 (w (x2+1))=some r)))) else (some (.agg (best.c.map .t),[])=some r))) ∧
 (∀ a r,Im (Zg6 a=some r) (∃ e1,a[0]?=some e1∧(Ziv 0 0 0 e1 a (a.length:Int) 0=some r))) ∧
 (∀ a r,Im (Zex a=some r) (a.Steps.length≤68719476736∧(some (.agg [.own 0],[.arr 194 3 true (a.Steps.map Zb.c)])=some r))) ∧
 (∀ a a1 a2 a3 r,Im (Zee a a1 a2 a3=some r) (∃ (v1_0:List Zb),Zex a=some (.agg [.own 0],[.arr 194 3 true (v1_0.map Zb.c)])∧(v1_0.length+a1.Steps.length≤68719476736∧(v1_0.length+a1.Steps.length+1≤68719476736∧(some (.agg [.own 0],[.arr 194 3 true (((v1_0++a1.Steps)++[(⟨a2,0,a3⟩:Zb)]).map Zb.c)])=some r))))) ∧
 (∀ m q sizes mask list0 list1 list2 list3 list4 some0 some1 some2 some3 some4 r,Im (Zll m q sizes mask list0 list1 list2 list3 list4 some0 some1 some2 some3 some4=some r) (Z7 m q sizes mask list0 list1 list2 list3 list4 some0 some1 some2 some3 some4 true ([]:List Za) some0 some1 some2 some3 some4 0=some r)) ∧
 (∀ a a1 r,Im (Zey a a1=some r) (∃ v1_0,Zh9 a a1=some (Bo v1_0,[])∧(if v1_0=true then (∃ (v2_0:List Int),Zc1 a a1=some (.own 0,[.arr 3 1 true (v2_0.map ic)])∧(some (.own 0,[.arr 3 1 true (v2_0.map ic)])=some r)) else (some (.t .nil,[])=some r)))) ∧
 (∀ a a1 a2 r,Im (Zg7 a a1 a2=some r) ((∃ (v1_0:List Int),Zey a a1=some (.own 0,[.arr 3 1 true (v1_0.map ic)])∧((∃ (v2_0:List Int),Zey a a2=some (.own 0,[.arr 3 1 true (v2_0.map ic)])∧(∃ (v3_0:List Int),Zfl v1_0 v2_0=some (.own 0,[.arr 3 1 true (v3_0.map ic)])∧(some (.own 0,[.arr 3 1 true (v3_0.map ic)])=some r)))∨(Zey a a2=some (.t .nil,[])∧(∃ (v5_0:List Int),Z0x v1_0=some (.own 0,[.arr 3 1 true (v5_0.map ic)])∧(some (.own 0,[.arr 3 1 true (v5_0.map ic)])=some r)))))∨(Zey a a1=some (.t .nil,[])∧((∃ (v7_0:List Int),Zey a a2=some (.own 0,[.arr 3 1 true (v7_0.map ic)])∧(∃ (v8_0:List Int),Z0y v7_0=some (.own 0,[.arr 3 1 true (v8_0.map ic)])∧(some (.own 0,[.arr 3 1 true (v8_0.map ic)])=some r)))∨(Zey a a2=some (.t .nil,[])∧(∃ (v10_0:List Int),Z0z=some (.own 0,[.arr 3 1 true (v10_0.map ic)])∧(some (.own 0,[.arr 3 1 true (v10_0.map ic)])=some r))))))) ∧
 (∀ a a1 r,Im (Zow a a1=some r) (∃ (v1_0:List Zb),Zex a=some (.agg [.own 0],[.arr 194 3 true (v1_0.map Zb.c)])∧(v1_0.length+1≤68719476736∧(some (.agg [.own 0],[.arr 194 3 true ((v1_0++[(⟨2,0,a1⟩:Zb)]).map Zb.c)])=some r)))) ∧
 (∀ m q x sizes v x1 x2 x3 r,Im (Ziw m q x sizes v x1 x2 x3=some r) (if x3<x2 then (0≤x3∧(∃ e1,x1[x3.toNat]?=some e1∧(if e1.Order=v then (∃ v2_0,Zg5 m q (⟨x⟩:Plan) sizes=some (I v2_0,[])∧(if e1.Cost≤v2_0 then (some (.agg (e1.Plan.c.map .t),[])=some r) else (Ziw m q x sizes v x1 x2 (w (x3+1))=some r))) else (Ziw m q x sizes v x1 x2 (w (x3+1))=some r)))) else (some (.agg [.own 0],[.arr 194 3 true (x.map Zb.c)])=some r))) ∧
 (∀ a a1 a2 a3 a4 r,Im (Zc5 a a1 a2 a3 a4=some r) (∃ (v1_0:Za),Zg6 a3=some (.agg (v1_0.c.map .t),[])∧(if v1_0.Order=a4 then (some (.agg (v1_0.Plan.c.map .t),[])=some r) else (∃ (v2_0:List Zb),Zow v1_0.Plan a4=some (.agg [.own 0],[.arr 194 3 true (v2_0.map Zb.c)])∧(Ziw a a1 v2_0 a2 a4 a3 (a3.length:Int) 0=some r))))):=by
 and_intros
 all_goals intros
 all_goals unfold Im
 all_goals try simp only [Zew,Zc4,Ziv,Zg6,Zex,Zee,Zll,Zey,Zg7,Zow,Ziw,Zc5,Zev,Zc.c_def,Zgq,Plan.c_def,Zh9,Zc1,Zfl,Z0x,Z0y,Z0z,Zg5,Zd.c_def,Zj.c_def,Za.c_def,Z7,mpl,dfs]
 all_goals try simp only [itb]
 all_goals try simp only [itf,gS,kk]
 all_goals repeat' first | refine exI fun _=>?_ | refine anJ fun _ _=>?_ | refine anI fun _=>?_ | refine orE2 ?_ ?_ | exact False.elim
 all_goals (intro h;first | rw [EvL_eq Ztl.eq_1] | refine run Zbdp rfl ?_ | rw [EvL_eq Zlj.eq_1] | refine run Z28 rfl ?_ | refine run Zbdq rfl ?_ | refine run Zbdr rfl ?_ | refine runM Zbds rfl ?_ | refine run Zbdt rfl ?_ | refine run Zbdu rfl ?_ | refine run Zbdv rfl ?_ | rw [EvL_eq Ztr.eq_1] | refine run Zbdw rfl ?_)
 all_goals (refine Eq.trans ?_ h;clear h;simp +decide [*,kk,tI,tII,Z0r,Ztm,Z0s,Ztn,Zlk,Zto,Z0t,Z0u,Z0v,Z0w,Z00,Z01,Zts,Z02])
abbrev Z4k:=Zdd.1
abbrev Zbha:=Zdd.2.1
abbrev Z4l:=Zdd.2.2.1
abbrev Zbhb:=Zdd.2.2.2.1
abbrev Zbhc:=Zdd.2.2.2.2.1
abbrev Zbhd:=Zdd.2.2.2.2.2.1
abbrev Zbhe:=Zdd.2.2.2.2.2.2.1
abbrev Zbhf:=Zdd.2.2.2.2.2.2.2.1
abbrev Zbhg:=Zdd.2.2.2.2.2.2.2.2.1
abbrev Zbhh:=Zdd.2.2.2.2.2.2.2.2.2.1
abbrev Zp3:=Zdd.2.2.2.2.2.2.2.2.2.2.1
abbrev Z4m:=Zdd.2.2.2.2.2.2.2.2.2.2.2
theorem Zd0 (m:Zd) (q:Zc) (sizes:List Int) (mask:Int) (list0:Za) (list1:Za) (list2:Za) (list3:Za) (list4:Za) (some0:Bool) (some1:Bool) (some2:Bool) (some3:Bool) (some4:Bool) (fr:Bool) (out:List Za) (x0:Bool) (x1:Bool) (x2:Bool) (x3:Bool) (x4:Bool) (x:Int) (r:AV×List Blk) (h:(if x<5 then (if x=0 then (if x0=true then (out.length+1≤68719476736∧(Z7 m q sizes mask list0 list1 list2 list3 list4 some0 some1 some2 some3 some4 false (out++[list0]) true x1 x2 x3 x4 (w (x+1))=some r)) else (Z7 m q sizes mask list0 list1 list2 list3 list4 some0 some1 some2 some3 some4 fr out false x1 x2 x3 x4 (w (x+1))=some r)) else (if x=1 then (if x1=true then (out.length+1≤68719476736∧(Z7 m q sizes mask list0 list1 list2 list3 list4 some0 some1 some2 some3 some4 false (out++[list1]) x0 true x2 x3 x4 (w (x+1))=some r)) else (Z7 m q sizes mask list0 list1 list2 list3 list4 some0 some1 some2 some3 some4 fr out x0 false x2 x3 x4 (w (x+1))=some r)) else (if x=2 then (if x2=true then (out.length+1≤68719476736∧(Z7 m q sizes mask list0 list1 list2 list3 list4 some0 some1 some2 some3 some4 false (out++[list2]) x0 x1 true x3 x4 (w (x+1))=some r)) else (Z7 m q sizes mask list0 list1 list2 list3 list4 some0 some1 some2 some3 some4 fr out x0 x1 false x3 x4 (w (x+1))=some r)) else (if x=3 then (if x3=true then (out.length+1≤68719476736∧(Z7 m q sizes mask list0 list1 list2 list3 list4 some0 some1 some2 some3 some4 false (out++[list3]) x0 x1 x2 true x4 (w (x+1))=some r)) else (Z7 m q sizes mask list0 list1 list2 list3 list4 some0 some1 some2 some3 some4 fr out x0 x1 x2 false x4 (w (x+1))=some r)) else (if x=4 then (if x4=true then (out.length+1≤68719476736∧(Z7 m q sizes mask list0 list1 list2 list3 list4 some0 some1 some2 some3 some4 false (out++[list4]) x0 x1 x2 x3 true (w (x+1))=some r)) else (Z7 m q sizes mask list0 list1 list2 list3 list4 some0 some1 some2 some3 some4 fr out x0 x1 x2 x3 false (w (x+1))=some r)) else False))))) else (some (.own 1,[boxO m q sizes mask list0 list1 list2 list3 list4 some0 some1 some2 some3 some4,.arr 145 4 fr (out.map Za.c)])=some r))):Z7 m q sizes mask list0 list1 list2 list3 list4 some0 some1 some2 some3 some4 fr out x0 x1 x2 x3 x4 x=some r:=by
 unfold Z7
 rw [EvL_eq Ztp.eq_1]
 by_cases q1:x<5
 ·rw [if_pos q1] at h
  by_cases q2:x=0
  ·rw [if_pos q2] at h
   subst q2
   by_cases q3:x0=true
   ·rw [if_pos q3] at h
    obtain ⟨q4,h⟩:=h
    have rq4:=roomA (b:=48) q4 (by omega)
    have sq4:=roomB q4
    try simp [*] at rq4
    try simp [*] at sq4
    refine Eq.trans ?_ h
    clear h
    simp +decide [*,tI,tII,Z7,Zdy]
   ·rw [if_neg q3] at h
    refine Eq.trans ?_ h
    clear h
    simp +decide [*,tI,tII,Z7,Zdy]
  ·rw [if_neg q2] at h
   replace q2:=eq_false q2
   by_cases q5:x=1
   ·rw [if_pos q5] at h
    subst q5
    by_cases q6:x1=true
    ·rw [if_pos q6] at h
     obtain ⟨q7,h⟩:=h
     have rq7:=roomA (b:=48) q7 (by omega)
     have sq7:=roomB q7
     try simp [*] at rq7
     try simp [*] at sq7
     refine Eq.trans ?_ h
     clear h
     simp +decide [*,tI,tII,Z7,Zdy]
    ·rw [if_neg q6] at h
     refine Eq.trans ?_ h
     clear h
     simp +decide [*,tI,tII,Z7,Zdy]
   ·rw [if_neg q5] at h
    replace q5:=eq_false q5
    by_cases q8:x=2
    ·rw [if_pos q8] at h
     subst q8
     by_cases q9:x2=true
     ·rw [if_pos q9] at h
      obtain ⟨q10,h⟩:=h
      have rq10:=roomA (b:=48) q10 (by omega)
      have sq10:=roomB q10
      try simp [*] at rq10
      try simp [*] at sq10
      refine Eq.trans ?_ h
      clear h
      simp +decide [*,tI,tII,Z7,Zdy]
     ·rw [if_neg q9] at h
      refine Eq.trans ?_ h
      clear h
      simp +decide [*,tI,tII,Z7,Zdy]
    ·rw [if_neg q8] at h
     replace q8:=eq_false q8
     by_cases q11:x=3
     ·rw [if_pos q11] at h
      subst q11
      by_cases q12:x3=true
      ·rw [if_pos q12] at h
       obtain ⟨q13,h⟩:=h
       have rq13:=roomA (b:=48) q13 (by omega)
       have sq13:=roomB q13
       try simp [*] at rq13
       try simp [*] at sq13
       refine Eq.trans ?_ h
       clear h
       simp +decide [*,tI,tII,Z7,Zdy]
      ·rw [if_neg q12] at h
       refine Eq.trans ?_ h
       clear h
       simp +decide [*,tI,tII,Z7,Zdy]
     ·rw [if_neg q11] at h
      replace q11:=eq_false q11
      by_cases q14:x=4
      ·rw [if_pos q14] at h
       subst q14
       by_cases q15:x4=true
       ·rw [if_pos q15] at h
        obtain ⟨q16,h⟩:=h
        have rq16:=roomA (b:=48) q16 (by omega)
        have sq16:=roomB q16
        try simp [*] at rq16
        try simp [*] at sq16
        refine Eq.trans ?_ h
        clear h
        simp +decide [*,tI,tII,Z7,Zdy]
       ·rw [if_neg q15] at h
        refine Eq.trans ?_ h
        clear h
        simp +decide [*,tI,tII,Z7,Zdy]
      ·rw [if_neg q14] at h
       replace q14:=eq_false q14
       cases h
 ·rw [if_neg q1] at h
  refine Eq.trans ?_ h
  clear h
  simp +decide [*,tI,tII,Ztq]
theorem Zmr:(∀ m q fr table fr1 out x sizes x1 x2 r,Im (Zfw m q fr table fr1 out x sizes x1 x2=some r) (if x2<x1 then (0≤x2∧(∃ e1,x[x2.toNat]?=some e1∧((Ziq e1=some (.t .nil,[])∧((Zc4 q e1=some (.t .nil,[])∧(Zlm m q fr table fr1 out m q sizes e1 (⟨0,0,0,(⟨[]⟩:Plan)⟩:Za) (⟨0,0,0,(⟨[]⟩:Plan)⟩:Za) (⟨0,0,0,(⟨[]⟩:Plan)⟩:Za) (⟨0,0,0,(⟨[]⟩:Plan)⟩:Za) (⟨0,0,0,(⟨[]⟩:Plan)⟩:Za) false false false false false x sizes e1 x1 x2 0 0=some r))∨(∃ (v4_0:List Int),Zc4 q e1=some (.own 0,[.arr 3 1 true (v4_0.map ic)])∧(Zef m q fr table fr1 out m q sizes e1 (⟨0,0,0,(⟨[]⟩:Plan)⟩:Za) (⟨0,0,0,(⟨[]⟩:Plan)⟩:Za) (⟨0,0,0,(⟨[]⟩:Plan)⟩:Za) (⟨0,0,0,(⟨[]⟩:Plan)⟩:Za) (⟨0,0,0,(⟨[]⟩:Plan)⟩:Za) false false false false false x v4_0 sizes e1 x1 x2 (v4_0.length:Int) 0=some r))))∨(∃ (v5_0:List Int),Ziq e1=some (.own 0,[.arr 3 1 true (v5_0.map ic)])∧(if (v5_0.length:Int)=1 then (∃ e6,v5_0[0]?=some e6∧(∃ (v7_0:List Zb),Zlc e6=some (.agg [.own 0],[.arr 194 3 true (v7_0.map Zb.c)])∧(0≤e6∧(∃ e8,q.Atoms[e6.toNat]?=some e8∧(∃ e9,e8.Vars[0]?=some e9∧((∃ v10_0 v10_1 v10_2 v10_3 v10_4 v10_5 v10_6 v10_7 v10_8 v10_9 v10_10 v10_11 v10_12 v10_13,Zbs m q sizes e1 (⟨0,0,0,(⟨[]⟩:Plan)⟩:Za) (⟨0,0,0,(⟨[]⟩:Plan)⟩:Za) (⟨0,0,0,(⟨[]⟩:Plan)⟩:Za) (⟨0,0,0,(⟨[]⟩:Plan)⟩:Za) (⟨0,0,0,(⟨[]⟩:Plan)⟩:Za) false false false false false v7_0 e9=some (.tup [],[boxO v10_0 v10_1 v10_2 v10_3 v10_4 v10_5 v10_6 v10_7 v10_8 v10_9 v10_10 v10_11 v10_12 v10_13,.dead])∧((Zc4 q e1=some (.t .nil,[])∧(Zlm m q fr table fr1 out v10_0 v10_1 v10_2 v10_3 v10_4 v10_5 v10_6 v10_7 v10_8 v10_9 v10_10 v10_11 v10_12 v10_13 x sizes e1 x1 x2 0 0=some r))∨(∃ (v12_0:List Int),Zc4 q e1=some (.own 0,[.arr 3 1 true (v12_0.map ic)])∧(Zef m q fr table fr1 out v10_0 v10_1 v10_2 v10_3 v10_4 v10_5 v10_6 v10_7 v10_8 v10_9 v10_10 v10_11 v10_12 v10_13 x v12_0 sizes e1 x1 x2 (v12_0.length:Int) 0=some r))))∨(∃ v13_0,∃ v13_1,∃ v13_2,∃ v13_3,∃ v13_4,∃ v13_5,∃ v13_6,∃ v13_7,∃ v13_8,∃ v13_9,∃ v13_10,∃ v13_11,∃ v13_12,∃ v13_13,∃ (v13_14:List Zb),Zbs m q sizes e1 (⟨0,0,0,(⟨[]⟩:Plan)⟩:Za) (⟨0,0,0,(⟨[]⟩:Plan)⟩:Za) (⟨0,0,0,(⟨[]⟩:Plan)⟩:Za) (⟨0,0,0,(⟨[]⟩:Plan)⟩:Za) (⟨0,0,0,(⟨[]⟩:Plan)⟩:Za) false false false false false v7_0 e9=some (.tup [],[boxO v13_0 v13_1 v13_2 v13_3 v13_4 v13_5 v13_6 v13_7 v13_8 v13_9 v13_10 v13_11 v13_12 v13_13,.arr 194 3 true (v13_14.map Zb.c)])∧((Zc4 q e1=some (.t .nil,[])∧(Zlm m q fr table fr1 out v13_0 v13_1 v13_2 v13_3 v13_4 v13_5 v13_6 v13_7 v13_8 v13_9 v13_10 v13_11 v13_12 v13_13 x sizes e1 x1 x2 0 0=some r))∨(∃ (v15_0:List Int),Zc4 q e1=some (.own 0,[.arr 3 1 true (v15_0.map ic)])∧(Zef m q fr table fr1 out v13_0 v13_1 v13_2 v13_3 v13_4 v13_5 v13_6 v13_7 v13_8 v13_9 v13_10 v13_11 v13_12 v13_13 x v15_0 sizes e1 x1 x2 (v15_0.length:Int) 0=some r)))))))))) else ((Zc4 q e1=some (.t .nil,[])∧(Zlm m q fr table fr1 out m q sizes e1 (⟨0,0,0,(⟨[]⟩:Plan)⟩:Za) (⟨0,0,0,(⟨[]⟩:Plan)⟩:Za) (⟨0,0,0,(⟨[]⟩:Plan)⟩:Za) (⟨0,0,0,(⟨[]⟩:Plan)⟩:Za) (⟨0,0,0,(⟨[]⟩:Plan)⟩:Za) false false false false false x sizes e1 x1 x2 0 0=some r))∨(∃ (v17_0:List Int),Zc4 q e1=some (.own 0,[.arr 3 1 true (v17_0.map ic)])∧(Zef m q fr table fr1 out m q sizes e1 (⟨0,0,0,(⟨[]⟩:Plan)⟩:Za) (⟨0,0,0,(⟨[]⟩:Plan)⟩:Za) (⟨0,0,0,(⟨[]⟩:Plan)⟩:Za) (⟨0,0,0,(⟨[]⟩:Plan)⟩:Za) (⟨0,0,0,(⟨[]⟩:Plan)⟩:Za) false false false false false x v17_0 sizes e1 x1 x2 (v17_0.length:Int) 0=some r)))))))) else (Zln fr1 out (out.length:Int) 0=some r))) ∧
 (∀ m q fr table fr1 out m_1 q_1 sizes mask list0 list1 list2 list3 list4 some0 some1 some2 some3 some4 x x1 sizes1 mask1 x2 x3 x4 x5 r,Im (Zef m q fr table fr1 out m_1 q_1 sizes mask list0 list1 list2 list3 list4 some0 some1 some2 some3 some4 x x1 sizes1 mask1 x2 x3 x4 x5=some r) (if x5<x4 then (0≤x5∧(∃ e1,x1[x5.toNat]?=some e1∧(0≤e1∧(∃ e2,table[e1.toNat]?=some e2∧(0≤(andNotI mask1 e1)∧(∃ e3,table[(andNotI mask1 e1).toNat]?=some e3∧(∃ (v4_0:Za),Zg6 e3=some (.agg (v4_0.c.map .t),[])∧(∃ (v5_0:Za),Zg6 e2=some (.agg (v5_0.c.map .t),[])∧(∃ (v6_0:List Zb),Zee v5_0.Plan v4_0.Plan 3 0=some (.agg [.own 0],[.arr 194 3 true (v6_0.map Zb.c)])∧((∃ v7_0 v7_1 v7_2 v7_3 v7_4 v7_5 v7_6 v7_7 v7_8 v7_9 v7_10 v7_11 v7_12 v7_13,Zbs m_1 q_1 sizes mask list0 list1 list2 list3 list4 some0 some1 some2 some3 some4 v6_0 (-1)=some (.tup [],[boxO v7_0 v7_1 v7_2 v7_3 v7_4 v7_5 v7_6 v7_7 v7_8 v7_9 v7_10 v7_11 v7_12 v7_13,.dead])∧(Zfx m q fr table fr1 out v7_0 v7_1 v7_2 v7_3 v7_4 v7_5 v7_6 v7_7 v7_8 v7_9 v7_10 v7_11 v7_12 v7_13 v4_0.Plan x x1 sizes1 mask1 e1 e2 e3 x2 x3 x4 x5 e2 (e2.length:Int) 0=some r))∨(∃ v8_0,∃ v8_1,∃ v8_2,∃ v8_3,∃ v8_4,∃ v8_5,∃ v8_6,∃ v8_7,∃ v8_8,∃ v8_9,∃ v8_10,∃ v8_11,∃ v8_12,∃ v8_13,∃ (v8_14:List Zb),Zbs m_1 q_1 sizes mask list0 list1 list2 list3 list4 some0 some1 some2 some3 some4 v6_0 (-1)=some (.tup [],[boxO v8_0 v8_1 v8_2 v8_3 v8_4 v8_5 v8_6 v8_7 v8_8 v8_9 v8_10 v8_11 v8_12 v8_13,.arr 194 3 true (v8_14.map Zb.c)])∧(Zfx m q fr table fr1 out v8_0 v8_1 v8_2 v8_3 v8_4 v8_5 v8_6 v8_7 v8_8 v8_9 v8_10 v8_11 v8_12 v8_13 v4_0.Plan x x1 sizes1 mask1 e1 e2 e3 x2 x3 x4 x5 e2 (e2.length:Int) 0=some r)))))))))))) else (∃ v9_0,∃ (v9_1:List Za),Zll m_1 q_1 sizes mask list0 list1 list2 list3 list4 some0 some1 some2 some3 some4=some (.own 1,[boxO m_1 q_1 sizes mask list0 list1 list2 list3 list4 some0 some1 some2 some3 some4,.arr 145 4 v9_0 (v9_1.map Za.c)])∧(0≤mask1∧(∃ e10,table[mask1.toNat]?=some e10∧(out.length+v9_1.length≤68719476736∧(Zfw m q (fr && v9_0) (table.set mask1.toNat v9_1) (fr1 && flat (v9_1.map Za.c)) (out++v9_1) x sizes1 x2 (w (x3+1))=some r))))))) ∧
 (∀ fr out x x1 r,Im (Zln fr out x x1=some r) (if x1<x then (0≤x1∧(∃ e1,out[x1.toNat]?=some e1∧(∃ (v2_0:List Zb),Zex e1.Plan=some (.agg [.own 0],[.arr 194 3 true (v2_0.map Zb.c)])∧(Zln fr (out.set x1.toNat (⟨e1.Mask,e1.Order,e1.Cost,(⟨v2_0⟩:Plan)⟩:Za)) x (w (x1+1))=some r)))) else (some (.own 0,[.arr 145 4 fr (out.map Za.c)])=some r))) ∧
 (∀ m q fr table fr1 out m_1 q_1 sizes mask list0 list1 list2 list3 list4 some0 some1 some2 some3 some4 y x x1 sizes1 mask1 x2 left right x3 x4 x5 x6 x7 x8 x9 r,Im (Zfx m q fr table fr1 out m_1 q_1 sizes mask list0 list1 list2 list3 list4 some0 some1 some2 some3 some4 y x x1 sizes1 mask1 x2 left right x3 x4 x5 x6 x7 x8 x9=some r) (if x9<x8 then (0≤x9∧(∃ e1,x7[x9.toNat]?=some e1∧(∃ (v2_0:List Zb),Zee e1.Plan y 5 0=some (.agg [.own 0],[.arr 194 3 true (v2_0.map Zb.c)])∧((∃ v3_0 v3_1 v3_2 v3_3 v3_4 v3_5 v3_6 v3_7 v3_8 v3_9 v3_10 v3_11 v3_12 v3_13,Zbs m_1 q_1 sizes mask list0 list1 list2 list3 list4 some0 some1 some2 some3 some4 v2_0 e1.Order=some (.tup [],[boxO v3_0 v3_1 v3_2 v3_3 v3_4 v3_5 v3_6 v3_7 v3_8 v3_9 v3_10 v3_11 v3_12 v3_13,.dead])∧(Zfx m q fr table fr1 out v3_0 v3_1 v3_2 v3_3 v3_4 v3_5 v3_6 v3_7 v3_8 v3_9 v3_10 v3_11 v3_12 v3_13 y x x1 sizes1 mask1 x2 left right x3 x4 x5 x6 x7 x8 (w (x9+1))=some r))∨(∃ v4_0,∃ v4_1,∃ v4_2,∃ v4_3,∃ v4_4,∃ v4_5,∃ v4_6,∃ v4_7,∃ v4_8,∃ v4_9,∃ v4_10,∃ v4_11,∃ v4_12,∃ v4_13,∃ (v4_14:List Zb),Zbs m_1 q_1 sizes mask list0 list1 list2 list3 list4 some0 some1 some2 some3 some4 v2_0 e1.Order=some (.tup [],[boxO v4_0 v4_1 v4_2 v4_3 v4_4 v4_5 v4_6 v4_7 v4_8 v4_9 v4_10 v4_11 v4_12 v4_13,.arr 194 3 true (v4_14.map Zb.c)])∧(Zfx m q fr table fr1 out v4_0 v4_1 v4_2 v4_3 v4_4 v4_5 v4_6 v4_7 v4_8 v4_9 v4_10 v4_11 v4_12 v4_13 y x x1 sizes1 mask1 x2 left right x3 x4 x5 x6 x7 x8 (w (x9+1))=some r)))))) else (∃ (v5_0:List Int),Zg7 q x2 (andNotI mask1 x2)=some (.own 0,[.arr 3 1 true (v5_0.map ic)])∧(Zcu m q fr table fr1 out m_1 q_1 sizes mask list0 list1 list2 list3 list4 some0 some1 some2 some3 some4 x x1 v5_0 sizes1 mask1 left right x3 x4 x5 x6 (v5_0.length:Int) 0=some r)))) ∧
 (∀ m q fr table fr1 out m_1 q_1 sizes mask list0 list1 list2 list3 list4 some0 some1 some2 some3 some4 x x1 x2 sizes1 mask1 left right x3 x4 x5 x6 x7 x8 r,Im (Zcu m q fr table fr1 out m_1 q_1 sizes mask list0 list1 list2 list3 list4 some0 some1 some2 some3 some4 x x1 x2 sizes1 mask1 left right x3 x4 x5 x6 x7 x8=some r) (if x8<x7 then (0≤x8∧(∃ e1,x2[x8.toNat]?=some e1∧((∃ (v2_0:Plan),Zc5 m q sizes1 left e1=some (.agg (v2_0.c.map .t),[])∧((∃ (v3_0:Plan),Zc5 m q sizes1 right e1=some (.agg (v3_0.c.map .t),[])∧(∃ (v4_0:List Zb),Zee v2_0 v3_0 4 e1=some (.agg [.own 0],[.arr 194 3 true (v4_0.map Zb.c)])∧((∃ v5_0 v5_1 v5_2 v5_3 v5_4 v5_5 v5_6 v5_7 v5_8 v5_9 v5_10 v5_11 v5_12 v5_13,Zbs m_1 q_1 sizes mask list0 list1 list2 list3 list4 some0 some1 some2 some3 some4 v4_0 e1=some (.tup [],[boxO v5_0 v5_1 v5_2 v5_3 v5_4 v5_5 v5_6 v5_7 v5_8 v5_9 v5_10 v5_11 v5_12 v5_13,.dead])∧(Zcu m q fr table fr1 out v5_0 v5_1 v5_2 v5_3 v5_4 v5_5 v5_6 v5_7 v5_8 v5_9 v5_10 v5_11 v5_12 v5_13 x x1 x2 sizes1 mask1 left right x3 x4 x5 x6 x7 (w (x8+1))=some r))∨(∃ v6_0,∃ v6_1,∃ v6_2,∃ v6_3,∃ v6_4,∃ v6_5,∃ v6_6,∃ v6_7,∃ v6_8,∃ v6_9,∃ v6_10,∃ v6_11,∃ v6_12,∃ v6_13,∃ (v6_14:List Zb),Zbs m_1 q_1 sizes mask list0 list1 list2 list3 list4 some0 some1 some2 some3 some4 v4_0 e1=some (.tup [],[boxO v6_0 v6_1 v6_2 v6_3 v6_4 v6_5 v6_6 v6_7 v6_8 v6_9 v6_10 v6_11 v6_12 v6_13,.arr 194 3 true (v6_14.map Zb.c)])∧(Zcu m q fr table fr1 out v6_0 v6_1 v6_2 v6_3 v6_4 v6_5 v6_6 v6_7 v6_8 v6_9 v6_10 v6_11 v6_12 v6_13 x x1 x2 sizes1 mask1 left right x3 x4 x5 x6 x7 (w (x8+1))=some r)))))∨(∃ (v7_0:List Zb),Zc5 m q sizes1 right e1=some (.agg [.own 0],[.arr 194 3 true (v7_0.map Zb.c)])∧(∃ (v8_0:List Zb),Zee v2_0 (⟨v7_0⟩:Plan) 4 e1=some (.agg [.own 0],[.arr 194 3 true (v8_0.map Zb.c)])∧((∃ v9_0 v9_1 v9_2 v9_3 v9_4 v9_5 v9_6 v9_7 v9_8 v9_9 v9_10 v9_11 v9_12 v9_13,Zbs m_1 q_1 sizes mask list0 list1 list2 list3 list4 some0 some1 some2 some3 some4 v8_0 e1=some (.tup [],[boxO v9_0 v9_1 v9_2 v9_3 v9_4 v9_5 v9_6 v9_7 v9_8 v9_9 v9_10 v9_11 v9_12 v9_13,.dead])∧(Zcu m q fr table fr1 out v9_0 v9_1 v9_2 v9_3 v9_4 v9_5 v9_6 v9_7 v9_8 v9_9 v9_10 v9_11 v9_12 v9_13 x x1 x2 sizes1 mask1 left right x3 x4 x5 x6 x7 (w (x8+1))=some r))∨(∃ v10_0,∃ v10_1,∃ v10_2,∃ v10_3,∃ v10_4,∃ v10_5,∃ v10_6,∃ v10_7,∃ v10_8,∃ v10_9,∃ v10_10,∃ v10_11,∃ v10_12,∃ v10_13,∃ (v10_14:List Zb),Zbs m_1 q_1 sizes mask list0 list1 list2 list3 list4 some0 some1 some2 some3 some4 v8_0 e1=some (.tup [],[boxO v10_0 v10_1 v10_2 v10_3 v10_4 v10_5 v10_6 v10_7 v10_8 v10_9 v10_10 v10_11 v10_12 v10_13,.arr 194 3 true (v10_14.map Zb.c)])∧(Zcu m q fr table fr1 out v10_0 v10_1 v10_2 v10_3 v10_4 v10_5 v10_6 v10_7 v10_8 v10_9 v10_10 v10_11 v10_12 v10_13 x x1 x2 sizes1 mask1 left right x3 x4 x5 x6 x7 (w (x8+1))=some r)))))))∨(∃ (v11_0:List Zb),Zc5 m q sizes1 left e1=some (.agg [.own 0],[.arr 194 3 true (v11_0.map Zb.c)])∧((∃ (v12_0:Plan),Zc5 m q sizes1 right e1=some (.agg (v12_0.c.map .t),[])∧(∃ (v13_0:List Zb),Zee (⟨v11_0⟩:Plan) v12_0 4 e1=some (.agg [.own 0],[.arr 194 3 true (v13_0.map Zb.c)])∧((∃ v14_0 v14_1 v14_2 v14_3 v14_4 v14_5 v14_6 v14_7 v14_8 v14_9 v14_10 v14_11 v14_12 v14_13,Zbs m_1 q_1 sizes mask list0 list1 list2 list3 list4 some0 some1 some2 some3 some4 v13_0 e1=some (.tup [],[boxO v14_0 v14_1 v14_2 v14_3 v14_4 v14_5 v14_6 v14_7 v14_8 v14_9 v14_10 v14_11 v14_12 v14_13,.dead])∧(Zcu m q fr table fr1 out v14_0 v14_1 v14_2 v14_3 v14_4 v14_5 v14_6 v14_7 v14_8 v14_9 v14_10 v14_11 v14_12 v14_13 x x1 x2 sizes1 mask1 left right x3 x4 x5 x6 x7 (w (x8+1))=some r))∨(∃ v15_0,∃ v15_1,∃ v15_2,∃ v15_3,∃ v15_4,∃ v15_5,∃ v15_6,∃ v15_7,∃ v15_8,∃ v15_9,∃ v15_10,∃ v15_11,∃ v15_12,∃ v15_13,∃ (v15_14:List Zb),Zbs m_1 q_1 sizes mask list0 list1 list2 list3 list4 some0 some1 some2 some3 some4 v13_0 e1=some (.tup [],[boxO v15_0 v15_1 v15_2 v15_3 v15_4 v15_5 v15_6 v15_7 v15_8 v15_9 v15_10 v15_11 v15_12 v15_13,.arr 194 3 true (v15_14.map Zb.c)])∧(Zcu m q fr table fr1 out v15_0 v15_1 v15_2 v15_3 v15_4 v15_5 v15_6 v15_7 v15_8 v15_9 v15_10 v15_11 v15_12 v15_13 x x1 x2 sizes1 mask1 left right x3 x4 x5 x6 x7 (w (x8+1))=some r)))))∨(∃ (v16_0:List Zb),Zc5 m q sizes1 right e1=some (.agg [.own 0],[.arr 194 3 true (v16_0.map Zb.c)])∧(∃ (v17_0:List Zb),Zee (⟨v11_0⟩:Plan) (⟨v16_0⟩:Plan) 4 e1=some (.agg [.own 0],[.arr 194 3 true (v17_0.map Zb.c)])∧((∃ v18_0 v18_1 v18_2 v18_3 v18_4 v18_5 v18_6 v18_7 v18_8 v18_9 v18_10 v18_11 v18_12 v18_13,Zbs m_1 q_1 sizes mask list0 list1 list2 list3 list4 some0 some1 some2 some3 some4 v17_0 e1=some (.tup [],[boxO v18_0 v18_1 v18_2 v18_3 v18_4 v18_5 v18_6 v18_7 v18_8 v18_9 v18_10 v18_11 v18_12 v18_13,.dead])∧(Zcu m q fr table fr1 out v18_0 v18_1 v18_2 v18_3 v18_4 v18_5 v18_6 v18_7 v18_8 v18_9 v18_10 v18_11 v18_12 v18_13 x x1 x2 sizes1 mask1 left right x3 x4 x5 x6 x7 (w (x8+1))=some r))∨(∃ v19_0,∃ v19_1,∃ v19_2,∃ v19_3,∃ v19_4,∃ v19_5,∃ v19_6,∃ v19_7,∃ v19_8,∃ v19_9,∃ v19_10,∃ v19_11,∃ v19_12,∃ v19_13,∃ (v19_14:List Zb),Zbs m_1 q_1 sizes mask list0 list1 list2 list3 list4 some0 some1 some2 some3 some4 v17_0 e1=some (.tup [],[boxO v19_0 v19_1 v19_2 v19_3 v19_4 v19_5 v19_6 v19_7 v19_8 v19_9 v19_10 v19_11 v19_12 v19_13,.arr 194 3 true (v19_14.map Zb.c)])∧(Zcu m q fr table fr1 out v19_0 v19_1 v19_2 v19_3 v19_4 v19_5 v19_6 v19_7 v19_8 v19_9 v19_10 v19_11 v19_12 v19_13 x x1 x2 sizes1 mask1 left right x3 x4 x5 x6 x7 (w (x8+1))=some r)))))))))) else (Zef m q fr table fr1 out m_1 q_1 sizes mask list0 list1 list2 list3 list4 some0 some1 some2 some3 some4 x x1 sizes1 mask1 x3 x4 x5 (w (x6+1))=some r))):=by
 and_intros
 all_goals intros
 all_goals unfold Im
 all_goals try simp only [Zfw,Zef,Zln,Zfx,Zcu,Ziq,Zc4,Zlc,Zbs,Zd.c_def,Zj.c_def,Plan.c_def,Za.c_def,Zb.c_def,Zc.c_def,boxO_def,Zg6,Zee,Zll,Zex,Zg7,Zc5,Zlm,mpl,dfs]
 all_goals try simp only [itb]
 all_goals try simp only [itf,gS,kk]
 all_goals repeat' first | refine exI fun _=>?_ | refine anJ fun _ _=>?_ | refine anI fun _=>?_ | refine orE2 ?_ ?_ | exact False.elim
 all_goals (intro h;first | rw [EvL_eq Zg8.eq_1] | rw [EvL_eq Zix.eq_1] | rw [EvL_eq Ztw.eq_1] | rw [EvL_eq Ztt.eq_1] | rw [EvL_eq Ztu.eq_1])
 all_goals (refine Eq.trans ?_ h;clear h;simp +decide [*,kk,tI,tII,Z03,Zg9,Ziz,Ziy,Ztx,Ztv,Zox])
abbrev Z4n:=Zmr.1
abbrev Z4o:=Zmr.2.1
abbrev Z4p:=Zmr.2.2.1
abbrev Z4q:=Zmr.2.2.2.1
abbrev Z4r:=Zmr.2.2.2.2
theorem Zbhi (a:Zd) (a1:Zc) (a2:List Int) (r:AV×List Blk) (h:(∃ (v1_0:Bool),Zih a=some (Bo v1_0,[])∧(if v1_0=true then (∃ (v2_0:Bool),Zg2 a1 a2=some (Bo v2_0,[])∧(if v2_0=true then (∃ (v3_0:Int),Zcc a1=some (I v3_0,[])∧(0≤(w (v3_0+1))∧((w (v3_0+1))≤(w (v3_0+1))∧((w (v3_0+1)).toNat*24≤room∧((w (v3_0+1))≤140737488355328∧(∃ (v4_0:List Int),Zgu a1=some (.own 0,[.arr 3 1 true (v4_0.map ic)])∧(Zfw a a1 true (List.replicate ((w (v3_0+1))).toNat ([])) true ([]:List Za) v4_0 a2 (v4_0.length:Int) 0=some r))))))) else (some (.t .nil,[])=some r))) else (some (.t .nil,[])=some r)))):Zi0 a a1 a2=some r:=by
 unfold Zi0
 refine run Zbdx rfl ?_
 obtain ⟨v1_0,q1,h⟩:=h
 unfold Zih at q1
 try simp at q1
 by_cases q2:v1_0=true
 ·rw [if_pos q2] at h
  obtain ⟨v2_0,q3,h⟩:=h
  unfold Zg2 at q3
  try simp at q3
  by_cases q4:v2_0=true
  ·rw [if_pos q4] at h
   obtain ⟨v3_0,q5,h⟩:=h
   unfold Zcc at q5
   try simp at q5
   obtain ⟨q6,h⟩:=h
   obtain ⟨q7,h⟩:=h
   obtain ⟨q8,h⟩:=h
   have zq8:=q8;try simp at zq8
   obtain ⟨q9,h⟩:=h
   obtain ⟨v4_0,q10,h⟩:=h
   unfold Zgu at q10
   try simp at q10
   refine Eq.trans ?_ h
   clear h
   simp +decide [*,Zoy,tI,tII,Zfw]
  ·rw [if_neg q4] at h
   refine Eq.trans ?_ h
   clear h
   simp +decide [*,Zoy,tI,tII]
 ·rw [if_neg q2] at h
  refine Eq.trans ?_ h
  clear h
  simp +decide [*,Zoy,tI,tII]
theorem Zde:(∀ Mask Order Cost best fr x x1 x2 r,Im (Zi1 Mask Order Cost best fr x x1 x2=some r) (if x2<x1 then (0≤x2∧(∃ e1,x[x2.toNat]?=some e1∧(if e1.Cost<best.Cost then (Zi1 Mask Order Cost e1 fr x x1 (w (x2+1))=some r) else (Zi1 Mask Order Cost best fr x x1 (w (x2+1))=some r)))) else (some (.agg (best.c.map .t),[.arr 145 4 fr (x.map Za.c)])=some r))) ∧
 (∀ fr x r,Im (Zoz fr x=some r) (∃ e1,x[0]?=some e1∧(Zi1 0 0 0 e1 fr x (x.length:Int) 0=some r))) ∧
 (∀ Mask Order Cost fr x mask x1 x2 x3 r,Im (Zi2 Mask Order Cost fr x mask x1 x2 x3=some r) (if x3<x2 then (0≤x3∧(∃ e1,x1[x3.toNat]?=some e1∧(if e1.Mask=mask then (x.length+1≤68719476736∧(Zi2 Mask Order Cost false (x++[e1]) mask x1 x2 (w (x3+1))=some r)) else (Zi2 Mask Order Cost fr x mask x1 x2 (w (x3+1))=some r)))) else (if (x.length:Int)=0 then (some (.tup [.agg [I 0,I 0,I 0,.t .nil],Bo false],[])=some r) else (∃ (v2_0:Za),Zoz fr x=some (.agg (v2_0.c.map .t),[.arr 145 4 fr (x.map Za.c)])∧(∃ (v3_0:List Zb),Zex v2_0.Plan=some (.agg [.own 0],[.arr 194 3 true (v3_0.map Zb.c)])∧(some (.tup [.agg [I v2_0.Mask,I v2_0.Order,I v2_0.Cost,.own 0],Bo true],[.arr 194 3 true (v3_0.map Zb.c)])=some r)))))) ∧
 (∀ a a1 r,Im (Zlo a a1=some r) (Zi2 0 0 0 true ([]:List Za) a1 a (a.length:Int) 0=some r)) ∧
 (∀ a a1 a2 r,Im (Zi3 a a1 a2=some r) ((Zi0 a a1 a2=some (.t .nil,[])∧(∃ v2_0,Zcc a1=some (I v2_0,[])∧((∃ v3_0 v3_1 v3_2,Zty v2_0=some (.tup [.agg [I v3_0,I v3_1,I v3_2,.t .nil],Bo false],[])∧(some (.tup [.agg [I v3_0,I v3_1,I v3_2,.t .nil],Bo false],[])=some r))∨(∃ (v4_0:List Zb),∃ v4_1,∃ v4_2,∃ v4_3,Zty v2_0=some (.tup [.agg [I v4_1,I v4_2,I v4_3,.own 0],Bo true],[.arr 194 3 true (v4_0.map Zb.c)])∧(some (.tup [.agg [I v4_1,I v4_2,I v4_3,.own 0],Bo true],[.arr 194 3 true (v4_0.map Zb.c)])=some r)))))∨(∃ v5_0,∃ (v5_1:List Za),Zi0 a a1 a2=some (.own 0,[.arr 145 4 v5_0 (v5_1.map Za.c)])∧(∃ v6_0,Zcc a1=some (I v6_0,[])∧((∃ v7_0 v7_1 v7_2,Zlo v5_1 v6_0=some (.tup [.agg [I v7_0,I v7_1,I v7_2,.t .nil],Bo false],[])∧(some (.tup [.agg [I v7_0,I v7_1,I v7_2,.t .nil],Bo false],[])=some r))∨(∃ (v8_0:List Zb),∃ v8_1,∃ v8_2,∃ v8_3,Zlo v5_1 v6_0=some (.tup [.agg [I v8_1,I v8_2,I v8_3,.own 0],Bo true],[.arr 194 3 true (v8_0.map Zb.c)])∧(some (.tup [.agg [I v8_1,I v8_2,I v8_3,.own 0],Bo true],[.arr 194 3 true (v8_0.map Zb.c)])=some r))))))) ∧
 (∀ a a1 a2 r,Im (Zba a a1 a2=some r) (if a1≤a then (some (Bo (decide (a≤a2)),[])=some r) else (some (Bo false,[])=some r))) ∧
 (∀ a r,Im (Zi4 a=some r) (if (a.size:Int)=1 then (∃ b1,a[0]?=some b1∧(if 97≤(b1.toNat:Int) then (some (Bo (decide ((b1.toNat:Int)≤122)),[])=some r) else (some (Bo false,[])=some r))) else (some (Bo false,[])=some r))) ∧
 (∀ l x i r,Im (Zlp l x i=some r) (if i<(l.length:Int) then (0≤i∧(∃ e1,l[i.toNat]?=some e1∧(if e1=x then (some (Bo true,[])=some r) else (Zlp l x (w (i+1))=some r)))) else (some (Bo false,[])=some r))) ∧
 (∀ a a1 r,Im (Zi5 a a1=some r) (Zlp a a1 0=some r)) ∧
 (∀ q seen i r,Im (Zi6 q seen i=some r) (if i<(q.Atoms.length:Int) then (0≤i∧(∃ e1,q.Atoms[i.toNat]?=some e1∧(∃ v2_0,Zi4 e1.Name=some (Bo v2_0,[])∧(if v2_0=true then (∃ v3_0,Zba (e1.Vars.length:Int) 1 3=some (Bo v3_0,[])∧(if v3_0=true then (Zlq q e1 seen i 0=some r) else (some (Bo false,[])=some r))) else (some (Bo false,[])=some r))))) else (¬ q.Ze<0∧(some (Bo (decide (seen=(w ((shlI 1 q.Ze) - 1)))),[])=some r)))) ∧
 (∀ q a seen i k r,Im (Zlq q a seen i k=some r) (if k<(a.Vars.length:Int) then (0≤k∧(∃ e1,a.Vars[k.toNat]?=some e1∧(∃ v2_0,Zba e1 0 (w (q.Ze - 1))=some (Bo v2_0,[])∧(if v2_0=true then (k.toNat≤a.Vars.length∧(∃ v3_0,Zi5 (a.Vars.take k.toNat) e1=some (Bo v3_0,[])∧(if v3_0=true then (some (Bo false,[])=some r) else (¬ e1<0∧(Zlq q a (orI seen (shlI 1 e1)) i (w (k+1))=some r))))) else (some (Bo false,[])=some r))))) else (Zi6 q seen (w (i+1))=some r))) ∧
 (∀ a r,Im (Zeg a=some r) (∃ v1_0,Zba a.Ze 1 4=some (Bo v1_0,[])∧(if v1_0=true then (∃ v2_0,Zba (a.Atoms.length:Int) 1 4=some (Bo v2_0,[])∧(if v2_0=true then (Zi6 a 0 0=some r) else (some (Bo false,[])=some r))) else (some (Bo false,[])=some r)))):=by
 and_intros
 all_goals intros
 all_goals unfold Im
 all_goals try simp only [Zi1,Zoz,Zi2,Zlo,Zi3,Zba,Zi4,Zlp,Zi5,Zi6,Zlq,Zeg,Zex,Plan.c_def,Za.c_def,Zi0,Zcc,Zty,Zd.c_def,Zj.c_def,Zc.c_def,mpl,dfs]
 all_goals try simp only [itb]
 all_goals try simp only [itf,gS,kk]
 all_goals repeat' first | refine exI fun _=>?_ | refine anJ fun _ _=>?_ | refine anI fun _=>?_ | refine orE2 ?_ ?_ | exact False.elim
 all_goals (intro h;first | rw [EvL_eq Zlj.eq_1] | refine runM Z28 rfl ?_ | rw [EvL_eq Ztz.eq_1] | refine run Zbdy rfl ?_ | refine run Zbdz rfl ?_ | refine run Zbd0 rfl ?_ | refine run Zbd1 rfl ?_ | rw [EvL_eq Zt1.eq_1] | refine run Zbd2 rfl ?_ | rw [EvL_eq Zo0.eq_1] | rw [EvL_eq Zt3.eq_1] | refine run Zbd3 rfl ?_)
 all_goals (refine Eq.trans ?_ h;clear h;simp +decide [*,kk,tI,tII,Ztn,Zlk,Zto,Z04,Zt0,Z05,Z06,Z07,Z08,Zt2,Z09,Zo1,Zt4,Z1a])
abbrev Z4s:=Zde.1
abbrev Zbhj:=Zde.2.1
abbrev Z4t:=Zde.2.2.1
abbrev Zbhk:=Zde.2.2.2.1
abbrev Zbhl:=Zde.2.2.2.2.1
abbrev Zbhm:=Zde.2.2.2.2.2.1
abbrev Zbhn:=Zde.2.2.2.2.2.2.1
abbrev Z4u:=Zde.2.2.2.2.2.2.2.1
abbrev Zbho:=Zde.2.2.2.2.2.2.2.2.1
abbrev Z4v:=Zde.2.2.2.2.2.2.2.2.2.1
abbrev Z4w:=Zde.2.2.2.2.2.2.2.2.2.2.1
abbrev Zbhp:=Zde.2.2.2.2.2.2.2.2.2.2.2
theorem Zdf:(∀ a r,Im (Zce a=some r) (∃ v1_0,Zeg a=some (Bo v1_0,[])∧(if v1_0=true then (¬ (a.Atoms.length:Int)<0∧(some (I (w ((shlI 1 (a.Atoms.length:Int)) - 1)),[])=some r)) else (some (I 0,[])=some r)))) ∧
 (∀ row n i r,Im (Zlr row n i=some r) (if i<(row.length:Int) then (0≤i∧(∃ e1,row[i.toNat]?=some e1∧(∃ v2_0,Zba e1 0 9=some (Bo v2_0,[])∧(if v2_0=true then (Zlr row n (w (i+1))=some r) else (some (Bo false,[])=some r))))) else (some (Bo (decide ((row.length:Int)=n)),[])=some r))) ∧
 (∀ a a1 r,Im (Zo2 a a1=some r) (Zlr a a1 0=some r)) ∧
 (∀ a b i r,Im (Zls a b i=some r) (if i<(a.length:Int) then (if i<(b.length:Int) then (0≤i∧(∃ e1,a[i.toNat]?=some e1∧(∃ e2,b[i.toNat]?=some e2∧(if e1<e2 then (some (I (-1),[])=some r) else (if e2<e1 then (some (I 1,[])=some r) else (Zls a b (w (i+1))=some r)))))) else (Zlt a b i false=some r)) else (Zlt a b i false=some r))) ∧
 (∀ a b i x r,Im (Zlt a b i x=some r) (if (a.length:Int)<(b.length:Int) then (some (I (-1),[])=some r) else (if (b.length:Int)<(a.length:Int) then (some (I 1,[])=some r) else (some (I 0,[])=some r)))) ∧
 (∀ a a1 r,Im (Zo4 a a1=some r) (Zls a a1 0=some r)) ∧
 (∀ t i r,Im (Zi7 t i=some r) (if i<(t.Rows.length:Int) then (0≤i∧(∃ e1,t.Rows[i.toNat]?=some e1∧(∃ v2_0,Zo2 e1 t.Arity=some (Bo v2_0,[])∧(if v2_0=true then (if 0<i then (0≤(w (i - 1))∧(∃ e3,t.Rows[(w (i - 1)).toNat]?=some e3∧(∃ v4_0,Zo4 e3 e1=some (I v4_0,[])∧(if 0≤v4_0 then (some (Bo false,[])=some r) else (Zi7 t (w (i+1))=some r))))) else (Zi7 t (w (i+1))=some r)) else (some (Bo false,[])=some r))))) else (some (Bo true,[])=some r))) ∧
 (∀ a r,Im (Zo5 a=some r) (∃ v1_0,Zi4 a.Name=some (Bo v1_0,[])∧(if v1_0=true then (∃ v2_0,Zba a.Arity 1 3=some (Bo v2_0,[])∧(if v2_0=true then (if 8<(a.Rows.length:Int) then (some (Bo false,[])=some r) else (Zi7 a 0=some r)) else (some (Bo false,[])=some r))) else (some (Bo false,[])=some r)))) ∧
 (∀ d i r,Im (Zi8 d i=some r) (if i<(d.Tables.length:Int) then (0≤i∧(∃ e1,d.Tables[i.toNat]?=some e1∧(∃ v2_0,Zo5 e1=some (Bo v2_0,[])∧(if v2_0=true then (if 0<i then (0≤(w (i - 1))∧(∃ e3,d.Tables[(w (i - 1)).toNat]?=some e3∧(if (Op.bytesLess e3.Name.toList e1.Name.toList)=true then (Zi8 d (w (i+1))=some r) else (some (Bo false,[])=some r)))) else (Zi8 d (w (i+1))=some r)) else (some (Bo false,[])=some r))))) else (some (Bo (decide ((d.Tables.length:Int)≤6)),[])=some r))) ∧
 (∀ a r,Im (Zlu a=some r) (Zi8 a 0=some r)) ∧
 (∀ t Name Arity Name1 Arity1 i r,Im (Zo8 t Name Arity Name1 Arity1 i=some r) (if i<(t.Rows.length:Int) then (0≤i∧(∃ e1,t.Rows[i.toNat]?=some e1∧(e1.length≤68719476736∧(Zlw t Name Arity Name1 Arity1 ([e1]) (w (i+1))=some r)))) else (some (.agg [.t (.str Name1),I Arity1,.t .nil],[])=some r))) ∧
 (∀ t Name Arity Name1 Arity1 x i r,Im (Zlw t Name Arity Name1 Arity1 x i=some r) (if i<(t.Rows.length:Int) then (0≤i∧(∃ e1,t.Rows[i.toNat]?=some e1∧(e1.length≤68719476736∧(x.length+1≤68719476736∧(Zlw t Name Arity Name1 Arity1 (x++[e1]) (w (i+1))=some r))))) else (some (.agg [.t (.str Name1),I Arity1,.own 0],[.arr 30 1 true (x.map isc)])=some r))):=by
 and_intros
 all_goals intros
 all_goals unfold Im
 all_goals try simp only [Zce,Zlr,Zo2,Zls,Zo4,Zi7,Zo5,Zi8,Zlu,Zo8,Zlw,Zeg,Zc.c_def,Zba,Zi4,Zg.c_def,Zlt,mpl,dfs]
 all_goals try simp only [itb]
 all_goals try simp only [itf,gS,kk]
 all_goals repeat' first | refine exI fun _=>?_ | refine anJ fun _ _=>?_ | refine anI fun _=>?_ | refine orE2 ?_ ?_ | exact False.elim
 all_goals (intro h;first | refine run Zbd4 rfl ?_ | rw [EvL_eq Zt5.eq_1] | refine run Zbd5 rfl ?_ | rw [EvL_eq Zt7.eq_1] | rw [Ev_eq Zo3.eq_1] | refine run Zbd6 rfl ?_ | rw [EvL_eq Zt8.eq_1] | refine run Zbd7 rfl ?_ | rw [EvL_eq Zua.eq_1] | refine run Zbd8 rfl ?_ | rw [EvL_eq Zo6.eq_1])
 all_goals (refine Eq.trans ?_ h;clear h;simp +decide [*,kk,tI,tII,Z1b,Zt6,Z1c,Z1d,Zt9,Z1e,Zub,Z1f,Zo7])
abbrev Zbhq:=Zdf.1
abbrev Z4x:=Zdf.2.1
abbrev Zbhr:=Zdf.2.2.1
abbrev Z4y:=Zdf.2.2.2.1
abbrev Zbhs:=Zdf.2.2.2.2.1
abbrev Zbht:=Zdf.2.2.2.2.2.1
abbrev Z4z:=Zdf.2.2.2.2.2.2.1
abbrev Zbhu:=Zdf.2.2.2.2.2.2.2.1
abbrev Z40:=Zdf.2.2.2.2.2.2.2.2.1
abbrev Zbhv:=Zdf.2.2.2.2.2.2.2.2.2.1
abbrev Zbhw:=Zdf.2.2.2.2.2.2.2.2.2.2.1
abbrev Z41:=Zdf.2.2.2.2.2.2.2.2.2.2.2
theorem Zwc:(∀ a r,Im (Zlv a=some r) (Zo8 a ⟨#[]⟩ 0 a.Name a.Arity 0=some r)) ∧
 (∀ d Name Arity name i r,Im (Zlx d Name Arity name i=some r) (if i<(d.Tables.length:Int) then (∃ v1_0,Zlu d=some (Bo v1_0,[])∧(if v1_0=true then (0≤i∧(∃ e2,d.Tables[i.toNat]?=some e2∧(if e2.Name=name then ((∃ v3_0 v3_1,Zlv e2=some (.agg [.t (.str v3_0),I v3_1,.t .nil],[])∧(some (.tup [.agg [.t (.str v3_0),I v3_1,.t .nil],Bo true],[])=some r))∨(∃ (v4_0:List (List Int)),∃ v4_1,∃ v4_2,Zlv e2=some (.agg [.t (.str v4_1),I v4_2,.own 0],[.arr 30 1 true (v4_0.map isc)])∧(some (.tup [.agg [.t (.str v4_1),I v4_2,.own 0],Bo true],[.arr 30 1 true (v4_0.map isc)])=some r))) else (Zlx d Name Arity name (w (i+1))=some r)))) else (some (.tup [.agg [.t (.str ⟨#[]⟩),I 0,.t .nil],Bo false],[])=some r))) else (some (.tup [.agg [.t (.str ⟨#[]⟩),I 0,.t .nil],Bo false],[])=some r))) ∧
 (∀ a a1 r,Im (Zez a a1=some r) (Zlx a ⟨#[]⟩ 0 a1 0=some r)):=by
 and_intros
 all_goals intros
 all_goals unfold Im
 all_goals try simp only [Zlv,Zlx,Zez,Zlu,Zi.c_def,Zg.c_def,Zo8,mpl,dfs]
 all_goals try simp only [itb]
 all_goals try simp only [itf,gS,kk]
 all_goals repeat' first | refine exI fun _=>?_ | refine anJ fun _ _=>?_ | refine anI fun _=>?_ | refine orE2 ?_ ?_ | exact False.elim
 all_goals (intro h;first | refine run Zbd9 rfl ?_ | rw [EvL_eq Zuc.eq_1] | refine run Zbea rfl ?_)
 all_goals (refine Eq.trans ?_ h;clear h;simp +decide [*,kk,tI,tII,Z1g,Zud,Z1h])
abbrev Zbhx:=Zwc.1
abbrev Z42:=Zwc.2.1
abbrev Zbhy:=Zwc.2.2
theorem Zdg:(∀ d q i r,Im (Zi9 d q i=some r) (if i<(q.Atoms.length:Int) then (0≤i∧(∃ e1,q.Atoms[i.toNat]?=some e1∧((∃ v2_0 v2_1 v2_2,Zez d e1.Name=some (.tup [.agg [.t (.str v2_0),I v2_1,.t .nil],Bo v2_2],[])∧(if v2_2=true then (if v2_1=(e1.Vars.length:Int) then (Zi9 d q (w (i+1))=some r) else (some (Bo false,[])=some r)) else (some (Bo false,[])=some r)))∨(∃ (v3_0:List (List Int)),∃ v3_1,∃ v3_2,Zez d e1.Name=some (.tup [.agg [.t (.str v3_1),I v3_2,.own 0],Bo true],[.arr 30 1 true (v3_0.map isc)])∧(if v3_2=(e1.Vars.length:Int) then (Zi9 d q (w (i+1))=some r) else (some (Bo false,[])=some r)))))) else (some (Bo true,[])=some r))) ∧
 (∀ a a1 r,Im (Zha a a1=some r) (∃ v1_0,Zeg a1=some (Bo v1_0,[])∧(if v1_0=true then (Zi9 a a1 0=some r) else (some (Bo false,[])=some r)))) ∧
 (∀ a a1 r,Im (Zja a a1=some r) (∃ v1_0,Zeg a=some (Bo v1_0,[])∧(if v1_0=true then (¬ (a.Atoms.length:Int)<0∧(∃ v2_0,Zba a1 0 (w ((shlI 1 (a.Atoms.length:Int)) - 1))=some (Bo v2_0,[])∧(some (Bo v2_0,[])=some r))) else (some (Bo false,[])=some r)))) ∧
 (∀ q mask x i r,Im (Zhc q mask x i=some r) (if i<(q.Atoms.length:Int) then (Zjb q mask x i 0=some r) else (some (I x,[])=some r))) ∧
 (∀ q mask x i k r,Im (Zjb q mask x i k=some r) (0≤i∧(∃ e1,q.Atoms[i.toNat]?=some e1∧(if k<(e1.Vars.length:Int) then (¬ i<0∧(if (andI (shrI mask i) 1)=1 then (0≤k∧(∃ e2,e1.Vars[k.toNat]?=some e2∧(¬ e2<0∧(Zjb q mask (orI x (shlI 1 e2)) i (w (k+1))=some r)))) else (Zhc q mask x (w (i+1))=some r))) else (Zhc q mask x (w (i+1))=some r))))) ∧
 (∀ a a1 r,Im (Zhb a a1=some r) (Zhc a a1 0 0=some r)) ∧
 (∀ q mask out bits i r,Im (Zhd q mask out bits i=some r) (if i<(q.Atoms.length:Int) then (¬ i<0∧(if (andI (shrI mask i) 1)=0 then (∃ v1_0,Zhb q (shlI 1 i)=some (I v1_0,[])∧(if (andI v1_0 bits)=0 then (Zhd q mask out bits (w (i+1))=some r) else (Zhd q mask (orI out (shlI 1 i)) bits (w (i+1))=some r))) else (Zhd q mask out bits (w (i+1))=some r))) else (some (I out,[])=some r))) ∧
 (∀ a a1 r,Im (Zpb a a1=some r) (∃ v1_0,Zhb a a1=some (I v1_0,[])∧(Zhd a a1 0 v1_0 0=some r))) ∧
 (∀ q mask x n r,Im (Zly q mask x n=some r) (if n<(q.Atoms.length:Int) then (∃ v1_0,Zpb q x=some (I v1_0,[])∧(Zly q mask (orI x (andI v1_0 mask)) (w (n+1))=some r)) else (some (Bo (decide (x=mask)),[])=some r))) ∧
 (∀ a a1 r,Im (Zfy a a1=some r) (Zly a a1 (andI a1 (w (0 - a1))) 0=some r)) ∧
 (∀ a a1 r,Im (Ze0 a a1=some r) (∃ v1_0,Zja a a1=some (Bo v1_0,[])∧(if v1_0=true then (if 0<a1 then (∃ v2_0,Zfy a a1=some (Bo v2_0,[])∧(some (Bo v2_0,[])=some r)) else (some (Bo false,[])=some r)) else (some (Bo false,[])=some r)))) ∧
 (∀ out bits v r,Im (Zhe out bits v=some r) (if v<4 then (¬ v<0∧(if (andI (shrI bits v) 1)=1 then (out.length+1≤68719476736∧(Zhe (out++[v]) bits (w (v+1))=some r)) else (Zhe out bits (w (v+1))=some r))) else (some (.own 0,[.arr 3 1 true (out.map ic)])=some r))):=by
 and_intros
 all_goals intros
 all_goals unfold Im
 all_goals try simp only [Zi9,Zha,Zja,Zhc,Zjb,Zhb,Zhd,Zpb,Zly,Zfy,Ze0,Zhe,Zez,Zi.c_def,Zeg,Zc.c_def,Zba,mpl,dfs]
 all_goals try simp only [itb]
 all_goals try simp only [itf,gS,kk]
 all_goals repeat' first | refine exI fun _=>?_ | refine anJ fun _ _=>?_ | refine anI fun _=>?_ | refine orE2 ?_ ?_ | exact False.elim
 all_goals (intro h;first | rw [EvL_eq Zue.eq_1] | refine run Zbeb rfl ?_ | refine run Zbec rfl ?_ | rw [EvL_eq Zo9.eq_1] | rw [EvL_eq Zug.eq_1] | refine run Zbed rfl ?_ | rw [EvL_eq Zui.eq_1] | refine run Zbee rfl ?_ | rw [EvL_eq Zuk.eq_1] | refine run Zbef rfl ?_ | refine run Zbeg rfl ?_ | rw [EvL_eq Zum.eq_1])
 all_goals (refine Eq.trans ?_ h;clear h;simp +decide [*,kk,tI,tII,Zuf,Z1i,Z1j,Zpa,Zuh,Z1k,Z1l,Zuj,Z1m,Zul,Z1n,Z1o,Z1p,Zun])
abbrev Z43:=Zdg.1
abbrev Zbhz:=Zdg.2.1
abbrev Zbh0:=Zdg.2.2.1
abbrev Z44:=Zdg.2.2.2.1
abbrev Zwd:=Zdg.2.2.2.2.1
abbrev Zbh1:=Zdg.2.2.2.2.2.1
abbrev Z45:=Zdg.2.2.2.2.2.2.1
abbrev Zbh2:=Zdg.2.2.2.2.2.2.2.1
abbrev Z46:=Zdg.2.2.2.2.2.2.2.2.1
abbrev Zbh3:=Zdg.2.2.2.2.2.2.2.2.2.1
abbrev Zbh4:=Zdg.2.2.2.2.2.2.2.2.2.2.1
abbrev Z47:=Zdg.2.2.2.2.2.2.2.2.2.2.2
theorem Zd1:(∀ a r,Im (Zuo a=some r) (Zhe ([]:List Int) a 0=some r)) ∧
 (∀ a a1 r,Im (Zhf a a1=some r) (∃ v1_0,Zja a a1=some (Bo v1_0,[])∧(if v1_0=true then (∃ v2_0,Zhb a a1=some (I v2_0,[])∧(∃ (v3_0:List Int),Zuo v2_0=some (.own 0,[.arr 3 1 true (v3_0.map ic)])∧(some (.own 0,[.arr 3 1 true (v3_0.map ic)])=some r))) else (some (.own 0,[.arr 3 1 true (([]:List Int).map ic)])=some r)))) ∧
 (∀ t a vars row i r,Im (Zjc t a vars row i=some r) (if i<(t.Rows.length:Int) then (Zjd t a vars row i true 0=some r) else (some (Bo false,[])=some r))) ∧
 (∀ t a vars row i is k r,Im (Zjd t a vars row i is k=some r) (if k<(a.Vars.length:Int) then (Zhg t a vars row i is k 0=some r) else (if is=true then (some (Bo true,[])=some r) else (Zjc t a vars row (w (i+1))=some r)))) ∧
 (∀ t a vars row i is k j r,Im (Zhg t a vars row i is k j=some r) (if j<(row.length:Int) then (if is=true then (0≤j∧(∃ e1,vars[j.toNat]?=some e1∧(0≤k∧(∃ e2,a.Vars[k.toNat]?=some e2∧(if e1=e2 then (∃ e3,row[j.toNat]?=some e3∧(0≤i∧(∃ e4,t.Rows[i.toNat]?=some e4∧(∃ e5,e4[k.toNat]?=some e5∧(Zhg t a vars row i (decide (e3=e5)) k (w (j+1))=some r))))) else (Zhg t a vars row i true k (w (j+1))=some r)))))) else (Zhg t a vars row i false k (w (j+1))=some r)) else (Zjd t a vars row i is (w (k+1))=some r))) ∧
 (∀ a a1 a2 a3 r,Im (Zpf a a1 a2 a3=some r) (Zjc a a1 a2 a3 0=some r)) ∧
 (∀ l fr atoms vars row i r,Im (Zje l fr atoms vars row i=some r) (if i<(l.length:Int) then (0≤i∧(∃ e1,l[i.toNat]?=some e1∧(∃ e2,atoms[i.toNat]?=some e2∧(∃ v3_0,Zpf e1 e2 vars row=some (Bo v3_0,[])∧(if v3_0=true then (Zje l fr atoms vars row (w (i+1))=some r) else (some (.own 4,[.arr 277 3 true (l.map Zg.c),.arr 264 2 fr (atoms.map Atom.c),.arr 3 1 true (vars.map ic),.arr 3 1 true (row.map ic),.arr 30 1 true (([]:List (List Int)).map isc)])=some r)))))) else (if (row.length:Int)=(vars.length:Int) then (row.length≤68719476736∧(some (.own 4,[.arr 277 3 true (l.map Zg.c),.arr 264 2 fr (atoms.map Atom.c),.arr 3 1 true (vars.map ic),.arr 3 1 true (row.map ic),.arr 30 1 true (([row]).map isc)])=some r)) else (Zjf l fr atoms vars row true ([]:List (List Int)) 0=some r)))) ∧
 (∀ l fr atoms vars row fr1 out v r,Im (Zjf l fr atoms vars row fr1 out v=some r) (if v≤9 then (row.length≤68719476736∧(row.length+1≤68719476736∧((∃ (v1_0:List Zg),∃ v1_1,∃ (v1_2:List Atom),∃ (v1_3:List Int),∃ (v1_4:List Int),∃ (v1_5:List (List Int)),Zhh l fr atoms vars (row++[v])=some (.own 4,[.arr 277 3 true (v1_0.map Zg.c),.arr 264 2 v1_1 (v1_2.map Atom.c),.arr 3 1 true (v1_3.map ic),.arr 3 1 true (v1_4.map ic),.arr 30 1 true (v1_5.map isc)])∧(out.length+v1_5.length≤68719476736∧(Zjf v1_0 v1_1 v1_2 v1_3 row (fr1 && flat (v1_5.map isc)) (out++v1_5) (w (v+1))=some r)))∨(∃ (v2_0:List Zg),∃ v2_1,∃ (v2_2:List Atom),∃ (v2_3:List Int),∃ (v2_4:List Int),∃ v2_5,∃ (v2_6:List (List Int)),Zhh l fr atoms vars (row++[v])=some (.own 4,[.arr 277 3 true (v2_0.map Zg.c),.arr 264 2 v2_1 (v2_2.map Atom.c),.arr 3 1 true (v2_3.map ic),.arr 3 1 true (v2_4.map ic),.arr 30 1 v2_5 (v2_6.map isc)])∧(out.length+v2_6.length≤68719476736∧(Zjf v2_0 v2_1 v2_2 v2_3 row (fr1 && flat (v2_6.map isc)) (out++v2_6) (w (v+1))=some r)))))) else (some (.own 4,[.arr 277 3 true (l.map Zg.c),.arr 264 2 fr (atoms.map Atom.c),.arr 3 1 true (vars.map ic),.arr 3 1 true (row.map ic),.arr 30 1 fr1 (out.map isc)])=some r))) ∧
 (∀ x fr x1 x2 x3 r,Im (Zhh x fr x1 x2 x3=some r) (Zje x fr x1 x2 x3 0=some r)) ∧
 (∀ d q l fr atoms mask i r,Im (Zhj d q l fr atoms mask i=some r) (if i<(q.Atoms.length:Int) then (¬ i<0∧(if (andI (shrI mask i) 1)=1 then (0≤i∧(∃ e1,q.Atoms[i.toNat]?=some e1∧((∃ v2_0 v2_1 v2_2,Zez d e1.Name=some (.tup [.agg [.t (.str v2_0),I v2_1,.t .nil],Bo v2_2],[])∧(l.length+1≤68719476736∧(atoms.length+1≤68719476736∧(Zhj d q (l++[(⟨v2_0,v2_1,[]⟩:Zg)]) false (atoms++[e1]) mask (w (i+1))=some r))))∨(∃ (v3_0:List (List Int)),∃ v3_1,∃ v3_2,Zez d e1.Name=some (.tup [.agg [.t (.str v3_1),I v3_2,.own 0],Bo true],[.arr 30 1 true (v3_0.map isc)])∧(l.length+1≤68719476736∧(atoms.length+1≤68719476736∧(Zhj d q (l++[(⟨v3_1,v3_2,v3_0⟩:Zg)]) false (atoms++[e1]) mask (w (i+1))=some r))))))) else (Zhj d q l fr atoms mask (w (i+1))=some r))) else (∃ (v4_0:List Int),Zhf q mask=some (.own 0,[.arr 3 1 true (v4_0.map ic)])∧((∃ (v5_0:List Zg),∃ v5_1,∃ (v5_2:List Atom),∃ (v5_3:List Int),∃ (v5_4:List Int),∃ (v5_5:List (List Int)),Zhh l fr atoms v4_0 ([]:List Int)=some (.own 4,[.arr 277 3 true (v5_0.map Zg.c),.arr 264 2 v5_1 (v5_2.map Atom.c),.arr 3 1 true (v5_3.map ic),.arr 3 1 true (v5_4.map ic),.arr 30 1 true (v5_5.map isc)])∧(some (.tup [.agg [.own 0,.own 1],Bo true],[.arr 3 1 true (v5_3.map ic),.arr 30 1 true (v5_5.map isc)])=some r))∨(∃ (v6_0:List Zg),∃ v6_1,∃ (v6_2:List Atom),∃ (v6_3:List Int),∃ (v6_4:List Int),∃ v6_5,∃ (v6_6:List (List Int)),Zhh l fr atoms v4_0 ([]:List Int)=some (.own 4,[.arr 277 3 true (v6_0.map Zg.c),.arr 264 2 v6_1 (v6_2.map Atom.c),.arr 3 1 true (v6_3.map ic),.arr 3 1 true (v6_4.map ic),.arr 30 1 v6_5 (v6_6.map isc)])∧(some (.tup [.agg [.own 0,.own 1],Bo true],[.arr 3 1 true (v6_3.map ic),.arr 30 1 v6_5 (v6_6.map isc)])=some r)))))) ∧
 (∀ a a1 a2 r,Im (Zhi a a1 a2=some r) (∃ v1_0,Zha a a1=some (Bo v1_0,[])∧(if v1_0=true then (∃ v2_0,Zce a1=some (I v2_0,[])∧(∃ v3_0,Zba a2 1 v2_0=some (Bo v3_0,[])∧(if v3_0=true then (Zhj a a1 ([]:List Zg) true ([]:List Atom) a2 0=some r) else (some (.tup [.agg [.t .nil,.t .nil],Bo false],[])=some r)))) else (some (.tup [.agg [.t .nil,.t .nil],Bo false],[])=some r)))):=by
 and_intros
 all_goals intros
 all_goals unfold Im
 all_goals try simp only [Zuo,Zhf,Zjc,Zjd,Zhg,Zpf,Zje,Zjf,Zhh,Zhj,Zhi,Zja,Zhb,Zc.c_def,Atom.c_def,Zg.c_def,Zez,Zi.c_def,Zha,Zce,Zba,Zhe,mpl,dfs]
 all_goals try simp only [itb]
 all_goals try simp only [itf,gS,kk]
 all_goals repeat' first | refine exI fun _=>?_ | refine anJ fun _ _=>?_ | refine anI fun _=>?_ | refine orE2 ?_ ?_ | exact False.elim
 all_goals (intro h;first | refine run Zbeh rfl ?_ | refine run Zbei rfl ?_ | rw [EvL_eq Zlz.eq_1] | rw [EvL_eq Zpc.eq_1] | rw [EvL_eq Zup.eq_1] | refine run Zbej rfl ?_ | rw [EvL_eq Zur.eq_1] | rw [EvL_eq Zus.eq_1] | refine runM Zbek rfl ?_ | rw [EvL_eq Zuv.eq_1] | refine run Zbel rfl ?_)
 all_goals (refine Eq.trans ?_ h;clear h;simp +decide [*,kk,tI,tII,Z1q,Z1r,Zl0,Zpd,Zpe,Zuq,Z1s,Zuu,Zut,Z1t,Z1u,Zuw,Z1v])
abbrev Zbh5:=Zd1.1
abbrev Zbh6:=Zd1.2.1
abbrev Z48:=Zd1.2.2.1
abbrev Z49:=Zd1.2.2.2.1
abbrev Z5a:=Zd1.2.2.2.2.1
abbrev Zbh7:=Zd1.2.2.2.2.2.1
abbrev Zms:=Zd1.2.2.2.2.2.2.1
abbrev Z5b:=Zd1.2.2.2.2.2.2.2.1
abbrev Z5c:=Zd1.2.2.2.2.2.2.2.2.1
abbrev Zwe:=Zd1.2.2.2.2.2.2.2.2.2.1
abbrev Zbh8:=Zd1.2.2.2.2.2.2.2.2.2.2
theorem Zdh:(∀ a a1 a2 r,Im (Zpg a a1 a2=some r) ((Zhi a a1 a2=some (.tup [.agg [.t .nil,.t .nil],Bo false],[])∧(some (I (-1),[])=some r))∨(∃ (v2_0:List Int) (v2_1:List (List Int)),Zhi a a1 a2=some (.tup [.agg [.own 0,.own 1],Bo true],[.arr 3 1 true (v2_0.map ic),.arr 30 1 true (v2_1.map isc)])∧(some (I (v2_1.length:Int),[])=some r))∨(∃ (v3_0:List Int),∃ v3_1,∃ (v3_2:List (List Int)),Zhi a a1 a2=some (.tup [.agg [.own 0,.own 1],Bo true],[.arr 3 1 true (v3_0.map ic),.arr 30 1 v3_1 (v3_2.map isc)])∧(some (I (v3_2.length:Int),[])=some r)))) ∧
 (∀ d q out m r,Im (Zjg d q out m=some r) (∃ v1_0,Zce q=some (I v1_0,[])∧(if m≤v1_0 then (∃ v2_0,Zha d q=some (Bo v2_0,[])∧(if v2_0=true then (∃ v3_0,Ze0 q m=some (Bo v3_0,[])∧(if v3_0=true then (∃ v4_0,Zpg d q m=some (I v4_0,[])∧(out.length+1≤68719476736∧(Zjg d q (out++[v4_0]) (w (m+1))=some r))) else (out.length+1≤68719476736∧(Zjg d q (out++[0]) (w (m+1))=some r)))) else (some (.own 0,[.arr 3 1 true (out.map ic)])=some r))) else (some (.own 0,[.arr 3 1 true (out.map ic)])=some r)))) ∧
 (∀ a a1 r,Im (Zl1 a a1=some r) (Zjg a a1 ([]:List Int) 0=some r)) ∧
 (∀ k n i r,Im (Zjh k n i=some r) (if i<k then (Zjh k (if 1<(w (n*4)) then (w (n*4)) else 1) (w (i+1))=some r) else (some (I n,[])=some r))) ∧
 (∀ a r,Im (Ze1 a=some r) (∃ v1_0,Zba a 0 7=some (Bo v1_0,[])∧(if v1_0=true then (Zjh a 0 0=some r) else (some (I (-1),[])=some r)))) ∧
 (∀ n k r,Im (Zpi n k=some r) (if k≤7 then (∃ v1_0,Ze1 k=some (I v1_0,[])∧(if n≤v1_0 then (some (I k,[])=some r) else (Zpi n (w (k+1))=some r))) else (some (I (-1),[])=some r))) ∧
 (∀ a r,Im (Zph a=some r) (if a<0 then (some (I (-1),[])=some r) else (Zpi a 0=some r))) ∧
 (∀ out l i r,Im (Zl3 out l i=some r) (if i<(l.length:Int) then (0≤i∧(∃ e1,l[i.toNat]?=some e1∧(∃ v2_0,Zph e1=some (I v2_0,[])∧(out.length+1≤68719476736∧(Zl3 (out++[v2_0]) l (w (i+1))=some r))))) else (some (.own 0,[.arr 3 1 true (out.map ic)])=some r))) ∧
 (∀ a a1 r,Im (Zl2 a a1=some r) (∃ (v1_0:List Int),Zl1 a a1=some (.own 0,[.arr 3 1 true (v1_0.map ic)])∧(Zl3 ([]:List Int) v1_0 0=some r))) ∧
 (∀ l i r,Im (Zl4 l i=some r) (if i<(l.length:Int) then (0≤i∧(∃ e1,l[i.toNat]?=some e1∧(∃ v2_0,Zba e1 0 7=some (Bo v2_0,[])∧(if v2_0=true then (Zl4 l (w (i+1))=some r) else (some (Bo false,[])=some r))))) else (some (Bo (decide ((l.length:Int)≤16)),[])=some r))) ∧
 (∀ a r,Im (Zpj a=some r) (Zl4 a 0=some r)) ∧
 (∀ out l i r,Im (Zji out l i=some r) (if i<(l.length:Int) then (∃ v1_0,Zpj l=some (Bo v1_0,[])∧(if v1_0=true then (0≤i∧(∃ e2,l[i.toNat]?=some e2∧(∃ v3_0,Ze1 e2=some (I v3_0,[])∧(out.length+1≤68719476736∧(Zji (out++[v3_0]) l (w (i+1))=some r))))) else (some (.own 0,[.arr 3 1 true (out.map ic)])=some r))) else (some (.own 0,[.arr 3 1 true (out.map ic)])=some r))):=by
 and_intros
 all_goals intros
 all_goals unfold Im
 all_goals try simp only [Zpg,Zjg,Zl1,Zjh,Ze1,Zpi,Zph,Zl3,Zl2,Zl4,Zpj,Zji,Zhi,Zi.c_def,Zc.c_def,Zce,Zha,Ze0,Zba,mpl,dfs]
 all_goals try simp only [itb]
 all_goals try simp only [itf,gS,kk]
 all_goals repeat' first | refine exI fun _=>?_ | refine anJ fun _ _=>?_ | refine anI fun _=>?_ | refine orE2 ?_ ?_ | exact False.elim
 all_goals (intro h;first | refine run Zbem rfl ?_ | rw [EvL_eq Zux.eq_1] | refine run Zben rfl ?_ | rw [EvL_eq Zuz.eq_1] | refine run Zbeo rfl ?_ | rw [EvL_eq Zu1.eq_1] | refine run Zbep rfl ?_ | rw [EvL_eq Zu3.eq_1] | refine run Zbeq rfl ?_ | rw [EvL_eq Zu5.eq_1] | refine run Zber rfl ?_ | rw [EvL_eq Zu7.eq_1])
 all_goals (refine Eq.trans ?_ h;clear h;simp +decide [*,kk,tI,tII,Z1w,Z1x,Zuy,Z1y,Zu0,Z1z,Zu2,Z10,Zu4,Z11,Zu6,Z12,Zu8])
abbrev Zbh9:=Zdh.1
abbrev Zwf:=Zdh.2.1
abbrev Z5d:=Zdh.2.2.1
abbrev Zbia:=Zdh.2.2.2.1
abbrev Zbib:=Zdh.2.2.2.2.1
abbrev Ze7:=Zdh.2.2.2.2.2.1
abbrev Zbic:=Zdh.2.2.2.2.2.2.1
abbrev Z5e:=Zdh.2.2.2.2.2.2.2.1
abbrev Z5f:=Zdh.2.2.2.2.2.2.2.2.1
abbrev Z5g:=Zdh.2.2.2.2.2.2.2.2.2.1
abbrev Zbid:=Zdh.2.2.2.2.2.2.2.2.2.2.1
abbrev Zwg:=Zdh.2.2.2.2.2.2.2.2.2.2.2
theorem Zdi:(∀ a r,Im (Zl5 a=some r) (Zji ([]:List Int) a 0=some r)) ∧
 (∀ a a1 r,Im (Zdz a a1=some r) (if a1=1 then (some (.agg (a.Scan.c.map .t),[])=some r) else (if a1=2 then (some (.agg (a.Sort_.c.map .t),[])=some r) else (if a1=3 then (some (.agg (a.Hash.c.map .t),[])=some r) else (if a1=4 then (some (.agg (a.Merge.c.map .t),[])=some r) else (some (.agg (a.Nested.c.map .t),[])=some r)))))) ∧
 (∀ a r,Im (Ze2 a=some r) (∃ v1_0,Zba a (-99) 99=some (Bo v1_0,[])∧(some (Bo v1_0,[])=some r))) ∧
 (∀ o i r,Im (Zhk o i=some r) (if i<(o.Steps.length:Int) then (0≤i∧(∃ e1,o.Steps[i.toNat]?=some e1∧(∃ v2_0,Zba e1.From 1 8192=some (Bo v2_0,[])∧(if v2_0=true then (∃ v3_0,Ze2 e1.Add=some (Bo v3_0,[])∧(if v3_0=true then (if 0<i then (0≤(w (i - 1))∧(∃ e4,o.Steps[(w (i - 1)).toNat]?=some e4∧(if e1.From≤e4.From then (some (Bo false,[])=some r) else (Zhk o (w (i+1))=some r)))) else (Zhk o (w (i+1))=some r)) else (some (Bo false,[])=some r))) else (some (Bo false,[])=some r))))) else (some (Bo true,[])=some r))) ∧
 (∀ a r,Im (Zfz a=some r) (∃ v1_0,Ze2 a.Fixed=some (Bo v1_0,[])∧(if v1_0=true then (∃ v2_0,Ze2 a.Zl=some (Bo v2_0,[])∧(if v2_0=true then (∃ v3_0,Ze2 a.Zm=some (Bo v3_0,[])∧(if v3_0=true then (∃ v4_0,Ze2 a.Zo=some (Bo v4_0,[])∧(if v4_0=true then (∃ v5_0,Ze2 a.Zn=some (Bo v5_0,[])∧(if v5_0=true then (if 4<(a.Steps.length:Int) then (some (Bo false,[])=some r) else (Zhk a 0=some r)) else (some (Bo false,[])=some r))) else (some (Bo false,[])=some r))) else (some (Bo false,[])=some r))) else (some (Bo false,[])=some r))) else (some (Bo false,[])=some r)))) ∧
 (∀ o l r_1 n i r,Im (Zhl o l r_1 n i=some r) (if i<(o.Steps.length:Int) then (0≤i∧(∃ e1,o.Steps[i.toNat]?=some e1∧(if e1.From≤(w (l+r_1)) then (Zhl o l r_1 (w (n+e1.Add)) (w (i+1))=some r) else (Zhl o l r_1 n (w (i+1))=some r)))) else (some (I n,[])=some r))) ∧
 (∀ a a1 a2 a3 r,Im (Zcv a a1 a2 a3=some r) (∃ v1_0,Zfz a=some (Bo v1_0,[])∧(if v1_0=true then (∃ v2_0,Zba a1 0 4096=some (Bo v2_0,[])∧(if v2_0=true then (∃ v3_0,Zba a2 0 4096=some (Bo v3_0,[])∧(if v3_0=true then (∃ v4_0,Zba a3 0 4096=some (Bo v4_0,[])∧(if v4_0=true then (Zhl a a1 a2 (w ((w ((w ((w (a.Fixed+(w (a.Zl*a1))))+(w (a.Zm*a2))))+(w (a.Zo*a3))))+(w ((w (a.Zn*a1))*a2)))) 0=some r) else (some (I 0,[])=some r))) else (some (I 0,[])=some r))) else (some (I 0,[])=some r))) else (some (I 0,[])=some r)))) ∧
 (∀ a a1 r,Im (Zhm a a1=some r) (∃ e1,a1[0]?=some e1∧(∃ v2_0,Ze1 e1=some (I v2_0,[])∧(∃ e3,a1[1]?=some e3∧(∃ v4_0,Ze1 e3=some (I v4_0,[])∧(∃ e5,a1[2]?=some e5∧(∃ v6_0,Ze1 e5=some (I v6_0,[])∧(∃ v7_0,Zcv a v2_0 v4_0 v6_0=some (I v7_0,[])∧(some (I v7_0,[])=some r))))))))) ∧
 (∀ o a r,Im (Zhn o a=some r) (if a≤7 then (Zjl o a 0=some r) else (some (.tup [.own 0,.own 1,Bo false],[.arr 3 1 true (([]:List Int).map ic),.arr 3 1 true (([]:List Int).map ic)])=some r))) ∧
 (∀ o a b r,Im (Zjl o a b=some r) (if b≤7 then (Zjm o a b 0=some r) else (Zhn o (w (a+1))=some r))) ∧
 (∀ o a b e r,Im (Zjm o a b e=some r) (if e≤7 then (Ze3 o ([a,b,e]) a b e 0=some r) else (Zjl o a (w (b+1))=some r))) ∧
 (∀ o x a b e k r,Im (Ze3 o x a b e k=some r) (if k<3 then (x.length≤68719476736∧(0≤k∧(∃ e1,x[k.toNat]?=some e1∧(if (w (e1+1))≤7 then (∃ v2_0,Zhm o (x.set k.toNat (w (e1+1)))=some (I v2_0,[])∧(∃ v3_0,Zhm o x=some (I v3_0,[])∧(if v2_0<v3_0 then (some (.tup [.own 0,.own 1,Bo true],[.arr 3 1 true (x.map ic),.arr 3 1 true ((x.set k.toNat (w (e1+1))).map ic)])=some r) else (Ze3 o x a b e (w (k+1))=some r)))) else (Ze3 o x a b e (w (k+1))=some r))))) else (Zjm o a b (w (e+1))=some r))):=by
 and_intros
 all_goals intros
 all_goals unfold Im
 all_goals try simp only [Zl5,Zdz,Ze2,Zhk,Zfz,Zhl,Zcv,Zhm,Zhn,Zjl,Zjm,Ze3,Zba,Zj.c_def,Ze1,Zji,mpl,dfs]
 all_goals try simp only [itb]
 all_goals try simp only [itf,gS,kk]
 all_goals repeat' first | refine exI fun _=>?_ | refine anJ fun _ _=>?_ | refine anI fun _=>?_ | refine orE2 ?_ ?_ | exact False.elim
 all_goals (intro h;first | refine run Zbes rfl ?_ | refine run Zbet rfl ?_ | refine run Zbeu rfl ?_ | rw [EvL_eq Zu9.eq_1] | refine run Zbev rfl ?_ | rw [EvL_eq Zvb.eq_1] | refine run Zbew rfl ?_ | refine run Zbex rfl ?_ | rw [EvL_eq Zjj.eq_1] | rw [EvL_eq Zl6.eq_1] | rw [EvL_eq Zpk.eq_1] | rw [EvL_eq Zvd.eq_1])
 all_goals (refine Eq.trans ?_ h;clear h;simp +decide [*,kk,tI,tII,Z13,Z14,Z15,Zva,Z16,Z17,Zvc,Z18,Z19,Zjk,Zl7,Zpl,Zve])
abbrev Z5h:=Zdi.1
abbrev Zbie:=Zdi.2.1
abbrev Zbif:=Zdi.2.2.1
abbrev Z5i:=Zdi.2.2.2.1
abbrev Zbig:=Zdi.2.2.2.2.1
abbrev Z5j:=Zdi.2.2.2.2.2.1
abbrev Zbih:=Zdi.2.2.2.2.2.2.1
abbrev Zbii:=Zdi.2.2.2.2.2.2.2.1
abbrev Z5k:=Zdi.2.2.2.2.2.2.2.2.1
abbrev Z5l:=Zdi.2.2.2.2.2.2.2.2.2.1
abbrev Z5m:=Zdi.2.2.2.2.2.2.2.2.2.2.1
abbrev Z5n:=Zdi.2.2.2.2.2.2.2.2.2.2.2
theorem Zf7:(∀ a r,Im (Zpm a=some r) (∃ v1_0,Zfz a=some (Bo v1_0,[])∧(if v1_0=true then (Zhn a 0=some r) else (some (.tup [.own 0,.own 1,Bo false],[.arr 3 1 true (([]:List Int).map ic),.arr 3 1 true (([]:List Int).map ic)])=some r)))) ∧
 (∀ o a r,Im (Zjn o a=some r) (if a≤7 then (Zjo o a 0=some r) else (some (.own 0,[.arr 3 1 true (([]:List Int).map ic)])=some r))) ∧
 (∀ o a b r,Im (Zjo o a b=some r) (if b≤7 then (Zma o a b 0=some r) else (Zjn o (w (a+1))=some r))) ∧
 (∀ o a b e r,Im (Zma o a b e=some r) (if e≤7 then (∃ v1_0,Zhm o ([a,b,e])=some (I v1_0,[])∧(if v1_0<1 then (some (.own 0,[.arr 3 1 true (([a,b,e]).map ic)])=some r) else (Zma o a b (w (e+1))=some r))) else (Zjo o a (w (b+1))=some r))) ∧
 (∀ a r,Im (Zpp a=some r) (Zjn a 0=some r)) ∧
 (∀ m k r,Im (Zjp m k=some r) (if k≤5 then (∃ (v1_0:Zj),Zdz m k=some (.agg (v1_0.c.map .t),[])∧(∃ v2_0,Zfz v1_0=some (Bo v2_0,[])∧(if v2_0=true then (∃ (v3_0:List Int),∃ (v3_1:List Int),∃ v3_2,Zpm v1_0=some (.tup [.own 0,.own 1,Bo v3_2],[.arr 3 1 true (v3_0.map ic),.arr 3 1 true (v3_1.map ic)])∧(if v3_2=true then (some (.tup [I k,.own 0,.own 1],[.arr 3 1 true (v3_0.map ic),.arr 3 1 true (v3_1.map ic)])=some r) else (∃ (v4_0:List Int),Zpp v1_0=some (.own 0,[.arr 3 1 true (v4_0.map ic)])∧(if 0<(v4_0.length:Int) then (some (.tup [I k,.own 0,.own 1],[.arr 3 1 true (v4_0.map ic),.arr 3 1 true (([]:List Int).map ic)])=some r) else (Zjp m (w (k+1))=some r))))) else (some (.tup [I k,.own 0,.own 1],[.arr 3 1 true (([]:List Int).map ic),.arr 3 1 true (([]:List Int).map ic)])=some r)))) else (some (.tup [I 0,.own 0,.own 1],[.arr 3 1 true (([]:List Int).map ic),.arr 3 1 true (([]:List Int).map ic)])=some r))) ∧
 (∀ a r,Im (Zvj a=some r) (Zjp a 1=some r)) ∧
 (∀ a r,Im (Zmb a=some r) (∃ (v1_0:List Int),∃ (v1_1:List Int),∃ v1_2,Zvj a=some (.tup [I v1_2,.own 0,.own 1],[.arr 3 1 true (v1_0.map ic),.arr 3 1 true (v1_1.map ic)])∧(some (Bo (decide (v1_2=0)),[])=some r))):=by
 and_intros
 all_goals intros
 all_goals unfold Im
 all_goals try simp only [Zpm,Zjn,Zjo,Zma,Zpp,Zjp,Zvj,Zmb,Zfz,Zj.c_def,Zhm,Zdz,Zd.c_def,Zhn,mpl,dfs]
 all_goals try simp only [itb]
 all_goals try simp only [itf,gS,kk]
 all_goals repeat' first | refine exI fun _=>?_ | refine anJ fun _ _=>?_ | refine anI fun _=>?_ | refine orE2 ?_ ?_ | exact False.elim
 all_goals (intro h;first | refine run Zbey rfl ?_ | rw [EvL_eq Zl8.eq_1] | rw [EvL_eq Zpn.eq_1] | rw [EvL_eq Zvf.eq_1] | refine run Zbez rfl ?_ | rw [EvL_eq Zvh.eq_1] | refine run Zbe0 rfl ?_ | refine run Zbe1 rfl ?_)
 all_goals (refine Eq.trans ?_ h;clear h;simp +decide [*,kk,tI,tII,Z2a,Zl9,Zpo,Zvg,Z2b,Zvi,Z2c,Z2d])
abbrev Zbij:=Zf7.1
abbrev Z5o:=Zf7.2.1
abbrev Z5p:=Zf7.2.2.1
abbrev Zwh:=Zf7.2.2.2.1
abbrev Zbik:=Zf7.2.2.2.2.1
abbrev Z5q:=Zf7.2.2.2.2.2.1
abbrev Zbil:=Zf7.2.2.2.2.2.2.1
abbrev Zbim:=Zf7.2.2.2.2.2.2.2
theorem Zdj:(∀ sizes i r,Im (Zmd sizes i=some r) (if i<(sizes.length:Int) then (0≤i∧(∃ e1,sizes[i.toNat]?=some e1∧(∃ v2_0,Zba e1 0 4096=some (Bo v2_0,[])∧(if v2_0=true then (Zmd sizes (w (i+1))=some r) else (some (Bo false,[])=some r))))) else (some (Bo true,[])=some r))) ∧
 (∀ a a1 r,Im (Zmc a a1=some r) (∃ v1_0,Zeg a=some (Bo v1_0,[])∧(if v1_0=true then (∃ v2_0,Zce a=some (I v2_0,[])∧(if (a1.length:Int)=(w (v2_0+1)) then (Zmd a1 0=some r) else (some (Bo false,[])=some r))) else (some (Bo false,[])=some r)))) ∧
 (∀ q out full m r,Im (Zjq q out full m=some r) (if m≤full then (∃ v1_0,Zfy q m=some (Bo v1_0,[])∧(if v1_0=true then (out.length+1≤68719476736∧(Zjq q (out++[m]) full (w (m+1))=some r)) else (Zjq q out full (w (m+1))=some r))) else (some (.own 0,[.arr 3 1 true (out.map ic)])=some r))) ∧
 (∀ a r,Im (Zpq a=some r) (∃ v1_0,Zce a=some (I v1_0,[])∧(Zjq a ([]:List Int) v1_0 1=some r))) ∧
 (∀ q out mask m r,Im (Ze4 q out mask m=some r) (if m<mask then (if (andI m mask)=m then (∃ v1_0,Zfy q m=some (Bo v1_0,[])∧(if v1_0=true then (∃ v2_0,Zfy q (w (mask - m))=some (Bo v2_0,[])∧(if v2_0=true then (out.length+1≤68719476736∧(Ze4 q (out++[m]) mask (w (m+1))=some r)) else (Ze4 q out mask (w (m+1))=some r))) else (Ze4 q out mask (w (m+1))=some r))) else (Ze4 q out mask (w (m+1))=some r)) else (some (.own 0,[.arr 3 1 true (out.map ic)])=some r))) ∧
 (∀ a a1 r,Im (Zpr a a1=some r) (∃ v1_0,Ze0 a a1=some (Bo v1_0,[])∧(if v1_0=true then (Ze4 a ([]:List Int) a1 1=some r) else (some (.own 0,[.arr 3 1 true (([]:List Int).map ic)])=some r)))) ∧
 (∀ out x y i r,Im (Zjs out x y i=some r) (if i<(x.length:Int) then (0≤i∧(∃ e1,x[i.toNat]?=some e1∧(∃ v2_0,Zi5 y e1=some (Bo v2_0,[])∧(if v2_0=true then (out.length+1≤68719476736∧(Zjs (out++[e1]) x y (w (i+1))=some r)) else (Zjs out x y (w (i+1))=some r))))) else (some (.own 0,[.arr 3 1 true (out.map ic)])=some r))) ∧
 (∀ a a1 a2 r,Im (Zjr a a1 a2=some r) (∃ (v1_0:List Int),Zhf a a1=some (.own 0,[.arr 3 1 true (v1_0.map ic)])∧(∃ (v2_0:List Int),Zhf a a2=some (.own 0,[.arr 3 1 true (v2_0.map ic)])∧(Zjs ([]:List Int) v1_0 v2_0 0=some r)))) ∧
 (∀ q out masks i r,Im (Zf0 q out masks i=some r) (if i<(masks.length:Int) then (0≤i∧(∃ e1,masks[i.toNat]?=some e1∧(∃ (v2_0:List Int),Zpr q e1=some (.own 0,[.arr 3 1 true (v2_0.map ic)])∧(Zpv q out masks e1 v2_0 i 0=some r)))) else (some (.own 0,[.arr 257 3 true (out.map Zx.c)])=some r))) ∧
 (∀ q out masks mask x i k r,Im (Zpv q out masks mask x i k=some r) (if k<(x.length:Int) then (0≤k∧(∃ e1,x[k.toNat]?=some e1∧(0≤i∧(∃ e2,masks[i.toNat]?=some e2∧(∃ (v3_0:List Int),Zjr q e1 (w (e2 - e1))=some (.own 0,[.arr 3 1 true (v3_0.map ic)])∧(Zmh q out masks mask x ([v3_0]) i (w (k+1))=some r)))))) else (out.length+1≤68719476736∧(Zf0 q (out++[(⟨mask,x,[]⟩:Zx)]) masks (w (i+1))=some r)))) ∧
 (∀ q out masks mask x x1 i k r,Im (Zmh q out masks mask x x1 i k=some r) (if k<(x.length:Int) then (0≤k∧(∃ e1,x[k.toNat]?=some e1∧(0≤i∧(∃ e2,masks[i.toNat]?=some e2∧(∃ (v3_0:List Int),Zjr q e1 (w (e2 - e1))=some (.own 0,[.arr 3 1 true (v3_0.map ic)])∧(x1.length+1≤68719476736∧(Zmh q out masks mask x (x1++[v3_0]) i (w (k+1))=some r))))))) else (out.length+1≤68719476736∧(Zf0 q (out++[(⟨mask,x,x1⟩:Zx)]) masks (w (i+1))=some r)))) ∧
 (∀ a r,Im (Zmg a=some r) (∃ (v1_0:List Int),Zpq a=some (.own 0,[.arr 3 1 true (v1_0.map ic)])∧(Zf0 a ([]:List Zx) v1_0 0=some r))):=by
 and_intros
 all_goals intros
 all_goals unfold Im
 all_goals try simp only [Zmd,Zmc,Zjq,Zpq,Ze4,Zpr,Zjs,Zjr,Zf0,Zpv,Zmh,Zmg,Zba,Zeg,Zce,Zc.c_def,Zfy,Ze0,Zi5,Zhf,mpl,dfs]
 all_goals try simp only [itb]
 all_goals try simp only [itf,gS,kk]
 all_goals repeat' first | refine exI fun _=>?_ | refine anJ fun _ _=>?_ | refine anI fun _=>?_ | refine orE2 ?_ ?_ | exact False.elim
 all_goals (intro h;first | rw [EvL_eq Zvk.eq_1] | refine run Zbe2 rfl ?_ | rw [EvL_eq Zvm.eq_1] | refine run Zbe3 rfl ?_ | rw [EvL_eq Zvo.eq_1] | refine run Zbe4 rfl ?_ | rw [EvL_eq Zvq.eq_1] | refine run Zbe5 rfl ?_ | rw [EvL_eq Zme.eq_1] | rw [EvL_eq Zps.eq_1] | refine run Zbe6 rfl ?_)
 all_goals (refine Eq.trans ?_ h;clear h;simp +decide [*,kk,tI,tII,Zvl,Z2e,Z2f,Zvn,Z2g,Z2h,Zvp,Z2i,Z2j,Zvr,Z2k,Zmf,Zpu,Zpt,Z2l])
abbrev Z5r:=Zdj.1
abbrev Zbin:=Zdj.2.1
abbrev Z5s:=Zdj.2.2.1
abbrev Zbio:=Zdj.2.2.2.1
abbrev Z5t:=Zdj.2.2.2.2.1
abbrev Zbip:=Zdj.2.2.2.2.2.1
abbrev Z5u:=Zdj.2.2.2.2.2.2.1
abbrev Zbiq:=Zdj.2.2.2.2.2.2.2.1
abbrev Z5v:=Zdj.2.2.2.2.2.2.2.2.1
abbrev Zbir:=Zdj.2.2.2.2.2.2.2.2.2.1
abbrev Z5w:=Zdj.2.2.2.2.2.2.2.2.2.2.1
abbrev Zbis:=Zdj.2.2.2.2.2.2.2.2.2.2.2
theorem Zdk:(∀ out mask i r,Im (Zjt out mask i=some r) (if i<4 then (∃ v1_0,Zba mask 0 15=some (Bo v1_0,[])∧(if v1_0=true then (¬ i<0∧(if (andI (shrI mask i) 1)=1 then (out.length+1≤68719476736∧(Zjt (out++[i]) mask (w (i+1))=some r)) else (Zjt out mask (w (i+1))=some r))) else (some (.own 0,[.arr 3 1 true (out.map ic)])=some r))) else (some (.own 0,[.arr 3 1 true (out.map ic)])=some r))) ∧
 (∀ a r,Im (Zmi a=some r) (Zjt ([]:List Int) a 0=some r)) ∧
 (∀ a r,Im (Zmj a=some r) (some (.agg [.own 0],[.arr 194 3 true (([(⟨1,a,0⟩:Zb)]).map Zb.c)])=some r)) ∧
 (∀ l mask best i r,Im (Zf2 l mask best i=some r) (if i<(l.length:Int) then (0≤i∧(∃ e1,l[i.toNat]?=some e1∧(if e1.Mask=mask then (if best<0 then (Zf2 l mask i (w (i+1))=some r) else (0≤best∧(∃ e2,l[best.toNat]?=some e2∧(if e1.Cost<e2.Cost then (Zf2 l mask i (w (i+1))=some r) else (Zf2 l mask best (w (i+1))=some r))))) else (Zf2 l mask best (w (i+1))=some r)))) else (some (I best,[])=some r))) ∧
 (∀ a a1 r,Im (Zf1 a a1=some r) (Zf2 a a1 (-1) 0=some r)) ∧
 (∀ a a1 a2 a3 r,Im (Zc6 a a1 a2 a3=some r) (a.Steps.length≤68719476736∧(a.Steps.length+a1.Steps.length≤68719476736∧(a.Steps.length+a1.Steps.length+1≤68719476736∧(some (.agg [.own 0],[.arr 194 3 true (((a.Steps++a1.Steps)++[(⟨a2,0,a3⟩:Zb)]).map Zb.c)])=some r))))) ∧
 (∀ x x1 a a1 a2 a3 a4 a5 r,Im (Zho x x1 a a1 a2 a3 a4 a5=some r) (∃ (v1_0:Zj),Zdz a a3=some (.agg (v1_0.c.map .t),[])∧(0≤a1.Mask∧(∃ e2,x[a1.Mask.toNat]?=some e2∧(0≤a2.Mask∧(∃ e3,x[a2.Mask.toNat]?=some e3∧(0≤(orI a1.Mask a2.Mask)∧(∃ e4,x[(orI a1.Mask a2.Mask).toNat]?=some e4∧(∃ v5_0,Zcv v1_0 e2 e3 e4=some (I v5_0,[])∧(0≤(w (a5+1))∧(∃ e6,x1[(w (a5+1)).toNat]?=some e6∧(if e6.Mask=0 then (∃ (v7_0:List Zb),Zc6 a1.Plan a2.Plan a3 a4=some (.agg [.own 0],[.arr 194 3 true (v7_0.map Zb.c)])∧(some (.tup [],[.arr 3 1 true (x.map ic),.arr 145 4 true ((x1.set ((w (a5+1)).toNat) (⟨(orI a1.Mask a2.Mask),a5,(w ((w (a1.Cost+a2.Cost))+v5_0)),(⟨v7_0⟩:Plan)⟩:Za)).map Za.c)])=some r)) else (if (w ((w (a1.Cost+a2.Cost))+v5_0))<e6.Cost then (∃ (v8_0:List Zb),Zc6 a1.Plan a2.Plan a3 a4=some (.agg [.own 0],[.arr 194 3 true (v8_0.map Zb.c)])∧(some (.tup [],[.arr 3 1 true (x.map ic),.arr 145 4 true ((x1.set ((w (a5+1)).toNat) (⟨(orI a1.Mask a2.Mask),a5,(w ((w (a1.Cost+a2.Cost))+v5_0)),(⟨v8_0⟩:Plan)⟩:Za)).map Za.c)])=some r)) else (some (.tup [],[.arr 3 1 true (x.map ic),.arr 145 4 true (x1.map Za.c)])=some r)))))))))))))) ∧
 (∀ l mask order i r,Im (Zjv l mask order i=some r) (if i<(l.length:Int) then (0≤i∧(∃ e1,l[i.toNat]?=some e1∧(if e1.Mask=mask then (if e1.Order=order then (some (I i,[])=some r) else (Zjv l mask order (w (i+1))=some r)) else (Zjv l mask order (w (i+1))=some r)))) else (some (I (-1),[])=some r))) ∧
 (∀ a a1 a2 r,Im (Zju a a1 a2=some r) (Zjv a a1 a2 0=some r)) ∧
 (∀ a a1 r,Im (Zjw a a1=some r) (a.Steps.length≤68719476736∧(a.Steps.length+1≤68719476736∧(some (.agg [.own 0],[.arr 194 3 true ((a.Steps++[(⟨2,0,a1⟩:Zb)]).map Zb.c)])=some r)))) ∧
 (∀ x x1 x2 a a1 Mask Order Cost a2 a3 a4 r,Im (Zmk x x1 x2 a a1 Mask Order Cost a2 a3 a4=some r) (∃ (v1_0:Zj),Zdz a a2=some (.agg (v1_0.c.map .t),[])∧(0≤a1.Mask∧(∃ e2,x[a1.Mask.toNat]?=some e2∧(0≤Mask∧(∃ e3,x[Mask.toNat]?=some e3∧(0≤(orI a1.Mask Mask)∧(∃ e4,x[(orI a1.Mask Mask).toNat]?=some e4∧(∃ v5_0,Zcv v1_0 e2 e3 e4=some (I v5_0,[])∧(0≤(w (a4+1))∧(∃ e6,x1[(w (a4+1)).toNat]?=some e6∧(if e6.Mask=0 then (∃ (v7_0:List Zb),Zc6 a1.Plan (⟨x2⟩:Plan) a2 a3=some (.agg [.own 0],[.arr 194 3 true (v7_0.map Zb.c)])∧(some (.tup [],[.arr 3 1 true (x.map ic),.arr 145 4 true ((x1.set ((w (a4+1)).toNat) (⟨(orI a1.Mask Mask),a4,(w ((w (a1.Cost+Cost))+v5_0)),(⟨v7_0⟩:Plan)⟩:Za)).map Za.c),.arr 194 3 true (x2.map Zb.c)])=some r)) else (if (w ((w (a1.Cost+Cost))+v5_0))<e6.Cost then (∃ (v8_0:List Zb),Zc6 a1.Plan (⟨x2⟩:Plan) a2 a3=some (.agg [.own 0],[.arr 194 3 true (v8_0.map Zb.c)])∧(some (.tup [],[.arr 3 1 true (x.map ic),.arr 145 4 true ((x1.set ((w (a4+1)).toNat) (⟨(orI a1.Mask Mask),a4,(w ((w (a1.Cost+Cost))+v5_0)),(⟨v8_0⟩:Plan)⟩:Za)).map Za.c),.arr 194 3 true (x2.map Zb.c)])=some r)) else (some (.tup [],[.arr 3 1 true (x.map ic),.arr 145 4 true (x1.map Za.c),.arr 194 3 true (x2.map Zb.c)])=some r)))))))))))))) ∧
 (∀ x x1 x2 a Mask Order Cost a1 a2 a3 a4 r,Im (Zml x x1 x2 a Mask Order Cost a1 a2 a3 a4=some r) (∃ (v1_0:Zj),Zdz a a2=some (.agg (v1_0.c.map .t),[])∧(0≤Mask∧(∃ e2,x[Mask.toNat]?=some e2∧(0≤a1.Mask∧(∃ e3,x[a1.Mask.toNat]?=some e3∧(0≤(orI Mask a1.Mask)∧(∃ e4,x[(orI Mask a1.Mask).toNat]?=some e4∧(∃ v5_0,Zcv v1_0 e2 e3 e4=some (I v5_0,[])∧(0≤(w (a4+1))∧(∃ e6,x1[(w (a4+1)).toNat]?=some e6∧(if e6.Mask=0 then (∃ (v7_0:List Zb),Zc6 (⟨x2⟩:Plan) a1.Plan a2 a3=some (.agg [.own 0],[.arr 194 3 true (v7_0.map Zb.c)])∧(some (.tup [],[.arr 3 1 true (x.map ic),.arr 145 4 true ((x1.set ((w (a4+1)).toNat) (⟨(orI Mask a1.Mask),a4,(w ((w (Cost+a1.Cost))+v5_0)),(⟨v7_0⟩:Plan)⟩:Za)).map Za.c),.arr 194 3 true (x2.map Zb.c)])=some r)) else (if (w ((w (Cost+a1.Cost))+v5_0))<e6.Cost then (∃ (v8_0:List Zb),Zc6 (⟨x2⟩:Plan) a1.Plan a2 a3=some (.agg [.own 0],[.arr 194 3 true (v8_0.map Zb.c)])∧(some (.tup [],[.arr 3 1 true (x.map ic),.arr 145 4 true ((x1.set ((w (a4+1)).toNat) (⟨(orI Mask a1.Mask),a4,(w ((w (Cost+a1.Cost))+v5_0)),(⟨v8_0⟩:Plan)⟩:Za)).map Za.c),.arr 194 3 true (x2.map Zb.c)])=some r)) else (some (.tup [],[.arr 3 1 true (x.map ic),.arr 145 4 true (x1.map Za.c),.arr 194 3 true (x2.map Zb.c)])=some r)))))))))))))):=by
 and_intros
 all_goals intros
 all_goals unfold Im
 all_goals try simp only [Zjt,Zmi,Zmj,Zf2,Zf1,Zc6,Zho,Zjv,Zju,Zjw,Zmk,Zml,Zba,Zdz,Zcv,Zd.c_def,Zj.c_def,Plan.c_def,mpl,dfs]
 all_goals try simp only [itb]
 all_goals try simp only [itf,gS,kk]
 all_goals repeat' first | refine exI fun _=>?_ | refine anJ fun _ _=>?_ | refine anI fun _=>?_ | refine orE2 ?_ ?_ | exact False.elim
 all_goals (intro h;first | rw [EvL_eq Zvs.eq_1] | refine run Zbe7 rfl ?_ | refine run Zbe8 rfl ?_ | rw [EvL_eq Zvu.eq_1] | refine run Zbe9 rfl ?_ | refine run Zbfa rfl ?_ | refine runM Z29 rfl ?_ | rw [EvL_eq Zvx.eq_1] | refine run Zbfb rfl ?_ | refine run Zbfc rfl ?_)
 all_goals (refine Eq.trans ?_ h;clear h;simp +decide [*,kk,tI,tII,Z2m,Zvt,Z2n,Z2o,Z2p,Zvv,Z2q,Z2r,Zvw,Zvy,Z2s,Z2t])
abbrev Z5x:=Zdk.1
abbrev Zbit:=Zdk.2.1
abbrev Zbiu:=Zdk.2.2.1
abbrev Zwi:=Zdk.2.2.2.1
abbrev Z5y:=Zdk.2.2.2.2.1
abbrev Zbiv:=Zdk.2.2.2.2.2.1
abbrev Zbiw:=Zdk.2.2.2.2.2.2.1
abbrev Z5z:=Zdk.2.2.2.2.2.2.2.1
abbrev Zbix:=Zdk.2.2.2.2.2.2.2.2.1
abbrev Zbiy:=Zdk.2.2.2.2.2.2.2.2.2.1
abbrev Zbiz:=Zdk.2.2.2.2.2.2.2.2.2.2.1
abbrev Zbi0:=Zdk.2.2.2.2.2.2.2.2.2.2.2
theorem Zbi1:∀ x x1 x2 x3 a Mask Order Cost Mask1 Order1 Cost1 a1 a2 a3 r,Im (Zmm x x1 x2 x3 a Mask Order Cost Mask1 Order1 Cost1 a1 a2 a3=some r) (∃ (v1_0:Zj),Zdz a a1=some (.agg (v1_0.c.map .t),[])∧(0≤Mask∧(∃ e2,x[Mask.toNat]?=some e2∧(0≤Mask1∧(∃ e3,x[Mask1.toNat]?=some e3∧(0≤(orI Mask Mask1)∧(∃ e4,x[(orI Mask Mask1).toNat]?=some e4∧(∃ v5_0,Zcv v1_0 e2 e3 e4=some (I v5_0,[])∧(0≤(w (a3+1))∧(∃ e6,x1[(w (a3+1)).toNat]?=some e6∧(if e6.Mask=0 then (∃ (v7_0:List Zb),Zc6 (⟨x2⟩:Plan) (⟨x3⟩:Plan) a1 a2=some (.agg [.own 0],[.arr 194 3 true (v7_0.map Zb.c)])∧(some (.tup [],[.arr 3 1 true (x.map ic),.arr 145 4 true ((x1.set ((w (a3+1)).toNat) (⟨(orI Mask Mask1),a3,(w ((w (Cost+Cost1))+v5_0)),(⟨v7_0⟩:Plan)⟩:Za)).map Za.c),.arr 194 3 true (x2.map Zb.c),.arr 194 3 true (x3.map Zb.c)])=some r)) else (if (w ((w (Cost+Cost1))+v5_0))<e6.Cost then (∃ (v8_0:List Zb),Zc6 (⟨x2⟩:Plan) (⟨x3⟩:Plan) a1 a2=some (.agg [.own 0],[.arr 194 3 true (v8_0.map Zb.c)])∧(some (.tup [],[.arr 3 1 true (x.map ic),.arr 145 4 true ((x1.set ((w (a3+1)).toNat) (⟨(orI Mask Mask1),a3,(w ((w (Cost+Cost1))+v5_0)),(⟨v8_0⟩:Plan)⟩:Za)).map Za.c),.arr 194 3 true (x2.map Zb.c),.arr 194 3 true (x3.map Zb.c)])=some r)) else (some (.tup [],[.arr 3 1 true (x.map ic),.arr 145 4 true (x1.map Za.c),.arr 194 3 true (x2.map Zb.c),.arr 194 3 true (x3.map Zb.c)])=some r))))))))))))):=by
 all_goals intros
 all_goals unfold Im
 all_goals try simp only [Zmm,Zdz,Zcv,Zc6,Zd.c_def,Zj.c_def,Plan.c_def,mpl,dfs]
 all_goals try simp only [itb]
 all_goals try simp only [itf,gS,kk]
 all_goals repeat' first | refine exI fun _=>?_ | refine anJ fun _ _=>?_ | refine anI fun _=>?_ | refine orE2 ?_ ?_ | exact False.elim
 all_goals (intro h;first | refine runM Z29 rfl ?_)
 all_goals (refine Eq.trans ?_ h;clear h;simp +decide [*,kk,tI,tII,Zvw])
abbrev Zbi2:=Zbi1
theorem Zdl:(∀ x fr x1 a a1 a2 r,Im (Zeh x fr x1 a a1 a2=some r) (∃ v1_0,Zf1 x1 a1=some (I v1_0,[])∧(0≤v1_0∧(∃ e2,x1[v1_0.toNat]?=some e2∧(0≤a1∧(∃ e3,x[a1.toNat]?=some e3∧(∃ v4_0,Zcv a.Sort_ e3 0 e3=some (I v4_0,[])∧(∃ v5_0,Zju x1 a1 a2=some (I v5_0,[])∧(if 0≤v5_0 then (∃ e6,x1[v5_0.toNat]?=some e6∧(if e6.Cost≤(w (e2.Cost+v4_0)) then (some (.agg (e6.c.map .t),[.arr 3 1 true (x.map ic),.arr 145 4 fr (x1.map Za.c)])=some r) else (∃ (v7_0:List Zb),Zjw e2.Plan a2=some (.agg [.own 0],[.arr 194 3 true (v7_0.map Zb.c)])∧(some (.agg [I a1,I a2,I (w (e2.Cost+v4_0)),.own 2],[.arr 3 1 true (x.map ic),.arr 145 4 fr (x1.map Za.c),.arr 194 3 true (v7_0.map Zb.c)])=some r)))) else (∃ (v8_0:List Zb),Zjw e2.Plan a2=some (.agg [.own 0],[.arr 194 3 true (v8_0.map Zb.c)])∧(some (.agg [I a1,I a2,I (w (e2.Cost+v4_0)),.own 2],[.arr 3 1 true (x.map ic),.arr 145 4 fr (x1.map Za.c),.arr 194 3 true (v8_0.map Zb.c)])=some r))))))))))) ∧
 (∀ sizes fr l m x mine k r,Im (Zjx sizes fr l m x mine k=some r) (if k<(x.Zs.length:Int) then (0≤k∧(∃ e1,x.Zs[k.toNat]?=some e1∧(∃ v2_0,Zf1 l e1=some (I v2_0,[])∧(0≤v2_0∧(∃ e3,l[v2_0.toNat]?=some e3∧(∃ v4_0,Zf1 l (w (x.mask - e1))=some (I v4_0,[])∧(0≤v4_0∧(∃ e5,l[v4_0.toNat]?=some e5∧(∃ (v6_0:List Int) (v6_1:List Za),Zho sizes mine m e3 e5 3 0 (-1)=some (.tup [],[.arr 3 1 true (v6_0.map ic),.arr 145 4 true (v6_1.map Za.c)])∧(Zjy v6_0 fr l m x v6_1 e5 k e1 (w (x.mask - e1)) (-1)=some r)))))))))) else (Zhp mine true ([]:List Za) sizes fr l 0=some r))) ∧
 (∀ sizes fr l m x mine b k left right o r,Im (Zjy sizes fr l m x mine b k left right o=some r) (if o<4 then (∃ v1_0,Zju l left o=some (I v1_0,[])∧(if 0≤v1_0 then (∃ e2,l[v1_0.toNat]?=some e2∧(∃ (v3_0:List Int) (v3_1:List Za),Zho sizes mine m e2 b 5 0 o=some (.tup [],[.arr 3 1 true (v3_0.map ic),.arr 145 4 true (v3_1.map Za.c)])∧(Zjy v3_0 fr l m x v3_1 b k left right (w (o+1))=some r))) else (Zjy sizes fr l m x mine b k left right (w (o+1))=some r))) else (Ze5 sizes fr l m x mine k left right 0=some r))) ∧
 (∀ mine fr out x fr1 x1 o r,Im (Zhp mine fr out x fr1 x1 o=some r) (if o≤4 then (0≤o∧(∃ e1,mine[o.toNat]?=some e1∧(if 0<e1.Mask then (out.length+1≤68719476736∧(Zhp mine false (out++[e1]) x fr1 x1 (w (o+1))=some r)) else (Zhp mine fr out x fr1 x1 (w (o+1))=some r)))) else (some (.own 2,[.arr 3 1 true (x.map ic),.arr 145 4 fr1 (x1.map Za.c),.arr 145 4 fr (out.map Za.c)])=some r))) ∧
 (∀ sizes fr l m x mine k left right e r,Im (Ze5 sizes fr l m x mine k left right e=some r) (0≤k∧(∃ e1,x.shared[k.toNat]?=some e1∧(if e<(e1.length:Int) then (0≤e∧(∃ e2,e1[e.toNat]?=some e2∧((∃ (v3_0:Za),Zeh sizes fr l m left e2=some (.agg (v3_0.c.map .t),[.arr 3 1 true (sizes.map ic),.arr 145 4 fr (l.map Za.c)])∧((∃ (v4_0:Za),Zeh sizes fr l m right e2=some (.agg (v4_0.c.map .t),[.arr 3 1 true (sizes.map ic),.arr 145 4 fr (l.map Za.c)])∧(∃ (v5_0:List Int) (v5_1:List Za),Zho sizes mine m v3_0 v4_0 4 e2 e2=some (.tup [],[.arr 3 1 true (v5_0.map ic),.arr 145 4 true (v5_1.map Za.c)])∧(Ze5 v5_0 fr l m x v5_1 k left right (w (e+1))=some r)))∨(∃ (v6_0:List Zb),∃ v6_1,∃ v6_2,∃ v6_3,Zeh sizes fr l m right e2=some (.agg [I v6_1,I v6_2,I v6_3,.own 2],[.arr 3 1 true (sizes.map ic),.arr 145 4 fr (l.map Za.c),.arr 194 3 true (v6_0.map Zb.c)])∧(∃ (v7_0:List Int) (v7_1:List Za) (v7_2:List Zb),Zmk sizes mine v6_0 m v3_0 v6_1 v6_2 v6_3 4 e2 e2=some (.tup [],[.arr 3 1 true (v7_0.map ic),.arr 145 4 true (v7_1.map Za.c),.arr 194 3 true (v7_2.map Zb.c)])∧(Ze5 v7_0 fr l m x v7_1 k left right (w (e+1))=some r)))))∨(∃ (v8_0:List Zb),∃ v8_1,∃ v8_2,∃ v8_3,Zeh sizes fr l m left e2=some (.agg [I v8_1,I v8_2,I v8_3,.own 2],[.arr 3 1 true (sizes.map ic),.arr 145 4 fr (l.map Za.c),.arr 194 3 true (v8_0.map Zb.c)])∧((∃ (v9_0:Za),Zeh sizes fr l m right e2=some (.agg (v9_0.c.map .t),[.arr 3 1 true (sizes.map ic),.arr 145 4 fr (l.map Za.c)])∧(∃ (v10_0:List Int) (v10_1:List Za) (v10_2:List Zb),Zml sizes mine v8_0 m v8_1 v8_2 v8_3 v9_0 4 e2 e2=some (.tup [],[.arr 3 1 true (v10_0.map ic),.arr 145 4 true (v10_1.map Za.c),.arr 194 3 true (v10_2.map Zb.c)])∧(Ze5 v10_0 fr l m x v10_1 k left right (w (e+1))=some r)))∨(∃ (v11_0:List Zb),∃ v11_1,∃ v11_2,∃ v11_3,Zeh sizes fr l m right e2=some (.agg [I v11_1,I v11_2,I v11_3,.own 2],[.arr 3 1 true (sizes.map ic),.arr 145 4 fr (l.map Za.c),.arr 194 3 true (v11_0.map Zb.c)])∧(∃ (v12_0:List Int) (v12_1:List Za) (v12_2:List Zb) (v12_3:List Zb),Zmm sizes mine v8_0 v11_0 m v8_1 v8_2 v8_3 v11_1 v11_2 v11_3 4 e2 e2=some (.tup [],[.arr 3 1 true (v12_0.map ic),.arr 145 4 true (v12_1.map Za.c),.arr 194 3 true (v12_2.map Zb.c),.arr 194 3 true (v12_3.map Zb.c)])∧(Ze5 v12_0 fr l m x v12_1 k left right (w (e+1))=some r)))))))) else (Zjx sizes fr l m x mine (w (k+1))=some r))))) ∧
 (∀ x fr x1 a a1 r,Im (Zpx x fr x1 a a1=some r) (Zjx x fr x1 a a1 (List.replicate 5 (⟨0,0,0,(⟨[]⟩:Plan)⟩:Za)) 0=some r)) ∧
 (∀ shapes sizes m q fr out i r,Im (Zjz shapes sizes m q fr out i=some r) (if i<(shapes.length:Int) then (0≤i∧(∃ e1,shapes[i.toNat]?=some e1∧(if (andI e1.mask (w (e1.mask - 1)))=0 then (∃ (v2_0:List Int),Zmi e1.mask=some (.own 0,[.arr 3 1 true (v2_0.map ic)])∧(∃ e3,v2_0[0]?=some e3∧(0≤e3∧(∃ e4,q.Atoms[e3.toNat]?=some e4∧(∃ e5,e4.Vars[0]?=some e5∧(0≤e1.mask∧(∃ e6,sizes[e1.mask.toNat]?=some e6∧(∃ v7_0,Zcv m.Scan e6 0 e6=some (I v7_0,[])∧(∃ (v8_0:List Zb),Zmj e3=some (.agg [.own 0],[.arr 194 3 true (v8_0.map Zb.c)])∧(out.length+1≤68719476736∧(Zjz shapes sizes m q fr (out++[(⟨e1.mask,e5,v7_0,(⟨v8_0⟩:Plan)⟩:Za)]) (w (i+1))=some r))))))))))) else (∃ v9_0,∃ (v9_1:List Za),Zpx sizes fr out m e1=some (.own 2,[.arr 3 1 true (sizes.map ic),.arr 145 4 fr (out.map Za.c),.arr 145 4 v9_0 (v9_1.map Za.c)])∧(out.length+v9_1.length≤68719476736∧(Zjz shapes sizes m q (fr && flat (v9_1.map Za.c)) (out++v9_1) (w (i+1))=some r)))))) else (some (.own 2,[.arr 257 3 true (shapes.map Zx.c),.arr 3 1 true (sizes.map ic),.arr 145 4 fr (out.map Za.c)])=some r))) ∧
 (∀ x x1 a a1 r,Im (Zpy x x1 a a1=some r) (Zjz x x1 a a1 true ([]:List Za) 0=some r)) ∧
 (∀ x a a1 r,Im (Zpz x a a1=some r) (∃ v1_0,Zmb a=some (Bo v1_0,[])∧(if v1_0=true then (∃ v2_0,Zmc a1 x=some (Bo v2_0,[])∧(if v2_0=true then (∃ (v3_0:List Zx),Zmg a1=some (.own 0,[.arr 257 3 true (v3_0.map Zx.c)])∧(∃ v4_0,∃ (v4_1:List Za),Zpy v3_0 x a a1=some (.own 2,[.arr 257 3 true (v3_0.map Zx.c),.arr 3 1 true (x.map ic),.arr 145 4 v4_0 (v4_1.map Za.c)])∧(some (.own 1,[.arr 3 1 true (x.map ic),.arr 145 4 v4_0 (v4_1.map Za.c)])=some r))) else (some (.own 1,[.arr 3 1 true (x.map ic),.arr 145 4 true (([]:List Za).map Za.c)])=some r))) else (some (.own 1,[.arr 3 1 true (x.map ic),.arr 145 4 true (([]:List Za).map Za.c)])=some r)))) ∧
 (∀ a a1 r,Im (Zf3 a a1=some r) (∃ v1_0,Zf1 a a1=some (I v1_0,[])∧(if v1_0<0 then (some (.tup [.agg [I 0,I 0,I 0,.t .nil],Bo false],[])=some r) else (0≤v1_0∧(∃ e2,a[v1_0.toNat]?=some e2∧(e2.Plan.Steps.length≤68719476736∧(some (.tup [.agg [I e2.Mask,I e2.Order,I e2.Cost,.own 0],Bo true],[.arr 194 3 true (e2.Plan.Steps.map Zb.c)])=some r))))))) ∧
 (∀ x a a1 r,Im (Zmp x a a1=some r) ((∃ (v1_0:List Int),∃ v1_1,∃ (v1_2:List Za),Zpz x a a1=some (.own 1,[.arr 3 1 true (v1_0.map ic),.arr 145 4 v1_1 (v1_2.map Za.c)])∧(∃ v2_0,Zce a1=some (I v2_0,[])∧((∃ v3_0 v3_1 v3_2,Zf3 v1_2 v2_0=some (.tup [.agg [I v3_0,I v3_1,I v3_2,.t .nil],Bo false],[])∧(some (.tup [.agg [I v3_0,I v3_1,I v3_2,.t .nil],Bo false],[.arr 3 1 true (v1_0.map ic)])=some r))∨(∃ (v4_0:List Zb),∃ v4_1,∃ v4_2,∃ v4_3,Zf3 v1_2 v2_0=some (.tup [.agg [I v4_1,I v4_2,I v4_3,.own 0],Bo true],[.arr 194 3 true (v4_0.map Zb.c)])∧(some (.tup [.agg [I v4_1,I v4_2,I v4_3,.own 1],Bo true],[.arr 3 1 true (v1_0.map ic),.arr 194 3 true (v4_0.map Zb.c)])=some r)))))∨(∃ (v5_0:List Int) (v5_1:List Za),Zpz x a a1=some (.own 1,[.arr 3 1 true (v5_0.map ic),.arr 145 4 true (v5_1.map Za.c)])∧(∃ v6_0,Zce a1=some (I v6_0,[])∧((∃ v7_0 v7_1 v7_2,Zf3 v5_1 v6_0=some (.tup [.agg [I v7_0,I v7_1,I v7_2,.t .nil],Bo false],[])∧(some (.tup [.agg [I v7_0,I v7_1,I v7_2,.t .nil],Bo false],[.arr 3 1 true (v5_0.map ic)])=some r))∨(∃ (v8_0:List Zb),∃ v8_1,∃ v8_2,∃ v8_3,Zf3 v5_1 v6_0=some (.tup [.agg [I v8_1,I v8_2,I v8_3,.own 0],Bo true],[.arr 194 3 true (v8_0.map Zb.c)])∧(some (.tup [.agg [I v8_1,I v8_2,I v8_3,.own 1],Bo true],[.arr 3 1 true (v5_0.map ic),.arr 194 3 true (v8_0.map Zb.c)])=some r))))))) ∧
 (∀ a a1 a2 r,Im (Zmq a a1 a2=some r) ((∃ v1_0 v1_1 v1_2,Zi3 a a1 a2=some (.tup [.agg [I v1_0,I v1_1,I v1_2,.t .nil],Bo false],[])∧(some (.tup [.agg [.t .nil],Bo false],[])=some r))∨(∃ (v2_0:List Zb),∃ v2_1,∃ v2_2,∃ v2_3,Zi3 a a1 a2=some (.tup [.agg [I v2_1,I v2_2,I v2_3,.own 0],Bo true],[.arr 194 3 true (v2_0.map Zb.c)])∧(some (.tup [.agg [.own 0],Bo true],[.arr 194 3 true (v2_0.map Zb.c)])=some r)))):=by
 and_intros
 all_goals intros
 all_goals unfold Im
 all_goals try simp only [Zeh,Zjx,Zjy,Zhp,Ze5,Zpx,Zjz,Zpy,Zpz,Zf3,Zmp,Zmq,Zf1,Zcv,Zju,Zjw,Zj.c_def,Plan.c_def,Za.c_def,Zho,Zd.c_def,Zmk,Zml,Zmm,Zb.c_def,Zmi,Zmj,Zx.c_def,Zmb,Zmc,Zmg,Zc.c_def,Zce,Zi3,mpl,dfs]
 all_goals try simp only [itb]
 all_goals try simp only [itf,gS,kk]
 all_goals repeat' first | refine exI fun _=>?_ | refine anJ fun _ _=>?_ | refine anI fun _=>?_ | refine orE2 ?_ ?_ | exact False.elim
 all_goals (intro h;first | refine runM Zbfd rfl ?_ | rw [EvL_eq Zmn.eq_1] | rw [EvL_eq Zvz.eq_1] | rw [EvL_eq Zv2.eq_1] | rw [EvL_eq Zv0.eq_1] | refine runM Zbfe rfl ?_ | rw [EvL_eq Zv4.eq_1] | refine runM Zbff rfl ?_ | refine runM Zbfg rfl ?_ | refine run Zbfh rfl ?_ | refine runM Zbfi rfl ?_ | refine run Zbfj rfl ?_)
 all_goals (refine Eq.trans ?_ h;clear h;simp +decide [*,kk,tI,tII,Z2u,Zmo,Z2v,Zv1,Z2w,Zv3,Zpw,Z2x,Z2y,Zv5,Z2z,Z20,Z21,Z22,Z23])
abbrev Zwj:=Zdl.1
abbrev Z50:=Zdl.2.1
abbrev Z51:=Zdl.2.2.1
abbrev Zwk:=Zdl.2.2.2.1
abbrev Z52:=Zdl.2.2.2.2.1
abbrev Zbi3:=Zdl.2.2.2.2.2.1
abbrev Zwl:=Zdl.2.2.2.2.2.2.1
abbrev Zbi4:=Zdl.2.2.2.2.2.2.2.1
abbrev Z53:=Zdl.2.2.2.2.2.2.2.2.1
abbrev Z54:=Zdl.2.2.2.2.2.2.2.2.2.1
abbrev Z55:=Zdl.2.2.2.2.2.2.2.2.2.2.1
abbrev Zbi5:=Zdl.2.2.2.2.2.2.2.2.2.2.2
theorem Z56:(∀ a a1 a2 r,Im (Zp0 a a1 a2=some r) (∃ v1_0,Zk3 a a1 a2=some (Bo v1_0,[])∧(if v1_0=true then (∃ (v2_0:List Int),Zk9 a1 a2=some (.own 0,[.arr 3 1 true (v2_0.map ic)])∧((∃ (v3_0:List Int),Zip v2_0=some (.own 0,[.arr 3 1 true (v3_0.map ic)])∧((Zmq a a2 v3_0=some (.tup [.agg [.t .nil],Bo false],[])∧(some (.tup [.agg [.t .nil],Bo false],[])=some r))∨(∃ (v5_0:List Zb),Zmq a a2 v3_0=some (.tup [.agg [.own 0],Bo true],[.arr 194 3 true (v5_0.map Zb.c)])∧(some (.tup [.agg [.own 0],Bo true],[.arr 194 3 true (v5_0.map Zb.c)])=some r))))∨(Zip v2_0=some (.t .nil,[])∧((Zv6 a a2=some (.tup [.agg [.t .nil],Bo false],[])∧(some (.tup [.agg [.t .nil],Bo false],[])=some r))∨(∃ (v8_0:List Zb),Zv6 a a2=some (.tup [.agg [.own 0],Bo true],[.arr 194 3 true (v8_0.map Zb.c)])∧(some (.tup [.agg [.own 0],Bo true],[.arr 194 3 true (v8_0.map Zb.c)])=some r)))))) else (some (.tup [.agg [.t .nil],Bo false],[])=some r)))) ∧
 (∀ x a a1 r,Im (Zhq x a a1=some r) ((∃ (v1_0:List Int),∃ v1_1,∃ v1_2,∃ v1_3,Zmp x a a1=some (.tup [.agg [I v1_1,I v1_2,I v1_3,.t .nil],Bo false],[.arr 3 1 true (v1_0.map ic)])∧(some (.tup [.agg [.t .nil],Bo false],[.arr 3 1 true (v1_0.map ic)])=some r))∨(∃ (v2_0:List Int),∃ (v2_1:List Zb),∃ v2_2,∃ v2_3,∃ v2_4,Zmp x a a1=some (.tup [.agg [I v2_2,I v2_3,I v2_4,.own 1],Bo true],[.arr 3 1 true (v2_0.map ic),.arr 194 3 true (v2_1.map Zb.c)])∧(some (.tup [.agg [.own 1],Bo true],[.arr 3 1 true (v2_0.map ic),.arr 194 3 true (v2_1.map Zb.c)])=some r)))):=by
 and_intros
 all_goals intros
 all_goals unfold Im
 all_goals try simp only [Zp0,Zhq,Zk3,Zk9,Zip,Zmq,Zv6,Zi.c_def,Zd.c_def,Zj.c_def,Zc.c_def,Zmp,mpl,dfs]
 all_goals try simp only [itb]
 all_goals try simp only [itf,gS,kk]
 all_goals repeat' first | refine exI fun _=>?_ | refine anJ fun _ _=>?_ | refine anI fun _=>?_ | refine orE2 ?_ ?_ | exact False.elim
 all_goals (intro h;first | refine run Zbfk rfl ?_ | refine runM Zbfl rfl ?_)
 all_goals (refine Eq.trans ?_ h;clear h;simp +decide [*,kk,tI,tII,Z24,Z25])
abbrev Zbi6:=Z56.1
abbrev Z57:=Z56.2
theorem Zbi7:∀ a a1 a2 r,Im (Zp1 a a1 a2=some r) (∃ (v1_0:List Int),Zl2 a1 a2=some (.own 0,[.arr 3 1 true (v1_0.map ic)])∧(if (v1_0.length:Int)=0 then (some (.tup [.agg [.t .nil],Bo false],[])=some r) else (∃ v2_0,Zce a2=some (I v2_0,[])∧(∃ v3_0,Ze0 a2 v2_0=some (Bo v3_0,[])∧(if v3_0=true then (∃ (v4_0:List Int),Zl5 v1_0=some (.own 0,[.arr 3 1 true (v4_0.map ic)])∧((∃ (v5_0:List Int),Zhq v4_0 a a2=some (.tup [.agg [.t .nil],Bo false],[.arr 3 1 true (v5_0.map ic)])∧(some (.tup [.agg [.t .nil],Bo false],[])=some r))∨(∃ (v6_0:List Int) (v6_1:List Zb),Zhq v4_0 a a2=some (.tup [.agg [.own 1],Bo true],[.arr 3 1 true (v6_0.map ic),.arr 194 3 true (v6_1.map Zb.c)])∧(some (.tup [.agg [.own 0],Bo true],[.arr 194 3 true (v6_1.map Zb.c)])=some r)))) else (some (.tup [.agg [.t .nil],Bo false],[])=some r)))))):=by
 all_goals intros
 all_goals unfold Im
 all_goals try simp only [Zp1,Zl2,Zce,Ze0,Zl5,Zhq,Zi.c_def,Zd.c_def,Zj.c_def,Zc.c_def,mpl,dfs]
 all_goals try simp only [itb]
 all_goals try simp only [itf,gS,kk]
 all_goals repeat' first | refine exI fun _=>?_ | refine anJ fun _ _=>?_ | refine anI fun _=>?_ | refine orE2 ?_ ?_ | exact False.elim
 all_goals (intro h;first | refine run Zbfm rfl ?_)
 all_goals (refine Eq.trans ?_ h;clear h;simp +decide [*,kk,tI,tII,Z26])
abbrev Z58:=Zbi7
@[simp] theorem Zcg (a b c:Int):Zy a b c=some (Bo (inR a b c),[]):=by
 refine Zbfn _ _ _ _ ?_
 by_cases h:b≤a <;> simp [inR,h]
@[simp] theorem Ze8 (a b c:Int):Zba a b c=some (Bo (inR a b c),[]):=by
 refine Zbhm _ _ _ _ ?_
 by_cases h:b≤a <;> simp [inR,h]
theorem lIndexI (xs:List Int) (v:Int) (hx:Le xs):∀ i,i≤xs.length →
  Zko xs v xs.length i=some (I (Zbo (fun x=>decide (v=x)) (xs.drop i) i),[]):=by
 refine down _ ?_ ?_
 ·refine Z3a _ _ _ _ _ ?_
  simp [Zbo]
 ·intro i hi ih
  refine Z3a _ _ _ _ _ ?_
  have h4:=inc64 (i:=i) (by omega)
  rw [Zrf _ hi]
  simp at ih
  by_cases e:v=xs[i] <;> simp [hi,h4,e,ih]
@[simp] theorem xIndexI (xs:List Int) (v:Int) (hx:Le xs):Zn2 xs v=some (I (Zbo (fun x=>decide (v=x)) xs 0),[]):=by
 refine Zbfp _ _ _ ?_
 have:=lIndexI xs v hx 0 (Nat.zero_le _)
 simpa using this
@[simp] theorem Zmt (xs:List Int) (v:Int) (hx:Le xs):Zeb xs v=some (Bo (has xs v),[]):=by
 refine Zbfq _ _ _ ?_
 unfold has
 rcases tf (xs.any (fun x=>decide (v=x))) with e | e
 ·simp [hx,Zyh _ _ _ e,e]
 ·have:=Zyi _ _ 0 e
  simp [hx,this,e]
theorem lIndexB (xs:List Bool) (v:Bool) (hx:Le xs):∀ i,i≤xs.length →
  Zkp xs v xs.length i=some (I (Zbo (fun x=>v == x) (xs.drop i) i),[]):=by
 refine down _ ?_ ?_
 ·refine Z3b _ _ _ _ _ ?_
  simp [Zbo]
 ·intro i hi ih
  refine Z3b _ _ _ _ _ ?_
  have h4:=inc64 (i:=i) (by omega)
  rw [Zrf _ hi]
  simp at ih
  by_cases e:v=xs[i] <;> simp [hi,h4,e,ih]
@[simp] theorem Zbi8 (xs:List Bool) (v:Bool) (hx:Le xs):Zn4 xs v=some (Bo (xs.any (fun x=>v == x)),[]):=by
 refine Zbfs _ _ _ ?_
 have q:Zn3 xs v=some (I (Zbo (fun x=>v == x) xs 0),[]):=by
  refine Zbfr _ _ _ ?_
  have:=lIndexB xs v hx 0 (Nat.zero_le _)
  simpa using this
 rcases tf (xs.any (fun x=>v == x)) with e | e
 ·rw [Zyh _ _ _ e] at q
  rw [e];simp [q]
 ·have:=Zyi _ _ 0 e
  rw [e];simp [q,this]
theorem l_l7Has (xs:List Int) (v:Int) (hx:Le xs):∀ i,i≤xs.length→Zlp xs v i=some (Bo (has (xs.drop i) v),[]):=by
 unfold has
 refine down _ ?_ ?_
 ·refine Z4u _ _ _ _ ?_
  simp
 ·intro i hi ih
  refine Z4u _ _ _ _ ?_
  have h4:=inc64 (i:=i) (by omega)
  rw [drop_any _ hi]
  simp at ih
  by_cases e:v=xs[i]
  ·simp [hi,h4,← e]
  ·have e':¬ xs[i]=v:=fun hc=>e hc.symm
   simp [hi,h4,e,e',ih]
@[simp] theorem Z59 (xs:List Int) (v:Int) (hx:Le xs):Zi5 xs v=some (Bo (has xs v),[]):=by
 refine Zbho _ _ _ ?_
 have:=l_l7Has xs v hx 0 (Nat.zero_le _)
 simpa using this
theorem nm_aux (s:ByteArray) (P:Prop):(if (s.size:Int)=1 then (∃ (b1:UInt8),s[0]?=some b1∧(if 97≤(b1.toNat:Int) then (some (Bo (decide ((b1.toNat:Int)≤122)),[])=some (Bo (nmOk s),([]:List Blk))) else (some (Bo false,[])=some (Bo (nmOk s),([]:List Blk))))) else (some (Bo false,[])=some (Bo (nmOk s),([]:List Blk)))):=by
 by_cases h:s.size=1
 ·obtain ⟨b,hb⟩:=get0 h
  rw [if_pos (by omega)]
  refine ⟨b,hb,?_⟩
  have e:nmOk s=(decide (97≤(b.toNat:Int)) && decide ((b.toNat:Int)≤122)):=by
   unfold nmOk;rw [hb];simp only [h,decide_true,Bool.true_and]
  by_cases h1:(97:Int)≤(b.toNat:Int)
  ·rw [if_pos h1,e,decide_eq_true h1,Bool.true_and]
  ·rw [if_neg h1,e,decide_eq_false h1,Bool.false_and]
 ·have h':¬ (s.size:Int)=1:=by omega
  have:nmOk s=false:=by unfold nmOk;split <;> simp [h]
  simp [h',this]
@[simp] theorem x_nameOk (s:ByteArray):Zh5 s=some (Bo (nmOk s),[]):=Zbfo _ _ (nm_aux s True)
@[simp] theorem x_l4Name (s:ByteArray):Zi4 s=some (Bo (nmOk s),[]):=Zbhn _ _ (nm_aux s True)
def LeQ (q:Zc):Prop:=Le q.Atoms∧∀ a∈q.Atoms,Le a.Vars
def blB (p:Nat→Bool) (n:Nat):List Bool:=(List.range n).map p
theorem blB_set (p:Nat→Bool) (n:Nat) {v:Int} (h:inR v 0 ((n:Int) - 1)=true):(blB p n).set v.toNat true=blB (addV p [v]) n:=by
 simp [inR] at h
 apply List.ext_getElem
 ·simp [blB]
 ·intro i h1 h2
  simp only [blB,List.length_set,List.length_map,List.length_range] at h1
  rw [List.getElem_set]
  simp only [blB,List.getElem_map,List.getElem_range]
  by_cases e:v.toNat=i
  ·have:(i:Int)=v:=by omega
   simp [e,addV,has,this]
  ·have:¬ (i:Int)=v:=by omega
   simp [e,addV,has,this]
theorem Zbi9 (q:Zc) (n:Nat) (hn:n≤4) (hq:q.Ze=n) (a:Atom) (qa:List Atom) (l j:Int) (hv:Le a.Vars) (r:AV×List Blk):∀ k,k≤a.Vars.length→∀ p,
  (if Zct n (a.Vars.take k) (a.Vars.drop k)=true then Zgm q (blB (addV p (a.Vars.drop k)) n) qa l (w (j+1))=some r else some (Bo false,[])=some r) →
  Zkq q (blB p n) a qa l j a.Vars a.Vars.length k=some r:=by
 refine down _ ?_ ?_
 ·intro p h
  refine Z3d _ _ _ _ _ _ _ _ _ _ ?_
  simpa [Zct,Zrd] using h
 ·intro k hk ih p h
  have h4:=inc64 (i:=k) (by omega)
  have hw:w (q.Ze - 1)=(n:Int) - 1:=by rw [hq];exact wrap64 (by omega) (by omega)
  have hl:=Zmt (a.Vars.take k) a.Vars[k] (by simp;omega)
  refine Z3d _ _ _ _ _ _ _ _ _ _ ?_
  rw [Zyj _ hk] at h
  rcases tf (inR a.Vars[k] 0 ((n:Int) - 1)) with e1 | e1
  ·simp [e1] at h
   simp [hk,h4,hw,e1,← h]
  ·rcases tf (has (a.Vars.take k) a.Vars[k]) with e2 | e2
   ·rw [Zre p hk] at h
    simp only [e1,e2,Bool.true_and,Bool.not_false] at h
    have ih:=ih _ h
    have e0:=e1
    simp [inR] at e0
    have e5:(a.Vars[k]).toNat<(blB p n).length:=by simp [blB];omega
    have e6:=blB_set p n e1
    have e7:k≤a.Vars.length:=by omega
    simp at ih
    simp [hk,h4,hw,e1,e2,hl,e0,e5,e6,e7,ih]
   ·simp [e1,e2] at h
    have e7:k≤a.Vars.length:=by omega
    simp [hk,h4,hw,e1,e2,hl,e7,← h]
theorem Zbja (q:Zc) (n:Nat) (hn:n≤4) (hq:q.Ze=n) (qa:List Atom) (hl:Le qa) (hv:∀ a∈qa,Le a.Vars):∀ k,k≤qa.length→∀ p,
  Zgm q (blB p n) qa qa.length k=some (Bo ((qa.drop k).all (Zbp n) && (List.range n).all (addA p (qa.drop k))),[]):=by
 refine down _ ?_ ?_
 ·intro p
  refine Z3c _ _ _ _ _ _ ?_
  have e:addA p []=p:=by funext u;simp [addA]
  have q1:=Zbi8 (blB p n) false (by simp [blB];omega)
  have q2:(blB p n).any (fun x=>false == x)=!(List.range n).all p:=bl_any p n
  rw [q2] at q1
  simp [q1,e]
 ·intro k hk ih p
  refine Z3c _ _ _ _ _ _ ?_
  have h4:=inc64 (i:=k) (by omega)
  rw [Zkl _ hk]
  rcases tf (nmOk qa[k].Name) with e1 | e1
  ·simp [hk,e1,Zbp]
  rcases tf (inR qa[k].Vars.length 1 3) with e2 | e2
  ·simp [hk,e1,e2,Zbp]
  have b:=Zbi9 q n hn hq qa[k] qa qa.length k (hv _ (List.getElem_mem hk)) (Bo (Zbp n qa[k] && (qa.drop (k+1)).all (Zbp n) && (List.range n).all (addA p (qa.drop k))),[]) 0 (Nat.zero_le _) p ?_
  ·simp at b
   simp [hk,e1,e2,b]
  ·simp only [List.take_zero,List.drop_zero,Zbp,e1,e2,Bool.true_and]
   rcases tf (Zct n [] qa[k].Vars) with e3 | e3
   ·simp [e3]
   ·have ih:=ih (addV p qa[k].Vars)
    simp only [e3,if_true,Bool.true_and,Zyk p hk]
    simp at ih
    rw [show w ((k:Int)+1)=(k:Int)+1 from h4,ih]
@[simp] theorem Zmu (q:Zc) (h:LeQ q):Zc0 q=some (Bo (Zq q.Ze q.Atoms),[]):=by
 refine Zbf7 _ _ ?_
 unfold Zq
 rcases tf (inR q.Ze 1 4) with e1 | e1
 ·simp [e1]
 rcases tf (inR q.Atoms.length 1 4) with e2 | e2
 ·simp [e1,e2]
 have e0:=e1
 simp [inR] at e0
 have hn:q.Ze=(q.Ze.toNat:Int):=by omega
 have b:=Zbja q q.Ze.toNat (by omega) hn q.Atoms h.1 h.2 0 (Nat.zero_le _) (fun _=>false)
 have r1:q.Ze.toNat≤room:=room2 (by omega)
 have r2:q.Ze≤room:=by
  have:(q.Ze.toNat:Int)≤room:=by exact_mod_cast r1
  omega
 have r3:q.Ze≤140737488355328:=by omega
 have ez:blB (fun _=>false) q.Ze.toNat=List.replicate q.Ze.toNat false:=by
  apply List.ext_getElem <;> simp [blB]
 rw [ez,← hn] at b
 simp at b
 simp [e1,e2,e0,r1,r2,r3,b]
 omega
theorem Zbjb (q:Zc) (n:Nat) (hn1:1≤n) (hn:n≤4) (hq:q.Ze=n) (a:Atom) (j:Int) (hv:Le a.Vars) (r:AV×List Blk):∀ k,k≤a.Vars.length→∀ p,
  (if Zct n (a.Vars.take k) (a.Vars.drop k)=true then Zi6 q (Z2 (addV p (a.Vars.drop k))) (w (j+1))=some r else some (Bo false,[])=some r) →
  Zlq q a (Z2 p) j k=some r:=by
 refine down _ ?_ ?_
 ·intro p h
  refine Z4w _ _ _ _ _ _ ?_
  simpa [Zct,Zrd] using h
 ·intro k hk ih p h
  have h4:=inc64 (i:=k) (by omega)
  have hw:w (q.Ze - 1)=(n:Int) - 1:=by rw [hq];exact wrap64 (by omega) (by omega)
  have hl:=Z59 (a.Vars.take k) a.Vars[k] (by simp;omega)
  have e7:k≤a.Vars.length:=by omega
  refine Z4w _ _ _ _ _ _ ?_
  rw [Zyj _ hk] at h
  rcases tf (inR a.Vars[k] 0 ((n:Int) - 1)) with e1 | e1
  ·simp [e1] at h
   simp [hk,h4,hw,e1,← h]
  ·rcases tf (has (a.Vars.take k) a.Vars[k]) with e2 | e2
   ·rw [Zre p hk] at h
    simp only [e1,e2,Bool.true_and,Bool.not_false] at h
    have ih:=ih _ h
    have e0:=e1
    simp [inR] at e0
    have e6:=Zns p (v:=a.Vars[k]) (by simp [inR];omega)
    have e8:¬ a.Vars[k]<0:=by omega
    simp at ih
    simp [hk,h4,hw,e1,e2,hl,e0,e6,e7,e8,ih]
   ·simp [e1,e2] at h
    simp [hk,h4,hw,e1,e2,hl,e7,← h]
def Zmv (n:Int) (p:Nat→Bool):Bool:=decide (Z2 p=w (shlI 1 n - 1))
theorem Zbjc (q:Zc) (n:Nat) (hn1:1≤n) (hn:n≤4) (hq:q.Ze=n) (hl:Le q.Atoms) (hv:∀ a∈q.Atoms,Le a.Vars):∀ k,k≤q.Atoms.length→∀ p,
  Zi6 q (Z2 p) k=some (Bo ((q.Atoms.drop k).all (Zbp n) && Zmv n (addA p (q.Atoms.drop k))),[]):=by
 refine down _ ?_ ?_
 ·intro p
  refine Z4v _ _ _ _ ?_
  have e:addA p []=p:=by funext u;simp [addA]
  have h0:¬ (n:Int)<0:=by omega
  simp [e,hq,h0,Zmv]
 ·intro k hk ih p
  refine Z4v _ _ _ _ ?_
  have h4:=inc64 (i:=k) (by omega)
  rw [Zkl _ hk]
  rcases tf (nmOk q.Atoms[k].Name) with e1 | e1
  ·simp [hk,e1,Zbp]
  rcases tf (inR q.Atoms[k].Vars.length 1 3) with e2 | e2
  ·simp [hk,e1,e2,Zbp]
  have b:=Zbjb q n hn1 hn hq q.Atoms[k] k (hv _ (List.getElem_mem hk)) (Bo (Zbp n q.Atoms[k] && (q.Atoms.drop (k+1)).all (Zbp n) && Zmv n (addA p (q.Atoms.drop k))),[]) 0 (Nat.zero_le _) p ?_
  ·simp at b
   simp [hk,e1,e2,b]
  ·simp only [List.take_zero,List.drop_zero,Zbp,e1,e2,Bool.true_and]
   rcases tf (Zct n [] q.Atoms[k].Vars) with e3 | e3
   ·simp [e3]
   ·have ih:=ih (addV p q.Atoms[k].Vars)
    simp only [e3,if_true,Bool.true_and,Zyk p hk]
    simp at ih
    rw [show w ((k:Int)+1)=(k:Int)+1 from h4,ih]
@[simp] theorem Zp4 (q:Zc) (h:LeQ q):Zeg q=some (Bo (Zq q.Ze q.Atoms),[]):=by
 refine Zbhp _ _ ?_
 unfold Zq
 rcases tf (inR q.Ze 1 4) with e1 | e1
 ·simp [e1]
 rcases tf (inR q.Atoms.length 1 4) with e2 | e2
 ·simp [e1,e2]
 have e0:=e1
 simp [inR] at e0
 obtain ⟨k,hk⟩:∃ k:Nat,q.Ze=k:=⟨q.Ze.toNat,by omega⟩
 have b:=Zbjc q k (by omega) (by omega) hk h.1 h.2 0 (Nat.zero_le _) (fun _=>false)
 have ez:Z2 (fun _=>false)=0:=rfl
 rw [ez] at b
 simp only [List.drop_zero,Int.ofNat_zero] at b
 have e3:(q.Atoms.all (Zbp k) && Zmv k (addA (fun _=>false) q.Atoms))=(q.Atoms.all (Zbp k) && (List.range k).all (addA (fun _=>false) q.Atoms)):=by
  rcases tf (q.Atoms.all (Zbp k)) with e3 | e3
  ·simp [e3]
  ·have hk':k=1∨k=2∨k=3∨k=4:=by omega
   have hz:=all_in e3
   have hz':∀ u:Nat,k≤u→addA (fun _=>false) q.Atoms u=false:=fun u hu=>by simp only [addA,Bool.false_or];exact hz u (by omega)
   rw [e3,Bool.true_and,Bool.true_and,Bool.eq_iff_iff,Zmv,decide_eq_true_eq,Z2]
   rcases hk' with rfl | rfl | rfl | rfl
   ·simp [shlI,wrap64,Znt,hz' 1 (by omega),hz' 2 (by omega),hz' 3 (by omega),List.range_succ]
   ·simp [shlI,wrap64,Znt,hz' 2 (by omega),hz' 3 (by omega),List.range_succ]
   ·simp [shlI,wrap64,Znt,hz' 3 (by omega),List.range_succ,and_assoc]
   ·simp [shlI,wrap64,Znt,List.range_succ,and_assoc]
 rw [e3] at b
 rw [hk] at e1
 simp only [Ze8,Option.some.injEq,Prod.mk.injEq,AV.t.injEq,T.bool.injEq,and_true,exists_eq_left',e1,e2,if_true,b,hk,Int.toNat_natCast]
 simp
@[simp] theorem Zhr (q:Zc) (h:LeQ q):Zcc q=some (I (Zu q.Ze q.Atoms),[]):=by
 refine Zbf8 _ _ ?_
 have q1:=Zmu q h
 unfold Zu
 rcases tf (Zq q.Ze q.Atoms) with e | e
 ·simp [q1,e]
 ·have:=(Zgj e).2.2.1
  have h0:¬ ((q.Atoms.length:Int)<0):=by omega
  simp [q1,e,this,h0]
@[simp] theorem Ze9 (q:Zc) (h:LeQ q):Zce q=some (I (Zu q.Ze q.Atoms),[]):=by
 refine Zbhq _ _ ?_
 have q1:=Zp4 q h
 unfold Zu
 rcases tf (Zq q.Ze q.Atoms) with e | e
 ·simp [q1,e]
 ·have:=(Zgj e).2.2.1
  have h0:¬ ((q.Atoms.length:Int)<0):=by omega
  simp [q1,e,this,h0]
theorem Zbjd (xs:List Int) (hx:Le xs):∀ i,i≤xs.length→Zl4 xs i=some (Bo (Zer (xs.drop i) && decide ((xs.length:Int)≤16)),[]):=by
 refine down _ ?_ ?_
 ·refine Z5g _ _ _ ?_
  simp [Zer]
 ·intro i hi ih
  refine Z5g _ _ _ ?_
  have h4:=inc64 (i:=i) (by omega)
  rw [Zyg hi]
  simp at ih
  rcases tf (inR xs[i] 0 7) with h | h <;> simp [hi,h4,h,ih]
@[simp] theorem Z6a (xs:List Int) (hx:Le xs):Zpj xs=some (Bo (Zbz xs),[]):=by
 refine Zbid _ _ ?_
 have:=Zbjd xs hx 0 (Nat.zero_le _)
 simpa [Zbz] using this
theorem Zbje (xs:List Int) (hx:Le xs):∀ i,i≤xs.length→Zla xs xs xs.length i=some (Bo (Zer (xs.drop i) && decide ((xs.length:Int)≤16)),[]):=by
 refine down _ ?_ ?_
 ·refine Z4d _ _ _ _ _ ?_
  simp [Zer]
 ·intro i hi ih
  refine Z4d _ _ _ _ _ ?_
  have h4:=inc64 (i:=i) (by omega)
  rw [Zyg hi]
  simp at ih
  rcases tf (inR xs[i] 0 7) with h | h <;> simp [hi,h4,h,ih]
@[simp] theorem Z6b (xs:List Int) (hx:Le xs):Zov xs=some (Bo (Zbz xs),[]):=by
 refine Zbgz _ _ ?_
 have:=Zbje xs hx 0 (Nat.zero_le _)
 simpa [Zbz] using this
theorem l_vars0 (q:Zc) (m:Int) (hl:Le q.Atoms) (hv:∀ a∈q.Atoms,Le a.Vars) (v:Nat) (hv4:v<8) (out:List Int) (ho:out.length≤8) (r:AV×List Blk):∀ i,i≤q.Atoms.length →
  Zgo q (out++if hasV m (q.Atoms.drop i) i v=true then [(v:Int)] else []) m (w ((v:Int)+1))=some r →
  Zia q out m v q.Atoms q.Atoms.length i=some r:=by
 refine down _ ?_ ?_
 ·intro h
  refine Z3n _ _ _ _ _ _ _ _ ?_
  simpa [hasV] using h
 ·intro i hi ih h
  refine Z3n _ _ _ _ _ _ _ _ ?_
  have h4:=inc64 (i:=i) (by omega)
  have c1:=Zmt q.Atoms[i].Vars v (hv _ (List.getElem_mem hi))
  have h0:¬ (i:Int)<0:=by omega
  rw [Zrh _ hi] at h
  by_cases e1:andI (shrI m i) 1=1
  ·have e2:Zt m i=true:=by simp [Zt,e1]
   rcases tf (has q.Atoms[i].Vars v) with e3 | e3
   ·simp [e2,e3] at h
    have ih:=ih (by simpa using h)
    simp at ih
    simp [hi,h4,h0,e1,c1,e3,ih]
   ·simp [e2,e3] at h
    have e4:out.length+1≤68719476736:=by omega
    simp [hi,h4,h0,e1,c1,e3,e4,h]
  ·have e2:Zt m i=false:=by simp [Zt,e1]
   simp [e2] at h
   have ih:=ih (by simpa using h)
   simp at ih
   simp [hi,h4,h0,e1,ih]
theorem l_vars1 (q:Zc) (m:Int) (hl:Le q.Atoms) (hv:∀ a∈q.Atoms,Le a.Vars) (n:Nat) (hq:q.Ze=n) (hn:n≤4):∀ k,k≤n →
  Zgo q (varL m q.Atoms k) m k=some (.own 0,[.arr Zw 1 true ((varL m q.Atoms n).map ic)]):=by
 refine down _ ?_ ?_
 ·refine Z3m _ _ _ _ _ ?_
  simp [hq]
 ·intro k hk ih
  refine Z3m _ _ _ _ _ ?_
  have h4:=inc64 (i:=k) (by omega)
  have b:=l_vars0 q m hl hv k (by omega) (varL m q.Atoms k) (by have:=Zh3 m q.Atoms k;omega) _ 0 (Nat.zero_le _) (by
   rw [List.drop_zero,← Zbao,show w ((k:Int)+1)=(k:Int)+1 from h4];simpa using ih)
  simp at b
  simp [hq,hk,b]
@[simp] theorem Zj2 (q:Zc) (m:Int) (h:LeQ q) (hv:Zq q.Ze q.Atoms=true):Zc1 q m=some (.own 0,[.arr Zw 1 true ((varL m q.Atoms q.Ze.toNat).map ic)]):=by
 refine Zbga _ _ _ ?_
 have hn:=Zcl hv
 have b:=l_vars1 q m h.1 h.2 q.Ze.toNat (by omega) (by omega) 0 (Nat.zero_le _)
 simpa [varL] using b
theorem l_both (b xs:List Int) (hb:Le b) (hx:xs.length≤1000000):∀ i,i≤xs.length →
  Zib ((xs.take i).filter (has b)) b xs xs.length i=some (.own 0,[.arr Zw 1 true ((xs.filter (has b)).map ic)]):=by
 refine down _ ?_ ?_
 ·refine Z3o _ _ _ _ _ _ ?_
  simp
 ·intro i hi ih
  refine Z3o _ _ _ _ _ _ ?_
  have h4:=inc64 (i:=i) (by omega)
  have c1:=Zmt b xs[i] hb
  have e4:((xs.take i).filter (has b)).length+1≤68719476736:=by
   have:=List.length_filter_le (has b) (xs.take i)
   simp at this
   omega
  rw [Zri _ hi] at ih
  rcases tf (has b xs[i]) with e | e
  ·simp [e] at ih
   simp [hi,h4,c1,e,ih]
  ·simp [e] at ih
   simp [hi,h4,c1,e,e4,ih]
@[simp] theorem x_both (xs b:List Int) (hb:Le b) (hx:xs.length≤1000000):Zfl xs b=some (.own 0,[.arr Zw 1 true ((xs.filter (has b)).map ic)]):=by
 refine Zbgb _ _ _ ?_
 have:=l_both b xs hb hx 0 (Nat.zero_le _)
 simpa using this
theorem l_bits0 (q:Zc) (m:Int) (hv:∀ a∈q.Atoms,Le a.Vars) (h4v:Var4 q.Atoms) (i:Nat) (hi:i<q.Atoms.length) (hm:Zt m i=true) (r:AV×List Blk):∀ k,k≤q.Atoms[i].Vars.length→∀ p,
  Zhc q m (Z2 (addV p (q.Atoms[i].Vars.drop k))) (w ((i:Int)+1))=some r→Zjb q m (Z2 p) i k=some r:=by
 have e1:andI (shrI m i) 1=1:=by simpa [Zt] using hm
 have h0:¬ (i:Int)<0:=by omega
 have ha:=List.getElem_mem hi
 refine down _ ?_ ?_
 ·intro p h
  refine Zwd _ _ _ _ _ _ ?_
  rw [List.drop_length,Zrd] at h
  simp [hi,h]
 ·intro k hk ih p h
  refine Zwd _ _ _ _ _ _ ?_
  have h4:=inc64 (i:=k) (by have:=hv _ ha;omega)
  have e6:=Zns p (v:=q.Atoms[i].Vars[k]) (h4v _ ha _ (List.getElem_mem hk))
  have e7:=h4v _ ha _ (List.getElem_mem hk)
  simp [inR] at e7
  have e8:¬ q.Atoms[i].Vars[k]<0:=by omega
  rw [Zre p hk] at h
  have ih:=ih _ h
  simp at ih
  simp [hi,hk,h0,e1,h4,e6,e7,e8,ih]
theorem l_bits1 (q:Zc) (m:Int) (hl:Le q.Atoms) (hv:∀ a∈q.Atoms,Le a.Vars) (h4v:Var4 q.Atoms):∀ i,i≤q.Atoms.length→∀ p,
  Zhc q m (Z2 p) i=some (I (Z2 (addM m p q.Atoms i)),[]):=by
 refine down _ ?_ ?_
 ·intro p
  refine Z44 _ _ _ _ _ ?_
  have e:addM m p q.Atoms q.Atoms.length=p:=by funext u;simp [addM,hasV]
  simp [e]
 ·intro i hi ih p
  refine Z44 _ _ _ _ _ ?_
  have h4:=inc64 (i:=i) (by omega)
  have h0:¬ (i:Int)<0:=by omega
  rw [Zban m p hi]
  rcases tf (Zt m i) with e | e
  ·have e1:¬ andI (shrI m i) 1=1:=by simpa [Zt] using e
   have ih:=ih p
   simp at ih
   have b:Zjb q m (Z2 p) i 0=some (I (Z2 (addM m p q.Atoms (i+1))),[]):=by
    refine Zwd _ _ _ _ _ _ ?_
    simp [hi,h0,e1,h4,ih]
   simp [hi,e,b]
  ·have ih:=ih (addV p q.Atoms[i].Vars)
   have b:=l_bits0 q m hv h4v i hi e _ 0 (Nat.zero_le _) p (by rw [List.drop_zero,show w ((i:Int)+1)=(i:Int)+1 from h4];simpa using ih)
   simp at b
   simp [hi,e,b]
@[simp] theorem Zwm (q:Zc) (m:Int) (h:LeQ q) (h4v:Var4 q.Atoms):Zhb q m=some (I (Z2 (pV m q.Atoms)),[]):=by
 refine Zbh1 _ _ _ ?_
 have b:=l_bits1 q m h.1 h.2 h4v 0 (Nat.zero_le _) (fun _=>false)
 have ez:Z2 (fun _=>false)=0:=rfl
 have e:addM m (fun _=>false) q.Atoms 0=pV m q.Atoms:=by funext u;simp [addM,pV]
 rw [ez,e] at b
 simpa using b
end Go.Proofs.YtgnfoghkbpkgjaaGreat
