/-
  Parts of the proofs for this seat: G4 G5 G6 G7 G8 G9 G10 G11.
-/
import Derived.Test.YtbapkgocloaaeaaGreatP9
set_option linter.unusedSimpArgs false
set_option linter.unusedVariables false
set_option maxRecDepth 100000
set_option maxHeartbeats 4000000
namespace Go.Proofs.YtbapkgocloaaeaaGreat
open Go.AM
theorem Z2i (m:Zd) (info:List Zh) (out:List Int) (sizes:List Int) (x:List Zb) (x1:Int) (x2:Int) (r:AV×List Blk) (h:(if x2<x1 then (0≤x2∧(∃ (e1:Zb),x[x2.toNat]?=some e1∧(∃ (e2:Zh),info[x2.toNat]?=some e2∧(0≤e2.Mask∧(∃ (e3:Int),sizes[e2.Mask.toNat]?=some e3∧(if 0≤e2.Left then (∃ (e4:Zh),info[e2.Left.toNat]?=some e4∧(0≤e4.Mask∧(∃ (e5:Int),sizes[e4.Mask.toNat]?=some e5∧(if 0≤e2.Right then (∃ (e6:Zh),info[e2.Right.toNat]?=some e6∧(0≤e6.Mask∧(∃ (e7:Int),sizes[e6.Mask.toNat]?=some e7∧(Zjj m info out e1 sizes x2 e5 e7 x x1 x2=some r)))) else (Zjk m info out e1 sizes x2 e5 0 x x1 x2 false=some r))))) else (if 0≤e2.Right then (∃ (e8:Zh),info[e2.Right.toNat]?=some e8∧(0≤e8.Mask∧(∃ (e9:Int),sizes[e8.Mask.toNat]?=some e9∧(Zjj m info out e1 sizes x2 e3 e9 x x1 x2=some r)))) else (Zjk m info out e1 sizes x2 e3 0 x x1 x2 false=some r)))))))) else (some (.own 0,[.arr 3 1 true (out.map ic)])=some r))):Zbe m info out sizes x x1 x2=some r:=by
 unfold Zbe
 rw [EvL_eq Zk5.eq_1]
 try simp only [itb] at h
 try simp only [itf,gS,kk] at h
 rcases h with ⟨q1,q2,e1,⟨g3,q3⟩,e2,⟨g4,q4⟩,q5,e3,⟨g6,q6⟩,(⟨q7,e4,⟨g8,q8⟩,q9,e5,⟨g10,q10⟩,(⟨q11,e6,⟨g12,q12⟩,q13,e7,⟨g14,q14⟩,h⟩ | ⟨q11,h⟩)⟩ | ⟨q7,(⟨q15,e8,⟨g16,q16⟩,q17,e9,⟨g18,q18⟩,h⟩ | ⟨q15,h⟩)⟩)⟩ | ⟨q1,h⟩
 all_goals (refine Eq.trans ?_ h;clear h;simp +decide [*,kk,Zjj,Zyj,Zjk,Zk6])
theorem Zbel (m:Zd) (info:List Zh) (out:List Int) (x:Zb) (sizes:List Int) (i:Int) (left:Int) (right:Int) (x1:List Zb) (x2:Int) (x3:Int) (r:AV×List Blk) (h:(Zej m=some (.bsl 1 5,[.box (m.c.map .t),.box [.ptr 0 0,.ptr 0 6,.ptr 0 12,.ptr 0 18,.ptr 0 24]])∧(if (w (x.Kind - 1))=0 then (0≤i∧(∃ (e2:Zh),info[i.toNat]?=some e2∧(0≤e2.Mask∧(∃ (e3:Int),sizes[e2.Mask.toNat]?=some e3∧(∃ (v4_0:Int),Zbl m.Scan left right e3=some (I v4_0,[])∧(out.length+1≤68719476736∧(Zbe m info (out++[v4_0]) sizes x1 x2 (w (x3+1))=some r))))))) else (if (w (x.Kind - 1))=1 then (0≤i∧(∃ (e5:Zh),info[i.toNat]?=some e5∧(0≤e5.Mask∧(∃ (e6:Int),sizes[e5.Mask.toNat]?=some e6∧(∃ (v7_0:Int),Zbl m.Sort_ left right e6=some (I v7_0,[])∧(out.length+1≤68719476736∧(Zbe m info (out++[v7_0]) sizes x1 x2 (w (x3+1))=some r))))))) else (if (w (x.Kind - 1))=2 then (0≤i∧(∃ (e8:Zh),info[i.toNat]?=some e8∧(0≤e8.Mask∧(∃ (e9:Int),sizes[e8.Mask.toNat]?=some e9∧(∃ (v10_0:Int),Zbl m.Hash left right e9=some (I v10_0,[])∧(out.length+1≤68719476736∧(Zbe m info (out++[v10_0]) sizes x1 x2 (w (x3+1))=some r))))))) else (if (w (x.Kind - 1))=3 then (0≤i∧(∃ (e11:Zh),info[i.toNat]?=some e11∧(0≤e11.Mask∧(∃ (e12:Int),sizes[e11.Mask.toNat]?=some e12∧(∃ (v13_0:Int),Zbl m.Merge left right e12=some (I v13_0,[])∧(out.length+1≤68719476736∧(Zbe m info (out++[v13_0]) sizes x1 x2 (w (x3+1))=some r))))))) else (if (w (x.Kind - 1))=4 then (0≤i∧(∃ (e14:Zh),info[i.toNat]?=some e14∧(0≤e14.Mask∧(∃ (e15:Int),sizes[e14.Mask.toNat]?=some e15∧(∃ (v16_0:Int),Zbl m.Nested left right e15=some (I v16_0,[])∧(out.length+1≤68719476736∧(Zbe m info (out++[v16_0]) sizes x1 x2 (w (x3+1))=some r))))))) else False))))))):Zjj m info out x sizes i left right x1 x2 x3=some r:=by
 unfold Zjj
 rw [Ev_eq Zk4.eq_1]
 obtain ⟨q1,h⟩:=h
 unfold Zej at q1
 try simp at q1
 by_cases q2:(w (x.Kind - 1))=0
 ·rw [if_pos q2] at h
  obtain ⟨q3,h⟩:=h
  obtain ⟨e2,q4,h⟩:=h
  have gq4:=ltOfGet q4
  have kq4:=getOf q4
  obtain ⟨q5,h⟩:=h
  obtain ⟨e3,q6,h⟩:=h
  have gq6:=ltOfGet q6
  have kq6:=getOf q6
  obtain ⟨v4_0,q7,h⟩:=h
  unfold Zbl at q7
  try simp at q7
  obtain ⟨q8,h⟩:=h
  have rq8:=roomA (b:=8) q8 (by omega)
  have sq8:=roomB q8
  try simp [*] at rq8
  try simp [*] at sq8
  refine Eq.trans ?_ h
  clear h
  simp +decide [*,Zbe]
 ·rw [if_neg q2] at h
  replace q2:=eq_false q2
  by_cases q9:(w (x.Kind - 1))=1
  ·rw [if_pos q9] at h
   obtain ⟨q10,h⟩:=h
   obtain ⟨e5,q11,h⟩:=h
   have gq11:=ltOfGet q11
   have kq11:=getOf q11
   obtain ⟨q12,h⟩:=h
   obtain ⟨e6,q13,h⟩:=h
   have gq13:=ltOfGet q13
   have kq13:=getOf q13
   obtain ⟨v7_0,q14,h⟩:=h
   unfold Zbl at q14
   try simp at q14
   obtain ⟨q15,h⟩:=h
   have rq15:=roomA (b:=8) q15 (by omega)
   have sq15:=roomB q15
   try simp [*] at rq15
   try simp [*] at sq15
   refine Eq.trans ?_ h
   clear h
   simp +decide [*,Zbe]
  ·rw [if_neg q9] at h
   replace q9:=eq_false q9
   by_cases q16:(w (x.Kind - 1))=2
   ·rw [if_pos q16] at h
    obtain ⟨q17,h⟩:=h
    obtain ⟨e8,q18,h⟩:=h
    have gq18:=ltOfGet q18
    have kq18:=getOf q18
    obtain ⟨q19,h⟩:=h
    obtain ⟨e9,q20,h⟩:=h
    have gq20:=ltOfGet q20
    have kq20:=getOf q20
    obtain ⟨v10_0,q21,h⟩:=h
    unfold Zbl at q21
    try simp at q21
    obtain ⟨q22,h⟩:=h
    have rq22:=roomA (b:=8) q22 (by omega)
    have sq22:=roomB q22
    try simp [*] at rq22
    try simp [*] at sq22
    refine Eq.trans ?_ h
    clear h
    simp +decide [*,Zbe]
   ·rw [if_neg q16] at h
    replace q16:=eq_false q16
    by_cases q23:(w (x.Kind - 1))=3
    ·rw [if_pos q23] at h
     obtain ⟨q24,h⟩:=h
     obtain ⟨e11,q25,h⟩:=h
     have gq25:=ltOfGet q25
     have kq25:=getOf q25
     obtain ⟨q26,h⟩:=h
     obtain ⟨e12,q27,h⟩:=h
     have gq27:=ltOfGet q27
     have kq27:=getOf q27
     obtain ⟨v13_0,q28,h⟩:=h
     unfold Zbl at q28
     try simp at q28
     obtain ⟨q29,h⟩:=h
     have rq29:=roomA (b:=8) q29 (by omega)
     have sq29:=roomB q29
     try simp [*] at rq29
     try simp [*] at sq29
     refine Eq.trans ?_ h
     clear h
     simp +decide [*,Zbe]
    ·rw [if_neg q23] at h
     replace q23:=eq_false q23
     by_cases q30:(w (x.Kind - 1))=4
     ·rw [if_pos q30] at h
      obtain ⟨q31,h⟩:=h
      obtain ⟨e14,q32,h⟩:=h
      have gq32:=ltOfGet q32
      have kq32:=getOf q32
      obtain ⟨q33,h⟩:=h
      obtain ⟨e15,q34,h⟩:=h
      have gq34:=ltOfGet q34
      have kq34:=getOf q34
      obtain ⟨v16_0,q35,h⟩:=h
      unfold Zbl at q35
      try simp at q35
      obtain ⟨q36,h⟩:=h
      have rq36:=roomA (b:=8) q36 (by omega)
      have sq36:=roomB q36
      try simp [*] at rq36
      try simp [*] at sq36
      refine Eq.trans ?_ h
      clear h
      simp +decide [*,Zbe]
     ·rw [if_neg q30] at h
      replace q30:=eq_false q30
      cases h
theorem Zbem (m:Zd) (info:List Zh) (out:List Int) (x:Zb) (sizes:List Int) (i:Int) (left:Int) (right:Int) (x1:List Zb) (x2:Int) (x3:Int) (x4:Bool) (r:AV×List Blk) (h:(Zej m=some (.bsl 1 5,[.box (m.c.map .t),.box [.ptr 0 0,.ptr 0 6,.ptr 0 12,.ptr 0 18,.ptr 0 24]])∧(if (w (x.Kind - 1))=0 then (0≤i∧(∃ (e2:Zh),info[i.toNat]?=some e2∧(0≤e2.Mask∧(∃ (e3:Int),sizes[e2.Mask.toNat]?=some e3∧(∃ (v4_0:Int),Zbl m.Scan left right e3=some (I v4_0,[])∧(out.length+1≤68719476736∧(Zbe m info (out++[v4_0]) sizes x1 x2 (w (x3+1))=some r))))))) else (if (w (x.Kind - 1))=1 then (0≤i∧(∃ (e5:Zh),info[i.toNat]?=some e5∧(0≤e5.Mask∧(∃ (e6:Int),sizes[e5.Mask.toNat]?=some e6∧(∃ (v7_0:Int),Zbl m.Sort_ left right e6=some (I v7_0,[])∧(out.length+1≤68719476736∧(Zbe m info (out++[v7_0]) sizes x1 x2 (w (x3+1))=some r))))))) else (if (w (x.Kind - 1))=2 then (0≤i∧(∃ (e8:Zh),info[i.toNat]?=some e8∧(0≤e8.Mask∧(∃ (e9:Int),sizes[e8.Mask.toNat]?=some e9∧(∃ (v10_0:Int),Zbl m.Hash left right e9=some (I v10_0,[])∧(out.length+1≤68719476736∧(Zbe m info (out++[v10_0]) sizes x1 x2 (w (x3+1))=some r))))))) else (if (w (x.Kind - 1))=3 then (0≤i∧(∃ (e11:Zh),info[i.toNat]?=some e11∧(0≤e11.Mask∧(∃ (e12:Int),sizes[e11.Mask.toNat]?=some e12∧(∃ (v13_0:Int),Zbl m.Merge left right e12=some (I v13_0,[])∧(out.length+1≤68719476736∧(Zbe m info (out++[v13_0]) sizes x1 x2 (w (x3+1))=some r))))))) else (if (w (x.Kind - 1))=4 then (0≤i∧(∃ (e14:Zh),info[i.toNat]?=some e14∧(0≤e14.Mask∧(∃ (e15:Int),sizes[e14.Mask.toNat]?=some e15∧(∃ (v16_0:Int),Zbl m.Nested left right e15=some (I v16_0,[])∧(out.length+1≤68719476736∧(Zbe m info (out++[v16_0]) sizes x1 x2 (w (x3+1))=some r))))))) else False))))))):Zjk m info out x sizes i left right x1 x2 x3 x4=some r:=by
 unfold Zjk
 rw [Ev_eq Zk4.eq_1]
 obtain ⟨q1,h⟩:=h
 unfold Zej at q1
 try simp at q1
 by_cases q2:(w (x.Kind - 1))=0
 ·rw [if_pos q2] at h
  obtain ⟨q3,h⟩:=h
  obtain ⟨e2,q4,h⟩:=h
  have gq4:=ltOfGet q4
  have kq4:=getOf q4
  obtain ⟨q5,h⟩:=h
  obtain ⟨e3,q6,h⟩:=h
  have gq6:=ltOfGet q6
  have kq6:=getOf q6
  obtain ⟨v4_0,q7,h⟩:=h
  unfold Zbl at q7
  try simp at q7
  obtain ⟨q8,h⟩:=h
  have rq8:=roomA (b:=8) q8 (by omega)
  have sq8:=roomB q8
  try simp [*] at rq8
  try simp [*] at sq8
  refine Eq.trans ?_ h
  clear h
  simp +decide [*,Zbe]
 ·rw [if_neg q2] at h
  replace q2:=eq_false q2
  by_cases q9:(w (x.Kind - 1))=1
  ·rw [if_pos q9] at h
   obtain ⟨q10,h⟩:=h
   obtain ⟨e5,q11,h⟩:=h
   have gq11:=ltOfGet q11
   have kq11:=getOf q11
   obtain ⟨q12,h⟩:=h
   obtain ⟨e6,q13,h⟩:=h
   have gq13:=ltOfGet q13
   have kq13:=getOf q13
   obtain ⟨v7_0,q14,h⟩:=h
   unfold Zbl at q14
   try simp at q14
   obtain ⟨q15,h⟩:=h
   have rq15:=roomA (b:=8) q15 (by omega)
   have sq15:=roomB q15
   try simp [*] at rq15
   try simp [*] at sq15
   refine Eq.trans ?_ h
   clear h
   simp +decide [*,Zbe]
  ·rw [if_neg q9] at h
   replace q9:=eq_false q9
   by_cases q16:(w (x.Kind - 1))=2
   ·rw [if_pos q16] at h
    obtain ⟨q17,h⟩:=h
    obtain ⟨e8,q18,h⟩:=h
    have gq18:=ltOfGet q18
    have kq18:=getOf q18
    obtain ⟨q19,h⟩:=h
    obtain ⟨e9,q20,h⟩:=h
    have gq20:=ltOfGet q20
    have kq20:=getOf q20
    obtain ⟨v10_0,q21,h⟩:=h
    unfold Zbl at q21
    try simp at q21
    obtain ⟨q22,h⟩:=h
    have rq22:=roomA (b:=8) q22 (by omega)
    have sq22:=roomB q22
    try simp [*] at rq22
    try simp [*] at sq22
    refine Eq.trans ?_ h
    clear h
    simp +decide [*,Zbe]
   ·rw [if_neg q16] at h
    replace q16:=eq_false q16
    by_cases q23:(w (x.Kind - 1))=3
    ·rw [if_pos q23] at h
     obtain ⟨q24,h⟩:=h
     obtain ⟨e11,q25,h⟩:=h
     have gq25:=ltOfGet q25
     have kq25:=getOf q25
     obtain ⟨q26,h⟩:=h
     obtain ⟨e12,q27,h⟩:=h
     have gq27:=ltOfGet q27
     have kq27:=getOf q27
     obtain ⟨v13_0,q28,h⟩:=h
     unfold Zbl at q28
     try simp at q28
     obtain ⟨q29,h⟩:=h
     have rq29:=roomA (b:=8) q29 (by omega)
     have sq29:=roomB q29
     try simp [*] at rq29
     try simp [*] at sq29
     refine Eq.trans ?_ h
     clear h
     simp +decide [*,Zbe]
    ·rw [if_neg q23] at h
     replace q23:=eq_false q23
     by_cases q30:(w (x.Kind - 1))=4
     ·rw [if_pos q30] at h
      obtain ⟨q31,h⟩:=h
      obtain ⟨e14,q32,h⟩:=h
      have gq32:=ltOfGet q32
      have kq32:=getOf q32
      obtain ⟨q33,h⟩:=h
      obtain ⟨e15,q34,h⟩:=h
      have gq34:=ltOfGet q34
      have kq34:=getOf q34
      obtain ⟨v16_0,q35,h⟩:=h
      unfold Zbl at q35
      try simp at q35
      obtain ⟨q36,h⟩:=h
      have rq36:=roomA (b:=8) q36 (by omega)
      have sq36:=roomB q36
      try simp [*] at rq36
      try simp [*] at sq36
      refine Eq.trans ?_ h
      clear h
      simp +decide [*,Zbe]
     ·rw [if_neg q30] at h
      replace q30:=eq_false q30
      cases h
theorem Zuj (a:Zd) (a1:Zc) (a2:Plan) (a3:List Int) (r:AV×List Blk) (h:((Ze3 a1 a2=some (.tup [.t .nil,Bo false],[])∧(some (.t .nil,[])=some r))∨(∃ (v2_0:List Zh),Ze3 a1 a2=some (.tup [.own 0,Bo true],[.arr 138 4 true (v2_0.map Zh.c)])∧(∃ (v3_0:Bool),Zh1 a1 a3=some (Bo v3_0,[])∧(if v3_0=true then (Zbe a v2_0 ([]:List Int) a3 a2.Steps (a2.Steps.length:Int) 0=some r) else (some (.t .nil,[])=some r)))))):Zh3 a a1 a2 a3=some r:=by
 unfold Zh3
 refine run Zba0 rfl ?_
 simp only [Ze3,Zh1,Plan.c_def,Zc.c_def,mpl,dfs] at h
 try simp only [itb] at h
 try simp only [itf,gS,kk] at h
 rcases h with ⟨q2,h⟩ | ⟨v2_0,q3,v3_0,q4,(⟨q5,h⟩ | ⟨q5,h⟩)⟩
 all_goals (refine Eq.trans ?_ h;clear h;simp +decide [*,kk,Zyk,Zbe])
theorem Z2j (n:Int) (x:List Int) (x1:Int) (x2:Int) (r:AV×List Blk) (h:(if x2<x1 then (0≤x2∧(∃ (e1:Int),x[x2.toNat]?=some e1∧(Zh4 (w (n+e1)) x x1 (w (x2+1))=some r))) else (some (I n,[])=some r))):Zh4 n x x1 x2=some r:=by
 unfold Zh4
 rw [EvL_eq Zrt.eq_1]
 try simp only [itb] at h
 try simp only [itf,gS,kk] at h
 rcases h with ⟨q1,q2,e1,⟨g3,q3⟩,h⟩ | ⟨q1,h⟩
 all_goals (refine Eq.trans ?_ h;clear h;simp +decide [*,kk,Zh4,Zru])
theorem Zben (a:List Int) (r:AV×List Blk) (h:(Zh4 0 a (a.length:Int) 0=some r)):Zk7 a=some r:=by
 unfold Zk7
 refine run Zba1 rfl ?_
 refine Eq.trans ?_ h;clear h;simp +decide [*,kk,Zyl,Zh4]
theorem Zbeo (a:Zd) (a1:Zc) (a2:Plan) (a3:List Int) (r:AV×List Blk) (h:((Zh3 a a1 a2 a3=some (.t .nil,[])∧(some (I (-1),[])=some r))∨(∃ (v2_0:List Int),Zh3 a a1 a2 a3=some (.own 0,[.arr 3 1 true (v2_0.map ic)])∧(v2_0≠[]∧(∃ (v3_0:Int),Zk7 v2_0=some (I v3_0,[])∧(some (I v3_0,[])=some r)))))):Zfg a a1 a2 a3=some r:=by
 unfold Zfg
 refine run Zba2 rfl ?_
 rcases h with h | h
 ·
  obtain ⟨q1,h⟩:=h
  unfold Zh3 at q1
  try simp at q1
  refine Eq.trans ?_ h
  clear h
  simp +decide [*,Zrv]
 ·
  obtain ⟨v2_0,q2,h⟩:=h
  unfold Zh3 at q2
  try simp at q2
  obtain ⟨q3,h⟩:=h
  obtain ⟨yq3,ysq3,eq3⟩:=List.exists_cons_of_ne_nil q3
  first | subst eq3 | skip
  obtain ⟨v3_0,q4,h⟩:=h
  unfold Zk7 at q4
  try simp at q4
  refine Eq.trans ?_ h
  clear h
  simp +decide [*,Zrv]
theorem Zbep (a:Zd) (a1:Zc) (a2:Plan) (a3:List Int) (r:AV×List Blk) (h:((∃ (v1_0:List Int),Zfe a3=some (.own 0,[.arr 3 1 true (v1_0.map ic)])∧(∃ (v2_0:Int),Zfg a a1 a2 v1_0=some (I v2_0,[])∧(some (I v2_0,[])=some r)))∨(Zfe a3=some (.t .nil,[])∧(∃ (v4_0:Int),Zym a a1 a2=some (I v4_0,[])∧(some (I v4_0,[])=some r))))):Zk8 a a1 a2 a3=some r:=by
 unfold Zk8
 refine run Zba3 rfl ?_
 simp only [Zfe,Zfg,Zym,Zd.c_def,Zi.c_def,Plan.c_def,Zc.c_def,mpl,dfs] at h
 rcases h with ⟨v1_0,q2,v2_0,q3,h⟩ | ⟨q4,v4_0,q5,h⟩
 all_goals (refine Eq.trans ?_ h;clear h;simp +decide [*,kk,Zyn])
theorem Z2k (q:Zc) (out:List Int) (mask:Int) (r:AV×List Blk) (h:(∃ (v1_0:Int),Zb5 q=some (I v1_0,[])∧(if mask≤v1_0 then (∃ (v2_0:Bool),Zei q mask=some (Bo v2_0,[])∧(if v2_0=true then (out.length+1≤68719476736∧(Zgc q (out++[mask]) (w (mask+1))=some r)) else (Zgc q out (w (mask+1))=some r))) else (some (.own 0,[.arr 3 1 true (out.map ic)])=some r)))):Zgc q out mask=some r:=by
 unfold Zgc
 rw [EvL_eq Zrw.eq_1]
 simp only [Zb5,Zei,Zc.c_def,mpl,dfs] at h
 try simp only [itb] at h
 try simp only [itf,gS,kk] at h
 rcases h with ⟨v1_0,q1,(⟨q2,v2_0,q3,(⟨q4,q5,h⟩ | ⟨q4,h⟩)⟩ | ⟨q2,h⟩)⟩
 all_goals (refine Eq.trans ?_ h;clear h;simp +decide [*,kk,Zgc,Zyo,Zrx])
theorem Zbeq (a:Zc) (r:AV×List Blk) (h:(Zgc a ([]:List Int) 1=some r)):Zk9 a=some r:=by
 unfold Zk9
 refine run Zba4 rfl ?_
 refine Eq.trans ?_ h;clear h;simp +decide [*,kk,Zyp,Zgc]
theorem Z2l (out:List Int) (mask:Int) (i:Int) (r:AV×List Blk) (h:(if i<4 then (¬ i<0∧(if (andI (shrI mask i) 1)=1 then (out.length+1≤68719476736∧(Zgd (out++[i]) mask (w (i+1))=some r)) else (Zgd out mask (w (i+1))=some r))) else (some (.own 0,[.arr 3 1 true (out.map ic)])=some r))):Zgd out mask i=some r:=by
 unfold Zgd
 rw [EvL_eq Zry.eq_1]
 try simp only [itb] at h
 try simp only [itf,gS,kk] at h
 rcases h with ⟨q1,q2,(⟨q3,q4,h⟩ | ⟨q3,h⟩)⟩ | ⟨q1,h⟩
 all_goals (refine Eq.trans ?_ h;clear h;simp +decide [*,kk,Zgd,Zyq,Zrz])
theorem Zber (a:Int) (r:AV×List Blk) (h:(∃ (v1_0:Bool),Zy a 0 15=some (Bo v1_0,[])∧(if v1_0=true then (Zgd ([]:List Int) a 0=some r) else (some (.t .nil,[])=some r)))):Zjl a=some r:=by
 unfold Zjl
 refine run Zba5 rfl ?_
 simp only [Zy,mpl,dfs] at h
 try simp only [itb] at h
 try simp only [itf,gS,kk] at h
 rcases h with ⟨v1_0,q1,(⟨q2,h⟩ | ⟨q2,h⟩)⟩
 all_goals (refine Eq.trans ?_ h;clear h;simp +decide [*,kk,Zyr,Zgd])
theorem Zbes (a:Int) (r:AV×List Blk) (h:(some (.agg [.own 0],[.arr 142 3 true (([(⟨1,a,0⟩:Zb)]).map Zb.c)])=some r)):Zla a=some r:=by
 unfold Zla
 refine run Zba6 rfl ?_
 refine Eq.trans ?_ h;clear h;simp +decide [*,kk,Zys]
theorem Zcq (m:Zd) (q:Zc) (sizes:List Int) (mask:Int) (list0:Za) (list1:Za) (list2:Za) (list3:Za) (list4:Za) (some0:Bool) (some1:Bool) (some2:Bool) (some3:Bool) (some4:Bool) (x:List Zb) (a:Int) (r:AV×List Blk) (h:(∃ (v1_0:Int),Zfg m q (⟨x⟩:Plan) sizes=some (I v1_0,[])∧(if (w (a+1))=0 then (if some0=true then (if v1_0<list0.Cost then (some (.tup [],[.box [I m.Scan.Fixed,I m.Scan.Zj,I m.Scan.Zk,I m.Scan.Zm,I m.Scan.Zl,L 2 (m.Scan.Steps.map Zg.c),I m.Sort_.Fixed,I m.Sort_.Zj,I m.Sort_.Zk,I m.Sort_.Zm,I m.Sort_.Zl,L 2 (m.Sort_.Steps.map Zg.c),I m.Hash.Fixed,I m.Hash.Zj,I m.Hash.Zk,I m.Hash.Zm,I m.Hash.Zl,L 2 (m.Hash.Steps.map Zg.c),I m.Merge.Fixed,I m.Merge.Zj,I m.Merge.Zk,I m.Merge.Zm,I m.Merge.Zl,L 2 (m.Merge.Steps.map Zg.c),I m.Nested.Fixed,I m.Nested.Zj,I m.Nested.Zk,I m.Nested.Zm,I m.Nested.Zl,L 2 (m.Nested.Steps.map Zg.c),I q.Ze,L 2 (q.Atoms.map Atom.c),L 1 (sizes.map ic),I mask,I mask,I a,I v1_0,L 3 (x.map Zb.c),I list1.Mask,I list1.Order,I list1.Cost,L 3 (list1.Plan.Steps.map Zb.c),I list2.Mask,I list2.Order,I list2.Cost,L 3 (list2.Plan.Steps.map Zb.c),I list3.Mask,I list3.Order,I list3.Cost,L 3 (list3.Plan.Steps.map Zb.c),I list4.Mask,I list4.Order,I list4.Cost,L 3 (list4.Plan.Steps.map Zb.c),Bo true,Bo some1,Bo some2,Bo some3,Bo some4],.dead])=some r) else (some (.tup [],[boxO m q sizes mask list0 list1 list2 list3 list4 some0 some1 some2 some3 some4,.arr 142 3 true (x.map Zb.c)])=some r)) else (some (.tup [],[.box [I m.Scan.Fixed,I m.Scan.Zj,I m.Scan.Zk,I m.Scan.Zm,I m.Scan.Zl,L 2 (m.Scan.Steps.map Zg.c),I m.Sort_.Fixed,I m.Sort_.Zj,I m.Sort_.Zk,I m.Sort_.Zm,I m.Sort_.Zl,L 2 (m.Sort_.Steps.map Zg.c),I m.Hash.Fixed,I m.Hash.Zj,I m.Hash.Zk,I m.Hash.Zm,I m.Hash.Zl,L 2 (m.Hash.Steps.map Zg.c),I m.Merge.Fixed,I m.Merge.Zj,I m.Merge.Zk,I m.Merge.Zm,I m.Merge.Zl,L 2 (m.Merge.Steps.map Zg.c),I m.Nested.Fixed,I m.Nested.Zj,I m.Nested.Zk,I m.Nested.Zm,I m.Nested.Zl,L 2 (m.Nested.Steps.map Zg.c),I q.Ze,L 2 (q.Atoms.map Atom.c),L 1 (sizes.map ic),I mask,I mask,I a,I v1_0,L 3 (x.map Zb.c),I list1.Mask,I list1.Order,I list1.Cost,L 3 (list1.Plan.Steps.map Zb.c),I list2.Mask,I list2.Order,I list2.Cost,L 3 (list2.Plan.Steps.map Zb.c),I list3.Mask,I list3.Order,I list3.Cost,L 3 (list3.Plan.Steps.map Zb.c),I list4.Mask,I list4.Order,I list4.Cost,L 3 (list4.Plan.Steps.map Zb.c),Bo true,Bo some1,Bo some2,Bo some3,Bo some4],.dead])=some r)) else (if (w (a+1))=1 then (if some1=true then (if v1_0<list1.Cost then (some (.tup [],[.box [I m.Scan.Fixed,I m.Scan.Zj,I m.Scan.Zk,I m.Scan.Zm,I m.Scan.Zl,L 2 (m.Scan.Steps.map Zg.c),I m.Sort_.Fixed,I m.Sort_.Zj,I m.Sort_.Zk,I m.Sort_.Zm,I m.Sort_.Zl,L 2 (m.Sort_.Steps.map Zg.c),I m.Hash.Fixed,I m.Hash.Zj,I m.Hash.Zk,I m.Hash.Zm,I m.Hash.Zl,L 2 (m.Hash.Steps.map Zg.c),I m.Merge.Fixed,I m.Merge.Zj,I m.Merge.Zk,I m.Merge.Zm,I m.Merge.Zl,L 2 (m.Merge.Steps.map Zg.c),I m.Nested.Fixed,I m.Nested.Zj,I m.Nested.Zk,I m.Nested.Zm,I m.Nested.Zl,L 2 (m.Nested.Steps.map Zg.c),I q.Ze,L 2 (q.Atoms.map Atom.c),L 1 (sizes.map ic),I mask,I list0.Mask,I list0.Order,I list0.Cost,L 3 (list0.Plan.Steps.map Zb.c),I mask,I a,I v1_0,L 3 (x.map Zb.c),I list2.Mask,I list2.Order,I list2.Cost,L 3 (list2.Plan.Steps.map Zb.c),I list3.Mask,I list3.Order,I list3.Cost,L 3 (list3.Plan.Steps.map Zb.c),I list4.Mask,I list4.Order,I list4.Cost,L 3 (list4.Plan.Steps.map Zb.c),Bo some0,Bo true,Bo some2,Bo some3,Bo some4],.dead])=some r) else (some (.tup [],[boxO m q sizes mask list0 list1 list2 list3 list4 some0 some1 some2 some3 some4,.arr 142 3 true (x.map Zb.c)])=some r)) else (some (.tup [],[.box [I m.Scan.Fixed,I m.Scan.Zj,I m.Scan.Zk,I m.Scan.Zm,I m.Scan.Zl,L 2 (m.Scan.Steps.map Zg.c),I m.Sort_.Fixed,I m.Sort_.Zj,I m.Sort_.Zk,I m.Sort_.Zm,I m.Sort_.Zl,L 2 (m.Sort_.Steps.map Zg.c),I m.Hash.Fixed,I m.Hash.Zj,I m.Hash.Zk,I m.Hash.Zm,I m.Hash.Zl,L 2 (m.Hash.Steps.map Zg.c),I m.Merge.Fixed,I m.Merge.Zj,I m.Merge.Zk,I m.Merge.Zm,I m.Merge.Zl,L 2 (m.Merge.Steps.map Zg.c),I m.Nested.Fixed,I m.Nested.Zj,I m.Nested.Zk,I m.Nested.Zm,I m.Nested.Zl,L 2 (m.Nested.Steps.map Zg.c),I q.Ze,L 2 (q.Atoms.map Atom.c),L 1 (sizes.map ic),I mask,I list0.Mask,I list0.Order,I list0.Cost,L 3 (list0.Plan.Steps.map Zb.c),I mask,I a,I v1_0,L 3 (x.map Zb.c),I list2.Mask,I list2.Order,I list2.Cost,L 3 (list2.Plan.Steps.map Zb.c),I list3.Mask,I list3.Order,I list3.Cost,L 3 (list3.Plan.Steps.map Zb.c),I list4.Mask,I list4.Order,I list4.Cost,L 3 (list4.Plan.Steps.map Zb.c),Bo some0,Bo true,Bo some2,Bo some3,Bo some4],.dead])=some r)) else (if (w (a+1))=2 then (if some2=true then (if v1_0<list2.Cost then (some (.tup [],[.box [I m.Scan.Fixed,I m.Scan.Zj,I m.Scan.Zk,I m.Scan.Zm,I m.Scan.Zl,L 2 (m.Scan.Steps.map Zg.c),I m.Sort_.Fixed,I m.Sort_.Zj,I m.Sort_.Zk,I m.Sort_.Zm,I m.Sort_.Zl,L 2 (m.Sort_.Steps.map Zg.c),I m.Hash.Fixed,I m.Hash.Zj,I m.Hash.Zk,I m.Hash.Zm,I m.Hash.Zl,L 2 (m.Hash.Steps.map Zg.c),I m.Merge.Fixed,I m.Merge.Zj,I m.Merge.Zk,I m.Merge.Zm,I m.Merge.Zl,L 2 (m.Merge.Steps.map Zg.c),I m.Nested.Fixed,I m.Nested.Zj,I m.Nested.Zk,I m.Nested.Zm,I m.Nested.Zl,L 2 (m.Nested.Steps.map Zg.c),I q.Ze,L 2 (q.Atoms.map Atom.c),L 1 (sizes.map ic),I mask,I list0.Mask,I list0.Order,I list0.Cost,L 3 (list0.Plan.Steps.map Zb.c),I list1.Mask,I list1.Order,I list1.Cost,L 3 (list1.Plan.Steps.map Zb.c),I mask,I a,I v1_0,L 3 (x.map Zb.c),I list3.Mask,I list3.Order,I list3.Cost,L 3 (list3.Plan.Steps.map Zb.c),I list4.Mask,I list4.Order,I list4.Cost,L 3 (list4.Plan.Steps.map Zb.c),Bo some0,Bo some1,Bo true,Bo some3,Bo some4],.dead])=some r) else (some (.tup [],[boxO m q sizes mask list0 list1 list2 list3 list4 some0 some1 some2 some3 some4,.arr 142 3 true (x.map Zb.c)])=some r)) else (some (.tup [],[.box [I m.Scan.Fixed,I m.Scan.Zj,I m.Scan.Zk,I m.Scan.Zm,I m.Scan.Zl,L 2 (m.Scan.Steps.map Zg.c),I m.Sort_.Fixed,I m.Sort_.Zj,I m.Sort_.Zk,I m.Sort_.Zm,I m.Sort_.Zl,L 2 (m.Sort_.Steps.map Zg.c),I m.Hash.Fixed,I m.Hash.Zj,I m.Hash.Zk,I m.Hash.Zm,I m.Hash.Zl,L 2 (m.Hash.Steps.map Zg.c),I m.Merge.Fixed,I m.Merge.Zj,I m.Merge.Zk,I m.Merge.Zm,I m.Merge.Zl,L 2 (m.Merge.Steps.map Zg.c),I m.Nested.Fixed,I m.Nested.Zj,I m.Nested.Zk,I m.Nested.Zm,I m.Nested.Zl,L 2 (m.Nested.Steps.map Zg.c),I q.Ze,L 2 (q.Atoms.map Atom.c),L 1 (sizes.map ic),I mask,I list0.Mask,I list0.Order,I list0.Cost,L 3 (list0.Plan.Steps.map Zb.c),I list1.Mask,I list1.Order,I list1.Cost,L 3 (list1.Plan.Steps.map Zb.c),I mask,I a,I v1_0,L 3 (x.map Zb.c),I list3.Mask,I list3.Order,I list3.Cost,L 3 (list3.Plan.Steps.map Zb.c),I list4.Mask,I list4.Order,I list4.Cost,L 3 (list4.Plan.Steps.map Zb.c),Bo some0,Bo some1,Bo true,Bo some3,Bo some4],.dead])=some r)) else (if (w (a+1))=3 then (if some3=true then (if v1_0<list3.Cost then (some (.tup [],[.box [I m.Scan.Fixed,I m.Scan.Zj,I m.Scan.Zk,I m.Scan.Zm,I m.Scan.Zl,L 2 (m.Scan.Steps.map Zg.c),I m.Sort_.Fixed,I m.Sort_.Zj,I m.Sort_.Zk,I m.Sort_.Zm,I m.Sort_.Zl,L 2 (m.Sort_.Steps.map Zg.c),I m.Hash.Fixed,I m.Hash.Zj,I m.Hash.Zk,I m.Hash.Zm,I m.Hash.Zl,L 2 (m.Hash.Steps.map Zg.c),I m.Merge.Fixed,I m.Merge.Zj,I m.Merge.Zk,I m.Merge.Zm,I m.Merge.Zl,L 2 (m.Merge.Steps.map Zg.c),I m.Nested.Fixed,I m.Nested.Zj,I m.Nested.Zk,I m.Nested.Zm,I m.Nested.Zl,L 2 (m.Nested.Steps.map Zg.c),I q.Ze,L 2 (q.Atoms.map Atom.c),L 1 (sizes.map ic),I mask,I list0.Mask,I list0.Order,I list0.Cost,L 3 (list0.Plan.Steps.map Zb.c),I list1.Mask,I list1.Order,I list1.Cost,L 3 (list1.Plan.Steps.map Zb.c),I list2.Mask,I list2.Order,I list2.Cost,L 3 (list2.Plan.Steps.map Zb.c),I mask,I a,I v1_0,L 3 (x.map Zb.c),I list4.Mask,I list4.Order,I list4.Cost,L 3 (list4.Plan.Steps.map Zb.c),Bo some0,Bo some1,Bo some2,Bo true,Bo some4],.dead])=some r) else (some (.tup [],[boxO m q sizes mask list0 list1 list2 list3 list4 some0 some1 some2 some3 some4,.arr 142 3 true (x.map Zb.c)])=some r)) else (some (.tup [],[.box [I m.Scan.Fixed,I m.Scan.Zj,I m.Scan.Zk,I m.Scan.Zm,I m.Scan.Zl,L 2 (m.Scan.Steps.map Zg.c),I m.Sort_.Fixed,I m.Sort_.Zj,I m.Sort_.Zk,I m.Sort_.Zm,I m.Sort_.Zl,L 2 (m.Sort_.Steps.map Zg.c),I m.Hash.Fixed,I m.Hash.Zj,I m.Hash.Zk,I m.Hash.Zm,I m.Hash.Zl,L 2 (m.Hash.Steps.map Zg.c),I m.Merge.Fixed,I m.Merge.Zj,I m.Merge.Zk,I m.Merge.Zm,I m.Merge.Zl,L 2 (m.Merge.Steps.map Zg.c),I m.Nested.Fixed,I m.Nested.Zj,I m.Nested.Zk,I m.Nested.Zm,I m.Nested.Zl,L 2 (m.Nested.Steps.map Zg.c),I q.Ze,L 2 (q.Atoms.map Atom.c),L 1 (sizes.map ic),I mask,I list0.Mask,I list0.Order,I list0.Cost,L 3 (list0.Plan.Steps.map Zb.c),I list1.Mask,I list1.Order,I list1.Cost,L 3 (list1.Plan.Steps.map Zb.c),I list2.Mask,I list2.Order,I list2.Cost,L 3 (list2.Plan.Steps.map Zb.c),I mask,I a,I v1_0,L 3 (x.map Zb.c),I list4.Mask,I list4.Order,I list4.Cost,L 3 (list4.Plan.Steps.map Zb.c),Bo some0,Bo some1,Bo some2,Bo true,Bo some4],.dead])=some r)) else (if (w (a+1))=4 then (if some4=true then (if v1_0<list4.Cost then (some (.tup [],[.box [I m.Scan.Fixed,I m.Scan.Zj,I m.Scan.Zk,I m.Scan.Zm,I m.Scan.Zl,L 2 (m.Scan.Steps.map Zg.c),I m.Sort_.Fixed,I m.Sort_.Zj,I m.Sort_.Zk,I m.Sort_.Zm,I m.Sort_.Zl,L 2 (m.Sort_.Steps.map Zg.c),I m.Hash.Fixed,I m.Hash.Zj,I m.Hash.Zk,I m.Hash.Zm,I m.Hash.Zl,L 2 (m.Hash.Steps.map Zg.c),I m.Merge.Fixed,I m.Merge.Zj,I m.Merge.Zk,I m.Merge.Zm,I m.Merge.Zl,L 2 (m.Merge.Steps.map Zg.c),I m.Nested.Fixed,I m.Nested.Zj,I m.Nested.Zk,I m.Nested.Zm,I m.Nested.Zl,L 2 (m.Nested.Steps.map Zg.c),I q.Ze,L 2 (q.Atoms.map Atom.c),L 1 (sizes.map ic),I mask,I list0.Mask,I list0.Order,I list0.Cost,L 3 (list0.Plan.Steps.map Zb.c),I list1.Mask,I list1.Order,I list1.Cost,L 3 (list1.Plan.Steps.map Zb.c),I list2.Mask,I list2.Order,I list2.Cost,L 3 (list2.Plan.Steps.map Zb.c),I list3.Mask,I list3.Order,I list3.Cost,L 3 (list3.Plan.Steps.map Zb.c),I mask,I a,I v1_0,L 3 (x.map Zb.c),Bo some0,Bo some1,Bo some2,Bo some3,Bo true],.dead])=some r) else (some (.tup [],[boxO m q sizes mask list0 list1 list2 list3 list4 some0 some1 some2 some3 some4,.arr 142 3 true (x.map Zb.c)])=some r)) else (some (.tup [],[.box [I m.Scan.Fixed,I m.Scan.Zj,I m.Scan.Zk,I m.Scan.Zm,I m.Scan.Zl,L 2 (m.Scan.Steps.map Zg.c),I m.Sort_.Fixed,I m.Sort_.Zj,I m.Sort_.Zk,I m.Sort_.Zm,I m.Sort_.Zl,L 2 (m.Sort_.Steps.map Zg.c),I m.Hash.Fixed,I m.Hash.Zj,I m.Hash.Zk,I m.Hash.Zm,I m.Hash.Zl,L 2 (m.Hash.Steps.map Zg.c),I m.Merge.Fixed,I m.Merge.Zj,I m.Merge.Zk,I m.Merge.Zm,I m.Merge.Zl,L 2 (m.Merge.Steps.map Zg.c),I m.Nested.Fixed,I m.Nested.Zj,I m.Nested.Zk,I m.Nested.Zm,I m.Nested.Zl,L 2 (m.Nested.Steps.map Zg.c),I q.Ze,L 2 (q.Atoms.map Atom.c),L 1 (sizes.map ic),I mask,I list0.Mask,I list0.Order,I list0.Cost,L 3 (list0.Plan.Steps.map Zb.c),I list1.Mask,I list1.Order,I list1.Cost,L 3 (list1.Plan.Steps.map Zb.c),I list2.Mask,I list2.Order,I list2.Cost,L 3 (list2.Plan.Steps.map Zb.c),I list3.Mask,I list3.Order,I list3.Cost,L 3 (list3.Plan.Steps.map Zb.c),I mask,I a,I v1_0,L 3 (x.map Zb.c),Bo some0,Bo some1,Bo some2,Bo some3,Bo true],.dead])=some r)) else False))))))):Zbq m q sizes mask list0 list1 list2 list3 list4 some0 some1 some2 some3 some4 x a=some r:=by
 unfold Zbq
 refine runM Zba7 rfl ?_
 obtain ⟨v1_0,q1,h⟩:=h
 unfold Zfg at q1
 try simp at q1
 by_cases q2:(w (a+1))=0
 ·rw [if_pos q2] at h
  by_cases q3:some0=true
  ·rw [if_pos q3] at h
   by_cases q4:v1_0<list0.Cost
   ·rw [if_pos q4] at h
    refine Eq.trans ?_ h
    clear h
    simp +decide [*,Zce]
   ·rw [if_neg q4] at h
    refine Eq.trans ?_ h
    clear h
    simp +decide [*,Zce]
  ·rw [if_neg q3] at h
   refine Eq.trans ?_ h
   clear h
   simp +decide [*,Zce]
 ·rw [if_neg q2] at h
  replace q2:=eq_false q2
  by_cases q5:(w (a+1))=1
  ·rw [if_pos q5] at h
   by_cases q6:some1=true
   ·rw [if_pos q6] at h
    by_cases q7:v1_0<list1.Cost
    ·rw [if_pos q7] at h
     refine Eq.trans ?_ h
     clear h
     simp +decide [*,Zce]
    ·rw [if_neg q7] at h
     refine Eq.trans ?_ h
     clear h
     simp +decide [*,Zce]
   ·rw [if_neg q6] at h
    refine Eq.trans ?_ h
    clear h
    simp +decide [*,Zce]
  ·rw [if_neg q5] at h
   replace q5:=eq_false q5
   by_cases q8:(w (a+1))=2
   ·rw [if_pos q8] at h
    by_cases q9:some2=true
    ·rw [if_pos q9] at h
     by_cases q10:v1_0<list2.Cost
     ·rw [if_pos q10] at h
      refine Eq.trans ?_ h
      clear h
      simp +decide [*,Zce]
     ·rw [if_neg q10] at h
      refine Eq.trans ?_ h
      clear h
      simp +decide [*,Zce]
    ·rw [if_neg q9] at h
     refine Eq.trans ?_ h
     clear h
     simp +decide [*,Zce]
   ·rw [if_neg q8] at h
    replace q8:=eq_false q8
    by_cases q11:(w (a+1))=3
    ·rw [if_pos q11] at h
     by_cases q12:some3=true
     ·rw [if_pos q12] at h
      by_cases q13:v1_0<list3.Cost
      ·rw [if_pos q13] at h
       refine Eq.trans ?_ h
       clear h
       simp +decide [*,Zce]
      ·rw [if_neg q13] at h
       refine Eq.trans ?_ h
       clear h
       simp +decide [*,Zce]
     ·rw [if_neg q12] at h
      refine Eq.trans ?_ h
      clear h
      simp +decide [*,Zce]
    ·rw [if_neg q11] at h
     replace q11:=eq_false q11
     by_cases q14:(w (a+1))=4
     ·rw [if_pos q14] at h
      by_cases q15:some4=true
      ·rw [if_pos q15] at h
       by_cases q16:v1_0<list4.Cost
       ·rw [if_pos q16] at h
        refine Eq.trans ?_ h
        clear h
        simp +decide [*,Zce]
       ·rw [if_neg q16] at h
        refine Eq.trans ?_ h
        clear h
        simp +decide [*,Zce]
      ·rw [if_neg q15] at h
       refine Eq.trans ?_ h
       clear h
       simp +decide [*,Zce]
     ·rw [if_neg q14] at h
      replace q14:=eq_false q14
      cases h
theorem Z2m (q:Zc) (out:List Int) (mask:Int) (x:Int) (r:AV×List Blk) (h:(if x<mask then (if (andI x mask)=x then (∃ (v1_0:Bool),Zei q x=some (Bo v1_0,[])∧(if v1_0=true then (∃ (v2_0:Bool),Zei q (andNotI mask x)=some (Bo v2_0,[])∧(if v2_0=true then (out.length+1≤68719476736∧(Zdx q (out++[x]) mask (w (x+1))=some r)) else (Zdx q out mask (w (x+1))=some r))) else (Zdx q out mask (w (x+1))=some r))) else (Zdx q out mask (w (x+1))=some r)) else (some (.own 0,[.arr 3 1 true (out.map ic)])=some r))):Zdx q out mask x=some r:=by
 unfold Zdx
 rw [EvL_eq Zr0.eq_1]
 simp only [Zei,Zc.c_def,mpl,dfs] at h
 try simp only [itb] at h
 try simp only [itf,gS,kk] at h
 rcases h with ⟨q1,(⟨q2,v1_0,q3,(⟨q4,v2_0,q5,(⟨q6,q7,h⟩ | ⟨q6,h⟩)⟩ | ⟨q4,h⟩)⟩ | ⟨q2,h⟩)⟩ | ⟨q1,h⟩
 all_goals (refine Eq.trans ?_ h;clear h;simp +decide [*,kk,Zdx,Zyt,Zr1])
theorem Zbet (a:Zc) (a1:Int) (r:AV×List Blk) (h:(∃ (v1_0:Bool),Zhx a a1=some (Bo v1_0,[])∧(if v1_0=true then (Zdx a ([]:List Int) a1 1=some r) else (some (.t .nil,[])=some r)))):Zdh a a1=some r:=by
 unfold Zdh
 refine run Zba8 rfl ?_
 simp only [Zhx,Zc.c_def,mpl,dfs] at h
 try simp only [itb] at h
 try simp only [itf,gS,kk] at h
 rcases h with ⟨v1_0,q1,(⟨q2,h⟩ | ⟨q2,h⟩)⟩
 all_goals (refine Eq.trans ?_ h;clear h;simp +decide [*,kk,Zyu,Zdx])
theorem Z2n (Mask:Int) (Order:Int) (Cost:Int) (best:Za) (x:List Za) (x1:Int) (x2:Int) (r:AV×List Blk) (h:(if x2<x1 then (0≤x2∧(∃ (e1:Za),x[x2.toNat]?=some e1∧(if e1.Cost<best.Cost then (Zgf Mask Order Cost e1 x x1 (w (x2+1))=some r) else (Zgf Mask Order Cost best x x1 (w (x2+1))=some r)))) else (some (.agg (best.c.map .t),[])=some r))):Zgf Mask Order Cost best x x1 x2=some r:=by
 unfold Zgf
 rw [EvL_eq Zlb.eq_1]
 try simp only [itb] at h
 try simp only [itf,gS,kk] at h
 rcases h with ⟨q1,q2,e1,⟨g3,q3⟩,(⟨q4,h⟩ | ⟨q4,h⟩)⟩ | ⟨q1,h⟩
 all_goals (refine Eq.trans ?_ h;clear h;simp +decide [*,kk,Zgf,Zr2,Zlc])
theorem Zbeu (a:List Za) (r:AV×List Blk) (h:(∃ (e1:Za),a[0]?=some e1∧(Zgf 0 0 0 e1 a (a.length:Int) 0=some r))):Zge a=some r:=by
 unfold Zge
 refine run Z1q rfl ?_
 try simp only [itb] at h
 try simp only [itf,gS,kk] at h
 rcases h with ⟨e1,⟨g1,q1⟩,h⟩
 all_goals (refine Eq.trans ?_ h;clear h;simp +decide [*,kk,Zr3,Zgf])
theorem Z2o (a:Plan) (r:AV×List Blk) (h:(a.Steps.length≤68719476736∧(some (.agg [.own 0],[.arr 142 3 true (a.Steps.map Zb.c)])=some r))):Zcy a=some r:=by
 unfold Zcy
 refine run Zba9 rfl ?_
 rcases h with ⟨q1,h⟩
 all_goals (refine Eq.trans ?_ h;clear h;simp +decide [*,kk,Zyv])
theorem Zbev (a:Plan) (a1:Plan) (a2:Int) (a3:Int) (r:AV×List Blk) (h:(∃ (v1_0:List Zb),Zcy a=some (.agg [.own 0],[.arr 142 3 true (v1_0.map Zb.c)])∧(v1_0.length+a1.Steps.length≤68719476736∧(v1_0.length+a1.Steps.length+1≤68719476736∧(some (.agg [.own 0],[.arr 142 3 true (((v1_0++a1.Steps)++[(⟨a2,0,a3⟩:Zb)]).map Zb.c)])=some r))))):Zdi a a1 a2 a3=some r:=by
 unfold Zdi
 refine run Zbba rfl ?_
 simp only [Zcy,Plan.c_def,mpl,dfs] at h
 rcases h with ⟨v1_0,q1,q2,q3,h⟩
 all_goals (refine Eq.trans ?_ h;clear h;simp +decide [*,kk,Zyw])
theorem Zd8 (m:Zd) (q:Zc) (sizes:List Int) (mask:Int) (list0:Za) (list1:Za) (list2:Za) (list3:Za) (list4:Za) (some0:Bool) (some1:Bool) (some2:Bool) (some3:Bool) (some4:Bool) (fr:Bool) (out:List Za) (x0:Bool) (x1:Bool) (x2:Bool) (x3:Bool) (x4:Bool) (x:Int) (r:AV×List Blk) (h:(if x<5 then (if x=0 then (if x0=true then (out.length+1≤68719476736∧(Zbb m q sizes mask list0 list1 list2 list3 list4 some0 some1 some2 some3 some4 false (out++[list0]) true x1 x2 x3 x4 (w (x+1))=some r)) else (Zbb m q sizes mask list0 list1 list2 list3 list4 some0 some1 some2 some3 some4 fr out false x1 x2 x3 x4 (w (x+1))=some r)) else (if x=1 then (if x1=true then (out.length+1≤68719476736∧(Zbb m q sizes mask list0 list1 list2 list3 list4 some0 some1 some2 some3 some4 false (out++[list1]) x0 true x2 x3 x4 (w (x+1))=some r)) else (Zbb m q sizes mask list0 list1 list2 list3 list4 some0 some1 some2 some3 some4 fr out x0 false x2 x3 x4 (w (x+1))=some r)) else (if x=2 then (if x2=true then (out.length+1≤68719476736∧(Zbb m q sizes mask list0 list1 list2 list3 list4 some0 some1 some2 some3 some4 false (out++[list2]) x0 x1 true x3 x4 (w (x+1))=some r)) else (Zbb m q sizes mask list0 list1 list2 list3 list4 some0 some1 some2 some3 some4 fr out x0 x1 false x3 x4 (w (x+1))=some r)) else (if x=3 then (if x3=true then (out.length+1≤68719476736∧(Zbb m q sizes mask list0 list1 list2 list3 list4 some0 some1 some2 some3 some4 false (out++[list3]) x0 x1 x2 true x4 (w (x+1))=some r)) else (Zbb m q sizes mask list0 list1 list2 list3 list4 some0 some1 some2 some3 some4 fr out x0 x1 x2 false x4 (w (x+1))=some r)) else (if x=4 then (if x4=true then (out.length+1≤68719476736∧(Zbb m q sizes mask list0 list1 list2 list3 list4 some0 some1 some2 some3 some4 false (out++[list4]) x0 x1 x2 x3 true (w (x+1))=some r)) else (Zbb m q sizes mask list0 list1 list2 list3 list4 some0 some1 some2 some3 some4 fr out x0 x1 x2 x3 false (w (x+1))=some r)) else False))))) else (some (.own 1,[boxO m q sizes mask list0 list1 list2 list3 list4 some0 some1 some2 some3 some4,.arr 174 4 fr (out.map Za.c)])=some r))):Zbb m q sizes mask list0 list1 list2 list3 list4 some0 some1 some2 some3 some4 fr out x0 x1 x2 x3 x4 x=some r:=by
 unfold Zbb
 rw [EvL_eq Zr4.eq_1]
 by_cases q1:x<5
 ·rw [if_pos q1] at h
  by_cases q2:x=0
  ·rw [if_pos q2] at h
   subst q2
   by_cases q3:x0=true
   ·rw [if_pos q3] at h
    obtain ⟨q4,h⟩:=h
    have rq4:=roomA (b:=48) q4 (by omega)
    have sq4:=roomB q4
    try simp [*] at rq4
    try simp [*] at sq4
    refine Eq.trans ?_ h
    clear h
    simp +decide [*,Zbb,Zdy]
   ·rw [if_neg q3] at h
    refine Eq.trans ?_ h
    clear h
    simp +decide [*,Zbb,Zdy]
  ·rw [if_neg q2] at h
   replace q2:=eq_false q2
   by_cases q5:x=1
   ·rw [if_pos q5] at h
    subst q5
    by_cases q6:x1=true
    ·rw [if_pos q6] at h
     obtain ⟨q7,h⟩:=h
     have rq7:=roomA (b:=48) q7 (by omega)
     have sq7:=roomB q7
     try simp [*] at rq7
     try simp [*] at sq7
     refine Eq.trans ?_ h
     clear h
     simp +decide [*,Zbb,Zdy]
    ·rw [if_neg q6] at h
     refine Eq.trans ?_ h
     clear h
     simp +decide [*,Zbb,Zdy]
   ·rw [if_neg q5] at h
    replace q5:=eq_false q5
    by_cases q8:x=2
    ·rw [if_pos q8] at h
     subst q8
     by_cases q9:x2=true
     ·rw [if_pos q9] at h
      obtain ⟨q10,h⟩:=h
      have rq10:=roomA (b:=48) q10 (by omega)
      have sq10:=roomB q10
      try simp [*] at rq10
      try simp [*] at sq10
      refine Eq.trans ?_ h
      clear h
      simp +decide [*,Zbb,Zdy]
     ·rw [if_neg q9] at h
      refine Eq.trans ?_ h
      clear h
      simp +decide [*,Zbb,Zdy]
    ·rw [if_neg q8] at h
     replace q8:=eq_false q8
     by_cases q11:x=3
     ·rw [if_pos q11] at h
      subst q11
      by_cases q12:x3=true
      ·rw [if_pos q12] at h
       obtain ⟨q13,h⟩:=h
       have rq13:=roomA (b:=48) q13 (by omega)
       have sq13:=roomB q13
       try simp [*] at rq13
       try simp [*] at sq13
       refine Eq.trans ?_ h
       clear h
       simp +decide [*,Zbb,Zdy]
      ·rw [if_neg q12] at h
       refine Eq.trans ?_ h
       clear h
       simp +decide [*,Zbb,Zdy]
     ·rw [if_neg q11] at h
      replace q11:=eq_false q11
      by_cases q14:x=4
      ·rw [if_pos q14] at h
       subst q14
       by_cases q15:x4=true
       ·rw [if_pos q15] at h
        obtain ⟨q16,h⟩:=h
        have rq16:=roomA (b:=48) q16 (by omega)
        have sq16:=roomB q16
        try simp [*] at rq16
        try simp [*] at sq16
        refine Eq.trans ?_ h
        clear h
        simp +decide [*,Zbb,Zdy]
       ·rw [if_neg q15] at h
        refine Eq.trans ?_ h
        clear h
        simp +decide [*,Zbb,Zdy]
      ·rw [if_neg q14] at h
       replace q14:=eq_false q14
       cases h
 ·rw [if_neg q1] at h
  refine Eq.trans ?_ h
  clear h
  simp +decide [*,Zr5]
theorem Zbew (m:Zd) (q:Zc) (sizes:List Int) (mask:Int) (list0:Za) (list1:Za) (list2:Za) (list3:Za) (list4:Za) (some0:Bool) (some1:Bool) (some2:Bool) (some3:Bool) (some4:Bool) (r:AV×List Blk) (h:(Zbb m q sizes mask list0 list1 list2 list3 list4 some0 some1 some2 some3 some4 true ([]:List Za) some0 some1 some2 some3 some4 0=some r)):Zld m q sizes mask list0 list1 list2 list3 list4 some0 some1 some2 some3 some4=some r:=by
 unfold Zld
 refine runM Zbbb rfl ?_
 refine Eq.trans ?_ h;clear h;simp +decide [*,kk,Zyx,Zbb]
theorem Zbex (a:Zc) (a1:Int) (r:AV×List Blk) (h:(∃ (v1_0:Bool),Zhv a a1=some (Bo v1_0,[])∧(if v1_0=true then (∃ (v2_0:List Int),Zdu a a1=some (.own 0,[.arr 3 1 true (v2_0.map ic)])∧(some (.own 0,[.arr 3 1 true (v2_0.map ic)])=some r)) else (some (.t .nil,[])=some r)))):Zel a a1=some r:=by
 unfold Zel
 refine run Zbbc rfl ?_
 simp only [Zhv,Zdu,Zc.c_def,mpl,dfs] at h
 try simp only [itb] at h
 try simp only [itf,gS,kk] at h
 rcases h with ⟨v1_0,q1,(⟨q2,v2_0,q3,h⟩ | ⟨q2,h⟩)⟩
 all_goals (refine Eq.trans ?_ h;clear h;simp +decide [*,kk,Zyy])
theorem Zbey (a:Zc) (a1:Int) (a2:Int) (r:AV×List Blk) (h:((∃ (v1_0:List Int),Zel a a1=some (.own 0,[.arr 3 1 true (v1_0.map ic)])∧((∃ (v2_0:List Int),Zel a a2=some (.own 0,[.arr 3 1 true (v2_0.map ic)])∧(∃ (v3_0:List Int),Ze2 v1_0 v2_0=some (.own 0,[.arr 3 1 true (v3_0.map ic)])∧(some (.own 0,[.arr 3 1 true (v3_0.map ic)])=some r)))∨(Zel a a2=some (.t .nil,[])∧(∃ (v5_0:List Int),Zyz v1_0=some (.own 0,[.arr 3 1 true (v5_0.map ic)])∧(some (.own 0,[.arr 3 1 true (v5_0.map ic)])=some r)))))∨(Zel a a1=some (.t .nil,[])∧((∃ (v7_0:List Int),Zel a a2=some (.own 0,[.arr 3 1 true (v7_0.map ic)])∧(∃ (v8_0:List Int),Zy0 v7_0=some (.own 0,[.arr 3 1 true (v8_0.map ic)])∧(some (.own 0,[.arr 3 1 true (v8_0.map ic)])=some r)))∨(Zel a a2=some (.t .nil,[])∧(∃ (v10_0:List Int),Zy1=some (.own 0,[.arr 3 1 true (v10_0.map ic)])∧(some (.own 0,[.arr 3 1 true (v10_0.map ic)])=some r))))))):Zh5 a a1 a2=some r:=by
 unfold Zh5
 refine run Zbbd rfl ?_
 simp only [Zel,Ze2,Zyz,Zy0,Zy1,Zc.c_def,mpl,dfs] at h
 rcases h with ⟨v1_0,q2,(⟨v2_0,q4,v3_0,q5,h⟩ | ⟨q6,v5_0,q7,h⟩)⟩ | ⟨q8,(⟨v7_0,q10,v8_0,q11,h⟩ | ⟨q12,v10_0,q13,h⟩)⟩
 all_goals (refine Eq.trans ?_ h;clear h;simp +decide [*,kk,Zy2])
theorem Zbez (a:Plan) (a1:Int) (r:AV×List Blk) (h:(∃ (v1_0:List Zb),Zcy a=some (.agg [.own 0],[.arr 142 3 true (v1_0.map Zb.c)])∧(v1_0.length+1≤68719476736∧(some (.agg [.own 0],[.arr 142 3 true ((v1_0++[(⟨2,0,a1⟩:Zb)]).map Zb.c)])=some r)))):Zle a a1=some r:=by
 unfold Zle
 refine run Zbbe rfl ?_
 simp only [Zcy,Plan.c_def,mpl,dfs] at h
 rcases h with ⟨v1_0,q1,q2,h⟩
 all_goals (refine Eq.trans ?_ h;clear h;simp +decide [*,kk,Zy3])
theorem Zpe (m:Zd) (q:Zc) (x:List Zb) (sizes:List Int) (v:Int) (x1:List Za) (x2:Int) (x3:Int) (r:AV×List Blk) (h:(if x3<x2 then (0≤x3∧(∃ (e1:Za),x1[x3.toNat]?=some e1∧(if e1.Order=v then (∃ (v2_0:Int),Zfg m q (⟨x⟩:Plan) sizes=some (I v2_0,[])∧(if e1.Cost≤v2_0 then (some (.agg (e1.Plan.c.map .t),[])=some r) else (Zgg m q x sizes v x1 x2 (w (x3+1))=some r))) else (Zgg m q x sizes v x1 x2 (w (x3+1))=some r)))) else (some (.agg [.own 0],[.arr 142 3 true (x.map Zb.c)])=some r))):Zgg m q x sizes v x1 x2 x3=some r:=by
 unfold Zgg
 rw [EvL_eq Zr6.eq_1]
 simp only [Zfg,Zd.c_def,Zi.c_def,Plan.c_def,Zc.c_def,mpl,dfs] at h
 try simp only [itb] at h
 try simp only [itf,gS,kk] at h
 rcases h with ⟨q1,q2,e1,⟨g3,q3⟩,(⟨q4,v2_0,q5,(⟨q6,h⟩ | ⟨q6,h⟩)⟩ | ⟨q4,h⟩)⟩ | ⟨q1,h⟩
 all_goals (refine Eq.trans ?_ h;clear h;simp +decide [*,kk,Zgg,Zr7])
theorem Z2p (a:Zd) (a1:Zc) (a2:List Int) (a3:List Za) (a4:Int) (r:AV×List Blk) (h:(∃ (v1_0:Za),Zge a3=some (.agg (v1_0.c.map .t),[])∧(if v1_0.Order=a4 then (some (.agg (v1_0.Plan.c.map .t),[])=some r) else (∃ (v2_0:List Zb),Zle v1_0.Plan a4=some (.agg [.own 0],[.arr 142 3 true (v2_0.map Zb.c)])∧(Zgg a a1 v2_0 a2 a4 a3 (a3.length:Int) 0=some r))))):Zdj a a1 a2 a3 a4=some r:=by
 unfold Zdj
 refine run Zbbf rfl ?_
 simp only [Zge,Zle,Plan.c_def,Za.c_def,mpl,dfs] at h
 try simp only [itb] at h
 try simp only [itf,gS,kk] at h
 rcases h with ⟨v1_0,q1,(⟨q2,h⟩ | ⟨q2,v2_0,q3,h⟩)⟩
 all_goals (refine Eq.trans ?_ h;clear h;simp +decide [*,kk,Zy4,Zgg])
theorem Z2q (m:Zd) (q:Zc) (fr:Bool) (table:List (List Za)) (fr1:Bool) (out:List Za) (x:List Int) (sizes:List Int) (x1:Int) (x2:Int) (r:AV×List Blk) (h:(if x2<x1 then (0≤x2∧(∃ (e1:Int),x[x2.toNat]?=some e1∧((Zjl e1=some (.t .nil,[])∧((Zdh q e1=some (.t .nil,[])∧(Zlf m q fr table fr1 out m q sizes e1 (⟨0,0,0,(⟨[]⟩:Plan)⟩:Za) (⟨0,0,0,(⟨[]⟩:Plan)⟩:Za) (⟨0,0,0,(⟨[]⟩:Plan)⟩:Za) (⟨0,0,0,(⟨[]⟩:Plan)⟩:Za) (⟨0,0,0,(⟨[]⟩:Plan)⟩:Za) false false false false false x sizes e1 x1 x2 0 0=some r))∨(∃ (v4_0:List Int),Zdh q e1=some (.own 0,[.arr 3 1 true (v4_0.map ic)])∧(Zdk m q fr table fr1 out m q sizes e1 (⟨0,0,0,(⟨[]⟩:Plan)⟩:Za) (⟨0,0,0,(⟨[]⟩:Plan)⟩:Za) (⟨0,0,0,(⟨[]⟩:Plan)⟩:Za) (⟨0,0,0,(⟨[]⟩:Plan)⟩:Za) (⟨0,0,0,(⟨[]⟩:Plan)⟩:Za) false false false false false x v4_0 sizes e1 x1 x2 (v4_0.length:Int) 0=some r))))∨(∃ (v5_0:List Int),Zjl e1=some (.own 0,[.arr 3 1 true (v5_0.map ic)])∧(if (v5_0.length:Int)=1 then (∃ (e6:Int),v5_0[0]?=some e6∧(∃ (v7_0:List Zb),Zla e6=some (.agg [.own 0],[.arr 142 3 true (v7_0.map Zb.c)])∧(0≤e6∧(∃ (e8:Atom),q.Atoms[e6.toNat]?=some e8∧(∃ (e9:Int),e8.Vars[0]?=some e9∧((∃ (v10_0:Zd) (v10_1:Zc) (v10_2:List Int) (v10_3:Int) (v10_4:Za) (v10_5:Za) (v10_6:Za) (v10_7:Za) (v10_8:Za) (v10_9:Bool) (v10_10:Bool) (v10_11:Bool) (v10_12:Bool) (v10_13:Bool),Zbq m q sizes e1 (⟨0,0,0,(⟨[]⟩:Plan)⟩:Za) (⟨0,0,0,(⟨[]⟩:Plan)⟩:Za) (⟨0,0,0,(⟨[]⟩:Plan)⟩:Za) (⟨0,0,0,(⟨[]⟩:Plan)⟩:Za) (⟨0,0,0,(⟨[]⟩:Plan)⟩:Za) false false false false false v7_0 e9=some (.tup [],[boxO v10_0 v10_1 v10_2 v10_3 v10_4 v10_5 v10_6 v10_7 v10_8 v10_9 v10_10 v10_11 v10_12 v10_13,.dead])∧((Zdh q e1=some (.t .nil,[])∧(Zlf m q fr table fr1 out v10_0 v10_1 v10_2 v10_3 v10_4 v10_5 v10_6 v10_7 v10_8 v10_9 v10_10 v10_11 v10_12 v10_13 x sizes e1 x1 x2 0 0=some r))∨(∃ (v12_0:List Int),Zdh q e1=some (.own 0,[.arr 3 1 true (v12_0.map ic)])∧(Zdk m q fr table fr1 out v10_0 v10_1 v10_2 v10_3 v10_4 v10_5 v10_6 v10_7 v10_8 v10_9 v10_10 v10_11 v10_12 v10_13 x v12_0 sizes e1 x1 x2 (v12_0.length:Int) 0=some r))))∨(∃ (v13_0:Zd) (v13_1:Zc) (v13_2:List Int) (v13_3:Int) (v13_4:Za) (v13_5:Za) (v13_6:Za) (v13_7:Za) (v13_8:Za) (v13_9:Bool) (v13_10:Bool) (v13_11:Bool) (v13_12:Bool) (v13_13:Bool) (v13_14:List Zb),Zbq m q sizes e1 (⟨0,0,0,(⟨[]⟩:Plan)⟩:Za) (⟨0,0,0,(⟨[]⟩:Plan)⟩:Za) (⟨0,0,0,(⟨[]⟩:Plan)⟩:Za) (⟨0,0,0,(⟨[]⟩:Plan)⟩:Za) (⟨0,0,0,(⟨[]⟩:Plan)⟩:Za) false false false false false v7_0 e9=some (.tup [],[boxO v13_0 v13_1 v13_2 v13_3 v13_4 v13_5 v13_6 v13_7 v13_8 v13_9 v13_10 v13_11 v13_12 v13_13,.arr 142 3 true (v13_14.map Zb.c)])∧((Zdh q e1=some (.t .nil,[])∧(Zlf m q fr table fr1 out v13_0 v13_1 v13_2 v13_3 v13_4 v13_5 v13_6 v13_7 v13_8 v13_9 v13_10 v13_11 v13_12 v13_13 x sizes e1 x1 x2 0 0=some r))∨(∃ (v15_0:List Int),Zdh q e1=some (.own 0,[.arr 3 1 true (v15_0.map ic)])∧(Zdk m q fr table fr1 out v13_0 v13_1 v13_2 v13_3 v13_4 v13_5 v13_6 v13_7 v13_8 v13_9 v13_10 v13_11 v13_12 v13_13 x v15_0 sizes e1 x1 x2 (v15_0.length:Int) 0=some r)))))))))) else ((Zdh q e1=some (.t .nil,[])∧(Zlf m q fr table fr1 out m q sizes e1 (⟨0,0,0,(⟨[]⟩:Plan)⟩:Za) (⟨0,0,0,(⟨[]⟩:Plan)⟩:Za) (⟨0,0,0,(⟨[]⟩:Plan)⟩:Za) (⟨0,0,0,(⟨[]⟩:Plan)⟩:Za) (⟨0,0,0,(⟨[]⟩:Plan)⟩:Za) false false false false false x sizes e1 x1 x2 0 0=some r))∨(∃ (v17_0:List Int),Zdh q e1=some (.own 0,[.arr 3 1 true (v17_0.map ic)])∧(Zdk m q fr table fr1 out m q sizes e1 (⟨0,0,0,(⟨[]⟩:Plan)⟩:Za) (⟨0,0,0,(⟨[]⟩:Plan)⟩:Za) (⟨0,0,0,(⟨[]⟩:Plan)⟩:Za) (⟨0,0,0,(⟨[]⟩:Plan)⟩:Za) (⟨0,0,0,(⟨[]⟩:Plan)⟩:Za) false false false false false x v17_0 sizes e1 x1 x2 (v17_0.length:Int) 0=some r)))))))) else (Zh8 fr1 out (out.length:Int) 0=some r))):Zfh m q fr table fr1 out x sizes x1 x2=some r:=by
 unfold Zfh
 rw [EvL_eq Zh6.eq_1]
 simp only [Zjl,Zdh,Zla,Zbq,Zd.c_def,Zi.c_def,Plan.c_def,Za.c_def,Zb.c_def,Zc.c_def,mpl,dfs,Zkr] at h
 try simp only [itb] at h
 try simp only [itf,gS,kk] at h
 rcases h with ⟨q1,q2,e1,⟨g3,q3⟩,(⟨q5,(⟨q7,h⟩ | ⟨v4_0,q8,h⟩)⟩ | ⟨v5_0,q9,(⟨q10,e6,⟨g11,q11⟩,v7_0,q12,q13,e8,⟨g14,q14⟩,e9,⟨g15,q15⟩,(⟨v10_0,v10_1,v10_2,v10_3,v10_4,v10_5,v10_6,v10_7,v10_8,v10_9,v10_10,v10_11,v10_12,v10_13,q17,(⟨q19,h⟩ | ⟨v12_0,q20,h⟩)⟩ | ⟨v13_0,v13_1,v13_2,v13_3,v13_4,v13_5,v13_6,v13_7,v13_8,v13_9,v13_10,v13_11,v13_12,v13_13,v13_14,q21,(⟨q23,h⟩ | ⟨v15_0,q24,h⟩)⟩)⟩ | ⟨q10,(⟨q26,h⟩ | ⟨v17_0,q27,h⟩)⟩)⟩)⟩ | ⟨q1,h⟩
 all_goals (refine Eq.trans ?_ h;clear h;simp +decide [*,kk,Zlf,Zy5,Zdk,Zh8,Zh7])
theorem Z2r (m:Zd) (q:Zc) (fr:Bool) (table:List (List Za)) (fr1:Bool) (out:List Za) (m_1:Zd) (q_1:Zc) (sizes:List Int) (mask:Int) (list0:Za) (list1:Za) (list2:Za) (list3:Za) (list4:Za) (some0:Bool) (some1:Bool) (some2:Bool) (some3:Bool) (some4:Bool) (x:List Int) (x1:List Int) (sizes1:List Int) (mask1:Int) (x2:Int) (x3:Int) (x4:Int) (x5:Int) (r:AV×List Blk) (h:(if x5<x4 then (0≤x5∧(∃ (e1:Int),x1[x5.toNat]?=some e1∧(0≤e1∧(∃ (e2:List Za),table[e1.toNat]?=some e2∧(0≤(andNotI mask1 e1)∧(∃ (e3:List Za),table[(andNotI mask1 e1).toNat]?=some e3∧(∃ (v4_0:Za),Zge e3=some (.agg (v4_0.c.map .t),[])∧(∃ (v5_0:Za),Zge e2=some (.agg (v5_0.c.map .t),[])∧(∃ (v6_0:List Zb),Zdi v5_0.Plan v4_0.Plan 3 0=some (.agg [.own 0],[.arr 142 3 true (v6_0.map Zb.c)])∧((∃ (v7_0:Zd) (v7_1:Zc) (v7_2:List Int) (v7_3:Int) (v7_4:Za) (v7_5:Za) (v7_6:Za) (v7_7:Za) (v7_8:Za) (v7_9:Bool) (v7_10:Bool) (v7_11:Bool) (v7_12:Bool) (v7_13:Bool),Zbq m_1 q_1 sizes mask list0 list1 list2 list3 list4 some0 some1 some2 some3 some4 v6_0 (-1)=some (.tup [],[boxO v7_0 v7_1 v7_2 v7_3 v7_4 v7_5 v7_6 v7_7 v7_8 v7_9 v7_10 v7_11 v7_12 v7_13,.dead])∧(Zem m q fr table fr1 out v7_0 v7_1 v7_2 v7_3 v7_4 v7_5 v7_6 v7_7 v7_8 v7_9 v7_10 v7_11 v7_12 v7_13 v4_0.Plan x x1 sizes1 mask1 e1 e2 e3 x2 x3 x4 x5 e2 (e2.length:Int) 0=some r))∨(∃ (v8_0:Zd) (v8_1:Zc) (v8_2:List Int) (v8_3:Int) (v8_4:Za) (v8_5:Za) (v8_6:Za) (v8_7:Za) (v8_8:Za) (v8_9:Bool) (v8_10:Bool) (v8_11:Bool) (v8_12:Bool) (v8_13:Bool) (v8_14:List Zb),Zbq m_1 q_1 sizes mask list0 list1 list2 list3 list4 some0 some1 some2 some3 some4 v6_0 (-1)=some (.tup [],[boxO v8_0 v8_1 v8_2 v8_3 v8_4 v8_5 v8_6 v8_7 v8_8 v8_9 v8_10 v8_11 v8_12 v8_13,.arr 142 3 true (v8_14.map Zb.c)])∧(Zem m q fr table fr1 out v8_0 v8_1 v8_2 v8_3 v8_4 v8_5 v8_6 v8_7 v8_8 v8_9 v8_10 v8_11 v8_12 v8_13 v4_0.Plan x x1 sizes1 mask1 e1 e2 e3 x2 x3 x4 x5 e2 (e2.length:Int) 0=some r)))))))))))) else (∃ (v9_0:Bool) (v9_1:List Za),Zld m_1 q_1 sizes mask list0 list1 list2 list3 list4 some0 some1 some2 some3 some4=some (.own 1,[boxO m_1 q_1 sizes mask list0 list1 list2 list3 list4 some0 some1 some2 some3 some4,.arr 174 4 v9_0 (v9_1.map Za.c)])∧(0≤mask1∧(∃ (e10:List Za),table[mask1.toNat]?=some e10∧(out.length+v9_1.length≤68719476736∧(Zfh m q (fr && v9_0) (table.set mask1.toNat v9_1) (fr1 && flat (v9_1.map Za.c)) (out++v9_1) x sizes1 x2 (w (x3+1))=some r))))))):Zdk m q fr table fr1 out m_1 q_1 sizes mask list0 list1 list2 list3 list4 some0 some1 some2 some3 some4 x x1 sizes1 mask1 x2 x3 x4 x5=some r:=by
 unfold Zdk
 rw [EvL_eq Zjm.eq_1]
 simp only [Zge,Zdi,Zbq,Zld,Zd.c_def,Zi.c_def,Plan.c_def,Za.c_def,Zb.c_def,Zc.c_def,mpl,dfs,Zkr] at h
 try simp only [itb] at h
 try simp only [itf,gS,kk] at h
 rcases h with ⟨q1,q2,e1,⟨g3,q3⟩,q4,e2,⟨g5,q5⟩,q6,e3,⟨g7,q7⟩,v4_0,q8,v5_0,q9,v6_0,q10,(⟨v7_0,v7_1,v7_2,v7_3,v7_4,v7_5,v7_6,v7_7,v7_8,v7_9,v7_10,v7_11,v7_12,v7_13,q12,h⟩ | ⟨v8_0,v8_1,v8_2,v8_3,v8_4,v8_5,v8_6,v8_7,v8_8,v8_9,v8_10,v8_11,v8_12,v8_13,v8_14,q13,h⟩)⟩ | ⟨q1,v9_0,v9_1,q14,q15,e10,⟨g16,q16⟩,q17,h⟩
 all_goals (refine Eq.trans ?_ h;clear h;simp +decide [*,kk,Zem,Zfh,Zjo,Zjn])
theorem Z2s (fr:Bool) (out:List Za) (x:Int) (x1:Int) (r:AV×List Blk) (h:(if x1<x then (0≤x1∧(∃ (e1:Za),out[x1.toNat]?=some e1∧(∃ (v2_0:List Zb),Zcy e1.Plan=some (.agg [.own 0],[.arr 142 3 true (v2_0.map Zb.c)])∧(Zh8 fr (out.set x1.toNat (⟨e1.Mask,e1.Order,e1.Cost,(⟨v2_0⟩:Plan)⟩:Za)) x (w (x1+1))=some r)))) else (some (.own 0,[.arr 174 4 fr (out.map Za.c)])=some r))):Zh8 fr out x x1=some r:=by
 unfold Zh8
 rw [EvL_eq Zsb.eq_1]
 simp only [Zcy,Plan.c_def,mpl,dfs,Zkr] at h
 try simp only [itb] at h
 try simp only [itf,gS,kk] at h
 rcases h with ⟨q1,q2,e1,⟨g3,q3⟩,v2_0,q4,h⟩ | ⟨q1,h⟩
 all_goals (refine Eq.trans ?_ h;clear h;simp +decide [*,kk,Zh8,Zsc])
theorem Z2t (m:Zd) (q:Zc) (fr:Bool) (table:List (List Za)) (fr1:Bool) (out:List Za) (m_1:Zd) (q_1:Zc) (sizes:List Int) (mask:Int) (list0:Za) (list1:Za) (list2:Za) (list3:Za) (list4:Za) (some0:Bool) (some1:Bool) (some2:Bool) (some3:Bool) (some4:Bool) (y:Plan) (x:List Int) (x1:List Int) (sizes1:List Int) (mask1:Int) (x2:Int) (left:List Za) (right:List Za) (x3:Int) (x4:Int) (x5:Int) (x6:Int) (x7:List Za) (x8:Int) (x9:Int) (r:AV×List Blk) (h:(if x9<x8 then (0≤x9∧(∃ (e1:Za),x7[x9.toNat]?=some e1∧(∃ (v2_0:List Zb),Zdi e1.Plan y 5 0=some (.agg [.own 0],[.arr 142 3 true (v2_0.map Zb.c)])∧((∃ (v3_0:Zd) (v3_1:Zc) (v3_2:List Int) (v3_3:Int) (v3_4:Za) (v3_5:Za) (v3_6:Za) (v3_7:Za) (v3_8:Za) (v3_9:Bool) (v3_10:Bool) (v3_11:Bool) (v3_12:Bool) (v3_13:Bool),Zbq m_1 q_1 sizes mask list0 list1 list2 list3 list4 some0 some1 some2 some3 some4 v2_0 e1.Order=some (.tup [],[boxO v3_0 v3_1 v3_2 v3_3 v3_4 v3_5 v3_6 v3_7 v3_8 v3_9 v3_10 v3_11 v3_12 v3_13,.dead])∧(Zem m q fr table fr1 out v3_0 v3_1 v3_2 v3_3 v3_4 v3_5 v3_6 v3_7 v3_8 v3_9 v3_10 v3_11 v3_12 v3_13 y x x1 sizes1 mask1 x2 left right x3 x4 x5 x6 x7 x8 (w (x9+1))=some r))∨(∃ (v4_0:Zd) (v4_1:Zc) (v4_2:List Int) (v4_3:Int) (v4_4:Za) (v4_5:Za) (v4_6:Za) (v4_7:Za) (v4_8:Za) (v4_9:Bool) (v4_10:Bool) (v4_11:Bool) (v4_12:Bool) (v4_13:Bool) (v4_14:List Zb),Zbq m_1 q_1 sizes mask list0 list1 list2 list3 list4 some0 some1 some2 some3 some4 v2_0 e1.Order=some (.tup [],[boxO v4_0 v4_1 v4_2 v4_3 v4_4 v4_5 v4_6 v4_7 v4_8 v4_9 v4_10 v4_11 v4_12 v4_13,.arr 142 3 true (v4_14.map Zb.c)])∧(Zem m q fr table fr1 out v4_0 v4_1 v4_2 v4_3 v4_4 v4_5 v4_6 v4_7 v4_8 v4_9 v4_10 v4_11 v4_12 v4_13 y x x1 sizes1 mask1 x2 left right x3 x4 x5 x6 x7 x8 (w (x9+1))=some r)))))) else (∃ (v5_0:List Int),Zh5 q x2 (andNotI mask1 x2)=some (.own 0,[.arr 3 1 true (v5_0.map ic)])∧(Zcn m q fr table fr1 out m_1 q_1 sizes mask list0 list1 list2 list3 list4 some0 some1 some2 some3 some4 x x1 v5_0 sizes1 mask1 left right x3 x4 x5 x6 (v5_0.length:Int) 0=some r)))):Zem m q fr table fr1 out m_1 q_1 sizes mask list0 list1 list2 list3 list4 some0 some1 some2 some3 some4 y x x1 sizes1 mask1 x2 left right x3 x4 x5 x6 x7 x8 x9=some r:=by
 unfold Zem
 rw [EvL_eq Zr8.eq_1]
 simp only [Zdi,Zbq,Zh5,Zd.c_def,Zi.c_def,Plan.c_def,Za.c_def,Zb.c_def,Zc.c_def,mpl,dfs,Zkr] at h
 try simp only [itb] at h
 try simp only [itf,gS,kk] at h
 rcases h with ⟨q1,q2,e1,⟨g3,q3⟩,v2_0,q4,(⟨v3_0,v3_1,v3_2,v3_3,v3_4,v3_5,v3_6,v3_7,v3_8,v3_9,v3_10,v3_11,v3_12,v3_13,q6,h⟩ | ⟨v4_0,v4_1,v4_2,v4_3,v4_4,v4_5,v4_6,v4_7,v4_8,v4_9,v4_10,v4_11,v4_12,v4_13,v4_14,q7,h⟩)⟩ | ⟨q1,v5_0,q8,h⟩
 all_goals (refine Eq.trans ?_ h;clear h;simp +decide [*,kk,Zem,Zcn,Zsa])
theorem Z2u (m:Zd) (q:Zc) (fr:Bool) (table:List (List Za)) (fr1:Bool) (out:List Za) (m_1:Zd) (q_1:Zc) (sizes:List Int) (mask:Int) (list0:Za) (list1:Za) (list2:Za) (list3:Za) (list4:Za) (some0:Bool) (some1:Bool) (some2:Bool) (some3:Bool) (some4:Bool) (x:List Int) (x1:List Int) (x2:List Int) (sizes1:List Int) (mask1:Int) (left:List Za) (right:List Za) (x3:Int) (x4:Int) (x5:Int) (x6:Int) (x7:Int) (x8:Int) (r:AV×List Blk) (h:(if x8<x7 then (0≤x8∧(∃ (e1:Int),x2[x8.toNat]?=some e1∧((∃ (v2_0:Plan),Zdj m q sizes1 left e1=some (.agg (v2_0.c.map .t),[])∧((∃ (v3_0:Plan),Zdj m q sizes1 right e1=some (.agg (v3_0.c.map .t),[])∧(∃ (v4_0:List Zb),Zdi v2_0 v3_0 4 e1=some (.agg [.own 0],[.arr 142 3 true (v4_0.map Zb.c)])∧((∃ (v5_0:Zd) (v5_1:Zc) (v5_2:List Int) (v5_3:Int) (v5_4:Za) (v5_5:Za) (v5_6:Za) (v5_7:Za) (v5_8:Za) (v5_9:Bool) (v5_10:Bool) (v5_11:Bool) (v5_12:Bool) (v5_13:Bool),Zbq m_1 q_1 sizes mask list0 list1 list2 list3 list4 some0 some1 some2 some3 some4 v4_0 e1=some (.tup [],[boxO v5_0 v5_1 v5_2 v5_3 v5_4 v5_5 v5_6 v5_7 v5_8 v5_9 v5_10 v5_11 v5_12 v5_13,.dead])∧(Zcn m q fr table fr1 out v5_0 v5_1 v5_2 v5_3 v5_4 v5_5 v5_6 v5_7 v5_8 v5_9 v5_10 v5_11 v5_12 v5_13 x x1 x2 sizes1 mask1 left right x3 x4 x5 x6 x7 (w (x8+1))=some r))∨(∃ (v6_0:Zd) (v6_1:Zc) (v6_2:List Int) (v6_3:Int) (v6_4:Za) (v6_5:Za) (v6_6:Za) (v6_7:Za) (v6_8:Za) (v6_9:Bool) (v6_10:Bool) (v6_11:Bool) (v6_12:Bool) (v6_13:Bool) (v6_14:List Zb),Zbq m_1 q_1 sizes mask list0 list1 list2 list3 list4 some0 some1 some2 some3 some4 v4_0 e1=some (.tup [],[boxO v6_0 v6_1 v6_2 v6_3 v6_4 v6_5 v6_6 v6_7 v6_8 v6_9 v6_10 v6_11 v6_12 v6_13,.arr 142 3 true (v6_14.map Zb.c)])∧(Zcn m q fr table fr1 out v6_0 v6_1 v6_2 v6_3 v6_4 v6_5 v6_6 v6_7 v6_8 v6_9 v6_10 v6_11 v6_12 v6_13 x x1 x2 sizes1 mask1 left right x3 x4 x5 x6 x7 (w (x8+1))=some r)))))∨(∃ (v7_0:List Zb),Zdj m q sizes1 right e1=some (.agg [.own 0],[.arr 142 3 true (v7_0.map Zb.c)])∧(∃ (v8_0:List Zb),Zdi v2_0 (⟨v7_0⟩:Plan) 4 e1=some (.agg [.own 0],[.arr 142 3 true (v8_0.map Zb.c)])∧((∃ (v9_0:Zd) (v9_1:Zc) (v9_2:List Int) (v9_3:Int) (v9_4:Za) (v9_5:Za) (v9_6:Za) (v9_7:Za) (v9_8:Za) (v9_9:Bool) (v9_10:Bool) (v9_11:Bool) (v9_12:Bool) (v9_13:Bool),Zbq m_1 q_1 sizes mask list0 list1 list2 list3 list4 some0 some1 some2 some3 some4 v8_0 e1=some (.tup [],[boxO v9_0 v9_1 v9_2 v9_3 v9_4 v9_5 v9_6 v9_7 v9_8 v9_9 v9_10 v9_11 v9_12 v9_13,.dead])∧(Zcn m q fr table fr1 out v9_0 v9_1 v9_2 v9_3 v9_4 v9_5 v9_6 v9_7 v9_8 v9_9 v9_10 v9_11 v9_12 v9_13 x x1 x2 sizes1 mask1 left right x3 x4 x5 x6 x7 (w (x8+1))=some r))∨(∃ (v10_0:Zd) (v10_1:Zc) (v10_2:List Int) (v10_3:Int) (v10_4:Za) (v10_5:Za) (v10_6:Za) (v10_7:Za) (v10_8:Za) (v10_9:Bool) (v10_10:Bool) (v10_11:Bool) (v10_12:Bool) (v10_13:Bool) (v10_14:List Zb),Zbq m_1 q_1 sizes mask list0 list1 list2 list3 list4 some0 some1 some2 some3 some4 v8_0 e1=some (.tup [],[boxO v10_0 v10_1 v10_2 v10_3 v10_4 v10_5 v10_6 v10_7 v10_8 v10_9 v10_10 v10_11 v10_12 v10_13,.arr 142 3 true (v10_14.map Zb.c)])∧(Zcn m q fr table fr1 out v10_0 v10_1 v10_2 v10_3 v10_4 v10_5 v10_6 v10_7 v10_8 v10_9 v10_10 v10_11 v10_12 v10_13 x x1 x2 sizes1 mask1 left right x3 x4 x5 x6 x7 (w (x8+1))=some r)))))))∨(∃ (v11_0:List Zb),Zdj m q sizes1 left e1=some (.agg [.own 0],[.arr 142 3 true (v11_0.map Zb.c)])∧((∃ (v12_0:Plan),Zdj m q sizes1 right e1=some (.agg (v12_0.c.map .t),[])∧(∃ (v13_0:List Zb),Zdi (⟨v11_0⟩:Plan) v12_0 4 e1=some (.agg [.own 0],[.arr 142 3 true (v13_0.map Zb.c)])∧((∃ (v14_0:Zd) (v14_1:Zc) (v14_2:List Int) (v14_3:Int) (v14_4:Za) (v14_5:Za) (v14_6:Za) (v14_7:Za) (v14_8:Za) (v14_9:Bool) (v14_10:Bool) (v14_11:Bool) (v14_12:Bool) (v14_13:Bool),Zbq m_1 q_1 sizes mask list0 list1 list2 list3 list4 some0 some1 some2 some3 some4 v13_0 e1=some (.tup [],[boxO v14_0 v14_1 v14_2 v14_3 v14_4 v14_5 v14_6 v14_7 v14_8 v14_9 v14_10 v14_11 v14_12 v14_13,.dead])∧(Zcn m q fr table fr1 out v14_0 v14_1 v14_2 v14_3 v14_4 v14_5 v14_6 v14_7 v14_8 v14_9 v14_10 v14_11 v14_12 v14_13 x x1 x2 sizes1 mask1 left right x3 x4 x5 x6 x7 (w (x8+1))=some r))∨(∃ (v15_0:Zd) (v15_1:Zc) (v15_2:List Int) (v15_3:Int) (v15_4:Za) (v15_5:Za) (v15_6:Za) (v15_7:Za) (v15_8:Za) (v15_9:Bool) (v15_10:Bool) (v15_11:Bool) (v15_12:Bool) (v15_13:Bool) (v15_14:List Zb),Zbq m_1 q_1 sizes mask list0 list1 list2 list3 list4 some0 some1 some2 some3 some4 v13_0 e1=some (.tup [],[boxO v15_0 v15_1 v15_2 v15_3 v15_4 v15_5 v15_6 v15_7 v15_8 v15_9 v15_10 v15_11 v15_12 v15_13,.arr 142 3 true (v15_14.map Zb.c)])∧(Zcn m q fr table fr1 out v15_0 v15_1 v15_2 v15_3 v15_4 v15_5 v15_6 v15_7 v15_8 v15_9 v15_10 v15_11 v15_12 v15_13 x x1 x2 sizes1 mask1 left right x3 x4 x5 x6 x7 (w (x8+1))=some r)))))∨(∃ (v16_0:List Zb),Zdj m q sizes1 right e1=some (.agg [.own 0],[.arr 142 3 true (v16_0.map Zb.c)])∧(∃ (v17_0:List Zb),Zdi (⟨v11_0⟩:Plan) (⟨v16_0⟩:Plan) 4 e1=some (.agg [.own 0],[.arr 142 3 true (v17_0.map Zb.c)])∧((∃ (v18_0:Zd) (v18_1:Zc) (v18_2:List Int) (v18_3:Int) (v18_4:Za) (v18_5:Za) (v18_6:Za) (v18_7:Za) (v18_8:Za) (v18_9:Bool) (v18_10:Bool) (v18_11:Bool) (v18_12:Bool) (v18_13:Bool),Zbq m_1 q_1 sizes mask list0 list1 list2 list3 list4 some0 some1 some2 some3 some4 v17_0 e1=some (.tup [],[boxO v18_0 v18_1 v18_2 v18_3 v18_4 v18_5 v18_6 v18_7 v18_8 v18_9 v18_10 v18_11 v18_12 v18_13,.dead])∧(Zcn m q fr table fr1 out v18_0 v18_1 v18_2 v18_3 v18_4 v18_5 v18_6 v18_7 v18_8 v18_9 v18_10 v18_11 v18_12 v18_13 x x1 x2 sizes1 mask1 left right x3 x4 x5 x6 x7 (w (x8+1))=some r))∨(∃ (v19_0:Zd) (v19_1:Zc) (v19_2:List Int) (v19_3:Int) (v19_4:Za) (v19_5:Za) (v19_6:Za) (v19_7:Za) (v19_8:Za) (v19_9:Bool) (v19_10:Bool) (v19_11:Bool) (v19_12:Bool) (v19_13:Bool) (v19_14:List Zb),Zbq m_1 q_1 sizes mask list0 list1 list2 list3 list4 some0 some1 some2 some3 some4 v17_0 e1=some (.tup [],[boxO v19_0 v19_1 v19_2 v19_3 v19_4 v19_5 v19_6 v19_7 v19_8 v19_9 v19_10 v19_11 v19_12 v19_13,.arr 142 3 true (v19_14.map Zb.c)])∧(Zcn m q fr table fr1 out v19_0 v19_1 v19_2 v19_3 v19_4 v19_5 v19_6 v19_7 v19_8 v19_9 v19_10 v19_11 v19_12 v19_13 x x1 x2 sizes1 mask1 left right x3 x4 x5 x6 x7 (w (x8+1))=some r)))))))))) else (Zdk m q fr table fr1 out m_1 q_1 sizes mask list0 list1 list2 list3 list4 some0 some1 some2 some3 some4 x x1 sizes1 mask1 x3 x4 x5 (w (x6+1))=some r))):Zcn m q fr table fr1 out m_1 q_1 sizes mask list0 list1 list2 list3 list4 some0 some1 some2 some3 some4 x x1 x2 sizes1 mask1 left right x3 x4 x5 x6 x7 x8=some r:=by
 unfold Zcn
 rw [EvL_eq Zr9.eq_1]
 simp only [Zdj,Zdi,Zbq,Zd.c_def,Zi.c_def,Plan.c_def,Za.c_def,Zb.c_def,Zc.c_def,mpl,dfs,Zkr] at h
 try simp only [itb] at h
 try simp only [itf,gS,kk] at h
 rcases h with ⟨q1,q2,e1,⟨g3,q3⟩,(⟨v2_0,q5,(⟨v3_0,q7,v4_0,q8,(⟨v5_0,v5_1,v5_2,v5_3,v5_4,v5_5,v5_6,v5_7,v5_8,v5_9,v5_10,v5_11,v5_12,v5_13,q10,h⟩ | ⟨v6_0,v6_1,v6_2,v6_3,v6_4,v6_5,v6_6,v6_7,v6_8,v6_9,v6_10,v6_11,v6_12,v6_13,v6_14,q11,h⟩)⟩ | ⟨v7_0,q12,v8_0,q13,(⟨v9_0,v9_1,v9_2,v9_3,v9_4,v9_5,v9_6,v9_7,v9_8,v9_9,v9_10,v9_11,v9_12,v9_13,q15,h⟩ | ⟨v10_0,v10_1,v10_2,v10_3,v10_4,v10_5,v10_6,v10_7,v10_8,v10_9,v10_10,v10_11,v10_12,v10_13,v10_14,q16,h⟩)⟩)⟩ | ⟨v11_0,q17,(⟨v12_0,q19,v13_0,q20,(⟨v14_0,v14_1,v14_2,v14_3,v14_4,v14_5,v14_6,v14_7,v14_8,v14_9,v14_10,v14_11,v14_12,v14_13,q22,h⟩ | ⟨v15_0,v15_1,v15_2,v15_3,v15_4,v15_5,v15_6,v15_7,v15_8,v15_9,v15_10,v15_11,v15_12,v15_13,v15_14,q23,h⟩)⟩ | ⟨v16_0,q24,v17_0,q25,(⟨v18_0,v18_1,v18_2,v18_3,v18_4,v18_5,v18_6,v18_7,v18_8,v18_9,v18_10,v18_11,v18_12,v18_13,q27,h⟩ | ⟨v19_0,v19_1,v19_2,v19_3,v19_4,v19_5,v19_6,v19_7,v19_8,v19_9,v19_10,v19_11,v19_12,v19_13,v19_14,q28,h⟩)⟩)⟩)⟩ | ⟨q1,h⟩
 all_goals (refine Eq.trans ?_ h;clear h;simp +decide [*,kk,Zcn,Zdk,Zof])
theorem Zbe0 (a:Zd) (a1:Zc) (a2:List Int) (r:AV×List Blk) (h:(∃ (v1_0:Bool),Zh0 a=some (Bo v1_0,[])∧(if v1_0=true then (∃ (v2_0:Bool),Zh1 a1 a2=some (Bo v2_0,[])∧(if v2_0=true then (∃ (v3_0:Int),Zb5 a1=some (I v3_0,[])∧(0≤(w (v3_0+1))∧((w (v3_0+1))≤(w (v3_0+1))∧((w (v3_0+1)).toNat*24≤room∧((w (v3_0+1))≤140737488355328∧(∃ (v4_0:List Int),Zk9 a1=some (.own 0,[.arr 3 1 true (v4_0.map ic)])∧(Zfh a a1 true (List.replicate ((w (v3_0+1))).toNat ([])) true ([]:List Za) v4_0 a2 (v4_0.length:Int) 0=some r))))))) else (some (.t .nil,[])=some r))) else (some (.t .nil,[])=some r)))):Zjp a a1 a2=some r:=by
 unfold Zjp
 refine run Zbbg rfl ?_
 obtain ⟨v1_0,q1,h⟩:=h
 unfold Zh0 at q1
 try simp at q1
 by_cases q2:v1_0=true
 ·rw [if_pos q2] at h
  obtain ⟨v2_0,q3,h⟩:=h
  unfold Zh1 at q3
  try simp at q3
  by_cases q4:v2_0=true
  ·rw [if_pos q4] at h
   obtain ⟨v3_0,q5,h⟩:=h
   unfold Zb5 at q5
   try simp at q5
   obtain ⟨q6,h⟩:=h
   obtain ⟨q7,h⟩:=h
   obtain ⟨q8,h⟩:=h
   have zq8:=q8;try simp at zq8
   obtain ⟨q9,h⟩:=h
   obtain ⟨v4_0,q10,h⟩:=h
   unfold Zk9 at q10
   try simp at q10
   refine Eq.trans ?_ h
   clear h
   simp +decide [*,Zog,Zfh]
  ·rw [if_neg q4] at h
   refine Eq.trans ?_ h
   clear h
   simp +decide [*,Zog]
 ·rw [if_neg q2] at h
  refine Eq.trans ?_ h
  clear h
  simp +decide [*,Zog]
theorem Z2v (Mask:Int) (Order:Int) (Cost:Int) (best:Za) (fr:Bool) (x:List Za) (x1:Int) (x2:Int) (r:AV×List Blk) (h:(if x2<x1 then (0≤x2∧(∃ (e1:Za),x[x2.toNat]?=some e1∧(if e1.Cost<best.Cost then (Zgh Mask Order Cost e1 fr x x1 (w (x2+1))=some r) else (Zgh Mask Order Cost best fr x x1 (w (x2+1))=some r)))) else (some (.agg (best.c.map .t),[.arr 174 4 fr (x.map Za.c)])=some r))):Zgh Mask Order Cost best fr x x1 x2=some r:=by
 unfold Zgh
 rw [EvL_eq Zlb.eq_1]
 try simp only [itb] at h
 try simp only [itf,gS,kk] at h
 rcases h with ⟨q1,q2,e1,⟨g3,q3⟩,(⟨q4,h⟩ | ⟨q4,h⟩)⟩ | ⟨q1,h⟩
 all_goals (refine Eq.trans ?_ h;clear h;simp +decide [*,kk,Zgh,Zr2,Zlc])
theorem Zbe1 (fr:Bool) (x:List Za) (r:AV×List Blk) (h:(∃ (e1:Za),x[0]?=some e1∧(Zgh 0 0 0 e1 fr x (x.length:Int) 0=some r))):Zlg fr x=some r:=by
 unfold Zlg
 refine runM Z1q rfl ?_
 try simp only [itb] at h
 try simp only [itf,gS,kk] at h
 rcases h with ⟨e1,⟨g1,q1⟩,h⟩
 all_goals (refine Eq.trans ?_ h;clear h;simp +decide [*,kk,Zr3,Zgh])
theorem Z2w (Mask:Int) (Order:Int) (Cost:Int) (fr:Bool) (x:List Za) (mask:Int) (x1:List Za) (x2:Int) (x3:Int) (r:AV×List Blk) (h:(if x3<x2 then (0≤x3∧(∃ (e1:Za),x1[x3.toNat]?=some e1∧(if e1.Mask=mask then (x.length+1≤68719476736∧(Zgi Mask Order Cost false (x++[e1]) mask x1 x2 (w (x3+1))=some r)) else (Zgi Mask Order Cost fr x mask x1 x2 (w (x3+1))=some r)))) else (if (x.length:Int)=0 then (some (.tup [.agg [I 0,I 0,I 0,.t .nil],Bo false],[])=some r) else (∃ (v2_0:Za),Zlg fr x=some (.agg (v2_0.c.map .t),[.arr 174 4 fr (x.map Za.c)])∧(∃ (v3_0:List Zb),Zcy v2_0.Plan=some (.agg [.own 0],[.arr 142 3 true (v3_0.map Zb.c)])∧(some (.tup [.agg [I v2_0.Mask,I v2_0.Order,I v2_0.Cost,.own 0],Bo true],[.arr 142 3 true (v3_0.map Zb.c)])=some r)))))):Zgi Mask Order Cost fr x mask x1 x2 x3=some r:=by
 unfold Zgi
 rw [EvL_eq Zse.eq_1]
 simp only [Zlg,Zcy,Plan.c_def,Za.c_def,mpl,dfs] at h
 try simp only [itb] at h
 try simp only [itf,gS,kk] at h
 rcases h with ⟨q1,q2,e1,⟨g3,q3⟩,(⟨q4,q5,h⟩ | ⟨q4,h⟩)⟩ | ⟨q1,(⟨q6,h⟩ | ⟨q6,v2_0,q7,v3_0,q8,h⟩)⟩
 all_goals (refine Eq.trans ?_ h;clear h;simp +decide [*,kk,Zgi,Zy6,Zsf])
theorem Zbe2 (a:List Za) (a1:Int) (r:AV×List Blk) (h:(Zgi 0 0 0 true ([]:List Za) a1 a (a.length:Int) 0=some r)):Zjq a a1=some r:=by
 unfold Zjq
 refine run Zbbh rfl ?_
 refine Eq.trans ?_ h;clear h;simp +decide [*,kk,Zy7,Zgi]
theorem Zbe3 (a:Zd) (a1:Zc) (a2:List Int) (r:AV×List Blk) (h:((Zjp a a1 a2=some (.t .nil,[])∧(∃ (v2_0:Int),Zb5 a1=some (I v2_0,[])∧((∃ (v3_0:Int) (v3_1:Int) (v3_2:Int),Zsd v2_0=some (.tup [.agg [I v3_0,I v3_1,I v3_2,.t .nil],Bo false],[])∧(some (.tup [.agg [I v3_0,I v3_1,I v3_2,.t .nil],Bo false],[])=some r))∨(∃ (v4_0:List Zb) (v4_1:Int) (v4_2:Int) (v4_3:Int),Zsd v2_0=some (.tup [.agg [I v4_1,I v4_2,I v4_3,.own 0],Bo true],[.arr 142 3 true (v4_0.map Zb.c)])∧(some (.tup [.agg [I v4_1,I v4_2,I v4_3,.own 0],Bo true],[.arr 142 3 true (v4_0.map Zb.c)])=some r)))))∨(∃ (v5_0:Bool) (v5_1:List Za),Zjp a a1 a2=some (.own 0,[.arr 174 4 v5_0 (v5_1.map Za.c)])∧(∃ (v6_0:Int),Zb5 a1=some (I v6_0,[])∧((∃ (v7_0:Int) (v7_1:Int) (v7_2:Int),Zjq v5_1 v6_0=some (.tup [.agg [I v7_0,I v7_1,I v7_2,.t .nil],Bo false],[])∧(some (.tup [.agg [I v7_0,I v7_1,I v7_2,.t .nil],Bo false],[])=some r))∨(∃ (v8_0:List Zb) (v8_1:Int) (v8_2:Int) (v8_3:Int),Zjq v5_1 v6_0=some (.tup [.agg [I v8_1,I v8_2,I v8_3,.own 0],Bo true],[.arr 142 3 true (v8_0.map Zb.c)])∧(some (.tup [.agg [I v8_1,I v8_2,I v8_3,.own 0],Bo true],[.arr 142 3 true (v8_0.map Zb.c)])=some r))))))):Zjr a a1 a2=some r:=by
 unfold Zjr
 refine run Zbbi rfl ?_
 simp only [Zjp,Zb5,Zsd,Zjq,Zd.c_def,Zi.c_def,Plan.c_def,Za.c_def,Zc.c_def,mpl,dfs] at h
 rcases h with ⟨q2,v2_0,q3,(⟨v3_0,v3_1,v3_2,q5,h⟩ | ⟨v4_0,v4_1,v4_2,v4_3,q6,h⟩)⟩ | ⟨v5_0,v5_1,q7,v6_0,q8,(⟨v7_0,v7_1,v7_2,q10,h⟩ | ⟨v8_0,v8_1,v8_2,v8_3,q11,h⟩)⟩
 all_goals (refine Eq.trans ?_ h;clear h;simp +decide [*,kk,Zy8])
theorem Zbe4 (a:Zd) (a1:Zc) (a2:List Int) (r:AV×List Blk) (h:((∃ (v1_0:Int) (v1_1:Int) (v1_2:Int),Zjr a a1 a2=some (.tup [.agg [I v1_0,I v1_1,I v1_2,.t .nil],Bo false],[])∧(some (I (-1),[])=some r))∨(∃ (v2_0:List Zb) (v2_1:Int) (v2_2:Int) (v2_3:Int),Zjr a a1 a2=some (.tup [.agg [I v2_1,I v2_2,I v2_3,.own 0],Bo true],[.arr 142 3 true (v2_0.map Zb.c)])∧(some (I v2_3,[])=some r)))):Zlh a a1 a2=some r:=by
 unfold Zlh
 refine run Zbbj rfl ?_
 simp only [Zjr,Zd.c_def,Zi.c_def,Zc.c_def,mpl,dfs] at h
 rcases h with ⟨v1_0,v1_1,v1_2,q2,h⟩ | ⟨v2_0,v2_1,v2_2,v2_3,q3,h⟩
 all_goals (refine Eq.trans ?_ h;clear h;simp +decide [*,kk,Zy9])
theorem Zbe5 (a:Zd) (a1:Zc) (a2:List Int) (r:AV×List Blk) (h:((∃ (v1_0:List Int),Zfe a2=some (.own 0,[.arr 3 1 true (v1_0.map ic)])∧(∃ (v2_0:Int),Zlh a a1 v1_0=some (I v2_0,[])∧(some (I v2_0,[])=some r)))∨(Zfe a2=some (.t .nil,[])∧(∃ (v4_0:Int),Zza a a1=some (I v4_0,[])∧(some (I v4_0,[])=some r))))):Zli a a1 a2=some r:=by
 unfold Zli
 refine run Zbbk rfl ?_
 simp only [Zfe,Zlh,Zza,Zd.c_def,Zi.c_def,Zc.c_def,mpl,dfs] at h
 rcases h with ⟨v1_0,q2,v2_0,q3,h⟩ | ⟨q4,v4_0,q5,h⟩
 all_goals (refine Eq.trans ?_ h;clear h;simp +decide [*,kk,Zzb])
theorem Zbe6 (a:Zd) (a1:Zc) (a2:Region) (r:AV×List Blk) (h:(∃ (v1_0:Int),Zk8 a a1 a2.Plan a2.Box.High=some (I v1_0,[])∧(∃ (v2_0:Int),Zli a a1 a2.Box.Low=some (I v2_0,[])∧(some (Bo (decide ((w (100*v1_0))≤(w (a2.Percent*v2_0)))),[])=some r)))):Zdz a a1 a2=some r:=by
 unfold Zdz
 refine run Zbbl rfl ?_
 simp only [Zk8,Zli,Zd.c_def,Zi.c_def,Plan.c_def,Zc.c_def,mpl,dfs] at h
 rcases h with ⟨v1_0,q1,v2_0,q2,h⟩
 all_goals (refine Eq.trans ?_ h;clear h;simp +decide [*,kk,Zzc])
theorem Zbe7 (a:Zd) (a1:Zc) (a2:Region) (r:AV×List Blk) (h:(∃ (v1_0:Bool),Zk3 a a1 a2=some (Bo v1_0,[])∧(if v1_0=true then (∃ (v2_0:Bool),Zdz a a1 a2=some (Bo v2_0,[])∧(some (Bo v2_0,[])=some r)) else (some (Bo false,[])=some r)))):Zlj a a1 a2=some r:=by
 unfold Zlj
 refine run Zbbm rfl ?_
 simp only [Zk3,Zdz,Box.c_def,Zd.c_def,Zi.c_def,Plan.c_def,Zc.c_def,Region.c_def,mpl,dfs] at h
 try simp only [itb] at h
 try simp only [itf,gS,kk] at h
 rcases h with ⟨v1_0,q1,(⟨q2,v2_0,q3,h⟩ | ⟨q2,h⟩)⟩
 all_goals (refine Eq.trans ?_ h;clear h;simp +decide [*,kk,Zzd])
theorem Zbe8 (a:Zd) (a1:Int) (r:AV×List Blk) (h:(if a1=1 then (some (.agg (a.Scan.c.map .t),[])=some r) else (if a1=2 then (some (.agg (a.Sort_.c.map .t),[])=some r) else (if a1=3 then (some (.agg (a.Hash.c.map .t),[])=some r) else (if a1=4 then (some (.agg (a.Merge.c.map .t),[])=some r) else (some (.agg (a.Nested.c.map .t),[])=some r)))))):Zco a a1=some r:=by
 unfold Zco
 refine run Zbbn rfl ?_
 try simp only [itb] at h
 try simp only [itf,gS,kk] at h
 rcases h with ⟨q1,h⟩ | ⟨q1,(⟨q2,h⟩ | ⟨q2,(⟨q3,h⟩ | ⟨q3,(⟨q4,h⟩ | ⟨q4,h⟩)⟩)⟩)⟩
 all_goals (refine Eq.trans ?_ h;clear h;simp +decide [*,kk,Zze])
theorem Zbe9 (a:Int) (a1:Int) (a2:Int) (r:AV×List Blk) (h:(if a1≤a then (some (Bo (decide (a≤a2)),[])=some r) else (some (Bo false,[])=some r))):Z1 a a1 a2=some r:=by
 unfold Z1
 refine run Zbbo rfl ?_
 try simp only [itb] at h
 try simp only [itf,gS,kk] at h
 rcases h with ⟨q1,h⟩ | ⟨q1,h⟩
 all_goals (refine Eq.trans ?_ h;clear h;simp +decide [*,kk,Zzf])
theorem Zbfa (a:Int) (r:AV×List Blk) (h:(∃ (v1_0:Bool),Z1 a (-99) 99=some (Bo v1_0,[])∧(some (Bo v1_0,[])=some r))):Zd0 a=some r:=by
 unfold Zd0
 refine run Zbbp rfl ?_
 simp only [Z1,mpl,dfs] at h
 rcases h with ⟨v1_0,q1,h⟩
 all_goals (refine Eq.trans ?_ h;clear h;simp +decide [*,kk,Zzg])
theorem Z2x (o:Zi) (i:Int) (r:AV×List Blk) (h:(if i<(o.Steps.length:Int) then (0≤i∧(∃ (e1:Zg),o.Steps[i.toNat]?=some e1∧(∃ (v2_0:Bool),Z1 e1.From 1 8192=some (Bo v2_0,[])∧(if v2_0=true then (∃ (v3_0:Bool),Zd0 e1.Add=some (Bo v3_0,[])∧(if v3_0=true then (if 0<i then (0≤(w (i - 1))∧(∃ (e4:Zg),o.Steps[(w (i - 1)).toNat]?=some e4∧(if e1.From≤e4.From then (some (Bo false,[])=some r) else (Zfi o (w (i+1))=some r)))) else (Zfi o (w (i+1))=some r)) else (some (Bo false,[])=some r))) else (some (Bo false,[])=some r))))) else (some (Bo true,[])=some r))):Zfi o i=some r:=by
 unfold Zfi
 rw [EvL_eq Zsg.eq_1]
 simp only [Z1,Zd0,mpl,dfs] at h
 try simp only [itb] at h
 try simp only [itf,gS,kk] at h
 rcases h with ⟨q1,q2,e1,⟨g3,q3⟩,v2_0,q4,(⟨q5,v3_0,q6,(⟨q7,(⟨q8,q9,e4,⟨g10,q10⟩,(⟨q11,h⟩ | ⟨q11,h⟩)⟩ | ⟨q8,h⟩)⟩ | ⟨q7,h⟩)⟩ | ⟨q5,h⟩)⟩ | ⟨q1,h⟩
 all_goals (refine Eq.trans ?_ h;clear h;simp +decide [*,kk,Zfi,Zsh])
theorem Zbfb (a:Zi) (r:AV×List Blk) (h:(∃ (v1_0:Bool),Zd0 a.Fixed=some (Bo v1_0,[])∧(if v1_0=true then (∃ (v2_0:Bool),Zd0 a.Zj=some (Bo v2_0,[])∧(if v2_0=true then (∃ (v3_0:Bool),Zd0 a.Zk=some (Bo v3_0,[])∧(if v3_0=true then (∃ (v4_0:Bool),Zd0 a.Zm=some (Bo v4_0,[])∧(if v4_0=true then (∃ (v5_0:Bool),Zd0 a.Zl=some (Bo v5_0,[])∧(if v5_0=true then (if 4<(a.Steps.length:Int) then (some (Bo false,[])=some r) else (Zfi a 0=some r)) else (some (Bo false,[])=some r))) else (some (Bo false,[])=some r))) else (some (Bo false,[])=some r))) else (some (Bo false,[])=some r))) else (some (Bo false,[])=some r)))):Zen a=some r:=by
 unfold Zen
 refine run Zbbq rfl ?_
 simp only [Zd0,mpl,dfs] at h
 try simp only [itb] at h
 try simp only [itf,gS,kk] at h
 rcases h with ⟨v1_0,q1,(⟨q2,v2_0,q3,(⟨q4,v3_0,q5,(⟨q6,v4_0,q7,(⟨q8,v5_0,q9,(⟨q10,(⟨q11,h⟩ | ⟨q11,h⟩)⟩ | ⟨q10,h⟩)⟩ | ⟨q8,h⟩)⟩ | ⟨q6,h⟩)⟩ | ⟨q4,h⟩)⟩ | ⟨q2,h⟩)⟩
 all_goals (refine Eq.trans ?_ h;clear h;simp +decide [*,kk,Zzh,Zfi])
theorem Zbfc (k:Int) (n:Int) (i:Int) (r:AV×List Blk) (h:(if i<k then (Zgj k (if 1<(w (n*4)) then (w (n*4)) else 1) (w (i+1))=some r) else (some (I n,[])=some r))):Zgj k n i=some r:=by
 unfold Zgj
 rw [EvL_eq Zsi.eq_1]
 try simp only [itb] at h
 try simp only [itf,gS,kk] at h
 rcases h with ⟨q1,h⟩ | ⟨q1,h⟩
 all_goals (refine Eq.trans ?_ h;clear h;simp +decide [*,kk,Zgj,Zsj])
theorem Zbfd (a:Int) (r:AV×List Blk) (h:(∃ (v1_0:Bool),Z1 a 0 7=some (Bo v1_0,[])∧(if v1_0=true then (Zgj a 0 0=some r) else (some (I (-1),[])=some r)))):Zfj a=some r:=by
 unfold Zfj
 refine run Zbbr rfl ?_
 simp only [Z1,mpl,dfs] at h
 try simp only [itb] at h
 try simp only [itf,gS,kk] at h
 rcases h with ⟨v1_0,q1,(⟨q2,h⟩ | ⟨q2,h⟩)⟩
 all_goals (refine Eq.trans ?_ h;clear h;simp +decide [*,kk,Zzi,Zgj])
theorem Z2y (o:Zi) (l:Int) (r_1:Int) (n:Int) (i:Int) (r:AV×List Blk) (h:(if i<(o.Steps.length:Int) then (0≤i∧(∃ (e1:Zg),o.Steps[i.toNat]?=some e1∧(if e1.From≤(w (l+r_1)) then (Zfk o l r_1 (w (n+e1.Add)) (w (i+1))=some r) else (Zfk o l r_1 n (w (i+1))=some r)))) else (some (I n,[])=some r))):Zfk o l r_1 n i=some r:=by
 unfold Zfk
 rw [EvL_eq Zsk.eq_1]
 try simp only [itb] at h
 try simp only [itf,gS,kk] at h
 rcases h with ⟨q1,q2,e1,⟨g3,q3⟩,(⟨q4,h⟩ | ⟨q4,h⟩)⟩ | ⟨q1,h⟩
 all_goals (refine Eq.trans ?_ h;clear h;simp +decide [*,kk,Zfk,Zzj,Zsl])
theorem Zbfe (a:Zi) (a1:Int) (a2:Int) (a3:Int) (r:AV×List Blk) (h:(∃ (v1_0:Bool),Zen a=some (Bo v1_0,[])∧(if v1_0=true then (∃ (v2_0:Bool),Z1 a1 0 4096=some (Bo v2_0,[])∧(if v2_0=true then (∃ (v3_0:Bool),Z1 a2 0 4096=some (Bo v3_0,[])∧(if v3_0=true then (∃ (v4_0:Bool),Z1 a3 0 4096=some (Bo v4_0,[])∧(if v4_0=true then (Zfk a a1 a2 (w ((w ((w ((w (a.Fixed+(w (a.Zj*a1))))+(w (a.Zk*a2))))+(w (a.Zm*a3))))+(w ((w (a.Zl*a1))*a2)))) 0=some r) else (some (I 0,[])=some r))) else (some (I 0,[])=some r))) else (some (I 0,[])=some r))) else (some (I 0,[])=some r)))):Zbv a a1 a2 a3=some r:=by
 unfold Zbv
 refine run Zbbs rfl ?_
 simp only [Zen,Z1,Zi.c_def,mpl,dfs] at h
 try simp only [itb] at h
 try simp only [itf,gS,kk] at h
 rcases h with ⟨v1_0,q1,(⟨q2,v2_0,q3,(⟨q4,v3_0,q5,(⟨q6,v4_0,q7,(⟨q8,h⟩ | ⟨q8,h⟩)⟩ | ⟨q6,h⟩)⟩ | ⟨q4,h⟩)⟩ | ⟨q2,h⟩)⟩
 all_goals (refine Eq.trans ?_ h;clear h;simp +decide [*,kk,Zzk,Zfk])
theorem Zbff (a:Zi) (a1:List Int) (r:AV×List Blk) (h:(∃ (e1:Int),a1[0]?=some e1∧(∃ (v2_0:Int),Zfj e1=some (I v2_0,[])∧(∃ (e3:Int),a1[1]?=some e3∧(∃ (v4_0:Int),Zfj e3=some (I v4_0,[])∧(∃ (e5:Int),a1[2]?=some e5∧(∃ (v6_0:Int),Zfj e5=some (I v6_0,[])∧(∃ (v7_0:Int),Zbv a v2_0 v4_0 v6_0=some (I v7_0,[])∧(some (I v7_0,[])=some r))))))))):Zgk a a1=some r:=by
 unfold Zgk
 refine run Zbbt rfl ?_
 simp only [Zfj,Zbv,Zi.c_def,mpl,dfs] at h
 try simp only [itb] at h
 try simp only [itf,gS,kk] at h
 rcases h with ⟨e1,⟨g1,q1⟩,v2_0,q2,e3,⟨g3,q3⟩,v4_0,q4,e5,⟨g5,q5⟩,v6_0,q6,v7_0,q7,h⟩
 all_goals (refine Eq.trans ?_ h;clear h;simp +decide [*,kk,Zzl])
theorem Z2z (o:Zi) (a:Int) (r:AV×List Blk) (h:(if a≤7 then (Zgm o a 0=some r) else (some (.tup [.own 0,.own 1,Bo false],[.arr 3 1 true (([]:List Int).map ic),.arr 3 1 true (([]:List Int).map ic)])=some r))):Zgl o a=some r:=by
 unfold Zgl
 rw [EvL_eq Zjs.eq_1]
 try simp only [itb] at h
 try simp only [itf,gS,kk] at h
 rcases h with ⟨q1,h⟩ | ⟨q1,h⟩
 all_goals (refine Eq.trans ?_ h;clear h;simp +decide [*,kk,Zgm,Zjt])
theorem Z20 (o:Zi) (a:Int) (b:Int) (r:AV×List Blk) (h:(if b≤7 then (Zgn o a b 0=some r) else (Zgl o (w (a+1))=some r))):Zgm o a b=some r:=by
 unfold Zgm
 rw [EvL_eq Zlk.eq_1]
 try simp only [itb] at h
 try simp only [itf,gS,kk] at h
 rcases h with ⟨q1,h⟩ | ⟨q1,h⟩
 all_goals (refine Eq.trans ?_ h;clear h;simp +decide [*,kk,Zgn,Zgl,Zll])
theorem Z21 (o:Zi) (a:Int) (b:Int) (e:Int) (r:AV×List Blk) (h:(if e≤7 then (Zd1 o ([a,b,e]) a b e 0=some r) else (Zgm o a (w (b+1))=some r))):Zgn o a b e=some r:=by
 unfold Zgn
 rw [EvL_eq Zoh.eq_1]
 try simp only [itb] at h
 try simp only [itf,gS,kk] at h
 rcases h with ⟨q1,h⟩ | ⟨q1,h⟩
 all_goals (refine Eq.trans ?_ h;clear h;simp +decide [*,kk,Zd1,Zgm,Zoi])
theorem Z22 (o:Zi) (x:List Int) (a:Int) (b:Int) (e:Int) (k:Int) (r:AV×List Blk) (h:(if k<3 then (x.length≤68719476736∧(0≤k∧(∃ (e1:Int),x[k.toNat]?=some e1∧(if (w (e1+1))≤7 then (∃ (v2_0:Int),Zgk o (x.set k.toNat (w (e1+1)))=some (I v2_0,[])∧(∃ (v3_0:Int),Zgk o x=some (I v3_0,[])∧(if v2_0<v3_0 then (some (.tup [.own 0,.own 1,Bo true],[.arr 3 1 true (x.map ic),.arr 3 1 true ((x.set k.toNat (w (e1+1))).map ic)])=some r) else (Zd1 o x a b e (w (k+1))=some r)))) else (Zd1 o x a b e (w (k+1))=some r))))) else (Zgn o a b (w (e+1))=some r))):Zd1 o x a b e k=some r:=by
 unfold Zd1
 rw [EvL_eq Zsm.eq_1]
 simp only [Zgk,Zi.c_def,mpl,dfs] at h
 try simp only [itb] at h
 try simp only [itf,gS,kk] at h
 rcases h with ⟨q1,q2,q3,e1,⟨g4,q4⟩,(⟨q5,v2_0,q6,v3_0,q7,(⟨q8,h⟩ | ⟨q8,h⟩)⟩ | ⟨q5,h⟩)⟩ | ⟨q1,h⟩
 all_goals (refine Eq.trans ?_ h;clear h;simp +decide [*,kk,Zd1,Zgn,Zsn])
theorem Zbfg (a:Zi) (r:AV×List Blk) (h:(∃ (v1_0:Bool),Zen a=some (Bo v1_0,[])∧(if v1_0=true then (Zgl a 0=some r) else (some (.tup [.own 0,.own 1,Bo false],[.arr 3 1 true (([]:List Int).map ic),.arr 3 1 true (([]:List Int).map ic)])=some r)))):Zlm a=some r:=by
 unfold Zlm
 refine run Zbbu rfl ?_
 simp only [Zen,Zi.c_def,mpl,dfs] at h
 try simp only [itb] at h
 try simp only [itf,gS,kk] at h
 rcases h with ⟨v1_0,q1,(⟨q2,h⟩ | ⟨q2,h⟩)⟩
 all_goals (refine Eq.trans ?_ h;clear h;simp +decide [*,kk,Zzm,Zgl])
theorem Z23 (o:Zi) (a:Int) (r:AV×List Blk) (h:(if a≤7 then (Zgp o a 0=some r) else (some (.own 0,[.arr 3 1 true (([]:List Int).map ic)])=some r))):Zgo o a=some r:=by
 unfold Zgo
 rw [EvL_eq Zln.eq_1]
 try simp only [itb] at h
 try simp only [itf,gS,kk] at h
 rcases h with ⟨q1,h⟩ | ⟨q1,h⟩
 all_goals (refine Eq.trans ?_ h;clear h;simp +decide [*,kk,Zgp,Zlo])
theorem Z24 (o:Zi) (a:Int) (b:Int) (r:AV×List Blk) (h:(if b≤7 then (Zh9 o a b 0=some r) else (Zgo o (w (a+1))=some r))):Zgp o a b=some r:=by
 unfold Zgp
 rw [EvL_eq Zoj.eq_1]
 try simp only [itb] at h
 try simp only [itf,gS,kk] at h
 rcases h with ⟨q1,h⟩ | ⟨q1,h⟩
 all_goals (refine Eq.trans ?_ h;clear h;simp +decide [*,kk,Zh9,Zgo,Zok])
theorem Zuk (o:Zi) (a:Int) (b:Int) (e:Int) (r:AV×List Blk) (h:(if e≤7 then (∃ (v1_0:Int),Zgk o ([a,b,e])=some (I v1_0,[])∧(if v1_0<1 then (some (.own 0,[.arr 3 1 true (([a,b,e]).map ic)])=some r) else (Zh9 o a b (w (e+1))=some r))) else (Zgp o a (w (b+1))=some r))):Zh9 o a b e=some r:=by
 unfold Zh9
 rw [EvL_eq Zso.eq_1]
 simp only [Zgk,Zi.c_def,mpl,dfs] at h
 try simp only [itb] at h
 try simp only [itf,gS,kk] at h
 rcases h with ⟨q1,v1_0,q2,(⟨q3,h⟩ | ⟨q3,h⟩)⟩ | ⟨q1,h⟩
 all_goals (refine Eq.trans ?_ h;clear h;simp +decide [*,kk,Zh9,Zgp,Zsp])
theorem Zbfh (a:Zi) (r:AV×List Blk) (h:(Zgo a 0=some r)):Zlp a=some r:=by
 unfold Zlp
 refine run Zbbv rfl ?_
 refine Eq.trans ?_ h;clear h;simp +decide [*,kk,Zzn,Zgo]
theorem Z25 (m:Zd) (k:Int) (r:AV×List Blk) (h:(if k≤5 then (∃ (v1_0:Zi),Zco m k=some (.agg (v1_0.c.map .t),[])∧(∃ (v2_0:Bool),Zen v1_0=some (Bo v2_0,[])∧(if v2_0=true then (∃ (v3_0:List Int) (v3_1:List Int) (v3_2:Bool),Zlm v1_0=some (.tup [.own 0,.own 1,Bo v3_2],[.arr 3 1 true (v3_0.map ic),.arr 3 1 true (v3_1.map ic)])∧(if v3_2=true then (some (.tup [I k,.own 0,.own 1],[.arr 3 1 true (v3_0.map ic),.arr 3 1 true (v3_1.map ic)])=some r) else (∃ (v4_0:List Int),Zlp v1_0=some (.own 0,[.arr 3 1 true (v4_0.map ic)])∧(if 0<(v4_0.length:Int) then (some (.tup [I k,.own 0,.own 1],[.arr 3 1 true (v4_0.map ic),.arr 3 1 true (([]:List Int).map ic)])=some r) else (Zgq m (w (k+1))=some r))))) else (some (.tup [I k,.own 0,.own 1],[.arr 3 1 true (([]:List Int).map ic),.arr 3 1 true (([]:List Int).map ic)])=some r)))) else (some (.tup [I 0,.own 0,.own 1],[.arr 3 1 true (([]:List Int).map ic),.arr 3 1 true (([]:List Int).map ic)])=some r))):Zgq m k=some r:=by
 unfold Zgq
 rw [EvL_eq Zsq.eq_1]
 simp only [Zco,Zen,Zlm,Zlp,Zd.c_def,Zi.c_def,mpl,dfs] at h
 try simp only [itb] at h
 try simp only [itf,gS,kk] at h
 rcases h with ⟨q1,v1_0,q2,v2_0,q3,(⟨q4,v3_0,v3_1,v3_2,q5,(⟨q6,h⟩ | ⟨q6,v4_0,q7,(⟨q8,h⟩ | ⟨q8,h⟩)⟩)⟩ | ⟨q4,h⟩)⟩ | ⟨q1,h⟩
 all_goals (refine Eq.trans ?_ h;clear h;simp +decide [*,kk,Zgq,Zsr])
theorem Zbfi (a:Zd) (r:AV×List Blk) (h:(Zgq a 1=some r)):Zol a=some r:=by
 unfold Zol
 refine run Zbbw rfl ?_
 refine Eq.trans ?_ h;clear h;simp +decide [*,kk,Zzo,Zgq]
theorem Zbfj (a:Zd) (r:AV×List Blk) (h:(∃ (v1_0:List Int) (v1_1:List Int) (v1_2:Int),Zol a=some (.tup [I v1_2,.own 0,.own 1],[.arr 3 1 true (v1_0.map ic),.arr 3 1 true (v1_1.map ic)])∧(some (Bo (decide (v1_2=0)),[])=some r))):Zlq a=some r:=by
 unfold Zlq
 refine run Zbbx rfl ?_
 simp only [Zol,Zd.c_def,Zi.c_def,mpl,dfs] at h
 rcases h with ⟨v1_0,v1_1,v1_2,q1,h⟩
 all_goals (refine Eq.trans ?_ h;clear h;simp +decide [*,kk,Zzp])
theorem Zbfk (a:ByteArray) (r:AV×List Blk) (h:(if (a.size:Int)=1 then (∃ (b1:UInt8),a[0]?=some b1∧(if 97≤(b1.toNat:Int) then (some (Bo (decide ((b1.toNat:Int)≤122)),[])=some r) else (some (Bo false,[])=some r))) else (some (Bo false,[])=some r))):Zlr a=some r:=by
 unfold Zlr
 refine run Zbby rfl ?_
 try simp only [itb] at h
 try simp only [itf,gS,kk] at h
 rcases h with ⟨q1,b1,q2,(⟨q3,h⟩ | ⟨q3,h⟩)⟩ | ⟨q1,h⟩
 all_goals (refine Eq.trans ?_ h;clear h;simp +decide [*,kk,Zzq])
theorem Z26 (l:List Int) (x:Int) (i:Int) (r:AV×List Blk) (h:(if i<(l.length:Int) then (0≤i∧(∃ (e1:Int),l[i.toNat]?=some e1∧(if e1=x then (some (Bo true,[])=some r) else (Zib l x (w (i+1))=some r)))) else (some (Bo false,[])=some r))):Zib l x i=some r:=by
 unfold Zib
 rw [EvL_eq Zss.eq_1]
 try simp only [itb] at h
 try simp only [itf,gS,kk] at h
 rcases h with ⟨q1,q2,e1,⟨g3,q3⟩,(⟨q4,h⟩ | ⟨q4,h⟩)⟩ | ⟨q1,h⟩
 all_goals (refine Eq.trans ?_ h;clear h;simp +decide [*,kk,Zib,Zst])
theorem Zbfl (a:List Int) (a1:Int) (r:AV×List Blk) (h:(Zib a a1 0=some r)):Zia a a1=some r:=by
 unfold Zia
 refine run Zbbz rfl ?_
 refine Eq.trans ?_ h;clear h;simp +decide [*,kk,Zzr,Zib]
theorem Z27 (q:Zc) (seen:Int) (i:Int) (r:AV×List Blk) (h:(if i<(q.Atoms.length:Int) then (0≤i∧(∃ (e1:Atom),q.Atoms[i.toNat]?=some e1∧(∃ (v2_0:Bool),Zlr e1.Name=some (Bo v2_0,[])∧(if v2_0=true then (∃ (v3_0:Bool),Z1 (e1.Vars.length:Int) 1 3=some (Bo v3_0,[])∧(if v3_0=true then (Zic q e1 seen i 0=some r) else (some (Bo false,[])=some r))) else (some (Bo false,[])=some r))))) else (¬ q.Ze<0∧(some (Bo (decide (seen=(w ((shlI 1 q.Ze) - 1)))),[])=some r)))):Zgr q seen i=some r:=by
 unfold Zgr
 rw [EvL_eq Zom.eq_1]
 simp only [Zlr,Z1,mpl,dfs] at h
 try simp only [itb] at h
 try simp only [itf,gS,kk] at h
 rcases h with ⟨q1,q2,e1,⟨g3,q3⟩,v2_0,q4,(⟨q5,v3_0,q6,(⟨q7,h⟩ | ⟨q7,h⟩)⟩ | ⟨q5,h⟩)⟩ | ⟨q1,q8,h⟩
 all_goals (refine Eq.trans ?_ h;clear h;simp +decide [*,kk,Zic,Zon])
theorem Z28 (q:Zc) (a:Atom) (seen:Int) (i:Int) (k:Int) (r:AV×List Blk) (h:(if k<(a.Vars.length:Int) then (0≤k∧(∃ (e1:Int),a.Vars[k.toNat]?=some e1∧(∃ (v2_0:Bool),Z1 e1 0 (w (q.Ze - 1))=some (Bo v2_0,[])∧(if v2_0=true then (k.toNat≤a.Vars.length∧(∃ (v3_0:Bool),Zia (a.Vars.take k.toNat) e1=some (Bo v3_0,[])∧(if v3_0=true then (some (Bo false,[])=some r) else (¬ e1<0∧(Zic q a (orI seen (shlI 1 e1)) i (w (k+1))=some r))))) else (some (Bo false,[])=some r))))) else (Zgr q seen (w (i+1))=some r))):Zic q a seen i k=some r:=by
 unfold Zic
 rw [EvL_eq Zsu.eq_1]
 simp only [Z1,Zia,mpl,dfs] at h
 try simp only [itb] at h
 try simp only [itf,gS,kk] at h
 rcases h with ⟨q1,q2,e1,⟨g3,q3⟩,v2_0,q4,(⟨q5,q6,v3_0,q7,(⟨q8,h⟩ | ⟨q8,q9,h⟩)⟩ | ⟨q5,h⟩)⟩ | ⟨q1,h⟩
 all_goals (refine Eq.trans ?_ h;clear h;simp +decide [*,kk,Zic,Zgr,Zsv])
theorem Zbfm (a:Zc) (r:AV×List Blk) (h:(∃ (v1_0:Bool),Z1 a.Ze 1 4=some (Bo v1_0,[])∧(if v1_0=true then (∃ (v2_0:Bool),Z1 (a.Atoms.length:Int) 1 4=some (Bo v2_0,[])∧(if v2_0=true then (Zgr a 0 0=some r) else (some (Bo false,[])=some r))) else (some (Bo false,[])=some r)))):Zd2 a=some r:=by
 unfold Zd2
 refine run Zbb0 rfl ?_
 simp only [Z1,mpl,dfs] at h
 try simp only [itb] at h
 try simp only [itf,gS,kk] at h
 rcases h with ⟨v1_0,q1,(⟨q2,v2_0,q3,(⟨q4,h⟩ | ⟨q4,h⟩)⟩ | ⟨q2,h⟩)⟩
 all_goals (refine Eq.trans ?_ h;clear h;simp +decide [*,kk,Zzs,Zgr])
theorem Zbfn (a:Zc) (r:AV×List Blk) (h:(∃ (v1_0:Bool),Zd2 a=some (Bo v1_0,[])∧(if v1_0=true then (¬ (a.Atoms.length:Int)<0∧(some (I (w ((shlI 1 (a.Atoms.length:Int)) - 1)),[])=some r)) else (some (I 0,[])=some r)))):Zc9 a=some r:=by
 unfold Zc9
 refine run Zbb1 rfl ?_
 simp only [Zd2,Zc.c_def,mpl,dfs] at h
 try simp only [itb] at h
 try simp only [itf,gS,kk] at h
 rcases h with ⟨v1_0,q1,(⟨q2,q3,h⟩ | ⟨q2,h⟩)⟩
 all_goals (refine Eq.trans ?_ h;clear h;simp +decide [*,kk,Zzt])
theorem Zbfo (a:Zc) (a1:Int) (r:AV×List Blk) (h:(∃ (v1_0:Bool),Zd2 a=some (Bo v1_0,[])∧(if v1_0=true then (¬ (a.Atoms.length:Int)<0∧(∃ (v2_0:Bool),Z1 a1 0 (w ((shlI 1 (a.Atoms.length:Int)) - 1))=some (Bo v2_0,[])∧(some (Bo v2_0,[])=some r))) else (some (Bo false,[])=some r)))):Zid a a1=some r:=by
 unfold Zid
 refine run Zbb2 rfl ?_
 simp only [Zd2,Z1,Zc.c_def,mpl,dfs] at h
 try simp only [itb] at h
 try simp only [itf,gS,kk] at h
 rcases h with ⟨v1_0,q1,(⟨q2,q3,v2_0,q4,h⟩ | ⟨q2,h⟩)⟩
 all_goals (refine Eq.trans ?_ h;clear h;simp +decide [*,kk,Zzu])
theorem Z29 (q:Zc) (mask:Int) (x:Int) (i:Int) (r:AV×List Blk) (h:(if i<(q.Atoms.length:Int) then (Zgs q mask x i 0=some r) else (some (I x,[])=some r))):Zfl q mask x i=some r:=by
 unfold Zfl
 rw [EvL_eq Zoo.eq_1]
 try simp only [itb] at h
 try simp only [itf,gS,kk] at h
 rcases h with ⟨q1,h⟩ | ⟨q1,h⟩
 all_goals (refine Eq.trans ?_ h;clear h;simp +decide [*,kk,Zgs,Zop])
theorem Zul (q:Zc) (mask:Int) (x:Int) (i:Int) (k:Int) (r:AV×List Blk) (h:(0≤i∧(∃ (e1:Atom),q.Atoms[i.toNat]?=some e1∧(if k<(e1.Vars.length:Int) then (¬ i<0∧(if (andI (shrI mask i) 1)=1 then (0≤k∧(∃ (e2:Int),e1.Vars[k.toNat]?=some e2∧(¬ e2<0∧(Zgs q mask (orI x (shlI 1 e2)) i (w (k+1))=some r)))) else (Zfl q mask x (w (i+1))=some r))) else (Zfl q mask x (w (i+1))=some r))))):Zgs q mask x i k=some r:=by
 unfold Zgs
 rw [EvL_eq Zsw.eq_1]
 try simp only [itb] at h
 try simp only [itf,gS,kk] at h
 rcases h with ⟨q1,e1,⟨g2,q2⟩,(⟨q3,q4,(⟨q5,q6,e2,⟨g7,q7⟩,q8,h⟩ | ⟨q5,h⟩)⟩ | ⟨q3,h⟩)⟩
 all_goals (refine Eq.trans ?_ h;clear h;simp +decide [*,kk,Zgs,Zfl,Zsx])
theorem Zbfp (a:Zc) (a1:Int) (r:AV×List Blk) (h:(Zfl a a1 0 0=some r)):Zca a a1=some r:=by
 unfold Zca
 refine run Zbb3 rfl ?_
 refine Eq.trans ?_ h;clear h;simp +decide [*,kk,Zzv,Zfl]
theorem Z3a (q:Zc) (mask:Int) (out:Int) (bits:Int) (i:Int) (r:AV×List Blk) (h:(if i<(q.Atoms.length:Int) then (¬ i<0∧(if (andI (shrI mask i) 1)=0 then (∃ (v1_0:Int),Zca q (shlI 1 i)=some (I v1_0,[])∧(if (andI v1_0 bits)=0 then (Zfm q mask out bits (w (i+1))=some r) else (Zfm q mask (orI out (shlI 1 i)) bits (w (i+1))=some r))) else (Zfm q mask out bits (w (i+1))=some r))) else (some (I out,[])=some r))):Zfm q mask out bits i=some r:=by
 unfold Zfm
 rw [EvL_eq Zsy.eq_1]
 simp only [Zca,Zc.c_def,mpl,dfs] at h
 try simp only [itb] at h
 try simp only [itf,gS,kk] at h
 rcases h with ⟨q1,q2,(⟨q3,v1_0,q4,(⟨q5,h⟩ | ⟨q5,h⟩)⟩ | ⟨q3,h⟩)⟩ | ⟨q1,h⟩
 all_goals (refine Eq.trans ?_ h;clear h;simp +decide [*,kk,Zfm,Zzw,Zsz])
theorem Zbfq (a:Zc) (a1:Int) (r:AV×List Blk) (h:(∃ (v1_0:Int),Zca a a1=some (I v1_0,[])∧(Zfm a a1 0 v1_0 0=some r))):Zls a a1=some r:=by
 unfold Zls
 refine run Zbb4 rfl ?_
 simp only [Zca,Zc.c_def,mpl,dfs] at h
 rcases h with ⟨v1_0,q1,h⟩
 all_goals (refine Eq.trans ?_ h;clear h;simp +decide [*,kk,Zzx,Zfm])
theorem Z3b (q:Zc) (mask:Int) (x:Int) (n:Int) (r:AV×List Blk) (h:(if n<(q.Atoms.length:Int) then (∃ (v1_0:Int),Zls q x=some (I v1_0,[])∧(Zie q mask (orI x (andI v1_0 mask)) (w (n+1))=some r)) else (some (Bo (decide (x=mask)),[])=some r))):Zie q mask x n=some r:=by
 unfold Zie
 rw [EvL_eq Zs0.eq_1]
 simp only [Zls,Zc.c_def,mpl,dfs] at h
 try simp only [itb] at h
 try simp only [itf,gS,kk] at h
 rcases h with ⟨q1,v1_0,q2,h⟩ | ⟨q1,h⟩
 all_goals (refine Eq.trans ?_ h;clear h;simp +decide [*,kk,Zie,Zs1])
theorem Zbfr (a:Zc) (a1:Int) (r:AV×List Blk) (h:(Zie a a1 (andI a1 (w (0 - a1))) 0=some r)):Zeo a a1=some r:=by
 unfold Zeo
 refine run Zbb5 rfl ?_
 refine Eq.trans ?_ h;clear h;simp +decide [*,kk,Zzy,Zie]
theorem Zbfs (a:Zc) (a1:Int) (r:AV×List Blk) (h:(∃ (v1_0:Bool),Zid a a1=some (Bo v1_0,[])∧(if v1_0=true then (if 0<a1 then (∃ (v2_0:Bool),Zeo a a1=some (Bo v2_0,[])∧(some (Bo v2_0,[])=some r)) else (some (Bo false,[])=some r)) else (some (Bo false,[])=some r)))):Zif a a1=some r:=by
 unfold Zif
 refine run Zbb6 rfl ?_
 simp only [Zid,Zeo,Zc.c_def,mpl,dfs] at h
 try simp only [itb] at h
 try simp only [itf,gS,kk] at h
 rcases h with ⟨v1_0,q1,(⟨q2,(⟨q3,v2_0,q4,h⟩ | ⟨q3,h⟩)⟩ | ⟨q2,h⟩)⟩
 all_goals (refine Eq.trans ?_ h;clear h;simp +decide [*,kk,Zzz])
theorem Z3c (l:List Int) (i:Int) (r:AV×List Blk) (h:(if i<(l.length:Int) then (0≤i∧(∃ (e1:Int),l[i.toNat]?=some e1∧(∃ (v2_0:Bool),Z1 e1 0 7=some (Bo v2_0,[])∧(if v2_0=true then (Zig l (w (i+1))=some r) else (some (Bo false,[])=some r))))) else (some (Bo (decide ((l.length:Int)≤16)),[])=some r))):Zig l i=some r:=by
 unfold Zig
 rw [EvL_eq Zs2.eq_1]
 simp only [Z1,mpl,dfs] at h
 try simp only [itb] at h
 try simp only [itf,gS,kk] at h
 rcases h with ⟨q1,q2,e1,⟨g3,q3⟩,v2_0,q4,(⟨q5,h⟩ | ⟨q5,h⟩)⟩ | ⟨q1,h⟩
 all_goals (refine Eq.trans ?_ h;clear h;simp +decide [*,kk,Zig,Zs3])
theorem Zbft (a:List Int) (r:AV×List Blk) (h:(Zig a 0=some r)):Zgt a=some r:=by
 unfold Zgt
 refine run Zbb7 rfl ?_
 refine Eq.trans ?_ h;clear h;simp +decide [*,kk,Zz0,Zig]
theorem Z3d (a:List Int) (b:List Int) (i:Int) (r:AV×List Blk) (h:(if i<(a.length:Int) then (0≤i∧(∃ (e1:Int),a[i.toNat]?=some e1∧(∃ (e2:Int),b[i.toNat]?=some e2∧(if e1<e2 then (some (Bo false,[])=some r) else (Zih a b (w (i+1))=some r))))) else (some (Bo true,[])=some r))):Zih a b i=some r:=by
 unfold Zih
 rw [EvL_eq Zs4.eq_1]
 try simp only [itb] at h
 try simp only [itf,gS,kk] at h
 rcases h with ⟨q1,q2,e1,⟨g3,q3⟩,e2,⟨g4,q4⟩,(⟨q5,h⟩ | ⟨q5,h⟩)⟩ | ⟨q1,h⟩
 all_goals (refine Eq.trans ?_ h;clear h;simp +decide [*,kk,Zih,Zs5])
theorem Zbfu (a:List Int) (a1:List Int) (r:AV×List Blk) (h:(if (a.length:Int)=(a1.length:Int) then (Zih a a1 0=some r) else (some (Bo false,[])=some r))):Zgu a a1=some r:=by
 unfold Zgu
 refine run Zbb8 rfl ?_
 try simp only [itb] at h
 try simp only [itf,gS,kk] at h
 rcases h with ⟨q1,h⟩ | ⟨q1,h⟩
 all_goals (refine Eq.trans ?_ h;clear h;simp +decide [*,kk,Zz1,Zih])
theorem Zbfv (a:Box) (r:AV×List Blk) (h:(if 0<(a.Low.length:Int) then (∃ (v1_0:Bool),Zgt a.Low=some (Bo v1_0,[])∧(if v1_0=true then (∃ (v2_0:Bool),Zgt a.High=some (Bo v2_0,[])∧(if v2_0=true then (∃ (v3_0:Bool),Zgu a.High a.Low=some (Bo v3_0,[])∧(some (Bo v3_0,[])=some r)) else (some (Bo false,[])=some r))) else (some (Bo false,[])=some r))) else (some (Bo false,[])=some r))):Zfn a=some r:=by
 unfold Zfn
 refine run Zbb9 rfl ?_
 simp only [Zgt,Zgu,mpl,dfs] at h
 try simp only [itb] at h
 try simp only [itf,gS,kk] at h
 rcases h with ⟨q1,v1_0,q2,(⟨q3,v2_0,q4,(⟨q5,v3_0,q6,h⟩ | ⟨q5,h⟩)⟩ | ⟨q3,h⟩)⟩ | ⟨q1,h⟩
 all_goals (refine Eq.trans ?_ h;clear h;simp +decide [*,kk,Zz2])
theorem Zbfw (a:Int) (a1:Int) (r:AV×List Blk) (h:(∃ (v1_0:Bool),Z1 a1 0 3=some (Bo v1_0,[])∧(if v1_0=true then (¬ a1<0∧(some (Bo (decide ((andI (shrI a a1) 1)=1)),[])=some r)) else (some (Bo false,[])=some r)))):Zfo a a1=some r:=by
 unfold Zfo
 refine run Zbca rfl ?_
 simp only [Z1,mpl,dfs] at h
 try simp only [itb] at h
 try simp only [itf,gS,kk] at h
 rcases h with ⟨v1_0,q1,(⟨q2,q3,h⟩ | ⟨q2,h⟩)⟩
 all_goals (refine Eq.trans ?_ h;clear h;simp +decide [*,kk,Zz3])
theorem Zm2 (q:Zc) (x:Zb) (x1:Zh) (info:List Zh) (stack:List Int) (n:Int) (x2:Int) (x3:Bool) (r:AV×List Blk) (h:(if x3=true then (if x.Atom=0 then (if n<2 then (some (.tup [.agg [I 0,I 0,I 0,I 0],I (-1)],[])=some r) else (0≤(w (n - 2))∧(∃ (e1:Int),stack[(w (n - 2)).toNat]?=some e1∧(0≤e1∧(∃ (e2:Zh),info[e1.toNat]?=some e2∧(0≤(w (n - 1))∧(∃ (e3:Int),stack[(w (n - 1)).toNat]?=some e3∧(0≤e3∧(∃ (e4:Zh),info[e3.toNat]?=some e4∧(∃ (v5_0:Int),Zca q e2.Mask=some (I v5_0,[])∧(∃ (v6_0:Int),Zca q e4.Mask=some (I v6_0,[])∧(if (andI e2.Mask e4.Mask)=0 then (if (andI v5_0 v6_0)=0 then (some (.tup [.agg [I 0,I 0,I 0,I 0],I (-1)],[])=some r) else (if x.Kind=4 then (Zgw q x x1 e2 e4 (⟨(orI e2.Mask e4.Mask),(-1),e1,e3⟩:Zh) (andI v5_0 v6_0) false=some r) else (if x.Order=0 then (if x.Kind=5 then (Zij q x x1 e2 e4 (⟨(orI e2.Mask e4.Mask),e2.Order,e1,e3⟩:Zh) (andI v5_0 v6_0)=some r) else (Zgw q x x1 e2 e4 (⟨(orI e2.Mask e4.Mask),(-1),e1,e3⟩:Zh) (andI v5_0 v6_0) false=some r)) else (some (.tup [.agg [I 0,I 0,I 0,I 0],I (-1)],[])=some r)))) else (some (.tup [.agg [I 0,I 0,I 0,I 0],I (-1)],[])=some r))))))))))))) else (some (.tup [.agg [I 0,I 0,I 0,I 0],I (-1)],[])=some r)) else (some (.tup [.agg [I 0,I 0,I 0,I 0],I (-1)],[])=some r))):Zii q x x1 info stack n x2 x3=some r:=by
 unfold Zii
 rw [Ev_eq Zoq.eq_1]
 by_cases q1:x3=true
 ·rw [if_pos q1] at h
  by_cases q2:x.Atom=0
  ·rw [if_pos q2] at h
   replace q2:=eq_true q2
   by_cases q3:n<2
   ·rw [if_pos q3] at h
    refine Eq.trans ?_ h
    clear h
    simp +decide [*]
   ·rw [if_neg q3] at h
    obtain ⟨q4,h⟩:=h
    obtain ⟨e1,q5,h⟩:=h
    have gq5:=ltOfGet q5
    have kq5:=getOf q5
    obtain ⟨q6,h⟩:=h
    obtain ⟨e2,q7,h⟩:=h
    have gq7:=ltOfGet q7
    have kq7:=getOf q7
    obtain ⟨q8,h⟩:=h
    obtain ⟨e3,q9,h⟩:=h
    have gq9:=ltOfGet q9
    have kq9:=getOf q9
    obtain ⟨q10,h⟩:=h
    obtain ⟨e4,q11,h⟩:=h
    have gq11:=ltOfGet q11
    have kq11:=getOf q11
    obtain ⟨v5_0,q12,h⟩:=h
    unfold Zca at q12
    try simp at q12
    obtain ⟨v6_0,q13,h⟩:=h
    unfold Zca at q13
    try simp at q13
    by_cases q14:(andI e2.Mask e4.Mask)=0
    ·rw [if_pos q14] at h
     replace q14:=eq_true q14
     by_cases q15:(andI v5_0 v6_0)=0
     ·rw [if_pos q15] at h
      replace q15:=eq_true q15
      refine Eq.trans ?_ h
      clear h
      simp +decide [*]
     ·rw [if_neg q15] at h
      replace q15:=eq_false q15
      by_cases q16:x.Kind=4
      ·rw [if_pos q16] at h
       replace q16:=eq_true q16
       have q17:(x.Kind=5)=False:=eq_false (by intro hh;simp_all)
       refine Eq.trans ?_ h
       clear h
       simp +decide [*,Zgw]
      ·rw [if_neg q16] at h
       replace q16:=eq_false q16
       by_cases q18:x.Order=0
       ·rw [if_pos q18] at h
        replace q18:=eq_true q18
        by_cases q19:x.Kind=5
        ·rw [if_pos q19] at h
         replace q19:=eq_true q19
         refine Eq.trans ?_ h
         clear h
         simp +decide [*,Zij]
        ·rw [if_neg q19] at h
         replace q19:=eq_false q19
         refine Eq.trans ?_ h
         clear h
         simp +decide [*,Zgw]
       ·rw [if_neg q18] at h
        replace q18:=eq_false q18
        refine Eq.trans ?_ h
        clear h
        simp +decide [*]
    ·rw [if_neg q14] at h
     replace q14:=eq_false q14
     refine Eq.trans ?_ h
     clear h
     simp +decide [*]
  ·rw [if_neg q2] at h
   replace q2:=eq_false q2
   refine Eq.trans ?_ h
   clear h
   simp +decide [*]
 ·rw [if_neg q1] at h
  refine Eq.trans ?_ h
  clear h
  simp +decide [*]
theorem Zbfx (x:Zc) (x1:Zb) (x2:Zh) (a:Zh) (b:Zh) (y:Zh) (v:Int) (r:AV×List Blk) (h:(if x1.Kind=4 then (∃ (v1_0:Bool),Zfo v x1.Order=some (Bo v1_0,[])∧(if v1_0=true then (if a.Order=x1.Order then (if b.Order=x1.Order then (some (.tup [.agg [I y.Mask,I x1.Order,I y.Left,I y.Right],I 2],[])=some r) else (some (.tup [.agg [I 0,I 0,I 0,I 0],I (-1)],[])=some r)) else (some (.tup [.agg [I 0,I 0,I 0,I 0],I (-1)],[])=some r)) else (some (.tup [.agg [I 0,I 0,I 0,I 0],I (-1)],[])=some r))) else (some (.tup [.agg (y.c.map .t),I 2],[])=some r))):Zij x x1 x2 a b y v=some r:=by
 unfold Zij
 rw [Ev_eq Zlt.eq_1]
 simp only [Zfo,mpl,dfs] at h
 try simp only [itb] at h
 try simp only [itf,gS,kk] at h
 rcases h with ⟨q1,v1_0,q2,(⟨q3,(⟨q4,(⟨q5,h⟩ | ⟨q5,h⟩)⟩ | ⟨q4,h⟩)⟩ | ⟨q3,h⟩)⟩ | ⟨q1,h⟩
 all_goals (refine Eq.trans ?_ h;clear h;simp +decide [*,kk,Zs6])
theorem Zum (x:Zc) (x1:Zb) (x2:Zh) (a:Zh) (b:Zh) (y:Zh) (v:Int) (x3:Bool) (r:AV×List Blk) (h:(if x1.Kind=4 then (∃ (v1_0:Bool),Zfo v x1.Order=some (Bo v1_0,[])∧(if v1_0=true then (if a.Order=x1.Order then (if b.Order=x1.Order then (some (.tup [.agg [I y.Mask,I x1.Order,I y.Left,I y.Right],I 2],[])=some r) else (some (.tup [.agg [I 0,I 0,I 0,I 0],I (-1)],[])=some r)) else (some (.tup [.agg [I 0,I 0,I 0,I 0],I (-1)],[])=some r)) else (some (.tup [.agg [I 0,I 0,I 0,I 0],I (-1)],[])=some r))) else (some (.tup [.agg (y.c.map .t),I 2],[])=some r))):Zgw x x1 x2 a b y v x3=some r:=by
 unfold Zgw
 rw [Ev_eq Zlt.eq_1]
 simp only [Zfo,mpl,dfs] at h
 try simp only [itb] at h
 try simp only [itf,gS,kk] at h
 rcases h with ⟨q1,v1_0,q2,(⟨q3,(⟨q4,(⟨q5,h⟩ | ⟨q5,h⟩)⟩ | ⟨q4,h⟩)⟩ | ⟨q3,h⟩)⟩ | ⟨q1,h⟩
 all_goals (refine Eq.trans ?_ h;clear h;simp +decide [*,kk,Zs6])
theorem Zes (a:Zc) (a1:Zb) (a2:List Zh) (a3:List Int) (r:AV×List Blk) (h:(if a1.Kind=1 then (∃ (v1_0:Bool),Z1 a1.Atom 0 (w ((a.Atoms.length:Int) - 1))=some (Bo v1_0,[])∧(if v1_0=true then (if a1.Order=0 then (¬ a1.Atom<0∧(0≤a1.Atom∧(∃ (e2:Atom),a.Atoms[a1.Atom.toNat]?=some e2∧(∃ (e3:Int),e2.Vars[0]?=some e3∧(some (.tup [.agg [I (shlI 1 a1.Atom),I e3,I (-1),I (-1)],I 0],[])=some r))))) else (some (.tup [.agg [I 0,I 0,I 0,I 0],I (-1)],[])=some r)) else (some (.tup [.agg [I 0,I 0,I 0,I 0],I (-1)],[])=some r))) else (if a1.Kind=2 then (if a1.Atom=0 then (if (a3.length:Int)<1 then (some (.tup [.agg [I 0,I 0,I 0,I 0],I (-1)],[])=some r) else (0≤(w ((a3.length:Int) - 1))∧(∃ (e4:Int),a3[(w ((a3.length:Int) - 1)).toNat]?=some e4∧(0≤e4∧(∃ (e5:Zh),a2[e4.toNat]?=some e5∧(if e5.Order=a1.Order then (some (.tup [.agg [I 0,I 0,I 0,I 0],I (-1)],[])=some r) else (∃ (v6_0:Int),Zca a e5.Mask=some (I v6_0,[])∧(∃ (v7_0:Bool),Zfo v6_0 a1.Order=some (Bo v7_0,[])∧(if v7_0=true then (some (.tup [.agg [I e5.Mask,I a1.Order,I e4,I (-1)],I 1],[])=some r) else (some (.tup [.agg [I 0,I 0,I 0,I 0],I (-1)],[])=some r)))))))))) else (some (.tup [.agg [I 0,I 0,I 0,I 0],I (-1)],[])=some r)) else (if a1.Kind=3 then (Zii a a1 (⟨0,0,0,0⟩:Zh) a2 a3 (a3.length:Int) a1.Kind true=some r) else (if a1.Kind=4 then (Zii a a1 (⟨0,0,0,0⟩:Zh) a2 a3 (a3.length:Int) a1.Kind true=some r) else (if a1.Kind=5 then (if a1.Atom=0 then (if (a3.length:Int)<2 then (some (.tup [.agg [I 0,I 0,I 0,I 0],I (-1)],[])=some r) else (0≤(w ((a3.length:Int) - 2))∧(∃ (e8:Int),a3[(w ((a3.length:Int) - 2)).toNat]?=some e8∧(0≤e8∧(∃ (e9:Zh),a2[e8.toNat]?=some e9∧(0≤(w ((a3.length:Int) - 1))∧(∃ (e10:Int),a3[(w ((a3.length:Int) - 1)).toNat]?=some e10∧(0≤e10∧(∃ (e11:Zh),a2[e10.toNat]?=some e11∧(∃ (v12_0:Int),Zca a e9.Mask=some (I v12_0,[])∧(∃ (v13_0:Int),Zca a e11.Mask=some (I v13_0,[])∧(if (andI e9.Mask e11.Mask)=0 then (if (andI v12_0 v13_0)=0 then (some (.tup [.agg [I 0,I 0,I 0,I 0],I (-1)],[])=some r) else (if a1.Order=0 then (Zij a a1 (⟨0,0,0,0⟩:Zh) e9 e11 (⟨(orI e9.Mask e11.Mask),e9.Order,e8,e10⟩:Zh) (andI v12_0 v13_0)=some r) else (some (.tup [.agg [I 0,I 0,I 0,I 0],I (-1)],[])=some r))) else (some (.tup [.agg [I 0,I 0,I 0,I 0],I (-1)],[])=some r))))))))))))) else (some (.tup [.agg [I 0,I 0,I 0,I 0],I (-1)],[])=some r)) else (some (.tup [.agg [I 0,I 0,I 0,I 0],I (-1)],[])=some r))))))):Zgv a a1 a2 a3=some r:=by
 unfold Zgv
 refine run Zbcb rfl ?_
 simp only [Z1,Zca,Zfo,Zc.c_def,mpl,dfs] at h
 try simp only [itb] at h
 try simp only [itf,gS,kk] at h
 rcases h with ⟨q1,v1_0,q2,(⟨q3,(⟨q4,q5,q6,e2,⟨g7,q7⟩,e3,⟨g8,q8⟩,h⟩ | ⟨q4,h⟩)⟩ | ⟨q3,h⟩)⟩ | ⟨q1,(⟨q9,(⟨q10,(⟨q11,h⟩ | ⟨q11,q12,e4,⟨g13,q13⟩,q14,e5,⟨g15,q15⟩,(⟨q16,h⟩ | ⟨q16,v6_0,q17,v7_0,q18,(⟨q19,h⟩ | ⟨q19,h⟩)⟩)⟩)⟩ | ⟨q10,h⟩)⟩ | ⟨q9,(⟨q20,h⟩ | ⟨q20,(⟨q21,h⟩ | ⟨q21,(⟨q22,(⟨q23,(⟨q24,h⟩ | ⟨q24,q25,e8,⟨g26,q26⟩,q27,e9,⟨g28,q28⟩,q29,e10,⟨g30,q30⟩,q31,e11,⟨g32,q32⟩,v12_0,q33,v13_0,q34,(⟨q35,(⟨q36,h⟩ | ⟨q36,(⟨q37,h⟩ | ⟨q37,h⟩)⟩)⟩ | ⟨q35,h⟩)⟩)⟩ | ⟨q23,h⟩)⟩ | ⟨q22,h⟩)⟩)⟩)⟩)⟩
 all_goals (refine Eq.trans ?_ h;clear h;simp +decide [*,kk,Zz4,Zii,Zoq,Zij])
theorem Z3e (q:Zc) (p:Plan) (info:List Zh) (stack:List Int) (i:Int) (r:AV×List Blk) (h:(if i<(p.Steps.length:Int) then (0≤i∧(∃ (e1:Zb),p.Steps[i.toNat]?=some e1∧(∃ (v2_0:Zh) (v2_1:Int),Zgv q e1 info stack=some (.tup [.agg (v2_0.c.map .t),I v2_1],[])∧(if v2_1<0 then (some (.tup [.own 0,Bo false],[.arr 138 4 true (([]:List Zh).map Zh.c)])=some r) else (info.length+1≤68719476736∧(0≤(w ((stack.length:Int) - v2_1))∧((w ((stack.length:Int) - v2_1)).toNat≤stack.length∧((w ((stack.length:Int) - v2_1)).toNat≤68719476736∧((w ((stack.length:Int) - v2_1)).toNat+1≤68719476736∧(Zil q p (info++[v2_0]) ((stack.take ((w ((stack.length:Int) - v2_1)).toNat))++[i]) (w (i+1))=some r)))))))))) else (if (stack.length:Int)=1 then (some (.tup [.own 0,Bo true],[.arr 138 4 true (info.map Zh.c)])=some r) else (some (.tup [.own 0,Bo false],[.arr 138 4 true (([]:List Zh).map Zh.c)])=some r)))):Zil q p info stack i=some r:=by
 unfold Zil
 rw [EvL_eq Zs7.eq_1]
 simp only [Zgv,Zb.c_def,Zc.c_def,Zh.c_def,mpl,dfs] at h
 try simp only [itb] at h
 try simp only [itf,gS,kk] at h
 rcases h with ⟨q1,q2,e1,⟨g3,q3⟩,v2_0,v2_1,q4,(⟨q5,h⟩ | ⟨q5,q6,q7,q8,q9,q10,h⟩)⟩ | ⟨q1,(⟨q11,h⟩ | ⟨q11,h⟩)⟩
 all_goals (refine Eq.trans ?_ h;clear h;simp +decide [*,kk,Zil,Zs8])
theorem Zbfy (a:Zc) (a1:Plan) (r:AV×List Blk) (h:(∃ (v1_0:Bool),Zd2 a=some (Bo v1_0,[])∧(if v1_0=true then (∃ (v2_0:Bool),Z1 (a1.Steps.length:Int) 1 14=some (Bo v2_0,[])∧(if v2_0=true then (Zil a a1 ([]:List Zh) ([]:List Int) 0=some r) else (some (.tup [.own 0,Bo false],[.arr 138 4 true (([]:List Zh).map Zh.c)])=some r))) else (some (.tup [.own 0,Bo false],[.arr 138 4 true (([]:List Zh).map Zh.c)])=some r)))):Zik a a1=some r:=by
 unfold Zik
 refine run Zbcc rfl ?_
 simp only [Zd2,Z1,Zc.c_def,mpl,dfs] at h
 try simp only [itb] at h
 try simp only [itf,gS,kk] at h
 rcases h with ⟨v1_0,q1,(⟨q2,v2_0,q3,(⟨q4,h⟩ | ⟨q4,h⟩)⟩ | ⟨q2,h⟩)⟩
 all_goals (refine Eq.trans ?_ h;clear h;simp +decide [*,kk,Zz5,Zil])
theorem Zbfz (a:Zc) (a1:Plan) (r:AV×List Blk) (h:(∃ (v1_0:List Zh) (v1_1:Bool),Zik a a1=some (.tup [.own 0,Bo v1_1],[.arr 138 4 true (v1_0.map Zh.c)])∧(if v1_1=true then (0≤(w ((v1_0.length:Int) - 1))∧(∃ (e2:Zh),v1_0[(w ((v1_0.length:Int) - 1)).toNat]?=some e2∧(some (I e2.Mask,[])=some r))) else (some (I 0,[])=some r)))):Zlu a a1=some r:=by
 unfold Zlu
 refine run Zbcd rfl ?_
 simp only [Zik,Plan.c_def,Zc.c_def,mpl,dfs] at h
 try simp only [itb] at h
 try simp only [itf,gS,kk] at h
 rcases h with ⟨v1_0,v1_1,q1,(⟨q2,q3,e2,⟨g4,q4⟩,h⟩ | ⟨q2,h⟩)⟩
 all_goals (refine Eq.trans ?_ h;clear h;simp +decide [*,kk,Zz6])
theorem Zbf0 (a:Zc) (a1:Region) (r:AV×List Blk) (h:(∃ (v1_0:Bool),Zfn a1.Box=some (Bo v1_0,[])∧(if v1_0=true then (∃ (v2_0:Int),Zc9 a=some (I v2_0,[])∧(if (a1.Box.Low.length:Int)=(w (v2_0+1)) then (∃ (v3_0:Int),Zlu a a1.Plan=some (I v3_0,[])∧(if v3_0=v2_0 then (if 0<v2_0 then (∃ (v4_0:Bool),Z1 a1.Percent 100 1000=some (Bo v4_0,[])∧(some (Bo v4_0,[])=some r)) else (some (Bo false,[])=some r)) else (some (Bo false,[])=some r))) else (some (Bo false,[])=some r))) else (some (Bo false,[])=some r)))):Zlv a a1=some r:=by
 unfold Zlv
 refine run Zbce rfl ?_
 simp only [Zfn,Zc9,Zlu,Z1,Box.c_def,Plan.c_def,Zc.c_def,mpl,dfs] at h
 try simp only [itb] at h
 try simp only [itf,gS,kk] at h
 rcases h with ⟨v1_0,q1,(⟨q2,v2_0,q3,(⟨q4,v3_0,q5,(⟨q6,(⟨q7,v4_0,q8,h⟩ | ⟨q7,h⟩)⟩ | ⟨q6,h⟩)⟩ | ⟨q4,h⟩)⟩ | ⟨q2,h⟩)⟩
 all_goals (refine Eq.trans ?_ h;clear h;simp +decide [*,kk,Zz7])
theorem Z3f (q:Zc) (out:List Int) (full:Int) (m:Int) (r:AV×List Blk) (h:(if m≤full then (∃ (v1_0:Bool),Zeo q m=some (Bo v1_0,[])∧(if v1_0=true then (out.length+1≤68719476736∧(Zgx q (out++[m]) full (w (m+1))=some r)) else (Zgx q out full (w (m+1))=some r))) else (some (.own 0,[.arr 3 1 true (out.map ic)])=some r))):Zgx q out full m=some r:=by
 unfold Zgx
 rw [EvL_eq Zs9.eq_1]
 simp only [Zeo,Zc.c_def,mpl,dfs] at h
 try simp only [itb] at h
 try simp only [itf,gS,kk] at h
 rcases h with ⟨q1,v1_0,q2,(⟨q3,q4,h⟩ | ⟨q3,h⟩)⟩ | ⟨q1,h⟩
 all_goals (refine Eq.trans ?_ h;clear h;simp +decide [*,kk,Zgx,Zz8,Zta])
theorem Zbf1 (a:Zc) (r:AV×List Blk) (h:(∃ (v1_0:Int),Zc9 a=some (I v1_0,[])∧(Zgx a ([]:List Int) v1_0 1=some r))):Zlw a=some r:=by
 unfold Zlw
 refine run Zbcf rfl ?_
 simp only [Zc9,Zc.c_def,mpl,dfs] at h
 rcases h with ⟨v1_0,q1,h⟩
 all_goals (refine Eq.trans ?_ h;clear h;simp +decide [*,kk,Zz9,Zgx])
theorem Z3g (q:Zc) (out:List Int) (mask:Int) (m:Int) (r:AV×List Blk) (h:(if m<mask then (if (andI m mask)=m then (∃ (v1_0:Bool),Zeo q m=some (Bo v1_0,[])∧(if v1_0=true then (∃ (v2_0:Bool),Zeo q (w (mask - m))=some (Bo v2_0,[])∧(if v2_0=true then (out.length+1≤68719476736∧(Zd3 q (out++[m]) mask (w (m+1))=some r)) else (Zd3 q out mask (w (m+1))=some r))) else (Zd3 q out mask (w (m+1))=some r))) else (Zd3 q out mask (w (m+1))=some r)) else (some (.own 0,[.arr 3 1 true (out.map ic)])=some r))):Zd3 q out mask m=some r:=by
 unfold Zd3
 rw [EvL_eq Ztb.eq_1]
 simp only [Zeo,Zc.c_def,mpl,dfs] at h
 try simp only [itb] at h
 try simp only [itf,gS,kk] at h
 rcases h with ⟨q1,(⟨q2,v1_0,q3,(⟨q4,v2_0,q5,(⟨q6,q7,h⟩ | ⟨q6,h⟩)⟩ | ⟨q4,h⟩)⟩ | ⟨q2,h⟩)⟩ | ⟨q1,h⟩
 all_goals (refine Eq.trans ?_ h;clear h;simp +decide [*,kk,Zd3,Z0a,Ztc])
theorem Zbf2 (a:Zc) (a1:Int) (r:AV×List Blk) (h:(∃ (v1_0:Bool),Zif a a1=some (Bo v1_0,[])∧(if v1_0=true then (Zd3 a ([]:List Int) a1 1=some r) else (some (.own 0,[.arr 3 1 true (([]:List Int).map ic)])=some r)))):Zlx a a1=some r:=by
 unfold Zlx
 refine run Zbcg rfl ?_
 simp only [Zif,Zc.c_def,mpl,dfs] at h
 try simp only [itb] at h
 try simp only [itf,gS,kk] at h
 rcases h with ⟨v1_0,q1,(⟨q2,h⟩ | ⟨q2,h⟩)⟩
 all_goals (refine Eq.trans ?_ h;clear h;simp +decide [*,kk,Z0b,Zd3])
theorem Z3h (out:List Int) (bits:Int) (v:Int) (r:AV×List Blk) (h:(if v<4 then (¬ v<0∧(if (andI (shrI bits v) 1)=1 then (out.length+1≤68719476736∧(Zgy (out++[v]) bits (w (v+1))=some r)) else (Zgy out bits (w (v+1))=some r))) else (some (.own 0,[.arr 3 1 true (out.map ic)])=some r))):Zgy out bits v=some r:=by
 unfold Zgy
 rw [EvL_eq Ztd.eq_1]
 try simp only [itb] at h
 try simp only [itf,gS,kk] at h
 rcases h with ⟨q1,q2,(⟨q3,q4,h⟩ | ⟨q3,h⟩)⟩ | ⟨q1,h⟩
 all_goals (refine Eq.trans ?_ h;clear h;simp +decide [*,kk,Zgy,Z0c,Zte])
theorem Zbf3 (a:Int) (r:AV×List Blk) (h:(Zgy ([]:List Int) a 0=some r)):Zor a=some r:=by
 unfold Zor
 refine run Zbch rfl ?_
 refine Eq.trans ?_ h;clear h;simp +decide [*,kk,Z0d,Zgy]
theorem Zbf4 (a:Zc) (a1:Int) (r:AV×List Blk) (h:(∃ (v1_0:Bool),Zid a a1=some (Bo v1_0,[])∧(if v1_0=true then (∃ (v2_0:Int),Zca a a1=some (I v2_0,[])∧(∃ (v3_0:List Int),Zor v2_0=some (.own 0,[.arr 3 1 true (v3_0.map ic)])∧(some (.own 0,[.arr 3 1 true (v3_0.map ic)])=some r))) else (some (.own 0,[.arr 3 1 true (([]:List Int).map ic)])=some r)))):Zju a a1=some r:=by
 unfold Zju
 refine run Zbci rfl ?_
 simp only [Zid,Zca,Zor,Zc.c_def,mpl,dfs] at h
 try simp only [itb] at h
 try simp only [itf,gS,kk] at h
 rcases h with ⟨v1_0,q1,(⟨q2,v2_0,q3,v3_0,q4,h⟩ | ⟨q2,h⟩)⟩
 all_goals (refine Eq.trans ?_ h;clear h;simp +decide [*,kk,Z0e])
theorem Z3i (out:List Int) (x:List Int) (y:List Int) (i:Int) (r:AV×List Blk) (h:(if i<(x.length:Int) then (0≤i∧(∃ (e1:Int),x[i.toNat]?=some e1∧(∃ (v2_0:Bool),Zia y e1=some (Bo v2_0,[])∧(if v2_0=true then (out.length+1≤68719476736∧(Zg0 (out++[e1]) x y (w (i+1))=some r)) else (Zg0 out x y (w (i+1))=some r))))) else (some (.own 0,[.arr 3 1 true (out.map ic)])=some r))):Zg0 out x y i=some r:=by
 unfold Zg0
 rw [EvL_eq Ztf.eq_1]
 simp only [Zia,mpl,dfs] at h
 try simp only [itb] at h
 try simp only [itf,gS,kk] at h
 rcases h with ⟨q1,q2,e1,⟨g3,q3⟩,v2_0,q4,(⟨q5,q6,h⟩ | ⟨q5,h⟩)⟩ | ⟨q1,h⟩
 all_goals (refine Eq.trans ?_ h;clear h;simp +decide [*,kk,Zg0,Z0f,Ztg])
theorem Zbf5 (a:Zc) (a1:Int) (a2:Int) (r:AV×List Blk) (h:(∃ (v1_0:List Int),Zju a a1=some (.own 0,[.arr 3 1 true (v1_0.map ic)])∧(∃ (v2_0:List Int),Zju a a2=some (.own 0,[.arr 3 1 true (v2_0.map ic)])∧(Zg0 ([]:List Int) v1_0 v2_0 0=some r)))):Zgz a a1 a2=some r:=by
 unfold Zgz
 refine run Zbcj rfl ?_
 simp only [Zju,Zc.c_def,mpl,dfs] at h
 rcases h with ⟨v1_0,q1,v2_0,q2,h⟩
 all_goals (refine Eq.trans ?_ h;clear h;simp +decide [*,kk,Z0g,Zg0])
theorem Z3j (q:Zc) (out:List Zv) (masks:List Int) (i:Int) (r:AV×List Blk) (h:(if i<(masks.length:Int) then (0≤i∧(∃ (e1:Int),masks[i.toNat]?=some e1∧(∃ (v2_0:List Int),Zlx q e1=some (.own 0,[.arr 3 1 true (v2_0.map ic)])∧(Zl4 q out masks e1 v2_0 i 0=some r)))) else (some (.own 0,[.arr 242 3 true (out.map Zv.c)])=some r))):Zd4 q out masks i=some r:=by
 unfold Zd4
 rw [EvL_eq Zl1.eq_1]
 simp only [Zlx,Zc.c_def,mpl,dfs] at h
 try simp only [itb] at h
 try simp only [itf,gS,kk] at h
 rcases h with ⟨q1,q2,e1,⟨g3,q3⟩,v2_0,q4,h⟩ | ⟨q1,h⟩
 all_goals (refine Eq.trans ?_ h;clear h;simp +decide [*,kk,Zl4,Zl2])
theorem Zbf6 (q:Zc) (out:List Zv) (masks:List Int) (mask:Int) (x:List Int) (i:Int) (k:Int) (r:AV×List Blk) (h:(if k<(x.length:Int) then (0≤k∧(∃ (e1:Int),x[k.toNat]?=some e1∧(0≤i∧(∃ (e2:Int),masks[i.toNat]?=some e2∧(∃ (v3_0:List Int),Zgz q e1 (w (e2 - e1))=some (.own 0,[.arr 3 1 true (v3_0.map ic)])∧(Zim q out masks mask x ([v3_0]) i (w (k+1))=some r)))))) else (out.length+1≤68719476736∧(Zd4 q (out++[(⟨mask,x,[]⟩:Zv)]) masks (w (i+1))=some r)))):Zl4 q out masks mask x i k=some r:=by
 unfold Zl4
 rw [EvL_eq Zly.eq_1]
 simp only [Zgz,Zc.c_def,mpl,dfs] at h
 try simp only [itb] at h
 try simp only [itf,gS,kk] at h
 rcases h with ⟨q1,q2,e1,⟨g3,q3⟩,q4,e2,⟨g5,q5⟩,v3_0,q6,h⟩ | ⟨q1,q7,h⟩
 all_goals (refine Eq.trans ?_ h;clear h;simp +decide [*,kk,Zim,Zd4,Zl0,Zlz])
theorem Z3k (q:Zc) (out:List Zv) (masks:List Int) (mask:Int) (x:List Int) (x1:List (List Int)) (i:Int) (k:Int) (r:AV×List Blk) (h:(if k<(x.length:Int) then (0≤k∧(∃ (e1:Int),x[k.toNat]?=some e1∧(0≤i∧(∃ (e2:Int),masks[i.toNat]?=some e2∧(∃ (v3_0:List Int),Zgz q e1 (w (e2 - e1))=some (.own 0,[.arr 3 1 true (v3_0.map ic)])∧(x1.length+1≤68719476736∧(Zim q out masks mask x (x1++[v3_0]) i (w (k+1))=some r))))))) else (out.length+1≤68719476736∧(Zd4 q (out++[(⟨mask,x,x1⟩:Zv)]) masks (w (i+1))=some r)))):Zim q out masks mask x x1 i k=some r:=by
 unfold Zim
 rw [EvL_eq Zly.eq_1]
 simp only [Zgz,Zc.c_def,mpl,dfs] at h
 try simp only [itb] at h
 try simp only [itf,gS,kk] at h
 rcases h with ⟨q1,q2,e1,⟨g3,q3⟩,q4,e2,⟨g5,q5⟩,v3_0,q6,q7,h⟩ | ⟨q1,q8,h⟩
 all_goals (refine Eq.trans ?_ h;clear h;simp +decide [*,kk,Zim,Zd4,Zl0,Zlz])
theorem Zbf7 (a:Zc) (r:AV×List Blk) (h:(∃ (v1_0:List Int),Zlw a=some (.own 0,[.arr 3 1 true (v1_0.map ic)])∧(Zd4 a ([]:List Zv) v1_0 0=some r))):Zl3 a=some r:=by
 unfold Zl3
 refine run Zbck rfl ?_
 simp only [Zlw,Zc.c_def,mpl,dfs] at h
 rcases h with ⟨v1_0,q1,h⟩
 all_goals (refine Eq.trans ?_ h;clear h;simp +decide [*,kk,Z0h,Zd4])
theorem Zun (out:List Int) (l:List Int) (i:Int) (r:AV×List Blk) (h:(if i<(l.length:Int) then (∃ (v1_0:Bool),Zgt l=some (Bo v1_0,[])∧(if v1_0=true then (0≤i∧(∃ (e2:Int),l[i.toNat]?=some e2∧(∃ (v3_0:Int),Zfj e2=some (I v3_0,[])∧(out.length+1≤68719476736∧(Zio (out++[v3_0]) l (w (i+1))=some r))))) else (some (.own 0,[.arr 3 1 true (out.map ic)])=some r))) else (some (.own 0,[.arr 3 1 true (out.map ic)])=some r))):Zio out l i=some r:=by
 unfold Zio
 rw [EvL_eq Zth.eq_1]
 simp only [Zgt,Zfj,mpl,dfs] at h
 try simp only [itb] at h
 try simp only [itf,gS,kk] at h
 rcases h with ⟨q1,v1_0,q2,(⟨q3,q4,e2,⟨g5,q5⟩,v3_0,q6,q7,h⟩ | ⟨q3,h⟩)⟩ | ⟨q1,h⟩
 all_goals (refine Eq.trans ?_ h;clear h;simp +decide [*,kk,Zio,Zti])
theorem Z3l (a:List Int) (r:AV×List Blk) (h:(Zio ([]:List Int) a 0=some r)):Zin a=some r:=by
 unfold Zin
 refine run Zbcl rfl ?_
 refine Eq.trans ?_ h;clear h;simp +decide [*,kk,Z0i,Zio]
theorem Z3m (out:List Int) (mask:Int) (i:Int) (r:AV×List Blk) (h:(if i<4 then (∃ (v1_0:Bool),Z1 mask 0 15=some (Bo v1_0,[])∧(if v1_0=true then (¬ i<0∧(if (andI (shrI mask i) 1)=1 then (out.length+1≤68719476736∧(Zg1 (out++[i]) mask (w (i+1))=some r)) else (Zg1 out mask (w (i+1))=some r))) else (some (.own 0,[.arr 3 1 true (out.map ic)])=some r))) else (some (.own 0,[.arr 3 1 true (out.map ic)])=some r))):Zg1 out mask i=some r:=by
 unfold Zg1
 rw [EvL_eq Ztj.eq_1]
 simp only [Z1,mpl,dfs] at h
 try simp only [itb] at h
 try simp only [itf,gS,kk] at h
 rcases h with ⟨q1,v1_0,q2,(⟨q3,q4,(⟨q5,q6,h⟩ | ⟨q5,h⟩)⟩ | ⟨q3,h⟩)⟩ | ⟨q1,h⟩
 all_goals (refine Eq.trans ?_ h;clear h;simp +decide [*,kk,Zg1,Z0j,Ztk])
theorem Zbf8 (a:Int) (r:AV×List Blk) (h:(Zg1 ([]:List Int) a 0=some r)):Zl5 a=some r:=by
 unfold Zl5
 refine run Zbcm rfl ?_
 refine Eq.trans ?_ h;clear h;simp +decide [*,kk,Z0k,Zg1]
theorem Zbf9 (a:Int) (r:AV×List Blk) (h:(some (.agg [.own 0],[.arr 142 3 true (([(⟨1,a,0⟩:Zb)]).map Zb.c)])=some r)):Zl6 a=some r:=by
 unfold Zl6
 refine run Zbcn rfl ?_
 refine Eq.trans ?_ h;clear h;simp +decide [*,kk,Z0l]
theorem Z3n (l:List Za) (mask:Int) (best:Int) (i:Int) (r:AV×List Blk) (h:(if i<(l.length:Int) then (0≤i∧(∃ (e1:Za),l[i.toNat]?=some e1∧(if e1.Mask=mask then (if best<0 then (Zeq l mask i (w (i+1))=some r) else (0≤best∧(∃ (e2:Za),l[best.toNat]?=some e2∧(if e1.Cost<e2.Cost then (Zeq l mask i (w (i+1))=some r) else (Zeq l mask best (w (i+1))=some r))))) else (Zeq l mask best (w (i+1))=some r)))) else (some (I best,[])=some r))):Zeq l mask best i=some r:=by
 unfold Zeq
 rw [EvL_eq Ztl.eq_1]
 try simp only [itb] at h
 try simp only [itf,gS,kk] at h
 rcases h with ⟨q1,q2,e1,⟨g3,q3⟩,(⟨q4,(⟨q5,h⟩ | ⟨q5,q6,e2,⟨g7,q7⟩,(⟨q8,h⟩ | ⟨q8,h⟩)⟩)⟩ | ⟨q4,h⟩)⟩ | ⟨q1,h⟩
 all_goals (refine Eq.trans ?_ h;clear h;simp +decide [*,kk,Zeq,Z0m,Ztm])
theorem Zbga (a:List Za) (a1:Int) (r:AV×List Blk) (h:(Zeq a a1 (-1) 0=some r)):Zep a a1=some r:=by
 unfold Zep
 refine run Zbco rfl ?_
 refine Eq.trans ?_ h;clear h;simp +decide [*,kk,Z0n,Zeq]
theorem Zbgb (a:Plan) (a1:Plan) (a2:Int) (a3:Int) (r:AV×List Blk) (h:(a.Steps.length≤68719476736∧(a.Steps.length+a1.Steps.length≤68719476736∧(a.Steps.length+a1.Steps.length+1≤68719476736∧(some (.agg [.own 0],[.arr 142 3 true (((a.Steps++a1.Steps)++[(⟨a2,0,a3⟩:Zb)]).map Zb.c)])=some r))))):Zcp a a1 a2 a3=some r:=by
 unfold Zcp
 refine run Zbcp rfl ?_
 rcases h with ⟨q1,q2,q3,h⟩
 all_goals (refine Eq.trans ?_ h;clear h;simp +decide [*,kk,Z0o])
theorem Zbgc (x:List Int) (x1:List Za) (a:Zd) (a1:Za) (a2:Za) (a3:Int) (a4:Int) (a5:Int) (r:AV×List Blk) (h:(∃ (v1_0:Zi),Zco a a3=some (.agg (v1_0.c.map .t),[])∧(0≤a1.Mask∧(∃ (e2:Int),x[a1.Mask.toNat]?=some e2∧(0≤a2.Mask∧(∃ (e3:Int),x[a2.Mask.toNat]?=some e3∧(0≤(orI a1.Mask a2.Mask)∧(∃ (e4:Int),x[(orI a1.Mask a2.Mask).toNat]?=some e4∧(∃ (v5_0:Int),Zbv v1_0 e2 e3 e4=some (I v5_0,[])∧(0≤(w (a5+1))∧(∃ (e6:Za),x1[(w (a5+1)).toNat]?=some e6∧(if e6.Mask=0 then (∃ (v7_0:List Zb),Zcp a1.Plan a2.Plan a3 a4=some (.agg [.own 0],[.arr 142 3 true (v7_0.map Zb.c)])∧(some (.tup [],[.arr 3 1 true (x.map ic),.arr 174 4 true ((x1.set ((w (a5+1)).toNat) (⟨(orI a1.Mask a2.Mask),a5,(w ((w (a1.Cost+a2.Cost))+v5_0)),(⟨v7_0⟩:Plan)⟩:Za)).map Za.c)])=some r)) else (if (w ((w (a1.Cost+a2.Cost))+v5_0))<e6.Cost then (∃ (v8_0:List Zb),Zcp a1.Plan a2.Plan a3 a4=some (.agg [.own 0],[.arr 142 3 true (v8_0.map Zb.c)])∧(some (.tup [],[.arr 3 1 true (x.map ic),.arr 174 4 true ((x1.set ((w (a5+1)).toNat) (⟨(orI a1.Mask a2.Mask),a5,(w ((w (a1.Cost+a2.Cost))+v5_0)),(⟨v8_0⟩:Plan)⟩:Za)).map Za.c)])=some r)) else (some (.tup [],[.arr 3 1 true (x.map ic),.arr 174 4 true (x1.map Za.c)])=some r)))))))))))))):Zfp x x1 a a1 a2 a3 a4 a5=some r:=by
 unfold Zfp
 refine runM Zpd rfl ?_
 simp only [Zco,Zbv,Zcp,Zd.c_def,Zi.c_def,Plan.c_def,mpl,dfs] at h
 try simp only [itb] at h
 try simp only [itf,gS,kk] at h
 rcases h with ⟨v1_0,q1,q2,e2,⟨g3,q3⟩,q4,e3,⟨g5,q5⟩,q6,e4,⟨g7,q7⟩,v5_0,q8,q9,e6,⟨g10,q10⟩,(⟨q11,v7_0,q12,h⟩ | ⟨q11,(⟨q13,v8_0,q14,h⟩ | ⟨q13,h⟩)⟩)⟩
 all_goals (refine Eq.trans ?_ h;clear h;simp +decide [*,kk,Zl7])
theorem Z3o (l:List Za) (mask:Int) (order:Int) (i:Int) (r:AV×List Blk) (h:(if i<(l.length:Int) then (0≤i∧(∃ (e1:Za),l[i.toNat]?=some e1∧(if e1.Mask=mask then (if e1.Order=order then (some (I i,[])=some r) else (Zg2 l mask order (w (i+1))=some r)) else (Zg2 l mask order (w (i+1))=some r)))) else (some (I (-1),[])=some r))):Zg2 l mask order i=some r:=by
 unfold Zg2
 rw [EvL_eq Ztn.eq_1]
 try simp only [itb] at h
 try simp only [itf,gS,kk] at h
 rcases h with ⟨q1,q2,e1,⟨g3,q3⟩,(⟨q4,(⟨q5,h⟩ | ⟨q5,h⟩)⟩ | ⟨q4,h⟩)⟩ | ⟨q1,h⟩
 all_goals (refine Eq.trans ?_ h;clear h;simp +decide [*,kk,Zg2,Zto])
theorem Zbgd (a:List Za) (a1:Int) (a2:Int) (r:AV×List Blk) (h:(Zg2 a a1 a2 0=some r)):Zip a a1 a2=some r:=by
 unfold Zip
 refine run Zbcq rfl ?_
 refine Eq.trans ?_ h;clear h;simp +decide [*,kk,Z0p,Zg2]
theorem Zbge (a:Plan) (a1:Int) (r:AV×List Blk) (h:(a.Steps.length≤68719476736∧(a.Steps.length+1≤68719476736∧(some (.agg [.own 0],[.arr 142 3 true ((a.Steps++[(⟨2,0,a1⟩:Zb)]).map Zb.c)])=some r)))):Zjv a a1=some r:=by
 unfold Zjv
 refine run Zbcr rfl ?_
 rcases h with ⟨q1,q2,h⟩
 all_goals (refine Eq.trans ?_ h;clear h;simp +decide [*,kk,Z0q])
theorem Zbgf (x:List Int) (x1:List Za) (x2:List Zb) (a:Zd) (a1:Za) (Mask:Int) (Order:Int) (Cost:Int) (a2:Int) (a3:Int) (a4:Int) (r:AV×List Blk) (h:(∃ (v1_0:Zi),Zco a a2=some (.agg (v1_0.c.map .t),[])∧(0≤a1.Mask∧(∃ (e2:Int),x[a1.Mask.toNat]?=some e2∧(0≤Mask∧(∃ (e3:Int),x[Mask.toNat]?=some e3∧(0≤(orI a1.Mask Mask)∧(∃ (e4:Int),x[(orI a1.Mask Mask).toNat]?=some e4∧(∃ (v5_0:Int),Zbv v1_0 e2 e3 e4=some (I v5_0,[])∧(0≤(w (a4+1))∧(∃ (e6:Za),x1[(w (a4+1)).toNat]?=some e6∧(if e6.Mask=0 then (∃ (v7_0:List Zb),Zcp a1.Plan (⟨x2⟩:Plan) a2 a3=some (.agg [.own 0],[.arr 142 3 true (v7_0.map Zb.c)])∧(some (.tup [],[.arr 3 1 true (x.map ic),.arr 174 4 true ((x1.set ((w (a4+1)).toNat) (⟨(orI a1.Mask Mask),a4,(w ((w (a1.Cost+Cost))+v5_0)),(⟨v7_0⟩:Plan)⟩:Za)).map Za.c),.arr 142 3 true (x2.map Zb.c)])=some r)) else (if (w ((w (a1.Cost+Cost))+v5_0))<e6.Cost then (∃ (v8_0:List Zb),Zcp a1.Plan (⟨x2⟩:Plan) a2 a3=some (.agg [.own 0],[.arr 142 3 true (v8_0.map Zb.c)])∧(some (.tup [],[.arr 3 1 true (x.map ic),.arr 174 4 true ((x1.set ((w (a4+1)).toNat) (⟨(orI a1.Mask Mask),a4,(w ((w (a1.Cost+Cost))+v5_0)),(⟨v8_0⟩:Plan)⟩:Za)).map Za.c),.arr 142 3 true (x2.map Zb.c)])=some r)) else (some (.tup [],[.arr 3 1 true (x.map ic),.arr 174 4 true (x1.map Za.c),.arr 142 3 true (x2.map Zb.c)])=some r)))))))))))))):Zl8 x x1 x2 a a1 Mask Order Cost a2 a3 a4=some r:=by
 unfold Zl8
 refine runM Zpd rfl ?_
 simp only [Zco,Zbv,Zcp,Zd.c_def,Zi.c_def,Plan.c_def,mpl,dfs] at h
 try simp only [itb] at h
 try simp only [itf,gS,kk] at h
 rcases h with ⟨v1_0,q1,q2,e2,⟨g3,q3⟩,q4,e3,⟨g5,q5⟩,q6,e4,⟨g7,q7⟩,v5_0,q8,q9,e6,⟨g10,q10⟩,(⟨q11,v7_0,q12,h⟩ | ⟨q11,(⟨q13,v8_0,q14,h⟩ | ⟨q13,h⟩)⟩)⟩
 all_goals (refine Eq.trans ?_ h;clear h;simp +decide [*,kk,Zl7])
theorem Zbgg (x:List Int) (x1:List Za) (x2:List Zb) (a:Zd) (Mask:Int) (Order:Int) (Cost:Int) (a1:Za) (a2:Int) (a3:Int) (a4:Int) (r:AV×List Blk) (h:(∃ (v1_0:Zi),Zco a a2=some (.agg (v1_0.c.map .t),[])∧(0≤Mask∧(∃ (e2:Int),x[Mask.toNat]?=some e2∧(0≤a1.Mask∧(∃ (e3:Int),x[a1.Mask.toNat]?=some e3∧(0≤(orI Mask a1.Mask)∧(∃ (e4:Int),x[(orI Mask a1.Mask).toNat]?=some e4∧(∃ (v5_0:Int),Zbv v1_0 e2 e3 e4=some (I v5_0,[])∧(0≤(w (a4+1))∧(∃ (e6:Za),x1[(w (a4+1)).toNat]?=some e6∧(if e6.Mask=0 then (∃ (v7_0:List Zb),Zcp (⟨x2⟩:Plan) a1.Plan a2 a3=some (.agg [.own 0],[.arr 142 3 true (v7_0.map Zb.c)])∧(some (.tup [],[.arr 3 1 true (x.map ic),.arr 174 4 true ((x1.set ((w (a4+1)).toNat) (⟨(orI Mask a1.Mask),a4,(w ((w (Cost+a1.Cost))+v5_0)),(⟨v7_0⟩:Plan)⟩:Za)).map Za.c),.arr 142 3 true (x2.map Zb.c)])=some r)) else (if (w ((w (Cost+a1.Cost))+v5_0))<e6.Cost then (∃ (v8_0:List Zb),Zcp (⟨x2⟩:Plan) a1.Plan a2 a3=some (.agg [.own 0],[.arr 142 3 true (v8_0.map Zb.c)])∧(some (.tup [],[.arr 3 1 true (x.map ic),.arr 174 4 true ((x1.set ((w (a4+1)).toNat) (⟨(orI Mask a1.Mask),a4,(w ((w (Cost+a1.Cost))+v5_0)),(⟨v8_0⟩:Plan)⟩:Za)).map Za.c),.arr 142 3 true (x2.map Zb.c)])=some r)) else (some (.tup [],[.arr 3 1 true (x.map ic),.arr 174 4 true (x1.map Za.c),.arr 142 3 true (x2.map Zb.c)])=some r)))))))))))))):Zl9 x x1 x2 a Mask Order Cost a1 a2 a3 a4=some r:=by
 unfold Zl9
 refine runM Zpd rfl ?_
 simp only [Zco,Zbv,Zcp,Zd.c_def,Zi.c_def,Plan.c_def,mpl,dfs] at h
 try simp only [itb] at h
 try simp only [itf,gS,kk] at h
 rcases h with ⟨v1_0,q1,q2,e2,⟨g3,q3⟩,q4,e3,⟨g5,q5⟩,q6,e4,⟨g7,q7⟩,v5_0,q8,q9,e6,⟨g10,q10⟩,(⟨q11,v7_0,q12,h⟩ | ⟨q11,(⟨q13,v8_0,q14,h⟩ | ⟨q13,h⟩)⟩)⟩
 all_goals (refine Eq.trans ?_ h;clear h;simp +decide [*,kk,Zl7])
theorem Zbgh (x:List Int) (x1:List Za) (x2:List Zb) (x3:List Zb) (a:Zd) (Mask:Int) (Order:Int) (Cost:Int) (Mask1:Int) (Order1:Int) (Cost1:Int) (a1:Int) (a2:Int) (a3:Int) (r:AV×List Blk) (h:(∃ (v1_0:Zi),Zco a a1=some (.agg (v1_0.c.map .t),[])∧(0≤Mask∧(∃ (e2:Int),x[Mask.toNat]?=some e2∧(0≤Mask1∧(∃ (e3:Int),x[Mask1.toNat]?=some e3∧(0≤(orI Mask Mask1)∧(∃ (e4:Int),x[(orI Mask Mask1).toNat]?=some e4∧(∃ (v5_0:Int),Zbv v1_0 e2 e3 e4=some (I v5_0,[])∧(0≤(w (a3+1))∧(∃ (e6:Za),x1[(w (a3+1)).toNat]?=some e6∧(if e6.Mask=0 then (∃ (v7_0:List Zb),Zcp (⟨x2⟩:Plan) (⟨x3⟩:Plan) a1 a2=some (.agg [.own 0],[.arr 142 3 true (v7_0.map Zb.c)])∧(some (.tup [],[.arr 3 1 true (x.map ic),.arr 174 4 true ((x1.set ((w (a3+1)).toNat) (⟨(orI Mask Mask1),a3,(w ((w (Cost+Cost1))+v5_0)),(⟨v7_0⟩:Plan)⟩:Za)).map Za.c),.arr 142 3 true (x2.map Zb.c),.arr 142 3 true (x3.map Zb.c)])=some r)) else (if (w ((w (Cost+Cost1))+v5_0))<e6.Cost then (∃ (v8_0:List Zb),Zcp (⟨x2⟩:Plan) (⟨x3⟩:Plan) a1 a2=some (.agg [.own 0],[.arr 142 3 true (v8_0.map Zb.c)])∧(some (.tup [],[.arr 3 1 true (x.map ic),.arr 174 4 true ((x1.set ((w (a3+1)).toNat) (⟨(orI Mask Mask1),a3,(w ((w (Cost+Cost1))+v5_0)),(⟨v8_0⟩:Plan)⟩:Za)).map Za.c),.arr 142 3 true (x2.map Zb.c),.arr 142 3 true (x3.map Zb.c)])=some r)) else (some (.tup [],[.arr 3 1 true (x.map ic),.arr 174 4 true (x1.map Za.c),.arr 142 3 true (x2.map Zb.c),.arr 142 3 true (x3.map Zb.c)])=some r)))))))))))))):Zma x x1 x2 x3 a Mask Order Cost Mask1 Order1 Cost1 a1 a2 a3=some r:=by
 unfold Zma
 refine runM Zpd rfl ?_
 simp only [Zco,Zbv,Zcp,Zd.c_def,Zi.c_def,Plan.c_def,mpl,dfs] at h
 try simp only [itb] at h
 try simp only [itf,gS,kk] at h
 rcases h with ⟨v1_0,q1,q2,e2,⟨g3,q3⟩,q4,e3,⟨g5,q5⟩,q6,e4,⟨g7,q7⟩,v5_0,q8,q9,e6,⟨g10,q10⟩,(⟨q11,v7_0,q12,h⟩ | ⟨q11,(⟨q13,v8_0,q14,h⟩ | ⟨q13,h⟩)⟩)⟩
 all_goals (refine Eq.trans ?_ h;clear h;simp +decide [*,kk,Zl7])
theorem Zuo (x:List Int) (fr:Bool) (x1:List Za) (a:Zd) (a1:Int) (a2:Int) (r:AV×List Blk) (h:(∃ (v1_0:Int),Zep x1 a1=some (I v1_0,[])∧(0≤v1_0∧(∃ (e2:Za),x1[v1_0.toNat]?=some e2∧(0≤a1∧(∃ (e3:Int),x[a1.toNat]?=some e3∧(∃ (v4_0:Int),Zbv a.Sort_ e3 0 e3=some (I v4_0,[])∧(∃ (v5_0:Int),Zip x1 a1 a2=some (I v5_0,[])∧(if 0≤v5_0 then (∃ (e6:Za),x1[v5_0.toNat]?=some e6∧(if e6.Cost≤(w (e2.Cost+v4_0)) then (some (.agg (e6.c.map .t),[.arr 3 1 true (x.map ic),.arr 174 4 fr (x1.map Za.c)])=some r) else (∃ (v7_0:List Zb),Zjv e2.Plan a2=some (.agg [.own 0],[.arr 142 3 true (v7_0.map Zb.c)])∧(some (.agg [I a1,I a2,I (w (e2.Cost+v4_0)),.own 2],[.arr 3 1 true (x.map ic),.arr 174 4 fr (x1.map Za.c),.arr 142 3 true (v7_0.map Zb.c)])=some r)))) else (∃ (v8_0:List Zb),Zjv e2.Plan a2=some (.agg [.own 0],[.arr 142 3 true (v8_0.map Zb.c)])∧(some (.agg [I a1,I a2,I (w (e2.Cost+v4_0)),.own 2],[.arr 3 1 true (x.map ic),.arr 174 4 fr (x1.map Za.c),.arr 142 3 true (v8_0.map Zb.c)])=some r))))))))))):Zd5 x fr x1 a a1 a2=some r:=by
 unfold Zd5
 refine runM Zbcs rfl ?_
 simp only [Zep,Zbv,Zip,Zjv,Zi.c_def,Plan.c_def,Za.c_def,mpl,dfs] at h
 try simp only [itb] at h
 try simp only [itf,gS,kk] at h
 rcases h with ⟨v1_0,q1,q2,e2,⟨g3,q3⟩,q4,e3,⟨g5,q5⟩,v4_0,q6,v5_0,q7,(⟨q8,e6,⟨g9,q9⟩,(⟨q10,h⟩ | ⟨q10,v7_0,q11,h⟩)⟩ | ⟨q8,v8_0,q12,h⟩)⟩
 all_goals (refine Eq.trans ?_ h;clear h;simp +decide [*,kk,Z0r])
end Go.Proofs.YtbapkgocloaaeaaGreat
