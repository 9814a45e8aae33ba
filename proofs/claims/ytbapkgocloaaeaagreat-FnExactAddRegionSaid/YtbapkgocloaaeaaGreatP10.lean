/-
  Parts of the proofs for this seat: G3 G4 G5 G6 G7 G8 G9 G10.
-/
import Derived.Test.YtbapkgocloaaeaaGreatP9
set_option linter.unusedSimpArgs false
set_option linter.unusedVariables false
set_option maxRecDepth 100000
set_option maxHeartbeats 4000000
namespace Go.Proofs.YtbapkgocloaaeaaGreat
open Go.AM
theorem Zka (x:Zd) (x1:Int) (x2:Int) (r:AV×List Blk) (h:(if x2<x1 then (if x2=0 then (∃ (v1_0:Bool),Zbq x.Scan=some (Bo v1_0,[])∧(if v1_0=true then ((Zbl x.Scan=some (.tup [.t .nil,.t .nil,Bo false],[])∧(∃ (v3_0:List (List Int)),Zcs=some (.own 0,[.arr 38 1 true (v3_0.map isc)])∧(Zff x v3_0 (w (1+x2)) x1 x2 (v3_0.length:Int) 0=some r)))∨(∃ (v4_0:List Int) (v4_1:List Int),Zbl x.Scan=some (.tup [L 1 (v4_1.map ic),.own 0,Bo true],[.arr 3 1 true (v4_0.map ic)])∧(some (.tup [I (w (1+x2)),L 1 (v4_1.map ic),.own 0],[.arr 3 1 true (v4_0.map ic)])=some r))) else (some (.tup [I (w (1+x2)),.t .nil,.t .nil],[])=some r))) else (if x2=1 then (∃ (v5_0:Bool),Zbq x.Sort_=some (Bo v5_0,[])∧(if v5_0=true then ((Zbl x.Sort_=some (.tup [.t .nil,.t .nil,Bo false],[])∧(∃ (v7_0:List (List Int)),Zcs=some (.own 0,[.arr 38 1 true (v7_0.map isc)])∧(Zfg x v7_0 (w (1+x2)) x1 x2 (v7_0.length:Int) 0=some r)))∨(∃ (v8_0:List Int) (v8_1:List Int),Zbl x.Sort_=some (.tup [L 1 (v8_1.map ic),.own 0,Bo true],[.arr 3 1 true (v8_0.map ic)])∧(some (.tup [I (w (1+x2)),L 1 (v8_1.map ic),.own 0],[.arr 3 1 true (v8_0.map ic)])=some r))) else (some (.tup [I (w (1+x2)),.t .nil,.t .nil],[])=some r))) else (if x2=2 then (∃ (v9_0:Bool),Zbq x.Hash=some (Bo v9_0,[])∧(if v9_0=true then ((Zbl x.Hash=some (.tup [.t .nil,.t .nil,Bo false],[])∧(∃ (v11_0:List (List Int)),Zcs=some (.own 0,[.arr 38 1 true (v11_0.map isc)])∧(Zfh x v11_0 (w (1+x2)) x1 x2 (v11_0.length:Int) 0=some r)))∨(∃ (v12_0:List Int) (v12_1:List Int),Zbl x.Hash=some (.tup [L 1 (v12_1.map ic),.own 0,Bo true],[.arr 3 1 true (v12_0.map ic)])∧(some (.tup [I (w (1+x2)),L 1 (v12_1.map ic),.own 0],[.arr 3 1 true (v12_0.map ic)])=some r))) else (some (.tup [I (w (1+x2)),.t .nil,.t .nil],[])=some r))) else (if x2=3 then (∃ (v13_0:Bool),Zbq x.Merge=some (Bo v13_0,[])∧(if v13_0=true then ((Zbl x.Merge=some (.tup [.t .nil,.t .nil,Bo false],[])∧(∃ (v15_0:List (List Int)),Zcs=some (.own 0,[.arr 38 1 true (v15_0.map isc)])∧(Zfi x v15_0 (w (1+x2)) x1 x2 (v15_0.length:Int) 0=some r)))∨(∃ (v16_0:List Int) (v16_1:List Int),Zbl x.Merge=some (.tup [L 1 (v16_1.map ic),.own 0,Bo true],[.arr 3 1 true (v16_0.map ic)])∧(some (.tup [I (w (1+x2)),L 1 (v16_1.map ic),.own 0],[.arr 3 1 true (v16_0.map ic)])=some r))) else (some (.tup [I (w (1+x2)),.t .nil,.t .nil],[])=some r))) else (if x2=4 then (∃ (v17_0:Bool),Zbq x.Nested=some (Bo v17_0,[])∧(if v17_0=true then ((Zbl x.Nested=some (.tup [.t .nil,.t .nil,Bo false],[])∧(∃ (v19_0:List (List Int)),Zcs=some (.own 0,[.arr 38 1 true (v19_0.map isc)])∧(Zfj x v19_0 (w (1+x2)) x1 x2 (v19_0.length:Int) 0=some r)))∨(∃ (v20_0:List Int) (v20_1:List Int),Zbl x.Nested=some (.tup [L 1 (v20_1.map ic),.own 0,Bo true],[.arr 3 1 true (v20_0.map ic)])∧(some (.tup [I (w (1+x2)),L 1 (v20_1.map ic),.own 0],[.arr 3 1 true (v20_0.map ic)])=some r))) else (some (.tup [I (w (1+x2)),.t .nil,.t .nil],[])=some r))) else False))))) else (some (.tup [I 0,.t .nil,.t .nil],[])=some r))):Z5 x x1 x2=some r:=by
 unfold Z5
 rw [EvL_eq Zgh.eq_1]
 by_cases q1:x2<x1
 ·rw [if_pos q1] at h
  by_cases q2:x2=0
  ·rw [if_pos q2] at h
   subst q2
   obtain ⟨v1_0,q3,h⟩:=h
   unfold Zbq at q3
   try simp at q3
   by_cases q4:v1_0=true
   ·rw [if_pos q4] at h
    rcases h with h | h
    ·
     obtain ⟨q5,h⟩:=h
     unfold Zbl at q5
     try simp at q5
     obtain ⟨v3_0,q6,h⟩:=h
     unfold Zcs at q6
     try simp at q6
     refine Eq.trans ?_ h
     clear h
     simp +decide [*,Zff]
    ·
     obtain ⟨v4_0,v4_1,q7,h⟩:=h
     unfold Zbl at q7
     try simp at q7
     refine Eq.trans ?_ h
     clear h
     simp +decide [*]
   ·rw [if_neg q4] at h
    refine Eq.trans ?_ h
    clear h
    simp +decide [*]
  ·rw [if_neg q2] at h
   replace q2:=eq_false q2
   by_cases q8:x2=1
   ·rw [if_pos q8] at h
    subst q8
    obtain ⟨v5_0,q9,h⟩:=h
    unfold Zbq at q9
    try simp at q9
    by_cases q10:v5_0=true
    ·rw [if_pos q10] at h
     rcases h with h | h
     ·
      obtain ⟨q11,h⟩:=h
      unfold Zbl at q11
      try simp at q11
      obtain ⟨v7_0,q12,h⟩:=h
      unfold Zcs at q12
      try simp at q12
      refine Eq.trans ?_ h
      clear h
      simp +decide [*,Zfg]
     ·
      obtain ⟨v8_0,v8_1,q13,h⟩:=h
      unfold Zbl at q13
      try simp at q13
      refine Eq.trans ?_ h
      clear h
      simp +decide [*]
    ·rw [if_neg q10] at h
     refine Eq.trans ?_ h
     clear h
     simp +decide [*]
   ·rw [if_neg q8] at h
    replace q8:=eq_false q8
    by_cases q14:x2=2
    ·rw [if_pos q14] at h
     subst q14
     obtain ⟨v9_0,q15,h⟩:=h
     unfold Zbq at q15
     try simp at q15
     by_cases q16:v9_0=true
     ·rw [if_pos q16] at h
      rcases h with h | h
      ·
       obtain ⟨q17,h⟩:=h
       unfold Zbl at q17
       try simp at q17
       obtain ⟨v11_0,q18,h⟩:=h
       unfold Zcs at q18
       try simp at q18
       refine Eq.trans ?_ h
       clear h
       simp +decide [*,Zfh]
      ·
       obtain ⟨v12_0,v12_1,q19,h⟩:=h
       unfold Zbl at q19
       try simp at q19
       refine Eq.trans ?_ h
       clear h
       simp +decide [*]
     ·rw [if_neg q16] at h
      refine Eq.trans ?_ h
      clear h
      simp +decide [*]
    ·rw [if_neg q14] at h
     replace q14:=eq_false q14
     by_cases q20:x2=3
     ·rw [if_pos q20] at h
      subst q20
      obtain ⟨v13_0,q21,h⟩:=h
      unfold Zbq at q21
      try simp at q21
      by_cases q22:v13_0=true
      ·rw [if_pos q22] at h
       rcases h with h | h
       ·
        obtain ⟨q23,h⟩:=h
        unfold Zbl at q23
        try simp at q23
        obtain ⟨v15_0,q24,h⟩:=h
        unfold Zcs at q24
        try simp at q24
        refine Eq.trans ?_ h
        clear h
        simp +decide [*,Zfi]
       ·
        obtain ⟨v16_0,v16_1,q25,h⟩:=h
        unfold Zbl at q25
        try simp at q25
        refine Eq.trans ?_ h
        clear h
        simp +decide [*]
      ·rw [if_neg q22] at h
       refine Eq.trans ?_ h
       clear h
       simp +decide [*]
     ·rw [if_neg q20] at h
      replace q20:=eq_false q20
      by_cases q26:x2=4
      ·rw [if_pos q26] at h
       subst q26
       obtain ⟨v17_0,q27,h⟩:=h
       unfold Zbq at q27
       try simp at q27
       by_cases q28:v17_0=true
       ·rw [if_pos q28] at h
        rcases h with h | h
        ·
         obtain ⟨q29,h⟩:=h
         unfold Zbl at q29
         try simp at q29
         obtain ⟨v19_0,q30,h⟩:=h
         unfold Zcs at q30
         try simp at q30
         refine Eq.trans ?_ h
         clear h
         simp +decide [*,Zfj]
        ·
         obtain ⟨v20_0,v20_1,q31,h⟩:=h
         unfold Zbl at q31
         try simp at q31
         refine Eq.trans ?_ h
         clear h
         simp +decide [*]
       ·rw [if_neg q28] at h
        refine Eq.trans ?_ h
        clear h
        simp +decide [*]
      ·rw [if_neg q26] at h
       replace q26:=eq_false q26
       cases h
 ·rw [if_neg q1] at h
  refine Eq.trans ?_ h
  clear h
  simp +decide [*,Zgi]
theorem Z2w (o:Zd) (x:List (List Int)) (kind:Int) (x1:Int) (x2:Int) (x3:Int) (x4:Int) (r:AV×List Blk) (h:(if x4<x3 then (0≤x4∧(∃ (e1:List Int),x[x4.toNat]?=some e1∧(∃ (v2_0:Int),Zcg o.Scan e1=some (I v2_0,[])∧(if v2_0<1 then (some (.tup [I kind,L 1 (e1.map ic),.t .nil],[])=some r) else (Zff o x kind x1 x2 x3 (w (x4+1))=some r))))) else (Z5 o x1 (w (x2+1))=some r))):Zff o x kind x1 x2 x3 x4=some r:=by
 unfold Zff
 rw [EvL_eq Zd3.eq_1]
 simp only [Zcg,Zi.c_def,mpl,dfs] at h
 try simp only [itb] at h
 try simp only [itf,gS,kk] at h
 rcases h with ⟨q1,q2,e1,⟨g3,q3⟩,v2_0,q4,(⟨q5,h⟩ | ⟨q5,h⟩)⟩ | ⟨q1,h⟩
 all_goals (refine Eq.trans ?_ h;clear h;simp +decide [*,kk,Zff,Z5,Zd4])
theorem Z2x (o:Zd) (x:List (List Int)) (kind:Int) (x1:Int) (x2:Int) (x3:Int) (x4:Int) (r:AV×List Blk) (h:(if x4<x3 then (0≤x4∧(∃ (e1:List Int),x[x4.toNat]?=some e1∧(∃ (v2_0:Int),Zcg o.Sort_ e1=some (I v2_0,[])∧(if v2_0<1 then (some (.tup [I kind,L 1 (e1.map ic),.t .nil],[])=some r) else (Zfg o x kind x1 x2 x3 (w (x4+1))=some r))))) else (Z5 o x1 (w (x2+1))=some r))):Zfg o x kind x1 x2 x3 x4=some r:=by
 unfold Zfg
 rw [EvL_eq Zd3.eq_1]
 simp only [Zcg,Zi.c_def,mpl,dfs] at h
 try simp only [itb] at h
 try simp only [itf,gS,kk] at h
 rcases h with ⟨q1,q2,e1,⟨g3,q3⟩,v2_0,q4,(⟨q5,h⟩ | ⟨q5,h⟩)⟩ | ⟨q1,h⟩
 all_goals (refine Eq.trans ?_ h;clear h;simp +decide [*,kk,Zfg,Z5,Zd4])
theorem Z2y (o:Zd) (x:List (List Int)) (kind:Int) (x1:Int) (x2:Int) (x3:Int) (x4:Int) (r:AV×List Blk) (h:(if x4<x3 then (0≤x4∧(∃ (e1:List Int),x[x4.toNat]?=some e1∧(∃ (v2_0:Int),Zcg o.Hash e1=some (I v2_0,[])∧(if v2_0<1 then (some (.tup [I kind,L 1 (e1.map ic),.t .nil],[])=some r) else (Zfh o x kind x1 x2 x3 (w (x4+1))=some r))))) else (Z5 o x1 (w (x2+1))=some r))):Zfh o x kind x1 x2 x3 x4=some r:=by
 unfold Zfh
 rw [EvL_eq Zd3.eq_1]
 simp only [Zcg,Zi.c_def,mpl,dfs] at h
 try simp only [itb] at h
 try simp only [itf,gS,kk] at h
 rcases h with ⟨q1,q2,e1,⟨g3,q3⟩,v2_0,q4,(⟨q5,h⟩ | ⟨q5,h⟩)⟩ | ⟨q1,h⟩
 all_goals (refine Eq.trans ?_ h;clear h;simp +decide [*,kk,Zfh,Z5,Zd4])
theorem Z2z (o:Zd) (x:List (List Int)) (kind:Int) (x1:Int) (x2:Int) (x3:Int) (x4:Int) (r:AV×List Blk) (h:(if x4<x3 then (0≤x4∧(∃ (e1:List Int),x[x4.toNat]?=some e1∧(∃ (v2_0:Int),Zcg o.Merge e1=some (I v2_0,[])∧(if v2_0<1 then (some (.tup [I kind,L 1 (e1.map ic),.t .nil],[])=some r) else (Zfi o x kind x1 x2 x3 (w (x4+1))=some r))))) else (Z5 o x1 (w (x2+1))=some r))):Zfi o x kind x1 x2 x3 x4=some r:=by
 unfold Zfi
 rw [EvL_eq Zd3.eq_1]
 simp only [Zcg,Zi.c_def,mpl,dfs] at h
 try simp only [itb] at h
 try simp only [itf,gS,kk] at h
 rcases h with ⟨q1,q2,e1,⟨g3,q3⟩,v2_0,q4,(⟨q5,h⟩ | ⟨q5,h⟩)⟩ | ⟨q1,h⟩
 all_goals (refine Eq.trans ?_ h;clear h;simp +decide [*,kk,Zfi,Z5,Zd4])
theorem Z20 (o:Zd) (x:List (List Int)) (kind:Int) (x1:Int) (x2:Int) (x3:Int) (x4:Int) (r:AV×List Blk) (h:(if x4<x3 then (0≤x4∧(∃ (e1:List Int),x[x4.toNat]?=some e1∧(∃ (v2_0:Int),Zcg o.Nested e1=some (I v2_0,[])∧(if v2_0<1 then (some (.tup [I kind,L 1 (e1.map ic),.t .nil],[])=some r) else (Zfj o x kind x1 x2 x3 (w (x4+1))=some r))))) else (Z5 o x1 (w (x2+1))=some r))):Zfj o x kind x1 x2 x3 x4=some r:=by
 unfold Zfj
 rw [EvL_eq Zd3.eq_1]
 simp only [Zcg,Zi.c_def,mpl,dfs] at h
 try simp only [itb] at h
 try simp only [itf,gS,kk] at h
 rcases h with ⟨q1,q2,e1,⟨g3,q3⟩,v2_0,q4,(⟨q5,h⟩ | ⟨q5,h⟩)⟩ | ⟨q1,h⟩
 all_goals (refine Eq.trans ?_ h;clear h;simp +decide [*,kk,Zfj,Z5,Zd4])
theorem Zbfe (a:Zd) (r:AV×List Blk) (h:(Zeq a=some (.bsl 1 5,[.box (a.c.map .t),.box [.ptr 0 0,.ptr 0 6,.ptr 0 12,.ptr 0 18,.ptr 0 24]])∧(Z5 a 5 0=some r))):Zh9 a=some r:=by
 unfold Zh9
 refine run Zbbq rfl ?_
 simp only [Zeq,Zd.c_def,Zi.c_def,mpl,dfs] at h
 rcases h with ⟨q1,h⟩
 all_goals (refine Eq.trans ?_ h;clear h;simp +decide [*,kk,Zys,Z5])
theorem Zbff (a:Zd) (r:AV×List Blk) (h:((∃ (v1_0:List Int) (v1_1:Int) (v1_2:List Int),Zh9 a=some (.tup [I v1_1,L 1 (v1_2.map ic),.own 0],[.arr 3 1 true (v1_0.map ic)])∧(some (Bo (decide (v1_1=0)),[])=some r))∨(∃ (v2_0:Int),Zh9 a=some (.tup [I v2_0,.t .nil,.t .nil],[])∧(some (Bo (decide (v2_0=0)),[])=some r))∨(∃ (v3_0:Int) (v3_1:List Int),Zh9 a=some (.tup [I v3_0,L 1 (v3_1.map ic),.t .nil],[])∧(some (Bo (decide (v3_0=0)),[])=some r)))):Zia a=some r:=by
 unfold Zia
 refine run Zbbr rfl ?_
 simp only [Zh9,Zd.c_def,Zi.c_def,mpl,dfs] at h
 rcases h with ⟨v1_0,v1_1,v1_2,q2,h⟩ | ⟨v2_0,q3,h⟩ | ⟨v3_0,v3_1,q4,h⟩
 all_goals (refine Eq.trans ?_ h;clear h;simp +decide [*,kk,Zyt])
theorem Zbfg (a:Zd) (a1:Zb) (a2:Region) (r:AV×List Blk) (h:(∃ (v1_0:Bool),Zk4 a1 a2=some (Bo v1_0,[])∧(if v1_0=true then (∃ (v2_0:Int),Zb7 a1=some (I v2_0,[])∧(∃ (v3_0:Bool),Zh7 a1 v2_0=some (Bo v3_0,[])∧(if v3_0=true then (∃ (v4_0:Bool),Zia a=some (Bo v4_0,[])∧(some (Bo v4_0,[])=some r)) else (some (Bo false,[])=some r)))) else (some (Bo false,[])=some r)))):Zk9 a a1 a2=some r:=by
 unfold Zk9
 refine run Zbbs rfl ?_
 simp only [Zk4,Zb7,Zh7,Zia,Box.c_def,Zd.c_def,Zi.c_def,Plan.c_def,Zb.c_def,Region.c_def,mpl,dfs] at h
 try simp only [itb] at h
 try simp only [itf,gS,kk] at h
 rcases h with ⟨v1_0,q1,(⟨q2,v2_0,q3,v3_0,q4,(⟨q5,v4_0,q6,h⟩ | ⟨q5,h⟩)⟩ | ⟨q2,h⟩)⟩
 all_goals (refine Eq.trans ?_ h;clear h;simp +decide [*,kk,Zyu])
theorem Zuq (out:List Int) (location:List Int) (x:List Int) (x1:Int) (x2:Int) (r:AV×List Blk) (h:(if x2<x1 then (0≤x2∧(∃ (e1:Int),x[x2.toNat]?=some e1∧(∃ (v2_0:Int),Zfe e1=some (I v2_0,[])∧(out.length+1≤68719476736∧(Zfl (out++[v2_0]) location x x1 (w (x2+1))=some r))))) else (∃ (v3_0:Bool),Zga location=some (Bo v3_0,[])∧(if v3_0=true then (some (.own 0,[.arr 3 1 true (out.map ic)])=some r) else (some (.t .nil,[])=some r))))):Zfl out location x x1 x2=some r:=by
 unfold Zfl
 rw [EvL_eq Zrt.eq_1]
 simp only [Zfe,Zga,mpl,dfs] at h
 try simp only [itb] at h
 try simp only [itf,gS,kk] at h
 rcases h with ⟨q1,q2,e1,⟨g3,q3⟩,v2_0,q4,q5,h⟩ | ⟨q1,v3_0,q6,(⟨q7,h⟩ | ⟨q7,h⟩)⟩
 all_goals (refine Eq.trans ?_ h;clear h;simp +decide [*,kk,Zfl,Zru])
theorem Z21 (a:List Int) (r:AV×List Blk) (h:(Zfl ([]:List Int) a a (a.length:Int) 0=some r)):Zfk a=some r:=by
 unfold Zfk
 refine run Zbbt rfl ?_
 refine Eq.trans ?_ h;clear h;simp +decide [*,kk,Zyv,Zfl]
theorem Z22 (q:Zb) (sizes:List Int) (x:List Int) (x1:Int) (x2:Int) (r:AV×List Blk) (h:(if x2<x1 then (0≤x2∧(∃ (e1:Int),x[x2.toNat]?=some e1∧(∃ (v2_0:Bool),Zy e1 0 4096=some (Bo v2_0,[])∧(if v2_0=true then (Zic q sizes x x1 (w (x2+1))=some r) else (some (Bo false,[])=some r))))) else (∃ (v3_0:Bool),Zdd q=some (Bo v3_0,[])∧(if v3_0=true then (∃ (v4_0:Int),Zb7 q=some (I v4_0,[])∧(some (Bo (decide ((sizes.length:Int)=(w (v4_0+1)))),[])=some r)) else (some (Bo false,[])=some r))))):Zic q sizes x x1 x2=some r:=by
 unfold Zic
 rw [EvL_eq Zrv.eq_1]
 simp only [Zy,Zdd,Zb7,Zb.c_def,mpl,dfs] at h
 try simp only [itb] at h
 try simp only [itf,gS,kk] at h
 rcases h with ⟨q1,q2,e1,⟨g3,q3⟩,v2_0,q4,(⟨q5,h⟩ | ⟨q5,h⟩)⟩ | ⟨q1,v3_0,q6,(⟨q7,v4_0,q8,h⟩ | ⟨q7,h⟩)⟩
 all_goals (refine Eq.trans ?_ h;clear h;simp +decide [*,kk,Zic,Zrw])
theorem Zbfh (a:Zb) (a1:List Int) (r:AV×List Blk) (h:(Zic a a1 a1 (a1.length:Int) 0=some r)):Zib a a1=some r:=by
 unfold Zib
 refine run Zbbu rfl ?_
 refine Eq.trans ?_ h;clear h;simp +decide [*,kk,Zyw,Zic]
theorem Zbfi (a:Zi) (a1:Int) (a2:Int) (a3:Int) (r:AV×List Blk) (h:(∃ (v1_0:Bool),Zbq a=some (Bo v1_0,[])∧(if v1_0=true then (∃ (v2_0:Bool),Zy a1 0 4096=some (Bo v2_0,[])∧(if v2_0=true then (∃ (v3_0:Bool),Zy a2 0 4096=some (Bo v3_0,[])∧(if v3_0=true then (∃ (v4_0:Bool),Zy a3 0 4096=some (Bo v4_0,[])∧(if v4_0=true then (∃ (v5_0:Int),Zh8 a a1 a2 a3=some (I v5_0,[])∧(some (I v5_0,[])=some r)) else (some (I 0,[])=some r))) else (some (I 0,[])=some r))) else (some (I 0,[])=some r))) else (some (I 0,[])=some r)))):Zbm a a1 a2 a3=some r:=by
 unfold Zbm
 refine run Zbbv rfl ?_
 simp only [Zbq,Zy,Zh8,Zi.c_def,mpl,dfs] at h
 try simp only [itb] at h
 try simp only [itf,gS,kk] at h
 rcases h with ⟨v1_0,q1,(⟨q2,v2_0,q3,(⟨q4,v3_0,q5,(⟨q6,v4_0,q7,(⟨q8,v5_0,q9,h⟩ | ⟨q8,h⟩)⟩ | ⟨q6,h⟩)⟩ | ⟨q4,h⟩)⟩ | ⟨q2,h⟩)⟩
 all_goals (refine Eq.trans ?_ h;clear h;simp +decide [*,kk,Zyx])
theorem Z23 (m:Zd) (info:List Zh) (out:List Int) (sizes:List Int) (x:List Zc) (x1:Int) (x2:Int) (r:AV×List Blk) (h:(if x2<x1 then (0≤x2∧(∃ (e1:Zc),x[x2.toNat]?=some e1∧(∃ (e2:Zh),info[x2.toNat]?=some e2∧(0≤e2.Mask∧(∃ (e3:Int),sizes[e2.Mask.toNat]?=some e3∧(if 0≤e2.Left then (∃ (e4:Zh),info[e2.Left.toNat]?=some e4∧(0≤e4.Mask∧(∃ (e5:Int),sizes[e4.Mask.toNat]?=some e5∧(if 0≤e2.Right then (∃ (e6:Zh),info[e2.Right.toNat]?=some e6∧(0≤e6.Mask∧(∃ (e7:Int),sizes[e6.Mask.toNat]?=some e7∧(Zjq m info out e1 sizes x2 e5 e7 x x1 x2=some r)))) else (Zjr m info out e1 sizes x2 e5 0 x x1 x2 false=some r))))) else (if 0≤e2.Right then (∃ (e8:Zh),info[e2.Right.toNat]?=some e8∧(0≤e8.Mask∧(∃ (e9:Int),sizes[e8.Mask.toNat]?=some e9∧(Zjq m info out e1 sizes x2 e3 e9 x x1 x2=some r)))) else (Zjr m info out e1 sizes x2 e3 0 x x1 x2 false=some r)))))))) else (some (.own 0,[.arr 3 1 true (out.map ic)])=some r))):Zbg m info out sizes x x1 x2=some r:=by
 unfold Zbg
 rw [EvL_eq Zlb.eq_1]
 try simp only [itb] at h
 try simp only [itf,gS,kk] at h
 rcases h with ⟨q1,q2,e1,⟨g3,q3⟩,e2,⟨g4,q4⟩,q5,e3,⟨g6,q6⟩,(⟨q7,e4,⟨g8,q8⟩,q9,e5,⟨g10,q10⟩,(⟨q11,e6,⟨g12,q12⟩,q13,e7,⟨g14,q14⟩,h⟩ | ⟨q11,h⟩)⟩ | ⟨q7,(⟨q15,e8,⟨g16,q16⟩,q17,e9,⟨g18,q18⟩,h⟩ | ⟨q15,h⟩)⟩)⟩ | ⟨q1,h⟩
 all_goals (refine Eq.trans ?_ h;clear h;simp +decide [*,kk,Zjq,Zyy,Zjr,Zlc])
theorem Zbfj (m:Zd) (info:List Zh) (out:List Int) (x:Zc) (sizes:List Int) (i:Int) (left:Int) (right:Int) (x1:List Zc) (x2:Int) (x3:Int) (r:AV×List Blk) (h:(Zeq m=some (.bsl 1 5,[.box (m.c.map .t),.box [.ptr 0 0,.ptr 0 6,.ptr 0 12,.ptr 0 18,.ptr 0 24]])∧(if (w (x.Kind - 1))=0 then (0≤i∧(∃ (e2:Zh),info[i.toNat]?=some e2∧(0≤e2.Mask∧(∃ (e3:Int),sizes[e2.Mask.toNat]?=some e3∧(∃ (v4_0:Int),Zbm m.Scan left right e3=some (I v4_0,[])∧(out.length+1≤68719476736∧(Zbg m info (out++[v4_0]) sizes x1 x2 (w (x3+1))=some r))))))) else (if (w (x.Kind - 1))=1 then (0≤i∧(∃ (e5:Zh),info[i.toNat]?=some e5∧(0≤e5.Mask∧(∃ (e6:Int),sizes[e5.Mask.toNat]?=some e6∧(∃ (v7_0:Int),Zbm m.Sort_ left right e6=some (I v7_0,[])∧(out.length+1≤68719476736∧(Zbg m info (out++[v7_0]) sizes x1 x2 (w (x3+1))=some r))))))) else (if (w (x.Kind - 1))=2 then (0≤i∧(∃ (e8:Zh),info[i.toNat]?=some e8∧(0≤e8.Mask∧(∃ (e9:Int),sizes[e8.Mask.toNat]?=some e9∧(∃ (v10_0:Int),Zbm m.Hash left right e9=some (I v10_0,[])∧(out.length+1≤68719476736∧(Zbg m info (out++[v10_0]) sizes x1 x2 (w (x3+1))=some r))))))) else (if (w (x.Kind - 1))=3 then (0≤i∧(∃ (e11:Zh),info[i.toNat]?=some e11∧(0≤e11.Mask∧(∃ (e12:Int),sizes[e11.Mask.toNat]?=some e12∧(∃ (v13_0:Int),Zbm m.Merge left right e12=some (I v13_0,[])∧(out.length+1≤68719476736∧(Zbg m info (out++[v13_0]) sizes x1 x2 (w (x3+1))=some r))))))) else (if (w (x.Kind - 1))=4 then (0≤i∧(∃ (e14:Zh),info[i.toNat]?=some e14∧(0≤e14.Mask∧(∃ (e15:Int),sizes[e14.Mask.toNat]?=some e15∧(∃ (v16_0:Int),Zbm m.Nested left right e15=some (I v16_0,[])∧(out.length+1≤68719476736∧(Zbg m info (out++[v16_0]) sizes x1 x2 (w (x3+1))=some r))))))) else False))))))):Zjq m info out x sizes i left right x1 x2 x3=some r:=by
 unfold Zjq
 rw [Ev_eq Zla.eq_1]
 obtain ⟨q1,h⟩:=h
 unfold Zeq at q1
 try simp at q1
 by_cases q2:(w (x.Kind - 1))=0
 ·rw [if_pos q2] at h
  obtain ⟨q3,h⟩:=h
  obtain ⟨e2,q4,h⟩:=h
  have gq4:=ltOfGet q4
  have kq4:=getOf q4
  obtain ⟨q5,h⟩:=h
  obtain ⟨e3,q6,h⟩:=h
  have gq6:=ltOfGet q6
  have kq6:=getOf q6
  obtain ⟨v4_0,q7,h⟩:=h
  unfold Zbm at q7
  try simp at q7
  obtain ⟨q8,h⟩:=h
  have rq8:=roomA (b:=8) q8 (by omega)
  have sq8:=roomB q8
  try simp [*] at rq8
  try simp [*] at sq8
  refine Eq.trans ?_ h
  clear h
  simp +decide [*,Zbg]
 ·rw [if_neg q2] at h
  replace q2:=eq_false q2
  by_cases q9:(w (x.Kind - 1))=1
  ·rw [if_pos q9] at h
   obtain ⟨q10,h⟩:=h
   obtain ⟨e5,q11,h⟩:=h
   have gq11:=ltOfGet q11
   have kq11:=getOf q11
   obtain ⟨q12,h⟩:=h
   obtain ⟨e6,q13,h⟩:=h
   have gq13:=ltOfGet q13
   have kq13:=getOf q13
   obtain ⟨v7_0,q14,h⟩:=h
   unfold Zbm at q14
   try simp at q14
   obtain ⟨q15,h⟩:=h
   have rq15:=roomA (b:=8) q15 (by omega)
   have sq15:=roomB q15
   try simp [*] at rq15
   try simp [*] at sq15
   refine Eq.trans ?_ h
   clear h
   simp +decide [*,Zbg]
  ·rw [if_neg q9] at h
   replace q9:=eq_false q9
   by_cases q16:(w (x.Kind - 1))=2
   ·rw [if_pos q16] at h
    obtain ⟨q17,h⟩:=h
    obtain ⟨e8,q18,h⟩:=h
    have gq18:=ltOfGet q18
    have kq18:=getOf q18
    obtain ⟨q19,h⟩:=h
    obtain ⟨e9,q20,h⟩:=h
    have gq20:=ltOfGet q20
    have kq20:=getOf q20
    obtain ⟨v10_0,q21,h⟩:=h
    unfold Zbm at q21
    try simp at q21
    obtain ⟨q22,h⟩:=h
    have rq22:=roomA (b:=8) q22 (by omega)
    have sq22:=roomB q22
    try simp [*] at rq22
    try simp [*] at sq22
    refine Eq.trans ?_ h
    clear h
    simp +decide [*,Zbg]
   ·rw [if_neg q16] at h
    replace q16:=eq_false q16
    by_cases q23:(w (x.Kind - 1))=3
    ·rw [if_pos q23] at h
     obtain ⟨q24,h⟩:=h
     obtain ⟨e11,q25,h⟩:=h
     have gq25:=ltOfGet q25
     have kq25:=getOf q25
     obtain ⟨q26,h⟩:=h
     obtain ⟨e12,q27,h⟩:=h
     have gq27:=ltOfGet q27
     have kq27:=getOf q27
     obtain ⟨v13_0,q28,h⟩:=h
     unfold Zbm at q28
     try simp at q28
     obtain ⟨q29,h⟩:=h
     have rq29:=roomA (b:=8) q29 (by omega)
     have sq29:=roomB q29
     try simp [*] at rq29
     try simp [*] at sq29
     refine Eq.trans ?_ h
     clear h
     simp +decide [*,Zbg]
    ·rw [if_neg q23] at h
     replace q23:=eq_false q23
     by_cases q30:(w (x.Kind - 1))=4
     ·rw [if_pos q30] at h
      obtain ⟨q31,h⟩:=h
      obtain ⟨e14,q32,h⟩:=h
      have gq32:=ltOfGet q32
      have kq32:=getOf q32
      obtain ⟨q33,h⟩:=h
      obtain ⟨e15,q34,h⟩:=h
      have gq34:=ltOfGet q34
      have kq34:=getOf q34
      obtain ⟨v16_0,q35,h⟩:=h
      unfold Zbm at q35
      try simp at q35
      obtain ⟨q36,h⟩:=h
      have rq36:=roomA (b:=8) q36 (by omega)
      have sq36:=roomB q36
      try simp [*] at rq36
      try simp [*] at sq36
      refine Eq.trans ?_ h
      clear h
      simp +decide [*,Zbg]
     ·rw [if_neg q30] at h
      replace q30:=eq_false q30
      cases h
theorem Zbfk (m:Zd) (info:List Zh) (out:List Int) (x:Zc) (sizes:List Int) (i:Int) (left:Int) (right:Int) (x1:List Zc) (x2:Int) (x3:Int) (x4:Bool) (r:AV×List Blk) (h:(Zeq m=some (.bsl 1 5,[.box (m.c.map .t),.box [.ptr 0 0,.ptr 0 6,.ptr 0 12,.ptr 0 18,.ptr 0 24]])∧(if (w (x.Kind - 1))=0 then (0≤i∧(∃ (e2:Zh),info[i.toNat]?=some e2∧(0≤e2.Mask∧(∃ (e3:Int),sizes[e2.Mask.toNat]?=some e3∧(∃ (v4_0:Int),Zbm m.Scan left right e3=some (I v4_0,[])∧(out.length+1≤68719476736∧(Zbg m info (out++[v4_0]) sizes x1 x2 (w (x3+1))=some r))))))) else (if (w (x.Kind - 1))=1 then (0≤i∧(∃ (e5:Zh),info[i.toNat]?=some e5∧(0≤e5.Mask∧(∃ (e6:Int),sizes[e5.Mask.toNat]?=some e6∧(∃ (v7_0:Int),Zbm m.Sort_ left right e6=some (I v7_0,[])∧(out.length+1≤68719476736∧(Zbg m info (out++[v7_0]) sizes x1 x2 (w (x3+1))=some r))))))) else (if (w (x.Kind - 1))=2 then (0≤i∧(∃ (e8:Zh),info[i.toNat]?=some e8∧(0≤e8.Mask∧(∃ (e9:Int),sizes[e8.Mask.toNat]?=some e9∧(∃ (v10_0:Int),Zbm m.Hash left right e9=some (I v10_0,[])∧(out.length+1≤68719476736∧(Zbg m info (out++[v10_0]) sizes x1 x2 (w (x3+1))=some r))))))) else (if (w (x.Kind - 1))=3 then (0≤i∧(∃ (e11:Zh),info[i.toNat]?=some e11∧(0≤e11.Mask∧(∃ (e12:Int),sizes[e11.Mask.toNat]?=some e12∧(∃ (v13_0:Int),Zbm m.Merge left right e12=some (I v13_0,[])∧(out.length+1≤68719476736∧(Zbg m info (out++[v13_0]) sizes x1 x2 (w (x3+1))=some r))))))) else (if (w (x.Kind - 1))=4 then (0≤i∧(∃ (e14:Zh),info[i.toNat]?=some e14∧(0≤e14.Mask∧(∃ (e15:Int),sizes[e14.Mask.toNat]?=some e15∧(∃ (v16_0:Int),Zbm m.Nested left right e15=some (I v16_0,[])∧(out.length+1≤68719476736∧(Zbg m info (out++[v16_0]) sizes x1 x2 (w (x3+1))=some r))))))) else False))))))):Zjr m info out x sizes i left right x1 x2 x3 x4=some r:=by
 unfold Zjr
 rw [Ev_eq Zla.eq_1]
 obtain ⟨q1,h⟩:=h
 unfold Zeq at q1
 try simp at q1
 by_cases q2:(w (x.Kind - 1))=0
 ·rw [if_pos q2] at h
  obtain ⟨q3,h⟩:=h
  obtain ⟨e2,q4,h⟩:=h
  have gq4:=ltOfGet q4
  have kq4:=getOf q4
  obtain ⟨q5,h⟩:=h
  obtain ⟨e3,q6,h⟩:=h
  have gq6:=ltOfGet q6
  have kq6:=getOf q6
  obtain ⟨v4_0,q7,h⟩:=h
  unfold Zbm at q7
  try simp at q7
  obtain ⟨q8,h⟩:=h
  have rq8:=roomA (b:=8) q8 (by omega)
  have sq8:=roomB q8
  try simp [*] at rq8
  try simp [*] at sq8
  refine Eq.trans ?_ h
  clear h
  simp +decide [*,Zbg]
 ·rw [if_neg q2] at h
  replace q2:=eq_false q2
  by_cases q9:(w (x.Kind - 1))=1
  ·rw [if_pos q9] at h
   obtain ⟨q10,h⟩:=h
   obtain ⟨e5,q11,h⟩:=h
   have gq11:=ltOfGet q11
   have kq11:=getOf q11
   obtain ⟨q12,h⟩:=h
   obtain ⟨e6,q13,h⟩:=h
   have gq13:=ltOfGet q13
   have kq13:=getOf q13
   obtain ⟨v7_0,q14,h⟩:=h
   unfold Zbm at q14
   try simp at q14
   obtain ⟨q15,h⟩:=h
   have rq15:=roomA (b:=8) q15 (by omega)
   have sq15:=roomB q15
   try simp [*] at rq15
   try simp [*] at sq15
   refine Eq.trans ?_ h
   clear h
   simp +decide [*,Zbg]
  ·rw [if_neg q9] at h
   replace q9:=eq_false q9
   by_cases q16:(w (x.Kind - 1))=2
   ·rw [if_pos q16] at h
    obtain ⟨q17,h⟩:=h
    obtain ⟨e8,q18,h⟩:=h
    have gq18:=ltOfGet q18
    have kq18:=getOf q18
    obtain ⟨q19,h⟩:=h
    obtain ⟨e9,q20,h⟩:=h
    have gq20:=ltOfGet q20
    have kq20:=getOf q20
    obtain ⟨v10_0,q21,h⟩:=h
    unfold Zbm at q21
    try simp at q21
    obtain ⟨q22,h⟩:=h
    have rq22:=roomA (b:=8) q22 (by omega)
    have sq22:=roomB q22
    try simp [*] at rq22
    try simp [*] at sq22
    refine Eq.trans ?_ h
    clear h
    simp +decide [*,Zbg]
   ·rw [if_neg q16] at h
    replace q16:=eq_false q16
    by_cases q23:(w (x.Kind - 1))=3
    ·rw [if_pos q23] at h
     obtain ⟨q24,h⟩:=h
     obtain ⟨e11,q25,h⟩:=h
     have gq25:=ltOfGet q25
     have kq25:=getOf q25
     obtain ⟨q26,h⟩:=h
     obtain ⟨e12,q27,h⟩:=h
     have gq27:=ltOfGet q27
     have kq27:=getOf q27
     obtain ⟨v13_0,q28,h⟩:=h
     unfold Zbm at q28
     try simp at q28
     obtain ⟨q29,h⟩:=h
     have rq29:=roomA (b:=8) q29 (by omega)
     have sq29:=roomB q29
     try simp [*] at rq29
     try simp [*] at sq29
     refine Eq.trans ?_ h
     clear h
     simp +decide [*,Zbg]
    ·rw [if_neg q23] at h
     replace q23:=eq_false q23
     by_cases q30:(w (x.Kind - 1))=4
     ·rw [if_pos q30] at h
      obtain ⟨q31,h⟩:=h
      obtain ⟨e14,q32,h⟩:=h
      have gq32:=ltOfGet q32
      have kq32:=getOf q32
      obtain ⟨q33,h⟩:=h
      obtain ⟨e15,q34,h⟩:=h
      have gq34:=ltOfGet q34
      have kq34:=getOf q34
      obtain ⟨v16_0,q35,h⟩:=h
      unfold Zbm at q35
      try simp at q35
      obtain ⟨q36,h⟩:=h
      have rq36:=roomA (b:=8) q36 (by omega)
      have sq36:=roomB q36
      try simp [*] at rq36
      try simp [*] at sq36
      refine Eq.trans ?_ h
      clear h
      simp +decide [*,Zbg]
     ·rw [if_neg q30] at h
      replace q30:=eq_false q30
      cases h
theorem Zur (a:Zd) (a1:Zb) (a2:Plan) (a3:List Int) (r:AV×List Blk) (h:((Ze9 a1 a2=some (.tup [.t .nil,Bo false],[])∧(some (.t .nil,[])=some r))∨(∃ (v2_0:List Zh),Ze9 a1 a2=some (.tup [.own 0,Bo true],[.arr 138 4 true (v2_0.map Zh.c)])∧(∃ (v3_0:Bool),Zib a1 a3=some (Bo v3_0,[])∧(if v3_0=true then (Zbg a v2_0 ([]:List Int) a3 a2.Steps (a2.Steps.length:Int) 0=some r) else (some (.t .nil,[])=some r)))))):Zid a a1 a2 a3=some r:=by
 unfold Zid
 refine run Zbbw rfl ?_
 simp only [Ze9,Zib,Plan.c_def,Zb.c_def,mpl,dfs] at h
 try simp only [itb] at h
 try simp only [itf,gS,kk] at h
 rcases h with ⟨q2,h⟩ | ⟨v2_0,q3,v3_0,q4,(⟨q5,h⟩ | ⟨q5,h⟩)⟩
 all_goals (refine Eq.trans ?_ h;clear h;simp +decide [*,kk,Zyz,Zbg])
theorem Z24 (n:Int) (x:List Int) (x1:Int) (x2:Int) (r:AV×List Blk) (h:(if x2<x1 then (0≤x2∧(∃ (e1:Int),x[x2.toNat]?=some e1∧(Zie (w (n+e1)) x x1 (w (x2+1))=some r))) else (some (I n,[])=some r))):Zie n x x1 x2=some r:=by
 unfold Zie
 rw [EvL_eq Zrx.eq_1]
 try simp only [itb] at h
 try simp only [itf,gS,kk] at h
 rcases h with ⟨q1,q2,e1,⟨g3,q3⟩,h⟩ | ⟨q1,h⟩
 all_goals (refine Eq.trans ?_ h;clear h;simp +decide [*,kk,Zie,Zry])
theorem Zbfl (a:List Int) (r:AV×List Blk) (h:(Zie 0 a (a.length:Int) 0=some r)):Zld a=some r:=by
 unfold Zld
 refine run Zbbx rfl ?_
 refine Eq.trans ?_ h;clear h;simp +decide [*,kk,Zy0,Zie]
theorem Zbfm (a:Zd) (a1:Zb) (a2:Plan) (a3:List Int) (r:AV×List Blk) (h:((Zid a a1 a2 a3=some (.t .nil,[])∧(some (I (-1),[])=some r))∨(∃ (v2_0:List Int),Zid a a1 a2 a3=some (.own 0,[.arr 3 1 true (v2_0.map ic)])∧(v2_0≠[]∧(∃ (v3_0:Int),Zld v2_0=some (I v3_0,[])∧(some (I v3_0,[])=some r)))))):Zfm a a1 a2 a3=some r:=by
 unfold Zfm
 refine run Zbby rfl ?_
 rcases h with h | h
 ·
  obtain ⟨q1,h⟩:=h
  unfold Zid at q1
  try simp at q1
  refine Eq.trans ?_ h
  clear h
  simp +decide [*,Zrz]
 ·
  obtain ⟨v2_0,q2,h⟩:=h
  unfold Zid at q2
  try simp at q2
  obtain ⟨q3,h⟩:=h
  obtain ⟨yq3,ysq3,eq3⟩:=List.exists_cons_of_ne_nil q3
  first | subst eq3 | skip
  obtain ⟨v3_0,q4,h⟩:=h
  unfold Zld at q4
  try simp at q4
  refine Eq.trans ?_ h
  clear h
  simp +decide [*,Zrz]
theorem Zbfn (a:Zd) (a1:Zb) (a2:Plan) (a3:List Int) (r:AV×List Blk) (h:((∃ (v1_0:List Int),Zfk a3=some (.own 0,[.arr 3 1 true (v1_0.map ic)])∧(∃ (v2_0:Int),Zfm a a1 a2 v1_0=some (I v2_0,[])∧(some (I v2_0,[])=some r)))∨(Zfk a3=some (.t .nil,[])∧(∃ (v4_0:Int),Zy1 a a1 a2=some (I v4_0,[])∧(some (I v4_0,[])=some r))))):Zle a a1 a2 a3=some r:=by
 unfold Zle
 refine run Zbbz rfl ?_
 simp only [Zfk,Zfm,Zy1,Zd.c_def,Zi.c_def,Plan.c_def,Zb.c_def,mpl,dfs] at h
 rcases h with ⟨v1_0,q2,v2_0,q3,h⟩ | ⟨q4,v4_0,q5,h⟩
 all_goals (refine Eq.trans ?_ h;clear h;simp +decide [*,kk,Zy2])
theorem Z25 (q:Zb) (out:List Int) (mask:Int) (r:AV×List Blk) (h:(∃ (v1_0:Int),Zb7 q=some (I v1_0,[])∧(if mask≤v1_0 then (∃ (v2_0:Bool),Zep q mask=some (Bo v2_0,[])∧(if v2_0=true then (out.length+1≤68719476736∧(Zgj q (out++[mask]) (w (mask+1))=some r)) else (Zgj q out (w (mask+1))=some r))) else (some (.own 0,[.arr 3 1 true (out.map ic)])=some r)))):Zgj q out mask=some r:=by
 unfold Zgj
 rw [EvL_eq Zr0.eq_1]
 simp only [Zb7,Zep,Zb.c_def,mpl,dfs] at h
 try simp only [itb] at h
 try simp only [itf,gS,kk] at h
 rcases h with ⟨v1_0,q1,(⟨q2,v2_0,q3,(⟨q4,q5,h⟩ | ⟨q4,h⟩)⟩ | ⟨q2,h⟩)⟩
 all_goals (refine Eq.trans ?_ h;clear h;simp +decide [*,kk,Zgj,Zy3,Zr1])
theorem Zbfo (a:Zb) (r:AV×List Blk) (h:(Zgj a ([]:List Int) 1=some r)):Zlf a=some r:=by
 unfold Zlf
 refine run Zbb0 rfl ?_
 refine Eq.trans ?_ h;clear h;simp +decide [*,kk,Zy4,Zgj]
theorem Z26 (out:List Int) (mask:Int) (i:Int) (r:AV×List Blk) (h:(if i<4 then (¬ i<0∧(if (andI (shrI mask i) 1)=1 then (out.length+1≤68719476736∧(Zgk (out++[i]) mask (w (i+1))=some r)) else (Zgk out mask (w (i+1))=some r))) else (some (.own 0,[.arr 3 1 true (out.map ic)])=some r))):Zgk out mask i=some r:=by
 unfold Zgk
 rw [EvL_eq Zr2.eq_1]
 try simp only [itb] at h
 try simp only [itf,gS,kk] at h
 rcases h with ⟨q1,q2,(⟨q3,q4,h⟩ | ⟨q3,h⟩)⟩ | ⟨q1,h⟩
 all_goals (refine Eq.trans ?_ h;clear h;simp +decide [*,kk,Zgk,Zy5,Zr3])
theorem Zbfp (a:Int) (r:AV×List Blk) (h:(∃ (v1_0:Bool),Zy a 0 15=some (Bo v1_0,[])∧(if v1_0=true then (Zgk ([]:List Int) a 0=some r) else (some (.t .nil,[])=some r)))):Zjs a=some r:=by
 unfold Zjs
 refine run Zbb1 rfl ?_
 simp only [Zy,mpl,dfs] at h
 try simp only [itb] at h
 try simp only [itf,gS,kk] at h
 rcases h with ⟨v1_0,q1,(⟨q2,h⟩ | ⟨q2,h⟩)⟩
 all_goals (refine Eq.trans ?_ h;clear h;simp +decide [*,kk,Zy6,Zgk])
theorem Zbfq (a:Int) (r:AV×List Blk) (h:(some (.agg [.own 0],[.arr 142 3 true (([(⟨1,a,0⟩:Zc)]).map Zc.c)])=some r)):Zlg a=some r:=by
 unfold Zlg
 refine run Zbb2 rfl ?_
 refine Eq.trans ?_ h;clear h;simp +decide [*,kk,Zy7]
theorem Zcw (m:Zd) (q:Zb) (sizes:List Int) (mask:Int) (list0:Za) (list1:Za) (list2:Za) (list3:Za) (list4:Za) (some0:Bool) (some1:Bool) (some2:Bool) (some3:Bool) (some4:Bool) (x:List Zc) (a:Int) (r:AV×List Blk) (h:(∃ (v1_0:Int),Zfm m q (⟨x⟩:Plan) sizes=some (I v1_0,[])∧(if (w (a+1))=0 then (if some0=true then (if v1_0<list0.Cost then (some (.tup [],[.box [I m.Scan.Fixed,I m.Scan.Zj,I m.Scan.Zk,I m.Scan.Zm,I m.Scan.Zl,L 2 (m.Scan.Steps.map Zg.c),I m.Sort_.Fixed,I m.Sort_.Zj,I m.Sort_.Zk,I m.Sort_.Zm,I m.Sort_.Zl,L 2 (m.Sort_.Steps.map Zg.c),I m.Hash.Fixed,I m.Hash.Zj,I m.Hash.Zk,I m.Hash.Zm,I m.Hash.Zl,L 2 (m.Hash.Steps.map Zg.c),I m.Merge.Fixed,I m.Merge.Zj,I m.Merge.Zk,I m.Merge.Zm,I m.Merge.Zl,L 2 (m.Merge.Steps.map Zg.c),I m.Nested.Fixed,I m.Nested.Zj,I m.Nested.Zk,I m.Nested.Zm,I m.Nested.Zl,L 2 (m.Nested.Steps.map Zg.c),I q.Zf,L 2 (q.Atoms.map Atom.c),L 1 (sizes.map ic),I mask,I mask,I a,I v1_0,L 3 (x.map Zc.c),I list1.Mask,I list1.Order,I list1.Cost,L 3 (list1.Plan.Steps.map Zc.c),I list2.Mask,I list2.Order,I list2.Cost,L 3 (list2.Plan.Steps.map Zc.c),I list3.Mask,I list3.Order,I list3.Cost,L 3 (list3.Plan.Steps.map Zc.c),I list4.Mask,I list4.Order,I list4.Cost,L 3 (list4.Plan.Steps.map Zc.c),Bo true,Bo some1,Bo some2,Bo some3,Bo some4],.dead])=some r) else (some (.tup [],[boxO m q sizes mask list0 list1 list2 list3 list4 some0 some1 some2 some3 some4,.arr 142 3 true (x.map Zc.c)])=some r)) else (some (.tup [],[.box [I m.Scan.Fixed,I m.Scan.Zj,I m.Scan.Zk,I m.Scan.Zm,I m.Scan.Zl,L 2 (m.Scan.Steps.map Zg.c),I m.Sort_.Fixed,I m.Sort_.Zj,I m.Sort_.Zk,I m.Sort_.Zm,I m.Sort_.Zl,L 2 (m.Sort_.Steps.map Zg.c),I m.Hash.Fixed,I m.Hash.Zj,I m.Hash.Zk,I m.Hash.Zm,I m.Hash.Zl,L 2 (m.Hash.Steps.map Zg.c),I m.Merge.Fixed,I m.Merge.Zj,I m.Merge.Zk,I m.Merge.Zm,I m.Merge.Zl,L 2 (m.Merge.Steps.map Zg.c),I m.Nested.Fixed,I m.Nested.Zj,I m.Nested.Zk,I m.Nested.Zm,I m.Nested.Zl,L 2 (m.Nested.Steps.map Zg.c),I q.Zf,L 2 (q.Atoms.map Atom.c),L 1 (sizes.map ic),I mask,I mask,I a,I v1_0,L 3 (x.map Zc.c),I list1.Mask,I list1.Order,I list1.Cost,L 3 (list1.Plan.Steps.map Zc.c),I list2.Mask,I list2.Order,I list2.Cost,L 3 (list2.Plan.Steps.map Zc.c),I list3.Mask,I list3.Order,I list3.Cost,L 3 (list3.Plan.Steps.map Zc.c),I list4.Mask,I list4.Order,I list4.Cost,L 3 (list4.Plan.Steps.map Zc.c),Bo true,Bo some1,Bo some2,Bo some3,Bo some4],.dead])=some r)) else (if (w (a+1))=1 then (if some1=true then (if v1_0<list1.Cost then (some (.tup [],[.box [I m.Scan.Fixed,I m.Scan.Zj,I m.Scan.Zk,I m.Scan.Zm,I m.Scan.Zl,L 2 (m.Scan.Steps.map Zg.c),I m.Sort_.Fixed,I m.Sort_.Zj,I m.Sort_.Zk,I m.Sort_.Zm,I m.Sort_.Zl,L 2 (m.Sort_.Steps.map Zg.c),I m.Hash.Fixed,I m.Hash.Zj,I m.Hash.Zk,I m.Hash.Zm,I m.Hash.Zl,L 2 (m.Hash.Steps.map Zg.c),I m.Merge.Fixed,I m.Merge.Zj,I m.Merge.Zk,I m.Merge.Zm,I m.Merge.Zl,L 2 (m.Merge.Steps.map Zg.c),I m.Nested.Fixed,I m.Nested.Zj,I m.Nested.Zk,I m.Nested.Zm,I m.Nested.Zl,L 2 (m.Nested.Steps.map Zg.c),I q.Zf,L 2 (q.Atoms.map Atom.c),L 1 (sizes.map ic),I mask,I list0.Mask,I list0.Order,I list0.Cost,L 3 (list0.Plan.Steps.map Zc.c),I mask,I a,I v1_0,L 3 (x.map Zc.c),I list2.Mask,I list2.Order,I list2.Cost,L 3 (list2.Plan.Steps.map Zc.c),I list3.Mask,I list3.Order,I list3.Cost,L 3 (list3.Plan.Steps.map Zc.c),I list4.Mask,I list4.Order,I list4.Cost,L 3 (list4.Plan.Steps.map Zc.c),Bo some0,Bo true,Bo some2,Bo some3,Bo some4],.dead])=some r) else (some (.tup [],[boxO m q sizes mask list0 list1 list2 list3 list4 some0 some1 some2 some3 some4,.arr 142 3 true (x.map Zc.c)])=some r)) else (some (.tup [],[.box [I m.Scan.Fixed,I m.Scan.Zj,I m.Scan.Zk,I m.Scan.Zm,I m.Scan.Zl,L 2 (m.Scan.Steps.map Zg.c),I m.Sort_.Fixed,I m.Sort_.Zj,I m.Sort_.Zk,I m.Sort_.Zm,I m.Sort_.Zl,L 2 (m.Sort_.Steps.map Zg.c),I m.Hash.Fixed,I m.Hash.Zj,I m.Hash.Zk,I m.Hash.Zm,I m.Hash.Zl,L 2 (m.Hash.Steps.map Zg.c),I m.Merge.Fixed,I m.Merge.Zj,I m.Merge.Zk,I m.Merge.Zm,I m.Merge.Zl,L 2 (m.Merge.Steps.map Zg.c),I m.Nested.Fixed,I m.Nested.Zj,I m.Nested.Zk,I m.Nested.Zm,I m.Nested.Zl,L 2 (m.Nested.Steps.map Zg.c),I q.Zf,L 2 (q.Atoms.map Atom.c),L 1 (sizes.map ic),I mask,I list0.Mask,I list0.Order,I list0.Cost,L 3 (list0.Plan.Steps.map Zc.c),I mask,I a,I v1_0,L 3 (x.map Zc.c),I list2.Mask,I list2.Order,I list2.Cost,L 3 (list2.Plan.Steps.map Zc.c),I list3.Mask,I list3.Order,I list3.Cost,L 3 (list3.Plan.Steps.map Zc.c),I list4.Mask,I list4.Order,I list4.Cost,L 3 (list4.Plan.Steps.map Zc.c),Bo some0,Bo true,Bo some2,Bo some3,Bo some4],.dead])=some r)) else (if (w (a+1))=2 then (if some2=true then (if v1_0<list2.Cost then (some (.tup [],[.box [I m.Scan.Fixed,I m.Scan.Zj,I m.Scan.Zk,I m.Scan.Zm,I m.Scan.Zl,L 2 (m.Scan.Steps.map Zg.c),I m.Sort_.Fixed,I m.Sort_.Zj,I m.Sort_.Zk,I m.Sort_.Zm,I m.Sort_.Zl,L 2 (m.Sort_.Steps.map Zg.c),I m.Hash.Fixed,I m.Hash.Zj,I m.Hash.Zk,I m.Hash.Zm,I m.Hash.Zl,L 2 (m.Hash.Steps.map Zg.c),I m.Merge.Fixed,I m.Merge.Zj,I m.Merge.Zk,I m.Merge.Zm,I m.Merge.Zl,L 2 (m.Merge.Steps.map Zg.c),I m.Nested.Fixed,I m.Nested.Zj,I m.Nested.Zk,I m.Nested.Zm,I m.Nested.Zl,L 2 (m.Nested.Steps.map Zg.c),I q.Zf,L 2 (q.Atoms.map Atom.c),L 1 (sizes.map ic),I mask,I list0.Mask,I list0.Order,I list0.Cost,L 3 (list0.Plan.Steps.map Zc.c),I list1.Mask,I list1.Order,I list1.Cost,L 3 (list1.Plan.Steps.map Zc.c),I mask,I a,I v1_0,L 3 (x.map Zc.c),I list3.Mask,I list3.Order,I list3.Cost,L 3 (list3.Plan.Steps.map Zc.c),I list4.Mask,I list4.Order,I list4.Cost,L 3 (list4.Plan.Steps.map Zc.c),Bo some0,Bo some1,Bo true,Bo some3,Bo some4],.dead])=some r) else (some (.tup [],[boxO m q sizes mask list0 list1 list2 list3 list4 some0 some1 some2 some3 some4,.arr 142 3 true (x.map Zc.c)])=some r)) else (some (.tup [],[.box [I m.Scan.Fixed,I m.Scan.Zj,I m.Scan.Zk,I m.Scan.Zm,I m.Scan.Zl,L 2 (m.Scan.Steps.map Zg.c),I m.Sort_.Fixed,I m.Sort_.Zj,I m.Sort_.Zk,I m.Sort_.Zm,I m.Sort_.Zl,L 2 (m.Sort_.Steps.map Zg.c),I m.Hash.Fixed,I m.Hash.Zj,I m.Hash.Zk,I m.Hash.Zm,I m.Hash.Zl,L 2 (m.Hash.Steps.map Zg.c),I m.Merge.Fixed,I m.Merge.Zj,I m.Merge.Zk,I m.Merge.Zm,I m.Merge.Zl,L 2 (m.Merge.Steps.map Zg.c),I m.Nested.Fixed,I m.Nested.Zj,I m.Nested.Zk,I m.Nested.Zm,I m.Nested.Zl,L 2 (m.Nested.Steps.map Zg.c),I q.Zf,L 2 (q.Atoms.map Atom.c),L 1 (sizes.map ic),I mask,I list0.Mask,I list0.Order,I list0.Cost,L 3 (list0.Plan.Steps.map Zc.c),I list1.Mask,I list1.Order,I list1.Cost,L 3 (list1.Plan.Steps.map Zc.c),I mask,I a,I v1_0,L 3 (x.map Zc.c),I list3.Mask,I list3.Order,I list3.Cost,L 3 (list3.Plan.Steps.map Zc.c),I list4.Mask,I list4.Order,I list4.Cost,L 3 (list4.Plan.Steps.map Zc.c),Bo some0,Bo some1,Bo true,Bo some3,Bo some4],.dead])=some r)) else (if (w (a+1))=3 then (if some3=true then (if v1_0<list3.Cost then (some (.tup [],[.box [I m.Scan.Fixed,I m.Scan.Zj,I m.Scan.Zk,I m.Scan.Zm,I m.Scan.Zl,L 2 (m.Scan.Steps.map Zg.c),I m.Sort_.Fixed,I m.Sort_.Zj,I m.Sort_.Zk,I m.Sort_.Zm,I m.Sort_.Zl,L 2 (m.Sort_.Steps.map Zg.c),I m.Hash.Fixed,I m.Hash.Zj,I m.Hash.Zk,I m.Hash.Zm,I m.Hash.Zl,L 2 (m.Hash.Steps.map Zg.c),I m.Merge.Fixed,I m.Merge.Zj,I m.Merge.Zk,I m.Merge.Zm,I m.Merge.Zl,L 2 (m.Merge.Steps.map Zg.c),I m.Nested.Fixed,I m.Nested.Zj,I m.Nested.Zk,I m.Nested.Zm,I m.Nested.Zl,L 2 (m.Nested.Steps.map Zg.c),I q.Zf,L 2 (q.Atoms.map Atom.c),L 1 (sizes.map ic),I mask,I list0.Mask,I list0.Order,I list0.Cost,L 3 (list0.Plan.Steps.map Zc.c),I list1.Mask,I list1.Order,I list1.Cost,L 3 (list1.Plan.Steps.map Zc.c),I list2.Mask,I list2.Order,I list2.Cost,L 3 (list2.Plan.Steps.map Zc.c),I mask,I a,I v1_0,L 3 (x.map Zc.c),I list4.Mask,I list4.Order,I list4.Cost,L 3 (list4.Plan.Steps.map Zc.c),Bo some0,Bo some1,Bo some2,Bo true,Bo some4],.dead])=some r) else (some (.tup [],[boxO m q sizes mask list0 list1 list2 list3 list4 some0 some1 some2 some3 some4,.arr 142 3 true (x.map Zc.c)])=some r)) else (some (.tup [],[.box [I m.Scan.Fixed,I m.Scan.Zj,I m.Scan.Zk,I m.Scan.Zm,I m.Scan.Zl,L 2 (m.Scan.Steps.map Zg.c),I m.Sort_.Fixed,I m.Sort_.Zj,I m.Sort_.Zk,I m.Sort_.Zm,I m.Sort_.Zl,L 2 (m.Sort_.Steps.map Zg.c),I m.Hash.Fixed,I m.Hash.Zj,I m.Hash.Zk,I m.Hash.Zm,I m.Hash.Zl,L 2 (m.Hash.Steps.map Zg.c),I m.Merge.Fixed,I m.Merge.Zj,I m.Merge.Zk,I m.Merge.Zm,I m.Merge.Zl,L 2 (m.Merge.Steps.map Zg.c),I m.Nested.Fixed,I m.Nested.Zj,I m.Nested.Zk,I m.Nested.Zm,I m.Nested.Zl,L 2 (m.Nested.Steps.map Zg.c),I q.Zf,L 2 (q.Atoms.map Atom.c),L 1 (sizes.map ic),I mask,I list0.Mask,I list0.Order,I list0.Cost,L 3 (list0.Plan.Steps.map Zc.c),I list1.Mask,I list1.Order,I list1.Cost,L 3 (list1.Plan.Steps.map Zc.c),I list2.Mask,I list2.Order,I list2.Cost,L 3 (list2.Plan.Steps.map Zc.c),I mask,I a,I v1_0,L 3 (x.map Zc.c),I list4.Mask,I list4.Order,I list4.Cost,L 3 (list4.Plan.Steps.map Zc.c),Bo some0,Bo some1,Bo some2,Bo true,Bo some4],.dead])=some r)) else (if (w (a+1))=4 then (if some4=true then (if v1_0<list4.Cost then (some (.tup [],[.box [I m.Scan.Fixed,I m.Scan.Zj,I m.Scan.Zk,I m.Scan.Zm,I m.Scan.Zl,L 2 (m.Scan.Steps.map Zg.c),I m.Sort_.Fixed,I m.Sort_.Zj,I m.Sort_.Zk,I m.Sort_.Zm,I m.Sort_.Zl,L 2 (m.Sort_.Steps.map Zg.c),I m.Hash.Fixed,I m.Hash.Zj,I m.Hash.Zk,I m.Hash.Zm,I m.Hash.Zl,L 2 (m.Hash.Steps.map Zg.c),I m.Merge.Fixed,I m.Merge.Zj,I m.Merge.Zk,I m.Merge.Zm,I m.Merge.Zl,L 2 (m.Merge.Steps.map Zg.c),I m.Nested.Fixed,I m.Nested.Zj,I m.Nested.Zk,I m.Nested.Zm,I m.Nested.Zl,L 2 (m.Nested.Steps.map Zg.c),I q.Zf,L 2 (q.Atoms.map Atom.c),L 1 (sizes.map ic),I mask,I list0.Mask,I list0.Order,I list0.Cost,L 3 (list0.Plan.Steps.map Zc.c),I list1.Mask,I list1.Order,I list1.Cost,L 3 (list1.Plan.Steps.map Zc.c),I list2.Mask,I list2.Order,I list2.Cost,L 3 (list2.Plan.Steps.map Zc.c),I list3.Mask,I list3.Order,I list3.Cost,L 3 (list3.Plan.Steps.map Zc.c),I mask,I a,I v1_0,L 3 (x.map Zc.c),Bo some0,Bo some1,Bo some2,Bo some3,Bo true],.dead])=some r) else (some (.tup [],[boxO m q sizes mask list0 list1 list2 list3 list4 some0 some1 some2 some3 some4,.arr 142 3 true (x.map Zc.c)])=some r)) else (some (.tup [],[.box [I m.Scan.Fixed,I m.Scan.Zj,I m.Scan.Zk,I m.Scan.Zm,I m.Scan.Zl,L 2 (m.Scan.Steps.map Zg.c),I m.Sort_.Fixed,I m.Sort_.Zj,I m.Sort_.Zk,I m.Sort_.Zm,I m.Sort_.Zl,L 2 (m.Sort_.Steps.map Zg.c),I m.Hash.Fixed,I m.Hash.Zj,I m.Hash.Zk,I m.Hash.Zm,I m.Hash.Zl,L 2 (m.Hash.Steps.map Zg.c),I m.Merge.Fixed,I m.Merge.Zj,I m.Merge.Zk,I m.Merge.Zm,I m.Merge.Zl,L 2 (m.Merge.Steps.map Zg.c),I m.Nested.Fixed,I m.Nested.Zj,I m.Nested.Zk,I m.Nested.Zm,I m.Nested.Zl,L 2 (m.Nested.Steps.map Zg.c),I q.Zf,L 2 (q.Atoms.map Atom.c),L 1 (sizes.map ic),I mask,I list0.Mask,I list0.Order,I list0.Cost,L 3 (list0.Plan.Steps.map Zc.c),I list1.Mask,I list1.Order,I list1.Cost,L 3 (list1.Plan.Steps.map Zc.c),I list2.Mask,I list2.Order,I list2.Cost,L 3 (list2.Plan.Steps.map Zc.c),I list3.Mask,I list3.Order,I list3.Cost,L 3 (list3.Plan.Steps.map Zc.c),I mask,I a,I v1_0,L 3 (x.map Zc.c),Bo some0,Bo some1,Bo some2,Bo some3,Bo true],.dead])=some r)) else False))))))):Zbr m q sizes mask list0 list1 list2 list3 list4 some0 some1 some2 some3 some4 x a=some r:=by
 unfold Zbr
 refine runM Zbb3 rfl ?_
 obtain ⟨v1_0,q1,h⟩:=h
 unfold Zfm at q1
 try simp at q1
 by_cases q2:(w (a+1))=0
 ·rw [if_pos q2] at h
  by_cases q3:some0=true
  ·rw [if_pos q3] at h
   by_cases q4:v1_0<list0.Cost
   ·rw [if_pos q4] at h
    refine Eq.trans ?_ h
    clear h
    simp +decide [*,Zch]
   ·rw [if_neg q4] at h
    refine Eq.trans ?_ h
    clear h
    simp +decide [*,Zch]
  ·rw [if_neg q3] at h
   refine Eq.trans ?_ h
   clear h
   simp +decide [*,Zch]
 ·rw [if_neg q2] at h
  replace q2:=eq_false q2
  by_cases q5:(w (a+1))=1
  ·rw [if_pos q5] at h
   by_cases q6:some1=true
   ·rw [if_pos q6] at h
    by_cases q7:v1_0<list1.Cost
    ·rw [if_pos q7] at h
     refine Eq.trans ?_ h
     clear h
     simp +decide [*,Zch]
    ·rw [if_neg q7] at h
     refine Eq.trans ?_ h
     clear h
     simp +decide [*,Zch]
   ·rw [if_neg q6] at h
    refine Eq.trans ?_ h
    clear h
    simp +decide [*,Zch]
  ·rw [if_neg q5] at h
   replace q5:=eq_false q5
   by_cases q8:(w (a+1))=2
   ·rw [if_pos q8] at h
    by_cases q9:some2=true
    ·rw [if_pos q9] at h
     by_cases q10:v1_0<list2.Cost
     ·rw [if_pos q10] at h
      refine Eq.trans ?_ h
      clear h
      simp +decide [*,Zch]
     ·rw [if_neg q10] at h
      refine Eq.trans ?_ h
      clear h
      simp +decide [*,Zch]
    ·rw [if_neg q9] at h
     refine Eq.trans ?_ h
     clear h
     simp +decide [*,Zch]
   ·rw [if_neg q8] at h
    replace q8:=eq_false q8
    by_cases q11:(w (a+1))=3
    ·rw [if_pos q11] at h
     by_cases q12:some3=true
     ·rw [if_pos q12] at h
      by_cases q13:v1_0<list3.Cost
      ·rw [if_pos q13] at h
       refine Eq.trans ?_ h
       clear h
       simp +decide [*,Zch]
      ·rw [if_neg q13] at h
       refine Eq.trans ?_ h
       clear h
       simp +decide [*,Zch]
     ·rw [if_neg q12] at h
      refine Eq.trans ?_ h
      clear h
      simp +decide [*,Zch]
    ·rw [if_neg q11] at h
     replace q11:=eq_false q11
     by_cases q14:(w (a+1))=4
     ·rw [if_pos q14] at h
      by_cases q15:some4=true
      ·rw [if_pos q15] at h
       by_cases q16:v1_0<list4.Cost
       ·rw [if_pos q16] at h
        refine Eq.trans ?_ h
        clear h
        simp +decide [*,Zch]
       ·rw [if_neg q16] at h
        refine Eq.trans ?_ h
        clear h
        simp +decide [*,Zch]
      ·rw [if_neg q15] at h
       refine Eq.trans ?_ h
       clear h
       simp +decide [*,Zch]
     ·rw [if_neg q14] at h
      replace q14:=eq_false q14
      cases h
theorem Z27 (q:Zb) (out:List Int) (mask:Int) (x:Int) (r:AV×List Blk) (h:(if x<mask then (if (andI x mask)=x then (∃ (v1_0:Bool),Zep q x=some (Bo v1_0,[])∧(if v1_0=true then (∃ (v2_0:Bool),Zep q (andNotI mask x)=some (Bo v2_0,[])∧(if v2_0=true then (out.length+1≤68719476736∧(Zd5 q (out++[x]) mask (w (x+1))=some r)) else (Zd5 q out mask (w (x+1))=some r))) else (Zd5 q out mask (w (x+1))=some r))) else (Zd5 q out mask (w (x+1))=some r)) else (some (.own 0,[.arr 3 1 true (out.map ic)])=some r))):Zd5 q out mask x=some r:=by
 unfold Zd5
 rw [EvL_eq Zr4.eq_1]
 simp only [Zep,Zb.c_def,mpl,dfs] at h
 try simp only [itb] at h
 try simp only [itf,gS,kk] at h
 rcases h with ⟨q1,(⟨q2,v1_0,q3,(⟨q4,v2_0,q5,(⟨q6,q7,h⟩ | ⟨q6,h⟩)⟩ | ⟨q4,h⟩)⟩ | ⟨q2,h⟩)⟩ | ⟨q1,h⟩
 all_goals (refine Eq.trans ?_ h;clear h;simp +decide [*,kk,Zd5,Zy8,Zr5])
theorem Zbfr (a:Zb) (a1:Int) (r:AV×List Blk) (h:(∃ (v1_0:Bool),Zh7 a a1=some (Bo v1_0,[])∧(if v1_0=true then (Zd5 a ([]:List Int) a1 1=some r) else (some (.t .nil,[])=some r)))):Zdn a a1=some r:=by
 unfold Zdn
 refine run Zbb4 rfl ?_
 simp only [Zh7,Zb.c_def,mpl,dfs] at h
 try simp only [itb] at h
 try simp only [itf,gS,kk] at h
 rcases h with ⟨v1_0,q1,(⟨q2,h⟩ | ⟨q2,h⟩)⟩
 all_goals (refine Eq.trans ?_ h;clear h;simp +decide [*,kk,Zy9,Zd5])
theorem Z28 (Mask:Int) (Order:Int) (Cost:Int) (best:Za) (x:List Za) (x1:Int) (x2:Int) (r:AV×List Blk) (h:(if x2<x1 then (0≤x2∧(∃ (e1:Za),x[x2.toNat]?=some e1∧(if e1.Cost<best.Cost then (Zgm Mask Order Cost e1 x x1 (w (x2+1))=some r) else (Zgm Mask Order Cost best x x1 (w (x2+1))=some r)))) else (some (.agg (best.c.map .t),[])=some r))):Zgm Mask Order Cost best x x1 x2=some r:=by
 unfold Zgm
 rw [EvL_eq Zlh.eq_1]
 try simp only [itb] at h
 try simp only [itf,gS,kk] at h
 rcases h with ⟨q1,q2,e1,⟨g3,q3⟩,(⟨q4,h⟩ | ⟨q4,h⟩)⟩ | ⟨q1,h⟩
 all_goals (refine Eq.trans ?_ h;clear h;simp +decide [*,kk,Zgm,Zr6,Zli])
theorem Zbfs (a:List Za) (r:AV×List Blk) (h:(∃ (e1:Za),a[0]?=some e1∧(Zgm 0 0 0 e1 a (a.length:Int) 0=some r))):Zgl a=some r:=by
 unfold Zgl
 refine run Z2b rfl ?_
 try simp only [itb] at h
 try simp only [itf,gS,kk] at h
 rcases h with ⟨e1,⟨g1,q1⟩,h⟩
 all_goals (refine Eq.trans ?_ h;clear h;simp +decide [*,kk,Zr7,Zgm])
theorem Z29 (a:Plan) (r:AV×List Blk) (h:(a.Steps.length≤68719476736∧(some (.agg [.own 0],[.arr 142 3 true (a.Steps.map Zc.c)])=some r))):Zc4 a=some r:=by
 unfold Zc4
 refine run Zbb5 rfl ?_
 rcases h with ⟨q1,h⟩
 all_goals (refine Eq.trans ?_ h;clear h;simp +decide [*,kk,Zza])
theorem Zbft (a:Plan) (a1:Plan) (a2:Int) (a3:Int) (r:AV×List Blk) (h:(∃ (v1_0:List Zc),Zc4 a=some (.agg [.own 0],[.arr 142 3 true (v1_0.map Zc.c)])∧(v1_0.length+a1.Steps.length≤68719476736∧(v1_0.length+a1.Steps.length+1≤68719476736∧(some (.agg [.own 0],[.arr 142 3 true (((v1_0++a1.Steps)++[(⟨a2,0,a3⟩:Zc)]).map Zc.c)])=some r))))):Zdo a a1 a2 a3=some r:=by
 unfold Zdo
 refine run Zbb6 rfl ?_
 simp only [Zc4,Plan.c_def,mpl,dfs] at h
 rcases h with ⟨v1_0,q1,q2,q3,h⟩
 all_goals (refine Eq.trans ?_ h;clear h;simp +decide [*,kk,Zzb])
theorem Zeg (m:Zd) (q:Zb) (sizes:List Int) (mask:Int) (list0:Za) (list1:Za) (list2:Za) (list3:Za) (list4:Za) (some0:Bool) (some1:Bool) (some2:Bool) (some3:Bool) (some4:Bool) (fr:Bool) (out:List Za) (x0:Bool) (x1:Bool) (x2:Bool) (x3:Bool) (x4:Bool) (x:Int) (r:AV×List Blk) (h:(if x<5 then (if x=0 then (if x0=true then (out.length+1≤68719476736∧(Zbb m q sizes mask list0 list1 list2 list3 list4 some0 some1 some2 some3 some4 false (out++[list0]) true x1 x2 x3 x4 (w (x+1))=some r)) else (Zbb m q sizes mask list0 list1 list2 list3 list4 some0 some1 some2 some3 some4 fr out false x1 x2 x3 x4 (w (x+1))=some r)) else (if x=1 then (if x1=true then (out.length+1≤68719476736∧(Zbb m q sizes mask list0 list1 list2 list3 list4 some0 some1 some2 some3 some4 false (out++[list1]) x0 true x2 x3 x4 (w (x+1))=some r)) else (Zbb m q sizes mask list0 list1 list2 list3 list4 some0 some1 some2 some3 some4 fr out x0 false x2 x3 x4 (w (x+1))=some r)) else (if x=2 then (if x2=true then (out.length+1≤68719476736∧(Zbb m q sizes mask list0 list1 list2 list3 list4 some0 some1 some2 some3 some4 false (out++[list2]) x0 x1 true x3 x4 (w (x+1))=some r)) else (Zbb m q sizes mask list0 list1 list2 list3 list4 some0 some1 some2 some3 some4 fr out x0 x1 false x3 x4 (w (x+1))=some r)) else (if x=3 then (if x3=true then (out.length+1≤68719476736∧(Zbb m q sizes mask list0 list1 list2 list3 list4 some0 some1 some2 some3 some4 false (out++[list3]) x0 x1 x2 true x4 (w (x+1))=some r)) else (Zbb m q sizes mask list0 list1 list2 list3 list4 some0 some1 some2 some3 some4 fr out x0 x1 x2 false x4 (w (x+1))=some r)) else (if x=4 then (if x4=true then (out.length+1≤68719476736∧(Zbb m q sizes mask list0 list1 list2 list3 list4 some0 some1 some2 some3 some4 false (out++[list4]) x0 x1 x2 x3 true (w (x+1))=some r)) else (Zbb m q sizes mask list0 list1 list2 list3 list4 some0 some1 some2 some3 some4 fr out x0 x1 x2 x3 false (w (x+1))=some r)) else False))))) else (some (.own 1,[boxO m q sizes mask list0 list1 list2 list3 list4 some0 some1 some2 some3 some4,.arr 174 4 fr (out.map Za.c)])=some r))):Zbb m q sizes mask list0 list1 list2 list3 list4 some0 some1 some2 some3 some4 fr out x0 x1 x2 x3 x4 x=some r:=by
 unfold Zbb
 rw [EvL_eq Zr8.eq_1]
 by_cases q1:x<5
 ·rw [if_pos q1] at h
  by_cases q2:x=0
  ·rw [if_pos q2] at h
   subst q2
   by_cases q3:x0=true
   ·rw [if_pos q3] at h
    obtain ⟨q4,h⟩:=h
    have rq4:=roomA (b:=48) q4 (by omega)
    have sq4:=roomB q4
    try simp [*] at rq4
    try simp [*] at sq4
    refine Eq.trans ?_ h
    clear h
    simp +decide [*,Zbb,Zd6]
   ·rw [if_neg q3] at h
    refine Eq.trans ?_ h
    clear h
    simp +decide [*,Zbb,Zd6]
  ·rw [if_neg q2] at h
   replace q2:=eq_false q2
   by_cases q5:x=1
   ·rw [if_pos q5] at h
    subst q5
    by_cases q6:x1=true
    ·rw [if_pos q6] at h
     obtain ⟨q7,h⟩:=h
     have rq7:=roomA (b:=48) q7 (by omega)
     have sq7:=roomB q7
     try simp [*] at rq7
     try simp [*] at sq7
     refine Eq.trans ?_ h
     clear h
     simp +decide [*,Zbb,Zd6]
    ·rw [if_neg q6] at h
     refine Eq.trans ?_ h
     clear h
     simp +decide [*,Zbb,Zd6]
   ·rw [if_neg q5] at h
    replace q5:=eq_false q5
    by_cases q8:x=2
    ·rw [if_pos q8] at h
     subst q8
     by_cases q9:x2=true
     ·rw [if_pos q9] at h
      obtain ⟨q10,h⟩:=h
      have rq10:=roomA (b:=48) q10 (by omega)
      have sq10:=roomB q10
      try simp [*] at rq10
      try simp [*] at sq10
      refine Eq.trans ?_ h
      clear h
      simp +decide [*,Zbb,Zd6]
     ·rw [if_neg q9] at h
      refine Eq.trans ?_ h
      clear h
      simp +decide [*,Zbb,Zd6]
    ·rw [if_neg q8] at h
     replace q8:=eq_false q8
     by_cases q11:x=3
     ·rw [if_pos q11] at h
      subst q11
      by_cases q12:x3=true
      ·rw [if_pos q12] at h
       obtain ⟨q13,h⟩:=h
       have rq13:=roomA (b:=48) q13 (by omega)
       have sq13:=roomB q13
       try simp [*] at rq13
       try simp [*] at sq13
       refine Eq.trans ?_ h
       clear h
       simp +decide [*,Zbb,Zd6]
      ·rw [if_neg q12] at h
       refine Eq.trans ?_ h
       clear h
       simp +decide [*,Zbb,Zd6]
     ·rw [if_neg q11] at h
      replace q11:=eq_false q11
      by_cases q14:x=4
      ·rw [if_pos q14] at h
       subst q14
       by_cases q15:x4=true
       ·rw [if_pos q15] at h
        obtain ⟨q16,h⟩:=h
        have rq16:=roomA (b:=48) q16 (by omega)
        have sq16:=roomB q16
        try simp [*] at rq16
        try simp [*] at sq16
        refine Eq.trans ?_ h
        clear h
        simp +decide [*,Zbb,Zd6]
       ·rw [if_neg q15] at h
        refine Eq.trans ?_ h
        clear h
        simp +decide [*,Zbb,Zd6]
      ·rw [if_neg q14] at h
       replace q14:=eq_false q14
       cases h
 ·rw [if_neg q1] at h
  refine Eq.trans ?_ h
  clear h
  simp +decide [*,Zr9]
theorem Zbfu (m:Zd) (q:Zb) (sizes:List Int) (mask:Int) (list0:Za) (list1:Za) (list2:Za) (list3:Za) (list4:Za) (some0:Bool) (some1:Bool) (some2:Bool) (some3:Bool) (some4:Bool) (r:AV×List Blk) (h:(Zbb m q sizes mask list0 list1 list2 list3 list4 some0 some1 some2 some3 some4 true ([]:List Za) some0 some1 some2 some3 some4 0=some r)):Zlj m q sizes mask list0 list1 list2 list3 list4 some0 some1 some2 some3 some4=some r:=by
 unfold Zlj
 refine runM Zbb7 rfl ?_
 refine Eq.trans ?_ h;clear h;simp +decide [*,kk,Zzc,Zbb]
theorem Zbfv (a:Zb) (a1:Int) (r:AV×List Blk) (h:(∃ (v1_0:Bool),Zh5 a a1=some (Bo v1_0,[])∧(if v1_0=true then (∃ (v2_0:List Int),Zd2 a a1=some (.own 0,[.arr 3 1 true (v2_0.map ic)])∧(some (.own 0,[.arr 3 1 true (v2_0.map ic)])=some r)) else (some (.t .nil,[])=some r)))):Zes a a1=some r:=by
 unfold Zes
 refine run Zbb8 rfl ?_
 simp only [Zh5,Zd2,Zb.c_def,mpl,dfs] at h
 try simp only [itb] at h
 try simp only [itf,gS,kk] at h
 rcases h with ⟨v1_0,q1,(⟨q2,v2_0,q3,h⟩ | ⟨q2,h⟩)⟩
 all_goals (refine Eq.trans ?_ h;clear h;simp +decide [*,kk,Zzd])
theorem Zbfw (a:Zb) (a1:Int) (a2:Int) (r:AV×List Blk) (h:((∃ (v1_0:List Int),Zes a a1=some (.own 0,[.arr 3 1 true (v1_0.map ic)])∧((∃ (v2_0:List Int),Zes a a2=some (.own 0,[.arr 3 1 true (v2_0.map ic)])∧(∃ (v3_0:List Int),Ze8 v1_0 v2_0=some (.own 0,[.arr 3 1 true (v3_0.map ic)])∧(some (.own 0,[.arr 3 1 true (v3_0.map ic)])=some r)))∨(Zes a a2=some (.t .nil,[])∧(∃ (v5_0:List Int),Zze v1_0=some (.own 0,[.arr 3 1 true (v5_0.map ic)])∧(some (.own 0,[.arr 3 1 true (v5_0.map ic)])=some r)))))∨(Zes a a1=some (.t .nil,[])∧((∃ (v7_0:List Int),Zes a a2=some (.own 0,[.arr 3 1 true (v7_0.map ic)])∧(∃ (v8_0:List Int),Zzf v7_0=some (.own 0,[.arr 3 1 true (v8_0.map ic)])∧(some (.own 0,[.arr 3 1 true (v8_0.map ic)])=some r)))∨(Zes a a2=some (.t .nil,[])∧(∃ (v10_0:List Int),Zzg=some (.own 0,[.arr 3 1 true (v10_0.map ic)])∧(some (.own 0,[.arr 3 1 true (v10_0.map ic)])=some r))))))):Zif a a1 a2=some r:=by
 unfold Zif
 refine run Zbb9 rfl ?_
 simp only [Zes,Ze8,Zze,Zzf,Zzg,Zb.c_def,mpl,dfs] at h
 rcases h with ⟨v1_0,q2,(⟨v2_0,q4,v3_0,q5,h⟩ | ⟨q6,v5_0,q7,h⟩)⟩ | ⟨q8,(⟨v7_0,q10,v8_0,q11,h⟩ | ⟨q12,v10_0,q13,h⟩)⟩
 all_goals (refine Eq.trans ?_ h;clear h;simp +decide [*,kk,Zzh])
theorem Zbfx (a:Plan) (a1:Int) (r:AV×List Blk) (h:(∃ (v1_0:List Zc),Zc4 a=some (.agg [.own 0],[.arr 142 3 true (v1_0.map Zc.c)])∧(v1_0.length+1≤68719476736∧(some (.agg [.own 0],[.arr 142 3 true ((v1_0++[(⟨2,0,a1⟩:Zc)]).map Zc.c)])=some r)))):Zlk a a1=some r:=by
 unfold Zlk
 refine run Zbca rfl ?_
 simp only [Zc4,Plan.c_def,mpl,dfs] at h
 rcases h with ⟨v1_0,q1,q2,h⟩
 all_goals (refine Eq.trans ?_ h;clear h;simp +decide [*,kk,Zzi])
theorem Zph (m:Zd) (q:Zb) (x:List Zc) (sizes:List Int) (v:Int) (x1:List Za) (x2:Int) (x3:Int) (r:AV×List Blk) (h:(if x3<x2 then (0≤x3∧(∃ (e1:Za),x1[x3.toNat]?=some e1∧(if e1.Order=v then (∃ (v2_0:Int),Zfm m q (⟨x⟩:Plan) sizes=some (I v2_0,[])∧(if e1.Cost≤v2_0 then (some (.agg (e1.Plan.c.map .t),[])=some r) else (Zgn m q x sizes v x1 x2 (w (x3+1))=some r))) else (Zgn m q x sizes v x1 x2 (w (x3+1))=some r)))) else (some (.agg [.own 0],[.arr 142 3 true (x.map Zc.c)])=some r))):Zgn m q x sizes v x1 x2 x3=some r:=by
 unfold Zgn
 rw [EvL_eq Zsa.eq_1]
 simp only [Zfm,Zd.c_def,Zi.c_def,Plan.c_def,Zb.c_def,mpl,dfs] at h
 try simp only [itb] at h
 try simp only [itf,gS,kk] at h
 rcases h with ⟨q1,q2,e1,⟨g3,q3⟩,(⟨q4,v2_0,q5,(⟨q6,h⟩ | ⟨q6,h⟩)⟩ | ⟨q4,h⟩)⟩ | ⟨q1,h⟩
 all_goals (refine Eq.trans ?_ h;clear h;simp +decide [*,kk,Zgn,Zsb])
theorem Z3a (a:Zd) (a1:Zb) (a2:List Int) (a3:List Za) (a4:Int) (r:AV×List Blk) (h:(∃ (v1_0:Za),Zgl a3=some (.agg (v1_0.c.map .t),[])∧(if v1_0.Order=a4 then (some (.agg (v1_0.Plan.c.map .t),[])=some r) else (∃ (v2_0:List Zc),Zlk v1_0.Plan a4=some (.agg [.own 0],[.arr 142 3 true (v2_0.map Zc.c)])∧(Zgn a a1 v2_0 a2 a4 a3 (a3.length:Int) 0=some r))))):Zdp a a1 a2 a3 a4=some r:=by
 unfold Zdp
 refine run Zbcb rfl ?_
 simp only [Zgl,Zlk,Plan.c_def,Za.c_def,mpl,dfs] at h
 try simp only [itb] at h
 try simp only [itf,gS,kk] at h
 rcases h with ⟨v1_0,q1,(⟨q2,h⟩ | ⟨q2,v2_0,q3,h⟩)⟩
 all_goals (refine Eq.trans ?_ h;clear h;simp +decide [*,kk,Zzj,Zgn])
theorem Z3b (m:Zd) (q:Zb) (fr:Bool) (table:List (List Za)) (fr1:Bool) (out:List Za) (x:List Int) (sizes:List Int) (x1:Int) (x2:Int) (r:AV×List Blk) (h:(if x2<x1 then (0≤x2∧(∃ (e1:Int),x[x2.toNat]?=some e1∧((Zjs e1=some (.t .nil,[])∧((Zdn q e1=some (.t .nil,[])∧(Zll m q fr table fr1 out m q sizes e1 (⟨0,0,0,(⟨[]⟩:Plan)⟩:Za) (⟨0,0,0,(⟨[]⟩:Plan)⟩:Za) (⟨0,0,0,(⟨[]⟩:Plan)⟩:Za) (⟨0,0,0,(⟨[]⟩:Plan)⟩:Za) (⟨0,0,0,(⟨[]⟩:Plan)⟩:Za) false false false false false x sizes e1 x1 x2 0 0=some r))∨(∃ (v4_0:List Int),Zdn q e1=some (.own 0,[.arr 3 1 true (v4_0.map ic)])∧(Zdq m q fr table fr1 out m q sizes e1 (⟨0,0,0,(⟨[]⟩:Plan)⟩:Za) (⟨0,0,0,(⟨[]⟩:Plan)⟩:Za) (⟨0,0,0,(⟨[]⟩:Plan)⟩:Za) (⟨0,0,0,(⟨[]⟩:Plan)⟩:Za) (⟨0,0,0,(⟨[]⟩:Plan)⟩:Za) false false false false false x v4_0 sizes e1 x1 x2 (v4_0.length:Int) 0=some r))))∨(∃ (v5_0:List Int),Zjs e1=some (.own 0,[.arr 3 1 true (v5_0.map ic)])∧(if (v5_0.length:Int)=1 then (∃ (e6:Int),v5_0[0]?=some e6∧(∃ (v7_0:List Zc),Zlg e6=some (.agg [.own 0],[.arr 142 3 true (v7_0.map Zc.c)])∧(0≤e6∧(∃ (e8:Atom),q.Atoms[e6.toNat]?=some e8∧(∃ (e9:Int),e8.Vars[0]?=some e9∧((∃ (v10_0:Zd) (v10_1:Zb) (v10_2:List Int) (v10_3:Int) (v10_4:Za) (v10_5:Za) (v10_6:Za) (v10_7:Za) (v10_8:Za) (v10_9:Bool) (v10_10:Bool) (v10_11:Bool) (v10_12:Bool) (v10_13:Bool),Zbr m q sizes e1 (⟨0,0,0,(⟨[]⟩:Plan)⟩:Za) (⟨0,0,0,(⟨[]⟩:Plan)⟩:Za) (⟨0,0,0,(⟨[]⟩:Plan)⟩:Za) (⟨0,0,0,(⟨[]⟩:Plan)⟩:Za) (⟨0,0,0,(⟨[]⟩:Plan)⟩:Za) false false false false false v7_0 e9=some (.tup [],[boxO v10_0 v10_1 v10_2 v10_3 v10_4 v10_5 v10_6 v10_7 v10_8 v10_9 v10_10 v10_11 v10_12 v10_13,.dead])∧((Zdn q e1=some (.t .nil,[])∧(Zll m q fr table fr1 out v10_0 v10_1 v10_2 v10_3 v10_4 v10_5 v10_6 v10_7 v10_8 v10_9 v10_10 v10_11 v10_12 v10_13 x sizes e1 x1 x2 0 0=some r))∨(∃ (v12_0:List Int),Zdn q e1=some (.own 0,[.arr 3 1 true (v12_0.map ic)])∧(Zdq m q fr table fr1 out v10_0 v10_1 v10_2 v10_3 v10_4 v10_5 v10_6 v10_7 v10_8 v10_9 v10_10 v10_11 v10_12 v10_13 x v12_0 sizes e1 x1 x2 (v12_0.length:Int) 0=some r))))∨(∃ (v13_0:Zd) (v13_1:Zb) (v13_2:List Int) (v13_3:Int) (v13_4:Za) (v13_5:Za) (v13_6:Za) (v13_7:Za) (v13_8:Za) (v13_9:Bool) (v13_10:Bool) (v13_11:Bool) (v13_12:Bool) (v13_13:Bool) (v13_14:List Zc),Zbr m q sizes e1 (⟨0,0,0,(⟨[]⟩:Plan)⟩:Za) (⟨0,0,0,(⟨[]⟩:Plan)⟩:Za) (⟨0,0,0,(⟨[]⟩:Plan)⟩:Za) (⟨0,0,0,(⟨[]⟩:Plan)⟩:Za) (⟨0,0,0,(⟨[]⟩:Plan)⟩:Za) false false false false false v7_0 e9=some (.tup [],[boxO v13_0 v13_1 v13_2 v13_3 v13_4 v13_5 v13_6 v13_7 v13_8 v13_9 v13_10 v13_11 v13_12 v13_13,.arr 142 3 true (v13_14.map Zc.c)])∧((Zdn q e1=some (.t .nil,[])∧(Zll m q fr table fr1 out v13_0 v13_1 v13_2 v13_3 v13_4 v13_5 v13_6 v13_7 v13_8 v13_9 v13_10 v13_11 v13_12 v13_13 x sizes e1 x1 x2 0 0=some r))∨(∃ (v15_0:List Int),Zdn q e1=some (.own 0,[.arr 3 1 true (v15_0.map ic)])∧(Zdq m q fr table fr1 out v13_0 v13_1 v13_2 v13_3 v13_4 v13_5 v13_6 v13_7 v13_8 v13_9 v13_10 v13_11 v13_12 v13_13 x v15_0 sizes e1 x1 x2 (v15_0.length:Int) 0=some r)))))))))) else ((Zdn q e1=some (.t .nil,[])∧(Zll m q fr table fr1 out m q sizes e1 (⟨0,0,0,(⟨[]⟩:Plan)⟩:Za) (⟨0,0,0,(⟨[]⟩:Plan)⟩:Za) (⟨0,0,0,(⟨[]⟩:Plan)⟩:Za) (⟨0,0,0,(⟨[]⟩:Plan)⟩:Za) (⟨0,0,0,(⟨[]⟩:Plan)⟩:Za) false false false false false x sizes e1 x1 x2 0 0=some r))∨(∃ (v17_0:List Int),Zdn q e1=some (.own 0,[.arr 3 1 true (v17_0.map ic)])∧(Zdq m q fr table fr1 out m q sizes e1 (⟨0,0,0,(⟨[]⟩:Plan)⟩:Za) (⟨0,0,0,(⟨[]⟩:Plan)⟩:Za) (⟨0,0,0,(⟨[]⟩:Plan)⟩:Za) (⟨0,0,0,(⟨[]⟩:Plan)⟩:Za) (⟨0,0,0,(⟨[]⟩:Plan)⟩:Za) false false false false false x v17_0 sizes e1 x1 x2 (v17_0.length:Int) 0=some r)))))))) else (Zii fr1 out (out.length:Int) 0=some r))):Zfn m q fr table fr1 out x sizes x1 x2=some r:=by
 unfold Zfn
 rw [EvL_eq Zig.eq_1]
 simp only [Zjs,Zdn,Zlg,Zbr,Zd.c_def,Zi.c_def,Plan.c_def,Za.c_def,Zc.c_def,Zb.c_def,mpl,dfs,Zkx] at h
 try simp only [itb] at h
 try simp only [itf,gS,kk] at h
 rcases h with ⟨q1,q2,e1,⟨g3,q3⟩,(⟨q5,(⟨q7,h⟩ | ⟨v4_0,q8,h⟩)⟩ | ⟨v5_0,q9,(⟨q10,e6,⟨g11,q11⟩,v7_0,q12,q13,e8,⟨g14,q14⟩,e9,⟨g15,q15⟩,(⟨v10_0,v10_1,v10_2,v10_3,v10_4,v10_5,v10_6,v10_7,v10_8,v10_9,v10_10,v10_11,v10_12,v10_13,q17,(⟨q19,h⟩ | ⟨v12_0,q20,h⟩)⟩ | ⟨v13_0,v13_1,v13_2,v13_3,v13_4,v13_5,v13_6,v13_7,v13_8,v13_9,v13_10,v13_11,v13_12,v13_13,v13_14,q21,(⟨q23,h⟩ | ⟨v15_0,q24,h⟩)⟩)⟩ | ⟨q10,(⟨q26,h⟩ | ⟨v17_0,q27,h⟩)⟩)⟩)⟩ | ⟨q1,h⟩
 all_goals (refine Eq.trans ?_ h;clear h;simp +decide [*,kk,Zll,Zzk,Zdq,Zii,Zih])
theorem Z3c (m:Zd) (q:Zb) (fr:Bool) (table:List (List Za)) (fr1:Bool) (out:List Za) (m_1:Zd) (q_1:Zb) (sizes:List Int) (mask:Int) (list0:Za) (list1:Za) (list2:Za) (list3:Za) (list4:Za) (some0:Bool) (some1:Bool) (some2:Bool) (some3:Bool) (some4:Bool) (x:List Int) (x1:List Int) (sizes1:List Int) (mask1:Int) (x2:Int) (x3:Int) (x4:Int) (x5:Int) (r:AV×List Blk) (h:(if x5<x4 then (0≤x5∧(∃ (e1:Int),x1[x5.toNat]?=some e1∧(0≤e1∧(∃ (e2:List Za),table[e1.toNat]?=some e2∧(0≤(andNotI mask1 e1)∧(∃ (e3:List Za),table[(andNotI mask1 e1).toNat]?=some e3∧(∃ (v4_0:Za),Zgl e3=some (.agg (v4_0.c.map .t),[])∧(∃ (v5_0:Za),Zgl e2=some (.agg (v5_0.c.map .t),[])∧(∃ (v6_0:List Zc),Zdo v5_0.Plan v4_0.Plan 3 0=some (.agg [.own 0],[.arr 142 3 true (v6_0.map Zc.c)])∧((∃ (v7_0:Zd) (v7_1:Zb) (v7_2:List Int) (v7_3:Int) (v7_4:Za) (v7_5:Za) (v7_6:Za) (v7_7:Za) (v7_8:Za) (v7_9:Bool) (v7_10:Bool) (v7_11:Bool) (v7_12:Bool) (v7_13:Bool),Zbr m_1 q_1 sizes mask list0 list1 list2 list3 list4 some0 some1 some2 some3 some4 v6_0 (-1)=some (.tup [],[boxO v7_0 v7_1 v7_2 v7_3 v7_4 v7_5 v7_6 v7_7 v7_8 v7_9 v7_10 v7_11 v7_12 v7_13,.dead])∧(Zet m q fr table fr1 out v7_0 v7_1 v7_2 v7_3 v7_4 v7_5 v7_6 v7_7 v7_8 v7_9 v7_10 v7_11 v7_12 v7_13 v4_0.Plan x x1 sizes1 mask1 e1 e2 e3 x2 x3 x4 x5 e2 (e2.length:Int) 0=some r))∨(∃ (v8_0:Zd) (v8_1:Zb) (v8_2:List Int) (v8_3:Int) (v8_4:Za) (v8_5:Za) (v8_6:Za) (v8_7:Za) (v8_8:Za) (v8_9:Bool) (v8_10:Bool) (v8_11:Bool) (v8_12:Bool) (v8_13:Bool) (v8_14:List Zc),Zbr m_1 q_1 sizes mask list0 list1 list2 list3 list4 some0 some1 some2 some3 some4 v6_0 (-1)=some (.tup [],[boxO v8_0 v8_1 v8_2 v8_3 v8_4 v8_5 v8_6 v8_7 v8_8 v8_9 v8_10 v8_11 v8_12 v8_13,.arr 142 3 true (v8_14.map Zc.c)])∧(Zet m q fr table fr1 out v8_0 v8_1 v8_2 v8_3 v8_4 v8_5 v8_6 v8_7 v8_8 v8_9 v8_10 v8_11 v8_12 v8_13 v4_0.Plan x x1 sizes1 mask1 e1 e2 e3 x2 x3 x4 x5 e2 (e2.length:Int) 0=some r)))))))))))) else (∃ (v9_0:Bool) (v9_1:List Za),Zlj m_1 q_1 sizes mask list0 list1 list2 list3 list4 some0 some1 some2 some3 some4=some (.own 1,[boxO m_1 q_1 sizes mask list0 list1 list2 list3 list4 some0 some1 some2 some3 some4,.arr 174 4 v9_0 (v9_1.map Za.c)])∧(0≤mask1∧(∃ (e10:List Za),table[mask1.toNat]?=some e10∧(out.length+v9_1.length≤68719476736∧(Zfn m q (fr && v9_0) (table.set mask1.toNat v9_1) (fr1 && flat (v9_1.map Za.c)) (out++v9_1) x sizes1 x2 (w (x3+1))=some r))))))):Zdq m q fr table fr1 out m_1 q_1 sizes mask list0 list1 list2 list3 list4 some0 some1 some2 some3 some4 x x1 sizes1 mask1 x2 x3 x4 x5=some r:=by
 unfold Zdq
 rw [EvL_eq Zjt.eq_1]
 simp only [Zgl,Zdo,Zbr,Zlj,Zd.c_def,Zi.c_def,Plan.c_def,Za.c_def,Zc.c_def,Zb.c_def,mpl,dfs,Zkx] at h
 try simp only [itb] at h
 try simp only [itf,gS,kk] at h
 rcases h with ⟨q1,q2,e1,⟨g3,q3⟩,q4,e2,⟨g5,q5⟩,q6,e3,⟨g7,q7⟩,v4_0,q8,v5_0,q9,v6_0,q10,(⟨v7_0,v7_1,v7_2,v7_3,v7_4,v7_5,v7_6,v7_7,v7_8,v7_9,v7_10,v7_11,v7_12,v7_13,q12,h⟩ | ⟨v8_0,v8_1,v8_2,v8_3,v8_4,v8_5,v8_6,v8_7,v8_8,v8_9,v8_10,v8_11,v8_12,v8_13,v8_14,q13,h⟩)⟩ | ⟨q1,v9_0,v9_1,q14,q15,e10,⟨g16,q16⟩,q17,h⟩
 all_goals (refine Eq.trans ?_ h;clear h;simp +decide [*,kk,Zet,Zfn,Zjv,Zju])
theorem Z3d (fr:Bool) (out:List Za) (x:Int) (x1:Int) (r:AV×List Blk) (h:(if x1<x then (0≤x1∧(∃ (e1:Za),out[x1.toNat]?=some e1∧(∃ (v2_0:List Zc),Zc4 e1.Plan=some (.agg [.own 0],[.arr 142 3 true (v2_0.map Zc.c)])∧(Zii fr (out.set x1.toNat (⟨e1.Mask,e1.Order,e1.Cost,(⟨v2_0⟩:Plan)⟩:Za)) x (w (x1+1))=some r)))) else (some (.own 0,[.arr 174 4 fr (out.map Za.c)])=some r))):Zii fr out x x1=some r:=by
 unfold Zii
 rw [EvL_eq Zsf.eq_1]
 simp only [Zc4,Plan.c_def,mpl,dfs,Zkx] at h
 try simp only [itb] at h
 try simp only [itf,gS,kk] at h
 rcases h with ⟨q1,q2,e1,⟨g3,q3⟩,v2_0,q4,h⟩ | ⟨q1,h⟩
 all_goals (refine Eq.trans ?_ h;clear h;simp +decide [*,kk,Zii,Zsg])
theorem Z3e (m:Zd) (q:Zb) (fr:Bool) (table:List (List Za)) (fr1:Bool) (out:List Za) (m_1:Zd) (q_1:Zb) (sizes:List Int) (mask:Int) (list0:Za) (list1:Za) (list2:Za) (list3:Za) (list4:Za) (some0:Bool) (some1:Bool) (some2:Bool) (some3:Bool) (some4:Bool) (y:Plan) (x:List Int) (x1:List Int) (sizes1:List Int) (mask1:Int) (x2:Int) (left:List Za) (right:List Za) (x3:Int) (x4:Int) (x5:Int) (x6:Int) (x7:List Za) (x8:Int) (x9:Int) (r:AV×List Blk) (h:(if x9<x8 then (0≤x9∧(∃ (e1:Za),x7[x9.toNat]?=some e1∧(∃ (v2_0:List Zc),Zdo e1.Plan y 5 0=some (.agg [.own 0],[.arr 142 3 true (v2_0.map Zc.c)])∧((∃ (v3_0:Zd) (v3_1:Zb) (v3_2:List Int) (v3_3:Int) (v3_4:Za) (v3_5:Za) (v3_6:Za) (v3_7:Za) (v3_8:Za) (v3_9:Bool) (v3_10:Bool) (v3_11:Bool) (v3_12:Bool) (v3_13:Bool),Zbr m_1 q_1 sizes mask list0 list1 list2 list3 list4 some0 some1 some2 some3 some4 v2_0 e1.Order=some (.tup [],[boxO v3_0 v3_1 v3_2 v3_3 v3_4 v3_5 v3_6 v3_7 v3_8 v3_9 v3_10 v3_11 v3_12 v3_13,.dead])∧(Zet m q fr table fr1 out v3_0 v3_1 v3_2 v3_3 v3_4 v3_5 v3_6 v3_7 v3_8 v3_9 v3_10 v3_11 v3_12 v3_13 y x x1 sizes1 mask1 x2 left right x3 x4 x5 x6 x7 x8 (w (x9+1))=some r))∨(∃ (v4_0:Zd) (v4_1:Zb) (v4_2:List Int) (v4_3:Int) (v4_4:Za) (v4_5:Za) (v4_6:Za) (v4_7:Za) (v4_8:Za) (v4_9:Bool) (v4_10:Bool) (v4_11:Bool) (v4_12:Bool) (v4_13:Bool) (v4_14:List Zc),Zbr m_1 q_1 sizes mask list0 list1 list2 list3 list4 some0 some1 some2 some3 some4 v2_0 e1.Order=some (.tup [],[boxO v4_0 v4_1 v4_2 v4_3 v4_4 v4_5 v4_6 v4_7 v4_8 v4_9 v4_10 v4_11 v4_12 v4_13,.arr 142 3 true (v4_14.map Zc.c)])∧(Zet m q fr table fr1 out v4_0 v4_1 v4_2 v4_3 v4_4 v4_5 v4_6 v4_7 v4_8 v4_9 v4_10 v4_11 v4_12 v4_13 y x x1 sizes1 mask1 x2 left right x3 x4 x5 x6 x7 x8 (w (x9+1))=some r)))))) else (∃ (v5_0:List Int),Zif q x2 (andNotI mask1 x2)=some (.own 0,[.arr 3 1 true (v5_0.map ic)])∧(Zct m q fr table fr1 out m_1 q_1 sizes mask list0 list1 list2 list3 list4 some0 some1 some2 some3 some4 x x1 v5_0 sizes1 mask1 left right x3 x4 x5 x6 (v5_0.length:Int) 0=some r)))):Zet m q fr table fr1 out m_1 q_1 sizes mask list0 list1 list2 list3 list4 some0 some1 some2 some3 some4 y x x1 sizes1 mask1 x2 left right x3 x4 x5 x6 x7 x8 x9=some r:=by
 unfold Zet
 rw [EvL_eq Zsc.eq_1]
 simp only [Zdo,Zbr,Zif,Zd.c_def,Zi.c_def,Plan.c_def,Za.c_def,Zc.c_def,Zb.c_def,mpl,dfs,Zkx] at h
 try simp only [itb] at h
 try simp only [itf,gS,kk] at h
 rcases h with ⟨q1,q2,e1,⟨g3,q3⟩,v2_0,q4,(⟨v3_0,v3_1,v3_2,v3_3,v3_4,v3_5,v3_6,v3_7,v3_8,v3_9,v3_10,v3_11,v3_12,v3_13,q6,h⟩ | ⟨v4_0,v4_1,v4_2,v4_3,v4_4,v4_5,v4_6,v4_7,v4_8,v4_9,v4_10,v4_11,v4_12,v4_13,v4_14,q7,h⟩)⟩ | ⟨q1,v5_0,q8,h⟩
 all_goals (refine Eq.trans ?_ h;clear h;simp +decide [*,kk,Zet,Zct,Zse])
theorem Z3f (m:Zd) (q:Zb) (fr:Bool) (table:List (List Za)) (fr1:Bool) (out:List Za) (m_1:Zd) (q_1:Zb) (sizes:List Int) (mask:Int) (list0:Za) (list1:Za) (list2:Za) (list3:Za) (list4:Za) (some0:Bool) (some1:Bool) (some2:Bool) (some3:Bool) (some4:Bool) (x:List Int) (x1:List Int) (x2:List Int) (sizes1:List Int) (mask1:Int) (left:List Za) (right:List Za) (x3:Int) (x4:Int) (x5:Int) (x6:Int) (x7:Int) (x8:Int) (r:AV×List Blk) (h:(if x8<x7 then (0≤x8∧(∃ (e1:Int),x2[x8.toNat]?=some e1∧((∃ (v2_0:Plan),Zdp m q sizes1 left e1=some (.agg (v2_0.c.map .t),[])∧((∃ (v3_0:Plan),Zdp m q sizes1 right e1=some (.agg (v3_0.c.map .t),[])∧(∃ (v4_0:List Zc),Zdo v2_0 v3_0 4 e1=some (.agg [.own 0],[.arr 142 3 true (v4_0.map Zc.c)])∧((∃ (v5_0:Zd) (v5_1:Zb) (v5_2:List Int) (v5_3:Int) (v5_4:Za) (v5_5:Za) (v5_6:Za) (v5_7:Za) (v5_8:Za) (v5_9:Bool) (v5_10:Bool) (v5_11:Bool) (v5_12:Bool) (v5_13:Bool),Zbr m_1 q_1 sizes mask list0 list1 list2 list3 list4 some0 some1 some2 some3 some4 v4_0 e1=some (.tup [],[boxO v5_0 v5_1 v5_2 v5_3 v5_4 v5_5 v5_6 v5_7 v5_8 v5_9 v5_10 v5_11 v5_12 v5_13,.dead])∧(Zct m q fr table fr1 out v5_0 v5_1 v5_2 v5_3 v5_4 v5_5 v5_6 v5_7 v5_8 v5_9 v5_10 v5_11 v5_12 v5_13 x x1 x2 sizes1 mask1 left right x3 x4 x5 x6 x7 (w (x8+1))=some r))∨(∃ (v6_0:Zd) (v6_1:Zb) (v6_2:List Int) (v6_3:Int) (v6_4:Za) (v6_5:Za) (v6_6:Za) (v6_7:Za) (v6_8:Za) (v6_9:Bool) (v6_10:Bool) (v6_11:Bool) (v6_12:Bool) (v6_13:Bool) (v6_14:List Zc),Zbr m_1 q_1 sizes mask list0 list1 list2 list3 list4 some0 some1 some2 some3 some4 v4_0 e1=some (.tup [],[boxO v6_0 v6_1 v6_2 v6_3 v6_4 v6_5 v6_6 v6_7 v6_8 v6_9 v6_10 v6_11 v6_12 v6_13,.arr 142 3 true (v6_14.map Zc.c)])∧(Zct m q fr table fr1 out v6_0 v6_1 v6_2 v6_3 v6_4 v6_5 v6_6 v6_7 v6_8 v6_9 v6_10 v6_11 v6_12 v6_13 x x1 x2 sizes1 mask1 left right x3 x4 x5 x6 x7 (w (x8+1))=some r)))))∨(∃ (v7_0:List Zc),Zdp m q sizes1 right e1=some (.agg [.own 0],[.arr 142 3 true (v7_0.map Zc.c)])∧(∃ (v8_0:List Zc),Zdo v2_0 (⟨v7_0⟩:Plan) 4 e1=some (.agg [.own 0],[.arr 142 3 true (v8_0.map Zc.c)])∧((∃ (v9_0:Zd) (v9_1:Zb) (v9_2:List Int) (v9_3:Int) (v9_4:Za) (v9_5:Za) (v9_6:Za) (v9_7:Za) (v9_8:Za) (v9_9:Bool) (v9_10:Bool) (v9_11:Bool) (v9_12:Bool) (v9_13:Bool),Zbr m_1 q_1 sizes mask list0 list1 list2 list3 list4 some0 some1 some2 some3 some4 v8_0 e1=some (.tup [],[boxO v9_0 v9_1 v9_2 v9_3 v9_4 v9_5 v9_6 v9_7 v9_8 v9_9 v9_10 v9_11 v9_12 v9_13,.dead])∧(Zct m q fr table fr1 out v9_0 v9_1 v9_2 v9_3 v9_4 v9_5 v9_6 v9_7 v9_8 v9_9 v9_10 v9_11 v9_12 v9_13 x x1 x2 sizes1 mask1 left right x3 x4 x5 x6 x7 (w (x8+1))=some r))∨(∃ (v10_0:Zd) (v10_1:Zb) (v10_2:List Int) (v10_3:Int) (v10_4:Za) (v10_5:Za) (v10_6:Za) (v10_7:Za) (v10_8:Za) (v10_9:Bool) (v10_10:Bool) (v10_11:Bool) (v10_12:Bool) (v10_13:Bool) (v10_14:List Zc),Zbr m_1 q_1 sizes mask list0 list1 list2 list3 list4 some0 some1 some2 some3 some4 v8_0 e1=some (.tup [],[boxO v10_0 v10_1 v10_2 v10_3 v10_4 v10_5 v10_6 v10_7 v10_8 v10_9 v10_10 v10_11 v10_12 v10_13,.arr 142 3 true (v10_14.map Zc.c)])∧(Zct m q fr table fr1 out v10_0 v10_1 v10_2 v10_3 v10_4 v10_5 v10_6 v10_7 v10_8 v10_9 v10_10 v10_11 v10_12 v10_13 x x1 x2 sizes1 mask1 left right x3 x4 x5 x6 x7 (w (x8+1))=some r)))))))∨(∃ (v11_0:List Zc),Zdp m q sizes1 left e1=some (.agg [.own 0],[.arr 142 3 true (v11_0.map Zc.c)])∧((∃ (v12_0:Plan),Zdp m q sizes1 right e1=some (.agg (v12_0.c.map .t),[])∧(∃ (v13_0:List Zc),Zdo (⟨v11_0⟩:Plan) v12_0 4 e1=some (.agg [.own 0],[.arr 142 3 true (v13_0.map Zc.c)])∧((∃ (v14_0:Zd) (v14_1:Zb) (v14_2:List Int) (v14_3:Int) (v14_4:Za) (v14_5:Za) (v14_6:Za) (v14_7:Za) (v14_8:Za) (v14_9:Bool) (v14_10:Bool) (v14_11:Bool) (v14_12:Bool) (v14_13:Bool),Zbr m_1 q_1 sizes mask list0 list1 list2 list3 list4 some0 some1 some2 some3 some4 v13_0 e1=some (.tup [],[boxO v14_0 v14_1 v14_2 v14_3 v14_4 v14_5 v14_6 v14_7 v14_8 v14_9 v14_10 v14_11 v14_12 v14_13,.dead])∧(Zct m q fr table fr1 out v14_0 v14_1 v14_2 v14_3 v14_4 v14_5 v14_6 v14_7 v14_8 v14_9 v14_10 v14_11 v14_12 v14_13 x x1 x2 sizes1 mask1 left right x3 x4 x5 x6 x7 (w (x8+1))=some r))∨(∃ (v15_0:Zd) (v15_1:Zb) (v15_2:List Int) (v15_3:Int) (v15_4:Za) (v15_5:Za) (v15_6:Za) (v15_7:Za) (v15_8:Za) (v15_9:Bool) (v15_10:Bool) (v15_11:Bool) (v15_12:Bool) (v15_13:Bool) (v15_14:List Zc),Zbr m_1 q_1 sizes mask list0 list1 list2 list3 list4 some0 some1 some2 some3 some4 v13_0 e1=some (.tup [],[boxO v15_0 v15_1 v15_2 v15_3 v15_4 v15_5 v15_6 v15_7 v15_8 v15_9 v15_10 v15_11 v15_12 v15_13,.arr 142 3 true (v15_14.map Zc.c)])∧(Zct m q fr table fr1 out v15_0 v15_1 v15_2 v15_3 v15_4 v15_5 v15_6 v15_7 v15_8 v15_9 v15_10 v15_11 v15_12 v15_13 x x1 x2 sizes1 mask1 left right x3 x4 x5 x6 x7 (w (x8+1))=some r)))))∨(∃ (v16_0:List Zc),Zdp m q sizes1 right e1=some (.agg [.own 0],[.arr 142 3 true (v16_0.map Zc.c)])∧(∃ (v17_0:List Zc),Zdo (⟨v11_0⟩:Plan) (⟨v16_0⟩:Plan) 4 e1=some (.agg [.own 0],[.arr 142 3 true (v17_0.map Zc.c)])∧((∃ (v18_0:Zd) (v18_1:Zb) (v18_2:List Int) (v18_3:Int) (v18_4:Za) (v18_5:Za) (v18_6:Za) (v18_7:Za) (v18_8:Za) (v18_9:Bool) (v18_10:Bool) (v18_11:Bool) (v18_12:Bool) (v18_13:Bool),Zbr m_1 q_1 sizes mask list0 list1 list2 list3 list4 some0 some1 some2 some3 some4 v17_0 e1=some (.tup [],[boxO v18_0 v18_1 v18_2 v18_3 v18_4 v18_5 v18_6 v18_7 v18_8 v18_9 v18_10 v18_11 v18_12 v18_13,.dead])∧(Zct m q fr table fr1 out v18_0 v18_1 v18_2 v18_3 v18_4 v18_5 v18_6 v18_7 v18_8 v18_9 v18_10 v18_11 v18_12 v18_13 x x1 x2 sizes1 mask1 left right x3 x4 x5 x6 x7 (w (x8+1))=some r))∨(∃ (v19_0:Zd) (v19_1:Zb) (v19_2:List Int) (v19_3:Int) (v19_4:Za) (v19_5:Za) (v19_6:Za) (v19_7:Za) (v19_8:Za) (v19_9:Bool) (v19_10:Bool) (v19_11:Bool) (v19_12:Bool) (v19_13:Bool) (v19_14:List Zc),Zbr m_1 q_1 sizes mask list0 list1 list2 list3 list4 some0 some1 some2 some3 some4 v17_0 e1=some (.tup [],[boxO v19_0 v19_1 v19_2 v19_3 v19_4 v19_5 v19_6 v19_7 v19_8 v19_9 v19_10 v19_11 v19_12 v19_13,.arr 142 3 true (v19_14.map Zc.c)])∧(Zct m q fr table fr1 out v19_0 v19_1 v19_2 v19_3 v19_4 v19_5 v19_6 v19_7 v19_8 v19_9 v19_10 v19_11 v19_12 v19_13 x x1 x2 sizes1 mask1 left right x3 x4 x5 x6 x7 (w (x8+1))=some r)))))))))) else (Zdq m q fr table fr1 out m_1 q_1 sizes mask list0 list1 list2 list3 list4 some0 some1 some2 some3 some4 x x1 sizes1 mask1 x3 x4 x5 (w (x6+1))=some r))):Zct m q fr table fr1 out m_1 q_1 sizes mask list0 list1 list2 list3 list4 some0 some1 some2 some3 some4 x x1 x2 sizes1 mask1 left right x3 x4 x5 x6 x7 x8=some r:=by
 unfold Zct
 rw [EvL_eq Zsd.eq_1]
 simp only [Zdp,Zdo,Zbr,Zd.c_def,Zi.c_def,Plan.c_def,Za.c_def,Zc.c_def,Zb.c_def,mpl,dfs,Zkx] at h
 try simp only [itb] at h
 try simp only [itf,gS,kk] at h
 rcases h with ⟨q1,q2,e1,⟨g3,q3⟩,(⟨v2_0,q5,(⟨v3_0,q7,v4_0,q8,(⟨v5_0,v5_1,v5_2,v5_3,v5_4,v5_5,v5_6,v5_7,v5_8,v5_9,v5_10,v5_11,v5_12,v5_13,q10,h⟩ | ⟨v6_0,v6_1,v6_2,v6_3,v6_4,v6_5,v6_6,v6_7,v6_8,v6_9,v6_10,v6_11,v6_12,v6_13,v6_14,q11,h⟩)⟩ | ⟨v7_0,q12,v8_0,q13,(⟨v9_0,v9_1,v9_2,v9_3,v9_4,v9_5,v9_6,v9_7,v9_8,v9_9,v9_10,v9_11,v9_12,v9_13,q15,h⟩ | ⟨v10_0,v10_1,v10_2,v10_3,v10_4,v10_5,v10_6,v10_7,v10_8,v10_9,v10_10,v10_11,v10_12,v10_13,v10_14,q16,h⟩)⟩)⟩ | ⟨v11_0,q17,(⟨v12_0,q19,v13_0,q20,(⟨v14_0,v14_1,v14_2,v14_3,v14_4,v14_5,v14_6,v14_7,v14_8,v14_9,v14_10,v14_11,v14_12,v14_13,q22,h⟩ | ⟨v15_0,v15_1,v15_2,v15_3,v15_4,v15_5,v15_6,v15_7,v15_8,v15_9,v15_10,v15_11,v15_12,v15_13,v15_14,q23,h⟩)⟩ | ⟨v16_0,q24,v17_0,q25,(⟨v18_0,v18_1,v18_2,v18_3,v18_4,v18_5,v18_6,v18_7,v18_8,v18_9,v18_10,v18_11,v18_12,v18_13,q27,h⟩ | ⟨v19_0,v19_1,v19_2,v19_3,v19_4,v19_5,v19_6,v19_7,v19_8,v19_9,v19_10,v19_11,v19_12,v19_13,v19_14,q28,h⟩)⟩)⟩)⟩ | ⟨q1,h⟩
 all_goals (refine Eq.trans ?_ h;clear h;simp +decide [*,kk,Zct,Zdq,Zoj])
theorem Zbfy (a:Zd) (a1:Zb) (a2:List Int) (r:AV×List Blk) (h:(∃ (v1_0:Bool),Zia a=some (Bo v1_0,[])∧(if v1_0=true then (∃ (v2_0:Bool),Zib a1 a2=some (Bo v2_0,[])∧(if v2_0=true then (∃ (v3_0:Int),Zb7 a1=some (I v3_0,[])∧(0≤(w (v3_0+1))∧((w (v3_0+1))≤(w (v3_0+1))∧((w (v3_0+1)).toNat*24≤room∧((w (v3_0+1))≤140737488355328∧(∃ (v4_0:List Int),Zlf a1=some (.own 0,[.arr 3 1 true (v4_0.map ic)])∧(Zfn a a1 true (List.replicate ((w (v3_0+1))).toNat ([])) true ([]:List Za) v4_0 a2 (v4_0.length:Int) 0=some r))))))) else (some (.t .nil,[])=some r))) else (some (.t .nil,[])=some r)))):Zjw a a1 a2=some r:=by
 unfold Zjw
 refine run Zbcc rfl ?_
 obtain ⟨v1_0,q1,h⟩:=h
 unfold Zia at q1
 try simp at q1
 by_cases q2:v1_0=true
 ·rw [if_pos q2] at h
  obtain ⟨v2_0,q3,h⟩:=h
  unfold Zib at q3
  try simp at q3
  by_cases q4:v2_0=true
  ·rw [if_pos q4] at h
   obtain ⟨v3_0,q5,h⟩:=h
   unfold Zb7 at q5
   try simp at q5
   obtain ⟨q6,h⟩:=h
   obtain ⟨q7,h⟩:=h
   obtain ⟨q8,h⟩:=h
   have zq8:=q8;try simp at zq8
   obtain ⟨q9,h⟩:=h
   obtain ⟨v4_0,q10,h⟩:=h
   unfold Zlf at q10
   try simp at q10
   refine Eq.trans ?_ h
   clear h
   simp +decide [*,Zok,Zfn]
  ·rw [if_neg q4] at h
   refine Eq.trans ?_ h
   clear h
   simp +decide [*,Zok]
 ·rw [if_neg q2] at h
  refine Eq.trans ?_ h
  clear h
  simp +decide [*,Zok]
theorem Z3g (Mask:Int) (Order:Int) (Cost:Int) (best:Za) (fr:Bool) (x:List Za) (x1:Int) (x2:Int) (r:AV×List Blk) (h:(if x2<x1 then (0≤x2∧(∃ (e1:Za),x[x2.toNat]?=some e1∧(if e1.Cost<best.Cost then (Zgo Mask Order Cost e1 fr x x1 (w (x2+1))=some r) else (Zgo Mask Order Cost best fr x x1 (w (x2+1))=some r)))) else (some (.agg (best.c.map .t),[.arr 174 4 fr (x.map Za.c)])=some r))):Zgo Mask Order Cost best fr x x1 x2=some r:=by
 unfold Zgo
 rw [EvL_eq Zlh.eq_1]
 try simp only [itb] at h
 try simp only [itf,gS,kk] at h
 rcases h with ⟨q1,q2,e1,⟨g3,q3⟩,(⟨q4,h⟩ | ⟨q4,h⟩)⟩ | ⟨q1,h⟩
 all_goals (refine Eq.trans ?_ h;clear h;simp +decide [*,kk,Zgo,Zr6,Zli])
theorem Zbfz (fr:Bool) (x:List Za) (r:AV×List Blk) (h:(∃ (e1:Za),x[0]?=some e1∧(Zgo 0 0 0 e1 fr x (x.length:Int) 0=some r))):Zlm fr x=some r:=by
 unfold Zlm
 refine runM Z2b rfl ?_
 try simp only [itb] at h
 try simp only [itf,gS,kk] at h
 rcases h with ⟨e1,⟨g1,q1⟩,h⟩
 all_goals (refine Eq.trans ?_ h;clear h;simp +decide [*,kk,Zr7,Zgo])
theorem Z3h (Mask:Int) (Order:Int) (Cost:Int) (fr:Bool) (x:List Za) (mask:Int) (x1:List Za) (x2:Int) (x3:Int) (r:AV×List Blk) (h:(if x3<x2 then (0≤x3∧(∃ (e1:Za),x1[x3.toNat]?=some e1∧(if e1.Mask=mask then (x.length+1≤68719476736∧(Zgp Mask Order Cost false (x++[e1]) mask x1 x2 (w (x3+1))=some r)) else (Zgp Mask Order Cost fr x mask x1 x2 (w (x3+1))=some r)))) else (if (x.length:Int)=0 then (some (.tup [.agg [I 0,I 0,I 0,.t .nil],Bo false],[])=some r) else (∃ (v2_0:Za),Zlm fr x=some (.agg (v2_0.c.map .t),[.arr 174 4 fr (x.map Za.c)])∧(∃ (v3_0:List Zc),Zc4 v2_0.Plan=some (.agg [.own 0],[.arr 142 3 true (v3_0.map Zc.c)])∧(some (.tup [.agg [I v2_0.Mask,I v2_0.Order,I v2_0.Cost,.own 0],Bo true],[.arr 142 3 true (v3_0.map Zc.c)])=some r)))))):Zgp Mask Order Cost fr x mask x1 x2 x3=some r:=by
 unfold Zgp
 rw [EvL_eq Zsi.eq_1]
 simp only [Zlm,Zc4,Plan.c_def,Za.c_def,mpl,dfs] at h
 try simp only [itb] at h
 try simp only [itf,gS,kk] at h
 rcases h with ⟨q1,q2,e1,⟨g3,q3⟩,(⟨q4,q5,h⟩ | ⟨q4,h⟩)⟩ | ⟨q1,(⟨q6,h⟩ | ⟨q6,v2_0,q7,v3_0,q8,h⟩)⟩
 all_goals (refine Eq.trans ?_ h;clear h;simp +decide [*,kk,Zgp,Zzl,Zsj])
theorem Zbf0 (a:List Za) (a1:Int) (r:AV×List Blk) (h:(Zgp 0 0 0 true ([]:List Za) a1 a (a.length:Int) 0=some r)):Zjx a a1=some r:=by
 unfold Zjx
 refine run Zbcd rfl ?_
 refine Eq.trans ?_ h;clear h;simp +decide [*,kk,Zzm,Zgp]
theorem Zbf1 (a:Zd) (a1:Zb) (a2:List Int) (r:AV×List Blk) (h:((Zjw a a1 a2=some (.t .nil,[])∧(∃ (v2_0:Int),Zb7 a1=some (I v2_0,[])∧((∃ (v3_0:Int) (v3_1:Int) (v3_2:Int),Zsh v2_0=some (.tup [.agg [I v3_0,I v3_1,I v3_2,.t .nil],Bo false],[])∧(some (.tup [.agg [I v3_0,I v3_1,I v3_2,.t .nil],Bo false],[])=some r))∨(∃ (v4_0:List Zc) (v4_1:Int) (v4_2:Int) (v4_3:Int),Zsh v2_0=some (.tup [.agg [I v4_1,I v4_2,I v4_3,.own 0],Bo true],[.arr 142 3 true (v4_0.map Zc.c)])∧(some (.tup [.agg [I v4_1,I v4_2,I v4_3,.own 0],Bo true],[.arr 142 3 true (v4_0.map Zc.c)])=some r)))))∨(∃ (v5_0:Bool) (v5_1:List Za),Zjw a a1 a2=some (.own 0,[.arr 174 4 v5_0 (v5_1.map Za.c)])∧(∃ (v6_0:Int),Zb7 a1=some (I v6_0,[])∧((∃ (v7_0:Int) (v7_1:Int) (v7_2:Int),Zjx v5_1 v6_0=some (.tup [.agg [I v7_0,I v7_1,I v7_2,.t .nil],Bo false],[])∧(some (.tup [.agg [I v7_0,I v7_1,I v7_2,.t .nil],Bo false],[])=some r))∨(∃ (v8_0:List Zc) (v8_1:Int) (v8_2:Int) (v8_3:Int),Zjx v5_1 v6_0=some (.tup [.agg [I v8_1,I v8_2,I v8_3,.own 0],Bo true],[.arr 142 3 true (v8_0.map Zc.c)])∧(some (.tup [.agg [I v8_1,I v8_2,I v8_3,.own 0],Bo true],[.arr 142 3 true (v8_0.map Zc.c)])=some r))))))):Zjy a a1 a2=some r:=by
 unfold Zjy
 refine run Zbce rfl ?_
 simp only [Zjw,Zb7,Zsh,Zjx,Zd.c_def,Zi.c_def,Plan.c_def,Za.c_def,Zb.c_def,mpl,dfs] at h
 rcases h with ⟨q2,v2_0,q3,(⟨v3_0,v3_1,v3_2,q5,h⟩ | ⟨v4_0,v4_1,v4_2,v4_3,q6,h⟩)⟩ | ⟨v5_0,v5_1,q7,v6_0,q8,(⟨v7_0,v7_1,v7_2,q10,h⟩ | ⟨v8_0,v8_1,v8_2,v8_3,q11,h⟩)⟩
 all_goals (refine Eq.trans ?_ h;clear h;simp +decide [*,kk,Zzn])
theorem Zbf2 (a:Zd) (a1:Zb) (a2:List Int) (r:AV×List Blk) (h:((∃ (v1_0:Int) (v1_1:Int) (v1_2:Int),Zjy a a1 a2=some (.tup [.agg [I v1_0,I v1_1,I v1_2,.t .nil],Bo false],[])∧(some (I (-1),[])=some r))∨(∃ (v2_0:List Zc) (v2_1:Int) (v2_2:Int) (v2_3:Int),Zjy a a1 a2=some (.tup [.agg [I v2_1,I v2_2,I v2_3,.own 0],Bo true],[.arr 142 3 true (v2_0.map Zc.c)])∧(some (I v2_3,[])=some r)))):Zln a a1 a2=some r:=by
 unfold Zln
 refine run Zbcf rfl ?_
 simp only [Zjy,Zd.c_def,Zi.c_def,Zb.c_def,mpl,dfs] at h
 rcases h with ⟨v1_0,v1_1,v1_2,q2,h⟩ | ⟨v2_0,v2_1,v2_2,v2_3,q3,h⟩
 all_goals (refine Eq.trans ?_ h;clear h;simp +decide [*,kk,Zzo])
theorem Zbf3 (a:Zd) (a1:Zb) (a2:List Int) (r:AV×List Blk) (h:((∃ (v1_0:List Int),Zfk a2=some (.own 0,[.arr 3 1 true (v1_0.map ic)])∧(∃ (v2_0:Int),Zln a a1 v1_0=some (I v2_0,[])∧(some (I v2_0,[])=some r)))∨(Zfk a2=some (.t .nil,[])∧(∃ (v4_0:Int),Zzp a a1=some (I v4_0,[])∧(some (I v4_0,[])=some r))))):Zlo a a1 a2=some r:=by
 unfold Zlo
 refine run Zbcg rfl ?_
 simp only [Zfk,Zln,Zzp,Zd.c_def,Zi.c_def,Zb.c_def,mpl,dfs] at h
 rcases h with ⟨v1_0,q2,v2_0,q3,h⟩ | ⟨q4,v4_0,q5,h⟩
 all_goals (refine Eq.trans ?_ h;clear h;simp +decide [*,kk,Zzq])
theorem Zbf4 (a:Zd) (a1:Zb) (a2:Region) (r:AV×List Blk) (h:(∃ (v1_0:Int),Zle a a1 a2.Plan a2.Box.High=some (I v1_0,[])∧(∃ (v2_0:Int),Zlo a a1 a2.Box.Low=some (I v2_0,[])∧(some (Bo (decide ((w (100*v1_0))≤(w (a2.Percent*v2_0)))),[])=some r)))):Zd7 a a1 a2=some r:=by
 unfold Zd7
 refine run Zbch rfl ?_
 simp only [Zle,Zlo,Zd.c_def,Zi.c_def,Plan.c_def,Zb.c_def,mpl,dfs] at h
 rcases h with ⟨v1_0,q1,v2_0,q2,h⟩
 all_goals (refine Eq.trans ?_ h;clear h;simp +decide [*,kk,Zzr])
theorem Zbf5 (a:Zd) (a1:Zb) (a2:Region) (r:AV×List Blk) (h:(∃ (v1_0:Bool),Zk9 a a1 a2=some (Bo v1_0,[])∧(if v1_0=true then (∃ (v2_0:Bool),Zd7 a a1 a2=some (Bo v2_0,[])∧(some (Bo v2_0,[])=some r)) else (some (Bo false,[])=some r)))):Zgq a a1 a2=some r:=by
 unfold Zgq
 refine run Zbci rfl ?_
 simp only [Zk9,Zd7,Box.c_def,Zd.c_def,Zi.c_def,Plan.c_def,Zb.c_def,Region.c_def,mpl,dfs] at h
 try simp only [itb] at h
 try simp only [itf,gS,kk] at h
 rcases h with ⟨v1_0,q1,(⟨q2,v2_0,q3,h⟩ | ⟨q2,h⟩)⟩
 all_goals (refine Eq.trans ?_ h;clear h;simp +decide [*,kk,Zzs])
theorem Zbf6 (a:Zd) (a1:Int) (r:AV×List Blk) (h:(if a1=1 then (some (.agg (a.Scan.c.map .t),[])=some r) else (if a1=2 then (some (.agg (a.Sort_.c.map .t),[])=some r) else (if a1=3 then (some (.agg (a.Hash.c.map .t),[])=some r) else (if a1=4 then (some (.agg (a.Merge.c.map .t),[])=some r) else (some (.agg (a.Nested.c.map .t),[])=some r)))))):Zcu a a1=some r:=by
 unfold Zcu
 refine run Zbcj rfl ?_
 try simp only [itb] at h
 try simp only [itf,gS,kk] at h
 rcases h with ⟨q1,h⟩ | ⟨q1,(⟨q2,h⟩ | ⟨q2,(⟨q3,h⟩ | ⟨q3,(⟨q4,h⟩ | ⟨q4,h⟩)⟩)⟩)⟩
 all_goals (refine Eq.trans ?_ h;clear h;simp +decide [*,kk,Zzt])
theorem Zbf7 (a:Int) (a1:Int) (a2:Int) (r:AV×List Blk) (h:(if a1≤a then (some (Bo (decide (a≤a2)),[])=some r) else (some (Bo false,[])=some r))):Z0 a a1 a2=some r:=by
 unfold Z0
 refine run Zbck rfl ?_
 try simp only [itb] at h
 try simp only [itf,gS,kk] at h
 rcases h with ⟨q1,h⟩ | ⟨q1,h⟩
 all_goals (refine Eq.trans ?_ h;clear h;simp +decide [*,kk,Zzu])
theorem Zbf8 (a:Int) (r:AV×List Blk) (h:(∃ (v1_0:Bool),Z0 a (-99) 99=some (Bo v1_0,[])∧(some (Bo v1_0,[])=some r))):Zd8 a=some r:=by
 unfold Zd8
 refine run Zbcl rfl ?_
 simp only [Z0,mpl,dfs] at h
 rcases h with ⟨v1_0,q1,h⟩
 all_goals (refine Eq.trans ?_ h;clear h;simp +decide [*,kk,Zzv])
theorem Z3i (o:Zi) (i:Int) (r:AV×List Blk) (h:(if i<(o.Steps.length:Int) then (0≤i∧(∃ (e1:Zg),o.Steps[i.toNat]?=some e1∧(∃ (v2_0:Bool),Z0 e1.From 1 8192=some (Bo v2_0,[])∧(if v2_0=true then (∃ (v3_0:Bool),Zd8 e1.Add=some (Bo v3_0,[])∧(if v3_0=true then (if 0<i then (0≤(w (i - 1))∧(∃ (e4:Zg),o.Steps[(w (i - 1)).toNat]?=some e4∧(if e1.From≤e4.From then (some (Bo false,[])=some r) else (Zfo o (w (i+1))=some r)))) else (Zfo o (w (i+1))=some r)) else (some (Bo false,[])=some r))) else (some (Bo false,[])=some r))))) else (some (Bo true,[])=some r))):Zfo o i=some r:=by
 unfold Zfo
 rw [EvL_eq Zsk.eq_1]
 simp only [Z0,Zd8,mpl,dfs] at h
 try simp only [itb] at h
 try simp only [itf,gS,kk] at h
 rcases h with ⟨q1,q2,e1,⟨g3,q3⟩,v2_0,q4,(⟨q5,v3_0,q6,(⟨q7,(⟨q8,q9,e4,⟨g10,q10⟩,(⟨q11,h⟩ | ⟨q11,h⟩)⟩ | ⟨q8,h⟩)⟩ | ⟨q7,h⟩)⟩ | ⟨q5,h⟩)⟩ | ⟨q1,h⟩
 all_goals (refine Eq.trans ?_ h;clear h;simp +decide [*,kk,Zfo,Zsl])
theorem Zbf9 (a:Zi) (r:AV×List Blk) (h:(∃ (v1_0:Bool),Zd8 a.Fixed=some (Bo v1_0,[])∧(if v1_0=true then (∃ (v2_0:Bool),Zd8 a.Zj=some (Bo v2_0,[])∧(if v2_0=true then (∃ (v3_0:Bool),Zd8 a.Zk=some (Bo v3_0,[])∧(if v3_0=true then (∃ (v4_0:Bool),Zd8 a.Zm=some (Bo v4_0,[])∧(if v4_0=true then (∃ (v5_0:Bool),Zd8 a.Zl=some (Bo v5_0,[])∧(if v5_0=true then (if 4<(a.Steps.length:Int) then (some (Bo false,[])=some r) else (Zfo a 0=some r)) else (some (Bo false,[])=some r))) else (some (Bo false,[])=some r))) else (some (Bo false,[])=some r))) else (some (Bo false,[])=some r))) else (some (Bo false,[])=some r)))):Zeu a=some r:=by
 unfold Zeu
 refine run Zbcm rfl ?_
 simp only [Zd8,mpl,dfs] at h
 try simp only [itb] at h
 try simp only [itf,gS,kk] at h
 rcases h with ⟨v1_0,q1,(⟨q2,v2_0,q3,(⟨q4,v3_0,q5,(⟨q6,v4_0,q7,(⟨q8,v5_0,q9,(⟨q10,(⟨q11,h⟩ | ⟨q11,h⟩)⟩ | ⟨q10,h⟩)⟩ | ⟨q8,h⟩)⟩ | ⟨q6,h⟩)⟩ | ⟨q4,h⟩)⟩ | ⟨q2,h⟩)⟩
 all_goals (refine Eq.trans ?_ h;clear h;simp +decide [*,kk,Zzw,Zfo])
theorem Zbga (k:Int) (n:Int) (i:Int) (r:AV×List Blk) (h:(if i<k then (Zgr k (if 1<(w (n*4)) then (w (n*4)) else 1) (w (i+1))=some r) else (some (I n,[])=some r))):Zgr k n i=some r:=by
 unfold Zgr
 rw [EvL_eq Zsm.eq_1]
 try simp only [itb] at h
 try simp only [itf,gS,kk] at h
 rcases h with ⟨q1,h⟩ | ⟨q1,h⟩
 all_goals (refine Eq.trans ?_ h;clear h;simp +decide [*,kk,Zgr,Zsn])
theorem Zbgb (a:Int) (r:AV×List Blk) (h:(∃ (v1_0:Bool),Z0 a 0 7=some (Bo v1_0,[])∧(if v1_0=true then (Zgr a 0 0=some r) else (some (I (-1),[])=some r)))):Zfp a=some r:=by
 unfold Zfp
 refine run Zbcn rfl ?_
 simp only [Z0,mpl,dfs] at h
 try simp only [itb] at h
 try simp only [itf,gS,kk] at h
 rcases h with ⟨v1_0,q1,(⟨q2,h⟩ | ⟨q2,h⟩)⟩
 all_goals (refine Eq.trans ?_ h;clear h;simp +decide [*,kk,Zzx,Zgr])
theorem Z3j (o:Zi) (l:Int) (r_1:Int) (n:Int) (i:Int) (r:AV×List Blk) (h:(if i<(o.Steps.length:Int) then (0≤i∧(∃ (e1:Zg),o.Steps[i.toNat]?=some e1∧(if e1.From≤(w (l+r_1)) then (Zfq o l r_1 (w (n+e1.Add)) (w (i+1))=some r) else (Zfq o l r_1 n (w (i+1))=some r)))) else (some (I n,[])=some r))):Zfq o l r_1 n i=some r:=by
 unfold Zfq
 rw [EvL_eq Zso.eq_1]
 try simp only [itb] at h
 try simp only [itf,gS,kk] at h
 rcases h with ⟨q1,q2,e1,⟨g3,q3⟩,(⟨q4,h⟩ | ⟨q4,h⟩)⟩ | ⟨q1,h⟩
 all_goals (refine Eq.trans ?_ h;clear h;simp +decide [*,kk,Zfq,Zzy,Zsp])
theorem Zbgc (a:Zi) (a1:Int) (a2:Int) (a3:Int) (r:AV×List Blk) (h:(∃ (v1_0:Bool),Zeu a=some (Bo v1_0,[])∧(if v1_0=true then (∃ (v2_0:Bool),Z0 a1 0 4096=some (Bo v2_0,[])∧(if v2_0=true then (∃ (v3_0:Bool),Z0 a2 0 4096=some (Bo v3_0,[])∧(if v3_0=true then (∃ (v4_0:Bool),Z0 a3 0 4096=some (Bo v4_0,[])∧(if v4_0=true then (Zfq a a1 a2 (w ((w ((w ((w (a.Fixed+(w (a.Zj*a1))))+(w (a.Zk*a2))))+(w (a.Zm*a3))))+(w ((w (a.Zl*a1))*a2)))) 0=some r) else (some (I 0,[])=some r))) else (some (I 0,[])=some r))) else (some (I 0,[])=some r))) else (some (I 0,[])=some r)))):Zbw a a1 a2 a3=some r:=by
 unfold Zbw
 refine run Zbco rfl ?_
 simp only [Zeu,Z0,Zi.c_def,mpl,dfs] at h
 try simp only [itb] at h
 try simp only [itf,gS,kk] at h
 rcases h with ⟨v1_0,q1,(⟨q2,v2_0,q3,(⟨q4,v3_0,q5,(⟨q6,v4_0,q7,(⟨q8,h⟩ | ⟨q8,h⟩)⟩ | ⟨q6,h⟩)⟩ | ⟨q4,h⟩)⟩ | ⟨q2,h⟩)⟩
 all_goals (refine Eq.trans ?_ h;clear h;simp +decide [*,kk,Zzz,Zfq])
theorem Zbgd (a:Zi) (a1:List Int) (r:AV×List Blk) (h:(∃ (e1:Int),a1[0]?=some e1∧(∃ (v2_0:Int),Zfp e1=some (I v2_0,[])∧(∃ (e3:Int),a1[1]?=some e3∧(∃ (v4_0:Int),Zfp e3=some (I v4_0,[])∧(∃ (e5:Int),a1[2]?=some e5∧(∃ (v6_0:Int),Zfp e5=some (I v6_0,[])∧(∃ (v7_0:Int),Zbw a v2_0 v4_0 v6_0=some (I v7_0,[])∧(some (I v7_0,[])=some r))))))))):Zgs a a1=some r:=by
 unfold Zgs
 refine run Zbcp rfl ?_
 simp only [Zfp,Zbw,Zi.c_def,mpl,dfs] at h
 try simp only [itb] at h
 try simp only [itf,gS,kk] at h
 rcases h with ⟨e1,⟨g1,q1⟩,v2_0,q2,e3,⟨g3,q3⟩,v4_0,q4,e5,⟨g5,q5⟩,v6_0,q6,v7_0,q7,h⟩
 all_goals (refine Eq.trans ?_ h;clear h;simp +decide [*,kk,Zz0])
theorem Z3k (o:Zi) (a:Int) (r:AV×List Blk) (h:(if a≤7 then (Zgu o a 0=some r) else (some (.tup [.own 0,.own 1,Bo false],[.arr 3 1 true (([]:List Int).map ic),.arr 3 1 true (([]:List Int).map ic)])=some r))):Zgt o a=some r:=by
 unfold Zgt
 rw [EvL_eq Zjz.eq_1]
 try simp only [itb] at h
 try simp only [itf,gS,kk] at h
 rcases h with ⟨q1,h⟩ | ⟨q1,h⟩
 all_goals (refine Eq.trans ?_ h;clear h;simp +decide [*,kk,Zgu,Zj0])
theorem Z3l (o:Zi) (a:Int) (b:Int) (r:AV×List Blk) (h:(if b≤7 then (Zgv o a b 0=some r) else (Zgt o (w (a+1))=some r))):Zgu o a b=some r:=by
 unfold Zgu
 rw [EvL_eq Zlp.eq_1]
 try simp only [itb] at h
 try simp only [itf,gS,kk] at h
 rcases h with ⟨q1,h⟩ | ⟨q1,h⟩
 all_goals (refine Eq.trans ?_ h;clear h;simp +decide [*,kk,Zgv,Zgt,Zlq])
theorem Z3m (o:Zi) (a:Int) (b:Int) (e:Int) (r:AV×List Blk) (h:(if e≤7 then (Zd9 o ([a,b,e]) a b e 0=some r) else (Zgu o a (w (b+1))=some r))):Zgv o a b e=some r:=by
 unfold Zgv
 rw [EvL_eq Zol.eq_1]
 try simp only [itb] at h
 try simp only [itf,gS,kk] at h
 rcases h with ⟨q1,h⟩ | ⟨q1,h⟩
 all_goals (refine Eq.trans ?_ h;clear h;simp +decide [*,kk,Zd9,Zgu,Zom])
theorem Z3n (o:Zi) (x:List Int) (a:Int) (b:Int) (e:Int) (k:Int) (r:AV×List Blk) (h:(if k<3 then (x.length≤68719476736∧(0≤k∧(∃ (e1:Int),x[k.toNat]?=some e1∧(if (w (e1+1))≤7 then (∃ (v2_0:Int),Zgs o (x.set k.toNat (w (e1+1)))=some (I v2_0,[])∧(∃ (v3_0:Int),Zgs o x=some (I v3_0,[])∧(if v2_0<v3_0 then (some (.tup [.own 0,.own 1,Bo true],[.arr 3 1 true (x.map ic),.arr 3 1 true ((x.set k.toNat (w (e1+1))).map ic)])=some r) else (Zd9 o x a b e (w (k+1))=some r)))) else (Zd9 o x a b e (w (k+1))=some r))))) else (Zgv o a b (w (e+1))=some r))):Zd9 o x a b e k=some r:=by
 unfold Zd9
 rw [EvL_eq Zsq.eq_1]
 simp only [Zgs,Zi.c_def,mpl,dfs] at h
 try simp only [itb] at h
 try simp only [itf,gS,kk] at h
 rcases h with ⟨q1,q2,q3,e1,⟨g4,q4⟩,(⟨q5,v2_0,q6,v3_0,q7,(⟨q8,h⟩ | ⟨q8,h⟩)⟩ | ⟨q5,h⟩)⟩ | ⟨q1,h⟩
 all_goals (refine Eq.trans ?_ h;clear h;simp +decide [*,kk,Zd9,Zgv,Zsr])
theorem Zbge (a:Zi) (r:AV×List Blk) (h:(∃ (v1_0:Bool),Zeu a=some (Bo v1_0,[])∧(if v1_0=true then (Zgt a 0=some r) else (some (.tup [.own 0,.own 1,Bo false],[.arr 3 1 true (([]:List Int).map ic),.arr 3 1 true (([]:List Int).map ic)])=some r)))):Zlr a=some r:=by
 unfold Zlr
 refine run Zbcq rfl ?_
 simp only [Zeu,Zi.c_def,mpl,dfs] at h
 try simp only [itb] at h
 try simp only [itf,gS,kk] at h
 rcases h with ⟨v1_0,q1,(⟨q2,h⟩ | ⟨q2,h⟩)⟩
 all_goals (refine Eq.trans ?_ h;clear h;simp +decide [*,kk,Zz1,Zgt])
theorem Z3o (o:Zi) (a:Int) (r:AV×List Blk) (h:(if a≤7 then (Zgx o a 0=some r) else (some (.own 0,[.arr 3 1 true (([]:List Int).map ic)])=some r))):Zgw o a=some r:=by
 unfold Zgw
 rw [EvL_eq Zls.eq_1]
 try simp only [itb] at h
 try simp only [itf,gS,kk] at h
 rcases h with ⟨q1,h⟩ | ⟨q1,h⟩
 all_goals (refine Eq.trans ?_ h;clear h;simp +decide [*,kk,Zgx,Zlt])
theorem Z3p (o:Zi) (a:Int) (b:Int) (r:AV×List Blk) (h:(if b≤7 then (Zij o a b 0=some r) else (Zgw o (w (a+1))=some r))):Zgx o a b=some r:=by
 unfold Zgx
 rw [EvL_eq Zon.eq_1]
 try simp only [itb] at h
 try simp only [itf,gS,kk] at h
 rcases h with ⟨q1,h⟩ | ⟨q1,h⟩
 all_goals (refine Eq.trans ?_ h;clear h;simp +decide [*,kk,Zij,Zgw,Zoo])
theorem Zus (o:Zi) (a:Int) (b:Int) (e:Int) (r:AV×List Blk) (h:(if e≤7 then (∃ (v1_0:Int),Zgs o ([a,b,e])=some (I v1_0,[])∧(if v1_0<1 then (some (.own 0,[.arr 3 1 true (([a,b,e]).map ic)])=some r) else (Zij o a b (w (e+1))=some r))) else (Zgx o a (w (b+1))=some r))):Zij o a b e=some r:=by
 unfold Zij
 rw [EvL_eq Zss.eq_1]
 simp only [Zgs,Zi.c_def,mpl,dfs] at h
 try simp only [itb] at h
 try simp only [itf,gS,kk] at h
 rcases h with ⟨q1,v1_0,q2,(⟨q3,h⟩ | ⟨q3,h⟩)⟩ | ⟨q1,h⟩
 all_goals (refine Eq.trans ?_ h;clear h;simp +decide [*,kk,Zij,Zgx,Zst])
theorem Zbgf (a:Zi) (r:AV×List Blk) (h:(Zgw a 0=some r)):Zlu a=some r:=by
 unfold Zlu
 refine run Zbcr rfl ?_
 refine Eq.trans ?_ h;clear h;simp +decide [*,kk,Zz2,Zgw]
theorem Z3q (m:Zd) (k:Int) (r:AV×List Blk) (h:(if k≤5 then (∃ (v1_0:Zi),Zcu m k=some (.agg (v1_0.c.map .t),[])∧(∃ (v2_0:Bool),Zeu v1_0=some (Bo v2_0,[])∧(if v2_0=true then (∃ (v3_0:List Int) (v3_1:List Int) (v3_2:Bool),Zlr v1_0=some (.tup [.own 0,.own 1,Bo v3_2],[.arr 3 1 true (v3_0.map ic),.arr 3 1 true (v3_1.map ic)])∧(if v3_2=true then (some (.tup [I k,.own 0,.own 1],[.arr 3 1 true (v3_0.map ic),.arr 3 1 true (v3_1.map ic)])=some r) else (∃ (v4_0:List Int),Zlu v1_0=some (.own 0,[.arr 3 1 true (v4_0.map ic)])∧(if 0<(v4_0.length:Int) then (some (.tup [I k,.own 0,.own 1],[.arr 3 1 true (v4_0.map ic),.arr 3 1 true (([]:List Int).map ic)])=some r) else (Zgy m (w (k+1))=some r))))) else (some (.tup [I k,.own 0,.own 1],[.arr 3 1 true (([]:List Int).map ic),.arr 3 1 true (([]:List Int).map ic)])=some r)))) else (some (.tup [I 0,.own 0,.own 1],[.arr 3 1 true (([]:List Int).map ic),.arr 3 1 true (([]:List Int).map ic)])=some r))):Zgy m k=some r:=by
 unfold Zgy
 rw [EvL_eq Zsu.eq_1]
 simp only [Zcu,Zeu,Zlr,Zlu,Zd.c_def,Zi.c_def,mpl,dfs] at h
 try simp only [itb] at h
 try simp only [itf,gS,kk] at h
 rcases h with ⟨q1,v1_0,q2,v2_0,q3,(⟨q4,v3_0,v3_1,v3_2,q5,(⟨q6,h⟩ | ⟨q6,v4_0,q7,(⟨q8,h⟩ | ⟨q8,h⟩)⟩)⟩ | ⟨q4,h⟩)⟩ | ⟨q1,h⟩
 all_goals (refine Eq.trans ?_ h;clear h;simp +decide [*,kk,Zgy,Zsv])
theorem Zbgg (a:Zd) (r:AV×List Blk) (h:(Zgy a 1=some r)):Zop a=some r:=by
 unfold Zop
 refine run Zbcs rfl ?_
 refine Eq.trans ?_ h;clear h;simp +decide [*,kk,Zz3,Zgy]
theorem Zbgh (a:Zd) (r:AV×List Blk) (h:(∃ (v1_0:List Int) (v1_1:List Int) (v1_2:Int),Zop a=some (.tup [I v1_2,.own 0,.own 1],[.arr 3 1 true (v1_0.map ic),.arr 3 1 true (v1_1.map ic)])∧(some (Bo (decide (v1_2=0)),[])=some r))):Zlv a=some r:=by
 unfold Zlv
 refine run Zbct rfl ?_
 simp only [Zop,Zd.c_def,Zi.c_def,mpl,dfs] at h
 rcases h with ⟨v1_0,v1_1,v1_2,q1,h⟩
 all_goals (refine Eq.trans ?_ h;clear h;simp +decide [*,kk,Zz4])
theorem Zbgi (a:ByteArray) (r:AV×List Blk) (h:(if (a.size:Int)=1 then (∃ (b1:UInt8),a[0]?=some b1∧(if 97≤(b1.toNat:Int) then (some (Bo (decide ((b1.toNat:Int)≤122)),[])=some r) else (some (Bo false,[])=some r))) else (some (Bo false,[])=some r))):Zlw a=some r:=by
 unfold Zlw
 refine run Zbcu rfl ?_
 try simp only [itb] at h
 try simp only [itf,gS,kk] at h
 rcases h with ⟨q1,b1,q2,(⟨q3,h⟩ | ⟨q3,h⟩)⟩ | ⟨q1,h⟩
 all_goals (refine Eq.trans ?_ h;clear h;simp +decide [*,kk,Zz5])
theorem Z3r (l:List Int) (x:Int) (i:Int) (r:AV×List Blk) (h:(if i<(l.length:Int) then (0≤i∧(∃ (e1:Int),l[i.toNat]?=some e1∧(if e1=x then (some (Bo true,[])=some r) else (Zil l x (w (i+1))=some r)))) else (some (Bo false,[])=some r))):Zil l x i=some r:=by
 unfold Zil
 rw [EvL_eq Zsw.eq_1]
 try simp only [itb] at h
 try simp only [itf,gS,kk] at h
 rcases h with ⟨q1,q2,e1,⟨g3,q3⟩,(⟨q4,h⟩ | ⟨q4,h⟩)⟩ | ⟨q1,h⟩
 all_goals (refine Eq.trans ?_ h;clear h;simp +decide [*,kk,Zil,Zsx])
theorem Zbgj (a:List Int) (a1:Int) (r:AV×List Blk) (h:(Zil a a1 0=some r)):Zik a a1=some r:=by
 unfold Zik
 refine run Zbcv rfl ?_
 refine Eq.trans ?_ h;clear h;simp +decide [*,kk,Zz6,Zil]
theorem Z3s (q:Zb) (seen:Int) (i:Int) (r:AV×List Blk) (h:(if i<(q.Atoms.length:Int) then (0≤i∧(∃ (e1:Atom),q.Atoms[i.toNat]?=some e1∧(∃ (v2_0:Bool),Zlw e1.Name=some (Bo v2_0,[])∧(if v2_0=true then (∃ (v3_0:Bool),Z0 (e1.Vars.length:Int) 1 3=some (Bo v3_0,[])∧(if v3_0=true then (Zim q e1 seen i 0=some r) else (some (Bo false,[])=some r))) else (some (Bo false,[])=some r))))) else (¬ q.Zf<0∧(some (Bo (decide (seen=(w ((shlI 1 q.Zf) - 1)))),[])=some r)))):Zgz q seen i=some r:=by
 unfold Zgz
 rw [EvL_eq Zoq.eq_1]
 simp only [Zlw,Z0,mpl,dfs] at h
 try simp only [itb] at h
 try simp only [itf,gS,kk] at h
 rcases h with ⟨q1,q2,e1,⟨g3,q3⟩,v2_0,q4,(⟨q5,v3_0,q6,(⟨q7,h⟩ | ⟨q7,h⟩)⟩ | ⟨q5,h⟩)⟩ | ⟨q1,q8,h⟩
 all_goals (refine Eq.trans ?_ h;clear h;simp +decide [*,kk,Zim,Zor])
theorem Z3t (q:Zb) (a:Atom) (seen:Int) (i:Int) (k:Int) (r:AV×List Blk) (h:(if k<(a.Vars.length:Int) then (0≤k∧(∃ (e1:Int),a.Vars[k.toNat]?=some e1∧(∃ (v2_0:Bool),Z0 e1 0 (w (q.Zf - 1))=some (Bo v2_0,[])∧(if v2_0=true then (k.toNat≤a.Vars.length∧(∃ (v3_0:Bool),Zik (a.Vars.take k.toNat) e1=some (Bo v3_0,[])∧(if v3_0=true then (some (Bo false,[])=some r) else (¬ e1<0∧(Zim q a (orI seen (shlI 1 e1)) i (w (k+1))=some r))))) else (some (Bo false,[])=some r))))) else (Zgz q seen (w (i+1))=some r))):Zim q a seen i k=some r:=by
 unfold Zim
 rw [EvL_eq Zsy.eq_1]
 simp only [Z0,Zik,mpl,dfs] at h
 try simp only [itb] at h
 try simp only [itf,gS,kk] at h
 rcases h with ⟨q1,q2,e1,⟨g3,q3⟩,v2_0,q4,(⟨q5,q6,v3_0,q7,(⟨q8,h⟩ | ⟨q8,q9,h⟩)⟩ | ⟨q5,h⟩)⟩ | ⟨q1,h⟩
 all_goals (refine Eq.trans ?_ h;clear h;simp +decide [*,kk,Zim,Zgz,Zsz])
theorem Zbgk (a:Zb) (r:AV×List Blk) (h:(∃ (v1_0:Bool),Z0 a.Zf 1 4=some (Bo v1_0,[])∧(if v1_0=true then (∃ (v2_0:Bool),Z0 (a.Atoms.length:Int) 1 4=some (Bo v2_0,[])∧(if v2_0=true then (Zgz a 0 0=some r) else (some (Bo false,[])=some r))) else (some (Bo false,[])=some r)))):Zea a=some r:=by
 unfold Zea
 refine run Zbcw rfl ?_
 simp only [Z0,mpl,dfs] at h
 try simp only [itb] at h
 try simp only [itf,gS,kk] at h
 rcases h with ⟨v1_0,q1,(⟨q2,v2_0,q3,(⟨q4,h⟩ | ⟨q4,h⟩)⟩ | ⟨q2,h⟩)⟩
 all_goals (refine Eq.trans ?_ h;clear h;simp +decide [*,kk,Zz7,Zgz])
theorem Zbgl (a:Zb) (r:AV×List Blk) (h:(∃ (v1_0:Bool),Zea a=some (Bo v1_0,[])∧(if v1_0=true then (¬ (a.Atoms.length:Int)<0∧(some (I (w ((shlI 1 (a.Atoms.length:Int)) - 1)),[])=some r)) else (some (I 0,[])=some r)))):Zde a=some r:=by
 unfold Zde
 refine run Zbcx rfl ?_
 simp only [Zea,Zb.c_def,mpl,dfs] at h
 try simp only [itb] at h
 try simp only [itf,gS,kk] at h
 rcases h with ⟨v1_0,q1,(⟨q2,q3,h⟩ | ⟨q2,h⟩)⟩
 all_goals (refine Eq.trans ?_ h;clear h;simp +decide [*,kk,Zz8])
theorem Zbgm (a:Zb) (a1:Int) (r:AV×List Blk) (h:(∃ (v1_0:Bool),Zea a=some (Bo v1_0,[])∧(if v1_0=true then (¬ (a.Atoms.length:Int)<0∧(∃ (v2_0:Bool),Z0 a1 0 (w ((shlI 1 (a.Atoms.length:Int)) - 1))=some (Bo v2_0,[])∧(some (Bo v2_0,[])=some r))) else (some (Bo false,[])=some r)))):Zin a a1=some r:=by
 unfold Zin
 refine run Zbcy rfl ?_
 simp only [Zea,Z0,Zb.c_def,mpl,dfs] at h
 try simp only [itb] at h
 try simp only [itf,gS,kk] at h
 rcases h with ⟨v1_0,q1,(⟨q2,q3,v2_0,q4,h⟩ | ⟨q2,h⟩)⟩
 all_goals (refine Eq.trans ?_ h;clear h;simp +decide [*,kk,Zz9])
theorem Z3u (q:Zb) (mask:Int) (x:Int) (i:Int) (r:AV×List Blk) (h:(if i<(q.Atoms.length:Int) then (Zg0 q mask x i 0=some r) else (some (I x,[])=some r))):Zfr q mask x i=some r:=by
 unfold Zfr
 rw [EvL_eq Zos.eq_1]
 try simp only [itb] at h
 try simp only [itf,gS,kk] at h
 rcases h with ⟨q1,h⟩ | ⟨q1,h⟩
 all_goals (refine Eq.trans ?_ h;clear h;simp +decide [*,kk,Zg0,Zot])
theorem Zut (q:Zb) (mask:Int) (x:Int) (i:Int) (k:Int) (r:AV×List Blk) (h:(0≤i∧(∃ (e1:Atom),q.Atoms[i.toNat]?=some e1∧(if k<(e1.Vars.length:Int) then (¬ i<0∧(if (andI (shrI mask i) 1)=1 then (0≤k∧(∃ (e2:Int),e1.Vars[k.toNat]?=some e2∧(¬ e2<0∧(Zg0 q mask (orI x (shlI 1 e2)) i (w (k+1))=some r)))) else (Zfr q mask x (w (i+1))=some r))) else (Zfr q mask x (w (i+1))=some r))))):Zg0 q mask x i k=some r:=by
 unfold Zg0
 rw [EvL_eq Zs0.eq_1]
 try simp only [itb] at h
 try simp only [itf,gS,kk] at h
 rcases h with ⟨q1,e1,⟨g2,q2⟩,(⟨q3,q4,(⟨q5,q6,e2,⟨g7,q7⟩,q8,h⟩ | ⟨q5,h⟩)⟩ | ⟨q3,h⟩)⟩
 all_goals (refine Eq.trans ?_ h;clear h;simp +decide [*,kk,Zg0,Zfr,Zs1])
theorem Zbgn (a:Zb) (a1:Int) (r:AV×List Blk) (h:(Zfr a a1 0 0=some r)):Zcc a a1=some r:=by
 unfold Zcc
 refine run Zbcz rfl ?_
 refine Eq.trans ?_ h;clear h;simp +decide [*,kk,Z0a,Zfr]
theorem Z3v (q:Zb) (mask:Int) (out:Int) (bits:Int) (i:Int) (r:AV×List Blk) (h:(if i<(q.Atoms.length:Int) then (¬ i<0∧(if (andI (shrI mask i) 1)=0 then (∃ (v1_0:Int),Zcc q (shlI 1 i)=some (I v1_0,[])∧(if (andI v1_0 bits)=0 then (Zfs q mask out bits (w (i+1))=some r) else (Zfs q mask (orI out (shlI 1 i)) bits (w (i+1))=some r))) else (Zfs q mask out bits (w (i+1))=some r))) else (some (I out,[])=some r))):Zfs q mask out bits i=some r:=by
 unfold Zfs
 rw [EvL_eq Zs2.eq_1]
 simp only [Zcc,Zb.c_def,mpl,dfs] at h
 try simp only [itb] at h
 try simp only [itf,gS,kk] at h
 rcases h with ⟨q1,q2,(⟨q3,v1_0,q4,(⟨q5,h⟩ | ⟨q5,h⟩)⟩ | ⟨q3,h⟩)⟩ | ⟨q1,h⟩
 all_goals (refine Eq.trans ?_ h;clear h;simp +decide [*,kk,Zfs,Z0b,Zs3])
theorem Zbgo (a:Zb) (a1:Int) (r:AV×List Blk) (h:(∃ (v1_0:Int),Zcc a a1=some (I v1_0,[])∧(Zfs a a1 0 v1_0 0=some r))):Zlx a a1=some r:=by
 unfold Zlx
 refine run Zbc0 rfl ?_
 simp only [Zcc,Zb.c_def,mpl,dfs] at h
 rcases h with ⟨v1_0,q1,h⟩
 all_goals (refine Eq.trans ?_ h;clear h;simp +decide [*,kk,Z0c,Zfs])
theorem Z3w (q:Zb) (mask:Int) (x:Int) (n:Int) (r:AV×List Blk) (h:(if n<(q.Atoms.length:Int) then (∃ (v1_0:Int),Zlx q x=some (I v1_0,[])∧(Zio q mask (orI x (andI v1_0 mask)) (w (n+1))=some r)) else (some (Bo (decide (x=mask)),[])=some r))):Zio q mask x n=some r:=by
 unfold Zio
 rw [EvL_eq Zs4.eq_1]
 simp only [Zlx,Zb.c_def,mpl,dfs] at h
 try simp only [itb] at h
 try simp only [itf,gS,kk] at h
 rcases h with ⟨q1,v1_0,q2,h⟩ | ⟨q1,h⟩
 all_goals (refine Eq.trans ?_ h;clear h;simp +decide [*,kk,Zio,Zs5])
theorem Zbgp (a:Zb) (a1:Int) (r:AV×List Blk) (h:(Zio a a1 (andI a1 (w (0 - a1))) 0=some r)):Zev a a1=some r:=by
 unfold Zev
 refine run Zbc1 rfl ?_
 refine Eq.trans ?_ h;clear h;simp +decide [*,kk,Z0d,Zio]
theorem Zbgq (a:Zb) (a1:Int) (r:AV×List Blk) (h:(∃ (v1_0:Bool),Zin a a1=some (Bo v1_0,[])∧(if v1_0=true then (if 0<a1 then (∃ (v2_0:Bool),Zev a a1=some (Bo v2_0,[])∧(some (Bo v2_0,[])=some r)) else (some (Bo false,[])=some r)) else (some (Bo false,[])=some r)))):Zip a a1=some r:=by
 unfold Zip
 refine run Zbc2 rfl ?_
 simp only [Zin,Zev,Zb.c_def,mpl,dfs] at h
 try simp only [itb] at h
 try simp only [itf,gS,kk] at h
 rcases h with ⟨v1_0,q1,(⟨q2,(⟨q3,v2_0,q4,h⟩ | ⟨q3,h⟩)⟩ | ⟨q2,h⟩)⟩
 all_goals (refine Eq.trans ?_ h;clear h;simp +decide [*,kk,Z0e])
theorem Z3x (l:List Int) (i:Int) (r:AV×List Blk) (h:(if i<(l.length:Int) then (0≤i∧(∃ (e1:Int),l[i.toNat]?=some e1∧(∃ (v2_0:Bool),Z0 e1 0 7=some (Bo v2_0,[])∧(if v2_0=true then (Ziq l (w (i+1))=some r) else (some (Bo false,[])=some r))))) else (some (Bo (decide ((l.length:Int)≤16)),[])=some r))):Ziq l i=some r:=by
 unfold Ziq
 rw [EvL_eq Zs6.eq_1]
 simp only [Z0,mpl,dfs] at h
 try simp only [itb] at h
 try simp only [itf,gS,kk] at h
 rcases h with ⟨q1,q2,e1,⟨g3,q3⟩,v2_0,q4,(⟨q5,h⟩ | ⟨q5,h⟩)⟩ | ⟨q1,h⟩
 all_goals (refine Eq.trans ?_ h;clear h;simp +decide [*,kk,Ziq,Zs7])
theorem Zbgr (a:List Int) (r:AV×List Blk) (h:(Ziq a 0=some r)):Zg1 a=some r:=by
 unfold Zg1
 refine run Zbc3 rfl ?_
 refine Eq.trans ?_ h;clear h;simp +decide [*,kk,Z0f,Ziq]
theorem Z3y (a:List Int) (b:List Int) (i:Int) (r:AV×List Blk) (h:(if i<(a.length:Int) then (0≤i∧(∃ (e1:Int),a[i.toNat]?=some e1∧(∃ (e2:Int),b[i.toNat]?=some e2∧(if e1<e2 then (some (Bo false,[])=some r) else (Zir a b (w (i+1))=some r))))) else (some (Bo true,[])=some r))):Zir a b i=some r:=by
 unfold Zir
 rw [EvL_eq Zs8.eq_1]
 try simp only [itb] at h
 try simp only [itf,gS,kk] at h
 rcases h with ⟨q1,q2,e1,⟨g3,q3⟩,e2,⟨g4,q4⟩,(⟨q5,h⟩ | ⟨q5,h⟩)⟩ | ⟨q1,h⟩
 all_goals (refine Eq.trans ?_ h;clear h;simp +decide [*,kk,Zir,Zs9])
theorem Zbgs (a:List Int) (a1:List Int) (r:AV×List Blk) (h:(if (a.length:Int)=(a1.length:Int) then (Zir a a1 0=some r) else (some (Bo false,[])=some r))):Zg2 a a1=some r:=by
 unfold Zg2
 refine run Zbc4 rfl ?_
 try simp only [itb] at h
 try simp only [itf,gS,kk] at h
 rcases h with ⟨q1,h⟩ | ⟨q1,h⟩
 all_goals (refine Eq.trans ?_ h;clear h;simp +decide [*,kk,Z0g,Zir])
theorem Zbgt (a:Box) (r:AV×List Blk) (h:(if 0<(a.Low.length:Int) then (∃ (v1_0:Bool),Zg1 a.Low=some (Bo v1_0,[])∧(if v1_0=true then (∃ (v2_0:Bool),Zg1 a.High=some (Bo v2_0,[])∧(if v2_0=true then (∃ (v3_0:Bool),Zg2 a.High a.Low=some (Bo v3_0,[])∧(some (Bo v3_0,[])=some r)) else (some (Bo false,[])=some r))) else (some (Bo false,[])=some r))) else (some (Bo false,[])=some r))):Zft a=some r:=by
 unfold Zft
 refine run Zbc5 rfl ?_
 simp only [Zg1,Zg2,mpl,dfs] at h
 try simp only [itb] at h
 try simp only [itf,gS,kk] at h
 rcases h with ⟨q1,v1_0,q2,(⟨q3,v2_0,q4,(⟨q5,v3_0,q6,h⟩ | ⟨q5,h⟩)⟩ | ⟨q3,h⟩)⟩ | ⟨q1,h⟩
 all_goals (refine Eq.trans ?_ h;clear h;simp +decide [*,kk,Z0h])
theorem Zbgu (a:Int) (a1:Int) (r:AV×List Blk) (h:(∃ (v1_0:Bool),Z0 a1 0 3=some (Bo v1_0,[])∧(if v1_0=true then (¬ a1<0∧(some (Bo (decide ((andI (shrI a a1) 1)=1)),[])=some r)) else (some (Bo false,[])=some r)))):Zfu a a1=some r:=by
 unfold Zfu
 refine run Zbc6 rfl ?_
 simp only [Z0,mpl,dfs] at h
 try simp only [itb] at h
 try simp only [itf,gS,kk] at h
 rcases h with ⟨v1_0,q1,(⟨q2,q3,h⟩ | ⟨q2,h⟩)⟩
 all_goals (refine Eq.trans ?_ h;clear h;simp +decide [*,kk,Z0i])
theorem Zm7 (q:Zb) (x:Zc) (x1:Zh) (info:List Zh) (stack:List Int) (n:Int) (x2:Int) (x3:Bool) (r:AV×List Blk) (h:(if x3=true then (if x.Atom=0 then (if n<2 then (some (.tup [.agg [I 0,I 0,I 0,I 0],I (-1)],[])=some r) else (0≤(w (n - 2))∧(∃ (e1:Int),stack[(w (n - 2)).toNat]?=some e1∧(0≤e1∧(∃ (e2:Zh),info[e1.toNat]?=some e2∧(0≤(w (n - 1))∧(∃ (e3:Int),stack[(w (n - 1)).toNat]?=some e3∧(0≤e3∧(∃ (e4:Zh),info[e3.toNat]?=some e4∧(∃ (v5_0:Int),Zcc q e2.Mask=some (I v5_0,[])∧(∃ (v6_0:Int),Zcc q e4.Mask=some (I v6_0,[])∧(if (andI e2.Mask e4.Mask)=0 then (if (andI v5_0 v6_0)=0 then (some (.tup [.agg [I 0,I 0,I 0,I 0],I (-1)],[])=some r) else (if x.Kind=4 then (Zg4 q x x1 e2 e4 (⟨(orI e2.Mask e4.Mask),(-1),e1,e3⟩:Zh) (andI v5_0 v6_0) false=some r) else (if x.Order=0 then (if x.Kind=5 then (Zit q x x1 e2 e4 (⟨(orI e2.Mask e4.Mask),e2.Order,e1,e3⟩:Zh) (andI v5_0 v6_0)=some r) else (Zg4 q x x1 e2 e4 (⟨(orI e2.Mask e4.Mask),(-1),e1,e3⟩:Zh) (andI v5_0 v6_0) false=some r)) else (some (.tup [.agg [I 0,I 0,I 0,I 0],I (-1)],[])=some r)))) else (some (.tup [.agg [I 0,I 0,I 0,I 0],I (-1)],[])=some r))))))))))))) else (some (.tup [.agg [I 0,I 0,I 0,I 0],I (-1)],[])=some r)) else (some (.tup [.agg [I 0,I 0,I 0,I 0],I (-1)],[])=some r))):Zis q x x1 info stack n x2 x3=some r:=by
 unfold Zis
 rw [Ev_eq Zou.eq_1]
 by_cases q1:x3=true
 ·rw [if_pos q1] at h
  by_cases q2:x.Atom=0
  ·rw [if_pos q2] at h
   replace q2:=eq_true q2
   by_cases q3:n<2
   ·rw [if_pos q3] at h
    refine Eq.trans ?_ h
    clear h
    simp +decide [*]
   ·rw [if_neg q3] at h
    obtain ⟨q4,h⟩:=h
    obtain ⟨e1,q5,h⟩:=h
    have gq5:=ltOfGet q5
    have kq5:=getOf q5
    obtain ⟨q6,h⟩:=h
    obtain ⟨e2,q7,h⟩:=h
    have gq7:=ltOfGet q7
    have kq7:=getOf q7
    obtain ⟨q8,h⟩:=h
    obtain ⟨e3,q9,h⟩:=h
    have gq9:=ltOfGet q9
    have kq9:=getOf q9
    obtain ⟨q10,h⟩:=h
    obtain ⟨e4,q11,h⟩:=h
    have gq11:=ltOfGet q11
    have kq11:=getOf q11
    obtain ⟨v5_0,q12,h⟩:=h
    unfold Zcc at q12
    try simp at q12
    obtain ⟨v6_0,q13,h⟩:=h
    unfold Zcc at q13
    try simp at q13
    by_cases q14:(andI e2.Mask e4.Mask)=0
    ·rw [if_pos q14] at h
     replace q14:=eq_true q14
     by_cases q15:(andI v5_0 v6_0)=0
     ·rw [if_pos q15] at h
      replace q15:=eq_true q15
      refine Eq.trans ?_ h
      clear h
      simp +decide [*]
     ·rw [if_neg q15] at h
      replace q15:=eq_false q15
      by_cases q16:x.Kind=4
      ·rw [if_pos q16] at h
       replace q16:=eq_true q16
       have q17:(x.Kind=5)=False:=eq_false (by intro hh;simp_all)
       refine Eq.trans ?_ h
       clear h
       simp +decide [*,Zg4]
      ·rw [if_neg q16] at h
       replace q16:=eq_false q16
       by_cases q18:x.Order=0
       ·rw [if_pos q18] at h
        replace q18:=eq_true q18
        by_cases q19:x.Kind=5
        ·rw [if_pos q19] at h
         replace q19:=eq_true q19
         refine Eq.trans ?_ h
         clear h
         simp +decide [*,Zit]
        ·rw [if_neg q19] at h
         replace q19:=eq_false q19
         refine Eq.trans ?_ h
         clear h
         simp +decide [*,Zg4]
       ·rw [if_neg q18] at h
        replace q18:=eq_false q18
        refine Eq.trans ?_ h
        clear h
        simp +decide [*]
    ·rw [if_neg q14] at h
     replace q14:=eq_false q14
     refine Eq.trans ?_ h
     clear h
     simp +decide [*]
  ·rw [if_neg q2] at h
   replace q2:=eq_false q2
   refine Eq.trans ?_ h
   clear h
   simp +decide [*]
 ·rw [if_neg q1] at h
  refine Eq.trans ?_ h
  clear h
  simp +decide [*]
theorem Zbgv (x:Zb) (x1:Zc) (x2:Zh) (a:Zh) (b:Zh) (y:Zh) (v:Int) (r:AV×List Blk) (h:(if x1.Kind=4 then (∃ (v1_0:Bool),Zfu v x1.Order=some (Bo v1_0,[])∧(if v1_0=true then (if a.Order=x1.Order then (if b.Order=x1.Order then (some (.tup [.agg [I y.Mask,I x1.Order,I y.Left,I y.Right],I 2],[])=some r) else (some (.tup [.agg [I 0,I 0,I 0,I 0],I (-1)],[])=some r)) else (some (.tup [.agg [I 0,I 0,I 0,I 0],I (-1)],[])=some r)) else (some (.tup [.agg [I 0,I 0,I 0,I 0],I (-1)],[])=some r))) else (some (.tup [.agg (y.c.map .t),I 2],[])=some r))):Zit x x1 x2 a b y v=some r:=by
 unfold Zit
 rw [Ev_eq Zly.eq_1]
 simp only [Zfu,mpl,dfs] at h
 try simp only [itb] at h
 try simp only [itf,gS,kk] at h
 rcases h with ⟨q1,v1_0,q2,(⟨q3,(⟨q4,(⟨q5,h⟩ | ⟨q5,h⟩)⟩ | ⟨q4,h⟩)⟩ | ⟨q3,h⟩)⟩ | ⟨q1,h⟩
 all_goals (refine Eq.trans ?_ h;clear h;simp +decide [*,kk,Zta])
theorem Zuu (x:Zb) (x1:Zc) (x2:Zh) (a:Zh) (b:Zh) (y:Zh) (v:Int) (x3:Bool) (r:AV×List Blk) (h:(if x1.Kind=4 then (∃ (v1_0:Bool),Zfu v x1.Order=some (Bo v1_0,[])∧(if v1_0=true then (if a.Order=x1.Order then (if b.Order=x1.Order then (some (.tup [.agg [I y.Mask,I x1.Order,I y.Left,I y.Right],I 2],[])=some r) else (some (.tup [.agg [I 0,I 0,I 0,I 0],I (-1)],[])=some r)) else (some (.tup [.agg [I 0,I 0,I 0,I 0],I (-1)],[])=some r)) else (some (.tup [.agg [I 0,I 0,I 0,I 0],I (-1)],[])=some r))) else (some (.tup [.agg (y.c.map .t),I 2],[])=some r))):Zg4 x x1 x2 a b y v x3=some r:=by
 unfold Zg4
 rw [Ev_eq Zly.eq_1]
 simp only [Zfu,mpl,dfs] at h
 try simp only [itb] at h
 try simp only [itf,gS,kk] at h
 rcases h with ⟨q1,v1_0,q2,(⟨q3,(⟨q4,(⟨q5,h⟩ | ⟨q5,h⟩)⟩ | ⟨q4,h⟩)⟩ | ⟨q3,h⟩)⟩ | ⟨q1,h⟩
 all_goals (refine Eq.trans ?_ h;clear h;simp +decide [*,kk,Zta])
theorem Zez (a:Zb) (a1:Zc) (a2:List Zh) (a3:List Int) (r:AV×List Blk) (h:(if a1.Kind=1 then (∃ (v1_0:Bool),Z0 a1.Atom 0 (w ((a.Atoms.length:Int) - 1))=some (Bo v1_0,[])∧(if v1_0=true then (if a1.Order=0 then (¬ a1.Atom<0∧(0≤a1.Atom∧(∃ (e2:Atom),a.Atoms[a1.Atom.toNat]?=some e2∧(∃ (e3:Int),e2.Vars[0]?=some e3∧(some (.tup [.agg [I (shlI 1 a1.Atom),I e3,I (-1),I (-1)],I 0],[])=some r))))) else (some (.tup [.agg [I 0,I 0,I 0,I 0],I (-1)],[])=some r)) else (some (.tup [.agg [I 0,I 0,I 0,I 0],I (-1)],[])=some r))) else (if a1.Kind=2 then (if a1.Atom=0 then (if (a3.length:Int)<1 then (some (.tup [.agg [I 0,I 0,I 0,I 0],I (-1)],[])=some r) else (0≤(w ((a3.length:Int) - 1))∧(∃ (e4:Int),a3[(w ((a3.length:Int) - 1)).toNat]?=some e4∧(0≤e4∧(∃ (e5:Zh),a2[e4.toNat]?=some e5∧(if e5.Order=a1.Order then (some (.tup [.agg [I 0,I 0,I 0,I 0],I (-1)],[])=some r) else (∃ (v6_0:Int),Zcc a e5.Mask=some (I v6_0,[])∧(∃ (v7_0:Bool),Zfu v6_0 a1.Order=some (Bo v7_0,[])∧(if v7_0=true then (some (.tup [.agg [I e5.Mask,I a1.Order,I e4,I (-1)],I 1],[])=some r) else (some (.tup [.agg [I 0,I 0,I 0,I 0],I (-1)],[])=some r)))))))))) else (some (.tup [.agg [I 0,I 0,I 0,I 0],I (-1)],[])=some r)) else (if a1.Kind=3 then (Zis a a1 (⟨0,0,0,0⟩:Zh) a2 a3 (a3.length:Int) a1.Kind true=some r) else (if a1.Kind=4 then (Zis a a1 (⟨0,0,0,0⟩:Zh) a2 a3 (a3.length:Int) a1.Kind true=some r) else (if a1.Kind=5 then (if a1.Atom=0 then (if (a3.length:Int)<2 then (some (.tup [.agg [I 0,I 0,I 0,I 0],I (-1)],[])=some r) else (0≤(w ((a3.length:Int) - 2))∧(∃ (e8:Int),a3[(w ((a3.length:Int) - 2)).toNat]?=some e8∧(0≤e8∧(∃ (e9:Zh),a2[e8.toNat]?=some e9∧(0≤(w ((a3.length:Int) - 1))∧(∃ (e10:Int),a3[(w ((a3.length:Int) - 1)).toNat]?=some e10∧(0≤e10∧(∃ (e11:Zh),a2[e10.toNat]?=some e11∧(∃ (v12_0:Int),Zcc a e9.Mask=some (I v12_0,[])∧(∃ (v13_0:Int),Zcc a e11.Mask=some (I v13_0,[])∧(if (andI e9.Mask e11.Mask)=0 then (if (andI v12_0 v13_0)=0 then (some (.tup [.agg [I 0,I 0,I 0,I 0],I (-1)],[])=some r) else (if a1.Order=0 then (Zit a a1 (⟨0,0,0,0⟩:Zh) e9 e11 (⟨(orI e9.Mask e11.Mask),e9.Order,e8,e10⟩:Zh) (andI v12_0 v13_0)=some r) else (some (.tup [.agg [I 0,I 0,I 0,I 0],I (-1)],[])=some r))) else (some (.tup [.agg [I 0,I 0,I 0,I 0],I (-1)],[])=some r))))))))))))) else (some (.tup [.agg [I 0,I 0,I 0,I 0],I (-1)],[])=some r)) else (some (.tup [.agg [I 0,I 0,I 0,I 0],I (-1)],[])=some r))))))):Zg3 a a1 a2 a3=some r:=by
 unfold Zg3
 refine run Zbc7 rfl ?_
 simp only [Z0,Zcc,Zfu,Zb.c_def,mpl,dfs] at h
 try simp only [itb] at h
 try simp only [itf,gS,kk] at h
 rcases h with ⟨q1,v1_0,q2,(⟨q3,(⟨q4,q5,q6,e2,⟨g7,q7⟩,e3,⟨g8,q8⟩,h⟩ | ⟨q4,h⟩)⟩ | ⟨q3,h⟩)⟩ | ⟨q1,(⟨q9,(⟨q10,(⟨q11,h⟩ | ⟨q11,q12,e4,⟨g13,q13⟩,q14,e5,⟨g15,q15⟩,(⟨q16,h⟩ | ⟨q16,v6_0,q17,v7_0,q18,(⟨q19,h⟩ | ⟨q19,h⟩)⟩)⟩)⟩ | ⟨q10,h⟩)⟩ | ⟨q9,(⟨q20,h⟩ | ⟨q20,(⟨q21,h⟩ | ⟨q21,(⟨q22,(⟨q23,(⟨q24,h⟩ | ⟨q24,q25,e8,⟨g26,q26⟩,q27,e9,⟨g28,q28⟩,q29,e10,⟨g30,q30⟩,q31,e11,⟨g32,q32⟩,v12_0,q33,v13_0,q34,(⟨q35,(⟨q36,h⟩ | ⟨q36,(⟨q37,h⟩ | ⟨q37,h⟩)⟩)⟩ | ⟨q35,h⟩)⟩)⟩ | ⟨q23,h⟩)⟩ | ⟨q22,h⟩)⟩)⟩)⟩)⟩
 all_goals (refine Eq.trans ?_ h;clear h;simp +decide [*,kk,Z0j,Zis,Zou,Zit])
theorem Z3z (q:Zb) (p:Plan) (info:List Zh) (stack:List Int) (i:Int) (r:AV×List Blk) (h:(if i<(p.Steps.length:Int) then (0≤i∧(∃ (e1:Zc),p.Steps[i.toNat]?=some e1∧(∃ (v2_0:Zh) (v2_1:Int),Zg3 q e1 info stack=some (.tup [.agg (v2_0.c.map .t),I v2_1],[])∧(if v2_1<0 then (some (.tup [.own 0,Bo false],[.arr 138 4 true (([]:List Zh).map Zh.c)])=some r) else (info.length+1≤68719476736∧(0≤(w ((stack.length:Int) - v2_1))∧((w ((stack.length:Int) - v2_1)).toNat≤stack.length∧((w ((stack.length:Int) - v2_1)).toNat≤68719476736∧((w ((stack.length:Int) - v2_1)).toNat+1≤68719476736∧(Ziv q p (info++[v2_0]) ((stack.take ((w ((stack.length:Int) - v2_1)).toNat))++[i]) (w (i+1))=some r)))))))))) else (if (stack.length:Int)=1 then (some (.tup [.own 0,Bo true],[.arr 138 4 true (info.map Zh.c)])=some r) else (some (.tup [.own 0,Bo false],[.arr 138 4 true (([]:List Zh).map Zh.c)])=some r)))):Ziv q p info stack i=some r:=by
 unfold Ziv
 rw [EvL_eq Ztb.eq_1]
 simp only [Zg3,Zc.c_def,Zb.c_def,Zh.c_def,mpl,dfs] at h
 try simp only [itb] at h
 try simp only [itf,gS,kk] at h
 rcases h with ⟨q1,q2,e1,⟨g3,q3⟩,v2_0,v2_1,q4,(⟨q5,h⟩ | ⟨q5,q6,q7,q8,q9,q10,h⟩)⟩ | ⟨q1,(⟨q11,h⟩ | ⟨q11,h⟩)⟩
 all_goals (refine Eq.trans ?_ h;clear h;simp +decide [*,kk,Ziv,Ztc])
theorem Zbgw (a:Zb) (a1:Plan) (r:AV×List Blk) (h:(∃ (v1_0:Bool),Zea a=some (Bo v1_0,[])∧(if v1_0=true then (∃ (v2_0:Bool),Z0 (a1.Steps.length:Int) 1 14=some (Bo v2_0,[])∧(if v2_0=true then (Ziv a a1 ([]:List Zh) ([]:List Int) 0=some r) else (some (.tup [.own 0,Bo false],[.arr 138 4 true (([]:List Zh).map Zh.c)])=some r))) else (some (.tup [.own 0,Bo false],[.arr 138 4 true (([]:List Zh).map Zh.c)])=some r)))):Ziu a a1=some r:=by
 unfold Ziu
 refine run Zbc8 rfl ?_
 simp only [Zea,Z0,Zb.c_def,mpl,dfs] at h
 try simp only [itb] at h
 try simp only [itf,gS,kk] at h
 rcases h with ⟨v1_0,q1,(⟨q2,v2_0,q3,(⟨q4,h⟩ | ⟨q4,h⟩)⟩ | ⟨q2,h⟩)⟩
 all_goals (refine Eq.trans ?_ h;clear h;simp +decide [*,kk,Z0k,Ziv])
theorem Zbgx (a:Zb) (a1:Plan) (r:AV×List Blk) (h:(∃ (v1_0:List Zh) (v1_1:Bool),Ziu a a1=some (.tup [.own 0,Bo v1_1],[.arr 138 4 true (v1_0.map Zh.c)])∧(if v1_1=true then (0≤(w ((v1_0.length:Int) - 1))∧(∃ (e2:Zh),v1_0[(w ((v1_0.length:Int) - 1)).toNat]?=some e2∧(some (I e2.Mask,[])=some r))) else (some (I 0,[])=some r)))):Zlz a a1=some r:=by
 unfold Zlz
 refine run Zbc9 rfl ?_
 simp only [Ziu,Plan.c_def,Zb.c_def,mpl,dfs] at h
 try simp only [itb] at h
 try simp only [itf,gS,kk] at h
 rcases h with ⟨v1_0,v1_1,q1,(⟨q2,q3,e2,⟨g4,q4⟩,h⟩ | ⟨q2,h⟩)⟩
 all_goals (refine Eq.trans ?_ h;clear h;simp +decide [*,kk,Z0l])
theorem Zbgy (a:Zb) (a1:Region) (r:AV×List Blk) (h:(∃ (v1_0:Bool),Zft a1.Box=some (Bo v1_0,[])∧(if v1_0=true then (∃ (v2_0:Int),Zde a=some (I v2_0,[])∧(if (a1.Box.Low.length:Int)=(w (v2_0+1)) then (∃ (v3_0:Int),Zlz a a1.Plan=some (I v3_0,[])∧(if v3_0=v2_0 then (if 0<v2_0 then (∃ (v4_0:Bool),Z0 a1.Percent 100 1000=some (Bo v4_0,[])∧(some (Bo v4_0,[])=some r)) else (some (Bo false,[])=some r)) else (some (Bo false,[])=some r))) else (some (Bo false,[])=some r))) else (some (Bo false,[])=some r)))):Zl0 a a1=some r:=by
 unfold Zl0
 refine run Zbda rfl ?_
 simp only [Zft,Zde,Zlz,Z0,Box.c_def,Plan.c_def,Zb.c_def,mpl,dfs] at h
 try simp only [itb] at h
 try simp only [itf,gS,kk] at h
 rcases h with ⟨v1_0,q1,(⟨q2,v2_0,q3,(⟨q4,v3_0,q5,(⟨q6,(⟨q7,v4_0,q8,h⟩ | ⟨q7,h⟩)⟩ | ⟨q6,h⟩)⟩ | ⟨q4,h⟩)⟩ | ⟨q2,h⟩)⟩
 all_goals (refine Eq.trans ?_ h;clear h;simp +decide [*,kk,Z0m])
theorem Z30 (q:Zb) (out:List Int) (full:Int) (m:Int) (r:AV×List Blk) (h:(if m≤full then (∃ (v1_0:Bool),Zev q m=some (Bo v1_0,[])∧(if v1_0=true then (out.length+1≤68719476736∧(Zg5 q (out++[m]) full (w (m+1))=some r)) else (Zg5 q out full (w (m+1))=some r))) else (some (.own 0,[.arr 3 1 true (out.map ic)])=some r))):Zg5 q out full m=some r:=by
 unfold Zg5
 rw [EvL_eq Ztd.eq_1]
 simp only [Zev,Zb.c_def,mpl,dfs] at h
 try simp only [itb] at h
 try simp only [itf,gS,kk] at h
 rcases h with ⟨q1,v1_0,q2,(⟨q3,q4,h⟩ | ⟨q3,h⟩)⟩ | ⟨q1,h⟩
 all_goals (refine Eq.trans ?_ h;clear h;simp +decide [*,kk,Zg5,Z0n,Zte])
theorem Zbgz (a:Zb) (r:AV×List Blk) (h:(∃ (v1_0:Int),Zde a=some (I v1_0,[])∧(Zg5 a ([]:List Int) v1_0 1=some r))):Zl1 a=some r:=by
 unfold Zl1
 refine run Zbdb rfl ?_
 simp only [Zde,Zb.c_def,mpl,dfs] at h
 rcases h with ⟨v1_0,q1,h⟩
 all_goals (refine Eq.trans ?_ h;clear h;simp +decide [*,kk,Z0o,Zg5])
theorem Z31 (q:Zb) (out:List Int) (mask:Int) (m:Int) (r:AV×List Blk) (h:(if m<mask then (if (andI m mask)=m then (∃ (v1_0:Bool),Zev q m=some (Bo v1_0,[])∧(if v1_0=true then (∃ (v2_0:Bool),Zev q (w (mask - m))=some (Bo v2_0,[])∧(if v2_0=true then (out.length+1≤68719476736∧(Zeb q (out++[m]) mask (w (m+1))=some r)) else (Zeb q out mask (w (m+1))=some r))) else (Zeb q out mask (w (m+1))=some r))) else (Zeb q out mask (w (m+1))=some r)) else (some (.own 0,[.arr 3 1 true (out.map ic)])=some r))):Zeb q out mask m=some r:=by
 unfold Zeb
 rw [EvL_eq Ztf.eq_1]
 simp only [Zev,Zb.c_def,mpl,dfs] at h
 try simp only [itb] at h
 try simp only [itf,gS,kk] at h
 rcases h with ⟨q1,(⟨q2,v1_0,q3,(⟨q4,v2_0,q5,(⟨q6,q7,h⟩ | ⟨q6,h⟩)⟩ | ⟨q4,h⟩)⟩ | ⟨q2,h⟩)⟩ | ⟨q1,h⟩
 all_goals (refine Eq.trans ?_ h;clear h;simp +decide [*,kk,Zeb,Z0p,Ztg])
theorem Zbg0 (a:Zb) (a1:Int) (r:AV×List Blk) (h:(∃ (v1_0:Bool),Zip a a1=some (Bo v1_0,[])∧(if v1_0=true then (Zeb a ([]:List Int) a1 1=some r) else (some (.own 0,[.arr 3 1 true (([]:List Int).map ic)])=some r)))):Zl2 a a1=some r:=by
 unfold Zl2
 refine run Zbdc rfl ?_
 simp only [Zip,Zb.c_def,mpl,dfs] at h
 try simp only [itb] at h
 try simp only [itf,gS,kk] at h
 rcases h with ⟨v1_0,q1,(⟨q2,h⟩ | ⟨q2,h⟩)⟩
 all_goals (refine Eq.trans ?_ h;clear h;simp +decide [*,kk,Z0q,Zeb])
theorem Z32 (out:List Int) (bits:Int) (v:Int) (r:AV×List Blk) (h:(if v<4 then (¬ v<0∧(if (andI (shrI bits v) 1)=1 then (out.length+1≤68719476736∧(Zg6 (out++[v]) bits (w (v+1))=some r)) else (Zg6 out bits (w (v+1))=some r))) else (some (.own 0,[.arr 3 1 true (out.map ic)])=some r))):Zg6 out bits v=some r:=by
 unfold Zg6
 rw [EvL_eq Zth.eq_1]
 try simp only [itb] at h
 try simp only [itf,gS,kk] at h
 rcases h with ⟨q1,q2,(⟨q3,q4,h⟩ | ⟨q3,h⟩)⟩ | ⟨q1,h⟩
 all_goals (refine Eq.trans ?_ h;clear h;simp +decide [*,kk,Zg6,Z0r,Zti])
theorem Zbg1 (a:Int) (r:AV×List Blk) (h:(Zg6 ([]:List Int) a 0=some r)):Zov a=some r:=by
 unfold Zov
 refine run Zbdd rfl ?_
 refine Eq.trans ?_ h;clear h;simp +decide [*,kk,Z0s,Zg6]
theorem Zbg2 (a:Zb) (a1:Int) (r:AV×List Blk) (h:(∃ (v1_0:Bool),Zin a a1=some (Bo v1_0,[])∧(if v1_0=true then (∃ (v2_0:Int),Zcc a a1=some (I v2_0,[])∧(∃ (v3_0:List Int),Zov v2_0=some (.own 0,[.arr 3 1 true (v3_0.map ic)])∧(some (.own 0,[.arr 3 1 true (v3_0.map ic)])=some r))) else (some (.own 0,[.arr 3 1 true (([]:List Int).map ic)])=some r)))):Zj1 a a1=some r:=by
 unfold Zj1
 refine run Zbde rfl ?_
 simp only [Zin,Zcc,Zov,Zb.c_def,mpl,dfs] at h
 try simp only [itb] at h
 try simp only [itf,gS,kk] at h
 rcases h with ⟨v1_0,q1,(⟨q2,v2_0,q3,v3_0,q4,h⟩ | ⟨q2,h⟩)⟩
 all_goals (refine Eq.trans ?_ h;clear h;simp +decide [*,kk,Z0t])
theorem Z33 (out:List Int) (x:List Int) (y:List Int) (i:Int) (r:AV×List Blk) (h:(if i<(x.length:Int) then (0≤i∧(∃ (e1:Int),x[i.toNat]?=some e1∧(∃ (v2_0:Bool),Zik y e1=some (Bo v2_0,[])∧(if v2_0=true then (out.length+1≤68719476736∧(Zg8 (out++[e1]) x y (w (i+1))=some r)) else (Zg8 out x y (w (i+1))=some r))))) else (some (.own 0,[.arr 3 1 true (out.map ic)])=some r))):Zg8 out x y i=some r:=by
 unfold Zg8
 rw [EvL_eq Ztj.eq_1]
 simp only [Zik,mpl,dfs] at h
 try simp only [itb] at h
 try simp only [itf,gS,kk] at h
 rcases h with ⟨q1,q2,e1,⟨g3,q3⟩,v2_0,q4,(⟨q5,q6,h⟩ | ⟨q5,h⟩)⟩ | ⟨q1,h⟩
 all_goals (refine Eq.trans ?_ h;clear h;simp +decide [*,kk,Zg8,Z0u,Ztk])
theorem Zbg3 (a:Zb) (a1:Int) (a2:Int) (r:AV×List Blk) (h:(∃ (v1_0:List Int),Zj1 a a1=some (.own 0,[.arr 3 1 true (v1_0.map ic)])∧(∃ (v2_0:List Int),Zj1 a a2=some (.own 0,[.arr 3 1 true (v2_0.map ic)])∧(Zg8 ([]:List Int) v1_0 v2_0 0=some r)))):Zg7 a a1 a2=some r:=by
 unfold Zg7
 refine run Zbdf rfl ?_
 simp only [Zj1,Zb.c_def,mpl,dfs] at h
 rcases h with ⟨v1_0,q1,v2_0,q2,h⟩
 all_goals (refine Eq.trans ?_ h;clear h;simp +decide [*,kk,Z0v,Zg8])
end Go.Proofs.YtbapkgocloaaeaaGreat
