/-
  Parts of the proofs for this seat: G3 G4 G5 G6 G7 G8 G9.
-/
import Derived.Test.YtbapkgocloaaeaaGreatP10
set_option linter.unusedSimpArgs false
set_option linter.unusedVariables false
set_option maxRecDepth 100000
set_option maxHeartbeats 4000000
/- part: G3 -/
namespace Go.Proofs.YtbapkgocloaaeaaGreat
open Go.AM
theorem Zja (x:Zd) (x1:Int) (x2:Int) (r:AV×List Blk) (h:(if x2<x1 then (if x2=0 then (∃ (v1_0:Bool),Zbm x.Scan=some (Bo v1_0,[])∧(if v1_0=true then ((Zbh x.Scan=some (.tup [.t .nil,.t .nil,Bo false],[])∧(∃ (v3_0:List (List Int)),Zcj=some (.own 0,[.arr 38 1 true (v3_0.map isc)])∧(Ze1 x v3_0 (w (1+x2)) x1 x2 (v3_0.length:Int) 0=some r)))∨(∃ (v4_0:List Int) (v4_1:List Int),Zbh x.Scan=some (.tup [L 1 (v4_1.map ic),.own 0,Bo true],[.arr 3 1 true (v4_0.map ic)])∧(some (.tup [I (w (1+x2)),L 1 (v4_1.map ic),.own 0],[.arr 3 1 true (v4_0.map ic)])=some r))) else (some (.tup [I (w (1+x2)),.t .nil,.t .nil],[])=some r))) else (if x2=1 then (∃ (v5_0:Bool),Zbm x.Sort_=some (Bo v5_0,[])∧(if v5_0=true then ((Zbh x.Sort_=some (.tup [.t .nil,.t .nil,Bo false],[])∧(∃ (v7_0:List (List Int)),Zcj=some (.own 0,[.arr 38 1 true (v7_0.map isc)])∧(Ze2 x v7_0 (w (1+x2)) x1 x2 (v7_0.length:Int) 0=some r)))∨(∃ (v8_0:List Int) (v8_1:List Int),Zbh x.Sort_=some (.tup [L 1 (v8_1.map ic),.own 0,Bo true],[.arr 3 1 true (v8_0.map ic)])∧(some (.tup [I (w (1+x2)),L 1 (v8_1.map ic),.own 0],[.arr 3 1 true (v8_0.map ic)])=some r))) else (some (.tup [I (w (1+x2)),.t .nil,.t .nil],[])=some r))) else (if x2=2 then (∃ (v9_0:Bool),Zbm x.Hash=some (Bo v9_0,[])∧(if v9_0=true then ((Zbh x.Hash=some (.tup [.t .nil,.t .nil,Bo false],[])∧(∃ (v11_0:List (List Int)),Zcj=some (.own 0,[.arr 38 1 true (v11_0.map isc)])∧(Ze3 x v11_0 (w (1+x2)) x1 x2 (v11_0.length:Int) 0=some r)))∨(∃ (v12_0:List Int) (v12_1:List Int),Zbh x.Hash=some (.tup [L 1 (v12_1.map ic),.own 0,Bo true],[.arr 3 1 true (v12_0.map ic)])∧(some (.tup [I (w (1+x2)),L 1 (v12_1.map ic),.own 0],[.arr 3 1 true (v12_0.map ic)])=some r))) else (some (.tup [I (w (1+x2)),.t .nil,.t .nil],[])=some r))) else (if x2=3 then (∃ (v13_0:Bool),Zbm x.Merge=some (Bo v13_0,[])∧(if v13_0=true then ((Zbh x.Merge=some (.tup [.t .nil,.t .nil,Bo false],[])∧(∃ (v15_0:List (List Int)),Zcj=some (.own 0,[.arr 38 1 true (v15_0.map isc)])∧(Ze4 x v15_0 (w (1+x2)) x1 x2 (v15_0.length:Int) 0=some r)))∨(∃ (v16_0:List Int) (v16_1:List Int),Zbh x.Merge=some (.tup [L 1 (v16_1.map ic),.own 0,Bo true],[.arr 3 1 true (v16_0.map ic)])∧(some (.tup [I (w (1+x2)),L 1 (v16_1.map ic),.own 0],[.arr 3 1 true (v16_0.map ic)])=some r))) else (some (.tup [I (w (1+x2)),.t .nil,.t .nil],[])=some r))) else (if x2=4 then (∃ (v17_0:Bool),Zbm x.Nested=some (Bo v17_0,[])∧(if v17_0=true then ((Zbh x.Nested=some (.tup [.t .nil,.t .nil,Bo false],[])∧(∃ (v19_0:List (List Int)),Zcj=some (.own 0,[.arr 38 1 true (v19_0.map isc)])∧(Ze5 x v19_0 (w (1+x2)) x1 x2 (v19_0.length:Int) 0=some r)))∨(∃ (v20_0:List Int) (v20_1:List Int),Zbh x.Nested=some (.tup [L 1 (v20_1.map ic),.own 0,Bo true],[.arr 3 1 true (v20_0.map ic)])∧(some (.tup [I (w (1+x2)),L 1 (v20_1.map ic),.own 0],[.arr 3 1 true (v20_0.map ic)])=some r))) else (some (.tup [I (w (1+x2)),.t .nil,.t .nil],[])=some r))) else False))))) else (some (.tup [I 0,.t .nil,.t .nil],[])=some r))):Z1 x x1 x2=some r:=by
 unfold Z1
 rw [EvL_eq Zfx.eq_1]
 by_cases q1:x2<x1
 ·rw [if_pos q1] at h
  by_cases q2:x2=0
  ·rw [if_pos q2] at h
   subst q2
   obtain ⟨v1_0,q3,h⟩:=h
   unfold Zbm at q3
   try simp at q3
   by_cases q4:v1_0=true
   ·rw [if_pos q4] at h
    rcases h with h | h
    ·
     obtain ⟨q5,h⟩:=h
     unfold Zbh at q5
     try simp at q5
     obtain ⟨v3_0,q6,h⟩:=h
     unfold Zcj at q6
     try simp at q6
     refine Eq.trans ?_ h
     clear h
     simp +decide [*,Ze1]
    ·
     obtain ⟨v4_0,v4_1,q7,h⟩:=h
     unfold Zbh at q7
     try simp at q7
     refine Eq.trans ?_ h
     clear h
     simp +decide [*]
   ·rw [if_neg q4] at h
    refine Eq.trans ?_ h
    clear h
    simp +decide [*]
  ·rw [if_neg q2] at h
   replace q2:=eq_false q2
   by_cases q8:x2=1
   ·rw [if_pos q8] at h
    subst q8
    obtain ⟨v5_0,q9,h⟩:=h
    unfold Zbm at q9
    try simp at q9
    by_cases q10:v5_0=true
    ·rw [if_pos q10] at h
     rcases h with h | h
     ·
      obtain ⟨q11,h⟩:=h
      unfold Zbh at q11
      try simp at q11
      obtain ⟨v7_0,q12,h⟩:=h
      unfold Zcj at q12
      try simp at q12
      refine Eq.trans ?_ h
      clear h
      simp +decide [*,Ze2]
     ·
      obtain ⟨v8_0,v8_1,q13,h⟩:=h
      unfold Zbh at q13
      try simp at q13
      refine Eq.trans ?_ h
      clear h
      simp +decide [*]
    ·rw [if_neg q10] at h
     refine Eq.trans ?_ h
     clear h
     simp +decide [*]
   ·rw [if_neg q8] at h
    replace q8:=eq_false q8
    by_cases q14:x2=2
    ·rw [if_pos q14] at h
     subst q14
     obtain ⟨v9_0,q15,h⟩:=h
     unfold Zbm at q15
     try simp at q15
     by_cases q16:v9_0=true
     ·rw [if_pos q16] at h
      rcases h with h | h
      ·
       obtain ⟨q17,h⟩:=h
       unfold Zbh at q17
       try simp at q17
       obtain ⟨v11_0,q18,h⟩:=h
       unfold Zcj at q18
       try simp at q18
       refine Eq.trans ?_ h
       clear h
       simp +decide [*,Ze3]
      ·
       obtain ⟨v12_0,v12_1,q19,h⟩:=h
       unfold Zbh at q19
       try simp at q19
       refine Eq.trans ?_ h
       clear h
       simp +decide [*]
     ·rw [if_neg q16] at h
      refine Eq.trans ?_ h
      clear h
      simp +decide [*]
    ·rw [if_neg q14] at h
     replace q14:=eq_false q14
     by_cases q20:x2=3
     ·rw [if_pos q20] at h
      subst q20
      obtain ⟨v13_0,q21,h⟩:=h
      unfold Zbm at q21
      try simp at q21
      by_cases q22:v13_0=true
      ·rw [if_pos q22] at h
       rcases h with h | h
       ·
        obtain ⟨q23,h⟩:=h
        unfold Zbh at q23
        try simp at q23
        obtain ⟨v15_0,q24,h⟩:=h
        unfold Zcj at q24
        try simp at q24
        refine Eq.trans ?_ h
        clear h
        simp +decide [*,Ze4]
       ·
        obtain ⟨v16_0,v16_1,q25,h⟩:=h
        unfold Zbh at q25
        try simp at q25
        refine Eq.trans ?_ h
        clear h
        simp +decide [*]
      ·rw [if_neg q22] at h
       refine Eq.trans ?_ h
       clear h
       simp +decide [*]
     ·rw [if_neg q20] at h
      replace q20:=eq_false q20
      by_cases q26:x2=4
      ·rw [if_pos q26] at h
       subst q26
       obtain ⟨v17_0,q27,h⟩:=h
       unfold Zbm at q27
       try simp at q27
       by_cases q28:v17_0=true
       ·rw [if_pos q28] at h
        rcases h with h | h
        ·
         obtain ⟨q29,h⟩:=h
         unfold Zbh at q29
         try simp at q29
         obtain ⟨v19_0,q30,h⟩:=h
         unfold Zcj at q30
         try simp at q30
         refine Eq.trans ?_ h
         clear h
         simp +decide [*,Ze5]
        ·
         obtain ⟨v20_0,v20_1,q31,h⟩:=h
         unfold Zbh at q31
         try simp at q31
         refine Eq.trans ?_ h
         clear h
         simp +decide [*]
       ·rw [if_neg q28] at h
        refine Eq.trans ?_ h
        clear h
        simp +decide [*]
      ·rw [if_neg q26] at h
       replace q26:=eq_false q26
       cases h
 ·rw [if_neg q1] at h
  refine Eq.trans ?_ h
  clear h
  simp +decide [*,Zfy]
theorem Zz7 (o:Zd) (x:List (List Int)) (kind:Int) (x1:Int) (x2:Int) (x3:Int) (x4:Int) (r:AV×List Blk) (h:(if x4<x3 then (0≤x4∧(∃ (e1:List Int),x[x4.toNat]?=some e1∧(∃ (v2_0:Int),Zcc o.Scan e1=some (I v2_0,[])∧(if v2_0<1 then (some (.tup [I kind,L 1 (e1.map ic),.t .nil],[])=some r) else (Ze1 o x kind x1 x2 x3 (w (x4+1))=some r))))) else (Z1 o x1 (w (x2+1))=some r))):Ze1 o x kind x1 x2 x3 x4=some r:=by
 unfold Ze1
 rw [EvL_eq Zdn.eq_1]
 simp only [Zcc,Zh.c_def,mpl,dfs] at h
 try simp only [itb] at h
 try simp only [itf,List.getElem?_eq_some_iff,kk] at h
 rcases h with ⟨q1,q2,e1,⟨g3,q3⟩,v2_0,q4,(⟨q5,h⟩ | ⟨q5,h⟩)⟩ | ⟨q1,h⟩
 all_goals (refine Eq.trans ?_ h;clear h;simp +decide [*,kk,Ze1,Z1,Zdo])
theorem Zz8 (o:Zd) (x:List (List Int)) (kind:Int) (x1:Int) (x2:Int) (x3:Int) (x4:Int) (r:AV×List Blk) (h:(if x4<x3 then (0≤x4∧(∃ (e1:List Int),x[x4.toNat]?=some e1∧(∃ (v2_0:Int),Zcc o.Sort_ e1=some (I v2_0,[])∧(if v2_0<1 then (some (.tup [I kind,L 1 (e1.map ic),.t .nil],[])=some r) else (Ze2 o x kind x1 x2 x3 (w (x4+1))=some r))))) else (Z1 o x1 (w (x2+1))=some r))):Ze2 o x kind x1 x2 x3 x4=some r:=by
 unfold Ze2
 rw [EvL_eq Zdn.eq_1]
 simp only [Zcc,Zh.c_def,mpl,dfs] at h
 try simp only [itb] at h
 try simp only [itf,List.getElem?_eq_some_iff,kk] at h
 rcases h with ⟨q1,q2,e1,⟨g3,q3⟩,v2_0,q4,(⟨q5,h⟩ | ⟨q5,h⟩)⟩ | ⟨q1,h⟩
 all_goals (refine Eq.trans ?_ h;clear h;simp +decide [*,kk,Ze2,Z1,Zdo])
theorem Zz9 (o:Zd) (x:List (List Int)) (kind:Int) (x1:Int) (x2:Int) (x3:Int) (x4:Int) (r:AV×List Blk) (h:(if x4<x3 then (0≤x4∧(∃ (e1:List Int),x[x4.toNat]?=some e1∧(∃ (v2_0:Int),Zcc o.Hash e1=some (I v2_0,[])∧(if v2_0<1 then (some (.tup [I kind,L 1 (e1.map ic),.t .nil],[])=some r) else (Ze3 o x kind x1 x2 x3 (w (x4+1))=some r))))) else (Z1 o x1 (w (x2+1))=some r))):Ze3 o x kind x1 x2 x3 x4=some r:=by
 unfold Ze3
 rw [EvL_eq Zdn.eq_1]
 simp only [Zcc,Zh.c_def,mpl,dfs] at h
 try simp only [itb] at h
 try simp only [itf,List.getElem?_eq_some_iff,kk] at h
 rcases h with ⟨q1,q2,e1,⟨g3,q3⟩,v2_0,q4,(⟨q5,h⟩ | ⟨q5,h⟩)⟩ | ⟨q1,h⟩
 all_goals (refine Eq.trans ?_ h;clear h;simp +decide [*,kk,Ze3,Z1,Zdo])
theorem Z0a (o:Zd) (x:List (List Int)) (kind:Int) (x1:Int) (x2:Int) (x3:Int) (x4:Int) (r:AV×List Blk) (h:(if x4<x3 then (0≤x4∧(∃ (e1:List Int),x[x4.toNat]?=some e1∧(∃ (v2_0:Int),Zcc o.Merge e1=some (I v2_0,[])∧(if v2_0<1 then (some (.tup [I kind,L 1 (e1.map ic),.t .nil],[])=some r) else (Ze4 o x kind x1 x2 x3 (w (x4+1))=some r))))) else (Z1 o x1 (w (x2+1))=some r))):Ze4 o x kind x1 x2 x3 x4=some r:=by
 unfold Ze4
 rw [EvL_eq Zdn.eq_1]
 simp only [Zcc,Zh.c_def,mpl,dfs] at h
 try simp only [itb] at h
 try simp only [itf,List.getElem?_eq_some_iff,kk] at h
 rcases h with ⟨q1,q2,e1,⟨g3,q3⟩,v2_0,q4,(⟨q5,h⟩ | ⟨q5,h⟩)⟩ | ⟨q1,h⟩
 all_goals (refine Eq.trans ?_ h;clear h;simp +decide [*,kk,Ze4,Z1,Zdo])
theorem Z0b (o:Zd) (x:List (List Int)) (kind:Int) (x1:Int) (x2:Int) (x3:Int) (x4:Int) (r:AV×List Blk) (h:(if x4<x3 then (0≤x4∧(∃ (e1:List Int),x[x4.toNat]?=some e1∧(∃ (v2_0:Int),Zcc o.Nested e1=some (I v2_0,[])∧(if v2_0<1 then (some (.tup [I kind,L 1 (e1.map ic),.t .nil],[])=some r) else (Ze5 o x kind x1 x2 x3 (w (x4+1))=some r))))) else (Z1 o x1 (w (x2+1))=some r))):Ze5 o x kind x1 x2 x3 x4=some r:=by
 unfold Ze5
 rw [EvL_eq Zdn.eq_1]
 simp only [Zcc,Zh.c_def,mpl,dfs] at h
 try simp only [itb] at h
 try simp only [itf,List.getElem?_eq_some_iff,kk] at h
 rcases h with ⟨q1,q2,e1,⟨g3,q3⟩,v2_0,q4,(⟨q5,h⟩ | ⟨q5,h⟩)⟩ | ⟨q1,h⟩
 all_goals (refine Eq.trans ?_ h;clear h;simp +decide [*,kk,Ze5,Z1,Zdo])
theorem Zbav (a:Zd) (r:AV×List Blk) (h:(Zeb a=some (.bsl 1 5,[.box (a.c.map .t),.box [.ptr 0 0,.ptr 0 6,.ptr 0 12,.ptr 0 18,.ptr 0 24]])∧(Z1 a 5 0=some r))):Zhm a=some r:=by
 unfold Zhm
 refine run Z7n rfl ?_
 simp only [Zeb,Zd.c_def,Zh.c_def,mpl,dfs] at h
 rcases h with ⟨q1,h⟩
 all_goals (refine Eq.trans ?_ h;clear h;simp +decide [*,kk,Zwn,Z1])
theorem Zbaw (a:Zd) (r:AV×List Blk) (h:((∃ (v1_0:List Int) (v1_1:Int) (v1_2:List Int),Zhm a=some (.tup [I v1_1,L 1 (v1_2.map ic),.own 0],[.arr 3 1 true (v1_0.map ic)])∧(some (Bo (decide (v1_1=0)),[])=some r))∨(∃ (v2_0:Int),Zhm a=some (.tup [I v2_0,.t .nil,.t .nil],[])∧(some (Bo (decide (v2_0=0)),[])=some r))∨(∃ (v3_0:Int) (v3_1:List Int),Zhm a=some (.tup [I v3_0,L 1 (v3_1.map ic),.t .nil],[])∧(some (Bo (decide (v3_0=0)),[])=some r)))):Zhn a=some r:=by
 unfold Zhn
 refine run Z7o rfl ?_
 simp only [Zhm,Zd.c_def,Zh.c_def,mpl,dfs] at h
 rcases h with ⟨v1_0,v1_1,v1_2,q2,h⟩ | ⟨v2_0,q3,h⟩ | ⟨v3_0,v3_1,q4,h⟩
 all_goals (refine Eq.trans ?_ h;clear h;simp +decide [*,kk,Zwo])
theorem Zbax (a:Zd) (a1:Zc) (a2:Region) (r:AV×List Blk) (h:(∃ (v1_0:Bool),Zj8 a1 a2=some (Bo v1_0,[])∧(if v1_0=true then (∃ (v2_0:Int),Zb5 a1=some (I v2_0,[])∧(∃ (v3_0:Bool),Zhj a1 v2_0=some (Bo v3_0,[])∧(if v3_0=true then (∃ (v4_0:Bool),Zhn a=some (Bo v4_0,[])∧(some (Bo v4_0,[])=some r)) else (some (Bo false,[])=some r)))) else (some (Bo false,[])=some r)))):Zkd a a1 a2=some r:=by
 unfold Zkd
 refine run Z7p rfl ?_
 simp only [Zj8,Zb5,Zhj,Zhn,Box.c_def,Zd.c_def,Zh.c_def,Plan.c_def,Zc.c_def,Region.c_def,mpl,dfs] at h
 try simp only [itb] at h
 try simp only [itf,List.getElem?_eq_some_iff,kk] at h
 rcases h with ⟨v1_0,q1,(⟨q2,v2_0,q3,v3_0,q4,(⟨q5,v4_0,q6,h⟩ | ⟨q5,h⟩)⟩ | ⟨q2,h⟩)⟩
 all_goals (refine Eq.trans ?_ h;clear h;simp +decide [*,kk,Zwp])
theorem Zsr (out:List Int) (location:List Int) (x:List Int) (x1:Int) (x2:Int) (r:AV×List Blk) (h:(if x2<x1 then (0≤x2∧(∃ (e1:Int),x[x2.toNat]?=some e1∧(∃ (v2_0:Int),Ze0 e1=some (I v2_0,[])∧(out.length+1≤68719476736∧(Ze7 (out++[v2_0]) location x x1 (w (x2+1))=some r))))) else (∃ (v3_0:Bool),Zfq location=some (Bo v3_0,[])∧(if v3_0=true then (some (.own 0,[.arr 3 1 true (out.map ic)])=some r) else (some (.t .nil,[])=some r))))):Ze7 out location x x1 x2=some r:=by
 unfold Ze7
 rw [EvL_eq Zp7.eq_1]
 simp only [Ze0,Zfq,mpl,dfs] at h
 try simp only [itb] at h
 try simp only [itf,List.getElem?_eq_some_iff,kk] at h
 rcases h with ⟨q1,q2,e1,⟨g3,q3⟩,v2_0,q4,q5,h⟩ | ⟨q1,v3_0,q6,(⟨q7,h⟩ | ⟨q7,h⟩)⟩
 all_goals (refine Eq.trans ?_ h;clear h;simp +decide [*,kk,Ze7,Zp8])
theorem Z0c (a:List Int) (r:AV×List Blk) (h:(Ze7 ([]:List Int) a a (a.length:Int) 0=some r)):Ze6 a=some r:=by
 unfold Ze6
 refine run Z7q rfl ?_
 refine Eq.trans ?_ h;clear h;simp +decide [*,kk,Zwq,Ze7]
theorem Z0d (q:Zc) (sizes:List Int) (x:List Int) (x1:Int) (x2:Int) (r:AV×List Blk) (h:(if x2<x1 then (0≤x2∧(∃ (e1:Int),x[x2.toNat]?=some e1∧(∃ (v2_0:Bool),Zw e1 0 4096=some (Bo v2_0,[])∧(if v2_0=true then (Zhp q sizes x x1 (w (x2+1))=some r) else (some (Bo false,[])=some r))))) else (∃ (v3_0:Bool),Zc2 q=some (Bo v3_0,[])∧(if v3_0=true then (∃ (v4_0:Int),Zb5 q=some (I v4_0,[])∧(some (Bo (decide ((sizes.length:Int)=(w (v4_0+1)))),[])=some r)) else (some (Bo false,[])=some r))))):Zhp q sizes x x1 x2=some r:=by
 unfold Zhp
 rw [EvL_eq Zp9.eq_1]
 simp only [Zw,Zc2,Zb5,Zc.c_def,mpl,dfs] at h
 try simp only [itb] at h
 try simp only [itf,List.getElem?_eq_some_iff,kk] at h
 rcases h with ⟨q1,q2,e1,⟨g3,q3⟩,v2_0,q4,(⟨q5,h⟩ | ⟨q5,h⟩)⟩ | ⟨q1,v3_0,q6,(⟨q7,v4_0,q8,h⟩ | ⟨q7,h⟩)⟩
 all_goals (refine Eq.trans ?_ h;clear h;simp +decide [*,kk,Zhp,Zqa])
theorem Zbay (a:Zc) (a1:List Int) (r:AV×List Blk) (h:(Zhp a a1 a1 (a1.length:Int) 0=some r)):Zho a a1=some r:=by
 unfold Zho
 refine run Z7r rfl ?_
 refine Eq.trans ?_ h;clear h;simp +decide [*,kk,Zwr,Zhp]
theorem Zbaz (a:Zh) (a1:Int) (a2:Int) (a3:Int) (r:AV×List Blk) (h:(∃ (v1_0:Bool),Zbm a=some (Bo v1_0,[])∧(if v1_0=true then (∃ (v2_0:Bool),Zw a1 0 4096=some (Bo v2_0,[])∧(if v2_0=true then (∃ (v3_0:Bool),Zw a2 0 4096=some (Bo v3_0,[])∧(if v3_0=true then (∃ (v4_0:Bool),Zw a3 0 4096=some (Bo v4_0,[])∧(if v4_0=true then (∃ (v5_0:Int),Zhl a a1 a2 a3=some (I v5_0,[])∧(some (I v5_0,[])=some r)) else (some (I 0,[])=some r))) else (some (I 0,[])=some r))) else (some (I 0,[])=some r))) else (some (I 0,[])=some r)))):Zbi a a1 a2 a3=some r:=by
 unfold Zbi
 refine run Z7s rfl ?_
 simp only [Zbm,Zw,Zhl,Zh.c_def,mpl,dfs] at h
 try simp only [itb] at h
 try simp only [itf,List.getElem?_eq_some_iff,kk] at h
 rcases h with ⟨v1_0,q1,(⟨q2,v2_0,q3,(⟨q4,v3_0,q5,(⟨q6,v4_0,q7,(⟨q8,v5_0,q9,h⟩ | ⟨q8,h⟩)⟩ | ⟨q6,h⟩)⟩ | ⟨q4,h⟩)⟩ | ⟨q2,h⟩)⟩
 all_goals (refine Eq.trans ?_ h;clear h;simp +decide [*,kk,Zws])
end Go.Proofs.YtbapkgocloaaeaaGreat
/- part: G4 -/
namespace Go.Proofs.YtbapkgocloaaeaaGreat
open Go.AM
theorem Z0e (m:Zd) (info:List Zg) (out:List Int) (sizes:List Int) (x:List Zb) (x1:Int) (x2:Int) (r:AV×List Blk) (h:(if x2<x1 then (0≤x2∧(∃ (e1:Zb),x[x2.toNat]?=some e1∧(∃ (e2:Zg),info[x2.toNat]?=some e2∧(0≤e2.Mask∧(∃ (e3:Int),sizes[e2.Mask.toNat]?=some e3∧(if 0≤e2.Left then (∃ (e4:Zg),info[e2.Left.toNat]?=some e4∧(0≤e4.Mask∧(∃ (e5:Int),sizes[e4.Mask.toNat]?=some e5∧(if 0≤e2.Right then (∃ (e6:Zg),info[e2.Right.toNat]?=some e6∧(0≤e6.Mask∧(∃ (e7:Int),sizes[e6.Mask.toNat]?=some e7∧(Zit m info out e1 sizes x2 e5 e7 x x1 x2=some r)))) else (Ziu m info out e1 sizes x2 e5 0 x x1 x2 false=some r))))) else (if 0≤e2.Right then (∃ (e8:Zg),info[e2.Right.toNat]?=some e8∧(0≤e8.Mask∧(∃ (e9:Int),sizes[e8.Mask.toNat]?=some e9∧(Zit m info out e1 sizes x2 e3 e9 x x1 x2=some r)))) else (Ziu m info out e1 sizes x2 e3 0 x x1 x2 false=some r)))))))) else (some (.own 0,[.arr 3 1 true (out.map ic)])=some r))):Zbd m info out sizes x x1 x2=some r:=by
 unfold Zbd
 rw [EvL_eq Zkf.eq_1]
 try simp only [itb] at h
 try simp only [itf,List.getElem?_eq_some_iff,kk] at h
 rcases h with ⟨q1,q2,e1,⟨g3,q3⟩,e2,⟨g4,q4⟩,q5,e3,⟨g6,q6⟩,(⟨q7,e4,⟨g8,q8⟩,q9,e5,⟨g10,q10⟩,(⟨q11,e6,⟨g12,q12⟩,q13,e7,⟨g14,q14⟩,h⟩ | ⟨q11,h⟩)⟩ | ⟨q7,(⟨q15,e8,⟨g16,q16⟩,q17,e9,⟨g18,q18⟩,h⟩ | ⟨q15,h⟩)⟩)⟩ | ⟨q1,h⟩
 all_goals (refine Eq.trans ?_ h;clear h;simp +decide [*,kk,Zit,Zwt,Ziu,Zkg])
theorem Zba0 (m:Zd) (info:List Zg) (out:List Int) (x:Zb) (sizes:List Int) (i:Int) (left:Int) (right:Int) (x1:List Zb) (x2:Int) (x3:Int) (r:AV×List Blk) (h:(Zeb m=some (.bsl 1 5,[.box (m.c.map .t),.box [.ptr 0 0,.ptr 0 6,.ptr 0 12,.ptr 0 18,.ptr 0 24]])∧(if (w (x.Kind - 1))=0 then (0≤i∧(∃ (e2:Zg),info[i.toNat]?=some e2∧(0≤e2.Mask∧(∃ (e3:Int),sizes[e2.Mask.toNat]?=some e3∧(∃ (v4_0:Int),Zbi m.Scan left right e3=some (I v4_0,[])∧(out.length+1≤68719476736∧(Zbd m info (out++[v4_0]) sizes x1 x2 (w (x3+1))=some r))))))) else (if (w (x.Kind - 1))=1 then (0≤i∧(∃ (e5:Zg),info[i.toNat]?=some e5∧(0≤e5.Mask∧(∃ (e6:Int),sizes[e5.Mask.toNat]?=some e6∧(∃ (v7_0:Int),Zbi m.Sort_ left right e6=some (I v7_0,[])∧(out.length+1≤68719476736∧(Zbd m info (out++[v7_0]) sizes x1 x2 (w (x3+1))=some r))))))) else (if (w (x.Kind - 1))=2 then (0≤i∧(∃ (e8:Zg),info[i.toNat]?=some e8∧(0≤e8.Mask∧(∃ (e9:Int),sizes[e8.Mask.toNat]?=some e9∧(∃ (v10_0:Int),Zbi m.Hash left right e9=some (I v10_0,[])∧(out.length+1≤68719476736∧(Zbd m info (out++[v10_0]) sizes x1 x2 (w (x3+1))=some r))))))) else (if (w (x.Kind - 1))=3 then (0≤i∧(∃ (e11:Zg),info[i.toNat]?=some e11∧(0≤e11.Mask∧(∃ (e12:Int),sizes[e11.Mask.toNat]?=some e12∧(∃ (v13_0:Int),Zbi m.Merge left right e12=some (I v13_0,[])∧(out.length+1≤68719476736∧(Zbd m info (out++[v13_0]) sizes x1 x2 (w (x3+1))=some r))))))) else (if (w (x.Kind - 1))=4 then (0≤i∧(∃ (e14:Zg),info[i.toNat]?=some e14∧(0≤e14.Mask∧(∃ (e15:Int),sizes[e14.Mask.toNat]?=some e15∧(∃ (v16_0:Int),Zbi m.Nested left right e15=some (I v16_0,[])∧(out.length+1≤68719476736∧(Zbd m info (out++[v16_0]) sizes x1 x2 (w (x3+1))=some r))))))) else False))))))):Zit m info out x sizes i left right x1 x2 x3=some r:=by
 unfold Zit
 rw [Ev_eq Zke.eq_1]
 obtain ⟨q1,h⟩:=h
 unfold Zeb at q1
 try simp at q1
 by_cases q2:(w (x.Kind - 1))=0
 ·rw [if_pos q2] at h
  obtain ⟨q3,h⟩:=h
  obtain ⟨e2,q4,h⟩:=h
  have gq4:=ltOfGet q4
  have kq4:=getOf q4
  obtain ⟨q5,h⟩:=h
  obtain ⟨e3,q6,h⟩:=h
  have gq6:=ltOfGet q6
  have kq6:=getOf q6
  obtain ⟨v4_0,q7,h⟩:=h
  unfold Zbi at q7
  try simp at q7
  obtain ⟨q8,h⟩:=h
  have rq8:=roomA (b:=8) q8 (by omega)
  have sq8:=roomB q8
  try simp [*] at rq8
  try simp [*] at sq8
  refine Eq.trans ?_ h
  clear h
  simp +decide [*,Zbd]
 ·rw [if_neg q2] at h
  replace q2:=eq_false q2
  by_cases q9:(w (x.Kind - 1))=1
  ·rw [if_pos q9] at h
   obtain ⟨q10,h⟩:=h
   obtain ⟨e5,q11,h⟩:=h
   have gq11:=ltOfGet q11
   have kq11:=getOf q11
   obtain ⟨q12,h⟩:=h
   obtain ⟨e6,q13,h⟩:=h
   have gq13:=ltOfGet q13
   have kq13:=getOf q13
   obtain ⟨v7_0,q14,h⟩:=h
   unfold Zbi at q14
   try simp at q14
   obtain ⟨q15,h⟩:=h
   have rq15:=roomA (b:=8) q15 (by omega)
   have sq15:=roomB q15
   try simp [*] at rq15
   try simp [*] at sq15
   refine Eq.trans ?_ h
   clear h
   simp +decide [*,Zbd]
  ·rw [if_neg q9] at h
   replace q9:=eq_false q9
   by_cases q16:(w (x.Kind - 1))=2
   ·rw [if_pos q16] at h
    obtain ⟨q17,h⟩:=h
    obtain ⟨e8,q18,h⟩:=h
    have gq18:=ltOfGet q18
    have kq18:=getOf q18
    obtain ⟨q19,h⟩:=h
    obtain ⟨e9,q20,h⟩:=h
    have gq20:=ltOfGet q20
    have kq20:=getOf q20
    obtain ⟨v10_0,q21,h⟩:=h
    unfold Zbi at q21
    try simp at q21
    obtain ⟨q22,h⟩:=h
    have rq22:=roomA (b:=8) q22 (by omega)
    have sq22:=roomB q22
    try simp [*] at rq22
    try simp [*] at sq22
    refine Eq.trans ?_ h
    clear h
    simp +decide [*,Zbd]
   ·rw [if_neg q16] at h
    replace q16:=eq_false q16
    by_cases q23:(w (x.Kind - 1))=3
    ·rw [if_pos q23] at h
     obtain ⟨q24,h⟩:=h
     obtain ⟨e11,q25,h⟩:=h
     have gq25:=ltOfGet q25
     have kq25:=getOf q25
     obtain ⟨q26,h⟩:=h
     obtain ⟨e12,q27,h⟩:=h
     have gq27:=ltOfGet q27
     have kq27:=getOf q27
     obtain ⟨v13_0,q28,h⟩:=h
     unfold Zbi at q28
     try simp at q28
     obtain ⟨q29,h⟩:=h
     have rq29:=roomA (b:=8) q29 (by omega)
     have sq29:=roomB q29
     try simp [*] at rq29
     try simp [*] at sq29
     refine Eq.trans ?_ h
     clear h
     simp +decide [*,Zbd]
    ·rw [if_neg q23] at h
     replace q23:=eq_false q23
     by_cases q30:(w (x.Kind - 1))=4
     ·rw [if_pos q30] at h
      obtain ⟨q31,h⟩:=h
      obtain ⟨e14,q32,h⟩:=h
      have gq32:=ltOfGet q32
      have kq32:=getOf q32
      obtain ⟨q33,h⟩:=h
      obtain ⟨e15,q34,h⟩:=h
      have gq34:=ltOfGet q34
      have kq34:=getOf q34
      obtain ⟨v16_0,q35,h⟩:=h
      unfold Zbi at q35
      try simp at q35
      obtain ⟨q36,h⟩:=h
      have rq36:=roomA (b:=8) q36 (by omega)
      have sq36:=roomB q36
      try simp [*] at rq36
      try simp [*] at sq36
      refine Eq.trans ?_ h
      clear h
      simp +decide [*,Zbd]
     ·rw [if_neg q30] at h
      replace q30:=eq_false q30
      cases h
theorem Zba1 (m:Zd) (info:List Zg) (out:List Int) (x:Zb) (sizes:List Int) (i:Int) (left:Int) (right:Int) (x1:List Zb) (x2:Int) (x3:Int) (x4:Bool) (r:AV×List Blk) (h:(Zeb m=some (.bsl 1 5,[.box (m.c.map .t),.box [.ptr 0 0,.ptr 0 6,.ptr 0 12,.ptr 0 18,.ptr 0 24]])∧(if (w (x.Kind - 1))=0 then (0≤i∧(∃ (e2:Zg),info[i.toNat]?=some e2∧(0≤e2.Mask∧(∃ (e3:Int),sizes[e2.Mask.toNat]?=some e3∧(∃ (v4_0:Int),Zbi m.Scan left right e3=some (I v4_0,[])∧(out.length+1≤68719476736∧(Zbd m info (out++[v4_0]) sizes x1 x2 (w (x3+1))=some r))))))) else (if (w (x.Kind - 1))=1 then (0≤i∧(∃ (e5:Zg),info[i.toNat]?=some e5∧(0≤e5.Mask∧(∃ (e6:Int),sizes[e5.Mask.toNat]?=some e6∧(∃ (v7_0:Int),Zbi m.Sort_ left right e6=some (I v7_0,[])∧(out.length+1≤68719476736∧(Zbd m info (out++[v7_0]) sizes x1 x2 (w (x3+1))=some r))))))) else (if (w (x.Kind - 1))=2 then (0≤i∧(∃ (e8:Zg),info[i.toNat]?=some e8∧(0≤e8.Mask∧(∃ (e9:Int),sizes[e8.Mask.toNat]?=some e9∧(∃ (v10_0:Int),Zbi m.Hash left right e9=some (I v10_0,[])∧(out.length+1≤68719476736∧(Zbd m info (out++[v10_0]) sizes x1 x2 (w (x3+1))=some r))))))) else (if (w (x.Kind - 1))=3 then (0≤i∧(∃ (e11:Zg),info[i.toNat]?=some e11∧(0≤e11.Mask∧(∃ (e12:Int),sizes[e11.Mask.toNat]?=some e12∧(∃ (v13_0:Int),Zbi m.Merge left right e12=some (I v13_0,[])∧(out.length+1≤68719476736∧(Zbd m info (out++[v13_0]) sizes x1 x2 (w (x3+1))=some r))))))) else (if (w (x.Kind - 1))=4 then (0≤i∧(∃ (e14:Zg),info[i.toNat]?=some e14∧(0≤e14.Mask∧(∃ (e15:Int),sizes[e14.Mask.toNat]?=some e15∧(∃ (v16_0:Int),Zbi m.Nested left right e15=some (I v16_0,[])∧(out.length+1≤68719476736∧(Zbd m info (out++[v16_0]) sizes x1 x2 (w (x3+1))=some r))))))) else False))))))):Ziu m info out x sizes i left right x1 x2 x3 x4=some r:=by
 unfold Ziu
 rw [Ev_eq Zke.eq_1]
 obtain ⟨q1,h⟩:=h
 unfold Zeb at q1
 try simp at q1
 by_cases q2:(w (x.Kind - 1))=0
 ·rw [if_pos q2] at h
  obtain ⟨q3,h⟩:=h
  obtain ⟨e2,q4,h⟩:=h
  have gq4:=ltOfGet q4
  have kq4:=getOf q4
  obtain ⟨q5,h⟩:=h
  obtain ⟨e3,q6,h⟩:=h
  have gq6:=ltOfGet q6
  have kq6:=getOf q6
  obtain ⟨v4_0,q7,h⟩:=h
  unfold Zbi at q7
  try simp at q7
  obtain ⟨q8,h⟩:=h
  have rq8:=roomA (b:=8) q8 (by omega)
  have sq8:=roomB q8
  try simp [*] at rq8
  try simp [*] at sq8
  refine Eq.trans ?_ h
  clear h
  simp +decide [*,Zbd]
 ·rw [if_neg q2] at h
  replace q2:=eq_false q2
  by_cases q9:(w (x.Kind - 1))=1
  ·rw [if_pos q9] at h
   obtain ⟨q10,h⟩:=h
   obtain ⟨e5,q11,h⟩:=h
   have gq11:=ltOfGet q11
   have kq11:=getOf q11
   obtain ⟨q12,h⟩:=h
   obtain ⟨e6,q13,h⟩:=h
   have gq13:=ltOfGet q13
   have kq13:=getOf q13
   obtain ⟨v7_0,q14,h⟩:=h
   unfold Zbi at q14
   try simp at q14
   obtain ⟨q15,h⟩:=h
   have rq15:=roomA (b:=8) q15 (by omega)
   have sq15:=roomB q15
   try simp [*] at rq15
   try simp [*] at sq15
   refine Eq.trans ?_ h
   clear h
   simp +decide [*,Zbd]
  ·rw [if_neg q9] at h
   replace q9:=eq_false q9
   by_cases q16:(w (x.Kind - 1))=2
   ·rw [if_pos q16] at h
    obtain ⟨q17,h⟩:=h
    obtain ⟨e8,q18,h⟩:=h
    have gq18:=ltOfGet q18
    have kq18:=getOf q18
    obtain ⟨q19,h⟩:=h
    obtain ⟨e9,q20,h⟩:=h
    have gq20:=ltOfGet q20
    have kq20:=getOf q20
    obtain ⟨v10_0,q21,h⟩:=h
    unfold Zbi at q21
    try simp at q21
    obtain ⟨q22,h⟩:=h
    have rq22:=roomA (b:=8) q22 (by omega)
    have sq22:=roomB q22
    try simp [*] at rq22
    try simp [*] at sq22
    refine Eq.trans ?_ h
    clear h
    simp +decide [*,Zbd]
   ·rw [if_neg q16] at h
    replace q16:=eq_false q16
    by_cases q23:(w (x.Kind - 1))=3
    ·rw [if_pos q23] at h
     obtain ⟨q24,h⟩:=h
     obtain ⟨e11,q25,h⟩:=h
     have gq25:=ltOfGet q25
     have kq25:=getOf q25
     obtain ⟨q26,h⟩:=h
     obtain ⟨e12,q27,h⟩:=h
     have gq27:=ltOfGet q27
     have kq27:=getOf q27
     obtain ⟨v13_0,q28,h⟩:=h
     unfold Zbi at q28
     try simp at q28
     obtain ⟨q29,h⟩:=h
     have rq29:=roomA (b:=8) q29 (by omega)
     have sq29:=roomB q29
     try simp [*] at rq29
     try simp [*] at sq29
     refine Eq.trans ?_ h
     clear h
     simp +decide [*,Zbd]
    ·rw [if_neg q23] at h
     replace q23:=eq_false q23
     by_cases q30:(w (x.Kind - 1))=4
     ·rw [if_pos q30] at h
      obtain ⟨q31,h⟩:=h
      obtain ⟨e14,q32,h⟩:=h
      have gq32:=ltOfGet q32
      have kq32:=getOf q32
      obtain ⟨q33,h⟩:=h
      obtain ⟨e15,q34,h⟩:=h
      have gq34:=ltOfGet q34
      have kq34:=getOf q34
      obtain ⟨v16_0,q35,h⟩:=h
      unfold Zbi at q35
      try simp at q35
      obtain ⟨q36,h⟩:=h
      have rq36:=roomA (b:=8) q36 (by omega)
      have sq36:=roomB q36
      try simp [*] at rq36
      try simp [*] at sq36
      refine Eq.trans ?_ h
      clear h
      simp +decide [*,Zbd]
     ·rw [if_neg q30] at h
      replace q30:=eq_false q30
      cases h
theorem Zss (a:Zd) (a1:Zc) (a2:Plan) (a3:List Int) (r:AV×List Blk) (h:((Zev a1 a2=some (.tup [.t .nil,Bo false],[])∧(some (.t .nil,[])=some r))∨(∃ (v2_0:List Zg),Zev a1 a2=some (.tup [.own 0,Bo true],[.arr 138 4 true (v2_0.map Zg.c)])∧(∃ (v3_0:Bool),Zho a1 a3=some (Bo v3_0,[])∧(if v3_0=true then (Zbd a v2_0 ([]:List Int) a3 a2.Steps (a2.Steps.length:Int) 0=some r) else (some (.t .nil,[])=some r)))))):Zhq a a1 a2 a3=some r:=by
 unfold Zhq
 refine run Z7t rfl ?_
 simp only [Zev,Zho,Plan.c_def,Zc.c_def,mpl,dfs] at h
 try simp only [itb] at h
 try simp only [itf,List.getElem?_eq_some_iff,kk] at h
 rcases h with ⟨q2,h⟩ | ⟨v2_0,q3,v3_0,q4,(⟨q5,h⟩ | ⟨q5,h⟩)⟩
 all_goals (refine Eq.trans ?_ h;clear h;simp +decide [*,kk,Zwu,Zbd])
theorem Z0f (n:Int) (x:List Int) (x1:Int) (x2:Int) (r:AV×List Blk) (h:(if x2<x1 then (0≤x2∧(∃ (e1:Int),x[x2.toNat]?=some e1∧(Zhr (w (n+e1)) x x1 (w (x2+1))=some r))) else (some (I n,[])=some r))):Zhr n x x1 x2=some r:=by
 unfold Zhr
 rw [EvL_eq Zqb.eq_1]
 try simp only [itb] at h
 try simp only [itf,List.getElem?_eq_some_iff,kk] at h
 rcases h with ⟨q1,q2,e1,⟨g3,q3⟩,h⟩ | ⟨q1,h⟩
 all_goals (refine Eq.trans ?_ h;clear h;simp +decide [*,kk,Zhr,Zqc])
theorem Zba2 (a:List Int) (r:AV×List Blk) (h:(Zhr 0 a (a.length:Int) 0=some r)):Zkh a=some r:=by
 unfold Zkh
 refine run Z7u rfl ?_
 refine Eq.trans ?_ h;clear h;simp +decide [*,kk,Zwv,Zhr]
theorem Zba3 (a:Zd) (a1:Zc) (a2:Plan) (a3:List Int) (r:AV×List Blk) (h:((Zhq a a1 a2 a3=some (.t .nil,[])∧(some (I (-1),[])=some r))∨(∃ (v2_0:List Int),Zhq a a1 a2 a3=some (.own 0,[.arr 3 1 true (v2_0.map ic)])∧(v2_0≠[]∧(∃ (v3_0:Int),Zkh v2_0=some (I v3_0,[])∧(some (I v3_0,[])=some r)))))):Ze8 a a1 a2 a3=some r:=by
 unfold Ze8
 refine run Z7v rfl ?_
 rcases h with h | h
 ·
  obtain ⟨q1,h⟩:=h
  unfold Zhq at q1
  try simp at q1
  refine Eq.trans ?_ h
  clear h
  simp +decide [*,Zqd]
 ·
  obtain ⟨v2_0,q2,h⟩:=h
  unfold Zhq at q2
  try simp at q2
  obtain ⟨q3,h⟩:=h
  obtain ⟨yq3,ysq3,eq3⟩:=List.exists_cons_of_ne_nil q3
  first | subst eq3 | skip
  obtain ⟨v3_0,q4,h⟩:=h
  unfold Zkh at q4
  try simp at q4
  refine Eq.trans ?_ h
  clear h
  simp +decide [*,Zqd]
theorem Zba4 (a:Zd) (a1:Zc) (a2:Plan) (a3:List Int) (r:AV×List Blk) (h:((∃ (v1_0:List Int),Ze6 a3=some (.own 0,[.arr 3 1 true (v1_0.map ic)])∧(∃ (v2_0:Int),Ze8 a a1 a2 v1_0=some (I v2_0,[])∧(some (I v2_0,[])=some r)))∨(Ze6 a3=some (.t .nil,[])∧(∃ (v4_0:Int),Zww a a1 a2=some (I v4_0,[])∧(some (I v4_0,[])=some r))))):Zki a a1 a2 a3=some r:=by
 unfold Zki
 refine run Z7w rfl ?_
 simp only [Ze6,Ze8,Zww,Zd.c_def,Zh.c_def,Plan.c_def,Zc.c_def,mpl,dfs] at h
 rcases h with ⟨v1_0,q2,v2_0,q3,h⟩ | ⟨q4,v4_0,q5,h⟩
 all_goals (refine Eq.trans ?_ h;clear h;simp +decide [*,kk,Zwx])
theorem Z0g (q:Zc) (out:List Int) (mask:Int) (r:AV×List Blk) (h:(∃ (v1_0:Int),Zb5 q=some (I v1_0,[])∧(if mask≤v1_0 then (∃ (v2_0:Bool),Zea q mask=some (Bo v2_0,[])∧(if v2_0=true then (out.length+1≤68719476736∧(Zfz q (out++[mask]) (w (mask+1))=some r)) else (Zfz q out (w (mask+1))=some r))) else (some (.own 0,[.arr 3 1 true (out.map ic)])=some r)))):Zfz q out mask=some r:=by
 unfold Zfz
 rw [EvL_eq Zqe.eq_1]
 simp only [Zb5,Zea,Zc.c_def,mpl,dfs] at h
 try simp only [itb] at h
 try simp only [itf,List.getElem?_eq_some_iff,kk] at h
 rcases h with ⟨v1_0,q1,(⟨q2,v2_0,q3,(⟨q4,q5,h⟩ | ⟨q4,h⟩)⟩ | ⟨q2,h⟩)⟩
 all_goals (refine Eq.trans ?_ h;clear h;simp +decide [*,kk,Zfz,Zwy,Zqf])
theorem Zba5 (a:Zc) (r:AV×List Blk) (h:(Zfz a ([]:List Int) 1=some r)):Zkj a=some r:=by
 unfold Zkj
 refine run Z7x rfl ?_
 refine Eq.trans ?_ h;clear h;simp +decide [*,kk,Zwz,Zfz]
theorem Z0h (out:List Int) (mask:Int) (i:Int) (r:AV×List Blk) (h:(if i<4 then (¬ i<0∧(if (andI (shrI mask i) 1)=1 then (out.length+1≤68719476736∧(Zf0 (out++[i]) mask (w (i+1))=some r)) else (Zf0 out mask (w (i+1))=some r))) else (some (.own 0,[.arr 3 1 true (out.map ic)])=some r))):Zf0 out mask i=some r:=by
 unfold Zf0
 rw [EvL_eq Zqg.eq_1]
 try simp only [itb] at h
 try simp only [itf,List.getElem?_eq_some_iff,kk] at h
 rcases h with ⟨q1,q2,(⟨q3,q4,h⟩ | ⟨q3,h⟩)⟩ | ⟨q1,h⟩
 all_goals (refine Eq.trans ?_ h;clear h;simp +decide [*,kk,Zf0,Zw0,Zqh])
theorem Zba6 (a:Int) (r:AV×List Blk) (h:(∃ (v1_0:Bool),Zw a 0 15=some (Bo v1_0,[])∧(if v1_0=true then (Zf0 ([]:List Int) a 0=some r) else (some (.t .nil,[])=some r)))):Ziv a=some r:=by
 unfold Ziv
 refine run Z7y rfl ?_
 simp only [Zw,mpl,dfs] at h
 try simp only [itb] at h
 try simp only [itf,List.getElem?_eq_some_iff,kk] at h
 rcases h with ⟨v1_0,q1,(⟨q2,h⟩ | ⟨q2,h⟩)⟩
 all_goals (refine Eq.trans ?_ h;clear h;simp +decide [*,kk,Zw1,Zf0])
theorem Zba7 (a:Int) (r:AV×List Blk) (h:(some (.agg [.own 0],[.arr 142 3 true (([(⟨1,a,0⟩:Zb)]).map Zb.c)])=some r)):Zkk a=some r:=by
 unfold Zkk
 refine run Z7z rfl ?_
 refine Eq.trans ?_ h;clear h;simp +decide [*,kk,Zw2]
end Go.Proofs.YtbapkgocloaaeaaGreat
/- part: G5 -/
namespace Go.Proofs.YtbapkgocloaaeaaGreat
open Go.AM
theorem Zcn (m:Zd) (q:Zc) (sizes:List Int) (mask:Int) (list0:Za) (list1:Za) (list2:Za) (list3:Za) (list4:Za) (some0:Bool) (some1:Bool) (some2:Bool) (some3:Bool) (some4:Bool) (x:List Zb) (a:Int) (r:AV×List Blk) (h:(∃ (v1_0:Int),Ze8 m q (⟨x⟩:Plan) sizes=some (I v1_0,[])∧(if (w (a+1))=0 then (if some0=true then (if v1_0<list0.Cost then (some (.tup [],[.box [I m.Scan.Fixed,I m.Scan.Zi,I m.Scan.Zj,I m.Scan.Zl,I m.Scan.Zk,L 2 (m.Scan.Steps.map Zf.c),I m.Sort_.Fixed,I m.Sort_.Zi,I m.Sort_.Zj,I m.Sort_.Zl,I m.Sort_.Zk,L 2 (m.Sort_.Steps.map Zf.c),I m.Hash.Fixed,I m.Hash.Zi,I m.Hash.Zj,I m.Hash.Zl,I m.Hash.Zk,L 2 (m.Hash.Steps.map Zf.c),I m.Merge.Fixed,I m.Merge.Zi,I m.Merge.Zj,I m.Merge.Zl,I m.Merge.Zk,L 2 (m.Merge.Steps.map Zf.c),I m.Nested.Fixed,I m.Nested.Zi,I m.Nested.Zj,I m.Nested.Zl,I m.Nested.Zk,L 2 (m.Nested.Steps.map Zf.c),I q.Ze,L 2 (q.Atoms.map Atom.c),L 1 (sizes.map ic),I mask,I mask,I a,I v1_0,L 3 (x.map Zb.c),I list1.Mask,I list1.Order,I list1.Cost,L 3 (list1.Plan.Steps.map Zb.c),I list2.Mask,I list2.Order,I list2.Cost,L 3 (list2.Plan.Steps.map Zb.c),I list3.Mask,I list3.Order,I list3.Cost,L 3 (list3.Plan.Steps.map Zb.c),I list4.Mask,I list4.Order,I list4.Cost,L 3 (list4.Plan.Steps.map Zb.c),Bo true,Bo some1,Bo some2,Bo some3,Bo some4],.dead])=some r) else (some (.tup [],[boxO m q sizes mask list0 list1 list2 list3 list4 some0 some1 some2 some3 some4,.arr 142 3 true (x.map Zb.c)])=some r)) else (some (.tup [],[.box [I m.Scan.Fixed,I m.Scan.Zi,I m.Scan.Zj,I m.Scan.Zl,I m.Scan.Zk,L 2 (m.Scan.Steps.map Zf.c),I m.Sort_.Fixed,I m.Sort_.Zi,I m.Sort_.Zj,I m.Sort_.Zl,I m.Sort_.Zk,L 2 (m.Sort_.Steps.map Zf.c),I m.Hash.Fixed,I m.Hash.Zi,I m.Hash.Zj,I m.Hash.Zl,I m.Hash.Zk,L 2 (m.Hash.Steps.map Zf.c),I m.Merge.Fixed,I m.Merge.Zi,I m.Merge.Zj,I m.Merge.Zl,I m.Merge.Zk,L 2 (m.Merge.Steps.map Zf.c),I m.Nested.Fixed,I m.Nested.Zi,I m.Nested.Zj,I m.Nested.Zl,I m.Nested.Zk,L 2 (m.Nested.Steps.map Zf.c),I q.Ze,L 2 (q.Atoms.map Atom.c),L 1 (sizes.map ic),I mask,I mask,I a,I v1_0,L 3 (x.map Zb.c),I list1.Mask,I list1.Order,I list1.Cost,L 3 (list1.Plan.Steps.map Zb.c),I list2.Mask,I list2.Order,I list2.Cost,L 3 (list2.Plan.Steps.map Zb.c),I list3.Mask,I list3.Order,I list3.Cost,L 3 (list3.Plan.Steps.map Zb.c),I list4.Mask,I list4.Order,I list4.Cost,L 3 (list4.Plan.Steps.map Zb.c),Bo true,Bo some1,Bo some2,Bo some3,Bo some4],.dead])=some r)) else (if (w (a+1))=1 then (if some1=true then (if v1_0<list1.Cost then (some (.tup [],[.box [I m.Scan.Fixed,I m.Scan.Zi,I m.Scan.Zj,I m.Scan.Zl,I m.Scan.Zk,L 2 (m.Scan.Steps.map Zf.c),I m.Sort_.Fixed,I m.Sort_.Zi,I m.Sort_.Zj,I m.Sort_.Zl,I m.Sort_.Zk,L 2 (m.Sort_.Steps.map Zf.c),I m.Hash.Fixed,I m.Hash.Zi,I m.Hash.Zj,I m.Hash.Zl,I m.Hash.Zk,L 2 (m.Hash.Steps.map Zf.c),I m.Merge.Fixed,I m.Merge.Zi,I m.Merge.Zj,I m.Merge.Zl,I m.Merge.Zk,L 2 (m.Merge.Steps.map Zf.c),I m.Nested.Fixed,I m.Nested.Zi,I m.Nested.Zj,I m.Nested.Zl,I m.Nested.Zk,L 2 (m.Nested.Steps.map Zf.c),I q.Ze,L 2 (q.Atoms.map Atom.c),L 1 (sizes.map ic),I mask,I list0.Mask,I list0.Order,I list0.Cost,L 3 (list0.Plan.Steps.map Zb.c),I mask,I a,I v1_0,L 3 (x.map Zb.c),I list2.Mask,I list2.Order,I list2.Cost,L 3 (list2.Plan.Steps.map Zb.c),I list3.Mask,I list3.Order,I list3.Cost,L 3 (list3.Plan.Steps.map Zb.c),I list4.Mask,I list4.Order,I list4.Cost,L 3 (list4.Plan.Steps.map Zb.c),Bo some0,Bo true,Bo some2,Bo some3,Bo some4],.dead])=some r) else (some (.tup [],[boxO m q sizes mask list0 list1 list2 list3 list4 some0 some1 some2 some3 some4,.arr 142 3 true (x.map Zb.c)])=some r)) else (some (.tup [],[.box [I m.Scan.Fixed,I m.Scan.Zi,I m.Scan.Zj,I m.Scan.Zl,I m.Scan.Zk,L 2 (m.Scan.Steps.map Zf.c),I m.Sort_.Fixed,I m.Sort_.Zi,I m.Sort_.Zj,I m.Sort_.Zl,I m.Sort_.Zk,L 2 (m.Sort_.Steps.map Zf.c),I m.Hash.Fixed,I m.Hash.Zi,I m.Hash.Zj,I m.Hash.Zl,I m.Hash.Zk,L 2 (m.Hash.Steps.map Zf.c),I m.Merge.Fixed,I m.Merge.Zi,I m.Merge.Zj,I m.Merge.Zl,I m.Merge.Zk,L 2 (m.Merge.Steps.map Zf.c),I m.Nested.Fixed,I m.Nested.Zi,I m.Nested.Zj,I m.Nested.Zl,I m.Nested.Zk,L 2 (m.Nested.Steps.map Zf.c),I q.Ze,L 2 (q.Atoms.map Atom.c),L 1 (sizes.map ic),I mask,I list0.Mask,I list0.Order,I list0.Cost,L 3 (list0.Plan.Steps.map Zb.c),I mask,I a,I v1_0,L 3 (x.map Zb.c),I list2.Mask,I list2.Order,I list2.Cost,L 3 (list2.Plan.Steps.map Zb.c),I list3.Mask,I list3.Order,I list3.Cost,L 3 (list3.Plan.Steps.map Zb.c),I list4.Mask,I list4.Order,I list4.Cost,L 3 (list4.Plan.Steps.map Zb.c),Bo some0,Bo true,Bo some2,Bo some3,Bo some4],.dead])=some r)) else (if (w (a+1))=2 then (if some2=true then (if v1_0<list2.Cost then (some (.tup [],[.box [I m.Scan.Fixed,I m.Scan.Zi,I m.Scan.Zj,I m.Scan.Zl,I m.Scan.Zk,L 2 (m.Scan.Steps.map Zf.c),I m.Sort_.Fixed,I m.Sort_.Zi,I m.Sort_.Zj,I m.Sort_.Zl,I m.Sort_.Zk,L 2 (m.Sort_.Steps.map Zf.c),I m.Hash.Fixed,I m.Hash.Zi,I m.Hash.Zj,I m.Hash.Zl,I m.Hash.Zk,L 2 (m.Hash.Steps.map Zf.c),I m.Merge.Fixed,I m.Merge.Zi,I m.Merge.Zj,I m.Merge.Zl,I m.Merge.Zk,L 2 (m.Merge.Steps.map Zf.c),I m.Nested.Fixed,I m.Nested.Zi,I m.Nested.Zj,I m.Nested.Zl,I m.Nested.Zk,L 2 (m.Nested.Steps.map Zf.c),I q.Ze,L 2 (q.Atoms.map Atom.c),L 1 (sizes.map ic),I mask,I list0.Mask,I list0.Order,I list0.Cost,L 3 (list0.Plan.Steps.map Zb.c),I list1.Mask,I list1.Order,I list1.Cost,L 3 (list1.Plan.Steps.map Zb.c),I mask,I a,I v1_0,L 3 (x.map Zb.c),I list3.Mask,I list3.Order,I list3.Cost,L 3 (list3.Plan.Steps.map Zb.c),I list4.Mask,I list4.Order,I list4.Cost,L 3 (list4.Plan.Steps.map Zb.c),Bo some0,Bo some1,Bo true,Bo some3,Bo some4],.dead])=some r) else (some (.tup [],[boxO m q sizes mask list0 list1 list2 list3 list4 some0 some1 some2 some3 some4,.arr 142 3 true (x.map Zb.c)])=some r)) else (some (.tup [],[.box [I m.Scan.Fixed,I m.Scan.Zi,I m.Scan.Zj,I m.Scan.Zl,I m.Scan.Zk,L 2 (m.Scan.Steps.map Zf.c),I m.Sort_.Fixed,I m.Sort_.Zi,I m.Sort_.Zj,I m.Sort_.Zl,I m.Sort_.Zk,L 2 (m.Sort_.Steps.map Zf.c),I m.Hash.Fixed,I m.Hash.Zi,I m.Hash.Zj,I m.Hash.Zl,I m.Hash.Zk,L 2 (m.Hash.Steps.map Zf.c),I m.Merge.Fixed,I m.Merge.Zi,I m.Merge.Zj,I m.Merge.Zl,I m.Merge.Zk,L 2 (m.Merge.Steps.map Zf.c),I m.Nested.Fixed,I m.Nested.Zi,I m.Nested.Zj,I m.Nested.Zl,I m.Nested.Zk,L 2 (m.Nested.Steps.map Zf.c),I q.Ze,L 2 (q.Atoms.map Atom.c),L 1 (sizes.map ic),I mask,I list0.Mask,I list0.Order,I list0.Cost,L 3 (list0.Plan.Steps.map Zb.c),I list1.Mask,I list1.Order,I list1.Cost,L 3 (list1.Plan.Steps.map Zb.c),I mask,I a,I v1_0,L 3 (x.map Zb.c),I list3.Mask,I list3.Order,I list3.Cost,L 3 (list3.Plan.Steps.map Zb.c),I list4.Mask,I list4.Order,I list4.Cost,L 3 (list4.Plan.Steps.map Zb.c),Bo some0,Bo some1,Bo true,Bo some3,Bo some4],.dead])=some r)) else (if (w (a+1))=3 then (if some3=true then (if v1_0<list3.Cost then (some (.tup [],[.box [I m.Scan.Fixed,I m.Scan.Zi,I m.Scan.Zj,I m.Scan.Zl,I m.Scan.Zk,L 2 (m.Scan.Steps.map Zf.c),I m.Sort_.Fixed,I m.Sort_.Zi,I m.Sort_.Zj,I m.Sort_.Zl,I m.Sort_.Zk,L 2 (m.Sort_.Steps.map Zf.c),I m.Hash.Fixed,I m.Hash.Zi,I m.Hash.Zj,I m.Hash.Zl,I m.Hash.Zk,L 2 (m.Hash.Steps.map Zf.c),I m.Merge.Fixed,I m.Merge.Zi,I m.Merge.Zj,I m.Merge.Zl,I m.Merge.Zk,L 2 (m.Merge.Steps.map Zf.c),I m.Nested.Fixed,I m.Nested.Zi,I m.Nested.Zj,I m.Nested.Zl,I m.Nested.Zk,L 2 (m.Nested.Steps.map Zf.c),I q.Ze,L 2 (q.Atoms.map Atom.c),L 1 (sizes.map ic),I mask,I list0.Mask,I list0.Order,I list0.Cost,L 3 (list0.Plan.Steps.map Zb.c),I list1.Mask,I list1.Order,I list1.Cost,L 3 (list1.Plan.Steps.map Zb.c),I list2.Mask,I list2.Order,I list2.Cost,L 3 (list2.Plan.Steps.map Zb.c),I mask,I a,I v1_0,L 3 (x.map Zb.c),I list4.Mask,I list4.Order,I list4.Cost,L 3 (list4.Plan.Steps.map Zb.c),Bo some0,Bo some1,Bo some2,Bo true,Bo some4],.dead])=some r) else (some (.tup [],[boxO m q sizes mask list0 list1 list2 list3 list4 some0 some1 some2 some3 some4,.arr 142 3 true (x.map Zb.c)])=some r)) else (some (.tup [],[.box [I m.Scan.Fixed,I m.Scan.Zi,I m.Scan.Zj,I m.Scan.Zl,I m.Scan.Zk,L 2 (m.Scan.Steps.map Zf.c),I m.Sort_.Fixed,I m.Sort_.Zi,I m.Sort_.Zj,I m.Sort_.Zl,I m.Sort_.Zk,L 2 (m.Sort_.Steps.map Zf.c),I m.Hash.Fixed,I m.Hash.Zi,I m.Hash.Zj,I m.Hash.Zl,I m.Hash.Zk,L 2 (m.Hash.Steps.map Zf.c),I m.Merge.Fixed,I m.Merge.Zi,I m.Merge.Zj,I m.Merge.Zl,I m.Merge.Zk,L 2 (m.Merge.Steps.map Zf.c),I m.Nested.Fixed,I m.Nested.Zi,I m.Nested.Zj,I m.Nested.Zl,I m.Nested.Zk,L 2 (m.Nested.Steps.map Zf.c),I q.Ze,L 2 (q.Atoms.map Atom.c),L 1 (sizes.map ic),I mask,I list0.Mask,I list0.Order,I list0.Cost,L 3 (list0.Plan.Steps.map Zb.c),I list1.Mask,I list1.Order,I list1.Cost,L 3 (list1.Plan.Steps.map Zb.c),I list2.Mask,I list2.Order,I list2.Cost,L 3 (list2.Plan.Steps.map Zb.c),I mask,I a,I v1_0,L 3 (x.map Zb.c),I list4.Mask,I list4.Order,I list4.Cost,L 3 (list4.Plan.Steps.map Zb.c),Bo some0,Bo some1,Bo some2,Bo true,Bo some4],.dead])=some r)) else (if (w (a+1))=4 then (if some4=true then (if v1_0<list4.Cost then (some (.tup [],[.box [I m.Scan.Fixed,I m.Scan.Zi,I m.Scan.Zj,I m.Scan.Zl,I m.Scan.Zk,L 2 (m.Scan.Steps.map Zf.c),I m.Sort_.Fixed,I m.Sort_.Zi,I m.Sort_.Zj,I m.Sort_.Zl,I m.Sort_.Zk,L 2 (m.Sort_.Steps.map Zf.c),I m.Hash.Fixed,I m.Hash.Zi,I m.Hash.Zj,I m.Hash.Zl,I m.Hash.Zk,L 2 (m.Hash.Steps.map Zf.c),I m.Merge.Fixed,I m.Merge.Zi,I m.Merge.Zj,I m.Merge.Zl,I m.Merge.Zk,L 2 (m.Merge.Steps.map Zf.c),I m.Nested.Fixed,I m.Nested.Zi,I m.Nested.Zj,I m.Nested.Zl,I m.Nested.Zk,L 2 (m.Nested.Steps.map Zf.c),I q.Ze,L 2 (q.Atoms.map Atom.c),L 1 (sizes.map ic),I mask,I list0.Mask,I list0.Order,I list0.Cost,L 3 (list0.Plan.Steps.map Zb.c),I list1.Mask,I list1.Order,I list1.Cost,L 3 (list1.Plan.Steps.map Zb.c),I list2.Mask,I list2.Order,I list2.Cost,L 3 (list2.Plan.Steps.map Zb.c),I list3.Mask,I list3.Order,I list3.Cost,L 3 (list3.Plan.Steps.map Zb.c),I mask,I a,I v1_0,L 3 (x.map Zb.c),Bo some0,Bo some1,Bo some2,Bo some3,Bo true],.dead])=some r) else (some (.tup [],[boxO m q sizes mask list0 list1 list2 list3 list4 some0 some1 some2 some3 some4,.arr 142 3 true (x.map Zb.c)])=some r)) else (some (.tup [],[.box [I m.Scan.Fixed,I m.Scan.Zi,I m.Scan.Zj,I m.Scan.Zl,I m.Scan.Zk,L 2 (m.Scan.Steps.map Zf.c),I m.Sort_.Fixed,I m.Sort_.Zi,I m.Sort_.Zj,I m.Sort_.Zl,I m.Sort_.Zk,L 2 (m.Sort_.Steps.map Zf.c),I m.Hash.Fixed,I m.Hash.Zi,I m.Hash.Zj,I m.Hash.Zl,I m.Hash.Zk,L 2 (m.Hash.Steps.map Zf.c),I m.Merge.Fixed,I m.Merge.Zi,I m.Merge.Zj,I m.Merge.Zl,I m.Merge.Zk,L 2 (m.Merge.Steps.map Zf.c),I m.Nested.Fixed,I m.Nested.Zi,I m.Nested.Zj,I m.Nested.Zl,I m.Nested.Zk,L 2 (m.Nested.Steps.map Zf.c),I q.Ze,L 2 (q.Atoms.map Atom.c),L 1 (sizes.map ic),I mask,I list0.Mask,I list0.Order,I list0.Cost,L 3 (list0.Plan.Steps.map Zb.c),I list1.Mask,I list1.Order,I list1.Cost,L 3 (list1.Plan.Steps.map Zb.c),I list2.Mask,I list2.Order,I list2.Cost,L 3 (list2.Plan.Steps.map Zb.c),I list3.Mask,I list3.Order,I list3.Cost,L 3 (list3.Plan.Steps.map Zb.c),I mask,I a,I v1_0,L 3 (x.map Zb.c),Bo some0,Bo some1,Bo some2,Bo some3,Bo true],.dead])=some r)) else False))))))):Zbn m q sizes mask list0 list1 list2 list3 list4 some0 some1 some2 some3 some4 x a=some r:=by
 unfold Zbn
 refine runM Z70 rfl ?_
 obtain ⟨v1_0,q1,h⟩:=h
 unfold Ze8 at q1
 try simp at q1
 by_cases q2:(w (a+1))=0
 ·rw [if_pos q2] at h
  by_cases q3:some0=true
  ·rw [if_pos q3] at h
   by_cases q4:v1_0<list0.Cost
   ·rw [if_pos q4] at h
    refine Eq.trans ?_ h
    clear h
    simp +decide [*,Zcd]
   ·rw [if_neg q4] at h
    refine Eq.trans ?_ h
    clear h
    simp +decide [*,Zcd]
  ·rw [if_neg q3] at h
   refine Eq.trans ?_ h
   clear h
   simp +decide [*,Zcd]
 ·rw [if_neg q2] at h
  replace q2:=eq_false q2
  by_cases q5:(w (a+1))=1
  ·rw [if_pos q5] at h
   by_cases q6:some1=true
   ·rw [if_pos q6] at h
    by_cases q7:v1_0<list1.Cost
    ·rw [if_pos q7] at h
     refine Eq.trans ?_ h
     clear h
     simp +decide [*,Zcd]
    ·rw [if_neg q7] at h
     refine Eq.trans ?_ h
     clear h
     simp +decide [*,Zcd]
   ·rw [if_neg q6] at h
    refine Eq.trans ?_ h
    clear h
    simp +decide [*,Zcd]
  ·rw [if_neg q5] at h
   replace q5:=eq_false q5
   by_cases q8:(w (a+1))=2
   ·rw [if_pos q8] at h
    by_cases q9:some2=true
    ·rw [if_pos q9] at h
     by_cases q10:v1_0<list2.Cost
     ·rw [if_pos q10] at h
      refine Eq.trans ?_ h
      clear h
      simp +decide [*,Zcd]
     ·rw [if_neg q10] at h
      refine Eq.trans ?_ h
      clear h
      simp +decide [*,Zcd]
    ·rw [if_neg q9] at h
     refine Eq.trans ?_ h
     clear h
     simp +decide [*,Zcd]
   ·rw [if_neg q8] at h
    replace q8:=eq_false q8
    by_cases q11:(w (a+1))=3
    ·rw [if_pos q11] at h
     by_cases q12:some3=true
     ·rw [if_pos q12] at h
      by_cases q13:v1_0<list3.Cost
      ·rw [if_pos q13] at h
       refine Eq.trans ?_ h
       clear h
       simp +decide [*,Zcd]
      ·rw [if_neg q13] at h
       refine Eq.trans ?_ h
       clear h
       simp +decide [*,Zcd]
     ·rw [if_neg q12] at h
      refine Eq.trans ?_ h
      clear h
      simp +decide [*,Zcd]
    ·rw [if_neg q11] at h
     replace q11:=eq_false q11
     by_cases q14:(w (a+1))=4
     ·rw [if_pos q14] at h
      by_cases q15:some4=true
      ·rw [if_pos q15] at h
       by_cases q16:v1_0<list4.Cost
       ·rw [if_pos q16] at h
        refine Eq.trans ?_ h
        clear h
        simp +decide [*,Zcd]
       ·rw [if_neg q16] at h
        refine Eq.trans ?_ h
        clear h
        simp +decide [*,Zcd]
      ·rw [if_neg q15] at h
       refine Eq.trans ?_ h
       clear h
       simp +decide [*,Zcd]
     ·rw [if_neg q14] at h
      replace q14:=eq_false q14
      cases h
theorem Z0i (q:Zc) (out:List Int) (mask:Int) (x:Int) (r:AV×List Blk) (h:(if x<mask then (if (andI x mask)=x then (∃ (v1_0:Bool),Zea q x=some (Bo v1_0,[])∧(if v1_0=true then (∃ (v2_0:Bool),Zea q (andNotI mask x)=some (Bo v2_0,[])∧(if v2_0=true then (out.length+1≤68719476736∧(Zdp q (out++[x]) mask (w (x+1))=some r)) else (Zdp q out mask (w (x+1))=some r))) else (Zdp q out mask (w (x+1))=some r))) else (Zdp q out mask (w (x+1))=some r)) else (some (.own 0,[.arr 3 1 true (out.map ic)])=some r))):Zdp q out mask x=some r:=by
 unfold Zdp
 rw [EvL_eq Zqi.eq_1]
 simp only [Zea,Zc.c_def,mpl,dfs] at h
 try simp only [itb] at h
 try simp only [itf,List.getElem?_eq_some_iff,kk] at h
 rcases h with ⟨q1,(⟨q2,v1_0,q3,(⟨q4,v2_0,q5,(⟨q6,q7,h⟩ | ⟨q6,h⟩)⟩ | ⟨q4,h⟩)⟩ | ⟨q2,h⟩)⟩ | ⟨q1,h⟩
 all_goals (refine Eq.trans ?_ h;clear h;simp +decide [*,kk,Zdp,Zw3,Zqj])
theorem Zba8 (a:Zc) (a1:Int) (r:AV×List Blk) (h:(∃ (v1_0:Bool),Zhj a a1=some (Bo v1_0,[])∧(if v1_0=true then (Zdp a ([]:List Int) a1 1=some r) else (some (.t .nil,[])=some r)))):Zc9 a a1=some r:=by
 unfold Zc9
 refine run Z71 rfl ?_
 simp only [Zhj,Zc.c_def,mpl,dfs] at h
 try simp only [itb] at h
 try simp only [itf,List.getElem?_eq_some_iff,kk] at h
 rcases h with ⟨v1_0,q1,(⟨q2,h⟩ | ⟨q2,h⟩)⟩
 all_goals (refine Eq.trans ?_ h;clear h;simp +decide [*,kk,Zw4,Zdp])
end Go.Proofs.YtbapkgocloaaeaaGreat
/- part: G6 -/
namespace Go.Proofs.YtbapkgocloaaeaaGreat
open Go.AM
theorem Z0j (Mask:Int) (Order:Int) (Cost:Int) (best:Za) (x:List Za) (x1:Int) (x2:Int) (r:AV×List Blk) (h:(if x2<x1 then (0≤x2∧(∃ (e1:Za),x[x2.toNat]?=some e1∧(if e1.Cost<best.Cost then (Zf2 Mask Order Cost e1 x x1 (w (x2+1))=some r) else (Zf2 Mask Order Cost best x x1 (w (x2+1))=some r)))) else (some (.agg (best.c.map .t),[])=some r))):Zf2 Mask Order Cost best x x1 x2=some r:=by
 unfold Zf2
 rw [EvL_eq Zkl.eq_1]
 try simp only [itb] at h
 try simp only [itf,List.getElem?_eq_some_iff,kk] at h
 rcases h with ⟨q1,q2,e1,⟨g3,q3⟩,(⟨q4,h⟩ | ⟨q4,h⟩)⟩ | ⟨q1,h⟩
 all_goals (refine Eq.trans ?_ h;clear h;simp +decide [*,kk,Zf2,Zqk,Zkm])
theorem Zba9 (a:List Za) (r:AV×List Blk) (h:(∃ (e1:Za),a[0]?=some e1∧(Zf2 0 0 0 e1 a (a.length:Int) 0=some r))):Zf1 a=some r:=by
 unfold Zf1
 refine run Zzm rfl ?_
 try simp only [itb] at h
 try simp only [itf,List.getElem?_eq_some_iff,kk] at h
 rcases h with ⟨e1,⟨g1,q1⟩,h⟩
 all_goals (refine Eq.trans ?_ h;clear h;simp +decide [*,kk,Zql,Zf2])
theorem Z0k (a:Plan) (r:AV×List Blk) (h:(a.Steps.length≤68719476736∧(some (.agg [.own 0],[.arr 142 3 true (a.Steps.map Zb.c)])=some r))):Zcu a=some r:=by
 unfold Zcu
 refine run Z72 rfl ?_
 rcases h with ⟨q1,h⟩
 all_goals (refine Eq.trans ?_ h;clear h;simp +decide [*,kk,Zw5])
theorem Zbba (a:Plan) (a1:Plan) (a2:Int) (a3:Int) (r:AV×List Blk) (h:(∃ (v1_0:List Zb),Zcu a=some (.agg [.own 0],[.arr 142 3 true (v1_0.map Zb.c)])∧(v1_0.length+a1.Steps.length≤68719476736∧(v1_0.length+a1.Steps.length+1≤68719476736∧(some (.agg [.own 0],[.arr 142 3 true (((v1_0++a1.Steps)++[(⟨a2,0,a3⟩:Zb)]).map Zb.c)])=some r))))):Zda a a1 a2 a3=some r:=by
 unfold Zda
 refine run Z73 rfl ?_
 simp only [Zcu,Plan.c_def,mpl,dfs] at h
 rcases h with ⟨v1_0,q1,q2,q3,h⟩
 all_goals (refine Eq.trans ?_ h;clear h;simp +decide [*,kk,Zw6])
theorem Zd0 (m:Zd) (q:Zc) (sizes:List Int) (mask:Int) (list0:Za) (list1:Za) (list2:Za) (list3:Za) (list4:Za) (some0:Bool) (some1:Bool) (some2:Bool) (some3:Bool) (some4:Bool) (fr:Bool) (out:List Za) (x0:Bool) (x1:Bool) (x2:Bool) (x3:Bool) (x4:Bool) (x:Int) (r:AV×List Blk) (h:(if x<5 then (if x=0 then (if x0=true then (out.length+1≤68719476736∧(Z8 m q sizes mask list0 list1 list2 list3 list4 some0 some1 some2 some3 some4 false (out++[list0]) true x1 x2 x3 x4 (w (x+1))=some r)) else (Z8 m q sizes mask list0 list1 list2 list3 list4 some0 some1 some2 some3 some4 fr out false x1 x2 x3 x4 (w (x+1))=some r)) else (if x=1 then (if x1=true then (out.length+1≤68719476736∧(Z8 m q sizes mask list0 list1 list2 list3 list4 some0 some1 some2 some3 some4 false (out++[list1]) x0 true x2 x3 x4 (w (x+1))=some r)) else (Z8 m q sizes mask list0 list1 list2 list3 list4 some0 some1 some2 some3 some4 fr out x0 false x2 x3 x4 (w (x+1))=some r)) else (if x=2 then (if x2=true then (out.length+1≤68719476736∧(Z8 m q sizes mask list0 list1 list2 list3 list4 some0 some1 some2 some3 some4 false (out++[list2]) x0 x1 true x3 x4 (w (x+1))=some r)) else (Z8 m q sizes mask list0 list1 list2 list3 list4 some0 some1 some2 some3 some4 fr out x0 x1 false x3 x4 (w (x+1))=some r)) else (if x=3 then (if x3=true then (out.length+1≤68719476736∧(Z8 m q sizes mask list0 list1 list2 list3 list4 some0 some1 some2 some3 some4 false (out++[list3]) x0 x1 x2 true x4 (w (x+1))=some r)) else (Z8 m q sizes mask list0 list1 list2 list3 list4 some0 some1 some2 some3 some4 fr out x0 x1 x2 false x4 (w (x+1))=some r)) else (if x=4 then (if x4=true then (out.length+1≤68719476736∧(Z8 m q sizes mask list0 list1 list2 list3 list4 some0 some1 some2 some3 some4 false (out++[list4]) x0 x1 x2 x3 true (w (x+1))=some r)) else (Z8 m q sizes mask list0 list1 list2 list3 list4 some0 some1 some2 some3 some4 fr out x0 x1 x2 x3 false (w (x+1))=some r)) else False))))) else (some (.own 1,[boxO m q sizes mask list0 list1 list2 list3 list4 some0 some1 some2 some3 some4,.arr 174 4 fr (out.map Za.c)])=some r))):Z8 m q sizes mask list0 list1 list2 list3 list4 some0 some1 some2 some3 some4 fr out x0 x1 x2 x3 x4 x=some r:=by
 unfold Z8
 rw [EvL_eq Zqm.eq_1]
 by_cases q1:x<5
 ·rw [if_pos q1] at h
  by_cases q2:x=0
  ·rw [if_pos q2] at h
   subst q2
   by_cases q3:x0=true
   ·rw [if_pos q3] at h
    obtain ⟨q4,h⟩:=h
    have rq4:=roomA (b:=48) q4 (by omega)
    have sq4:=roomB q4
    try simp [*] at rq4
    try simp [*] at sq4
    refine Eq.trans ?_ h
    clear h
    simp +decide [*,Z8,Zdq]
   ·rw [if_neg q3] at h
    refine Eq.trans ?_ h
    clear h
    simp +decide [*,Z8,Zdq]
  ·rw [if_neg q2] at h
   replace q2:=eq_false q2
   by_cases q5:x=1
   ·rw [if_pos q5] at h
    subst q5
    by_cases q6:x1=true
    ·rw [if_pos q6] at h
     obtain ⟨q7,h⟩:=h
     have rq7:=roomA (b:=48) q7 (by omega)
     have sq7:=roomB q7
     try simp [*] at rq7
     try simp [*] at sq7
     refine Eq.trans ?_ h
     clear h
     simp +decide [*,Z8,Zdq]
    ·rw [if_neg q6] at h
     refine Eq.trans ?_ h
     clear h
     simp +decide [*,Z8,Zdq]
   ·rw [if_neg q5] at h
    replace q5:=eq_false q5
    by_cases q8:x=2
    ·rw [if_pos q8] at h
     subst q8
     by_cases q9:x2=true
     ·rw [if_pos q9] at h
      obtain ⟨q10,h⟩:=h
      have rq10:=roomA (b:=48) q10 (by omega)
      have sq10:=roomB q10
      try simp [*] at rq10
      try simp [*] at sq10
      refine Eq.trans ?_ h
      clear h
      simp +decide [*,Z8,Zdq]
     ·rw [if_neg q9] at h
      refine Eq.trans ?_ h
      clear h
      simp +decide [*,Z8,Zdq]
    ·rw [if_neg q8] at h
     replace q8:=eq_false q8
     by_cases q11:x=3
     ·rw [if_pos q11] at h
      subst q11
      by_cases q12:x3=true
      ·rw [if_pos q12] at h
       obtain ⟨q13,h⟩:=h
       have rq13:=roomA (b:=48) q13 (by omega)
       have sq13:=roomB q13
       try simp [*] at rq13
       try simp [*] at sq13
       refine Eq.trans ?_ h
       clear h
       simp +decide [*,Z8,Zdq]
      ·rw [if_neg q12] at h
       refine Eq.trans ?_ h
       clear h
       simp +decide [*,Z8,Zdq]
     ·rw [if_neg q11] at h
      replace q11:=eq_false q11
      by_cases q14:x=4
      ·rw [if_pos q14] at h
       subst q14
       by_cases q15:x4=true
       ·rw [if_pos q15] at h
        obtain ⟨q16,h⟩:=h
        have rq16:=roomA (b:=48) q16 (by omega)
        have sq16:=roomB q16
        try simp [*] at rq16
        try simp [*] at sq16
        refine Eq.trans ?_ h
        clear h
        simp +decide [*,Z8,Zdq]
       ·rw [if_neg q15] at h
        refine Eq.trans ?_ h
        clear h
        simp +decide [*,Z8,Zdq]
      ·rw [if_neg q14] at h
       replace q14:=eq_false q14
       cases h
 ·rw [if_neg q1] at h
  refine Eq.trans ?_ h
  clear h
  simp +decide [*,Zqn]
theorem Zbbb (m:Zd) (q:Zc) (sizes:List Int) (mask:Int) (list0:Za) (list1:Za) (list2:Za) (list3:Za) (list4:Za) (some0:Bool) (some1:Bool) (some2:Bool) (some3:Bool) (some4:Bool) (r:AV×List Blk) (h:(Z8 m q sizes mask list0 list1 list2 list3 list4 some0 some1 some2 some3 some4 true ([]:List Za) some0 some1 some2 some3 some4 0=some r)):Zkn m q sizes mask list0 list1 list2 list3 list4 some0 some1 some2 some3 some4=some r:=by
 unfold Zkn
 refine runM Z74 rfl ?_
 refine Eq.trans ?_ h;clear h;simp +decide [*,kk,Zw7,Z8]
theorem Zbbc (a:Zc) (a1:Int) (r:AV×List Blk) (h:(∃ (v1_0:Bool),Zhh a a1=some (Bo v1_0,[])∧(if v1_0=true then (∃ (v2_0:List Int),Zdm a a1=some (.own 0,[.arr 3 1 true (v2_0.map ic)])∧(some (.own 0,[.arr 3 1 true (v2_0.map ic)])=some r)) else (some (.t .nil,[])=some r)))):Zed a a1=some r:=by
 unfold Zed
 refine run Z75 rfl ?_
 simp only [Zhh,Zdm,Zc.c_def,mpl,dfs] at h
 try simp only [itb] at h
 try simp only [itf,List.getElem?_eq_some_iff,kk] at h
 rcases h with ⟨v1_0,q1,(⟨q2,v2_0,q3,h⟩ | ⟨q2,h⟩)⟩
 all_goals (refine Eq.trans ?_ h;clear h;simp +decide [*,kk,Zw8])
theorem Zbbd (a:Zc) (a1:Int) (a2:Int) (r:AV×List Blk) (h:((∃ (v1_0:List Int),Zed a a1=some (.own 0,[.arr 3 1 true (v1_0.map ic)])∧((∃ (v2_0:List Int),Zed a a2=some (.own 0,[.arr 3 1 true (v2_0.map ic)])∧(∃ (v3_0:List Int),Zeu v1_0 v2_0=some (.own 0,[.arr 3 1 true (v3_0.map ic)])∧(some (.own 0,[.arr 3 1 true (v3_0.map ic)])=some r)))∨(Zed a a2=some (.t .nil,[])∧(∃ (v5_0:List Int),Zw9 v1_0=some (.own 0,[.arr 3 1 true (v5_0.map ic)])∧(some (.own 0,[.arr 3 1 true (v5_0.map ic)])=some r)))))∨(Zed a a1=some (.t .nil,[])∧((∃ (v7_0:List Int),Zed a a2=some (.own 0,[.arr 3 1 true (v7_0.map ic)])∧(∃ (v8_0:List Int),Zxa v7_0=some (.own 0,[.arr 3 1 true (v8_0.map ic)])∧(some (.own 0,[.arr 3 1 true (v8_0.map ic)])=some r)))∨(Zed a a2=some (.t .nil,[])∧(∃ (v10_0:List Int),Zxb=some (.own 0,[.arr 3 1 true (v10_0.map ic)])∧(some (.own 0,[.arr 3 1 true (v10_0.map ic)])=some r))))))):Zhs a a1 a2=some r:=by
 unfold Zhs
 refine run Z76 rfl ?_
 simp only [Zed,Zeu,Zw9,Zxa,Zxb,Zc.c_def,mpl,dfs] at h
 rcases h with ⟨v1_0,q2,(⟨v2_0,q4,v3_0,q5,h⟩ | ⟨q6,v5_0,q7,h⟩)⟩ | ⟨q8,(⟨v7_0,q10,v8_0,q11,h⟩ | ⟨q12,v10_0,q13,h⟩)⟩
 all_goals (refine Eq.trans ?_ h;clear h;simp +decide [*,kk,Zxc])
theorem Zbbe (a:Plan) (a1:Int) (r:AV×List Blk) (h:(∃ (v1_0:List Zb),Zcu a=some (.agg [.own 0],[.arr 142 3 true (v1_0.map Zb.c)])∧(v1_0.length+1≤68719476736∧(some (.agg [.own 0],[.arr 142 3 true ((v1_0++[(⟨2,0,a1⟩:Zb)]).map Zb.c)])=some r)))):Zko a a1=some r:=by
 unfold Zko
 refine run Z77 rfl ?_
 simp only [Zcu,Plan.c_def,mpl,dfs] at h
 rcases h with ⟨v1_0,q1,q2,h⟩
 all_goals (refine Eq.trans ?_ h;clear h;simp +decide [*,kk,Zxd])
theorem Znw (m:Zd) (q:Zc) (x:List Zb) (sizes:List Int) (v:Int) (x1:List Za) (x2:Int) (x3:Int) (r:AV×List Blk) (h:(if x3<x2 then (0≤x3∧(∃ (e1:Za),x1[x3.toNat]?=some e1∧(if e1.Order=v then (∃ (v2_0:Int),Ze8 m q (⟨x⟩:Plan) sizes=some (I v2_0,[])∧(if e1.Cost≤v2_0 then (some (.agg (e1.Plan.c.map .t),[])=some r) else (Zf3 m q x sizes v x1 x2 (w (x3+1))=some r))) else (Zf3 m q x sizes v x1 x2 (w (x3+1))=some r)))) else (some (.agg [.own 0],[.arr 142 3 true (x.map Zb.c)])=some r))):Zf3 m q x sizes v x1 x2 x3=some r:=by
 unfold Zf3
 rw [EvL_eq Zqo.eq_1]
 simp only [Ze8,Zd.c_def,Zh.c_def,Plan.c_def,Zc.c_def,mpl,dfs] at h
 try simp only [itb] at h
 try simp only [itf,List.getElem?_eq_some_iff,kk] at h
 rcases h with ⟨q1,q2,e1,⟨g3,q3⟩,(⟨q4,v2_0,q5,(⟨q6,h⟩ | ⟨q6,h⟩)⟩ | ⟨q4,h⟩)⟩ | ⟨q1,h⟩
 all_goals (refine Eq.trans ?_ h;clear h;simp +decide [*,kk,Zf3,Zqp])
theorem Z0l (a:Zd) (a1:Zc) (a2:List Int) (a3:List Za) (a4:Int) (r:AV×List Blk) (h:(∃ (v1_0:Za),Zf1 a3=some (.agg (v1_0.c.map .t),[])∧(if v1_0.Order=a4 then (some (.agg (v1_0.Plan.c.map .t),[])=some r) else (∃ (v2_0:List Zb),Zko v1_0.Plan a4=some (.agg [.own 0],[.arr 142 3 true (v2_0.map Zb.c)])∧(Zf3 a a1 v2_0 a2 a4 a3 (a3.length:Int) 0=some r))))):Zdb a a1 a2 a3 a4=some r:=by
 unfold Zdb
 refine run Z78 rfl ?_
 simp only [Zf1,Zko,Plan.c_def,Za.c_def,mpl,dfs] at h
 try simp only [itb] at h
 try simp only [itf,List.getElem?_eq_some_iff,kk] at h
 rcases h with ⟨v1_0,q1,(⟨q2,h⟩ | ⟨q2,v2_0,q3,h⟩)⟩
 all_goals (refine Eq.trans ?_ h;clear h;simp +decide [*,kk,Zxe,Zf3])
end Go.Proofs.YtbapkgocloaaeaaGreat
/- part: G7 -/
namespace Go.Proofs.YtbapkgocloaaeaaGreat
open Go.AM
theorem Z0m (m:Zd) (q:Zc) (fr:Bool) (table:List (List Za)) (fr1:Bool) (out:List Za) (x:List Int) (sizes:List Int) (x1:Int) (x2:Int) (r:AV×List Blk) (h:(if x2<x1 then (0≤x2∧(∃ (e1:Int),x[x2.toNat]?=some e1∧((Ziv e1=some (.t .nil,[])∧((Zc9 q e1=some (.t .nil,[])∧(Zkp m q fr table fr1 out m q sizes e1 (⟨0,0,0,(⟨[]⟩:Plan)⟩:Za) (⟨0,0,0,(⟨[]⟩:Plan)⟩:Za) (⟨0,0,0,(⟨[]⟩:Plan)⟩:Za) (⟨0,0,0,(⟨[]⟩:Plan)⟩:Za) (⟨0,0,0,(⟨[]⟩:Plan)⟩:Za) false false false false false x sizes e1 x1 x2 0 0=some r))∨(∃ (v4_0:List Int),Zc9 q e1=some (.own 0,[.arr 3 1 true (v4_0.map ic)])∧(Zdc m q fr table fr1 out m q sizes e1 (⟨0,0,0,(⟨[]⟩:Plan)⟩:Za) (⟨0,0,0,(⟨[]⟩:Plan)⟩:Za) (⟨0,0,0,(⟨[]⟩:Plan)⟩:Za) (⟨0,0,0,(⟨[]⟩:Plan)⟩:Za) (⟨0,0,0,(⟨[]⟩:Plan)⟩:Za) false false false false false x v4_0 sizes e1 x1 x2 (v4_0.length:Int) 0=some r))))∨(∃ (v5_0:List Int),Ziv e1=some (.own 0,[.arr 3 1 true (v5_0.map ic)])∧(if (v5_0.length:Int)=1 then (∃ (e6:Int),v5_0[0]?=some e6∧(∃ (v7_0:List Zb),Zkk e6=some (.agg [.own 0],[.arr 142 3 true (v7_0.map Zb.c)])∧(0≤e6∧(∃ (e8:Atom),q.Atoms[e6.toNat]?=some e8∧(∃ (e9:Int),e8.Vars[0]?=some e9∧((∃ (v10_0:Zd) (v10_1:Zc) (v10_2:List Int) (v10_3:Int) (v10_4:Za) (v10_5:Za) (v10_6:Za) (v10_7:Za) (v10_8:Za) (v10_9:Bool) (v10_10:Bool) (v10_11:Bool) (v10_12:Bool) (v10_13:Bool),Zbn m q sizes e1 (⟨0,0,0,(⟨[]⟩:Plan)⟩:Za) (⟨0,0,0,(⟨[]⟩:Plan)⟩:Za) (⟨0,0,0,(⟨[]⟩:Plan)⟩:Za) (⟨0,0,0,(⟨[]⟩:Plan)⟩:Za) (⟨0,0,0,(⟨[]⟩:Plan)⟩:Za) false false false false false v7_0 e9=some (.tup [],[boxO v10_0 v10_1 v10_2 v10_3 v10_4 v10_5 v10_6 v10_7 v10_8 v10_9 v10_10 v10_11 v10_12 v10_13,.dead])∧((Zc9 q e1=some (.t .nil,[])∧(Zkp m q fr table fr1 out v10_0 v10_1 v10_2 v10_3 v10_4 v10_5 v10_6 v10_7 v10_8 v10_9 v10_10 v10_11 v10_12 v10_13 x sizes e1 x1 x2 0 0=some r))∨(∃ (v12_0:List Int),Zc9 q e1=some (.own 0,[.arr 3 1 true (v12_0.map ic)])∧(Zdc m q fr table fr1 out v10_0 v10_1 v10_2 v10_3 v10_4 v10_5 v10_6 v10_7 v10_8 v10_9 v10_10 v10_11 v10_12 v10_13 x v12_0 sizes e1 x1 x2 (v12_0.length:Int) 0=some r))))∨(∃ (v13_0:Zd) (v13_1:Zc) (v13_2:List Int) (v13_3:Int) (v13_4:Za) (v13_5:Za) (v13_6:Za) (v13_7:Za) (v13_8:Za) (v13_9:Bool) (v13_10:Bool) (v13_11:Bool) (v13_12:Bool) (v13_13:Bool) (v13_14:List Zb),Zbn m q sizes e1 (⟨0,0,0,(⟨[]⟩:Plan)⟩:Za) (⟨0,0,0,(⟨[]⟩:Plan)⟩:Za) (⟨0,0,0,(⟨[]⟩:Plan)⟩:Za) (⟨0,0,0,(⟨[]⟩:Plan)⟩:Za) (⟨0,0,0,(⟨[]⟩:Plan)⟩:Za) false false false false false v7_0 e9=some (.tup [],[boxO v13_0 v13_1 v13_2 v13_3 v13_4 v13_5 v13_6 v13_7 v13_8 v13_9 v13_10 v13_11 v13_12 v13_13,.arr 142 3 true (v13_14.map Zb.c)])∧((Zc9 q e1=some (.t .nil,[])∧(Zkp m q fr table fr1 out v13_0 v13_1 v13_2 v13_3 v13_4 v13_5 v13_6 v13_7 v13_8 v13_9 v13_10 v13_11 v13_12 v13_13 x sizes e1 x1 x2 0 0=some r))∨(∃ (v15_0:List Int),Zc9 q e1=some (.own 0,[.arr 3 1 true (v15_0.map ic)])∧(Zdc m q fr table fr1 out v13_0 v13_1 v13_2 v13_3 v13_4 v13_5 v13_6 v13_7 v13_8 v13_9 v13_10 v13_11 v13_12 v13_13 x v15_0 sizes e1 x1 x2 (v15_0.length:Int) 0=some r)))))))))) else ((Zc9 q e1=some (.t .nil,[])∧(Zkp m q fr table fr1 out m q sizes e1 (⟨0,0,0,(⟨[]⟩:Plan)⟩:Za) (⟨0,0,0,(⟨[]⟩:Plan)⟩:Za) (⟨0,0,0,(⟨[]⟩:Plan)⟩:Za) (⟨0,0,0,(⟨[]⟩:Plan)⟩:Za) (⟨0,0,0,(⟨[]⟩:Plan)⟩:Za) false false false false false x sizes e1 x1 x2 0 0=some r))∨(∃ (v17_0:List Int),Zc9 q e1=some (.own 0,[.arr 3 1 true (v17_0.map ic)])∧(Zdc m q fr table fr1 out m q sizes e1 (⟨0,0,0,(⟨[]⟩:Plan)⟩:Za) (⟨0,0,0,(⟨[]⟩:Plan)⟩:Za) (⟨0,0,0,(⟨[]⟩:Plan)⟩:Za) (⟨0,0,0,(⟨[]⟩:Plan)⟩:Za) (⟨0,0,0,(⟨[]⟩:Plan)⟩:Za) false false false false false x v17_0 sizes e1 x1 x2 (v17_0.length:Int) 0=some r)))))))) else (Zhv fr1 out (out.length:Int) 0=some r))):Ze9 m q fr table fr1 out x sizes x1 x2=some r:=by
 unfold Ze9
 rw [EvL_eq Zht.eq_1]
 simp only [Ziv,Zc9,Zkk,Zbn,Zd.c_def,Zh.c_def,Plan.c_def,Za.c_def,Zb.c_def,Zc.c_def,mpl,dfs,Zj1] at h
 try simp only [itb] at h
 try simp only [itf,List.getElem?_eq_some_iff,kk] at h
 rcases h with ⟨q1,q2,e1,⟨g3,q3⟩,(⟨q5,(⟨q7,h⟩ | ⟨v4_0,q8,h⟩)⟩ | ⟨v5_0,q9,(⟨q10,e6,⟨g11,q11⟩,v7_0,q12,q13,e8,⟨g14,q14⟩,e9,⟨g15,q15⟩,(⟨v10_0,v10_1,v10_2,v10_3,v10_4,v10_5,v10_6,v10_7,v10_8,v10_9,v10_10,v10_11,v10_12,v10_13,q17,(⟨q19,h⟩ | ⟨v12_0,q20,h⟩)⟩ | ⟨v13_0,v13_1,v13_2,v13_3,v13_4,v13_5,v13_6,v13_7,v13_8,v13_9,v13_10,v13_11,v13_12,v13_13,v13_14,q21,(⟨q23,h⟩ | ⟨v15_0,q24,h⟩)⟩)⟩ | ⟨q10,(⟨q26,h⟩ | ⟨v17_0,q27,h⟩)⟩)⟩)⟩ | ⟨q1,h⟩
 all_goals (refine Eq.trans ?_ h;clear h;simp +decide [*,kk,Zkp,Zxf,Zdc,Zhv,Zhu])
theorem Z0n (m:Zd) (q:Zc) (fr:Bool) (table:List (List Za)) (fr1:Bool) (out:List Za) (m_1:Zd) (q_1:Zc) (sizes:List Int) (mask:Int) (list0:Za) (list1:Za) (list2:Za) (list3:Za) (list4:Za) (some0:Bool) (some1:Bool) (some2:Bool) (some3:Bool) (some4:Bool) (x:List Int) (x1:List Int) (sizes1:List Int) (mask1:Int) (x2:Int) (x3:Int) (x4:Int) (x5:Int) (r:AV×List Blk) (h:(if x5<x4 then (0≤x5∧(∃ (e1:Int),x1[x5.toNat]?=some e1∧(0≤e1∧(∃ (e2:List Za),table[e1.toNat]?=some e2∧(0≤(andNotI mask1 e1)∧(∃ (e3:List Za),table[(andNotI mask1 e1).toNat]?=some e3∧(∃ (v4_0:Za),Zf1 e3=some (.agg (v4_0.c.map .t),[])∧(∃ (v5_0:Za),Zf1 e2=some (.agg (v5_0.c.map .t),[])∧(∃ (v6_0:List Zb),Zda v5_0.Plan v4_0.Plan 3 0=some (.agg [.own 0],[.arr 142 3 true (v6_0.map Zb.c)])∧((∃ (v7_0:Zd) (v7_1:Zc) (v7_2:List Int) (v7_3:Int) (v7_4:Za) (v7_5:Za) (v7_6:Za) (v7_7:Za) (v7_8:Za) (v7_9:Bool) (v7_10:Bool) (v7_11:Bool) (v7_12:Bool) (v7_13:Bool),Zbn m_1 q_1 sizes mask list0 list1 list2 list3 list4 some0 some1 some2 some3 some4 v6_0 (-1)=some (.tup [],[boxO v7_0 v7_1 v7_2 v7_3 v7_4 v7_5 v7_6 v7_7 v7_8 v7_9 v7_10 v7_11 v7_12 v7_13,.dead])∧(Zee m q fr table fr1 out v7_0 v7_1 v7_2 v7_3 v7_4 v7_5 v7_6 v7_7 v7_8 v7_9 v7_10 v7_11 v7_12 v7_13 v4_0.Plan x x1 sizes1 mask1 e1 e2 e3 x2 x3 x4 x5 e2 (e2.length:Int) 0=some r))∨(∃ (v8_0:Zd) (v8_1:Zc) (v8_2:List Int) (v8_3:Int) (v8_4:Za) (v8_5:Za) (v8_6:Za) (v8_7:Za) (v8_8:Za) (v8_9:Bool) (v8_10:Bool) (v8_11:Bool) (v8_12:Bool) (v8_13:Bool) (v8_14:List Zb),Zbn m_1 q_1 sizes mask list0 list1 list2 list3 list4 some0 some1 some2 some3 some4 v6_0 (-1)=some (.tup [],[boxO v8_0 v8_1 v8_2 v8_3 v8_4 v8_5 v8_6 v8_7 v8_8 v8_9 v8_10 v8_11 v8_12 v8_13,.arr 142 3 true (v8_14.map Zb.c)])∧(Zee m q fr table fr1 out v8_0 v8_1 v8_2 v8_3 v8_4 v8_5 v8_6 v8_7 v8_8 v8_9 v8_10 v8_11 v8_12 v8_13 v4_0.Plan x x1 sizes1 mask1 e1 e2 e3 x2 x3 x4 x5 e2 (e2.length:Int) 0=some r)))))))))))) else (∃ (v9_0:Bool) (v9_1:List Za),Zkn m_1 q_1 sizes mask list0 list1 list2 list3 list4 some0 some1 some2 some3 some4=some (.own 1,[boxO m_1 q_1 sizes mask list0 list1 list2 list3 list4 some0 some1 some2 some3 some4,.arr 174 4 v9_0 (v9_1.map Za.c)])∧(0≤mask1∧(∃ (e10:List Za),table[mask1.toNat]?=some e10∧(out.length+v9_1.length≤68719476736∧(Ze9 m q (fr && v9_0) (table.set mask1.toNat v9_1) (fr1 && flat (v9_1.map Za.c)) (out++v9_1) x sizes1 x2 (w (x3+1))=some r))))))):Zdc m q fr table fr1 out m_1 q_1 sizes mask list0 list1 list2 list3 list4 some0 some1 some2 some3 some4 x x1 sizes1 mask1 x2 x3 x4 x5=some r:=by
 unfold Zdc
 rw [EvL_eq Ziw.eq_1]
 simp only [Zf1,Zda,Zbn,Zkn,Zd.c_def,Zh.c_def,Plan.c_def,Za.c_def,Zb.c_def,Zc.c_def,mpl,dfs,Zj1] at h
 try simp only [itb] at h
 try simp only [itf,List.getElem?_eq_some_iff,kk] at h
 rcases h with ⟨q1,q2,e1,⟨g3,q3⟩,q4,e2,⟨g5,q5⟩,q6,e3,⟨g7,q7⟩,v4_0,q8,v5_0,q9,v6_0,q10,(⟨v7_0,v7_1,v7_2,v7_3,v7_4,v7_5,v7_6,v7_7,v7_8,v7_9,v7_10,v7_11,v7_12,v7_13,q12,h⟩ | ⟨v8_0,v8_1,v8_2,v8_3,v8_4,v8_5,v8_6,v8_7,v8_8,v8_9,v8_10,v8_11,v8_12,v8_13,v8_14,q13,h⟩)⟩ | ⟨q1,v9_0,v9_1,q14,q15,e10,⟨g16,q16⟩,q17,h⟩
 all_goals (refine Eq.trans ?_ h;clear h;simp +decide [*,kk,Zee,Ze9,Ziy,Zix])
theorem Z0o (fr:Bool) (out:List Za) (x:Int) (x1:Int) (r:AV×List Blk) (h:(if x1<x then (0≤x1∧(∃ (e1:Za),out[x1.toNat]?=some e1∧(∃ (v2_0:List Zb),Zcu e1.Plan=some (.agg [.own 0],[.arr 142 3 true (v2_0.map Zb.c)])∧(Zhv fr (out.set x1.toNat (⟨e1.Mask,e1.Order,e1.Cost,(⟨v2_0⟩:Plan)⟩:Za)) x (w (x1+1))=some r)))) else (some (.own 0,[.arr 174 4 fr (out.map Za.c)])=some r))):Zhv fr out x x1=some r:=by
 unfold Zhv
 rw [EvL_eq Zqt.eq_1]
 simp only [Zcu,Plan.c_def,mpl,dfs,Zj1] at h
 try simp only [itb] at h
 try simp only [itf,List.getElem?_eq_some_iff,kk] at h
 rcases h with ⟨q1,q2,e1,⟨g3,q3⟩,v2_0,q4,h⟩ | ⟨q1,h⟩
 all_goals (refine Eq.trans ?_ h;clear h;simp +decide [*,kk,Zhv,Zqu])
theorem Z0p (m:Zd) (q:Zc) (fr:Bool) (table:List (List Za)) (fr1:Bool) (out:List Za) (m_1:Zd) (q_1:Zc) (sizes:List Int) (mask:Int) (list0:Za) (list1:Za) (list2:Za) (list3:Za) (list4:Za) (some0:Bool) (some1:Bool) (some2:Bool) (some3:Bool) (some4:Bool) (y:Plan) (x:List Int) (x1:List Int) (sizes1:List Int) (mask1:Int) (x2:Int) (left:List Za) (right:List Za) (x3:Int) (x4:Int) (x5:Int) (x6:Int) (x7:List Za) (x8:Int) (x9:Int) (r:AV×List Blk) (h:(if x9<x8 then (0≤x9∧(∃ (e1:Za),x7[x9.toNat]?=some e1∧(∃ (v2_0:List Zb),Zda e1.Plan y 5 0=some (.agg [.own 0],[.arr 142 3 true (v2_0.map Zb.c)])∧((∃ (v3_0:Zd) (v3_1:Zc) (v3_2:List Int) (v3_3:Int) (v3_4:Za) (v3_5:Za) (v3_6:Za) (v3_7:Za) (v3_8:Za) (v3_9:Bool) (v3_10:Bool) (v3_11:Bool) (v3_12:Bool) (v3_13:Bool),Zbn m_1 q_1 sizes mask list0 list1 list2 list3 list4 some0 some1 some2 some3 some4 v2_0 e1.Order=some (.tup [],[boxO v3_0 v3_1 v3_2 v3_3 v3_4 v3_5 v3_6 v3_7 v3_8 v3_9 v3_10 v3_11 v3_12 v3_13,.dead])∧(Zee m q fr table fr1 out v3_0 v3_1 v3_2 v3_3 v3_4 v3_5 v3_6 v3_7 v3_8 v3_9 v3_10 v3_11 v3_12 v3_13 y x x1 sizes1 mask1 x2 left right x3 x4 x5 x6 x7 x8 (w (x9+1))=some r))∨(∃ (v4_0:Zd) (v4_1:Zc) (v4_2:List Int) (v4_3:Int) (v4_4:Za) (v4_5:Za) (v4_6:Za) (v4_7:Za) (v4_8:Za) (v4_9:Bool) (v4_10:Bool) (v4_11:Bool) (v4_12:Bool) (v4_13:Bool) (v4_14:List Zb),Zbn m_1 q_1 sizes mask list0 list1 list2 list3 list4 some0 some1 some2 some3 some4 v2_0 e1.Order=some (.tup [],[boxO v4_0 v4_1 v4_2 v4_3 v4_4 v4_5 v4_6 v4_7 v4_8 v4_9 v4_10 v4_11 v4_12 v4_13,.arr 142 3 true (v4_14.map Zb.c)])∧(Zee m q fr table fr1 out v4_0 v4_1 v4_2 v4_3 v4_4 v4_5 v4_6 v4_7 v4_8 v4_9 v4_10 v4_11 v4_12 v4_13 y x x1 sizes1 mask1 x2 left right x3 x4 x5 x6 x7 x8 (w (x9+1))=some r)))))) else (∃ (v5_0:List Int),Zhs q x2 (andNotI mask1 x2)=some (.own 0,[.arr 3 1 true (v5_0.map ic)])∧(Zck m q fr table fr1 out m_1 q_1 sizes mask list0 list1 list2 list3 list4 some0 some1 some2 some3 some4 x x1 v5_0 sizes1 mask1 left right x3 x4 x5 x6 (v5_0.length:Int) 0=some r)))):Zee m q fr table fr1 out m_1 q_1 sizes mask list0 list1 list2 list3 list4 some0 some1 some2 some3 some4 y x x1 sizes1 mask1 x2 left right x3 x4 x5 x6 x7 x8 x9=some r:=by
 unfold Zee
 rw [EvL_eq Zqq.eq_1]
 simp only [Zda,Zbn,Zhs,Zd.c_def,Zh.c_def,Plan.c_def,Za.c_def,Zb.c_def,Zc.c_def,mpl,dfs,Zj1] at h
 try simp only [itb] at h
 try simp only [itf,List.getElem?_eq_some_iff,kk] at h
 rcases h with ⟨q1,q2,e1,⟨g3,q3⟩,v2_0,q4,(⟨v3_0,v3_1,v3_2,v3_3,v3_4,v3_5,v3_6,v3_7,v3_8,v3_9,v3_10,v3_11,v3_12,v3_13,q6,h⟩ | ⟨v4_0,v4_1,v4_2,v4_3,v4_4,v4_5,v4_6,v4_7,v4_8,v4_9,v4_10,v4_11,v4_12,v4_13,v4_14,q7,h⟩)⟩ | ⟨q1,v5_0,q8,h⟩
 all_goals (refine Eq.trans ?_ h;clear h;simp +decide [*,kk,Zee,Zck,Zqs])
theorem Z0q (m:Zd) (q:Zc) (fr:Bool) (table:List (List Za)) (fr1:Bool) (out:List Za) (m_1:Zd) (q_1:Zc) (sizes:List Int) (mask:Int) (list0:Za) (list1:Za) (list2:Za) (list3:Za) (list4:Za) (some0:Bool) (some1:Bool) (some2:Bool) (some3:Bool) (some4:Bool) (x:List Int) (x1:List Int) (x2:List Int) (sizes1:List Int) (mask1:Int) (left:List Za) (right:List Za) (x3:Int) (x4:Int) (x5:Int) (x6:Int) (x7:Int) (x8:Int) (r:AV×List Blk) (h:(if x8<x7 then (0≤x8∧(∃ (e1:Int),x2[x8.toNat]?=some e1∧((∃ (v2_0:Plan),Zdb m q sizes1 left e1=some (.agg (v2_0.c.map .t),[])∧((∃ (v3_0:Plan),Zdb m q sizes1 right e1=some (.agg (v3_0.c.map .t),[])∧(∃ (v4_0:List Zb),Zda v2_0 v3_0 4 e1=some (.agg [.own 0],[.arr 142 3 true (v4_0.map Zb.c)])∧((∃ (v5_0:Zd) (v5_1:Zc) (v5_2:List Int) (v5_3:Int) (v5_4:Za) (v5_5:Za) (v5_6:Za) (v5_7:Za) (v5_8:Za) (v5_9:Bool) (v5_10:Bool) (v5_11:Bool) (v5_12:Bool) (v5_13:Bool),Zbn m_1 q_1 sizes mask list0 list1 list2 list3 list4 some0 some1 some2 some3 some4 v4_0 e1=some (.tup [],[boxO v5_0 v5_1 v5_2 v5_3 v5_4 v5_5 v5_6 v5_7 v5_8 v5_9 v5_10 v5_11 v5_12 v5_13,.dead])∧(Zck m q fr table fr1 out v5_0 v5_1 v5_2 v5_3 v5_4 v5_5 v5_6 v5_7 v5_8 v5_9 v5_10 v5_11 v5_12 v5_13 x x1 x2 sizes1 mask1 left right x3 x4 x5 x6 x7 (w (x8+1))=some r))∨(∃ (v6_0:Zd) (v6_1:Zc) (v6_2:List Int) (v6_3:Int) (v6_4:Za) (v6_5:Za) (v6_6:Za) (v6_7:Za) (v6_8:Za) (v6_9:Bool) (v6_10:Bool) (v6_11:Bool) (v6_12:Bool) (v6_13:Bool) (v6_14:List Zb),Zbn m_1 q_1 sizes mask list0 list1 list2 list3 list4 some0 some1 some2 some3 some4 v4_0 e1=some (.tup [],[boxO v6_0 v6_1 v6_2 v6_3 v6_4 v6_5 v6_6 v6_7 v6_8 v6_9 v6_10 v6_11 v6_12 v6_13,.arr 142 3 true (v6_14.map Zb.c)])∧(Zck m q fr table fr1 out v6_0 v6_1 v6_2 v6_3 v6_4 v6_5 v6_6 v6_7 v6_8 v6_9 v6_10 v6_11 v6_12 v6_13 x x1 x2 sizes1 mask1 left right x3 x4 x5 x6 x7 (w (x8+1))=some r)))))∨(∃ (v7_0:List Zb),Zdb m q sizes1 right e1=some (.agg [.own 0],[.arr 142 3 true (v7_0.map Zb.c)])∧(∃ (v8_0:List Zb),Zda v2_0 (⟨v7_0⟩:Plan) 4 e1=some (.agg [.own 0],[.arr 142 3 true (v8_0.map Zb.c)])∧((∃ (v9_0:Zd) (v9_1:Zc) (v9_2:List Int) (v9_3:Int) (v9_4:Za) (v9_5:Za) (v9_6:Za) (v9_7:Za) (v9_8:Za) (v9_9:Bool) (v9_10:Bool) (v9_11:Bool) (v9_12:Bool) (v9_13:Bool),Zbn m_1 q_1 sizes mask list0 list1 list2 list3 list4 some0 some1 some2 some3 some4 v8_0 e1=some (.tup [],[boxO v9_0 v9_1 v9_2 v9_3 v9_4 v9_5 v9_6 v9_7 v9_8 v9_9 v9_10 v9_11 v9_12 v9_13,.dead])∧(Zck m q fr table fr1 out v9_0 v9_1 v9_2 v9_3 v9_4 v9_5 v9_6 v9_7 v9_8 v9_9 v9_10 v9_11 v9_12 v9_13 x x1 x2 sizes1 mask1 left right x3 x4 x5 x6 x7 (w (x8+1))=some r))∨(∃ (v10_0:Zd) (v10_1:Zc) (v10_2:List Int) (v10_3:Int) (v10_4:Za) (v10_5:Za) (v10_6:Za) (v10_7:Za) (v10_8:Za) (v10_9:Bool) (v10_10:Bool) (v10_11:Bool) (v10_12:Bool) (v10_13:Bool) (v10_14:List Zb),Zbn m_1 q_1 sizes mask list0 list1 list2 list3 list4 some0 some1 some2 some3 some4 v8_0 e1=some (.tup [],[boxO v10_0 v10_1 v10_2 v10_3 v10_4 v10_5 v10_6 v10_7 v10_8 v10_9 v10_10 v10_11 v10_12 v10_13,.arr 142 3 true (v10_14.map Zb.c)])∧(Zck m q fr table fr1 out v10_0 v10_1 v10_2 v10_3 v10_4 v10_5 v10_6 v10_7 v10_8 v10_9 v10_10 v10_11 v10_12 v10_13 x x1 x2 sizes1 mask1 left right x3 x4 x5 x6 x7 (w (x8+1))=some r)))))))∨(∃ (v11_0:List Zb),Zdb m q sizes1 left e1=some (.agg [.own 0],[.arr 142 3 true (v11_0.map Zb.c)])∧((∃ (v12_0:Plan),Zdb m q sizes1 right e1=some (.agg (v12_0.c.map .t),[])∧(∃ (v13_0:List Zb),Zda (⟨v11_0⟩:Plan) v12_0 4 e1=some (.agg [.own 0],[.arr 142 3 true (v13_0.map Zb.c)])∧((∃ (v14_0:Zd) (v14_1:Zc) (v14_2:List Int) (v14_3:Int) (v14_4:Za) (v14_5:Za) (v14_6:Za) (v14_7:Za) (v14_8:Za) (v14_9:Bool) (v14_10:Bool) (v14_11:Bool) (v14_12:Bool) (v14_13:Bool),Zbn m_1 q_1 sizes mask list0 list1 list2 list3 list4 some0 some1 some2 some3 some4 v13_0 e1=some (.tup [],[boxO v14_0 v14_1 v14_2 v14_3 v14_4 v14_5 v14_6 v14_7 v14_8 v14_9 v14_10 v14_11 v14_12 v14_13,.dead])∧(Zck m q fr table fr1 out v14_0 v14_1 v14_2 v14_3 v14_4 v14_5 v14_6 v14_7 v14_8 v14_9 v14_10 v14_11 v14_12 v14_13 x x1 x2 sizes1 mask1 left right x3 x4 x5 x6 x7 (w (x8+1))=some r))∨(∃ (v15_0:Zd) (v15_1:Zc) (v15_2:List Int) (v15_3:Int) (v15_4:Za) (v15_5:Za) (v15_6:Za) (v15_7:Za) (v15_8:Za) (v15_9:Bool) (v15_10:Bool) (v15_11:Bool) (v15_12:Bool) (v15_13:Bool) (v15_14:List Zb),Zbn m_1 q_1 sizes mask list0 list1 list2 list3 list4 some0 some1 some2 some3 some4 v13_0 e1=some (.tup [],[boxO v15_0 v15_1 v15_2 v15_3 v15_4 v15_5 v15_6 v15_7 v15_8 v15_9 v15_10 v15_11 v15_12 v15_13,.arr 142 3 true (v15_14.map Zb.c)])∧(Zck m q fr table fr1 out v15_0 v15_1 v15_2 v15_3 v15_4 v15_5 v15_6 v15_7 v15_8 v15_9 v15_10 v15_11 v15_12 v15_13 x x1 x2 sizes1 mask1 left right x3 x4 x5 x6 x7 (w (x8+1))=some r)))))∨(∃ (v16_0:List Zb),Zdb m q sizes1 right e1=some (.agg [.own 0],[.arr 142 3 true (v16_0.map Zb.c)])∧(∃ (v17_0:List Zb),Zda (⟨v11_0⟩:Plan) (⟨v16_0⟩:Plan) 4 e1=some (.agg [.own 0],[.arr 142 3 true (v17_0.map Zb.c)])∧((∃ (v18_0:Zd) (v18_1:Zc) (v18_2:List Int) (v18_3:Int) (v18_4:Za) (v18_5:Za) (v18_6:Za) (v18_7:Za) (v18_8:Za) (v18_9:Bool) (v18_10:Bool) (v18_11:Bool) (v18_12:Bool) (v18_13:Bool),Zbn m_1 q_1 sizes mask list0 list1 list2 list3 list4 some0 some1 some2 some3 some4 v17_0 e1=some (.tup [],[boxO v18_0 v18_1 v18_2 v18_3 v18_4 v18_5 v18_6 v18_7 v18_8 v18_9 v18_10 v18_11 v18_12 v18_13,.dead])∧(Zck m q fr table fr1 out v18_0 v18_1 v18_2 v18_3 v18_4 v18_5 v18_6 v18_7 v18_8 v18_9 v18_10 v18_11 v18_12 v18_13 x x1 x2 sizes1 mask1 left right x3 x4 x5 x6 x7 (w (x8+1))=some r))∨(∃ (v19_0:Zd) (v19_1:Zc) (v19_2:List Int) (v19_3:Int) (v19_4:Za) (v19_5:Za) (v19_6:Za) (v19_7:Za) (v19_8:Za) (v19_9:Bool) (v19_10:Bool) (v19_11:Bool) (v19_12:Bool) (v19_13:Bool) (v19_14:List Zb),Zbn m_1 q_1 sizes mask list0 list1 list2 list3 list4 some0 some1 some2 some3 some4 v17_0 e1=some (.tup [],[boxO v19_0 v19_1 v19_2 v19_3 v19_4 v19_5 v19_6 v19_7 v19_8 v19_9 v19_10 v19_11 v19_12 v19_13,.arr 142 3 true (v19_14.map Zb.c)])∧(Zck m q fr table fr1 out v19_0 v19_1 v19_2 v19_3 v19_4 v19_5 v19_6 v19_7 v19_8 v19_9 v19_10 v19_11 v19_12 v19_13 x x1 x2 sizes1 mask1 left right x3 x4 x5 x6 x7 (w (x8+1))=some r)))))))))) else (Zdc m q fr table fr1 out m_1 q_1 sizes mask list0 list1 list2 list3 list4 some0 some1 some2 some3 some4 x x1 sizes1 mask1 x3 x4 x5 (w (x6+1))=some r))):Zck m q fr table fr1 out m_1 q_1 sizes mask list0 list1 list2 list3 list4 some0 some1 some2 some3 some4 x x1 x2 sizes1 mask1 left right x3 x4 x5 x6 x7 x8=some r:=by
 unfold Zck
 rw [EvL_eq Zqr.eq_1]
 simp only [Zdb,Zda,Zbn,Zd.c_def,Zh.c_def,Plan.c_def,Za.c_def,Zb.c_def,Zc.c_def,mpl,dfs,Zj1] at h
 try simp only [itb] at h
 try simp only [itf,List.getElem?_eq_some_iff,kk] at h
 rcases h with ⟨q1,q2,e1,⟨g3,q3⟩,(⟨v2_0,q5,(⟨v3_0,q7,v4_0,q8,(⟨v5_0,v5_1,v5_2,v5_3,v5_4,v5_5,v5_6,v5_7,v5_8,v5_9,v5_10,v5_11,v5_12,v5_13,q10,h⟩ | ⟨v6_0,v6_1,v6_2,v6_3,v6_4,v6_5,v6_6,v6_7,v6_8,v6_9,v6_10,v6_11,v6_12,v6_13,v6_14,q11,h⟩)⟩ | ⟨v7_0,q12,v8_0,q13,(⟨v9_0,v9_1,v9_2,v9_3,v9_4,v9_5,v9_6,v9_7,v9_8,v9_9,v9_10,v9_11,v9_12,v9_13,q15,h⟩ | ⟨v10_0,v10_1,v10_2,v10_3,v10_4,v10_5,v10_6,v10_7,v10_8,v10_9,v10_10,v10_11,v10_12,v10_13,v10_14,q16,h⟩)⟩)⟩ | ⟨v11_0,q17,(⟨v12_0,q19,v13_0,q20,(⟨v14_0,v14_1,v14_2,v14_3,v14_4,v14_5,v14_6,v14_7,v14_8,v14_9,v14_10,v14_11,v14_12,v14_13,q22,h⟩ | ⟨v15_0,v15_1,v15_2,v15_3,v15_4,v15_5,v15_6,v15_7,v15_8,v15_9,v15_10,v15_11,v15_12,v15_13,v15_14,q23,h⟩)⟩ | ⟨v16_0,q24,v17_0,q25,(⟨v18_0,v18_1,v18_2,v18_3,v18_4,v18_5,v18_6,v18_7,v18_8,v18_9,v18_10,v18_11,v18_12,v18_13,q27,h⟩ | ⟨v19_0,v19_1,v19_2,v19_3,v19_4,v19_5,v19_6,v19_7,v19_8,v19_9,v19_10,v19_11,v19_12,v19_13,v19_14,q28,h⟩)⟩)⟩)⟩ | ⟨q1,h⟩
 all_goals (refine Eq.trans ?_ h;clear h;simp +decide [*,kk,Zck,Zdc,Znd])
theorem Zbbf (a:Zd) (a1:Zc) (a2:List Int) (r:AV×List Blk) (h:(∃ (v1_0:Bool),Zhn a=some (Bo v1_0,[])∧(if v1_0=true then (∃ (v2_0:Bool),Zho a1 a2=some (Bo v2_0,[])∧(if v2_0=true then (∃ (v3_0:Int),Zb5 a1=some (I v3_0,[])∧(0≤(w (v3_0+1))∧((w (v3_0+1))≤(w (v3_0+1))∧((w (v3_0+1)).toNat*24≤room∧((w (v3_0+1))≤140737488355328∧(∃ (v4_0:List Int),Zkj a1=some (.own 0,[.arr 3 1 true (v4_0.map ic)])∧(Ze9 a a1 true (List.replicate ((w (v3_0+1))).toNat ([])) true ([]:List Za) v4_0 a2 (v4_0.length:Int) 0=some r))))))) else (some (.t .nil,[])=some r))) else (some (.t .nil,[])=some r)))):Ziz a a1 a2=some r:=by
 unfold Ziz
 refine run Z79 rfl ?_
 obtain ⟨v1_0,q1,h⟩:=h
 unfold Zhn at q1
 try simp at q1
 by_cases q2:v1_0=true
 ·rw [if_pos q2] at h
  obtain ⟨v2_0,q3,h⟩:=h
  unfold Zho at q3
  try simp at q3
  by_cases q4:v2_0=true
  ·rw [if_pos q4] at h
   obtain ⟨v3_0,q5,h⟩:=h
   unfold Zb5 at q5
   try simp at q5
   obtain ⟨q6,h⟩:=h
   obtain ⟨q7,h⟩:=h
   obtain ⟨q8,h⟩:=h
   have zq8:=q8;try simp at zq8
   obtain ⟨q9,h⟩:=h
   obtain ⟨v4_0,q10,h⟩:=h
   unfold Zkj at q10
   try simp at q10
   refine Eq.trans ?_ h
   clear h
   simp +decide [*,Zne,Ze9]
  ·rw [if_neg q4] at h
   refine Eq.trans ?_ h
   clear h
   simp +decide [*,Zne]
 ·rw [if_neg q2] at h
  refine Eq.trans ?_ h
  clear h
  simp +decide [*,Zne]
end Go.Proofs.YtbapkgocloaaeaaGreat
/- part: G8 -/
namespace Go.Proofs.YtbapkgocloaaeaaGreat
open Go.AM
theorem Z0r (Mask:Int) (Order:Int) (Cost:Int) (best:Za) (fr:Bool) (x:List Za) (x1:Int) (x2:Int) (r:AV×List Blk) (h:(if x2<x1 then (0≤x2∧(∃ (e1:Za),x[x2.toNat]?=some e1∧(if e1.Cost<best.Cost then (Zf4 Mask Order Cost e1 fr x x1 (w (x2+1))=some r) else (Zf4 Mask Order Cost best fr x x1 (w (x2+1))=some r)))) else (some (.agg (best.c.map .t),[.arr 174 4 fr (x.map Za.c)])=some r))):Zf4 Mask Order Cost best fr x x1 x2=some r:=by
 unfold Zf4
 rw [EvL_eq Zkl.eq_1]
 try simp only [itb] at h
 try simp only [itf,List.getElem?_eq_some_iff,kk] at h
 rcases h with ⟨q1,q2,e1,⟨g3,q3⟩,(⟨q4,h⟩ | ⟨q4,h⟩)⟩ | ⟨q1,h⟩
 all_goals (refine Eq.trans ?_ h;clear h;simp +decide [*,kk,Zf4,Zqk,Zkm])
theorem Zbbg (fr:Bool) (x:List Za) (r:AV×List Blk) (h:(∃ (e1:Za),x[0]?=some e1∧(Zf4 0 0 0 e1 fr x (x.length:Int) 0=some r))):Zkq fr x=some r:=by
 unfold Zkq
 refine runM Zzm rfl ?_
 try simp only [itb] at h
 try simp only [itf,List.getElem?_eq_some_iff,kk] at h
 rcases h with ⟨e1,⟨g1,q1⟩,h⟩
 all_goals (refine Eq.trans ?_ h;clear h;simp +decide [*,kk,Zql,Zf4])
theorem Z0s (Mask:Int) (Order:Int) (Cost:Int) (fr:Bool) (x:List Za) (mask:Int) (x1:List Za) (x2:Int) (x3:Int) (r:AV×List Blk) (h:(if x3<x2 then (0≤x3∧(∃ (e1:Za),x1[x3.toNat]?=some e1∧(if e1.Mask=mask then (x.length+1≤68719476736∧(Zf5 Mask Order Cost false (x++[e1]) mask x1 x2 (w (x3+1))=some r)) else (Zf5 Mask Order Cost fr x mask x1 x2 (w (x3+1))=some r)))) else (if (x.length:Int)=0 then (some (.tup [.agg [I 0,I 0,I 0,.t .nil],Bo false],[])=some r) else (∃ (v2_0:Za),Zkq fr x=some (.agg (v2_0.c.map .t),[.arr 174 4 fr (x.map Za.c)])∧(∃ (v3_0:List Zb),Zcu v2_0.Plan=some (.agg [.own 0],[.arr 142 3 true (v3_0.map Zb.c)])∧(some (.tup [.agg [I v2_0.Mask,I v2_0.Order,I v2_0.Cost,.own 0],Bo true],[.arr 142 3 true (v3_0.map Zb.c)])=some r)))))):Zf5 Mask Order Cost fr x mask x1 x2 x3=some r:=by
 unfold Zf5
 rw [EvL_eq Zqw.eq_1]
 simp only [Zkq,Zcu,Plan.c_def,Za.c_def,mpl,dfs] at h
 try simp only [itb] at h
 try simp only [itf,List.getElem?_eq_some_iff,kk] at h
 rcases h with ⟨q1,q2,e1,⟨g3,q3⟩,(⟨q4,q5,h⟩ | ⟨q4,h⟩)⟩ | ⟨q1,(⟨q6,h⟩ | ⟨q6,v2_0,q7,v3_0,q8,h⟩)⟩
 all_goals (refine Eq.trans ?_ h;clear h;simp +decide [*,kk,Zf5,Zxg,Zqx])
theorem Zbbh (a:List Za) (a1:Int) (r:AV×List Blk) (h:(Zf5 0 0 0 true ([]:List Za) a1 a (a.length:Int) 0=some r)):Zi0 a a1=some r:=by
 unfold Zi0
 refine run Z8a rfl ?_
 refine Eq.trans ?_ h;clear h;simp +decide [*,kk,Zxh,Zf5]
theorem Zbbi (a:Zd) (a1:Zc) (a2:List Int) (r:AV×List Blk) (h:((Ziz a a1 a2=some (.t .nil,[])∧(∃ (v2_0:Int),Zb5 a1=some (I v2_0,[])∧((∃ (v3_0:Int) (v3_1:Int) (v3_2:Int),Zqv v2_0=some (.tup [.agg [I v3_0,I v3_1,I v3_2,.t .nil],Bo false],[])∧(some (.tup [.agg [I v3_0,I v3_1,I v3_2,.t .nil],Bo false],[])=some r))∨(∃ (v4_0:List Zb) (v4_1:Int) (v4_2:Int) (v4_3:Int),Zqv v2_0=some (.tup [.agg [I v4_1,I v4_2,I v4_3,.own 0],Bo true],[.arr 142 3 true (v4_0.map Zb.c)])∧(some (.tup [.agg [I v4_1,I v4_2,I v4_3,.own 0],Bo true],[.arr 142 3 true (v4_0.map Zb.c)])=some r)))))∨(∃ (v5_0:Bool) (v5_1:List Za),Ziz a a1 a2=some (.own 0,[.arr 174 4 v5_0 (v5_1.map Za.c)])∧(∃ (v6_0:Int),Zb5 a1=some (I v6_0,[])∧((∃ (v7_0:Int) (v7_1:Int) (v7_2:Int),Zi0 v5_1 v6_0=some (.tup [.agg [I v7_0,I v7_1,I v7_2,.t .nil],Bo false],[])∧(some (.tup [.agg [I v7_0,I v7_1,I v7_2,.t .nil],Bo false],[])=some r))∨(∃ (v8_0:List Zb) (v8_1:Int) (v8_2:Int) (v8_3:Int),Zi0 v5_1 v6_0=some (.tup [.agg [I v8_1,I v8_2,I v8_3,.own 0],Bo true],[.arr 142 3 true (v8_0.map Zb.c)])∧(some (.tup [.agg [I v8_1,I v8_2,I v8_3,.own 0],Bo true],[.arr 142 3 true (v8_0.map Zb.c)])=some r))))))):Zi1 a a1 a2=some r:=by
 unfold Zi1
 refine run Z8b rfl ?_
 simp only [Ziz,Zb5,Zqv,Zi0,Zd.c_def,Zh.c_def,Plan.c_def,Za.c_def,Zc.c_def,mpl,dfs] at h
 rcases h with ⟨q2,v2_0,q3,(⟨v3_0,v3_1,v3_2,q5,h⟩ | ⟨v4_0,v4_1,v4_2,v4_3,q6,h⟩)⟩ | ⟨v5_0,v5_1,q7,v6_0,q8,(⟨v7_0,v7_1,v7_2,q10,h⟩ | ⟨v8_0,v8_1,v8_2,v8_3,q11,h⟩)⟩
 all_goals (refine Eq.trans ?_ h;clear h;simp +decide [*,kk,Zxi])
theorem Zbbj (a:Zd) (a1:Zc) (a2:List Int) (r:AV×List Blk) (h:((∃ (v1_0:Int) (v1_1:Int) (v1_2:Int),Zi1 a a1 a2=some (.tup [.agg [I v1_0,I v1_1,I v1_2,.t .nil],Bo false],[])∧(some (I (-1),[])=some r))∨(∃ (v2_0:List Zb) (v2_1:Int) (v2_2:Int) (v2_3:Int),Zi1 a a1 a2=some (.tup [.agg [I v2_1,I v2_2,I v2_3,.own 0],Bo true],[.arr 142 3 true (v2_0.map Zb.c)])∧(some (I v2_3,[])=some r)))):Zkr a a1 a2=some r:=by
 unfold Zkr
 refine run Z8c rfl ?_
 simp only [Zi1,Zd.c_def,Zh.c_def,Zc.c_def,mpl,dfs] at h
 rcases h with ⟨v1_0,v1_1,v1_2,q2,h⟩ | ⟨v2_0,v2_1,v2_2,v2_3,q3,h⟩
 all_goals (refine Eq.trans ?_ h;clear h;simp +decide [*,kk,Zxj])
theorem Zbbk (a:Zd) (a1:Zc) (a2:List Int) (r:AV×List Blk) (h:((∃ (v1_0:List Int),Ze6 a2=some (.own 0,[.arr 3 1 true (v1_0.map ic)])∧(∃ (v2_0:Int),Zkr a a1 v1_0=some (I v2_0,[])∧(some (I v2_0,[])=some r)))∨(Ze6 a2=some (.t .nil,[])∧(∃ (v4_0:Int),Zxk a a1=some (I v4_0,[])∧(some (I v4_0,[])=some r))))):Zks a a1 a2=some r:=by
 unfold Zks
 refine run Z8d rfl ?_
 simp only [Ze6,Zkr,Zxk,Zd.c_def,Zh.c_def,Zc.c_def,mpl,dfs] at h
 rcases h with ⟨v1_0,q2,v2_0,q3,h⟩ | ⟨q4,v4_0,q5,h⟩
 all_goals (refine Eq.trans ?_ h;clear h;simp +decide [*,kk,Zxl])
theorem Zbbl (a:Zd) (a1:Zc) (a2:Region) (r:AV×List Blk) (h:(∃ (v1_0:Int),Zki a a1 a2.Plan a2.Box.High=some (I v1_0,[])∧(∃ (v2_0:Int),Zks a a1 a2.Box.Low=some (I v2_0,[])∧(some (Bo (decide ((w (100*v1_0))≤(w (a2.Percent*v2_0)))),[])=some r)))):Zdr a a1 a2=some r:=by
 unfold Zdr
 refine run Z8e rfl ?_
 simp only [Zki,Zks,Zd.c_def,Zh.c_def,Plan.c_def,Zc.c_def,mpl,dfs] at h
 rcases h with ⟨v1_0,q1,v2_0,q2,h⟩
 all_goals (refine Eq.trans ?_ h;clear h;simp +decide [*,kk,Zxm])
theorem Zbbm (a:Zd) (a1:Zc) (a2:Region) (r:AV×List Blk) (h:(∃ (v1_0:Bool),Zkd a a1 a2=some (Bo v1_0,[])∧(if v1_0=true then (∃ (v2_0:Bool),Zdr a a1 a2=some (Bo v2_0,[])∧(some (Bo v2_0,[])=some r)) else (some (Bo false,[])=some r)))):Zkt a a1 a2=some r:=by
 unfold Zkt
 refine run Z8f rfl ?_
 simp only [Zkd,Zdr,Box.c_def,Zd.c_def,Zh.c_def,Plan.c_def,Zc.c_def,Region.c_def,mpl,dfs] at h
 try simp only [itb] at h
 try simp only [itf,List.getElem?_eq_some_iff,kk] at h
 rcases h with ⟨v1_0,q1,(⟨q2,v2_0,q3,h⟩ | ⟨q2,h⟩)⟩
 all_goals (refine Eq.trans ?_ h;clear h;simp +decide [*,kk,Zxn])
theorem Zbbn (a:Zd) (a1:Int) (r:AV×List Blk) (h:(if a1=1 then (some (.agg (a.Scan.c.map .t),[])=some r) else (if a1=2 then (some (.agg (a.Sort_.c.map .t),[])=some r) else (if a1=3 then (some (.agg (a.Hash.c.map .t),[])=some r) else (if a1=4 then (some (.agg (a.Merge.c.map .t),[])=some r) else (some (.agg (a.Nested.c.map .t),[])=some r)))))):Zcl a a1=some r:=by
 unfold Zcl
 refine run Z8g rfl ?_
 try simp only [itb] at h
 try simp only [itf,List.getElem?_eq_some_iff,kk] at h
 rcases h with ⟨q1,h⟩ | ⟨q1,(⟨q2,h⟩ | ⟨q2,(⟨q3,h⟩ | ⟨q3,(⟨q4,h⟩ | ⟨q4,h⟩)⟩)⟩)⟩
 all_goals (refine Eq.trans ?_ h;clear h;simp +decide [*,kk,Zxo])
theorem Zbbo (a:Int) (a1:Int) (a2:Int) (r:AV×List Blk) (h:(if a1≤a then (some (Bo (decide (a≤a2)),[])=some r) else (some (Bo false,[])=some r))):Z0 a a1 a2=some r:=by
 unfold Z0
 refine run Z8h rfl ?_
 try simp only [itb] at h
 try simp only [itf,List.getElem?_eq_some_iff,kk] at h
 rcases h with ⟨q1,h⟩ | ⟨q1,h⟩
 all_goals (refine Eq.trans ?_ h;clear h;simp +decide [*,kk,Zxp])
theorem Zbbp (a:Int) (r:AV×List Blk) (h:(∃ (v1_0:Bool),Z0 a (-99) 99=some (Bo v1_0,[])∧(some (Bo v1_0,[])=some r))):Zds a=some r:=by
 unfold Zds
 refine run Z8i rfl ?_
 simp only [Z0,mpl,dfs] at h
 rcases h with ⟨v1_0,q1,h⟩
 all_goals (refine Eq.trans ?_ h;clear h;simp +decide [*,kk,Zxq])
theorem Z0t (o:Zh) (i:Int) (r:AV×List Blk) (h:(if i<(o.Steps.length:Int) then (0≤i∧(∃ (e1:Zf),o.Steps[i.toNat]?=some e1∧(∃ (v2_0:Bool),Z0 e1.From 1 8192=some (Bo v2_0,[])∧(if v2_0=true then (∃ (v3_0:Bool),Zds e1.Add=some (Bo v3_0,[])∧(if v3_0=true then (if 0<i then (0≤(w (i - 1))∧(∃ (e4:Zf),o.Steps[(w (i - 1)).toNat]?=some e4∧(if e1.From≤e4.From then (some (Bo false,[])=some r) else (Zfa o (w (i+1))=some r)))) else (Zfa o (w (i+1))=some r)) else (some (Bo false,[])=some r))) else (some (Bo false,[])=some r))))) else (some (Bo true,[])=some r))):Zfa o i=some r:=by
 unfold Zfa
 rw [EvL_eq Zqy.eq_1]
 simp only [Z0,Zds,mpl,dfs] at h
 try simp only [itb] at h
 try simp only [itf,List.getElem?_eq_some_iff,kk] at h
 rcases h with ⟨q1,q2,e1,⟨g3,q3⟩,v2_0,q4,(⟨q5,v3_0,q6,(⟨q7,(⟨q8,q9,e4,⟨g10,q10⟩,(⟨q11,h⟩ | ⟨q11,h⟩)⟩ | ⟨q8,h⟩)⟩ | ⟨q7,h⟩)⟩ | ⟨q5,h⟩)⟩ | ⟨q1,h⟩
 all_goals (refine Eq.trans ?_ h;clear h;simp +decide [*,kk,Zfa,Zqz])
theorem Zbbq (a:Zh) (r:AV×List Blk) (h:(∃ (v1_0:Bool),Zds a.Fixed=some (Bo v1_0,[])∧(if v1_0=true then (∃ (v2_0:Bool),Zds a.Zi=some (Bo v2_0,[])∧(if v2_0=true then (∃ (v3_0:Bool),Zds a.Zj=some (Bo v3_0,[])∧(if v3_0=true then (∃ (v4_0:Bool),Zds a.Zl=some (Bo v4_0,[])∧(if v4_0=true then (∃ (v5_0:Bool),Zds a.Zk=some (Bo v5_0,[])∧(if v5_0=true then (if 4<(a.Steps.length:Int) then (some (Bo false,[])=some r) else (Zfa a 0=some r)) else (some (Bo false,[])=some r))) else (some (Bo false,[])=some r))) else (some (Bo false,[])=some r))) else (some (Bo false,[])=some r))) else (some (Bo false,[])=some r)))):Zef a=some r:=by
 unfold Zef
 refine run Z8j rfl ?_
 simp only [Zds,mpl,dfs] at h
 try simp only [itb] at h
 try simp only [itf,List.getElem?_eq_some_iff,kk] at h
 rcases h with ⟨v1_0,q1,(⟨q2,v2_0,q3,(⟨q4,v3_0,q5,(⟨q6,v4_0,q7,(⟨q8,v5_0,q9,(⟨q10,(⟨q11,h⟩ | ⟨q11,h⟩)⟩ | ⟨q10,h⟩)⟩ | ⟨q8,h⟩)⟩ | ⟨q6,h⟩)⟩ | ⟨q4,h⟩)⟩ | ⟨q2,h⟩)⟩
 all_goals (refine Eq.trans ?_ h;clear h;simp +decide [*,kk,Zxr,Zfa])
theorem Zbbr (k:Int) (n:Int) (i:Int) (r:AV×List Blk) (h:(if i<k then (Zf6 k (if 1<(w (n*4)) then (w (n*4)) else 1) (w (i+1))=some r) else (some (I n,[])=some r))):Zf6 k n i=some r:=by
 unfold Zf6
 rw [EvL_eq Zq0.eq_1]
 try simp only [itb] at h
 try simp only [itf,List.getElem?_eq_some_iff,kk] at h
 rcases h with ⟨q1,h⟩ | ⟨q1,h⟩
 all_goals (refine Eq.trans ?_ h;clear h;simp +decide [*,kk,Zf6,Zq1])
theorem Zbbs (a:Int) (r:AV×List Blk) (h:(∃ (v1_0:Bool),Z0 a 0 7=some (Bo v1_0,[])∧(if v1_0=true then (Zf6 a 0 0=some r) else (some (I (-1),[])=some r)))):Zfb a=some r:=by
 unfold Zfb
 refine run Z8k rfl ?_
 simp only [Z0,mpl,dfs] at h
 try simp only [itb] at h
 try simp only [itf,List.getElem?_eq_some_iff,kk] at h
 rcases h with ⟨v1_0,q1,(⟨q2,h⟩ | ⟨q2,h⟩)⟩
 all_goals (refine Eq.trans ?_ h;clear h;simp +decide [*,kk,Zxs,Zf6])
theorem Z0u (o:Zh) (l:Int) (r_1:Int) (n:Int) (i:Int) (r:AV×List Blk) (h:(if i<(o.Steps.length:Int) then (0≤i∧(∃ (e1:Zf),o.Steps[i.toNat]?=some e1∧(if e1.From≤(w (l+r_1)) then (Zfc o l r_1 (w (n+e1.Add)) (w (i+1))=some r) else (Zfc o l r_1 n (w (i+1))=some r)))) else (some (I n,[])=some r))):Zfc o l r_1 n i=some r:=by
 unfold Zfc
 rw [EvL_eq Zq2.eq_1]
 try simp only [itb] at h
 try simp only [itf,List.getElem?_eq_some_iff,kk] at h
 rcases h with ⟨q1,q2,e1,⟨g3,q3⟩,(⟨q4,h⟩ | ⟨q4,h⟩)⟩ | ⟨q1,h⟩
 all_goals (refine Eq.trans ?_ h;clear h;simp +decide [*,kk,Zfc,Zxt,Zq3])
theorem Zbbt (a:Zh) (a1:Int) (a2:Int) (a3:Int) (r:AV×List Blk) (h:(∃ (v1_0:Bool),Zef a=some (Bo v1_0,[])∧(if v1_0=true then (∃ (v2_0:Bool),Z0 a1 0 4096=some (Bo v2_0,[])∧(if v2_0=true then (∃ (v3_0:Bool),Z0 a2 0 4096=some (Bo v3_0,[])∧(if v3_0=true then (∃ (v4_0:Bool),Z0 a3 0 4096=some (Bo v4_0,[])∧(if v4_0=true then (Zfc a a1 a2 (w ((w ((w ((w (a.Fixed+(w (a.Zi*a1))))+(w (a.Zj*a2))))+(w (a.Zl*a3))))+(w ((w (a.Zk*a1))*a2)))) 0=some r) else (some (I 0,[])=some r))) else (some (I 0,[])=some r))) else (some (I 0,[])=some r))) else (some (I 0,[])=some r)))):Zbs a a1 a2 a3=some r:=by
 unfold Zbs
 refine run Z8l rfl ?_
 simp only [Zef,Z0,Zh.c_def,mpl,dfs] at h
 try simp only [itb] at h
 try simp only [itf,List.getElem?_eq_some_iff,kk] at h
 rcases h with ⟨v1_0,q1,(⟨q2,v2_0,q3,(⟨q4,v3_0,q5,(⟨q6,v4_0,q7,(⟨q8,h⟩ | ⟨q8,h⟩)⟩ | ⟨q6,h⟩)⟩ | ⟨q4,h⟩)⟩ | ⟨q2,h⟩)⟩
 all_goals (refine Eq.trans ?_ h;clear h;simp +decide [*,kk,Zxu,Zfc])
theorem Zbbu (a:Zh) (a1:List Int) (r:AV×List Blk) (h:(∃ (e1:Int),a1[0]?=some e1∧(∃ (v2_0:Int),Zfb e1=some (I v2_0,[])∧(∃ (e3:Int),a1[1]?=some e3∧(∃ (v4_0:Int),Zfb e3=some (I v4_0,[])∧(∃ (e5:Int),a1[2]?=some e5∧(∃ (v6_0:Int),Zfb e5=some (I v6_0,[])∧(∃ (v7_0:Int),Zbs a v2_0 v4_0 v6_0=some (I v7_0,[])∧(some (I v7_0,[])=some r))))))))):Zf7 a a1=some r:=by
 unfold Zf7
 refine run Z8m rfl ?_
 simp only [Zfb,Zbs,Zh.c_def,mpl,dfs] at h
 try simp only [itb] at h
 try simp only [itf,List.getElem?_eq_some_iff,kk] at h
 rcases h with ⟨e1,⟨g1,q1⟩,v2_0,q2,e3,⟨g3,q3⟩,v4_0,q4,e5,⟨g5,q5⟩,v6_0,q6,v7_0,q7,h⟩
 all_goals (refine Eq.trans ?_ h;clear h;simp +decide [*,kk,Zxv])
theorem Z0v (o:Zh) (a:Int) (r:AV×List Blk) (h:(if a≤7 then (Zf9 o a 0=some r) else (some (.tup [.own 0,.own 1,Bo false],[.arr 3 1 true (([]:List Int).map ic),.arr 3 1 true (([]:List Int).map ic)])=some r))):Zf8 o a=some r:=by
 unfold Zf8
 rw [EvL_eq Zi2.eq_1]
 try simp only [itb] at h
 try simp only [itf,List.getElem?_eq_some_iff,kk] at h
 rcases h with ⟨q1,h⟩ | ⟨q1,h⟩
 all_goals (refine Eq.trans ?_ h;clear h;simp +decide [*,kk,Zf9,Zi3])
theorem Z0w (o:Zh) (a:Int) (b:Int) (r:AV×List Blk) (h:(if b≤7 then (Zga o a b 0=some r) else (Zf8 o (w (a+1))=some r))):Zf9 o a b=some r:=by
 unfold Zf9
 rw [EvL_eq Zku.eq_1]
 try simp only [itb] at h
 try simp only [itf,List.getElem?_eq_some_iff,kk] at h
 rcases h with ⟨q1,h⟩ | ⟨q1,h⟩
 all_goals (refine Eq.trans ?_ h;clear h;simp +decide [*,kk,Zga,Zf8,Zkv])
theorem Z0x (o:Zh) (a:Int) (b:Int) (e:Int) (r:AV×List Blk) (h:(if e≤7 then (Zdt o ([a,b,e]) a b e 0=some r) else (Zf9 o a (w (b+1))=some r))):Zga o a b e=some r:=by
 unfold Zga
 rw [EvL_eq Znf.eq_1]
 try simp only [itb] at h
 try simp only [itf,List.getElem?_eq_some_iff,kk] at h
 rcases h with ⟨q1,h⟩ | ⟨q1,h⟩
 all_goals (refine Eq.trans ?_ h;clear h;simp +decide [*,kk,Zdt,Zf9,Zng])
theorem Z0y (o:Zh) (x:List Int) (a:Int) (b:Int) (e:Int) (k:Int) (r:AV×List Blk) (h:(if k<3 then (x.length≤68719476736∧(0≤k∧(∃ (e1:Int),x[k.toNat]?=some e1∧(if (w (e1+1))≤7 then (∃ (v2_0:Int),Zf7 o (x.set k.toNat (w (e1+1)))=some (I v2_0,[])∧(∃ (v3_0:Int),Zf7 o x=some (I v3_0,[])∧(if v2_0<v3_0 then (some (.tup [.own 0,.own 1,Bo true],[.arr 3 1 true (x.map ic),.arr 3 1 true ((x.set k.toNat (w (e1+1))).map ic)])=some r) else (Zdt o x a b e (w (k+1))=some r)))) else (Zdt o x a b e (w (k+1))=some r))))) else (Zga o a b (w (e+1))=some r))):Zdt o x a b e k=some r:=by
 unfold Zdt
 rw [EvL_eq Zq4.eq_1]
 simp only [Zf7,Zh.c_def,mpl,dfs] at h
 try simp only [itb] at h
 try simp only [itf,List.getElem?_eq_some_iff,kk] at h
 rcases h with ⟨q1,q2,q3,e1,⟨g4,q4⟩,(⟨q5,v2_0,q6,v3_0,q7,(⟨q8,h⟩ | ⟨q8,h⟩)⟩ | ⟨q5,h⟩)⟩ | ⟨q1,h⟩
 all_goals (refine Eq.trans ?_ h;clear h;simp +decide [*,kk,Zdt,Zga,Zq5])
theorem Zbbv (a:Zh) (r:AV×List Blk) (h:(∃ (v1_0:Bool),Zef a=some (Bo v1_0,[])∧(if v1_0=true then (Zf8 a 0=some r) else (some (.tup [.own 0,.own 1,Bo false],[.arr 3 1 true (([]:List Int).map ic),.arr 3 1 true (([]:List Int).map ic)])=some r)))):Zkw a=some r:=by
 unfold Zkw
 refine run Z8n rfl ?_
 simp only [Zef,Zh.c_def,mpl,dfs] at h
 try simp only [itb] at h
 try simp only [itf,List.getElem?_eq_some_iff,kk] at h
 rcases h with ⟨v1_0,q1,(⟨q2,h⟩ | ⟨q2,h⟩)⟩
 all_goals (refine Eq.trans ?_ h;clear h;simp +decide [*,kk,Zxw,Zf8])
theorem Z0z (o:Zh) (a:Int) (r:AV×List Blk) (h:(if a≤7 then (Zgc o a 0=some r) else (some (.own 0,[.arr 3 1 true (([]:List Int).map ic)])=some r))):Zgb o a=some r:=by
 unfold Zgb
 rw [EvL_eq Zkx.eq_1]
 try simp only [itb] at h
 try simp only [itf,List.getElem?_eq_some_iff,kk] at h
 rcases h with ⟨q1,h⟩ | ⟨q1,h⟩
 all_goals (refine Eq.trans ?_ h;clear h;simp +decide [*,kk,Zgc,Zky])
theorem Z00 (o:Zh) (a:Int) (b:Int) (r:AV×List Blk) (h:(if b≤7 then (Zhw o a b 0=some r) else (Zgb o (w (a+1))=some r))):Zgc o a b=some r:=by
 unfold Zgc
 rw [EvL_eq Znh.eq_1]
 try simp only [itb] at h
 try simp only [itf,List.getElem?_eq_some_iff,kk] at h
 rcases h with ⟨q1,h⟩ | ⟨q1,h⟩
 all_goals (refine Eq.trans ?_ h;clear h;simp +decide [*,kk,Zhw,Zgb,Zni])
theorem Zst (o:Zh) (a:Int) (b:Int) (e:Int) (r:AV×List Blk) (h:(if e≤7 then (∃ (v1_0:Int),Zf7 o ([a,b,e])=some (I v1_0,[])∧(if v1_0<1 then (some (.own 0,[.arr 3 1 true (([a,b,e]).map ic)])=some r) else (Zhw o a b (w (e+1))=some r))) else (Zgc o a (w (b+1))=some r))):Zhw o a b e=some r:=by
 unfold Zhw
 rw [EvL_eq Zq6.eq_1]
 simp only [Zf7,Zh.c_def,mpl,dfs] at h
 try simp only [itb] at h
 try simp only [itf,List.getElem?_eq_some_iff,kk] at h
 rcases h with ⟨q1,v1_0,q2,(⟨q3,h⟩ | ⟨q3,h⟩)⟩ | ⟨q1,h⟩
 all_goals (refine Eq.trans ?_ h;clear h;simp +decide [*,kk,Zhw,Zgc,Zq7])
theorem Zbbw (a:Zh) (r:AV×List Blk) (h:(Zgb a 0=some r)):Zkz a=some r:=by
 unfold Zkz
 refine run Z8o rfl ?_
 refine Eq.trans ?_ h;clear h;simp +decide [*,kk,Zxx,Zgb]
theorem Z01 (m:Zd) (k:Int) (r:AV×List Blk) (h:(if k≤5 then (∃ (v1_0:Zh),Zcl m k=some (.agg (v1_0.c.map .t),[])∧(∃ (v2_0:Bool),Zef v1_0=some (Bo v2_0,[])∧(if v2_0=true then (∃ (v3_0:List Int) (v3_1:List Int) (v3_2:Bool),Zkw v1_0=some (.tup [.own 0,.own 1,Bo v3_2],[.arr 3 1 true (v3_0.map ic),.arr 3 1 true (v3_1.map ic)])∧(if v3_2=true then (some (.tup [I k,.own 0,.own 1],[.arr 3 1 true (v3_0.map ic),.arr 3 1 true (v3_1.map ic)])=some r) else (∃ (v4_0:List Int),Zkz v1_0=some (.own 0,[.arr 3 1 true (v4_0.map ic)])∧(if 0<(v4_0.length:Int) then (some (.tup [I k,.own 0,.own 1],[.arr 3 1 true (v4_0.map ic),.arr 3 1 true (([]:List Int).map ic)])=some r) else (Zgd m (w (k+1))=some r))))) else (some (.tup [I k,.own 0,.own 1],[.arr 3 1 true (([]:List Int).map ic),.arr 3 1 true (([]:List Int).map ic)])=some r)))) else (some (.tup [I 0,.own 0,.own 1],[.arr 3 1 true (([]:List Int).map ic),.arr 3 1 true (([]:List Int).map ic)])=some r))):Zgd m k=some r:=by
 unfold Zgd
 rw [EvL_eq Zq8.eq_1]
 simp only [Zcl,Zef,Zkw,Zkz,Zd.c_def,Zh.c_def,mpl,dfs] at h
 try simp only [itb] at h
 try simp only [itf,List.getElem?_eq_some_iff,kk] at h
 rcases h with ⟨q1,v1_0,q2,v2_0,q3,(⟨q4,v3_0,v3_1,v3_2,q5,(⟨q6,h⟩ | ⟨q6,v4_0,q7,(⟨q8,h⟩ | ⟨q8,h⟩)⟩)⟩ | ⟨q4,h⟩)⟩ | ⟨q1,h⟩
 all_goals (refine Eq.trans ?_ h;clear h;simp +decide [*,kk,Zgd,Zq9])
theorem Zbbx (a:Zd) (r:AV×List Blk) (h:(Zgd a 1=some r)):Znj a=some r:=by
 unfold Znj
 refine run Z8p rfl ?_
 refine Eq.trans ?_ h;clear h;simp +decide [*,kk,Zxy,Zgd]
end Go.Proofs.YtbapkgocloaaeaaGreat
/- part: G9 -/
namespace Go.Proofs.YtbapkgocloaaeaaGreat
open Go.AM
theorem Zbby (a:Zd) (r:AV×List Blk) (h:(∃ (v1_0:List Int) (v1_1:List Int) (v1_2:Int),Znj a=some (.tup [I v1_2,.own 0,.own 1],[.arr 3 1 true (v1_0.map ic),.arr 3 1 true (v1_1.map ic)])∧(some (Bo (decide (v1_2=0)),[])=some r))):Zk0 a=some r:=by
 unfold Zk0
 refine run Z8q rfl ?_
 simp only [Znj,Zd.c_def,Zh.c_def,mpl,dfs] at h
 rcases h with ⟨v1_0,v1_1,v1_2,q1,h⟩
 all_goals (refine Eq.trans ?_ h;clear h;simp +decide [*,kk,Zxz])
theorem Zbbz (a:ByteArray) (r:AV×List Blk) (h:(if (a.size:Int)=1 then (∃ (b1:UInt8),a[0]?=some b1∧(if 97≤(b1.toNat:Int) then (some (Bo (decide ((b1.toNat:Int)≤122)),[])=some r) else (some (Bo false,[])=some r))) else (some (Bo false,[])=some r))):Zk1 a=some r:=by
 unfold Zk1
 refine run Z8r rfl ?_
 try simp only [itb] at h
 try simp only [itf,List.getElem?_eq_some_iff,kk] at h
 rcases h with ⟨q1,b1,q2,(⟨q3,h⟩ | ⟨q3,h⟩)⟩ | ⟨q1,h⟩
 all_goals (refine Eq.trans ?_ h;clear h;simp +decide [*,kk,Zx0])
theorem Z02 (l:List Int) (x:Int) (i:Int) (r:AV×List Blk) (h:(if i<(l.length:Int) then (0≤i∧(∃ (e1:Int),l[i.toNat]?=some e1∧(if e1=x then (some (Bo true,[])=some r) else (Zhy l x (w (i+1))=some r)))) else (some (Bo false,[])=some r))):Zhy l x i=some r:=by
 unfold Zhy
 rw [EvL_eq Zra.eq_1]
 try simp only [itb] at h
 try simp only [itf,List.getElem?_eq_some_iff,kk] at h
 rcases h with ⟨q1,q2,e1,⟨g3,q3⟩,(⟨q4,h⟩ | ⟨q4,h⟩)⟩ | ⟨q1,h⟩
 all_goals (refine Eq.trans ?_ h;clear h;simp +decide [*,kk,Zhy,Zrb])
theorem Zbb0 (a:List Int) (a1:Int) (r:AV×List Blk) (h:(Zhy a a1 0=some r)):Zhx a a1=some r:=by
 unfold Zhx
 refine run Z8s rfl ?_
 refine Eq.trans ?_ h;clear h;simp +decide [*,kk,Zx1,Zhy]
theorem Z03 (q:Zc) (seen:Int) (i:Int) (r:AV×List Blk) (h:(if i<(q.Atoms.length:Int) then (0≤i∧(∃ (e1:Atom),q.Atoms[i.toNat]?=some e1∧(∃ (v2_0:Bool),Zk1 e1.Name=some (Bo v2_0,[])∧(if v2_0=true then (∃ (v3_0:Bool),Z0 (e1.Vars.length:Int) 1 3=some (Bo v3_0,[])∧(if v3_0=true then (Zhz q e1 seen i 0=some r) else (some (Bo false,[])=some r))) else (some (Bo false,[])=some r))))) else (¬ q.Ze<0∧(some (Bo (decide (seen=(w ((shlI 1 q.Ze) - 1)))),[])=some r)))):Zge q seen i=some r:=by
 unfold Zge
 rw [EvL_eq Znk.eq_1]
 simp only [Zk1,Z0,mpl,dfs] at h
 try simp only [itb] at h
 try simp only [itf,List.getElem?_eq_some_iff,kk] at h
 rcases h with ⟨q1,q2,e1,⟨g3,q3⟩,v2_0,q4,(⟨q5,v3_0,q6,(⟨q7,h⟩ | ⟨q7,h⟩)⟩ | ⟨q5,h⟩)⟩ | ⟨q1,q8,h⟩
 all_goals (refine Eq.trans ?_ h;clear h;simp +decide [*,kk,Zhz,Znl])
theorem Z04 (q:Zc) (a:Atom) (seen:Int) (i:Int) (k:Int) (r:AV×List Blk) (h:(if k<(a.Vars.length:Int) then (0≤k∧(∃ (e1:Int),a.Vars[k.toNat]?=some e1∧(∃ (v2_0:Bool),Z0 e1 0 (w (q.Ze - 1))=some (Bo v2_0,[])∧(if v2_0=true then (k.toNat≤a.Vars.length∧(∃ (v3_0:Bool),Zhx (a.Vars.take k.toNat) e1=some (Bo v3_0,[])∧(if v3_0=true then (some (Bo false,[])=some r) else (¬ e1<0∧(Zhz q a (orI seen (shlI 1 e1)) i (w (k+1))=some r))))) else (some (Bo false,[])=some r))))) else (Zge q seen (w (i+1))=some r))):Zhz q a seen i k=some r:=by
 unfold Zhz
 rw [EvL_eq Zrc.eq_1]
 simp only [Z0,Zhx,mpl,dfs] at h
 try simp only [itb] at h
 try simp only [itf,List.getElem?_eq_some_iff,kk] at h
 rcases h with ⟨q1,q2,e1,⟨g3,q3⟩,v2_0,q4,(⟨q5,q6,v3_0,q7,(⟨q8,h⟩ | ⟨q8,q9,h⟩)⟩ | ⟨q5,h⟩)⟩ | ⟨q1,h⟩
 all_goals (refine Eq.trans ?_ h;clear h;simp +decide [*,kk,Zhz,Zge,Zrd])
theorem Zbb1 (a:Zc) (r:AV×List Blk) (h:(∃ (v1_0:Bool),Z0 a.Ze 1 4=some (Bo v1_0,[])∧(if v1_0=true then (∃ (v2_0:Bool),Z0 (a.Atoms.length:Int) 1 4=some (Bo v2_0,[])∧(if v2_0=true then (Zge a 0 0=some r) else (some (Bo false,[])=some r))) else (some (Bo false,[])=some r)))):Zdu a=some r:=by
 unfold Zdu
 refine run Z8t rfl ?_
 simp only [Z0,mpl,dfs] at h
 try simp only [itb] at h
 try simp only [itf,List.getElem?_eq_some_iff,kk] at h
 rcases h with ⟨v1_0,q1,(⟨q2,v2_0,q3,(⟨q4,h⟩ | ⟨q4,h⟩)⟩ | ⟨q2,h⟩)⟩
 all_goals (refine Eq.trans ?_ h;clear h;simp +decide [*,kk,Zx2,Zge])
theorem Zbb2 (a:Zc) (r:AV×List Blk) (h:(∃ (v1_0:Bool),Zdu a=some (Bo v1_0,[])∧(if v1_0=true then (¬ (a.Atoms.length:Int)<0∧(some (I (w ((shlI 1 (a.Atoms.length:Int)) - 1)),[])=some r)) else (some (I 0,[])=some r)))):Zc3 a=some r:=by
 unfold Zc3
 refine run Z8u rfl ?_
 simp only [Zdu,Zc.c_def,mpl,dfs] at h
 try simp only [itb] at h
 try simp only [itf,List.getElem?_eq_some_iff,kk] at h
 rcases h with ⟨v1_0,q1,(⟨q2,q3,h⟩ | ⟨q2,h⟩)⟩
 all_goals (refine Eq.trans ?_ h;clear h;simp +decide [*,kk,Zx3])
theorem Zbb3 (a:Zc) (a1:Int) (r:AV×List Blk) (h:(∃ (v1_0:Bool),Zdu a=some (Bo v1_0,[])∧(if v1_0=true then (¬ (a.Atoms.length:Int)<0∧(∃ (v2_0:Bool),Z0 a1 0 (w ((shlI 1 (a.Atoms.length:Int)) - 1))=some (Bo v2_0,[])∧(some (Bo v2_0,[])=some r))) else (some (Bo false,[])=some r)))):Zh0 a a1=some r:=by
 unfold Zh0
 refine run Z8v rfl ?_
 simp only [Zdu,Z0,Zc.c_def,mpl,dfs] at h
 try simp only [itb] at h
 try simp only [itf,List.getElem?_eq_some_iff,kk] at h
 rcases h with ⟨v1_0,q1,(⟨q2,q3,v2_0,q4,h⟩ | ⟨q2,h⟩)⟩
 all_goals (refine Eq.trans ?_ h;clear h;simp +decide [*,kk,Zx4])
theorem Z05 (q:Zc) (mask:Int) (x:Int) (i:Int) (r:AV×List Blk) (h:(if i<(q.Atoms.length:Int) then (Zgf q mask x i 0=some r) else (some (I x,[])=some r))):Zfd q mask x i=some r:=by
 unfold Zfd
 rw [EvL_eq Znm.eq_1]
 try simp only [itb] at h
 try simp only [itf,List.getElem?_eq_some_iff,kk] at h
 rcases h with ⟨q1,h⟩ | ⟨q1,h⟩
 all_goals (refine Eq.trans ?_ h;clear h;simp +decide [*,kk,Zgf,Znn])
theorem Zsu (q:Zc) (mask:Int) (x:Int) (i:Int) (k:Int) (r:AV×List Blk) (h:(0≤i∧(∃ (e1:Atom),q.Atoms[i.toNat]?=some e1∧(if k<(e1.Vars.length:Int) then (¬ i<0∧(if (andI (shrI mask i) 1)=1 then (0≤k∧(∃ (e2:Int),e1.Vars[k.toNat]?=some e2∧(¬ e2<0∧(Zgf q mask (orI x (shlI 1 e2)) i (w (k+1))=some r)))) else (Zfd q mask x (w (i+1))=some r))) else (Zfd q mask x (w (i+1))=some r))))):Zgf q mask x i k=some r:=by
 unfold Zgf
 rw [EvL_eq Zre.eq_1]
 try simp only [itb] at h
 try simp only [itf,List.getElem?_eq_some_iff,kk] at h
 rcases h with ⟨q1,e1,⟨g2,q2⟩,(⟨q3,q4,(⟨q5,q6,e2,⟨g7,q7⟩,q8,h⟩ | ⟨q5,h⟩)⟩ | ⟨q3,h⟩)⟩
 all_goals (refine Eq.trans ?_ h;clear h;simp +decide [*,kk,Zgf,Zfd,Zrf])
theorem Zbb4 (a:Zc) (a1:Int) (r:AV×List Blk) (h:(Zfd a a1 0 0=some r)):Zca a a1=some r:=by
 unfold Zca
 refine run Z8w rfl ?_
 refine Eq.trans ?_ h;clear h;simp +decide [*,kk,Zx5,Zfd]
theorem Z06 (q:Zc) (mask:Int) (out:Int) (bits:Int) (i:Int) (r:AV×List Blk) (h:(if i<(q.Atoms.length:Int) then (¬ i<0∧(if (andI (shrI mask i) 1)=0 then (∃ (v1_0:Int),Zca q (shlI 1 i)=some (I v1_0,[])∧(if (andI v1_0 bits)=0 then (Zfe q mask out bits (w (i+1))=some r) else (Zfe q mask (orI out (shlI 1 i)) bits (w (i+1))=some r))) else (Zfe q mask out bits (w (i+1))=some r))) else (some (I out,[])=some r))):Zfe q mask out bits i=some r:=by
 unfold Zfe
 rw [EvL_eq Zrg.eq_1]
 simp only [Zca,Zc.c_def,mpl,dfs] at h
 try simp only [itb] at h
 try simp only [itf,List.getElem?_eq_some_iff,kk] at h
 rcases h with ⟨q1,q2,(⟨q3,v1_0,q4,(⟨q5,h⟩ | ⟨q5,h⟩)⟩ | ⟨q3,h⟩)⟩ | ⟨q1,h⟩
 all_goals (refine Eq.trans ?_ h;clear h;simp +decide [*,kk,Zfe,Zx6,Zrh])
theorem Zbb5 (a:Zc) (a1:Int) (r:AV×List Blk) (h:(∃ (v1_0:Int),Zca a a1=some (I v1_0,[])∧(Zfe a a1 0 v1_0 0=some r))):Zk2 a a1=some r:=by
 unfold Zk2
 refine run Z8x rfl ?_
 simp only [Zca,Zc.c_def,mpl,dfs] at h
 rcases h with ⟨v1_0,q1,h⟩
 all_goals (refine Eq.trans ?_ h;clear h;simp +decide [*,kk,Zx7,Zfe])
theorem Z07 (q:Zc) (mask:Int) (x:Int) (n:Int) (r:AV×List Blk) (h:(if n<(q.Atoms.length:Int) then (∃ (v1_0:Int),Zk2 q x=some (I v1_0,[])∧(Zh1 q mask (orI x (andI v1_0 mask)) (w (n+1))=some r)) else (some (Bo (decide (x=mask)),[])=some r))):Zh1 q mask x n=some r:=by
 unfold Zh1
 rw [EvL_eq Zri.eq_1]
 simp only [Zk2,Zc.c_def,mpl,dfs] at h
 try simp only [itb] at h
 try simp only [itf,List.getElem?_eq_some_iff,kk] at h
 rcases h with ⟨q1,v1_0,q2,h⟩ | ⟨q1,h⟩
 all_goals (refine Eq.trans ?_ h;clear h;simp +decide [*,kk,Zh1,Zrj])
theorem Zbb6 (a:Zc) (a1:Int) (r:AV×List Blk) (h:(Zh1 a a1 (andI a1 (w (0 - a1))) 0=some r)):Zeg a a1=some r:=by
 unfold Zeg
 refine run Z8y rfl ?_
 refine Eq.trans ?_ h;clear h;simp +decide [*,kk,Zx8,Zh1]
theorem Zbb7 (a:Zc) (a1:Int) (r:AV×List Blk) (h:(∃ (v1_0:Bool),Zh0 a a1=some (Bo v1_0,[])∧(if v1_0=true then (if 0<a1 then (∃ (v2_0:Bool),Zeg a a1=some (Bo v2_0,[])∧(some (Bo v2_0,[])=some r)) else (some (Bo false,[])=some r)) else (some (Bo false,[])=some r)))):Zh2 a a1=some r:=by
 unfold Zh2
 refine run Z8z rfl ?_
 simp only [Zh0,Zeg,Zc.c_def,mpl,dfs] at h
 try simp only [itb] at h
 try simp only [itf,List.getElem?_eq_some_iff,kk] at h
 rcases h with ⟨v1_0,q1,(⟨q2,(⟨q3,v2_0,q4,h⟩ | ⟨q3,h⟩)⟩ | ⟨q2,h⟩)⟩
 all_goals (refine Eq.trans ?_ h;clear h;simp +decide [*,kk,Zx9])
theorem Z08 (l:List Int) (i:Int) (r:AV×List Blk) (h:(if i<(l.length:Int) then (0≤i∧(∃ (e1:Int),l[i.toNat]?=some e1∧(∃ (v2_0:Bool),Z0 e1 0 7=some (Bo v2_0,[])∧(if v2_0=true then (Zh3 l (w (i+1))=some r) else (some (Bo false,[])=some r))))) else (some (Bo (decide ((l.length:Int)≤16)),[])=some r))):Zh3 l i=some r:=by
 unfold Zh3
 rw [EvL_eq Zrk.eq_1]
 simp only [Z0,mpl,dfs] at h
 try simp only [itb] at h
 try simp only [itf,List.getElem?_eq_some_iff,kk] at h
 rcases h with ⟨q1,q2,e1,⟨g3,q3⟩,v2_0,q4,(⟨q5,h⟩ | ⟨q5,h⟩)⟩ | ⟨q1,h⟩
 all_goals (refine Eq.trans ?_ h;clear h;simp +decide [*,kk,Zh3,Zrl])
theorem Zbb8 (a:List Int) (r:AV×List Blk) (h:(Zh3 a 0=some r)):Zgg a=some r:=by
 unfold Zgg
 refine run Z80 rfl ?_
 refine Eq.trans ?_ h;clear h;simp +decide [*,kk,Zya,Zh3]
theorem Z09 (a:List Int) (b:List Int) (i:Int) (r:AV×List Blk) (h:(if i<(a.length:Int) then (0≤i∧(∃ (e1:Int),a[i.toNat]?=some e1∧(∃ (e2:Int),b[i.toNat]?=some e2∧(if e1<e2 then (some (Bo false,[])=some r) else (Zh4 a b (w (i+1))=some r))))) else (some (Bo true,[])=some r))):Zh4 a b i=some r:=by
 unfold Zh4
 rw [EvL_eq Zrm.eq_1]
 try simp only [itb] at h
 try simp only [itf,List.getElem?_eq_some_iff,kk] at h
 rcases h with ⟨q1,q2,e1,⟨g3,q3⟩,e2,⟨g4,q4⟩,(⟨q5,h⟩ | ⟨q5,h⟩)⟩ | ⟨q1,h⟩
 all_goals (refine Eq.trans ?_ h;clear h;simp +decide [*,kk,Zh4,Zrn])
theorem Zbb9 (a:List Int) (a1:List Int) (r:AV×List Blk) (h:(if (a.length:Int)=(a1.length:Int) then (Zh4 a a1 0=some r) else (some (Bo false,[])=some r))):Zgh a a1=some r:=by
 unfold Zgh
 refine run Z81 rfl ?_
 try simp only [itb] at h
 try simp only [itf,List.getElem?_eq_some_iff,kk] at h
 rcases h with ⟨q1,h⟩ | ⟨q1,h⟩
 all_goals (refine Eq.trans ?_ h;clear h;simp +decide [*,kk,Zyb,Zh4])
theorem Zbca (a:Box) (r:AV×List Blk) (h:(if 0<(a.Low.length:Int) then (∃ (v1_0:Bool),Zgg a.Low=some (Bo v1_0,[])∧(if v1_0=true then (∃ (v2_0:Bool),Zgg a.High=some (Bo v2_0,[])∧(if v2_0=true then (∃ (v3_0:Bool),Zgh a.High a.Low=some (Bo v3_0,[])∧(some (Bo v3_0,[])=some r)) else (some (Bo false,[])=some r))) else (some (Bo false,[])=some r))) else (some (Bo false,[])=some r))):Zff a=some r:=by
 unfold Zff
 refine run Z82 rfl ?_
 simp only [Zgg,Zgh,mpl,dfs] at h
 try simp only [itb] at h
 try simp only [itf,List.getElem?_eq_some_iff,kk] at h
 rcases h with ⟨q1,v1_0,q2,(⟨q3,v2_0,q4,(⟨q5,v3_0,q6,h⟩ | ⟨q5,h⟩)⟩ | ⟨q3,h⟩)⟩ | ⟨q1,h⟩
 all_goals (refine Eq.trans ?_ h;clear h;simp +decide [*,kk,Zyc])
theorem Zbcb (a:Int) (a1:Int) (r:AV×List Blk) (h:(∃ (v1_0:Bool),Z0 a1 0 3=some (Bo v1_0,[])∧(if v1_0=true then (¬ a1<0∧(some (Bo (decide ((andI (shrI a a1) 1)=1)),[])=some r)) else (some (Bo false,[])=some r)))):Zfg a a1=some r:=by
 unfold Zfg
 refine run Z83 rfl ?_
 simp only [Z0,mpl,dfs] at h
 try simp only [itb] at h
 try simp only [itf,List.getElem?_eq_some_iff,kk] at h
 rcases h with ⟨v1_0,q1,(⟨q2,q3,h⟩ | ⟨q2,h⟩)⟩
 all_goals (refine Eq.trans ?_ h;clear h;simp +decide [*,kk,Zyd])
end Go.Proofs.YtbapkgocloaaeaaGreat
