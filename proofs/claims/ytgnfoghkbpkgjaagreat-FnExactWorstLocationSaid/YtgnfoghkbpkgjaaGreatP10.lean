/-
  Parts of the proofs for this seat: G3 G4 G5 G6 G7 G8 G9 G10 G11 G12.
-/
import Derived.Test.YtgnfoghkbpkgjaaGreatP9
set_option linter.unusedSimpArgs false
set_option linter.unusedVariables false
set_option maxRecDepth 100000
set_option maxHeartbeats 4000000
namespace Go.Proofs.YtgnfoghkbpkgjaaGreat
open Go.AM
theorem Zdm:(∀ o x x1 x2 r,Im (Zft o x x1 x2=some r) (if x2<x1 then (0≤x2∧(∃ e1,x[x2.toNat]?=some e1∧(Zde o x e1 x1 x2 (e1.length:Int) 0=some r))) else (some (.tup [.t .nil,.t .nil,Bo false],[])=some r))) ∧
 (∀ o x t x1 x2 x3 x4 r,Im (Zde o x t x1 x2 x3 x4=some r) (if x4<x3 then (0≤x4∧(∃ e1,t[x4.toNat]?=some e1∧(if e1=7 then (Zde o x t x1 x2 x3 (w (x4+1))=some r) else (∃ (v2_0:List Int),Zg5 t=some (.own 0,[.arr 3 1 true (v2_0.map ic)])∧(∃ e3,v2_0[x4.toNat]?=some e3∧(∃ v4_0,Zd6 o (v2_0.set x4.toNat (w (e3+1)))=some (I v4_0,[])∧(∃ v5_0,Zd6 o t=some (I v5_0,[])∧(if v4_0<v5_0 then (some (.tup [L 1 (t.map ic),.own 0,Bo true],[.arr 3 1 true ((v2_0.set x4.toNat (w (e3+1))).map ic)])=some r) else (Zde o x t x1 x2 x3 (w (x4+1))=some r))))))))) else (Zft o x x1 (w (x2+1))=some r))) ∧
 (∀ a r,Im (Zbk a=some r) (∃ v1_0,Zbp a=some (Bo v1_0,[])∧(if v1_0=true then (∃ (v2_0:List (List Int)),Zcp=some (.own 0,[.arr 30 1 true (v2_0.map isc)])∧(Zft a v2_0 (v2_0.length:Int) 0=some r)) else (some (.tup [.t .nil,.t .nil,Bo false],[])=some r)))) ∧
 (∀ o x kind x1 x2 x3 x4 r,Im (Zfw o x kind x1 x2 x3 x4=some r) (if x4<x3 then (0≤x4∧(∃ e1,x[x4.toNat]?=some e1∧(∃ v2_0,Zd6 o.Scan e1=some (I v2_0,[])∧(if v2_0<1 then (some (.tup [I kind,L 1 (e1.map ic),.t .nil],[])=some r) else (Zfw o x kind x1 x2 x3 (w (x4+1))=some r))))) else (Z9 o x1 (w (x2+1))=some r))) ∧
 (∀ o x kind x1 x2 x3 x4 r,Im (Zfx o x kind x1 x2 x3 x4=some r) (if x4<x3 then (0≤x4∧(∃ e1,x[x4.toNat]?=some e1∧(∃ v2_0,Zd6 o.Sort_ e1=some (I v2_0,[])∧(if v2_0<1 then (some (.tup [I kind,L 1 (e1.map ic),.t .nil],[])=some r) else (Zfx o x kind x1 x2 x3 (w (x4+1))=some r))))) else (Z9 o x1 (w (x2+1))=some r))) ∧
 (∀ o x kind x1 x2 x3 x4 r,Im (Zfy o x kind x1 x2 x3 x4=some r) (if x4<x3 then (0≤x4∧(∃ e1,x[x4.toNat]?=some e1∧(∃ v2_0,Zd6 o.Hash e1=some (I v2_0,[])∧(if v2_0<1 then (some (.tup [I kind,L 1 (e1.map ic),.t .nil],[])=some r) else (Zfy o x kind x1 x2 x3 (w (x4+1))=some r))))) else (Z9 o x1 (w (x2+1))=some r))) ∧
 (∀ o x kind x1 x2 x3 x4 r,Im (Zfz o x kind x1 x2 x3 x4=some r) (if x4<x3 then (0≤x4∧(∃ e1,x[x4.toNat]?=some e1∧(∃ v2_0,Zd6 o.Merge e1=some (I v2_0,[])∧(if v2_0<1 then (some (.tup [I kind,L 1 (e1.map ic),.t .nil],[])=some r) else (Zfz o x kind x1 x2 x3 (w (x4+1))=some r))))) else (Z9 o x1 (w (x2+1))=some r))) ∧
 (∀ o x kind x1 x2 x3 x4 r,Im (Zf0 o x kind x1 x2 x3 x4=some r) (if x4<x3 then (0≤x4∧(∃ e1,x[x4.toNat]?=some e1∧(∃ v2_0,Zd6 o.Nested e1=some (I v2_0,[])∧(if v2_0<1 then (some (.tup [I kind,L 1 (e1.map ic),.t .nil],[])=some r) else (Zf0 o x kind x1 x2 x3 (w (x4+1))=some r))))) else (Z9 o x1 (w (x2+1))=some r))) ∧
 (∀ a r,Im (Zit a=some r) (Zel a=some (.bsl 1 5,[.box (a.c.map .t),.box [.ptr 0 0,.ptr 0 6,.ptr 0 12,.ptr 0 18,.ptr 0 24]])∧(Z9 a 5 0=some r))) ∧
 (∀ a r,Im (Ziu a=some r) ((∃ (v1_0:List Int),∃ v1_1,∃ (v1_2:List Int),Zit a=some (.tup [I v1_1,L 1 (v1_2.map ic),.own 0],[.arr 3 1 true (v1_0.map ic)])∧(some (Bo (decide (v1_1=0)),[])=some r))∨(∃ v2_0,Zit a=some (.tup [I v2_0,.t .nil,.t .nil],[])∧(some (Bo (decide (v2_0=0)),[])=some r))∨(∃ v3_0,∃ (v3_1:List Int),Zit a=some (.tup [I v3_0,L 1 (v3_1.map ic),.t .nil],[])∧(some (Bo (decide (v3_0=0)),[])=some r)))) ∧
 (∀ a a1 a2 r,Im (Zk9 a a1 a2=some r) (∃ v1_0,Zk5 a1 a2=some (Bo v1_0,[])∧(if v1_0=true then (∃ v2_0,Zcd a1=some (I v2_0,[])∧(∃ v3_0,Zg3 a1 v2_0=some (Bo v3_0,[])∧(if v3_0=true then (∃ v4_0,Ziu a=some (Bo v4_0,[])∧(some (Bo v4_0,[])=some r)) else (some (Bo false,[])=some r)))) else (some (Bo false,[])=some r)))) ∧
 (∀ out location x x1 x2 r,Im (Zf1 out location x x1 x2=some r) (if x2<x1 then (0≤x2∧(∃ e1,x[x2.toNat]?=some e1∧(∃ v2_0,Zfa e1=some (I v2_0,[])∧(out.length+1≤68719476736∧(Zf1 (out++[v2_0]) location x x1 (w (x2+1))=some r))))) else (∃ v3_0,Zfr location=some (Bo v3_0,[])∧(if v3_0=true then (some (.own 0,[.arr 3 1 true (out.map ic)])=some r) else (some (.t .nil,[])=some r))))):=by
 and_intros
 all_goals intros
 all_goals unfold Im
 all_goals try simp only [Zft,Zde,Zbk,Zfw,Zfx,Zfy,Zfz,Zf0,Zit,Ziu,Zk9,Zf1,Zg5,Zd6,Zi.c_def,Zbp,Zcp,Zel,Zd.c_def,Zk5,Zcd,Zg3,Zh.c_def,Box.c_def,Zc.c_def,Zfa,Zfr,Z9,mpl,dfs]
 all_goals try simp only [itb]
 all_goals try simp only [itf,gS,kk]
 all_goals repeat' first | refine exI fun _=>?_ | refine anJ fun _ _=>?_ | refine anI fun _=>?_ | refine orE2 ?_ ?_ | exact False.elim
 all_goals (intro h;first | rw [EvL_eq Zor.eq_1] | rw [EvL_eq Zsx.eq_1] | refine run Zbco rfl ?_ | rw [EvL_eq Zg7.eq_1] | refine run Zbcp rfl ?_ | refine run Zbcq rfl ?_ | refine run Zbcr rfl ?_ | rw [EvL_eq Zsz.eq_1])
 all_goals (refine Eq.trans ?_ h;clear h;simp +decide [*,kk,Zos,Zzf,Zsy,Zzg,Zg8,Zzh,Zzi,Zzj,Zs0])
abbrev Z3p:=Zdm.1
abbrev Zv9:=Zdm.2.1
abbrev Zbf9:=Zdm.2.2.1
abbrev Z3q:=Zdm.2.2.2.1
abbrev Z3r:=Zdm.2.2.2.2.1
abbrev Z3s:=Zdm.2.2.2.2.2.1
abbrev Z3t:=Zdm.2.2.2.2.2.2.1
abbrev Z3u:=Zdm.2.2.2.2.2.2.2.1
abbrev Zbga:=Zdm.2.2.2.2.2.2.2.2.1
abbrev Zbgb:=Zdm.2.2.2.2.2.2.2.2.2.1
abbrev Zbgc:=Zdm.2.2.2.2.2.2.2.2.2.2.1
abbrev Zwa:=Zdm.2.2.2.2.2.2.2.2.2.2.2
theorem Zm1:(∀ a r,Im (Zfb a=some r) (Zf1 ([]:List Int) a a (a.length:Int) 0=some r)) ∧
 (∀ q sizes x x1 x2 r,Im (Zla q sizes x x1 x2=some r) (if x2<x1 then (0≤x2∧(∃ e1,x[x2.toNat]?=some e1∧(∃ v2_0,Zw e1 0 4096=some (Bo v2_0,[])∧(if v2_0=true then (Zla q sizes x x1 (w (x2+1))=some r) else (some (Bo false,[])=some r))))) else (∃ v3_0,Zdd q=some (Bo v3_0,[])∧(if v3_0=true then (∃ v4_0,Zcd q=some (I v4_0,[])∧(some (Bo (decide ((sizes.length:Int)=(w (v4_0+1)))),[])=some r)) else (some (Bo false,[])=some r))))) ∧
 (∀ a a1 r,Im (Zg9 a a1=some r) (Zla a a1 a1 (a1.length:Int) 0=some r)) ∧
 (∀ q out mask r,Im (Ziv q out mask=some r) (∃ v1_0,Zcd q=some (I v1_0,[])∧(if mask≤v1_0 then (∃ v2_0,Zek q mask=some (Bo v2_0,[])∧(if v2_0=true then (out.length+1≤68719476736∧(Ziv q (out++[mask]) (w (mask+1))=some r)) else (Ziv q out (w (mask+1))=some r))) else (some (.own 0,[.arr 3 1 true (out.map ic)])=some r)))) ∧
 (∀ a r,Im (Zlb a=some r) (Ziv a ([]:List Int) 1=some r)):=by
 and_intros
 all_goals intros
 all_goals unfold Im
 all_goals try simp only [Zfb,Zla,Zg9,Ziv,Zlb,Zw,Zdd,Zcd,Zc.c_def,Zek,Zf1,mpl,dfs]
 all_goals try simp only [itb]
 all_goals try simp only [itf,gS,kk]
 all_goals repeat' first | refine exI fun _=>?_ | refine anJ fun _ _=>?_ | refine anI fun _=>?_ | refine orE2 ?_ ?_ | exact False.elim
 all_goals (intro h;first | refine run Zbcs rfl ?_ | rw [EvL_eq Zs1.eq_1] | refine run Zbct rfl ?_ | rw [EvL_eq Zs3.eq_1] | refine run Zbcu rfl ?_)
 all_goals (refine Eq.trans ?_ h;clear h;simp +decide [*,kk,Zzk,Zs2,Zzl,Zzm,Zs4,Zzn])
abbrev Z3v:=Zm1.1
abbrev Z3w:=Zm1.2.1
abbrev Zbgd:=Zm1.2.2.1
abbrev Z3x:=Zm1.2.2.2.1
abbrev Zbge:=Zm1.2.2.2.2
theorem Zj6 (x:Zd) (x1:Int) (x2:Int) (r:AV×List Blk) (h:(if x2<x1 then (if x2=0 then (∃ (v1_0:Bool),Zbp x.Scan=some (Bo v1_0,[])∧(if v1_0=true then ((Zbk x.Scan=some (.tup [.t .nil,.t .nil,Bo false],[])∧(∃ (v3_0:List (List Int)),Zcp=some (.own 0,[.arr 30 1 true (v3_0.map isc)])∧(Zfw x v3_0 (w (1+x2)) x1 x2 (v3_0.length:Int) 0=some r)))∨(∃ (v4_0:List Int) (v4_1:List Int),Zbk x.Scan=some (.tup [L 1 (v4_1.map ic),.own 0,Bo true],[.arr 3 1 true (v4_0.map ic)])∧(some (.tup [I (w (1+x2)),L 1 (v4_1.map ic),.own 0],[.arr 3 1 true (v4_0.map ic)])=some r))) else (some (.tup [I (w (1+x2)),.t .nil,.t .nil],[])=some r))) else (if x2=1 then (∃ (v5_0:Bool),Zbp x.Sort_=some (Bo v5_0,[])∧(if v5_0=true then ((Zbk x.Sort_=some (.tup [.t .nil,.t .nil,Bo false],[])∧(∃ (v7_0:List (List Int)),Zcp=some (.own 0,[.arr 30 1 true (v7_0.map isc)])∧(Zfx x v7_0 (w (1+x2)) x1 x2 (v7_0.length:Int) 0=some r)))∨(∃ (v8_0:List Int) (v8_1:List Int),Zbk x.Sort_=some (.tup [L 1 (v8_1.map ic),.own 0,Bo true],[.arr 3 1 true (v8_0.map ic)])∧(some (.tup [I (w (1+x2)),L 1 (v8_1.map ic),.own 0],[.arr 3 1 true (v8_0.map ic)])=some r))) else (some (.tup [I (w (1+x2)),.t .nil,.t .nil],[])=some r))) else (if x2=2 then (∃ (v9_0:Bool),Zbp x.Hash=some (Bo v9_0,[])∧(if v9_0=true then ((Zbk x.Hash=some (.tup [.t .nil,.t .nil,Bo false],[])∧(∃ (v11_0:List (List Int)),Zcp=some (.own 0,[.arr 30 1 true (v11_0.map isc)])∧(Zfy x v11_0 (w (1+x2)) x1 x2 (v11_0.length:Int) 0=some r)))∨(∃ (v12_0:List Int) (v12_1:List Int),Zbk x.Hash=some (.tup [L 1 (v12_1.map ic),.own 0,Bo true],[.arr 3 1 true (v12_0.map ic)])∧(some (.tup [I (w (1+x2)),L 1 (v12_1.map ic),.own 0],[.arr 3 1 true (v12_0.map ic)])=some r))) else (some (.tup [I (w (1+x2)),.t .nil,.t .nil],[])=some r))) else (if x2=3 then (∃ (v13_0:Bool),Zbp x.Merge=some (Bo v13_0,[])∧(if v13_0=true then ((Zbk x.Merge=some (.tup [.t .nil,.t .nil,Bo false],[])∧(∃ (v15_0:List (List Int)),Zcp=some (.own 0,[.arr 30 1 true (v15_0.map isc)])∧(Zfz x v15_0 (w (1+x2)) x1 x2 (v15_0.length:Int) 0=some r)))∨(∃ (v16_0:List Int) (v16_1:List Int),Zbk x.Merge=some (.tup [L 1 (v16_1.map ic),.own 0,Bo true],[.arr 3 1 true (v16_0.map ic)])∧(some (.tup [I (w (1+x2)),L 1 (v16_1.map ic),.own 0],[.arr 3 1 true (v16_0.map ic)])=some r))) else (some (.tup [I (w (1+x2)),.t .nil,.t .nil],[])=some r))) else (if x2=4 then (∃ (v17_0:Bool),Zbp x.Nested=some (Bo v17_0,[])∧(if v17_0=true then ((Zbk x.Nested=some (.tup [.t .nil,.t .nil,Bo false],[])∧(∃ (v19_0:List (List Int)),Zcp=some (.own 0,[.arr 30 1 true (v19_0.map isc)])∧(Zf0 x v19_0 (w (1+x2)) x1 x2 (v19_0.length:Int) 0=some r)))∨(∃ (v20_0:List Int) (v20_1:List Int),Zbk x.Nested=some (.tup [L 1 (v20_1.map ic),.own 0,Bo true],[.arr 3 1 true (v20_0.map ic)])∧(some (.tup [I (w (1+x2)),L 1 (v20_1.map ic),.own 0],[.arr 3 1 true (v20_0.map ic)])=some r))) else (some (.tup [I (w (1+x2)),.t .nil,.t .nil],[])=some r))) else False))))) else (some (.tup [I 0,.t .nil,.t .nil],[])=some r))):Z9 x x1 x2=some r:=by
 unfold Z9
 rw [EvL_eq Zfu.eq_1]
 by_cases q1:x2<x1
 ·rw [if_pos q1] at h
  by_cases q2:x2=0
  ·rw [if_pos q2] at h
   subst q2
   obtain ⟨v1_0,q3,h⟩:=h
   unfold Zbp at q3
   try simp at q3
   by_cases q4:v1_0=true
   ·rw [if_pos q4] at h
    rcases h with h | h
    ·
     obtain ⟨q5,h⟩:=h
     unfold Zbk at q5
     try simp at q5
     obtain ⟨v3_0,q6,h⟩:=h
     unfold Zcp at q6
     try simp at q6
     refine Eq.trans ?_ h
     clear h
     simp +decide [*,Zfw]
    ·
     obtain ⟨v4_0,v4_1,q7,h⟩:=h
     unfold Zbk at q7
     try simp at q7
     refine Eq.trans ?_ h
     clear h
     simp +decide [*]
   ·rw [if_neg q4] at h
    refine Eq.trans ?_ h
    clear h
    simp +decide [*]
  ·rw [if_neg q2] at h
   replace q2:=eq_false q2
   by_cases q8:x2=1
   ·rw [if_pos q8] at h
    subst q8
    obtain ⟨v5_0,q9,h⟩:=h
    unfold Zbp at q9
    try simp at q9
    by_cases q10:v5_0=true
    ·rw [if_pos q10] at h
     rcases h with h | h
     ·
      obtain ⟨q11,h⟩:=h
      unfold Zbk at q11
      try simp at q11
      obtain ⟨v7_0,q12,h⟩:=h
      unfold Zcp at q12
      try simp at q12
      refine Eq.trans ?_ h
      clear h
      simp +decide [*,Zfx]
     ·
      obtain ⟨v8_0,v8_1,q13,h⟩:=h
      unfold Zbk at q13
      try simp at q13
      refine Eq.trans ?_ h
      clear h
      simp +decide [*]
    ·rw [if_neg q10] at h
     refine Eq.trans ?_ h
     clear h
     simp +decide [*]
   ·rw [if_neg q8] at h
    replace q8:=eq_false q8
    by_cases q14:x2=2
    ·rw [if_pos q14] at h
     subst q14
     obtain ⟨v9_0,q15,h⟩:=h
     unfold Zbp at q15
     try simp at q15
     by_cases q16:v9_0=true
     ·rw [if_pos q16] at h
      rcases h with h | h
      ·
       obtain ⟨q17,h⟩:=h
       unfold Zbk at q17
       try simp at q17
       obtain ⟨v11_0,q18,h⟩:=h
       unfold Zcp at q18
       try simp at q18
       refine Eq.trans ?_ h
       clear h
       simp +decide [*,Zfy]
      ·
       obtain ⟨v12_0,v12_1,q19,h⟩:=h
       unfold Zbk at q19
       try simp at q19
       refine Eq.trans ?_ h
       clear h
       simp +decide [*]
     ·rw [if_neg q16] at h
      refine Eq.trans ?_ h
      clear h
      simp +decide [*]
    ·rw [if_neg q14] at h
     replace q14:=eq_false q14
     by_cases q20:x2=3
     ·rw [if_pos q20] at h
      subst q20
      obtain ⟨v13_0,q21,h⟩:=h
      unfold Zbp at q21
      try simp at q21
      by_cases q22:v13_0=true
      ·rw [if_pos q22] at h
       rcases h with h | h
       ·
        obtain ⟨q23,h⟩:=h
        unfold Zbk at q23
        try simp at q23
        obtain ⟨v15_0,q24,h⟩:=h
        unfold Zcp at q24
        try simp at q24
        refine Eq.trans ?_ h
        clear h
        simp +decide [*,Zfz]
       ·
        obtain ⟨v16_0,v16_1,q25,h⟩:=h
        unfold Zbk at q25
        try simp at q25
        refine Eq.trans ?_ h
        clear h
        simp +decide [*]
      ·rw [if_neg q22] at h
       refine Eq.trans ?_ h
       clear h
       simp +decide [*]
     ·rw [if_neg q20] at h
      replace q20:=eq_false q20
      by_cases q26:x2=4
      ·rw [if_pos q26] at h
       subst q26
       obtain ⟨v17_0,q27,h⟩:=h
       unfold Zbp at q27
       try simp at q27
       by_cases q28:v17_0=true
       ·rw [if_pos q28] at h
        rcases h with h | h
        ·
         obtain ⟨q29,h⟩:=h
         unfold Zbk at q29
         try simp at q29
         obtain ⟨v19_0,q30,h⟩:=h
         unfold Zcp at q30
         try simp at q30
         refine Eq.trans ?_ h
         clear h
         simp +decide [*,Zf0]
        ·
         obtain ⟨v20_0,v20_1,q31,h⟩:=h
         unfold Zbk at q31
         try simp at q31
         refine Eq.trans ?_ h
         clear h
         simp +decide [*]
       ·rw [if_neg q28] at h
        refine Eq.trans ?_ h
        clear h
        simp +decide [*]
      ·rw [if_neg q26] at h
       replace q26:=eq_false q26
       cases h
 ·rw [if_neg q1] at h
  refine Eq.trans ?_ h
  clear h
  simp +decide [*,Zfv]
theorem Zge:(∀ out mask i r,Im (Zix out mask i=some r) (if i<4 then (¬ i<0∧(if (andI (shrI mask i) 1)=1 then (out.length+1≤68719476736∧(Zix (out++[i]) mask (w (i+1))=some r)) else (Zix out mask (w (i+1))=some r))) else (some (.own 0,[.arr 3 1 true (out.map ic)])=some r))) ∧
 (∀ a r,Im (Ziw a=some r) (∃ v1_0,Zw a 0 15=some (Bo v1_0,[])∧(if v1_0=true then (Zix ([]:List Int) a 0=some r) else (some (.t .nil,[])=some r)))) ∧
 (∀ a r,Im (Zlc a=some r) (some (.agg [.own 0],[.arr 194 3 true (([(⟨1,a,0⟩:Zb)]).map Zb.c)])=some r)) ∧
 (∀ a a1 a2 a3 r,Im (Zbm a a1 a2 a3=some r) (∃ v1_0,Zbp a=some (Bo v1_0,[])∧(if v1_0=true then (∃ v2_0,Zw a1 0 4096=some (Bo v2_0,[])∧(if v2_0=true then (∃ v3_0,Zw a2 0 4096=some (Bo v3_0,[])∧(if v3_0=true then (∃ v4_0,Zw a3 0 4096=some (Bo v4_0,[])∧(if v4_0=true then (∃ v5_0,Zis a a1 a2 a3=some (I v5_0,[])∧(some (I v5_0,[])=some r)) else (some (I 0,[])=some r))) else (some (I 0,[])=some r))) else (some (I 0,[])=some r))) else (some (I 0,[])=some r)))) ∧
 (∀ m info out sizes x x1 x2 r,Im (Zbe m info out sizes x x1 x2=some r) (if x2<x1 then (0≤x2∧(∃ e1,x[x2.toNat]?=some e1∧(∃ e2,info[x2.toNat]?=some e2∧(0≤e2.Mask∧(∃ e3,sizes[e2.Mask.toNat]?=some e3∧(if 0≤e2.Left then (∃ e4,info[e2.Left.toNat]?=some e4∧(0≤e4.Mask∧(∃ e5,sizes[e4.Mask.toNat]?=some e5∧(if 0≤e2.Right then (∃ e6,info[e2.Right.toNat]?=some e6∧(0≤e6.Mask∧(∃ e7,sizes[e6.Mask.toNat]?=some e7∧(Ziy m info out e1 sizes x2 e5 e7 x x1 x2=some r)))) else (Ziz m info out e1 sizes x2 e5 0 x x1 x2 false=some r))))) else (if 0≤e2.Right then (∃ e8,info[e2.Right.toNat]?=some e8∧(0≤e8.Mask∧(∃ e9,sizes[e8.Mask.toNat]?=some e9∧(Ziy m info out e1 sizes x2 e3 e9 x x1 x2=some r)))) else (Ziz m info out e1 sizes x2 e3 0 x x1 x2 false=some r)))))))) else (some (.own 0,[.arr 3 1 true (out.map ic)])=some r))) ∧
 (∀ a a1 a2 a3 r,Im (Zha a a1 a2 a3=some r) ((Ze9 a1 a2=some (.tup [.t .nil,Bo false],[])∧(some (.t .nil,[])=some r))∨(∃ (v2_0:List Zg),Ze9 a1 a2=some (.tup [.own 0,Bo true],[.arr 209 4 true (v2_0.map Zg.c)])∧(∃ v3_0,Zg9 a1 a3=some (Bo v3_0,[])∧(if v3_0=true then (Zbe a v2_0 ([]:List Int) a3 a2.Steps (a2.Steps.length:Int) 0=some r) else (some (.t .nil,[])=some r)))))) ∧
 (∀ n x x1 x2 r,Im (Zlh n x x1 x2=some r) (if x2<x1 then (0≤x2∧(∃ e1,x[x2.toNat]?=some e1∧(Zlh (w (n+e1)) x x1 (w (x2+1))=some r))) else (some (I n,[])=some r))) ∧
 (∀ a r,Im (Zlg a=some r) (Zlh 0 a (a.length:Int) 0=some r)):=by
 and_intros
 all_goals intros
 all_goals unfold Im
 all_goals try simp only [Zix,Ziw,Zlc,Zbm,Zbe,Zha,Zlh,Zlg,Zw,Zbp,Zis,Zi.c_def,Ze9,Zg9,Plan.c_def,Zc.c_def,Ziy,Ziz,mpl,dfs]
 all_goals try simp only [itb]
 all_goals try simp only [itf,gS,kk]
 all_goals repeat' first | refine exI fun _=>?_ | refine anJ fun _ _=>?_ | refine anI fun _=>?_ | refine orE2 ?_ ?_ | exact False.elim
 all_goals (intro h;first | rw [EvL_eq Zs5.eq_1] | refine run Zbcv rfl ?_ | refine run Zbcw rfl ?_ | refine run Zbcx rfl ?_ | rw [EvL_eq Zle.eq_1] | refine run Zbcy rfl ?_ | rw [EvL_eq Zs7.eq_1] | refine run Zbcz rfl ?_)
 all_goals (refine Eq.trans ?_ h;clear h;simp +decide [*,kk,Zzo,Zs6,Zzp,Zzq,Zzr,Zzs,Zlf,Zzt,Zs8,Zzu])
abbrev Z3y:=Zge.1
abbrev Zbgf:=Zge.2.1
abbrev Zbgg:=Zge.2.2.1
abbrev Zbgh:=Zge.2.2.2.1
abbrev Z3z:=Zge.2.2.2.2.1
abbrev Zwb:=Zge.2.2.2.2.2.1
abbrev Z30:=Zge.2.2.2.2.2.2.1
abbrev Zbgi:=Zge.2.2.2.2.2.2.2
theorem Zbgj (m:Zd) (info:List Zg) (out:List Int) (x:Zb) (sizes:List Int) (i:Int) (left:Int) (right:Int) (x1:List Zb) (x2:Int) (x3:Int) (r:AV×List Blk) (h:(Zel m=some (.bsl 1 5,[.box (m.c.map .t),.box [.ptr 0 0,.ptr 0 6,.ptr 0 12,.ptr 0 18,.ptr 0 24]])∧(if (w (x.Kind - 1))=0 then (0≤i∧(∃ (e2:Zg),info[i.toNat]?=some e2∧(0≤e2.Mask∧(∃ (e3:Int),sizes[e2.Mask.toNat]?=some e3∧(∃ (v4_0:Int),Zbm m.Scan left right e3=some (I v4_0,[])∧(out.length+1≤68719476736∧(Zbe m info (out++[v4_0]) sizes x1 x2 (w (x3+1))=some r))))))) else (if (w (x.Kind - 1))=1 then (0≤i∧(∃ (e5:Zg),info[i.toNat]?=some e5∧(0≤e5.Mask∧(∃ (e6:Int),sizes[e5.Mask.toNat]?=some e6∧(∃ (v7_0:Int),Zbm m.Sort_ left right e6=some (I v7_0,[])∧(out.length+1≤68719476736∧(Zbe m info (out++[v7_0]) sizes x1 x2 (w (x3+1))=some r))))))) else (if (w (x.Kind - 1))=2 then (0≤i∧(∃ (e8:Zg),info[i.toNat]?=some e8∧(0≤e8.Mask∧(∃ (e9:Int),sizes[e8.Mask.toNat]?=some e9∧(∃ (v10_0:Int),Zbm m.Hash left right e9=some (I v10_0,[])∧(out.length+1≤68719476736∧(Zbe m info (out++[v10_0]) sizes x1 x2 (w (x3+1))=some r))))))) else (if (w (x.Kind - 1))=3 then (0≤i∧(∃ (e11:Zg),info[i.toNat]?=some e11∧(0≤e11.Mask∧(∃ (e12:Int),sizes[e11.Mask.toNat]?=some e12∧(∃ (v13_0:Int),Zbm m.Merge left right e12=some (I v13_0,[])∧(out.length+1≤68719476736∧(Zbe m info (out++[v13_0]) sizes x1 x2 (w (x3+1))=some r))))))) else (if (w (x.Kind - 1))=4 then (0≤i∧(∃ (e14:Zg),info[i.toNat]?=some e14∧(0≤e14.Mask∧(∃ (e15:Int),sizes[e14.Mask.toNat]?=some e15∧(∃ (v16_0:Int),Zbm m.Nested left right e15=some (I v16_0,[])∧(out.length+1≤68719476736∧(Zbe m info (out++[v16_0]) sizes x1 x2 (w (x3+1))=some r))))))) else False))))))):Ziy m info out x sizes i left right x1 x2 x3=some r:=by
 unfold Ziy
 rw [Ev_eq Zld.eq_1]
 obtain ⟨q1,h⟩:=h
 unfold Zel at q1
 try simp at q1
 by_cases q2:(w (x.Kind - 1))=0
 ·rw [if_pos q2] at h
  obtain ⟨q3,h⟩:=h
  obtain ⟨e2,q4,h⟩:=h
  have gq4:=ltOfGet q4
  have kq4:=getOf q4
  obtain ⟨q5,h⟩:=h
  obtain ⟨e3,q6,h⟩:=h
  have gq6:=ltOfGet q6
  have kq6:=getOf q6
  obtain ⟨v4_0,q7,h⟩:=h
  unfold Zbm at q7
  try simp at q7
  obtain ⟨q8,h⟩:=h
  have rq8:=roomA (b:=8) q8 (by omega)
  have sq8:=roomB q8
  try simp [*] at rq8
  try simp [*] at sq8
  refine Eq.trans ?_ h
  clear h
  simp +decide [*,Zbe]
 ·rw [if_neg q2] at h
  replace q2:=eq_false q2
  by_cases q9:(w (x.Kind - 1))=1
  ·rw [if_pos q9] at h
   obtain ⟨q10,h⟩:=h
   obtain ⟨e5,q11,h⟩:=h
   have gq11:=ltOfGet q11
   have kq11:=getOf q11
   obtain ⟨q12,h⟩:=h
   obtain ⟨e6,q13,h⟩:=h
   have gq13:=ltOfGet q13
   have kq13:=getOf q13
   obtain ⟨v7_0,q14,h⟩:=h
   unfold Zbm at q14
   try simp at q14
   obtain ⟨q15,h⟩:=h
   have rq15:=roomA (b:=8) q15 (by omega)
   have sq15:=roomB q15
   try simp [*] at rq15
   try simp [*] at sq15
   refine Eq.trans ?_ h
   clear h
   simp +decide [*,Zbe]
  ·rw [if_neg q9] at h
   replace q9:=eq_false q9
   by_cases q16:(w (x.Kind - 1))=2
   ·rw [if_pos q16] at h
    obtain ⟨q17,h⟩:=h
    obtain ⟨e8,q18,h⟩:=h
    have gq18:=ltOfGet q18
    have kq18:=getOf q18
    obtain ⟨q19,h⟩:=h
    obtain ⟨e9,q20,h⟩:=h
    have gq20:=ltOfGet q20
    have kq20:=getOf q20
    obtain ⟨v10_0,q21,h⟩:=h
    unfold Zbm at q21
    try simp at q21
    obtain ⟨q22,h⟩:=h
    have rq22:=roomA (b:=8) q22 (by omega)
    have sq22:=roomB q22
    try simp [*] at rq22
    try simp [*] at sq22
    refine Eq.trans ?_ h
    clear h
    simp +decide [*,Zbe]
   ·rw [if_neg q16] at h
    replace q16:=eq_false q16
    by_cases q23:(w (x.Kind - 1))=3
    ·rw [if_pos q23] at h
     obtain ⟨q24,h⟩:=h
     obtain ⟨e11,q25,h⟩:=h
     have gq25:=ltOfGet q25
     have kq25:=getOf q25
     obtain ⟨q26,h⟩:=h
     obtain ⟨e12,q27,h⟩:=h
     have gq27:=ltOfGet q27
     have kq27:=getOf q27
     obtain ⟨v13_0,q28,h⟩:=h
     unfold Zbm at q28
     try simp at q28
     obtain ⟨q29,h⟩:=h
     have rq29:=roomA (b:=8) q29 (by omega)
     have sq29:=roomB q29
     try simp [*] at rq29
     try simp [*] at sq29
     refine Eq.trans ?_ h
     clear h
     simp +decide [*,Zbe]
    ·rw [if_neg q23] at h
     replace q23:=eq_false q23
     by_cases q30:(w (x.Kind - 1))=4
     ·rw [if_pos q30] at h
      obtain ⟨q31,h⟩:=h
      obtain ⟨e14,q32,h⟩:=h
      have gq32:=ltOfGet q32
      have kq32:=getOf q32
      obtain ⟨q33,h⟩:=h
      obtain ⟨e15,q34,h⟩:=h
      have gq34:=ltOfGet q34
      have kq34:=getOf q34
      obtain ⟨v16_0,q35,h⟩:=h
      unfold Zbm at q35
      try simp at q35
      obtain ⟨q36,h⟩:=h
      have rq36:=roomA (b:=8) q36 (by omega)
      have sq36:=roomB q36
      try simp [*] at rq36
      try simp [*] at sq36
      refine Eq.trans ?_ h
      clear h
      simp +decide [*,Zbe]
     ·rw [if_neg q30] at h
      replace q30:=eq_false q30
      cases h
theorem Zbgk (m:Zd) (info:List Zg) (out:List Int) (x:Zb) (sizes:List Int) (i:Int) (left:Int) (right:Int) (x1:List Zb) (x2:Int) (x3:Int) (x4:Bool) (r:AV×List Blk) (h:(Zel m=some (.bsl 1 5,[.box (m.c.map .t),.box [.ptr 0 0,.ptr 0 6,.ptr 0 12,.ptr 0 18,.ptr 0 24]])∧(if (w (x.Kind - 1))=0 then (0≤i∧(∃ (e2:Zg),info[i.toNat]?=some e2∧(0≤e2.Mask∧(∃ (e3:Int),sizes[e2.Mask.toNat]?=some e3∧(∃ (v4_0:Int),Zbm m.Scan left right e3=some (I v4_0,[])∧(out.length+1≤68719476736∧(Zbe m info (out++[v4_0]) sizes x1 x2 (w (x3+1))=some r))))))) else (if (w (x.Kind - 1))=1 then (0≤i∧(∃ (e5:Zg),info[i.toNat]?=some e5∧(0≤e5.Mask∧(∃ (e6:Int),sizes[e5.Mask.toNat]?=some e6∧(∃ (v7_0:Int),Zbm m.Sort_ left right e6=some (I v7_0,[])∧(out.length+1≤68719476736∧(Zbe m info (out++[v7_0]) sizes x1 x2 (w (x3+1))=some r))))))) else (if (w (x.Kind - 1))=2 then (0≤i∧(∃ (e8:Zg),info[i.toNat]?=some e8∧(0≤e8.Mask∧(∃ (e9:Int),sizes[e8.Mask.toNat]?=some e9∧(∃ (v10_0:Int),Zbm m.Hash left right e9=some (I v10_0,[])∧(out.length+1≤68719476736∧(Zbe m info (out++[v10_0]) sizes x1 x2 (w (x3+1))=some r))))))) else (if (w (x.Kind - 1))=3 then (0≤i∧(∃ (e11:Zg),info[i.toNat]?=some e11∧(0≤e11.Mask∧(∃ (e12:Int),sizes[e11.Mask.toNat]?=some e12∧(∃ (v13_0:Int),Zbm m.Merge left right e12=some (I v13_0,[])∧(out.length+1≤68719476736∧(Zbe m info (out++[v13_0]) sizes x1 x2 (w (x3+1))=some r))))))) else (if (w (x.Kind - 1))=4 then (0≤i∧(∃ (e14:Zg),info[i.toNat]?=some e14∧(0≤e14.Mask∧(∃ (e15:Int),sizes[e14.Mask.toNat]?=some e15∧(∃ (v16_0:Int),Zbm m.Nested left right e15=some (I v16_0,[])∧(out.length+1≤68719476736∧(Zbe m info (out++[v16_0]) sizes x1 x2 (w (x3+1))=some r))))))) else False))))))):Ziz m info out x sizes i left right x1 x2 x3 x4=some r:=by
 unfold Ziz
 rw [Ev_eq Zld.eq_1]
 obtain ⟨q1,h⟩:=h
 unfold Zel at q1
 try simp at q1
 by_cases q2:(w (x.Kind - 1))=0
 ·rw [if_pos q2] at h
  obtain ⟨q3,h⟩:=h
  obtain ⟨e2,q4,h⟩:=h
  have gq4:=ltOfGet q4
  have kq4:=getOf q4
  obtain ⟨q5,h⟩:=h
  obtain ⟨e3,q6,h⟩:=h
  have gq6:=ltOfGet q6
  have kq6:=getOf q6
  obtain ⟨v4_0,q7,h⟩:=h
  unfold Zbm at q7
  try simp at q7
  obtain ⟨q8,h⟩:=h
  have rq8:=roomA (b:=8) q8 (by omega)
  have sq8:=roomB q8
  try simp [*] at rq8
  try simp [*] at sq8
  refine Eq.trans ?_ h
  clear h
  simp +decide [*,Zbe]
 ·rw [if_neg q2] at h
  replace q2:=eq_false q2
  by_cases q9:(w (x.Kind - 1))=1
  ·rw [if_pos q9] at h
   obtain ⟨q10,h⟩:=h
   obtain ⟨e5,q11,h⟩:=h
   have gq11:=ltOfGet q11
   have kq11:=getOf q11
   obtain ⟨q12,h⟩:=h
   obtain ⟨e6,q13,h⟩:=h
   have gq13:=ltOfGet q13
   have kq13:=getOf q13
   obtain ⟨v7_0,q14,h⟩:=h
   unfold Zbm at q14
   try simp at q14
   obtain ⟨q15,h⟩:=h
   have rq15:=roomA (b:=8) q15 (by omega)
   have sq15:=roomB q15
   try simp [*] at rq15
   try simp [*] at sq15
   refine Eq.trans ?_ h
   clear h
   simp +decide [*,Zbe]
  ·rw [if_neg q9] at h
   replace q9:=eq_false q9
   by_cases q16:(w (x.Kind - 1))=2
   ·rw [if_pos q16] at h
    obtain ⟨q17,h⟩:=h
    obtain ⟨e8,q18,h⟩:=h
    have gq18:=ltOfGet q18
    have kq18:=getOf q18
    obtain ⟨q19,h⟩:=h
    obtain ⟨e9,q20,h⟩:=h
    have gq20:=ltOfGet q20
    have kq20:=getOf q20
    obtain ⟨v10_0,q21,h⟩:=h
    unfold Zbm at q21
    try simp at q21
    obtain ⟨q22,h⟩:=h
    have rq22:=roomA (b:=8) q22 (by omega)
    have sq22:=roomB q22
    try simp [*] at rq22
    try simp [*] at sq22
    refine Eq.trans ?_ h
    clear h
    simp +decide [*,Zbe]
   ·rw [if_neg q16] at h
    replace q16:=eq_false q16
    by_cases q23:(w (x.Kind - 1))=3
    ·rw [if_pos q23] at h
     obtain ⟨q24,h⟩:=h
     obtain ⟨e11,q25,h⟩:=h
     have gq25:=ltOfGet q25
     have kq25:=getOf q25
     obtain ⟨q26,h⟩:=h
     obtain ⟨e12,q27,h⟩:=h
     have gq27:=ltOfGet q27
     have kq27:=getOf q27
     obtain ⟨v13_0,q28,h⟩:=h
     unfold Zbm at q28
     try simp at q28
     obtain ⟨q29,h⟩:=h
     have rq29:=roomA (b:=8) q29 (by omega)
     have sq29:=roomB q29
     try simp [*] at rq29
     try simp [*] at sq29
     refine Eq.trans ?_ h
     clear h
     simp +decide [*,Zbe]
    ·rw [if_neg q23] at h
     replace q23:=eq_false q23
     by_cases q30:(w (x.Kind - 1))=4
     ·rw [if_pos q30] at h
      obtain ⟨q31,h⟩:=h
      obtain ⟨e14,q32,h⟩:=h
      have gq32:=ltOfGet q32
      have kq32:=getOf q32
      obtain ⟨q33,h⟩:=h
      obtain ⟨e15,q34,h⟩:=h
      have gq34:=ltOfGet q34
      have kq34:=getOf q34
      obtain ⟨v16_0,q35,h⟩:=h
      unfold Zbm at q35
      try simp at q35
      obtain ⟨q36,h⟩:=h
      have rq36:=roomA (b:=8) q36 (by omega)
      have sq36:=roomB q36
      try simp [*] at rq36
      try simp [*] at sq36
      refine Eq.trans ?_ h
      clear h
      simp +decide [*,Zbe]
     ·rw [if_neg q30] at h
      replace q30:=eq_false q30
      cases h
theorem Zbgl (a:Zd) (a1:Zc) (a2:Plan) (a3:List Int) (r:AV×List Blk) (h:((Zha a a1 a2 a3=some (.t .nil,[])∧(some (I (-1),[])=some r))∨(∃ (v2_0:List Int),Zha a a1 a2 a3=some (.own 0,[.arr 3 1 true (v2_0.map ic)])∧(v2_0≠[]∧(∃ (v3_0:Int),Zlg v2_0=some (I v3_0,[])∧(some (I v3_0,[])=some r)))))):Zfc a a1 a2 a3=some r:=by
 unfold Zfc
 refine run Zbc0 rfl ?_
 rcases h with h | h
 ·
  obtain ⟨q1,h⟩:=h
  unfold Zha at q1
  try simp at q1
  refine Eq.trans ?_ h
  clear h
  simp +decide [*,Zs9]
 ·
  obtain ⟨v2_0,q2,h⟩:=h
  unfold Zha at q2
  try simp at q2
  obtain ⟨q3,h⟩:=h
  obtain ⟨yq3,ysq3,eq3⟩:=List.exists_cons_of_ne_nil q3
  first | subst eq3 | skip
  obtain ⟨v3_0,q4,h⟩:=h
  unfold Zlg at q4
  try simp at q4
  refine Eq.trans ?_ h
  clear h
  simp +decide [*,Zs9]
theorem Zcr (m:Zd) (q:Zc) (sizes:List Int) (mask:Int) (list0:Za) (list1:Za) (list2:Za) (list3:Za) (list4:Za) (some0:Bool) (some1:Bool) (some2:Bool) (some3:Bool) (some4:Bool) (x:List Zb) (a:Int) (r:AV×List Blk) (h:(∃ (v1_0:Int),Zfc m q (⟨x⟩:Plan) sizes=some (I v1_0,[])∧(if (w (a+1))=0 then (if some0=true then (if v1_0<list0.Cost then (some (.tup [],[.box [I m.Scan.Fixed,I m.Scan.Zj,I m.Scan.Zk,I m.Scan.Zm,I m.Scan.Zl,L 2 (m.Scan.Steps.map Zf.c),I m.Sort_.Fixed,I m.Sort_.Zj,I m.Sort_.Zk,I m.Sort_.Zm,I m.Sort_.Zl,L 2 (m.Sort_.Steps.map Zf.c),I m.Hash.Fixed,I m.Hash.Zj,I m.Hash.Zk,I m.Hash.Zm,I m.Hash.Zl,L 2 (m.Hash.Steps.map Zf.c),I m.Merge.Fixed,I m.Merge.Zj,I m.Merge.Zk,I m.Merge.Zm,I m.Merge.Zl,L 2 (m.Merge.Steps.map Zf.c),I m.Nested.Fixed,I m.Nested.Zj,I m.Nested.Zk,I m.Nested.Zm,I m.Nested.Zl,L 2 (m.Nested.Steps.map Zf.c),I q.Ze,L 2 (q.Atoms.map Atom.c),L 1 (sizes.map ic),I mask,I mask,I a,I v1_0,L 3 (x.map Zb.c),I list1.Mask,I list1.Order,I list1.Cost,L 3 (list1.Plan.Steps.map Zb.c),I list2.Mask,I list2.Order,I list2.Cost,L 3 (list2.Plan.Steps.map Zb.c),I list3.Mask,I list3.Order,I list3.Cost,L 3 (list3.Plan.Steps.map Zb.c),I list4.Mask,I list4.Order,I list4.Cost,L 3 (list4.Plan.Steps.map Zb.c),Bo true,Bo some1,Bo some2,Bo some3,Bo some4],.dead])=some r) else (some (.tup [],[boxO m q sizes mask list0 list1 list2 list3 list4 some0 some1 some2 some3 some4,.arr 194 3 true (x.map Zb.c)])=some r)) else (some (.tup [],[.box [I m.Scan.Fixed,I m.Scan.Zj,I m.Scan.Zk,I m.Scan.Zm,I m.Scan.Zl,L 2 (m.Scan.Steps.map Zf.c),I m.Sort_.Fixed,I m.Sort_.Zj,I m.Sort_.Zk,I m.Sort_.Zm,I m.Sort_.Zl,L 2 (m.Sort_.Steps.map Zf.c),I m.Hash.Fixed,I m.Hash.Zj,I m.Hash.Zk,I m.Hash.Zm,I m.Hash.Zl,L 2 (m.Hash.Steps.map Zf.c),I m.Merge.Fixed,I m.Merge.Zj,I m.Merge.Zk,I m.Merge.Zm,I m.Merge.Zl,L 2 (m.Merge.Steps.map Zf.c),I m.Nested.Fixed,I m.Nested.Zj,I m.Nested.Zk,I m.Nested.Zm,I m.Nested.Zl,L 2 (m.Nested.Steps.map Zf.c),I q.Ze,L 2 (q.Atoms.map Atom.c),L 1 (sizes.map ic),I mask,I mask,I a,I v1_0,L 3 (x.map Zb.c),I list1.Mask,I list1.Order,I list1.Cost,L 3 (list1.Plan.Steps.map Zb.c),I list2.Mask,I list2.Order,I list2.Cost,L 3 (list2.Plan.Steps.map Zb.c),I list3.Mask,I list3.Order,I list3.Cost,L 3 (list3.Plan.Steps.map Zb.c),I list4.Mask,I list4.Order,I list4.Cost,L 3 (list4.Plan.Steps.map Zb.c),Bo true,Bo some1,Bo some2,Bo some3,Bo some4],.dead])=some r)) else (if (w (a+1))=1 then (if some1=true then (if v1_0<list1.Cost then (some (.tup [],[.box [I m.Scan.Fixed,I m.Scan.Zj,I m.Scan.Zk,I m.Scan.Zm,I m.Scan.Zl,L 2 (m.Scan.Steps.map Zf.c),I m.Sort_.Fixed,I m.Sort_.Zj,I m.Sort_.Zk,I m.Sort_.Zm,I m.Sort_.Zl,L 2 (m.Sort_.Steps.map Zf.c),I m.Hash.Fixed,I m.Hash.Zj,I m.Hash.Zk,I m.Hash.Zm,I m.Hash.Zl,L 2 (m.Hash.Steps.map Zf.c),I m.Merge.Fixed,I m.Merge.Zj,I m.Merge.Zk,I m.Merge.Zm,I m.Merge.Zl,L 2 (m.Merge.Steps.map Zf.c),I m.Nested.Fixed,I m.Nested.Zj,I m.Nested.Zk,I m.Nested.Zm,I m.Nested.Zl,L 2 (m.Nested.Steps.map Zf.c),I q.Ze,L 2 (q.Atoms.map Atom.c),L 1 (sizes.map ic),I mask,I list0.Mask,I list0.Order,I list0.Cost,L 3 (list0.Plan.Steps.map Zb.c),I mask,I a,I v1_0,L 3 (x.map Zb.c),I list2.Mask,I list2.Order,I list2.Cost,L 3 (list2.Plan.Steps.map Zb.c),I list3.Mask,I list3.Order,I list3.Cost,L 3 (list3.Plan.Steps.map Zb.c),I list4.Mask,I list4.Order,I list4.Cost,L 3 (list4.Plan.Steps.map Zb.c),Bo some0,Bo true,Bo some2,Bo some3,Bo some4],.dead])=some r) else (some (.tup [],[boxO m q sizes mask list0 list1 list2 list3 list4 some0 some1 some2 some3 some4,.arr 194 3 true (x.map Zb.c)])=some r)) else (some (.tup [],[.box [I m.Scan.Fixed,I m.Scan.Zj,I m.Scan.Zk,I m.Scan.Zm,I m.Scan.Zl,L 2 (m.Scan.Steps.map Zf.c),I m.Sort_.Fixed,I m.Sort_.Zj,I m.Sort_.Zk,I m.Sort_.Zm,I m.Sort_.Zl,L 2 (m.Sort_.Steps.map Zf.c),I m.Hash.Fixed,I m.Hash.Zj,I m.Hash.Zk,I m.Hash.Zm,I m.Hash.Zl,L 2 (m.Hash.Steps.map Zf.c),I m.Merge.Fixed,I m.Merge.Zj,I m.Merge.Zk,I m.Merge.Zm,I m.Merge.Zl,L 2 (m.Merge.Steps.map Zf.c),I m.Nested.Fixed,I m.Nested.Zj,I m.Nested.Zk,I m.Nested.Zm,I m.Nested.Zl,L 2 (m.Nested.Steps.map Zf.c),I q.Ze,L 2 (q.Atoms.map Atom.c),L 1 (sizes.map ic),I mask,I list0.Mask,I list0.Order,I list0.Cost,L 3 (list0.Plan.Steps.map Zb.c),I mask,I a,I v1_0,L 3 (x.map Zb.c),I list2.Mask,I list2.Order,I list2.Cost,L 3 (list2.Plan.Steps.map Zb.c),I list3.Mask,I list3.Order,I list3.Cost,L 3 (list3.Plan.Steps.map Zb.c),I list4.Mask,I list4.Order,I list4.Cost,L 3 (list4.Plan.Steps.map Zb.c),Bo some0,Bo true,Bo some2,Bo some3,Bo some4],.dead])=some r)) else (if (w (a+1))=2 then (if some2=true then (if v1_0<list2.Cost then (some (.tup [],[.box [I m.Scan.Fixed,I m.Scan.Zj,I m.Scan.Zk,I m.Scan.Zm,I m.Scan.Zl,L 2 (m.Scan.Steps.map Zf.c),I m.Sort_.Fixed,I m.Sort_.Zj,I m.Sort_.Zk,I m.Sort_.Zm,I m.Sort_.Zl,L 2 (m.Sort_.Steps.map Zf.c),I m.Hash.Fixed,I m.Hash.Zj,I m.Hash.Zk,I m.Hash.Zm,I m.Hash.Zl,L 2 (m.Hash.Steps.map Zf.c),I m.Merge.Fixed,I m.Merge.Zj,I m.Merge.Zk,I m.Merge.Zm,I m.Merge.Zl,L 2 (m.Merge.Steps.map Zf.c),I m.Nested.Fixed,I m.Nested.Zj,I m.Nested.Zk,I m.Nested.Zm,I m.Nested.Zl,L 2 (m.Nested.Steps.map Zf.c),I q.Ze,L 2 (q.Atoms.map Atom.c),L 1 (sizes.map ic),I mask,I list0.Mask,I list0.Order,I list0.Cost,L 3 (list0.Plan.Steps.map Zb.c),I list1.Mask,I list1.Order,I list1.Cost,L 3 (list1.Plan.Steps.map Zb.c),I mask,I a,I v1_0,L 3 (x.map Zb.c),I list3.Mask,I list3.Order,I list3.Cost,L 3 (list3.Plan.Steps.map Zb.c),I list4.Mask,I list4.Order,I list4.Cost,L 3 (list4.Plan.Steps.map Zb.c),Bo some0,Bo some1,Bo true,Bo some3,Bo some4],.dead])=some r) else (some (.tup [],[boxO m q sizes mask list0 list1 list2 list3 list4 some0 some1 some2 some3 some4,.arr 194 3 true (x.map Zb.c)])=some r)) else (some (.tup [],[.box [I m.Scan.Fixed,I m.Scan.Zj,I m.Scan.Zk,I m.Scan.Zm,I m.Scan.Zl,L 2 (m.Scan.Steps.map Zf.c),I m.Sort_.Fixed,I m.Sort_.Zj,I m.Sort_.Zk,I m.Sort_.Zm,I m.Sort_.Zl,L 2 (m.Sort_.Steps.map Zf.c),I m.Hash.Fixed,I m.Hash.Zj,I m.Hash.Zk,I m.Hash.Zm,I m.Hash.Zl,L 2 (m.Hash.Steps.map Zf.c),I m.Merge.Fixed,I m.Merge.Zj,I m.Merge.Zk,I m.Merge.Zm,I m.Merge.Zl,L 2 (m.Merge.Steps.map Zf.c),I m.Nested.Fixed,I m.Nested.Zj,I m.Nested.Zk,I m.Nested.Zm,I m.Nested.Zl,L 2 (m.Nested.Steps.map Zf.c),I q.Ze,L 2 (q.Atoms.map Atom.c),L 1 (sizes.map ic),I mask,I list0.Mask,I list0.Order,I list0.Cost,L 3 (list0.Plan.Steps.map Zb.c),I list1.Mask,I list1.Order,I list1.Cost,L 3 (list1.Plan.Steps.map Zb.c),I mask,I a,I v1_0,L 3 (x.map Zb.c),I list3.Mask,I list3.Order,I list3.Cost,L 3 (list3.Plan.Steps.map Zb.c),I list4.Mask,I list4.Order,I list4.Cost,L 3 (list4.Plan.Steps.map Zb.c),Bo some0,Bo some1,Bo true,Bo some3,Bo some4],.dead])=some r)) else (if (w (a+1))=3 then (if some3=true then (if v1_0<list3.Cost then (some (.tup [],[.box [I m.Scan.Fixed,I m.Scan.Zj,I m.Scan.Zk,I m.Scan.Zm,I m.Scan.Zl,L 2 (m.Scan.Steps.map Zf.c),I m.Sort_.Fixed,I m.Sort_.Zj,I m.Sort_.Zk,I m.Sort_.Zm,I m.Sort_.Zl,L 2 (m.Sort_.Steps.map Zf.c),I m.Hash.Fixed,I m.Hash.Zj,I m.Hash.Zk,I m.Hash.Zm,I m.Hash.Zl,L 2 (m.Hash.Steps.map Zf.c),I m.Merge.Fixed,I m.Merge.Zj,I m.Merge.Zk,I m.Merge.Zm,I m.Merge.Zl,L 2 (m.Merge.Steps.map Zf.c),I m.Nested.Fixed,I m.Nested.Zj,I m.Nested.Zk,I m.Nested.Zm,I m.Nested.Zl,L 2 (m.Nested.Steps.map Zf.c),I q.Ze,L 2 (q.Atoms.map Atom.c),L 1 (sizes.map ic),I mask,I list0.Mask,I list0.Order,I list0.Cost,L 3 (list0.Plan.Steps.map Zb.c),I list1.Mask,I list1.Order,I list1.Cost,L 3 (list1.Plan.Steps.map Zb.c),I list2.Mask,I list2.Order,I list2.Cost,L 3 (list2.Plan.Steps.map Zb.c),I mask,I a,I v1_0,L 3 (x.map Zb.c),I list4.Mask,I list4.Order,I list4.Cost,L 3 (list4.Plan.Steps.map Zb.c),Bo some0,Bo some1,Bo some2,Bo true,Bo some4],.dead])=some r) else (some (.tup [],[boxO m q sizes mask list0 list1 list2 list3 list4 some0 some1 some2 some3 some4,.arr 194 3 true (x.map Zb.c)])=some r)) else (some (.tup [],[.box [I m.Scan.Fixed,I m.Scan.Zj,I m.Scan.Zk,I m.Scan.Zm,I m.Scan.Zl,L 2 (m.Scan.Steps.map Zf.c),I m.Sort_.Fixed,I m.Sort_.Zj,I m.Sort_.Zk,I m.Sort_.Zm,I m.Sort_.Zl,L 2 (m.Sort_.Steps.map Zf.c),I m.Hash.Fixed,I m.Hash.Zj,I m.Hash.Zk,I m.Hash.Zm,I m.Hash.Zl,L 2 (m.Hash.Steps.map Zf.c),I m.Merge.Fixed,I m.Merge.Zj,I m.Merge.Zk,I m.Merge.Zm,I m.Merge.Zl,L 2 (m.Merge.Steps.map Zf.c),I m.Nested.Fixed,I m.Nested.Zj,I m.Nested.Zk,I m.Nested.Zm,I m.Nested.Zl,L 2 (m.Nested.Steps.map Zf.c),I q.Ze,L 2 (q.Atoms.map Atom.c),L 1 (sizes.map ic),I mask,I list0.Mask,I list0.Order,I list0.Cost,L 3 (list0.Plan.Steps.map Zb.c),I list1.Mask,I list1.Order,I list1.Cost,L 3 (list1.Plan.Steps.map Zb.c),I list2.Mask,I list2.Order,I list2.Cost,L 3 (list2.Plan.Steps.map Zb.c),I mask,I a,I v1_0,L 3 (x.map Zb.c),I list4.Mask,I list4.Order,I list4.Cost,L 3 (list4.Plan.Steps.map Zb.c),Bo some0,Bo some1,Bo some2,Bo true,Bo some4],.dead])=some r)) else (if (w (a+1))=4 then (if some4=true then (if v1_0<list4.Cost then (some (.tup [],[.box [I m.Scan.Fixed,I m.Scan.Zj,I m.Scan.Zk,I m.Scan.Zm,I m.Scan.Zl,L 2 (m.Scan.Steps.map Zf.c),I m.Sort_.Fixed,I m.Sort_.Zj,I m.Sort_.Zk,I m.Sort_.Zm,I m.Sort_.Zl,L 2 (m.Sort_.Steps.map Zf.c),I m.Hash.Fixed,I m.Hash.Zj,I m.Hash.Zk,I m.Hash.Zm,I m.Hash.Zl,L 2 (m.Hash.Steps.map Zf.c),I m.Merge.Fixed,I m.Merge.Zj,I m.Merge.Zk,I m.Merge.Zm,I m.Merge.Zl,L 2 (m.Merge.Steps.map Zf.c),I m.Nested.Fixed,I m.Nested.Zj,I m.Nested.Zk,I m.Nested.Zm,I m.Nested.Zl,L 2 (m.Nested.Steps.map Zf.c),I q.Ze,L 2 (q.Atoms.map Atom.c),L 1 (sizes.map ic),I mask,I list0.Mask,I list0.Order,I list0.Cost,L 3 (list0.Plan.Steps.map Zb.c),I list1.Mask,I list1.Order,I list1.Cost,L 3 (list1.Plan.Steps.map Zb.c),I list2.Mask,I list2.Order,I list2.Cost,L 3 (list2.Plan.Steps.map Zb.c),I list3.Mask,I list3.Order,I list3.Cost,L 3 (list3.Plan.Steps.map Zb.c),I mask,I a,I v1_0,L 3 (x.map Zb.c),Bo some0,Bo some1,Bo some2,Bo some3,Bo true],.dead])=some r) else (some (.tup [],[boxO m q sizes mask list0 list1 list2 list3 list4 some0 some1 some2 some3 some4,.arr 194 3 true (x.map Zb.c)])=some r)) else (some (.tup [],[.box [I m.Scan.Fixed,I m.Scan.Zj,I m.Scan.Zk,I m.Scan.Zm,I m.Scan.Zl,L 2 (m.Scan.Steps.map Zf.c),I m.Sort_.Fixed,I m.Sort_.Zj,I m.Sort_.Zk,I m.Sort_.Zm,I m.Sort_.Zl,L 2 (m.Sort_.Steps.map Zf.c),I m.Hash.Fixed,I m.Hash.Zj,I m.Hash.Zk,I m.Hash.Zm,I m.Hash.Zl,L 2 (m.Hash.Steps.map Zf.c),I m.Merge.Fixed,I m.Merge.Zj,I m.Merge.Zk,I m.Merge.Zm,I m.Merge.Zl,L 2 (m.Merge.Steps.map Zf.c),I m.Nested.Fixed,I m.Nested.Zj,I m.Nested.Zk,I m.Nested.Zm,I m.Nested.Zl,L 2 (m.Nested.Steps.map Zf.c),I q.Ze,L 2 (q.Atoms.map Atom.c),L 1 (sizes.map ic),I mask,I list0.Mask,I list0.Order,I list0.Cost,L 3 (list0.Plan.Steps.map Zb.c),I list1.Mask,I list1.Order,I list1.Cost,L 3 (list1.Plan.Steps.map Zb.c),I list2.Mask,I list2.Order,I list2.Cost,L 3 (list2.Plan.Steps.map Zb.c),I list3.Mask,I list3.Order,I list3.Cost,L 3 (list3.Plan.Steps.map Zb.c),I mask,I a,I v1_0,L 3 (x.map Zb.c),Bo some0,Bo some1,Bo some2,Bo some3,Bo true],.dead])=some r)) else False))))))):Zb1 m q sizes mask list0 list1 list2 list3 list4 some0 some1 some2 some3 some4 x a=some r:=by
 unfold Zb1
 refine runM Zbc1 rfl ?_
 obtain ⟨v1_0,q1,h⟩:=h
 unfold Zfc at q1
 try simp at q1
 by_cases q2:(w (a+1))=0
 ·rw [if_pos q2] at h
  by_cases q3:some0=true
  ·rw [if_pos q3] at h
   by_cases q4:v1_0<list0.Cost
   ·rw [if_pos q4] at h
    refine Eq.trans ?_ h
    clear h
    simp +decide [*,Zce]
   ·rw [if_neg q4] at h
    refine Eq.trans ?_ h
    clear h
    simp +decide [*,Zce]
  ·rw [if_neg q3] at h
   refine Eq.trans ?_ h
   clear h
   simp +decide [*,Zce]
 ·rw [if_neg q2] at h
  replace q2:=eq_false q2
  by_cases q5:(w (a+1))=1
  ·rw [if_pos q5] at h
   by_cases q6:some1=true
   ·rw [if_pos q6] at h
    by_cases q7:v1_0<list1.Cost
    ·rw [if_pos q7] at h
     refine Eq.trans ?_ h
     clear h
     simp +decide [*,Zce]
    ·rw [if_neg q7] at h
     refine Eq.trans ?_ h
     clear h
     simp +decide [*,Zce]
   ·rw [if_neg q6] at h
    refine Eq.trans ?_ h
    clear h
    simp +decide [*,Zce]
  ·rw [if_neg q5] at h
   replace q5:=eq_false q5
   by_cases q8:(w (a+1))=2
   ·rw [if_pos q8] at h
    by_cases q9:some2=true
    ·rw [if_pos q9] at h
     by_cases q10:v1_0<list2.Cost
     ·rw [if_pos q10] at h
      refine Eq.trans ?_ h
      clear h
      simp +decide [*,Zce]
     ·rw [if_neg q10] at h
      refine Eq.trans ?_ h
      clear h
      simp +decide [*,Zce]
    ·rw [if_neg q9] at h
     refine Eq.trans ?_ h
     clear h
     simp +decide [*,Zce]
   ·rw [if_neg q8] at h
    replace q8:=eq_false q8
    by_cases q11:(w (a+1))=3
    ·rw [if_pos q11] at h
     by_cases q12:some3=true
     ·rw [if_pos q12] at h
      by_cases q13:v1_0<list3.Cost
      ·rw [if_pos q13] at h
       refine Eq.trans ?_ h
       clear h
       simp +decide [*,Zce]
      ·rw [if_neg q13] at h
       refine Eq.trans ?_ h
       clear h
       simp +decide [*,Zce]
     ·rw [if_neg q12] at h
      refine Eq.trans ?_ h
      clear h
      simp +decide [*,Zce]
    ·rw [if_neg q11] at h
     replace q11:=eq_false q11
     by_cases q14:(w (a+1))=4
     ·rw [if_pos q14] at h
      by_cases q15:some4=true
      ·rw [if_pos q15] at h
       by_cases q16:v1_0<list4.Cost
       ·rw [if_pos q16] at h
        refine Eq.trans ?_ h
        clear h
        simp +decide [*,Zce]
       ·rw [if_neg q16] at h
        refine Eq.trans ?_ h
        clear h
        simp +decide [*,Zce]
      ·rw [if_neg q15] at h
       refine Eq.trans ?_ h
       clear h
       simp +decide [*,Zce]
     ·rw [if_neg q14] at h
      replace q14:=eq_false q14
      cases h
theorem Z31:(∀ q out mask x r,Im (Zfd q out mask x=some r) (if x<mask then (if (andI x mask)=x then (∃ v1_0,Zek q x=some (Bo v1_0,[])∧(if v1_0=true then (∃ v2_0,Zek q (andNotI mask x)=some (Bo v2_0,[])∧(if v2_0=true then (out.length+1≤68719476736∧(Zfd q (out++[x]) mask (w (x+1))=some r)) else (Zfd q out mask (w (x+1))=some r))) else (Zfd q out mask (w (x+1))=some r))) else (Zfd q out mask (w (x+1))=some r)) else (some (.own 0,[.arr 3 1 true (out.map ic)])=some r))) ∧
 (∀ a a1 r,Im (Zdf a a1=some r) (∃ v1_0,Zg3 a a1=some (Bo v1_0,[])∧(if v1_0=true then (Zfd a ([]:List Int) a1 1=some r) else (some (.t .nil,[])=some r)))):=by
 and_intros
 all_goals intros
 all_goals unfold Im
 all_goals try simp only [Zfd,Zdf,Zek,Zc.c_def,Zg3,mpl,dfs]
 all_goals try simp only [itb]
 all_goals try simp only [itf,gS,kk]
 all_goals repeat' first | refine exI fun _=>?_ | refine anJ fun _ _=>?_ | refine anI fun _=>?_ | refine orE2 ?_ ?_ | exact False.elim
 all_goals (intro h;first | rw [EvL_eq Zta.eq_1] | refine run Zbc2 rfl ?_)
 all_goals (refine Eq.trans ?_ h;clear h;simp +decide [*,kk,Zzv,Ztb,Zzw])
abbrev Z32:=Z31.1
abbrev Zbgm:=Z31.2
theorem Zet:(∀ Mask Order Cost best x x1 x2 r,Im (Zi0 Mask Order Cost best x x1 x2=some r) (if x2<x1 then (0≤x2∧(∃ e1,x[x2.toNat]?=some e1∧(if e1.Cost<best.Cost then (Zi0 Mask Order Cost e1 x x1 (w (x2+1))=some r) else (Zi0 Mask Order Cost best x x1 (w (x2+1))=some r)))) else (some (.agg (best.c.map .t),[])=some r))) ∧
 (∀ a r,Im (Zhb a=some r) (∃ e1,a[0]?=some e1∧(Zi0 0 0 0 e1 a (a.length:Int) 0=some r))) ∧
 (∀ a r,Im (Zfe a=some r) (a.Steps.length≤68719476736∧(some (.agg [.own 0],[.arr 194 3 true (a.Steps.map Zb.c)])=some r))) ∧
 (∀ a a1 a2 a3 r,Im (Zem a a1 a2 a3=some r) (∃ (v1_0:List Zb),Zfe a=some (.agg [.own 0],[.arr 194 3 true (v1_0.map Zb.c)])∧(v1_0.length+a1.Steps.length≤68719476736∧(v1_0.length+a1.Steps.length+1≤68719476736∧(some (.agg [.own 0],[.arr 194 3 true (((v1_0++a1.Steps)++[(⟨a2,0,a3⟩:Zb)]).map Zb.c)])=some r))))) ∧
 (∀ m q sizes mask list0 list1 list2 list3 list4 some0 some1 some2 some3 some4 r,Im (Zlk m q sizes mask list0 list1 list2 list3 list4 some0 some1 some2 some3 some4=some r) (Zba m q sizes mask list0 list1 list2 list3 list4 some0 some1 some2 some3 some4 true ([]:List Za) some0 some1 some2 some3 some4 0=some r)) ∧
 (∀ a a1 r,Im (Zff a a1=some r) (∃ v1_0,Zg1 a a1=some (Bo v1_0,[])∧(if v1_0=true then (∃ (v2_0:List Int),Zd5 a a1=some (.own 0,[.arr 3 1 true (v2_0.map ic)])∧(some (.own 0,[.arr 3 1 true (v2_0.map ic)])=some r)) else (some (.t .nil,[])=some r)))) ∧
 (∀ a a1 a2 r,Im (Zhc a a1 a2=some r) ((∃ (v1_0:List Int),Zff a a1=some (.own 0,[.arr 3 1 true (v1_0.map ic)])∧((∃ (v2_0:List Int),Zff a a2=some (.own 0,[.arr 3 1 true (v2_0.map ic)])∧(∃ (v3_0:List Int),Ze8 v1_0 v2_0=some (.own 0,[.arr 3 1 true (v3_0.map ic)])∧(some (.own 0,[.arr 3 1 true (v3_0.map ic)])=some r)))∨(Zff a a2=some (.t .nil,[])∧(∃ (v5_0:List Int),Zz1 v1_0=some (.own 0,[.arr 3 1 true (v5_0.map ic)])∧(some (.own 0,[.arr 3 1 true (v5_0.map ic)])=some r)))))∨(Zff a a1=some (.t .nil,[])∧((∃ (v7_0:List Int),Zff a a2=some (.own 0,[.arr 3 1 true (v7_0.map ic)])∧(∃ (v8_0:List Int),Zz2 v7_0=some (.own 0,[.arr 3 1 true (v8_0.map ic)])∧(some (.own 0,[.arr 3 1 true (v8_0.map ic)])=some r)))∨(Zff a a2=some (.t .nil,[])∧(∃ (v10_0:List Int),Zz3=some (.own 0,[.arr 3 1 true (v10_0.map ic)])∧(some (.own 0,[.arr 3 1 true (v10_0.map ic)])=some r))))))) ∧
 (∀ a a1 r,Im (Zot a a1=some r) (∃ (v1_0:List Zb),Zfe a=some (.agg [.own 0],[.arr 194 3 true (v1_0.map Zb.c)])∧(v1_0.length+1≤68719476736∧(some (.agg [.own 0],[.arr 194 3 true ((v1_0++[(⟨2,0,a1⟩:Zb)]).map Zb.c)])=some r)))) ∧
 (∀ m q x sizes v x1 x2 x3 r,Im (Zi1 m q x sizes v x1 x2 x3=some r) (if x3<x2 then (0≤x3∧(∃ e1,x1[x3.toNat]?=some e1∧(if e1.Order=v then (∃ v2_0,Zfc m q (⟨x⟩:Plan) sizes=some (I v2_0,[])∧(if e1.Cost≤v2_0 then (some (.agg (e1.Plan.c.map .t),[])=some r) else (Zi1 m q x sizes v x1 x2 (w (x3+1))=some r))) else (Zi1 m q x sizes v x1 x2 (w (x3+1))=some r)))) else (some (.agg [.own 0],[.arr 194 3 true (x.map Zb.c)])=some r))) ∧
 (∀ a a1 a2 a3 a4 r,Im (Zdg a a1 a2 a3 a4=some r) (∃ (v1_0:Za),Zhb a3=some (.agg (v1_0.c.map .t),[])∧(if v1_0.Order=a4 then (some (.agg (v1_0.Plan.c.map .t),[])=some r) else (∃ (v2_0:List Zb),Zot v1_0.Plan a4=some (.agg [.own 0],[.arr 194 3 true (v2_0.map Zb.c)])∧(Zi1 a a1 v2_0 a2 a4 a3 (a3.length:Int) 0=some r))))):=by
 and_intros
 all_goals intros
 all_goals unfold Im
 all_goals try simp only [Zi0,Zhb,Zfe,Zem,Zlk,Zff,Zhc,Zot,Zi1,Zdg,Plan.c_def,Zg1,Zd5,Zc.c_def,Ze8,Zz1,Zz2,Zz3,Zfc,Zd.c_def,Zi.c_def,Za.c_def,Zba,mpl,dfs]
 all_goals try simp only [itb]
 all_goals try simp only [itf,gS,kk]
 all_goals repeat' first | refine exI fun _=>?_ | refine anJ fun _ _=>?_ | refine anI fun _=>?_ | refine orE2 ?_ ?_ | exact False.elim
 all_goals (intro h;first | rw [EvL_eq Zli.eq_1] | refine run Z2w rfl ?_ | refine run Zbc3 rfl ?_ | refine run Zbc4 rfl ?_ | refine runM Zbc5 rfl ?_ | refine run Zbc6 rfl ?_ | refine run Zbc7 rfl ?_ | refine run Zbc8 rfl ?_ | rw [EvL_eq Ztg.eq_1] | refine run Zbc9 rfl ?_)
 all_goals (refine Eq.trans ?_ h;clear h;simp +decide [*,kk,Ztc,Zlj,Ztd,Zzx,Zzy,Zzz,Zz0,Zz4,Zz5,Zth,Zz6])
abbrev Z33:=Zet.1
abbrev Zbgn:=Zet.2.1
abbrev Zbgo:=Zet.2.2.1
abbrev Zbgp:=Zet.2.2.2.1
abbrev Zbgq:=Zet.2.2.2.2.1
abbrev Zbgr:=Zet.2.2.2.2.2.1
abbrev Zbgs:=Zet.2.2.2.2.2.2.1
abbrev Zbgt:=Zet.2.2.2.2.2.2.2.1
abbrev Zp6:=Zet.2.2.2.2.2.2.2.2.1
abbrev Z34:=Zet.2.2.2.2.2.2.2.2.2
theorem Zd8 (m:Zd) (q:Zc) (sizes:List Int) (mask:Int) (list0:Za) (list1:Za) (list2:Za) (list3:Za) (list4:Za) (some0:Bool) (some1:Bool) (some2:Bool) (some3:Bool) (some4:Bool) (fr:Bool) (out:List Za) (x0:Bool) (x1:Bool) (x2:Bool) (x3:Bool) (x4:Bool) (x:Int) (r:AV×List Blk) (h:(if x<5 then (if x=0 then (if x0=true then (out.length+1≤68719476736∧(Zba m q sizes mask list0 list1 list2 list3 list4 some0 some1 some2 some3 some4 false (out++[list0]) true x1 x2 x3 x4 (w (x+1))=some r)) else (Zba m q sizes mask list0 list1 list2 list3 list4 some0 some1 some2 some3 some4 fr out false x1 x2 x3 x4 (w (x+1))=some r)) else (if x=1 then (if x1=true then (out.length+1≤68719476736∧(Zba m q sizes mask list0 list1 list2 list3 list4 some0 some1 some2 some3 some4 false (out++[list1]) x0 true x2 x3 x4 (w (x+1))=some r)) else (Zba m q sizes mask list0 list1 list2 list3 list4 some0 some1 some2 some3 some4 fr out x0 false x2 x3 x4 (w (x+1))=some r)) else (if x=2 then (if x2=true then (out.length+1≤68719476736∧(Zba m q sizes mask list0 list1 list2 list3 list4 some0 some1 some2 some3 some4 false (out++[list2]) x0 x1 true x3 x4 (w (x+1))=some r)) else (Zba m q sizes mask list0 list1 list2 list3 list4 some0 some1 some2 some3 some4 fr out x0 x1 false x3 x4 (w (x+1))=some r)) else (if x=3 then (if x3=true then (out.length+1≤68719476736∧(Zba m q sizes mask list0 list1 list2 list3 list4 some0 some1 some2 some3 some4 false (out++[list3]) x0 x1 x2 true x4 (w (x+1))=some r)) else (Zba m q sizes mask list0 list1 list2 list3 list4 some0 some1 some2 some3 some4 fr out x0 x1 x2 false x4 (w (x+1))=some r)) else (if x=4 then (if x4=true then (out.length+1≤68719476736∧(Zba m q sizes mask list0 list1 list2 list3 list4 some0 some1 some2 some3 some4 false (out++[list4]) x0 x1 x2 x3 true (w (x+1))=some r)) else (Zba m q sizes mask list0 list1 list2 list3 list4 some0 some1 some2 some3 some4 fr out x0 x1 x2 x3 false (w (x+1))=some r)) else False))))) else (some (.own 1,[boxO m q sizes mask list0 list1 list2 list3 list4 some0 some1 some2 some3 some4,.arr 145 4 fr (out.map Za.c)])=some r))):Zba m q sizes mask list0 list1 list2 list3 list4 some0 some1 some2 some3 some4 fr out x0 x1 x2 x3 x4 x=some r:=by
 unfold Zba
 rw [EvL_eq Zte.eq_1]
 by_cases q1:x<5
 ·rw [if_pos q1] at h
  by_cases q2:x=0
  ·rw [if_pos q2] at h
   subst q2
   by_cases q3:x0=true
   ·rw [if_pos q3] at h
    obtain ⟨q4,h⟩:=h
    have rq4:=roomA (b:=48) q4 (by omega)
    have sq4:=roomB q4
    try simp [*] at rq4
    try simp [*] at sq4
    refine Eq.trans ?_ h
    clear h
    simp +decide [*,Zba,Zd7]
   ·rw [if_neg q3] at h
    refine Eq.trans ?_ h
    clear h
    simp +decide [*,Zba,Zd7]
  ·rw [if_neg q2] at h
   replace q2:=eq_false q2
   by_cases q5:x=1
   ·rw [if_pos q5] at h
    subst q5
    by_cases q6:x1=true
    ·rw [if_pos q6] at h
     obtain ⟨q7,h⟩:=h
     have rq7:=roomA (b:=48) q7 (by omega)
     have sq7:=roomB q7
     try simp [*] at rq7
     try simp [*] at sq7
     refine Eq.trans ?_ h
     clear h
     simp +decide [*,Zba,Zd7]
    ·rw [if_neg q6] at h
     refine Eq.trans ?_ h
     clear h
     simp +decide [*,Zba,Zd7]
   ·rw [if_neg q5] at h
    replace q5:=eq_false q5
    by_cases q8:x=2
    ·rw [if_pos q8] at h
     subst q8
     by_cases q9:x2=true
     ·rw [if_pos q9] at h
      obtain ⟨q10,h⟩:=h
      have rq10:=roomA (b:=48) q10 (by omega)
      have sq10:=roomB q10
      try simp [*] at rq10
      try simp [*] at sq10
      refine Eq.trans ?_ h
      clear h
      simp +decide [*,Zba,Zd7]
     ·rw [if_neg q9] at h
      refine Eq.trans ?_ h
      clear h
      simp +decide [*,Zba,Zd7]
    ·rw [if_neg q8] at h
     replace q8:=eq_false q8
     by_cases q11:x=3
     ·rw [if_pos q11] at h
      subst q11
      by_cases q12:x3=true
      ·rw [if_pos q12] at h
       obtain ⟨q13,h⟩:=h
       have rq13:=roomA (b:=48) q13 (by omega)
       have sq13:=roomB q13
       try simp [*] at rq13
       try simp [*] at sq13
       refine Eq.trans ?_ h
       clear h
       simp +decide [*,Zba,Zd7]
      ·rw [if_neg q12] at h
       refine Eq.trans ?_ h
       clear h
       simp +decide [*,Zba,Zd7]
     ·rw [if_neg q11] at h
      replace q11:=eq_false q11
      by_cases q14:x=4
      ·rw [if_pos q14] at h
       subst q14
       by_cases q15:x4=true
       ·rw [if_pos q15] at h
        obtain ⟨q16,h⟩:=h
        have rq16:=roomA (b:=48) q16 (by omega)
        have sq16:=roomB q16
        try simp [*] at rq16
        try simp [*] at sq16
        refine Eq.trans ?_ h
        clear h
        simp +decide [*,Zba,Zd7]
       ·rw [if_neg q15] at h
        refine Eq.trans ?_ h
        clear h
        simp +decide [*,Zba,Zd7]
      ·rw [if_neg q14] at h
       replace q14:=eq_false q14
       cases h
 ·rw [if_neg q1] at h
  refine Eq.trans ?_ h
  clear h
  simp +decide [*,Ztf]
theorem Zm2:(∀ m q fr table fr1 out x sizes x1 x2 r,Im (Zf2 m q fr table fr1 out x sizes x1 x2=some r) (if x2<x1 then (0≤x2∧(∃ e1,x[x2.toNat]?=some e1∧((Ziw e1=some (.t .nil,[])∧((Zdf q e1=some (.t .nil,[])∧(Zll m q fr table fr1 out m q sizes e1 (⟨0,0,0,(⟨[]⟩:Plan)⟩:Za) (⟨0,0,0,(⟨[]⟩:Plan)⟩:Za) (⟨0,0,0,(⟨[]⟩:Plan)⟩:Za) (⟨0,0,0,(⟨[]⟩:Plan)⟩:Za) (⟨0,0,0,(⟨[]⟩:Plan)⟩:Za) false false false false false x sizes e1 x1 x2 0 0=some r))∨(∃ (v4_0:List Int),Zdf q e1=some (.own 0,[.arr 3 1 true (v4_0.map ic)])∧(Zen m q fr table fr1 out m q sizes e1 (⟨0,0,0,(⟨[]⟩:Plan)⟩:Za) (⟨0,0,0,(⟨[]⟩:Plan)⟩:Za) (⟨0,0,0,(⟨[]⟩:Plan)⟩:Za) (⟨0,0,0,(⟨[]⟩:Plan)⟩:Za) (⟨0,0,0,(⟨[]⟩:Plan)⟩:Za) false false false false false x v4_0 sizes e1 x1 x2 (v4_0.length:Int) 0=some r))))∨(∃ (v5_0:List Int),Ziw e1=some (.own 0,[.arr 3 1 true (v5_0.map ic)])∧(if (v5_0.length:Int)=1 then (∃ e6,v5_0[0]?=some e6∧(∃ (v7_0:List Zb),Zlc e6=some (.agg [.own 0],[.arr 194 3 true (v7_0.map Zb.c)])∧(0≤e6∧(∃ e8,q.Atoms[e6.toNat]?=some e8∧(∃ e9,e8.Vars[0]?=some e9∧((∃ v10_0 v10_1 v10_2 v10_3 v10_4 v10_5 v10_6 v10_7 v10_8 v10_9 v10_10 v10_11 v10_12 v10_13,Zb1 m q sizes e1 (⟨0,0,0,(⟨[]⟩:Plan)⟩:Za) (⟨0,0,0,(⟨[]⟩:Plan)⟩:Za) (⟨0,0,0,(⟨[]⟩:Plan)⟩:Za) (⟨0,0,0,(⟨[]⟩:Plan)⟩:Za) (⟨0,0,0,(⟨[]⟩:Plan)⟩:Za) false false false false false v7_0 e9=some (.tup [],[boxO v10_0 v10_1 v10_2 v10_3 v10_4 v10_5 v10_6 v10_7 v10_8 v10_9 v10_10 v10_11 v10_12 v10_13,.dead])∧((Zdf q e1=some (.t .nil,[])∧(Zll m q fr table fr1 out v10_0 v10_1 v10_2 v10_3 v10_4 v10_5 v10_6 v10_7 v10_8 v10_9 v10_10 v10_11 v10_12 v10_13 x sizes e1 x1 x2 0 0=some r))∨(∃ (v12_0:List Int),Zdf q e1=some (.own 0,[.arr 3 1 true (v12_0.map ic)])∧(Zen m q fr table fr1 out v10_0 v10_1 v10_2 v10_3 v10_4 v10_5 v10_6 v10_7 v10_8 v10_9 v10_10 v10_11 v10_12 v10_13 x v12_0 sizes e1 x1 x2 (v12_0.length:Int) 0=some r))))∨(∃ v13_0,∃ v13_1,∃ v13_2,∃ v13_3,∃ v13_4,∃ v13_5,∃ v13_6,∃ v13_7,∃ v13_8,∃ v13_9,∃ v13_10,∃ v13_11,∃ v13_12,∃ v13_13,∃ (v13_14:List Zb),Zb1 m q sizes e1 (⟨0,0,0,(⟨[]⟩:Plan)⟩:Za) (⟨0,0,0,(⟨[]⟩:Plan)⟩:Za) (⟨0,0,0,(⟨[]⟩:Plan)⟩:Za) (⟨0,0,0,(⟨[]⟩:Plan)⟩:Za) (⟨0,0,0,(⟨[]⟩:Plan)⟩:Za) false false false false false v7_0 e9=some (.tup [],[boxO v13_0 v13_1 v13_2 v13_3 v13_4 v13_5 v13_6 v13_7 v13_8 v13_9 v13_10 v13_11 v13_12 v13_13,.arr 194 3 true (v13_14.map Zb.c)])∧((Zdf q e1=some (.t .nil,[])∧(Zll m q fr table fr1 out v13_0 v13_1 v13_2 v13_3 v13_4 v13_5 v13_6 v13_7 v13_8 v13_9 v13_10 v13_11 v13_12 v13_13 x sizes e1 x1 x2 0 0=some r))∨(∃ (v15_0:List Int),Zdf q e1=some (.own 0,[.arr 3 1 true (v15_0.map ic)])∧(Zen m q fr table fr1 out v13_0 v13_1 v13_2 v13_3 v13_4 v13_5 v13_6 v13_7 v13_8 v13_9 v13_10 v13_11 v13_12 v13_13 x v15_0 sizes e1 x1 x2 (v15_0.length:Int) 0=some r)))))))))) else ((Zdf q e1=some (.t .nil,[])∧(Zll m q fr table fr1 out m q sizes e1 (⟨0,0,0,(⟨[]⟩:Plan)⟩:Za) (⟨0,0,0,(⟨[]⟩:Plan)⟩:Za) (⟨0,0,0,(⟨[]⟩:Plan)⟩:Za) (⟨0,0,0,(⟨[]⟩:Plan)⟩:Za) (⟨0,0,0,(⟨[]⟩:Plan)⟩:Za) false false false false false x sizes e1 x1 x2 0 0=some r))∨(∃ (v17_0:List Int),Zdf q e1=some (.own 0,[.arr 3 1 true (v17_0.map ic)])∧(Zen m q fr table fr1 out m q sizes e1 (⟨0,0,0,(⟨[]⟩:Plan)⟩:Za) (⟨0,0,0,(⟨[]⟩:Plan)⟩:Za) (⟨0,0,0,(⟨[]⟩:Plan)⟩:Za) (⟨0,0,0,(⟨[]⟩:Plan)⟩:Za) (⟨0,0,0,(⟨[]⟩:Plan)⟩:Za) false false false false false x v17_0 sizes e1 x1 x2 (v17_0.length:Int) 0=some r)))))))) else (Zlm fr1 out (out.length:Int) 0=some r))) ∧
 (∀ m q fr table fr1 out m_1 q_1 sizes mask list0 list1 list2 list3 list4 some0 some1 some2 some3 some4 x x1 sizes1 mask1 x2 x3 x4 x5 r,Im (Zen m q fr table fr1 out m_1 q_1 sizes mask list0 list1 list2 list3 list4 some0 some1 some2 some3 some4 x x1 sizes1 mask1 x2 x3 x4 x5=some r) (if x5<x4 then (0≤x5∧(∃ e1,x1[x5.toNat]?=some e1∧(0≤e1∧(∃ e2,table[e1.toNat]?=some e2∧(0≤(andNotI mask1 e1)∧(∃ e3,table[(andNotI mask1 e1).toNat]?=some e3∧(∃ (v4_0:Za),Zhb e3=some (.agg (v4_0.c.map .t),[])∧(∃ (v5_0:Za),Zhb e2=some (.agg (v5_0.c.map .t),[])∧(∃ (v6_0:List Zb),Zem v5_0.Plan v4_0.Plan 3 0=some (.agg [.own 0],[.arr 194 3 true (v6_0.map Zb.c)])∧((∃ v7_0 v7_1 v7_2 v7_3 v7_4 v7_5 v7_6 v7_7 v7_8 v7_9 v7_10 v7_11 v7_12 v7_13,Zb1 m_1 q_1 sizes mask list0 list1 list2 list3 list4 some0 some1 some2 some3 some4 v6_0 (-1)=some (.tup [],[boxO v7_0 v7_1 v7_2 v7_3 v7_4 v7_5 v7_6 v7_7 v7_8 v7_9 v7_10 v7_11 v7_12 v7_13,.dead])∧(Zf3 m q fr table fr1 out v7_0 v7_1 v7_2 v7_3 v7_4 v7_5 v7_6 v7_7 v7_8 v7_9 v7_10 v7_11 v7_12 v7_13 v4_0.Plan x x1 sizes1 mask1 e1 e2 e3 x2 x3 x4 x5 e2 (e2.length:Int) 0=some r))∨(∃ v8_0,∃ v8_1,∃ v8_2,∃ v8_3,∃ v8_4,∃ v8_5,∃ v8_6,∃ v8_7,∃ v8_8,∃ v8_9,∃ v8_10,∃ v8_11,∃ v8_12,∃ v8_13,∃ (v8_14:List Zb),Zb1 m_1 q_1 sizes mask list0 list1 list2 list3 list4 some0 some1 some2 some3 some4 v6_0 (-1)=some (.tup [],[boxO v8_0 v8_1 v8_2 v8_3 v8_4 v8_5 v8_6 v8_7 v8_8 v8_9 v8_10 v8_11 v8_12 v8_13,.arr 194 3 true (v8_14.map Zb.c)])∧(Zf3 m q fr table fr1 out v8_0 v8_1 v8_2 v8_3 v8_4 v8_5 v8_6 v8_7 v8_8 v8_9 v8_10 v8_11 v8_12 v8_13 v4_0.Plan x x1 sizes1 mask1 e1 e2 e3 x2 x3 x4 x5 e2 (e2.length:Int) 0=some r)))))))))))) else (∃ v9_0,∃ (v9_1:List Za),Zlk m_1 q_1 sizes mask list0 list1 list2 list3 list4 some0 some1 some2 some3 some4=some (.own 1,[boxO m_1 q_1 sizes mask list0 list1 list2 list3 list4 some0 some1 some2 some3 some4,.arr 145 4 v9_0 (v9_1.map Za.c)])∧(0≤mask1∧(∃ e10,table[mask1.toNat]?=some e10∧(out.length+v9_1.length≤68719476736∧(Zf2 m q (fr && v9_0) (table.set mask1.toNat v9_1) (fr1 && flat (v9_1.map Za.c)) (out++v9_1) x sizes1 x2 (w (x3+1))=some r))))))) ∧
 (∀ fr out x x1 r,Im (Zlm fr out x x1=some r) (if x1<x then (0≤x1∧(∃ e1,out[x1.toNat]?=some e1∧(∃ (v2_0:List Zb),Zfe e1.Plan=some (.agg [.own 0],[.arr 194 3 true (v2_0.map Zb.c)])∧(Zlm fr (out.set x1.toNat (⟨e1.Mask,e1.Order,e1.Cost,(⟨v2_0⟩:Plan)⟩:Za)) x (w (x1+1))=some r)))) else (some (.own 0,[.arr 145 4 fr (out.map Za.c)])=some r))) ∧
 (∀ m q fr table fr1 out m_1 q_1 sizes mask list0 list1 list2 list3 list4 some0 some1 some2 some3 some4 y x x1 sizes1 mask1 x2 left right x3 x4 x5 x6 x7 x8 x9 r,Im (Zf3 m q fr table fr1 out m_1 q_1 sizes mask list0 list1 list2 list3 list4 some0 some1 some2 some3 some4 y x x1 sizes1 mask1 x2 left right x3 x4 x5 x6 x7 x8 x9=some r) (if x9<x8 then (0≤x9∧(∃ e1,x7[x9.toNat]?=some e1∧(∃ (v2_0:List Zb),Zem e1.Plan y 5 0=some (.agg [.own 0],[.arr 194 3 true (v2_0.map Zb.c)])∧((∃ v3_0 v3_1 v3_2 v3_3 v3_4 v3_5 v3_6 v3_7 v3_8 v3_9 v3_10 v3_11 v3_12 v3_13,Zb1 m_1 q_1 sizes mask list0 list1 list2 list3 list4 some0 some1 some2 some3 some4 v2_0 e1.Order=some (.tup [],[boxO v3_0 v3_1 v3_2 v3_3 v3_4 v3_5 v3_6 v3_7 v3_8 v3_9 v3_10 v3_11 v3_12 v3_13,.dead])∧(Zf3 m q fr table fr1 out v3_0 v3_1 v3_2 v3_3 v3_4 v3_5 v3_6 v3_7 v3_8 v3_9 v3_10 v3_11 v3_12 v3_13 y x x1 sizes1 mask1 x2 left right x3 x4 x5 x6 x7 x8 (w (x9+1))=some r))∨(∃ v4_0,∃ v4_1,∃ v4_2,∃ v4_3,∃ v4_4,∃ v4_5,∃ v4_6,∃ v4_7,∃ v4_8,∃ v4_9,∃ v4_10,∃ v4_11,∃ v4_12,∃ v4_13,∃ (v4_14:List Zb),Zb1 m_1 q_1 sizes mask list0 list1 list2 list3 list4 some0 some1 some2 some3 some4 v2_0 e1.Order=some (.tup [],[boxO v4_0 v4_1 v4_2 v4_3 v4_4 v4_5 v4_6 v4_7 v4_8 v4_9 v4_10 v4_11 v4_12 v4_13,.arr 194 3 true (v4_14.map Zb.c)])∧(Zf3 m q fr table fr1 out v4_0 v4_1 v4_2 v4_3 v4_4 v4_5 v4_6 v4_7 v4_8 v4_9 v4_10 v4_11 v4_12 v4_13 y x x1 sizes1 mask1 x2 left right x3 x4 x5 x6 x7 x8 (w (x9+1))=some r)))))) else (∃ (v5_0:List Int),Zhc q x2 (andNotI mask1 x2)=some (.own 0,[.arr 3 1 true (v5_0.map ic)])∧(Zc2 m q fr table fr1 out m_1 q_1 sizes mask list0 list1 list2 list3 list4 some0 some1 some2 some3 some4 x x1 v5_0 sizes1 mask1 left right x3 x4 x5 x6 (v5_0.length:Int) 0=some r)))) ∧
 (∀ m q fr table fr1 out m_1 q_1 sizes mask list0 list1 list2 list3 list4 some0 some1 some2 some3 some4 x x1 x2 sizes1 mask1 left right x3 x4 x5 x6 x7 x8 r,Im (Zc2 m q fr table fr1 out m_1 q_1 sizes mask list0 list1 list2 list3 list4 some0 some1 some2 some3 some4 x x1 x2 sizes1 mask1 left right x3 x4 x5 x6 x7 x8=some r) (if x8<x7 then (0≤x8∧(∃ e1,x2[x8.toNat]?=some e1∧((∃ (v2_0:Plan),Zdg m q sizes1 left e1=some (.agg (v2_0.c.map .t),[])∧((∃ (v3_0:Plan),Zdg m q sizes1 right e1=some (.agg (v3_0.c.map .t),[])∧(∃ (v4_0:List Zb),Zem v2_0 v3_0 4 e1=some (.agg [.own 0],[.arr 194 3 true (v4_0.map Zb.c)])∧((∃ v5_0 v5_1 v5_2 v5_3 v5_4 v5_5 v5_6 v5_7 v5_8 v5_9 v5_10 v5_11 v5_12 v5_13,Zb1 m_1 q_1 sizes mask list0 list1 list2 list3 list4 some0 some1 some2 some3 some4 v4_0 e1=some (.tup [],[boxO v5_0 v5_1 v5_2 v5_3 v5_4 v5_5 v5_6 v5_7 v5_8 v5_9 v5_10 v5_11 v5_12 v5_13,.dead])∧(Zc2 m q fr table fr1 out v5_0 v5_1 v5_2 v5_3 v5_4 v5_5 v5_6 v5_7 v5_8 v5_9 v5_10 v5_11 v5_12 v5_13 x x1 x2 sizes1 mask1 left right x3 x4 x5 x6 x7 (w (x8+1))=some r))∨(∃ v6_0,∃ v6_1,∃ v6_2,∃ v6_3,∃ v6_4,∃ v6_5,∃ v6_6,∃ v6_7,∃ v6_8,∃ v6_9,∃ v6_10,∃ v6_11,∃ v6_12,∃ v6_13,∃ (v6_14:List Zb),Zb1 m_1 q_1 sizes mask list0 list1 list2 list3 list4 some0 some1 some2 some3 some4 v4_0 e1=some (.tup [],[boxO v6_0 v6_1 v6_2 v6_3 v6_4 v6_5 v6_6 v6_7 v6_8 v6_9 v6_10 v6_11 v6_12 v6_13,.arr 194 3 true (v6_14.map Zb.c)])∧(Zc2 m q fr table fr1 out v6_0 v6_1 v6_2 v6_3 v6_4 v6_5 v6_6 v6_7 v6_8 v6_9 v6_10 v6_11 v6_12 v6_13 x x1 x2 sizes1 mask1 left right x3 x4 x5 x6 x7 (w (x8+1))=some r)))))∨(∃ (v7_0:List Zb),Zdg m q sizes1 right e1=some (.agg [.own 0],[.arr 194 3 true (v7_0.map Zb.c)])∧(∃ (v8_0:List Zb),Zem v2_0 (⟨v7_0⟩:Plan) 4 e1=some (.agg [.own 0],[.arr 194 3 true (v8_0.map Zb.c)])∧((∃ v9_0 v9_1 v9_2 v9_3 v9_4 v9_5 v9_6 v9_7 v9_8 v9_9 v9_10 v9_11 v9_12 v9_13,Zb1 m_1 q_1 sizes mask list0 list1 list2 list3 list4 some0 some1 some2 some3 some4 v8_0 e1=some (.tup [],[boxO v9_0 v9_1 v9_2 v9_3 v9_4 v9_5 v9_6 v9_7 v9_8 v9_9 v9_10 v9_11 v9_12 v9_13,.dead])∧(Zc2 m q fr table fr1 out v9_0 v9_1 v9_2 v9_3 v9_4 v9_5 v9_6 v9_7 v9_8 v9_9 v9_10 v9_11 v9_12 v9_13 x x1 x2 sizes1 mask1 left right x3 x4 x5 x6 x7 (w (x8+1))=some r))∨(∃ v10_0,∃ v10_1,∃ v10_2,∃ v10_3,∃ v10_4,∃ v10_5,∃ v10_6,∃ v10_7,∃ v10_8,∃ v10_9,∃ v10_10,∃ v10_11,∃ v10_12,∃ v10_13,∃ (v10_14:List Zb),Zb1 m_1 q_1 sizes mask list0 list1 list2 list3 list4 some0 some1 some2 some3 some4 v8_0 e1=some (.tup [],[boxO v10_0 v10_1 v10_2 v10_3 v10_4 v10_5 v10_6 v10_7 v10_8 v10_9 v10_10 v10_11 v10_12 v10_13,.arr 194 3 true (v10_14.map Zb.c)])∧(Zc2 m q fr table fr1 out v10_0 v10_1 v10_2 v10_3 v10_4 v10_5 v10_6 v10_7 v10_8 v10_9 v10_10 v10_11 v10_12 v10_13 x x1 x2 sizes1 mask1 left right x3 x4 x5 x6 x7 (w (x8+1))=some r)))))))∨(∃ (v11_0:List Zb),Zdg m q sizes1 left e1=some (.agg [.own 0],[.arr 194 3 true (v11_0.map Zb.c)])∧((∃ (v12_0:Plan),Zdg m q sizes1 right e1=some (.agg (v12_0.c.map .t),[])∧(∃ (v13_0:List Zb),Zem (⟨v11_0⟩:Plan) v12_0 4 e1=some (.agg [.own 0],[.arr 194 3 true (v13_0.map Zb.c)])∧((∃ v14_0 v14_1 v14_2 v14_3 v14_4 v14_5 v14_6 v14_7 v14_8 v14_9 v14_10 v14_11 v14_12 v14_13,Zb1 m_1 q_1 sizes mask list0 list1 list2 list3 list4 some0 some1 some2 some3 some4 v13_0 e1=some (.tup [],[boxO v14_0 v14_1 v14_2 v14_3 v14_4 v14_5 v14_6 v14_7 v14_8 v14_9 v14_10 v14_11 v14_12 v14_13,.dead])∧(Zc2 m q fr table fr1 out v14_0 v14_1 v14_2 v14_3 v14_4 v14_5 v14_6 v14_7 v14_8 v14_9 v14_10 v14_11 v14_12 v14_13 x x1 x2 sizes1 mask1 left right x3 x4 x5 x6 x7 (w (x8+1))=some r))∨(∃ v15_0,∃ v15_1,∃ v15_2,∃ v15_3,∃ v15_4,∃ v15_5,∃ v15_6,∃ v15_7,∃ v15_8,∃ v15_9,∃ v15_10,∃ v15_11,∃ v15_12,∃ v15_13,∃ (v15_14:List Zb),Zb1 m_1 q_1 sizes mask list0 list1 list2 list3 list4 some0 some1 some2 some3 some4 v13_0 e1=some (.tup [],[boxO v15_0 v15_1 v15_2 v15_3 v15_4 v15_5 v15_6 v15_7 v15_8 v15_9 v15_10 v15_11 v15_12 v15_13,.arr 194 3 true (v15_14.map Zb.c)])∧(Zc2 m q fr table fr1 out v15_0 v15_1 v15_2 v15_3 v15_4 v15_5 v15_6 v15_7 v15_8 v15_9 v15_10 v15_11 v15_12 v15_13 x x1 x2 sizes1 mask1 left right x3 x4 x5 x6 x7 (w (x8+1))=some r)))))∨(∃ (v16_0:List Zb),Zdg m q sizes1 right e1=some (.agg [.own 0],[.arr 194 3 true (v16_0.map Zb.c)])∧(∃ (v17_0:List Zb),Zem (⟨v11_0⟩:Plan) (⟨v16_0⟩:Plan) 4 e1=some (.agg [.own 0],[.arr 194 3 true (v17_0.map Zb.c)])∧((∃ v18_0 v18_1 v18_2 v18_3 v18_4 v18_5 v18_6 v18_7 v18_8 v18_9 v18_10 v18_11 v18_12 v18_13,Zb1 m_1 q_1 sizes mask list0 list1 list2 list3 list4 some0 some1 some2 some3 some4 v17_0 e1=some (.tup [],[boxO v18_0 v18_1 v18_2 v18_3 v18_4 v18_5 v18_6 v18_7 v18_8 v18_9 v18_10 v18_11 v18_12 v18_13,.dead])∧(Zc2 m q fr table fr1 out v18_0 v18_1 v18_2 v18_3 v18_4 v18_5 v18_6 v18_7 v18_8 v18_9 v18_10 v18_11 v18_12 v18_13 x x1 x2 sizes1 mask1 left right x3 x4 x5 x6 x7 (w (x8+1))=some r))∨(∃ v19_0,∃ v19_1,∃ v19_2,∃ v19_3,∃ v19_4,∃ v19_5,∃ v19_6,∃ v19_7,∃ v19_8,∃ v19_9,∃ v19_10,∃ v19_11,∃ v19_12,∃ v19_13,∃ (v19_14:List Zb),Zb1 m_1 q_1 sizes mask list0 list1 list2 list3 list4 some0 some1 some2 some3 some4 v17_0 e1=some (.tup [],[boxO v19_0 v19_1 v19_2 v19_3 v19_4 v19_5 v19_6 v19_7 v19_8 v19_9 v19_10 v19_11 v19_12 v19_13,.arr 194 3 true (v19_14.map Zb.c)])∧(Zc2 m q fr table fr1 out v19_0 v19_1 v19_2 v19_3 v19_4 v19_5 v19_6 v19_7 v19_8 v19_9 v19_10 v19_11 v19_12 v19_13 x x1 x2 sizes1 mask1 left right x3 x4 x5 x6 x7 (w (x8+1))=some r)))))))))) else (Zen m q fr table fr1 out m_1 q_1 sizes mask list0 list1 list2 list3 list4 some0 some1 some2 some3 some4 x x1 sizes1 mask1 x3 x4 x5 (w (x6+1))=some r))):=by
 and_intros
 all_goals intros
 all_goals unfold Im
 all_goals try simp only [Zf2,Zen,Zlm,Zf3,Zc2,Ziw,Zdf,Zlc,Zb1,Zd.c_def,Zi.c_def,Plan.c_def,Za.c_def,Zb.c_def,Zc.c_def,boxO_def,Zhb,Zem,Zlk,Zfe,Zhc,Zdg,Zll,mpl,dfs]
 all_goals try simp only [itb]
 all_goals try simp only [itf,gS,kk]
 all_goals repeat' first | refine exI fun _=>?_ | refine anJ fun _ _=>?_ | refine anI fun _=>?_ | refine orE2 ?_ ?_ | exact False.elim
 all_goals (intro h;first | rw [EvL_eq Zhd.eq_1] | rw [EvL_eq Zi2.eq_1] | rw [EvL_eq Ztl.eq_1] | rw [EvL_eq Zti.eq_1] | rw [EvL_eq Ztj.eq_1])
 all_goals (refine Eq.trans ?_ h;clear h;simp +decide [*,kk,Zz7,Zhe,Zi4,Zi3,Ztm,Ztk,Zou])
abbrev Z35:=Zm2.1
abbrev Z36:=Zm2.2.1
abbrev Z37:=Zm2.2.2.1
abbrev Z38:=Zm2.2.2.2.1
abbrev Z39:=Zm2.2.2.2.2
theorem Zbgu (a:Zd) (a1:Zc) (a2:List Int) (r:AV×List Blk) (h:(∃ (v1_0:Bool),Ziu a=some (Bo v1_0,[])∧(if v1_0=true then (∃ (v2_0:Bool),Zg9 a1 a2=some (Bo v2_0,[])∧(if v2_0=true then (∃ (v3_0:Int),Zcd a1=some (I v3_0,[])∧(0≤(w (v3_0+1))∧((w (v3_0+1))≤(w (v3_0+1))∧((w (v3_0+1)).toNat*24≤room∧((w (v3_0+1))≤140737488355328∧(∃ (v4_0:List Int),Zlb a1=some (.own 0,[.arr 3 1 true (v4_0.map ic)])∧(Zf2 a a1 true (List.replicate ((w (v3_0+1))).toNat ([])) true ([]:List Za) v4_0 a2 (v4_0.length:Int) 0=some r))))))) else (some (.t .nil,[])=some r))) else (some (.t .nil,[])=some r)))):Zi5 a a1 a2=some r:=by
 unfold Zi5
 refine run Zbda rfl ?_
 obtain ⟨v1_0,q1,h⟩:=h
 unfold Ziu at q1
 try simp at q1
 by_cases q2:v1_0=true
 ·rw [if_pos q2] at h
  obtain ⟨v2_0,q3,h⟩:=h
  unfold Zg9 at q3
  try simp at q3
  by_cases q4:v2_0=true
  ·rw [if_pos q4] at h
   obtain ⟨v3_0,q5,h⟩:=h
   unfold Zcd at q5
   try simp at q5
   obtain ⟨q6,h⟩:=h
   obtain ⟨q7,h⟩:=h
   obtain ⟨q8,h⟩:=h
   have zq8:=q8;try simp at zq8
   obtain ⟨q9,h⟩:=h
   obtain ⟨v4_0,q10,h⟩:=h
   unfold Zlb at q10
   try simp at q10
   refine Eq.trans ?_ h
   clear h
   simp +decide [*,Zov,Zf2]
  ·rw [if_neg q4] at h
   refine Eq.trans ?_ h
   clear h
   simp +decide [*,Zov]
 ·rw [if_neg q2] at h
  refine Eq.trans ?_ h
  clear h
  simp +decide [*,Zov]
theorem Zdn:(∀ Mask Order Cost best fr x x1 x2 r,Im (Zi6 Mask Order Cost best fr x x1 x2=some r) (if x2<x1 then (0≤x2∧(∃ e1,x[x2.toNat]?=some e1∧(if e1.Cost<best.Cost then (Zi6 Mask Order Cost e1 fr x x1 (w (x2+1))=some r) else (Zi6 Mask Order Cost best fr x x1 (w (x2+1))=some r)))) else (some (.agg (best.c.map .t),[.arr 145 4 fr (x.map Za.c)])=some r))) ∧
 (∀ fr x r,Im (Zow fr x=some r) (∃ e1,x[0]?=some e1∧(Zi6 0 0 0 e1 fr x (x.length:Int) 0=some r))) ∧
 (∀ Mask Order Cost fr x mask x1 x2 x3 r,Im (Zi7 Mask Order Cost fr x mask x1 x2 x3=some r) (if x3<x2 then (0≤x3∧(∃ e1,x1[x3.toNat]?=some e1∧(if e1.Mask=mask then (x.length+1≤68719476736∧(Zi7 Mask Order Cost false (x++[e1]) mask x1 x2 (w (x3+1))=some r)) else (Zi7 Mask Order Cost fr x mask x1 x2 (w (x3+1))=some r)))) else (if (x.length:Int)=0 then (some (.tup [.agg [I 0,I 0,I 0,.t .nil],Bo false],[])=some r) else (∃ (v2_0:Za),Zow fr x=some (.agg (v2_0.c.map .t),[.arr 145 4 fr (x.map Za.c)])∧(∃ (v3_0:List Zb),Zfe v2_0.Plan=some (.agg [.own 0],[.arr 194 3 true (v3_0.map Zb.c)])∧(some (.tup [.agg [I v2_0.Mask,I v2_0.Order,I v2_0.Cost,.own 0],Bo true],[.arr 194 3 true (v3_0.map Zb.c)])=some r)))))) ∧
 (∀ a a1 r,Im (Zln a a1=some r) (Zi7 0 0 0 true ([]:List Za) a1 a (a.length:Int) 0=some r)) ∧
 (∀ a a1 a2 r,Im (Zlo a a1 a2=some r) ((Zi5 a a1 a2=some (.t .nil,[])∧(∃ v2_0,Zcd a1=some (I v2_0,[])∧((∃ v3_0 v3_1 v3_2,Ztn v2_0=some (.tup [.agg [I v3_0,I v3_1,I v3_2,.t .nil],Bo false],[])∧(some (.tup [.agg [I v3_0,I v3_1,I v3_2,.t .nil],Bo false],[])=some r))∨(∃ (v4_0:List Zb),∃ v4_1,∃ v4_2,∃ v4_3,Ztn v2_0=some (.tup [.agg [I v4_1,I v4_2,I v4_3,.own 0],Bo true],[.arr 194 3 true (v4_0.map Zb.c)])∧(some (.tup [.agg [I v4_1,I v4_2,I v4_3,.own 0],Bo true],[.arr 194 3 true (v4_0.map Zb.c)])=some r)))))∨(∃ v5_0,∃ (v5_1:List Za),Zi5 a a1 a2=some (.own 0,[.arr 145 4 v5_0 (v5_1.map Za.c)])∧(∃ v6_0,Zcd a1=some (I v6_0,[])∧((∃ v7_0 v7_1 v7_2,Zln v5_1 v6_0=some (.tup [.agg [I v7_0,I v7_1,I v7_2,.t .nil],Bo false],[])∧(some (.tup [.agg [I v7_0,I v7_1,I v7_2,.t .nil],Bo false],[])=some r))∨(∃ (v8_0:List Zb),∃ v8_1,∃ v8_2,∃ v8_3,Zln v5_1 v6_0=some (.tup [.agg [I v8_1,I v8_2,I v8_3,.own 0],Bo true],[.arr 194 3 true (v8_0.map Zb.c)])∧(some (.tup [.agg [I v8_1,I v8_2,I v8_3,.own 0],Bo true],[.arr 194 3 true (v8_0.map Zb.c)])=some r))))))) ∧
 (∀ a a1 a2 r,Im (Zox a a1 a2=some r) ((∃ v1_0 v1_1 v1_2,Zlo a a1 a2=some (.tup [.agg [I v1_0,I v1_1,I v1_2,.t .nil],Bo false],[])∧(some (I (-1),[])=some r))∨(∃ (v2_0:List Zb),∃ v2_1,∃ v2_2,∃ v2_3,Zlo a a1 a2=some (.tup [.agg [I v2_1,I v2_2,I v2_3,.own 0],Bo true],[.arr 194 3 true (v2_0.map Zb.c)])∧(some (I v2_3,[])=some r)))) ∧
 (∀ a a1 a2 r,Im (Zf4 a a1 a2=some r) ((∃ (v1_0:List Int),Zfb a2=some (.own 0,[.arr 3 1 true (v1_0.map ic)])∧(∃ v2_0,Zox a a1 v1_0=some (I v2_0,[])∧(some (I v2_0,[])=some r)))∨(Zfb a2=some (.t .nil,[])∧(∃ v4_0,Z0d a a1=some (I v4_0,[])∧(some (I v4_0,[])=some r))))) ∧
 (∀ b out index i r,Im (Zlq b out index i=some r) (if 0≤i then (∃ e1,b.High[i.toNat]?=some e1∧(∃ e2,b.Low[i.toNat]?=some e2∧(∃ e3,out[i.toNat]?=some e3∧(¬ (w ((w (e1 - e2))+1))=0∧(Zlq b (out.set i.toNat (w (e3+(Int.tmod index (w ((w (e1 - e2))+1)))))) (w (Int.tdiv index (w ((w (e1 - e2))+1)))) (w (i - 1))=some r))))) else (some (.tup [.own 0,Bo true],[.arr 3 1 true (out.map ic)])=some r))) ∧
 (∀ a a1 r,Im (Zlp a a1=some r) (∃ v1_0,Zik a=some (Bo v1_0,[])∧(if v1_0=true then (∃ v2_0,Zgw a=some (I v2_0,[])∧(∃ v3_0,Zw a1 0 (w (v2_0 - 1))=some (Bo v3_0,[])∧(if v3_0=true then (∃ (v4_0:List Int),Zg5 a.Low=some (.own 0,[.arr 3 1 true (v4_0.map ic)])∧(Zlq a v4_0 a1 (w ((v4_0.length:Int) - 1))=some r)) else (some (.tup [.t .nil,Bo false],[])=some r)))) else (some (.tup [.t .nil,Bo false],[])=some r)))) ∧
 (∀ b out n i r,Im (Zi8 b out n i=some r) (if i<n then ((Zlp b i=some (.tup [.t .nil,Bo false],[])∧(out.length+1≤68719476736∧(Zi8 b (out++[[]]) n (w (i+1))=some r)))∨(∃ (v2_0:List Int),Zlp b i=some (.tup [.own 0,Bo true],[.arr 3 1 true (v2_0.map ic)])∧(out.length+1≤68719476736∧(Zi8 b (out++[v2_0]) n (w (i+1))=some r)))) else (some (.own 0,[.arr 30 1 true (out.map isc)])=some r))) ∧
 (∀ a r,Im (Zhf a=some r) (∃ v1_0,Zgx a=some (I v1_0,[])∧(if 400<v1_0 then (some (.t .nil,[])=some r) else (Zi8 a ([]:List (List Int)) v1_0 0=some r)))) ∧
 (∀ a a1 r,Im (Zoy a a1=some r) (some (Bo (decide (a1≤a)),[])=some r)):=by
 and_intros
 all_goals intros
 all_goals unfold Im
 all_goals try simp only [Zi6,Zow,Zi7,Zln,Zlo,Zox,Zf4,Zlq,Zlp,Zi8,Zhf,Zoy,Zfe,Plan.c_def,Za.c_def,Zi5,Zcd,Ztn,Zd.c_def,Zi.c_def,Zc.c_def,Zfb,Z0d,Zik,Zgw,Zw,Zg5,Box.c_def,tI,Zgx,mpl,dfs]
 all_goals try simp only [itb]
 all_goals try simp only [itf,gS,kk]
 all_goals repeat' first | refine exI fun _=>?_ | refine anJ fun _ _=>?_ | refine anI fun _=>?_ | refine orE2 ?_ ?_ | exact False.elim
 all_goals (intro h;first | rw [EvL_eq Zli.eq_1] | refine runM Z2w rfl ?_ | rw [EvL_eq Zto.eq_1] | refine run Zbdb rfl ?_ | refine run Zbdc rfl ?_ | refine run Zbdd rfl ?_ | refine run Zbde rfl ?_ | rw [EvL_eq Ztq.eq_1] | refine run Zbdf rfl ?_ | rw [EvL_eq Zts.eq_1] | refine run Zbdg rfl ?_ | refine run Zbdh rfl ?_)
 all_goals (refine Eq.trans ?_ h;clear h;simp +decide [*,kk,Ztc,Zlj,Ztd,Zz8,Ztp,Zz9,Z0a,Z0b,Z0e,Ztr,Z0f,Ztt,Z0g,Z0h])
abbrev Z4a:=Zdn.1
abbrev Zbgv:=Zdn.2.1
abbrev Z4b:=Zdn.2.2.1
abbrev Zbgw:=Zdn.2.2.2.1
abbrev Zbgx:=Zdn.2.2.2.2.1
abbrev Zbgy:=Zdn.2.2.2.2.2.1
abbrev Zbgz:=Zdn.2.2.2.2.2.2.1
abbrev Z4c:=Zdn.2.2.2.2.2.2.2.1
abbrev Zbg0:=Zdn.2.2.2.2.2.2.2.2.1
abbrev Z4d:=Zdn.2.2.2.2.2.2.2.2.2.1
abbrev Z4e:=Zdn.2.2.2.2.2.2.2.2.2.2.1
abbrev Zbg1:=Zdn.2.2.2.2.2.2.2.2.2.2.2
theorem Zdo:(∀ s f x x1 r,Im (Zlr s f x x1=some r) (if x1<x then (0≤x1∧(∃ e1,s[x1.toNat]?=some e1∧(∃ v2_0,Zoy e1 f=some (Bo v2_0,[])∧(if v2_0=true then (some (I x1,[])=some r) else (Zlr s f x (w (x1+1))=some r))))) else (some (I (-1),[])=some r))) ∧
 (∀ a a1 r,Im (Ztu a a1=some r) (Zlr a a1 (a.length:Int) 0=some r)) ∧
 (∀ a a1 r,Im (Zo1 a a1=some r) (∃ v1_0,Ztu a a1=some (I v1_0,[])∧(some (I v1_0,[])=some r))) ∧
 (∀ a a1 r,Im (Zi9 a a1=some r) (∃ v1_0,Zw a 0 1000000000000=some (Bo v1_0,[])∧(if v1_0=true then (∃ v2_0,Zw a1 0 100=some (Bo v2_0,[])∧(if v2_0=true then (some (I (w (Int.tdiv (w (a*(w (100+a1)))) 100)),[])=some r) else (some (I (-1),[])=some r))) else (some (I (-1),[])=some r)))) ∧
 (∀ a a1 a2 a3 r,Im (Zja a a1 a2 a3=some r) ((∃ (v1_0:List Int),Zfb a3=some (.own 0,[.arr 3 1 true (v1_0.map ic)])∧(∃ v2_0,Zfc a a1 a2 v1_0=some (I v2_0,[])∧(some (I v2_0,[])=some r)))∨(Zfb a3=some (.t .nil,[])∧(∃ v4_0,Z0c a a1 a2=some (I v4_0,[])∧(some (I v4_0,[])=some r))))) ∧
 (∀ a a1 a2 a3 a4 a5 r,Im (Zo2 a a1 a2 a3 a4 a5=some r) (0≤a∧(∃ e1,a3.Plans[a.toNat]?=some e1∧(∃ v2_0,Zja a1 a2 e1 a4=some (I v2_0,[])∧(some (Bo (decide (v2_0≤a5)),[])=some r))))) ∧
 (∀ s f f1 f2 f3 f4 x x1 r,Im (Zls s f f1 f2 f3 f4 x x1=some r) (if x1<x then (0≤x1∧(∃ e1,s[x1.toNat]?=some e1∧(∃ v2_0,Zo2 e1 f f1 f2 f3 f4=some (Bo v2_0,[])∧(if v2_0=true then (some (I x1,[])=some r) else (Zls s f f1 f2 f3 f4 x (w (x1+1))=some r))))) else (some (I (-1),[])=some r))) ∧
 (∀ a a1 a2 a3 a4 a5 r,Im (Ztv a a1 a2 a3 a4 a5=some r) (Zls a a1 a2 a3 a4 a5 (a.length:Int) 0=some r)) ∧
 (∀ a a1 a2 a3 a4 a5 r,Im (Zo3 a a1 a2 a3 a4 a5=some r) (∃ v1_0,Ztv a a1 a2 a3 a4 a5=some (I v1_0,[])∧(some (Bo (decide (0≤v1_0)),[])=some r))) ∧
 (∀ m q b x x1 x2 r,Im (Zlt m q b x x1 x2=some r) (if x2<x1 then (0≤x2∧(∃ e1,x[x2.toNat]?=some e1∧(∃ v2_0,Zf4 m q e1=some (I v2_0,[])∧(∃ v3_0,Zo1 b.Budgets v2_0=some (I v3_0,[])∧(if v3_0<0 then (some (Bo false,[])=some r) else (0≤v3_0∧(∃ e4,b.Budgets[v3_0.toNat]?=some e4∧(∃ v5_0,Zi9 e4 b.Slack=some (I v5_0,[])∧(∃ e6,b.Contours[v3_0.toNat]?=some e6∧(∃ v7_0,Zo3 e6 m q b e1 v5_0=some (Bo v7_0,[])∧(if v7_0=true then (Zlt m q b x x1 (w (x2+1))=some r) else (some (Bo false,[])=some r)))))))))))) else (some (Bo true,[])=some r))) ∧
 (∀ a a1 a2 r,Im (Zo6 a a1 a2=some r) (∃ v1_0,Zk9 a a1 a2=some (Bo v1_0,[])∧(if v1_0=true then (∃ v2_0,Zf4 a a1 a2.Box.Low=some (I v2_0,[])∧(∃ e3,a2.Budgets[0]?=some e3∧(if v2_0<e3 then (some (Bo false,[])=some r) else ((Zhf a2.Box=some (.t .nil,[])∧(Z0p a a1 a2 0 0=some r))∨(∃ (v5_0:List (List Int)),Zhf a2.Box=some (.own 0,[.arr 30 1 true (v5_0.map isc)])∧(Zlt a a1 a2 v5_0 (v5_0.length:Int) 0=some r)))))) else (some (Bo false,[])=some r)))) ∧
 (∀ a a1 r,Im (Zc3 a a1=some r) (if a1=1 then (some (.agg (a.Scan.c.map .t),[])=some r) else (if a1=2 then (some (.agg (a.Sort_.c.map .t),[])=some r) else (if a1=3 then (some (.agg (a.Hash.c.map .t),[])=some r) else (if a1=4 then (some (.agg (a.Merge.c.map .t),[])=some r) else (some (.agg (a.Nested.c.map .t),[])=some r)))))):=by
 and_intros
 all_goals intros
 all_goals unfold Im
 all_goals try simp only [Zlr,Ztu,Zo1,Zi9,Zja,Zo2,Zls,Ztv,Zo3,Zlt,Zo6,Zc3,Zoy,Zw,Zfb,Zfc,Z0c,Zd.c_def,Zi.c_def,Plan.c_def,Zc.c_def,Zh.c_def,Box.c_def,Zf4,Zk9,Zhf,Z0p,mpl,dfs]
 all_goals try simp only [itb]
 all_goals try simp only [itf,gS,kk]
 all_goals repeat' first | refine exI fun _=>?_ | refine anJ fun _ _=>?_ | refine anI fun _=>?_ | refine orE2 ?_ ?_ | exact False.elim
 all_goals (intro h;first | rw [EvL_eq Zoz.eq_1] | refine run Zbdi rfl ?_ | refine run Zbdj rfl ?_ | refine run Zbdk rfl ?_ | refine run Zbdl rfl ?_ | refine run Zbdm rfl ?_ | refine run Zbdn rfl ?_ | rw [EvL_eq Zo4.eq_1] | refine run Zbdo rfl ?_ | refine run Zbdp rfl ?_)
 all_goals (refine Eq.trans ?_ h;clear h;simp +decide [*,kk,Zo0,Z0i,Z0j,Z0k,Z0l,Z0m,Z0n,Zo5,Z0o,Z0q])
abbrev Z4f:=Zdo.1
abbrev Zbg2:=Zdo.2.1
abbrev Zbg3:=Zdo.2.2.1
abbrev Zbg4:=Zdo.2.2.2.1
abbrev Zbg5:=Zdo.2.2.2.2.1
abbrev Zbg6:=Zdo.2.2.2.2.2.1
abbrev Z4g:=Zdo.2.2.2.2.2.2.1
abbrev Zbg7:=Zdo.2.2.2.2.2.2.2.1
abbrev Zbg8:=Zdo.2.2.2.2.2.2.2.2.1
abbrev Z4h:=Zdo.2.2.2.2.2.2.2.2.2.1
abbrev Zbg9:=Zdo.2.2.2.2.2.2.2.2.2.2.1
abbrev Zbha:=Zdo.2.2.2.2.2.2.2.2.2.2.2
theorem Z4i:(∀ a a1 a2 r,Im (Z2 a a1 a2=some r) (if a1≤a then (some (Bo (decide (a≤a2)),[])=some r) else (some (Bo false,[])=some r))) ∧
 (∀ a r,Im (Zeo a=some r) (∃ v1_0,Z2 a (-99) 99=some (Bo v1_0,[])∧(some (Bo v1_0,[])=some r))):=by
 and_intros
 all_goals intros
 all_goals unfold Im
 all_goals try simp only [Z2,Zeo,mpl,dfs]
 all_goals try simp only [itb]
 all_goals try simp only [itf,gS,kk]
 all_goals repeat' first | refine exI fun _=>?_ | refine anJ fun _ _=>?_ | refine anI fun _=>?_ | refine orE2 ?_ ?_ | exact False.elim
 all_goals (intro h;first | refine run Zbdq rfl ?_ | refine run Zbdr rfl ?_)
 all_goals (refine Eq.trans ?_ h;clear h;simp +decide [*,kk,Z0r,Z0s])
abbrev Zbhb:=Z4i.1
abbrev Zbhc:=Z4i.2
theorem Zdp:(∀ o i r,Im (Zhg o i=some r) (if i<(o.Steps.length:Int) then (0≤i∧(∃ e1,o.Steps[i.toNat]?=some e1∧(∃ v2_0,Z2 e1.From 1 8192=some (Bo v2_0,[])∧(if v2_0=true then (∃ v3_0,Zeo e1.Add=some (Bo v3_0,[])∧(if v3_0=true then (if 0<i then (0≤(w (i - 1))∧(∃ e4,o.Steps[(w (i - 1)).toNat]?=some e4∧(if e1.From≤e4.From then (some (Bo false,[])=some r) else (Zhg o (w (i+1))=some r)))) else (Zhg o (w (i+1))=some r)) else (some (Bo false,[])=some r))) else (some (Bo false,[])=some r))))) else (some (Bo true,[])=some r))) ∧
 (∀ a r,Im (Zf5 a=some r) (∃ v1_0,Zeo a.Fixed=some (Bo v1_0,[])∧(if v1_0=true then (∃ v2_0,Zeo a.Zj=some (Bo v2_0,[])∧(if v2_0=true then (∃ v3_0,Zeo a.Zk=some (Bo v3_0,[])∧(if v3_0=true then (∃ v4_0,Zeo a.Zm=some (Bo v4_0,[])∧(if v4_0=true then (∃ v5_0,Zeo a.Zl=some (Bo v5_0,[])∧(if v5_0=true then (if 4<(a.Steps.length:Int) then (some (Bo false,[])=some r) else (Zhg a 0=some r)) else (some (Bo false,[])=some r))) else (some (Bo false,[])=some r))) else (some (Bo false,[])=some r))) else (some (Bo false,[])=some r))) else (some (Bo false,[])=some r)))) ∧
 (∀ k n i r,Im (Zjb k n i=some r) (if i<k then (Zjb k (if 1<(w (n*4)) then (w (n*4)) else 1) (w (i+1))=some r) else (some (I n,[])=some r))) ∧
 (∀ a r,Im (Zf6 a=some r) (∃ v1_0,Z2 a 0 7=some (Bo v1_0,[])∧(if v1_0=true then (Zjb a 0 0=some r) else (some (I (-1),[])=some r)))) ∧
 (∀ o l r_1 n i r,Im (Zhh o l r_1 n i=some r) (if i<(o.Steps.length:Int) then (0≤i∧(∃ e1,o.Steps[i.toNat]?=some e1∧(if e1.From≤(w (l+r_1)) then (Zhh o l r_1 (w (n+e1.Add)) (w (i+1))=some r) else (Zhh o l r_1 n (w (i+1))=some r)))) else (some (I n,[])=some r))) ∧
 (∀ a a1 a2 a3 r,Im (Zcf a a1 a2 a3=some r) (∃ v1_0,Zf5 a=some (Bo v1_0,[])∧(if v1_0=true then (∃ v2_0,Z2 a1 0 4096=some (Bo v2_0,[])∧(if v2_0=true then (∃ v3_0,Z2 a2 0 4096=some (Bo v3_0,[])∧(if v3_0=true then (∃ v4_0,Z2 a3 0 4096=some (Bo v4_0,[])∧(if v4_0=true then (Zhh a a1 a2 (w ((w ((w ((w (a.Fixed+(w (a.Zj*a1))))+(w (a.Zk*a2))))+(w (a.Zm*a3))))+(w ((w (a.Zl*a1))*a2)))) 0=some r) else (some (I 0,[])=some r))) else (some (I 0,[])=some r))) else (some (I 0,[])=some r))) else (some (I 0,[])=some r)))) ∧
 (∀ a a1 r,Im (Zhi a a1=some r) (∃ e1,a1[0]?=some e1∧(∃ v2_0,Zf6 e1=some (I v2_0,[])∧(∃ e3,a1[1]?=some e3∧(∃ v4_0,Zf6 e3=some (I v4_0,[])∧(∃ e5,a1[2]?=some e5∧(∃ v6_0,Zf6 e5=some (I v6_0,[])∧(∃ v7_0,Zcf a v2_0 v4_0 v6_0=some (I v7_0,[])∧(some (I v7_0,[])=some r))))))))) ∧
 (∀ o a r,Im (Zje o a=some r) (if a≤7 then (Zjf o a 0=some r) else (some (.tup [.own 0,.own 1,Bo false],[.arr 3 1 true (([]:List Int).map ic),.arr 3 1 true (([]:List Int).map ic)])=some r))) ∧
 (∀ o a b r,Im (Zjf o a b=some r) (if b≤7 then (Zjg o a b 0=some r) else (Zje o (w (a+1))=some r))) ∧
 (∀ o a b e r,Im (Zjg o a b e=some r) (if e≤7 then (Zfg o ([a,b,e]) a b e 0=some r) else (Zjf o a (w (b+1))=some r))) ∧
 (∀ o x a b e k r,Im (Zfg o x a b e k=some r) (if k<3 then (x.length≤68719476736∧(0≤k∧(∃ e1,x[k.toNat]?=some e1∧(if (w (e1+1))≤7 then (∃ v2_0,Zhi o (x.set k.toNat (w (e1+1)))=some (I v2_0,[])∧(∃ v3_0,Zhi o x=some (I v3_0,[])∧(if v2_0<v3_0 then (some (.tup [.own 0,.own 1,Bo true],[.arr 3 1 true (x.map ic),.arr 3 1 true ((x.set k.toNat (w (e1+1))).map ic)])=some r) else (Zfg o x a b e (w (k+1))=some r)))) else (Zfg o x a b e (w (k+1))=some r))))) else (Zjg o a b (w (e+1))=some r))) ∧
 (∀ a r,Im (Zlw a=some r) (∃ v1_0,Zf5 a=some (Bo v1_0,[])∧(if v1_0=true then (Zje a 0=some r) else (some (.tup [.own 0,.own 1,Bo false],[.arr 3 1 true (([]:List Int).map ic),.arr 3 1 true (([]:List Int).map ic)])=some r)))):=by
 and_intros
 all_goals intros
 all_goals unfold Im
 all_goals try simp only [Zhg,Zf5,Zjb,Zf6,Zhh,Zcf,Zhi,Zje,Zjf,Zjg,Zfg,Zlw,Z2,Zeo,Zi.c_def,mpl,dfs]
 all_goals try simp only [itb]
 all_goals try simp only [itf,gS,kk]
 all_goals repeat' first | refine exI fun _=>?_ | refine anJ fun _ _=>?_ | refine anI fun _=>?_ | refine orE2 ?_ ?_ | exact False.elim
 all_goals (intro h;first | rw [EvL_eq Ztw.eq_1] | refine run Zbds rfl ?_ | rw [EvL_eq Zty.eq_1] | refine run Zbdt rfl ?_ | rw [EvL_eq Zt0.eq_1] | refine run Zbdu rfl ?_ | refine run Zbdv rfl ?_ | rw [EvL_eq Zjc.eq_1] | rw [EvL_eq Zlu.eq_1] | rw [EvL_eq Zo7.eq_1] | rw [EvL_eq Zt2.eq_1] | refine run Zbdw rfl ?_)
 all_goals (refine Eq.trans ?_ h;clear h;simp +decide [*,kk,Ztx,Z0t,Ztz,Z0u,Z0v,Zt1,Z0w,Z0x,Zjd,Zlv,Zo8,Zt3,Z0y])
abbrev Z4j:=Zdp.1
abbrev Zbhd:=Zdp.2.1
abbrev Zbhe:=Zdp.2.2.1
abbrev Zbhf:=Zdp.2.2.2.1
abbrev Z4k:=Zdp.2.2.2.2.1
abbrev Zbhg:=Zdp.2.2.2.2.2.1
abbrev Zbhh:=Zdp.2.2.2.2.2.2.1
abbrev Z4l:=Zdp.2.2.2.2.2.2.2.1
abbrev Z4m:=Zdp.2.2.2.2.2.2.2.2.1
abbrev Z4n:=Zdp.2.2.2.2.2.2.2.2.2.1
abbrev Z4o:=Zdp.2.2.2.2.2.2.2.2.2.2.1
abbrev Zbhi:=Zdp.2.2.2.2.2.2.2.2.2.2.2
theorem Zdq:(∀ o a r,Im (Zjh o a=some r) (if a≤7 then (Zji o a 0=some r) else (some (.own 0,[.arr 3 1 true (([]:List Int).map ic)])=some r))) ∧
 (∀ o a b r,Im (Zji o a b=some r) (if b≤7 then (Zlz o a b 0=some r) else (Zjh o (w (a+1))=some r))) ∧
 (∀ o a b e r,Im (Zlz o a b e=some r) (if e≤7 then (∃ v1_0,Zhi o ([a,b,e])=some (I v1_0,[])∧(if v1_0<1 then (some (.own 0,[.arr 3 1 true (([a,b,e]).map ic)])=some r) else (Zlz o a b (w (e+1))=some r))) else (Zji o a (w (b+1))=some r))) ∧
 (∀ a r,Im (Zpb a=some r) (Zjh a 0=some r)) ∧
 (∀ m k r,Im (Zjj m k=some r) (if k≤5 then (∃ (v1_0:Zi),Zc3 m k=some (.agg (v1_0.c.map .t),[])∧(∃ v2_0,Zf5 v1_0=some (Bo v2_0,[])∧(if v2_0=true then (∃ (v3_0:List Int),∃ (v3_1:List Int),∃ v3_2,Zlw v1_0=some (.tup [.own 0,.own 1,Bo v3_2],[.arr 3 1 true (v3_0.map ic),.arr 3 1 true (v3_1.map ic)])∧(if v3_2=true then (some (.tup [I k,.own 0,.own 1],[.arr 3 1 true (v3_0.map ic),.arr 3 1 true (v3_1.map ic)])=some r) else (∃ (v4_0:List Int),Zpb v1_0=some (.own 0,[.arr 3 1 true (v4_0.map ic)])∧(if 0<(v4_0.length:Int) then (some (.tup [I k,.own 0,.own 1],[.arr 3 1 true (v4_0.map ic),.arr 3 1 true (([]:List Int).map ic)])=some r) else (Zjj m (w (k+1))=some r))))) else (some (.tup [I k,.own 0,.own 1],[.arr 3 1 true (([]:List Int).map ic),.arr 3 1 true (([]:List Int).map ic)])=some r)))) else (some (.tup [I 0,.own 0,.own 1],[.arr 3 1 true (([]:List Int).map ic),.arr 3 1 true (([]:List Int).map ic)])=some r))) ∧
 (∀ a r,Im (Zt8 a=some r) (Zjj a 1=some r)) ∧
 (∀ a r,Im (Zhj a=some r) (∃ (v1_0:List Int),∃ (v1_1:List Int),∃ v1_2,Zt8 a=some (.tup [I v1_2,.own 0,.own 1],[.arr 3 1 true (v1_0.map ic),.arr 3 1 true (v1_1.map ic)])∧(some (Bo (decide (v1_2=0)),[])=some r))) ∧
 (∀ a r,Im (Zpc a=some r) (if (a.size:Int)=1 then (∃ b1,a[0]?=some b1∧(if 97≤(b1.toNat:Int) then (some (Bo (decide ((b1.toNat:Int)≤122)),[])=some r) else (some (Bo false,[])=some r))) else (some (Bo false,[])=some r))) ∧
 (∀ l x i r,Im (Zl0 l x i=some r) (if i<(l.length:Int) then (0≤i∧(∃ e1,l[i.toNat]?=some e1∧(if e1=x then (some (Bo true,[])=some r) else (Zl0 l x (w (i+1))=some r)))) else (some (Bo false,[])=some r))) ∧
 (∀ a a1 r,Im (Zf7 a a1=some r) (Zl0 a a1 0=some r)) ∧
 (∀ q seen i r,Im (Zhk q seen i=some r) (if i<(q.Atoms.length:Int) then (0≤i∧(∃ e1,q.Atoms[i.toNat]?=some e1∧(∃ v2_0,Zpc e1.Name=some (Bo v2_0,[])∧(if v2_0=true then (∃ v3_0,Z2 (e1.Vars.length:Int) 1 3=some (Bo v3_0,[])∧(if v3_0=true then (Zl1 q e1 seen i 0=some r) else (some (Bo false,[])=some r))) else (some (Bo false,[])=some r))))) else (¬ q.Ze<0∧(some (Bo (decide (seen=(w ((shlI 1 q.Ze) - 1)))),[])=some r)))) ∧
 (∀ q a seen i k r,Im (Zl1 q a seen i k=some r) (if k<(a.Vars.length:Int) then (0≤k∧(∃ e1,a.Vars[k.toNat]?=some e1∧(∃ v2_0,Z2 e1 0 (w (q.Ze - 1))=some (Bo v2_0,[])∧(if v2_0=true then (k.toNat≤a.Vars.length∧(∃ v3_0,Zf7 (a.Vars.take k.toNat) e1=some (Bo v3_0,[])∧(if v3_0=true then (some (Bo false,[])=some r) else (¬ e1<0∧(Zl1 q a (orI seen (shlI 1 e1)) i (w (k+1))=some r))))) else (some (Bo false,[])=some r))))) else (Zhk q seen (w (i+1))=some r))):=by
 and_intros
 all_goals intros
 all_goals unfold Im
 all_goals try simp only [Zjh,Zji,Zlz,Zpb,Zjj,Zt8,Zhj,Zpc,Zl0,Zf7,Zhk,Zl1,Zhi,Zi.c_def,Zc3,Zf5,Zlw,Zd.c_def,Z2,mpl,dfs]
 all_goals try simp only [itb]
 all_goals try simp only [itf,gS,kk]
 all_goals repeat' first | refine exI fun _=>?_ | refine anJ fun _ _=>?_ | refine anI fun _=>?_ | refine orE2 ?_ ?_ | exact False.elim
 all_goals (intro h;first | rw [EvL_eq Zlx.eq_1] | rw [EvL_eq Zo9.eq_1] | rw [EvL_eq Zt4.eq_1] | refine run Zbdx rfl ?_ | rw [EvL_eq Zt6.eq_1] | refine run Zbdy rfl ?_ | refine run Zbdz rfl ?_ | refine run Zbd0 rfl ?_ | rw [EvL_eq Zt9.eq_1] | refine run Zbd1 rfl ?_ | rw [EvL_eq Zpd.eq_1] | rw [EvL_eq Zub.eq_1])
 all_goals (refine Eq.trans ?_ h;clear h;simp +decide [*,kk,Zly,Zpa,Zt5,Z0z,Zt7,Z00,Z01,Z02,Zua,Z03,Zpe,Zuc])
abbrev Z4p:=Zdq.1
abbrev Z4q:=Zdq.2.1
abbrev Zwc:=Zdq.2.2.1
abbrev Zbhj:=Zdq.2.2.2.1
abbrev Z4r:=Zdq.2.2.2.2.1
abbrev Zbhk:=Zdq.2.2.2.2.2.1
abbrev Zbhl:=Zdq.2.2.2.2.2.2.1
abbrev Zbhm:=Zdq.2.2.2.2.2.2.2.1
abbrev Z4s:=Zdq.2.2.2.2.2.2.2.2.1
abbrev Zbhn:=Zdq.2.2.2.2.2.2.2.2.2.1
abbrev Z4t:=Zdq.2.2.2.2.2.2.2.2.2.2.1
abbrev Z4u:=Zdq.2.2.2.2.2.2.2.2.2.2.2
theorem Zh1:(∀ a r,Im (Zep a=some r) (∃ v1_0,Z2 a.Ze 1 4=some (Bo v1_0,[])∧(if v1_0=true then (∃ v2_0,Z2 (a.Atoms.length:Int) 1 4=some (Bo v2_0,[])∧(if v2_0=true then (Zhk a 0 0=some r) else (some (Bo false,[])=some r))) else (some (Bo false,[])=some r)))) ∧
 (∀ a r,Im (Zcg a=some r) (∃ v1_0,Zep a=some (Bo v1_0,[])∧(if v1_0=true then (¬ (a.Atoms.length:Int)<0∧(some (I (w ((shlI 1 (a.Atoms.length:Int)) - 1)),[])=some r)) else (some (I 0,[])=some r)))) ∧
 (∀ l i r,Im (Zl2 l i=some r) (if i<(l.length:Int) then (0≤i∧(∃ e1,l[i.toNat]?=some e1∧(∃ v2_0,Z2 e1 0 7=some (Bo v2_0,[])∧(if v2_0=true then (Zl2 l (w (i+1))=some r) else (some (Bo false,[])=some r))))) else (some (Bo (decide ((l.length:Int)≤16)),[])=some r))) ∧
 (∀ a r,Im (Zhl a=some r) (Zl2 a 0=some r)) ∧
 (∀ a b i r,Im (Zl3 a b i=some r) (if i<(a.length:Int) then (0≤i∧(∃ e1,a[i.toNat]?=some e1∧(∃ e2,b[i.toNat]?=some e2∧(if e1<e2 then (some (Bo false,[])=some r) else (Zl3 a b (w (i+1))=some r))))) else (some (Bo true,[])=some r))) ∧
 (∀ a a1 r,Im (Zpf a a1=some r) (if (a.length:Int)=(a1.length:Int) then (Zl3 a a1 0=some r) else (some (Bo false,[])=some r))) ∧
 (∀ a r,Im (Zhm a=some r) (if 0<(a.Low.length:Int) then (∃ v1_0,Zhl a.Low=some (Bo v1_0,[])∧(if v1_0=true then (∃ v2_0,Zhl a.High=some (Bo v2_0,[])∧(if v2_0=true then (∃ v3_0,Zpf a.High a.Low=some (Bo v3_0,[])∧(some (Bo v3_0,[])=some r)) else (some (Bo false,[])=some r))) else (some (Bo false,[])=some r))) else (some (Bo false,[])=some r))):=by
 and_intros
 all_goals intros
 all_goals unfold Im
 all_goals try simp only [Zep,Zcg,Zl2,Zhl,Zl3,Zpf,Zhm,Z2,Zc.c_def,Zhk,mpl,dfs]
 all_goals try simp only [itb]
 all_goals try simp only [itf,gS,kk]
 all_goals repeat' first | refine exI fun _=>?_ | refine anJ fun _ _=>?_ | refine anI fun _=>?_ | refine orE2 ?_ ?_ | exact False.elim
 all_goals (intro h;first | refine run Zbd2 rfl ?_ | refine run Zbd3 rfl ?_ | rw [EvL_eq Zud.eq_1] | refine run Zbd4 rfl ?_ | rw [EvL_eq Zuf.eq_1] | refine run Zbd5 rfl ?_ | refine run Zbd6 rfl ?_)
 all_goals (refine Eq.trans ?_ h;clear h;simp +decide [*,kk,Z04,Z05,Zue,Z06,Zug,Z07,Z08])
abbrev Zbho:=Zh1.1
abbrev Zbhp:=Zh1.2.1
abbrev Z4v:=Zh1.2.2.1
abbrev Zbhq:=Zh1.2.2.2.1
abbrev Z4w:=Zh1.2.2.2.2.1
abbrev Zbhr:=Zh1.2.2.2.2.2.1
abbrev Zbhs:=Zh1.2.2.2.2.2.2
theorem Zdr:(∀ b n i r,Im (Zl4 b n i=some r) (if i<(b.Low.length:Int) then (0≤i∧(∃ e1,b.High[i.toNat]?=some e1∧(∃ e2,b.Low[i.toNat]?=some e2∧(Zl4 b (if (w (n*(w ((w (e1 - e2))+1))))<401 then (w (n*(w ((w (e1 - e2))+1)))) else 401) (w (i+1))=some r)))) else (some (I n,[])=some r))) ∧
 (∀ a r,Im (Zfh a=some r) (∃ v1_0,Zhm a=some (Bo v1_0,[])∧(if v1_0=true then (Zl4 a 1 0=some r) else (some (I 0,[])=some r)))) ∧
 (∀ q mask x i r,Im (Zhn q mask x i=some r) (if i<(q.Atoms.length:Int) then (Zjk q mask x i 0=some r) else (some (I x,[])=some r))) ∧
 (∀ q mask x i k r,Im (Zjk q mask x i k=some r) (0≤i∧(∃ e1,q.Atoms[i.toNat]?=some e1∧(if k<(e1.Vars.length:Int) then (¬ i<0∧(if (andI (shrI mask i) 1)=1 then (0≤k∧(∃ e2,e1.Vars[k.toNat]?=some e2∧(¬ e2<0∧(Zjk q mask (orI x (shlI 1 e2)) i (w (k+1))=some r)))) else (Zhn q mask x (w (i+1))=some r))) else (Zhn q mask x (w (i+1))=some r))))) ∧
 (∀ a a1 r,Im (Zcq a a1=some r) (Zhn a a1 0 0=some r)) ∧
 (∀ a a1 r,Im (Zjl a a1=some r) (∃ v1_0,Z2 a1 0 3=some (Bo v1_0,[])∧(if v1_0=true then (¬ a1<0∧(some (Bo (decide ((andI (shrI a a1) 1)=1)),[])=some r)) else (some (Bo false,[])=some r)))) ∧
 (∀ x x1 x2 a b y v r,Im (Zjm x x1 x2 a b y v=some r) (if x1.Kind=4 then (∃ v1_0,Zjl v x1.Order=some (Bo v1_0,[])∧(if v1_0=true then (if a.Order=x1.Order then (if b.Order=x1.Order then (some (.tup [.agg [I y.Mask,I x1.Order,I y.Left,I y.Right],I 2],[])=some r) else (some (.tup [.agg [I 0,I 0,I 0,I 0],I (-1)],[])=some r)) else (some (.tup [.agg [I 0,I 0,I 0,I 0],I (-1)],[])=some r)) else (some (.tup [.agg [I 0,I 0,I 0,I 0],I (-1)],[])=some r))) else (some (.tup [.agg (y.c.map .t),I 2],[])=some r))) ∧
 (∀ x x1 x2 a b y v x3 r,Im (Zf8 x x1 x2 a b y v x3=some r) (if x1.Kind=4 then (∃ v1_0,Zjl v x1.Order=some (Bo v1_0,[])∧(if v1_0=true then (if a.Order=x1.Order then (if b.Order=x1.Order then (some (.tup [.agg [I y.Mask,I x1.Order,I y.Left,I y.Right],I 2],[])=some r) else (some (.tup [.agg [I 0,I 0,I 0,I 0],I (-1)],[])=some r)) else (some (.tup [.agg [I 0,I 0,I 0,I 0],I (-1)],[])=some r)) else (some (.tup [.agg [I 0,I 0,I 0,I 0],I (-1)],[])=some r))) else (some (.tup [.agg (y.c.map .t),I 2],[])=some r))) ∧
 (∀ a a1 a2 a3 r,Im (Zho a a1 a2 a3=some r) (if a1.Kind=1 then (∃ v1_0,Z2 a1.Atom 0 (w ((a.Atoms.length:Int) - 1))=some (Bo v1_0,[])∧(if v1_0=true then (if a1.Order=0 then (¬ a1.Atom<0∧(0≤a1.Atom∧(∃ e2,a.Atoms[a1.Atom.toNat]?=some e2∧(∃ e3,e2.Vars[0]?=some e3∧(some (.tup [.agg [I (shlI 1 a1.Atom),I e3,I (-1),I (-1)],I 0],[])=some r))))) else (some (.tup [.agg [I 0,I 0,I 0,I 0],I (-1)],[])=some r)) else (some (.tup [.agg [I 0,I 0,I 0,I 0],I (-1)],[])=some r))) else (if a1.Kind=2 then (if a1.Atom=0 then (if (a3.length:Int)<1 then (some (.tup [.agg [I 0,I 0,I 0,I 0],I (-1)],[])=some r) else (0≤(w ((a3.length:Int) - 1))∧(∃ e4,a3[(w ((a3.length:Int) - 1)).toNat]?=some e4∧(0≤e4∧(∃ e5,a2[e4.toNat]?=some e5∧(if e5.Order=a1.Order then (some (.tup [.agg [I 0,I 0,I 0,I 0],I (-1)],[])=some r) else (∃ v6_0,Zcq a e5.Mask=some (I v6_0,[])∧(∃ v7_0,Zjl v6_0 a1.Order=some (Bo v7_0,[])∧(if v7_0=true then (some (.tup [.agg [I e5.Mask,I a1.Order,I e4,I (-1)],I 1],[])=some r) else (some (.tup [.agg [I 0,I 0,I 0,I 0],I (-1)],[])=some r)))))))))) else (some (.tup [.agg [I 0,I 0,I 0,I 0],I (-1)],[])=some r)) else (if a1.Kind=3 then (Zhp a a1 (⟨0,0,0,0⟩:Zg) a2 a3 (a3.length:Int) a1.Kind true=some r) else (if a1.Kind=4 then (Zhp a a1 (⟨0,0,0,0⟩:Zg) a2 a3 (a3.length:Int) a1.Kind true=some r) else (if a1.Kind=5 then (if a1.Atom=0 then (if (a3.length:Int)<2 then (some (.tup [.agg [I 0,I 0,I 0,I 0],I (-1)],[])=some r) else (0≤(w ((a3.length:Int) - 2))∧(∃ e8,a3[(w ((a3.length:Int) - 2)).toNat]?=some e8∧(0≤e8∧(∃ e9,a2[e8.toNat]?=some e9∧(0≤(w ((a3.length:Int) - 1))∧(∃ e10,a3[(w ((a3.length:Int) - 1)).toNat]?=some e10∧(0≤e10∧(∃ e11,a2[e10.toNat]?=some e11∧(∃ v12_0,Zcq a e9.Mask=some (I v12_0,[])∧(∃ v13_0,Zcq a e11.Mask=some (I v13_0,[])∧(if (andI e9.Mask e11.Mask)=0 then (if (andI v12_0 v13_0)=0 then (some (.tup [.agg [I 0,I 0,I 0,I 0],I (-1)],[])=some r) else (if a1.Order=0 then (Zjm a a1 (⟨0,0,0,0⟩:Zg) e9 e11 (⟨(orI e9.Mask e11.Mask),e9.Order,e8,e10⟩:Zg) (andI v12_0 v13_0)=some r) else (some (.tup [.agg [I 0,I 0,I 0,I 0],I (-1)],[])=some r))) else (some (.tup [.agg [I 0,I 0,I 0,I 0],I (-1)],[])=some r))))))))))))) else (some (.tup [.agg [I 0,I 0,I 0,I 0],I (-1)],[])=some r)) else (some (.tup [.agg [I 0,I 0,I 0,I 0],I (-1)],[])=some r))))))) ∧
 (∀ q p info stack i r,Im (Zl5 q p info stack i=some r) (if i<(p.Steps.length:Int) then (0≤i∧(∃ e1,p.Steps[i.toNat]?=some e1∧(∃ (v2_0:Zg),∃ v2_1,Zho q e1 info stack=some (.tup [.agg (v2_0.c.map .t),I v2_1],[])∧(if v2_1<0 then (some (.tup [.own 0,Bo false],[.arr 209 4 true (([]:List Zg).map Zg.c)])=some r) else (info.length+1≤68719476736∧(0≤(w ((stack.length:Int) - v2_1))∧((w ((stack.length:Int) - v2_1)).toNat≤stack.length∧((w ((stack.length:Int) - v2_1)).toNat≤68719476736∧((w ((stack.length:Int) - v2_1)).toNat+1≤68719476736∧(Zl5 q p (info++[v2_0]) ((stack.take ((w ((stack.length:Int) - v2_1)).toNat))++[i]) (w (i+1))=some r)))))))))) else (if (stack.length:Int)=1 then (some (.tup [.own 0,Bo true],[.arr 209 4 true (info.map Zg.c)])=some r) else (some (.tup [.own 0,Bo false],[.arr 209 4 true (([]:List Zg).map Zg.c)])=some r)))) ∧
 (∀ a a1 r,Im (Zjn a a1=some r) (∃ v1_0,Zep a=some (Bo v1_0,[])∧(if v1_0=true then (∃ v2_0,Z2 (a1.Steps.length:Int) 1 14=some (Bo v2_0,[])∧(if v2_0=true then (Zl5 a a1 ([]:List Zg) ([]:List Int) 0=some r) else (some (.tup [.own 0,Bo false],[.arr 209 4 true (([]:List Zg).map Zg.c)])=some r))) else (some (.tup [.own 0,Bo false],[.arr 209 4 true (([]:List Zg).map Zg.c)])=some r)))) ∧
 (∀ a a1 r,Im (Zl6 a a1=some r) (∃ (v1_0:List Zg),∃ v1_1,Zjn a a1=some (.tup [.own 0,Bo v1_1],[.arr 209 4 true (v1_0.map Zg.c)])∧(if v1_1=true then (0≤(w ((v1_0.length:Int) - 1))∧(∃ e2,v1_0[(w ((v1_0.length:Int) - 1)).toNat]?=some e2∧(some (I e2.Mask,[])=some r))) else (some (I 0,[])=some r)))):=by
 and_intros
 all_goals intros
 all_goals unfold Im
 all_goals try simp only [Zl4,Zfh,Zhn,Zjk,Zcq,Zjl,Zho,Zl5,Zjn,Zl6,Zhm,Box.c_def,Z2,Zc.c_def,Zb.c_def,Zg.c_def,Zep,Plan.c_def,Zhp,Zjm,Zf8,mpl,dfs]
 all_goals try simp only [itb]
 all_goals try simp only [itf,gS,kk]
 all_goals repeat' first | refine exI fun _=>?_ | refine anJ fun _ _=>?_ | refine anI fun _=>?_ | refine orE2 ?_ ?_ | exact False.elim
 all_goals (intro h;first | rw [EvL_eq Zuh.eq_1] | refine run Zbd7 rfl ?_ | rw [EvL_eq Zpg.eq_1] | rw [EvL_eq Zuj.eq_1] | refine run Zbd8 rfl ?_ | refine run Zbd9 rfl ?_ | rw [Ev_eq Zpi.eq_1] | refine run Zbea rfl ?_ | rw [EvL_eq Zul.eq_1] | refine run Zbeb rfl ?_ | refine run Zbec rfl ?_)
 all_goals (refine Eq.trans ?_ h;clear h;simp +decide [*,kk,Zui,Z09,Zph,Zuk,Z1a,Z1b,Z1c,Z1d,Zpj,Zum,Z1e,Z1f])
abbrev Z4x:=Zdr.1
abbrev Zbht:=Zdr.2.1
abbrev Z4y:=Zdr.2.2.1
abbrev Zwd:=Zdr.2.2.2.1
abbrev Zbhu:=Zdr.2.2.2.2.1
abbrev Zbhv:=Zdr.2.2.2.2.2.1
abbrev Zbhw:=Zdr.2.2.2.2.2.2.1
abbrev Zwe:=Zdr.2.2.2.2.2.2.2.1
abbrev Zeu:=Zdr.2.2.2.2.2.2.2.2.1
abbrev Z4z:=Zdr.2.2.2.2.2.2.2.2.2.1
abbrev Zbhx:=Zdr.2.2.2.2.2.2.2.2.2.2.1
abbrev Zbhy:=Zdr.2.2.2.2.2.2.2.2.2.2.2
theorem Zm3:(∀ q b i r,Im (Zjo q b i=some r) (if i<(b.Plans.length:Int) then (0≤i∧(∃ e1,b.Plans[i.toNat]?=some e1∧(∃ v2_0,Zl6 q e1=some (I v2_0,[])∧(∃ v3_0,Zcg q=some (I v3_0,[])∧(if v2_0=v3_0 then (if v3_0=0 then (some (Bo false,[])=some r) else (Zjo q b (w (i+1))=some r)) else (some (Bo false,[])=some r)))))) else (Zhq b 0=some r))) ∧
 (∀ b k r,Im (Zhq b k=some r) (if k<(b.Budgets.length:Int) then (0≤k∧(∃ e1,b.Budgets[k.toNat]?=some e1∧(∃ v2_0,Z2 e1 1 500000000000=some (Bo v2_0,[])∧(if v2_0=true then (if 0<k then (0≤(w (k - 1))∧(∃ e3,b.Budgets[(w (k - 1)).toNat]?=some e3∧(if e1=(w (e3*b.Ratio)) then (∃ e4,b.Contours[k.toNat]?=some e4∧(if (e4.length:Int)=0 then (some (Bo false,[])=some r) else (Zhr b k 0=some r))) else (some (Bo false,[])=some r)))) else (∃ e5,b.Contours[k.toNat]?=some e5∧(if (e5.length:Int)=0 then (some (Bo false,[])=some r) else (Zhr b k 0=some r)))) else (some (Bo false,[])=some r))))) else (some (Bo true,[])=some r))) ∧
 (∀ b k i r,Im (Zhr b k i=some r) (0≤k∧(∃ e1,b.Contours[k.toNat]?=some e1∧(if i<(e1.length:Int) then (0≤i∧(∃ e2,e1[i.toNat]?=some e2∧(∃ v3_0,Z2 e2 0 (w ((b.Plans.length:Int) - 1))=some (Bo v3_0,[])∧(if v3_0=true then (i.toNat≤e1.length∧(∃ v4_0,Zf7 (e1.take i.toNat) e2=some (Bo v4_0,[])∧(if v4_0=true then (some (Bo false,[])=some r) else (Zhr b k (w (i+1))=some r)))) else (some (Bo false,[])=some r))))) else (Zhq b (w (k+1))=some r))))) ∧
 (∀ a a1 r,Im (Zl7 a a1=some r) (∃ v1_0,Z2 a1.Version 1 999=some (Bo v1_0,[])∧(if v1_0=true then (∃ v2_0,Z2 a1.Ratio 2 8=some (Bo v2_0,[])∧(if v2_0=true then (∃ v3_0,Z2 a1.Slack 0 100=some (Bo v3_0,[])∧(if v3_0=true then (∃ v4_0,Zcg a=some (I v4_0,[])∧(if (a1.Box.Low.length:Int)=(w (v4_0+1)) then (∃ v5_0,Zfh a1.Box=some (I v5_0,[])∧(∃ v6_0,Z2 v5_0 1 400=some (Bo v6_0,[])∧(if v6_0=true then (if (a1.Budgets.length:Int)=0 then (some (Bo false,[])=some r) else (if (a1.Budgets.length:Int)=(a1.Contours.length:Int) then (Zjo a a1 0=some r) else (some (Bo false,[])=some r))) else (some (Bo false,[])=some r)))) else (some (Bo false,[])=some r))) else (some (Bo false,[])=some r))) else (some (Bo false,[])=some r))) else (some (Bo false,[])=some r)))) ∧
 (∀ a a1 r,Im (Zhs a a1=some r) (∃ v1_0,Zep a=some (Bo v1_0,[])∧(if v1_0=true then (¬ (a.Atoms.length:Int)<0∧(∃ v2_0,Z2 a1 0 (w ((shlI 1 (a.Atoms.length:Int)) - 1))=some (Bo v2_0,[])∧(some (Bo v2_0,[])=some r))) else (some (Bo false,[])=some r)))):=by
 and_intros
 all_goals intros
 all_goals unfold Im
 all_goals try simp only [Zjo,Zhq,Zhr,Zl7,Zhs,Zl6,Zcg,Plan.c_def,Zc.c_def,Z2,Zf7,Zfh,Box.c_def,Zep,mpl,dfs]
 all_goals try simp only [itb]
 all_goals try simp only [itf,gS,kk]
 all_goals repeat' first | refine exI fun _=>?_ | refine anJ fun _ _=>?_ | refine anI fun _=>?_ | refine orE2 ?_ ?_ | exact False.elim
 all_goals (intro h;first | rw [EvL_eq Zun.eq_1] | rw [EvL_eq Zpk.eq_1] | rw [EvL_eq Zuo.eq_1] | refine run Zbed rfl ?_ | refine run Zbee rfl ?_)
 all_goals (refine Eq.trans ?_ h;clear h;simp +decide [*,kk,Zuq,Zpl,Zup,Z1g,Z1h])
abbrev Z40:=Zm3.1
abbrev Zwf:=Zm3.2.1
abbrev Z41:=Zm3.2.2.1
abbrev Zbhz:=Zm3.2.2.2.1
abbrev Zbh0:=Zm3.2.2.2.2
theorem Zm4 (q:Zc) (x:Zb) (x1:Zg) (info:List Zg) (stack:List Int) (n:Int) (x2:Int) (x3:Bool) (r:AV×List Blk) (h:(if x3=true then (if x.Atom=0 then (if n<2 then (some (.tup [.agg [I 0,I 0,I 0,I 0],I (-1)],[])=some r) else (0≤(w (n - 2))∧(∃ (e1:Int),stack[(w (n - 2)).toNat]?=some e1∧(0≤e1∧(∃ (e2:Zg),info[e1.toNat]?=some e2∧(0≤(w (n - 1))∧(∃ (e3:Int),stack[(w (n - 1)).toNat]?=some e3∧(0≤e3∧(∃ (e4:Zg),info[e3.toNat]?=some e4∧(∃ (v5_0:Int),Zcq q e2.Mask=some (I v5_0,[])∧(∃ (v6_0:Int),Zcq q e4.Mask=some (I v6_0,[])∧(if (andI e2.Mask e4.Mask)=0 then (if (andI v5_0 v6_0)=0 then (some (.tup [.agg [I 0,I 0,I 0,I 0],I (-1)],[])=some r) else (if x.Kind=4 then (Zf8 q x x1 e2 e4 (⟨(orI e2.Mask e4.Mask),(-1),e1,e3⟩:Zg) (andI v5_0 v6_0) false=some r) else (if x.Order=0 then (if x.Kind=5 then (Zjm q x x1 e2 e4 (⟨(orI e2.Mask e4.Mask),e2.Order,e1,e3⟩:Zg) (andI v5_0 v6_0)=some r) else (Zf8 q x x1 e2 e4 (⟨(orI e2.Mask e4.Mask),(-1),e1,e3⟩:Zg) (andI v5_0 v6_0) false=some r)) else (some (.tup [.agg [I 0,I 0,I 0,I 0],I (-1)],[])=some r)))) else (some (.tup [.agg [I 0,I 0,I 0,I 0],I (-1)],[])=some r))))))))))))) else (some (.tup [.agg [I 0,I 0,I 0,I 0],I (-1)],[])=some r)) else (some (.tup [.agg [I 0,I 0,I 0,I 0],I (-1)],[])=some r))):Zhp q x x1 info stack n x2 x3=some r:=by
 unfold Zhp
 rw [Ev_eq Zpj.eq_1]
 by_cases q1:x3=true
 ·rw [if_pos q1] at h
  by_cases q2:x.Atom=0
  ·rw [if_pos q2] at h
   replace q2:=eq_true q2
   by_cases q3:n<2
   ·rw [if_pos q3] at h
    refine Eq.trans ?_ h
    clear h
    simp +decide [*]
   ·rw [if_neg q3] at h
    obtain ⟨q4,h⟩:=h
    obtain ⟨e1,q5,h⟩:=h
    have gq5:=ltOfGet q5
    have kq5:=getOf q5
    obtain ⟨q6,h⟩:=h
    obtain ⟨e2,q7,h⟩:=h
    have gq7:=ltOfGet q7
    have kq7:=getOf q7
    obtain ⟨q8,h⟩:=h
    obtain ⟨e3,q9,h⟩:=h
    have gq9:=ltOfGet q9
    have kq9:=getOf q9
    obtain ⟨q10,h⟩:=h
    obtain ⟨e4,q11,h⟩:=h
    have gq11:=ltOfGet q11
    have kq11:=getOf q11
    obtain ⟨v5_0,q12,h⟩:=h
    unfold Zcq at q12
    try simp at q12
    obtain ⟨v6_0,q13,h⟩:=h
    unfold Zcq at q13
    try simp at q13
    by_cases q14:(andI e2.Mask e4.Mask)=0
    ·rw [if_pos q14] at h
     replace q14:=eq_true q14
     by_cases q15:(andI v5_0 v6_0)=0
     ·rw [if_pos q15] at h
      replace q15:=eq_true q15
      refine Eq.trans ?_ h
      clear h
      simp +decide [*]
     ·rw [if_neg q15] at h
      replace q15:=eq_false q15
      by_cases q16:x.Kind=4
      ·rw [if_pos q16] at h
       replace q16:=eq_true q16
       have q17:(x.Kind=5)=False:=eq_false (by intro hh;simp_all)
       refine Eq.trans ?_ h
       clear h
       simp +decide [*,Zf8]
      ·rw [if_neg q16] at h
       replace q16:=eq_false q16
       by_cases q18:x.Order=0
       ·rw [if_pos q18] at h
        replace q18:=eq_true q18
        by_cases q19:x.Kind=5
        ·rw [if_pos q19] at h
         replace q19:=eq_true q19
         refine Eq.trans ?_ h
         clear h
         simp +decide [*,Zjm]
        ·rw [if_neg q19] at h
         replace q19:=eq_false q19
         refine Eq.trans ?_ h
         clear h
         simp +decide [*,Zf8]
       ·rw [if_neg q18] at h
        replace q18:=eq_false q18
        refine Eq.trans ?_ h
        clear h
        simp +decide [*]
    ·rw [if_neg q14] at h
     replace q14:=eq_false q14
     refine Eq.trans ?_ h
     clear h
     simp +decide [*]
  ·rw [if_neg q2] at h
   replace q2:=eq_false q2
   refine Eq.trans ?_ h
   clear h
   simp +decide [*]
 ·rw [if_neg q1] at h
  refine Eq.trans ?_ h
  clear h
  simp +decide [*]
theorem Zds:(∀ q mask out bits i r,Im (Zht q mask out bits i=some r) (if i<(q.Atoms.length:Int) then (¬ i<0∧(if (andI (shrI mask i) 1)=0 then (∃ v1_0,Zcq q (shlI 1 i)=some (I v1_0,[])∧(if (andI v1_0 bits)=0 then (Zht q mask out bits (w (i+1))=some r) else (Zht q mask (orI out (shlI 1 i)) bits (w (i+1))=some r))) else (Zht q mask out bits (w (i+1))=some r))) else (some (I out,[])=some r))) ∧
 (∀ a a1 r,Im (Zpm a a1=some r) (∃ v1_0,Zcq a a1=some (I v1_0,[])∧(Zht a a1 0 v1_0 0=some r))) ∧
 (∀ q mask x n r,Im (Zl8 q mask x n=some r) (if n<(q.Atoms.length:Int) then (∃ v1_0,Zpm q x=some (I v1_0,[])∧(Zl8 q mask (orI x (andI v1_0 mask)) (w (n+1))=some r)) else (some (Bo (decide (x=mask)),[])=some r))) ∧
 (∀ a a1 r,Im (Zhu a a1=some r) (Zl8 a a1 (andI a1 (w (0 - a1))) 0=some r)) ∧
 (∀ a a1 r,Im (Zhv a a1=some r) (∃ v1_0,Zhs a a1=some (Bo v1_0,[])∧(if v1_0=true then (if 0<a1 then (∃ v2_0,Zhu a a1=some (Bo v2_0,[])∧(some (Bo v2_0,[])=some r)) else (some (Bo false,[])=some r)) else (some (Bo false,[])=some r)))) ∧
 (∀ out l i r,Im (Zl9 out l i=some r) (if i<(l.length:Int) then (∃ v1_0,Zhl l=some (Bo v1_0,[])∧(if v1_0=true then (0≤i∧(∃ e2,l[i.toNat]?=some e2∧(∃ v3_0,Zf6 e2=some (I v3_0,[])∧(out.length+1≤68719476736∧(Zl9 (out++[v3_0]) l (w (i+1))=some r))))) else (some (.own 0,[.arr 3 1 true (out.map ic)])=some r))) else (some (.own 0,[.arr 3 1 true (out.map ic)])=some r))) ∧
 (∀ a r,Im (Zeq a=some r) (Zl9 ([]:List Int) a 0=some r)) ∧
 (∀ sizes i r,Im (Zma sizes i=some r) (if i<(sizes.length:Int) then (0≤i∧(∃ e1,sizes[i.toNat]?=some e1∧(∃ v2_0,Z2 e1 0 4096=some (Bo v2_0,[])∧(if v2_0=true then (Zma sizes (w (i+1))=some r) else (some (Bo false,[])=some r))))) else (some (Bo true,[])=some r))) ∧
 (∀ a a1 r,Im (Zhw a a1=some r) (∃ v1_0,Zep a=some (Bo v1_0,[])∧(if v1_0=true then (∃ v2_0,Zcg a=some (I v2_0,[])∧(if (a1.length:Int)=(w (v2_0+1)) then (Zma a1 0=some r) else (some (Bo false,[])=some r))) else (some (Bo false,[])=some r)))) ∧
 (∀ q out full m r,Im (Zjp q out full m=some r) (if m≤full then (∃ v1_0,Zhu q m=some (Bo v1_0,[])∧(if v1_0=true then (out.length+1≤68719476736∧(Zjp q (out++[m]) full (w (m+1))=some r)) else (Zjp q out full (w (m+1))=some r))) else (some (.own 0,[.arr 3 1 true (out.map ic)])=some r))) ∧
 (∀ a r,Im (Zmb a=some r) (∃ v1_0,Zcg a=some (I v1_0,[])∧(Zjp a ([]:List Int) v1_0 1=some r))) ∧
 (∀ q out mask m r,Im (Zer q out mask m=some r) (if m<mask then (if (andI m mask)=m then (∃ v1_0,Zhu q m=some (Bo v1_0,[])∧(if v1_0=true then (∃ v2_0,Zhu q (w (mask - m))=some (Bo v2_0,[])∧(if v2_0=true then (out.length+1≤68719476736∧(Zer q (out++[m]) mask (w (m+1))=some r)) else (Zer q out mask (w (m+1))=some r))) else (Zer q out mask (w (m+1))=some r))) else (Zer q out mask (w (m+1))=some r)) else (some (.own 0,[.arr 3 1 true (out.map ic)])=some r))):=by
 and_intros
 all_goals intros
 all_goals unfold Im
 all_goals try simp only [Zht,Zpm,Zl8,Zhu,Zhv,Zl9,Zeq,Zma,Zhw,Zjp,Zmb,Zer,Zcq,Zc.c_def,Zhs,Zhl,Zf6,Z2,Zep,Zcg,mpl,dfs]
 all_goals try simp only [itb]
 all_goals try simp only [itf,gS,kk]
 all_goals repeat' first | refine exI fun _=>?_ | refine anJ fun _ _=>?_ | refine anI fun _=>?_ | refine orE2 ?_ ?_ | exact False.elim
 all_goals (intro h;first | rw [EvL_eq Zur.eq_1] | refine run Zbef rfl ?_ | rw [EvL_eq Zut.eq_1] | refine run Zbeg rfl ?_ | refine run Zbeh rfl ?_ | rw [EvL_eq Zuv.eq_1] | refine run Zbei rfl ?_ | rw [EvL_eq Zux.eq_1] | refine run Zbej rfl ?_ | rw [EvL_eq Zuz.eq_1] | refine run Zbek rfl ?_ | rw [EvL_eq Zu1.eq_1])
 all_goals (refine Eq.trans ?_ h;clear h;simp +decide [*,kk,Z1i,Zus,Z1j,Zuu,Z1k,Z1l,Zuw,Z1m,Zuy,Z1n,Z1o,Zu0,Z1p,Z1q,Zu2])
abbrev Z42:=Zds.1
abbrev Zbh1:=Zds.2.1
abbrev Z43:=Zds.2.2.1
abbrev Zbh2:=Zds.2.2.2.1
abbrev Zbh3:=Zds.2.2.2.2.1
abbrev Zwg:=Zds.2.2.2.2.2.1
abbrev Z44:=Zds.2.2.2.2.2.2.1
abbrev Z45:=Zds.2.2.2.2.2.2.2.1
abbrev Zbh4:=Zds.2.2.2.2.2.2.2.2.1
abbrev Z46:=Zds.2.2.2.2.2.2.2.2.2.1
abbrev Zbh5:=Zds.2.2.2.2.2.2.2.2.2.2.1
abbrev Z47:=Zds.2.2.2.2.2.2.2.2.2.2.2
theorem Zdt:(∀ a a1 r,Im (Zpn a a1=some r) (∃ v1_0,Zhv a a1=some (Bo v1_0,[])∧(if v1_0=true then (Zer a ([]:List Int) a1 1=some r) else (some (.own 0,[.arr 3 1 true (([]:List Int).map ic)])=some r)))) ∧
 (∀ out bits v r,Im (Zjq out bits v=some r) (if v<4 then (¬ v<0∧(if (andI (shrI bits v) 1)=1 then (out.length+1≤68719476736∧(Zjq (out++[v]) bits (w (v+1))=some r)) else (Zjq out bits (w (v+1))=some r))) else (some (.own 0,[.arr 3 1 true (out.map ic)])=some r))) ∧
 (∀ a r,Im (Zu5 a=some r) (Zjq ([]:List Int) a 0=some r)) ∧
 (∀ a a1 r,Im (Zmc a a1=some r) (∃ v1_0,Zhs a a1=some (Bo v1_0,[])∧(if v1_0=true then (∃ v2_0,Zcq a a1=some (I v2_0,[])∧(∃ (v3_0:List Int),Zu5 v2_0=some (.own 0,[.arr 3 1 true (v3_0.map ic)])∧(some (.own 0,[.arr 3 1 true (v3_0.map ic)])=some r))) else (some (.own 0,[.arr 3 1 true (([]:List Int).map ic)])=some r)))) ∧
 (∀ out x y i r,Im (Zjs out x y i=some r) (if i<(x.length:Int) then (0≤i∧(∃ e1,x[i.toNat]?=some e1∧(∃ v2_0,Zf7 y e1=some (Bo v2_0,[])∧(if v2_0=true then (out.length+1≤68719476736∧(Zjs (out++[e1]) x y (w (i+1))=some r)) else (Zjs out x y (w (i+1))=some r))))) else (some (.own 0,[.arr 3 1 true (out.map ic)])=some r))) ∧
 (∀ a a1 a2 r,Im (Zjr a a1 a2=some r) (∃ (v1_0:List Int),Zmc a a1=some (.own 0,[.arr 3 1 true (v1_0.map ic)])∧(∃ (v2_0:List Int),Zmc a a2=some (.own 0,[.arr 3 1 true (v2_0.map ic)])∧(Zjs ([]:List Int) v1_0 v2_0 0=some r)))) ∧
 (∀ q out masks i r,Im (Zf9 q out masks i=some r) (if i<(masks.length:Int) then (0≤i∧(∃ e1,masks[i.toNat]?=some e1∧(∃ (v2_0:List Int),Zpn q e1=some (.own 0,[.arr 3 1 true (v2_0.map ic)])∧(Zpr q out masks e1 v2_0 i 0=some r)))) else (some (.own 0,[.arr 257 3 true (out.map Zu.c)])=some r))) ∧
 (∀ q out masks mask x i k r,Im (Zpr q out masks mask x i k=some r) (if k<(x.length:Int) then (0≤k∧(∃ e1,x[k.toNat]?=some e1∧(0≤i∧(∃ e2,masks[i.toNat]?=some e2∧(∃ (v3_0:List Int),Zjr q e1 (w (e2 - e1))=some (.own 0,[.arr 3 1 true (v3_0.map ic)])∧(Zmf q out masks mask x ([v3_0]) i (w (k+1))=some r)))))) else (out.length+1≤68719476736∧(Zf9 q (out++[(⟨mask,x,[]⟩:Zu)]) masks (w (i+1))=some r)))) ∧
 (∀ q out masks mask x x1 i k r,Im (Zmf q out masks mask x x1 i k=some r) (if k<(x.length:Int) then (0≤k∧(∃ e1,x[k.toNat]?=some e1∧(0≤i∧(∃ e2,masks[i.toNat]?=some e2∧(∃ (v3_0:List Int),Zjr q e1 (w (e2 - e1))=some (.own 0,[.arr 3 1 true (v3_0.map ic)])∧(x1.length+1≤68719476736∧(Zmf q out masks mask x (x1++[v3_0]) i (w (k+1))=some r))))))) else (out.length+1≤68719476736∧(Zf9 q (out++[(⟨mask,x,x1⟩:Zu)]) masks (w (i+1))=some r)))) ∧
 (∀ a r,Im (Zfi a=some r) (∃ (v1_0:List Int),Zmb a=some (.own 0,[.arr 3 1 true (v1_0.map ic)])∧(Zf9 a ([]:List Zu) v1_0 0=some r))) ∧
 (∀ out mask i r,Im (Zjt out mask i=some r) (if i<4 then (∃ v1_0,Z2 mask 0 15=some (Bo v1_0,[])∧(if v1_0=true then (¬ i<0∧(if (andI (shrI mask i) 1)=1 then (out.length+1≤68719476736∧(Zjt (out++[i]) mask (w (i+1))=some r)) else (Zjt out mask (w (i+1))=some r))) else (some (.own 0,[.arr 3 1 true (out.map ic)])=some r))) else (some (.own 0,[.arr 3 1 true (out.map ic)])=some r))) ∧
 (∀ a r,Im (Zmg a=some r) (Zjt ([]:List Int) a 0=some r)):=by
 and_intros
 all_goals intros
 all_goals unfold Im
 all_goals try simp only [Zpn,Zjq,Zu5,Zmc,Zjs,Zjr,Zf9,Zpr,Zmf,Zfi,Zjt,Zmg,Zhv,Zc.c_def,Zhs,Zcq,Zf7,Zmb,Z2,Zer,mpl,dfs]
 all_goals try simp only [itb]
 all_goals try simp only [itf,gS,kk]
 all_goals repeat' first | refine exI fun _=>?_ | refine anJ fun _ _=>?_ | refine anI fun _=>?_ | refine orE2 ?_ ?_ | exact False.elim
 all_goals (intro h;first | refine run Zbel rfl ?_ | rw [EvL_eq Zu3.eq_1] | refine run Zbem rfl ?_ | refine run Zben rfl ?_ | rw [EvL_eq Zu6.eq_1] | refine run Zbeo rfl ?_ | rw [EvL_eq Zmd.eq_1] | rw [EvL_eq Zpo.eq_1] | refine run Zbep rfl ?_ | rw [EvL_eq Zu8.eq_1] | refine run Zbeq rfl ?_)
 all_goals (refine Eq.trans ?_ h;clear h;simp +decide [*,kk,Z1r,Z1s,Zu4,Z1t,Z1u,Z1v,Zu7,Z1w,Zme,Zpq,Zpp,Z1x,Z1y,Zu9,Z1z])
abbrev Zbh6:=Zdt.1
abbrev Z48:=Zdt.2.1
abbrev Zbh7:=Zdt.2.2.1
abbrev Zbh8:=Zdt.2.2.2.1
abbrev Z49:=Zdt.2.2.2.2.1
abbrev Zbh9:=Zdt.2.2.2.2.2.1
abbrev Z5a:=Zdt.2.2.2.2.2.2.1
abbrev Zbia:=Zdt.2.2.2.2.2.2.2.1
abbrev Z5b:=Zdt.2.2.2.2.2.2.2.2.1
abbrev Zbib:=Zdt.2.2.2.2.2.2.2.2.2.1
abbrev Z5c:=Zdt.2.2.2.2.2.2.2.2.2.2.1
abbrev Zbic:=Zdt.2.2.2.2.2.2.2.2.2.2.2
theorem Zgf:(∀ a r,Im (Zmh a=some r) (some (.agg [.own 0],[.arr 194 3 true (([(⟨1,a,0⟩:Zb)]).map Zb.c)])=some r)) ∧
 (∀ l mask best i r,Im (Zga l mask best i=some r) (if i<(l.length:Int) then (0≤i∧(∃ e1,l[i.toNat]?=some e1∧(if e1.Mask=mask then (if best<0 then (Zga l mask i (w (i+1))=some r) else (0≤best∧(∃ e2,l[best.toNat]?=some e2∧(if e1.Cost<e2.Cost then (Zga l mask i (w (i+1))=some r) else (Zga l mask best (w (i+1))=some r))))) else (Zga l mask best (w (i+1))=some r)))) else (some (I best,[])=some r))) ∧
 (∀ a a1 r,Im (Zfj a a1=some r) (Zga a a1 (-1) 0=some r)) ∧
 (∀ a a1 a2 a3 r,Im (Zdh a a1 a2 a3=some r) (a.Steps.length≤68719476736∧(a.Steps.length+a1.Steps.length≤68719476736∧(a.Steps.length+a1.Steps.length+1≤68719476736∧(some (.agg [.own 0],[.arr 194 3 true (((a.Steps++a1.Steps)++[(⟨a2,0,a3⟩:Zb)]).map Zb.c)])=some r))))) ∧
 (∀ x x1 a a1 a2 a3 a4 a5 r,Im (Zhx x x1 a a1 a2 a3 a4 a5=some r) (∃ (v1_0:Zi),Zc3 a a3=some (.agg (v1_0.c.map .t),[])∧(0≤a1.Mask∧(∃ e2,x[a1.Mask.toNat]?=some e2∧(0≤a2.Mask∧(∃ e3,x[a2.Mask.toNat]?=some e3∧(0≤(orI a1.Mask a2.Mask)∧(∃ e4,x[(orI a1.Mask a2.Mask).toNat]?=some e4∧(∃ v5_0,Zcf v1_0 e2 e3 e4=some (I v5_0,[])∧(0≤(w (a5+1))∧(∃ e6,x1[(w (a5+1)).toNat]?=some e6∧(if e6.Mask=0 then (∃ (v7_0:List Zb),Zdh a1.Plan a2.Plan a3 a4=some (.agg [.own 0],[.arr 194 3 true (v7_0.map Zb.c)])∧(some (.tup [],[.arr 3 1 true (x.map ic),.arr 145 4 true ((x1.set ((w (a5+1)).toNat) (⟨(orI a1.Mask a2.Mask),a5,(w ((w (a1.Cost+a2.Cost))+v5_0)),(⟨v7_0⟩:Plan)⟩:Za)).map Za.c)])=some r)) else (if (w ((w (a1.Cost+a2.Cost))+v5_0))<e6.Cost then (∃ (v8_0:List Zb),Zdh a1.Plan a2.Plan a3 a4=some (.agg [.own 0],[.arr 194 3 true (v8_0.map Zb.c)])∧(some (.tup [],[.arr 3 1 true (x.map ic),.arr 145 4 true ((x1.set ((w (a5+1)).toNat) (⟨(orI a1.Mask a2.Mask),a5,(w ((w (a1.Cost+a2.Cost))+v5_0)),(⟨v8_0⟩:Plan)⟩:Za)).map Za.c)])=some r)) else (some (.tup [],[.arr 3 1 true (x.map ic),.arr 145 4 true (x1.map Za.c)])=some r)))))))))))))) ∧
 (∀ l mask order i r,Im (Zjv l mask order i=some r) (if i<(l.length:Int) then (0≤i∧(∃ e1,l[i.toNat]?=some e1∧(if e1.Mask=mask then (if e1.Order=order then (some (I i,[])=some r) else (Zjv l mask order (w (i+1))=some r)) else (Zjv l mask order (w (i+1))=some r)))) else (some (I (-1),[])=some r))) ∧
 (∀ a a1 a2 r,Im (Zju a a1 a2=some r) (Zjv a a1 a2 0=some r)) ∧
 (∀ a a1 r,Im (Zjw a a1=some r) (a.Steps.length≤68719476736∧(a.Steps.length+1≤68719476736∧(some (.agg [.own 0],[.arr 194 3 true ((a.Steps++[(⟨2,0,a1⟩:Zb)]).map Zb.c)])=some r)))):=by
 and_intros
 all_goals intros
 all_goals unfold Im
 all_goals try simp only [Zmh,Zga,Zfj,Zdh,Zhx,Zjv,Zju,Zjw,Zc3,Zcf,Zd.c_def,Zi.c_def,Plan.c_def,mpl,dfs]
 all_goals try simp only [itb]
 all_goals try simp only [itf,gS,kk]
 all_goals repeat' first | refine exI fun _=>?_ | refine anJ fun _ _=>?_ | refine anI fun _=>?_ | refine orE2 ?_ ?_ | exact False.elim
 all_goals (intro h;first | refine run Zber rfl ?_ | rw [EvL_eq Zva.eq_1] | refine run Zbes rfl ?_ | refine run Zbet rfl ?_ | refine runM Z2x rfl ?_ | rw [EvL_eq Zvd.eq_1] | refine run Zbeu rfl ?_ | refine run Zbev rfl ?_)
 all_goals (refine Eq.trans ?_ h;clear h;simp +decide [*,kk,Z10,Z11,Zvb,Z12,Z13,Zvc,Zve,Z14,Z15])
abbrev Zbid:=Zgf.1
abbrev Z5d:=Zgf.2.1
abbrev Zbie:=Zgf.2.2.1
abbrev Zbif:=Zgf.2.2.2.1
abbrev Zbig:=Zgf.2.2.2.2.1
abbrev Z5e:=Zgf.2.2.2.2.2.1
abbrev Zbih:=Zgf.2.2.2.2.2.2.1
abbrev Zbii:=Zgf.2.2.2.2.2.2.2
theorem Zdu:(∀ x x1 x2 a a1 Mask Order Cost a2 a3 a4 r,Im (Zps x x1 x2 a a1 Mask Order Cost a2 a3 a4=some r) (∃ (v1_0:Zi),Zc3 a a2=some (.agg (v1_0.c.map .t),[])∧(0≤a1.Mask∧(∃ e2,x[a1.Mask.toNat]?=some e2∧(0≤Mask∧(∃ e3,x[Mask.toNat]?=some e3∧(0≤(orI a1.Mask Mask)∧(∃ e4,x[(orI a1.Mask Mask).toNat]?=some e4∧(∃ v5_0,Zcf v1_0 e2 e3 e4=some (I v5_0,[])∧(0≤(w (a4+1))∧(∃ e6,x1[(w (a4+1)).toNat]?=some e6∧(if e6.Mask=0 then (∃ (v7_0:List Zb),Zdh a1.Plan (⟨x2⟩:Plan) a2 a3=some (.agg [.own 0],[.arr 194 3 true (v7_0.map Zb.c)])∧(some (.tup [],[.arr 3 1 true (x.map ic),.arr 145 4 true ((x1.set ((w (a4+1)).toNat) (⟨(orI a1.Mask Mask),a4,(w ((w (a1.Cost+Cost))+v5_0)),(⟨v7_0⟩:Plan)⟩:Za)).map Za.c),.arr 194 3 true (x2.map Zb.c)])=some r)) else (if (w ((w (a1.Cost+Cost))+v5_0))<e6.Cost then (∃ (v8_0:List Zb),Zdh a1.Plan (⟨x2⟩:Plan) a2 a3=some (.agg [.own 0],[.arr 194 3 true (v8_0.map Zb.c)])∧(some (.tup [],[.arr 3 1 true (x.map ic),.arr 145 4 true ((x1.set ((w (a4+1)).toNat) (⟨(orI a1.Mask Mask),a4,(w ((w (a1.Cost+Cost))+v5_0)),(⟨v8_0⟩:Plan)⟩:Za)).map Za.c),.arr 194 3 true (x2.map Zb.c)])=some r)) else (some (.tup [],[.arr 3 1 true (x.map ic),.arr 145 4 true (x1.map Za.c),.arr 194 3 true (x2.map Zb.c)])=some r)))))))))))))) ∧
 (∀ x x1 x2 a Mask Order Cost a1 a2 a3 a4 r,Im (Zpt x x1 x2 a Mask Order Cost a1 a2 a3 a4=some r) (∃ (v1_0:Zi),Zc3 a a2=some (.agg (v1_0.c.map .t),[])∧(0≤Mask∧(∃ e2,x[Mask.toNat]?=some e2∧(0≤a1.Mask∧(∃ e3,x[a1.Mask.toNat]?=some e3∧(0≤(orI Mask a1.Mask)∧(∃ e4,x[(orI Mask a1.Mask).toNat]?=some e4∧(∃ v5_0,Zcf v1_0 e2 e3 e4=some (I v5_0,[])∧(0≤(w (a4+1))∧(∃ e6,x1[(w (a4+1)).toNat]?=some e6∧(if e6.Mask=0 then (∃ (v7_0:List Zb),Zdh (⟨x2⟩:Plan) a1.Plan a2 a3=some (.agg [.own 0],[.arr 194 3 true (v7_0.map Zb.c)])∧(some (.tup [],[.arr 3 1 true (x.map ic),.arr 145 4 true ((x1.set ((w (a4+1)).toNat) (⟨(orI Mask a1.Mask),a4,(w ((w (Cost+a1.Cost))+v5_0)),(⟨v7_0⟩:Plan)⟩:Za)).map Za.c),.arr 194 3 true (x2.map Zb.c)])=some r)) else (if (w ((w (Cost+a1.Cost))+v5_0))<e6.Cost then (∃ (v8_0:List Zb),Zdh (⟨x2⟩:Plan) a1.Plan a2 a3=some (.agg [.own 0],[.arr 194 3 true (v8_0.map Zb.c)])∧(some (.tup [],[.arr 3 1 true (x.map ic),.arr 145 4 true ((x1.set ((w (a4+1)).toNat) (⟨(orI Mask a1.Mask),a4,(w ((w (Cost+a1.Cost))+v5_0)),(⟨v8_0⟩:Plan)⟩:Za)).map Za.c),.arr 194 3 true (x2.map Zb.c)])=some r)) else (some (.tup [],[.arr 3 1 true (x.map ic),.arr 145 4 true (x1.map Za.c),.arr 194 3 true (x2.map Zb.c)])=some r)))))))))))))) ∧
 (∀ x x1 x2 x3 a Mask Order Cost Mask1 Order1 Cost1 a1 a2 a3 r,Im (Zpu x x1 x2 x3 a Mask Order Cost Mask1 Order1 Cost1 a1 a2 a3=some r) (∃ (v1_0:Zi),Zc3 a a1=some (.agg (v1_0.c.map .t),[])∧(0≤Mask∧(∃ e2,x[Mask.toNat]?=some e2∧(0≤Mask1∧(∃ e3,x[Mask1.toNat]?=some e3∧(0≤(orI Mask Mask1)∧(∃ e4,x[(orI Mask Mask1).toNat]?=some e4∧(∃ v5_0,Zcf v1_0 e2 e3 e4=some (I v5_0,[])∧(0≤(w (a3+1))∧(∃ e6,x1[(w (a3+1)).toNat]?=some e6∧(if e6.Mask=0 then (∃ (v7_0:List Zb),Zdh (⟨x2⟩:Plan) (⟨x3⟩:Plan) a1 a2=some (.agg [.own 0],[.arr 194 3 true (v7_0.map Zb.c)])∧(some (.tup [],[.arr 3 1 true (x.map ic),.arr 145 4 true ((x1.set ((w (a3+1)).toNat) (⟨(orI Mask Mask1),a3,(w ((w (Cost+Cost1))+v5_0)),(⟨v7_0⟩:Plan)⟩:Za)).map Za.c),.arr 194 3 true (x2.map Zb.c),.arr 194 3 true (x3.map Zb.c)])=some r)) else (if (w ((w (Cost+Cost1))+v5_0))<e6.Cost then (∃ (v8_0:List Zb),Zdh (⟨x2⟩:Plan) (⟨x3⟩:Plan) a1 a2=some (.agg [.own 0],[.arr 194 3 true (v8_0.map Zb.c)])∧(some (.tup [],[.arr 3 1 true (x.map ic),.arr 145 4 true ((x1.set ((w (a3+1)).toNat) (⟨(orI Mask Mask1),a3,(w ((w (Cost+Cost1))+v5_0)),(⟨v8_0⟩:Plan)⟩:Za)).map Za.c),.arr 194 3 true (x2.map Zb.c),.arr 194 3 true (x3.map Zb.c)])=some r)) else (some (.tup [],[.arr 3 1 true (x.map ic),.arr 145 4 true (x1.map Za.c),.arr 194 3 true (x2.map Zb.c),.arr 194 3 true (x3.map Zb.c)])=some r)))))))))))))) ∧
 (∀ x fr x1 a a1 a2 r,Im (Zes x fr x1 a a1 a2=some r) (∃ v1_0,Zfj x1 a1=some (I v1_0,[])∧(0≤v1_0∧(∃ e2,x1[v1_0.toNat]?=some e2∧(0≤a1∧(∃ e3,x[a1.toNat]?=some e3∧(∃ v4_0,Zcf a.Sort_ e3 0 e3=some (I v4_0,[])∧(∃ v5_0,Zju x1 a1 a2=some (I v5_0,[])∧(if 0≤v5_0 then (∃ e6,x1[v5_0.toNat]?=some e6∧(if e6.Cost≤(w (e2.Cost+v4_0)) then (some (.agg (e6.c.map .t),[.arr 3 1 true (x.map ic),.arr 145 4 fr (x1.map Za.c)])=some r) else (∃ (v7_0:List Zb),Zjw e2.Plan a2=some (.agg [.own 0],[.arr 194 3 true (v7_0.map Zb.c)])∧(some (.agg [I a1,I a2,I (w (e2.Cost+v4_0)),.own 2],[.arr 3 1 true (x.map ic),.arr 145 4 fr (x1.map Za.c),.arr 194 3 true (v7_0.map Zb.c)])=some r)))) else (∃ (v8_0:List Zb),Zjw e2.Plan a2=some (.agg [.own 0],[.arr 194 3 true (v8_0.map Zb.c)])∧(some (.agg [I a1,I a2,I (w (e2.Cost+v4_0)),.own 2],[.arr 3 1 true (x.map ic),.arr 145 4 fr (x1.map Za.c),.arr 194 3 true (v8_0.map Zb.c)])=some r))))))))))) ∧
 (∀ sizes fr l m x mine k r,Im (Zjx sizes fr l m x mine k=some r) (if k<(x.Zq.length:Int) then (0≤k∧(∃ e1,x.Zq[k.toNat]?=some e1∧(∃ v2_0,Zfj l e1=some (I v2_0,[])∧(0≤v2_0∧(∃ e3,l[v2_0.toNat]?=some e3∧(∃ v4_0,Zfj l (w (x.mask - e1))=some (I v4_0,[])∧(0≤v4_0∧(∃ e5,l[v4_0.toNat]?=some e5∧(∃ (v6_0:List Int) (v6_1:List Za),Zhx sizes mine m e3 e5 3 0 (-1)=some (.tup [],[.arr 3 1 true (v6_0.map ic),.arr 145 4 true (v6_1.map Za.c)])∧(Zjy v6_0 fr l m x v6_1 e5 k e1 (w (x.mask - e1)) (-1)=some r)))))))))) else (Zhy mine true ([]:List Za) sizes fr l 0=some r))) ∧
 (∀ sizes fr l m x mine b k left right o r,Im (Zjy sizes fr l m x mine b k left right o=some r) (if o<4 then (∃ v1_0,Zju l left o=some (I v1_0,[])∧(if 0≤v1_0 then (∃ e2,l[v1_0.toNat]?=some e2∧(∃ (v3_0:List Int) (v3_1:List Za),Zhx sizes mine m e2 b 5 0 o=some (.tup [],[.arr 3 1 true (v3_0.map ic),.arr 145 4 true (v3_1.map Za.c)])∧(Zjy v3_0 fr l m x v3_1 b k left right (w (o+1))=some r))) else (Zjy sizes fr l m x mine b k left right (w (o+1))=some r))) else (Zfk sizes fr l m x mine k left right 0=some r))) ∧
 (∀ mine fr out x fr1 x1 o r,Im (Zhy mine fr out x fr1 x1 o=some r) (if o≤4 then (0≤o∧(∃ e1,mine[o.toNat]?=some e1∧(if 0<e1.Mask then (out.length+1≤68719476736∧(Zhy mine false (out++[e1]) x fr1 x1 (w (o+1))=some r)) else (Zhy mine fr out x fr1 x1 (w (o+1))=some r)))) else (some (.own 2,[.arr 3 1 true (x.map ic),.arr 145 4 fr1 (x1.map Za.c),.arr 145 4 fr (out.map Za.c)])=some r))) ∧
 (∀ sizes fr l m x mine k left right e r,Im (Zfk sizes fr l m x mine k left right e=some r) (0≤k∧(∃ e1,x.shared[k.toNat]?=some e1∧(if e<(e1.length:Int) then (0≤e∧(∃ e2,e1[e.toNat]?=some e2∧((∃ (v3_0:Za),Zes sizes fr l m left e2=some (.agg (v3_0.c.map .t),[.arr 3 1 true (sizes.map ic),.arr 145 4 fr (l.map Za.c)])∧((∃ (v4_0:Za),Zes sizes fr l m right e2=some (.agg (v4_0.c.map .t),[.arr 3 1 true (sizes.map ic),.arr 145 4 fr (l.map Za.c)])∧(∃ (v5_0:List Int) (v5_1:List Za),Zhx sizes mine m v3_0 v4_0 4 e2 e2=some (.tup [],[.arr 3 1 true (v5_0.map ic),.arr 145 4 true (v5_1.map Za.c)])∧(Zfk v5_0 fr l m x v5_1 k left right (w (e+1))=some r)))∨(∃ (v6_0:List Zb),∃ v6_1,∃ v6_2,∃ v6_3,Zes sizes fr l m right e2=some (.agg [I v6_1,I v6_2,I v6_3,.own 2],[.arr 3 1 true (sizes.map ic),.arr 145 4 fr (l.map Za.c),.arr 194 3 true (v6_0.map Zb.c)])∧(∃ (v7_0:List Int) (v7_1:List Za) (v7_2:List Zb),Zps sizes mine v6_0 m v3_0 v6_1 v6_2 v6_3 4 e2 e2=some (.tup [],[.arr 3 1 true (v7_0.map ic),.arr 145 4 true (v7_1.map Za.c),.arr 194 3 true (v7_2.map Zb.c)])∧(Zfk v7_0 fr l m x v7_1 k left right (w (e+1))=some r)))))∨(∃ (v8_0:List Zb),∃ v8_1,∃ v8_2,∃ v8_3,Zes sizes fr l m left e2=some (.agg [I v8_1,I v8_2,I v8_3,.own 2],[.arr 3 1 true (sizes.map ic),.arr 145 4 fr (l.map Za.c),.arr 194 3 true (v8_0.map Zb.c)])∧((∃ (v9_0:Za),Zes sizes fr l m right e2=some (.agg (v9_0.c.map .t),[.arr 3 1 true (sizes.map ic),.arr 145 4 fr (l.map Za.c)])∧(∃ (v10_0:List Int) (v10_1:List Za) (v10_2:List Zb),Zpt sizes mine v8_0 m v8_1 v8_2 v8_3 v9_0 4 e2 e2=some (.tup [],[.arr 3 1 true (v10_0.map ic),.arr 145 4 true (v10_1.map Za.c),.arr 194 3 true (v10_2.map Zb.c)])∧(Zfk v10_0 fr l m x v10_1 k left right (w (e+1))=some r)))∨(∃ (v11_0:List Zb),∃ v11_1,∃ v11_2,∃ v11_3,Zes sizes fr l m right e2=some (.agg [I v11_1,I v11_2,I v11_3,.own 2],[.arr 3 1 true (sizes.map ic),.arr 145 4 fr (l.map Za.c),.arr 194 3 true (v11_0.map Zb.c)])∧(∃ (v12_0:List Int) (v12_1:List Za) (v12_2:List Zb) (v12_3:List Zb),Zpu sizes mine v8_0 v11_0 m v8_1 v8_2 v8_3 v11_1 v11_2 v11_3 4 e2 e2=some (.tup [],[.arr 3 1 true (v12_0.map ic),.arr 145 4 true (v12_1.map Za.c),.arr 194 3 true (v12_2.map Zb.c),.arr 194 3 true (v12_3.map Zb.c)])∧(Zfk v12_0 fr l m x v12_1 k left right (w (e+1))=some r)))))))) else (Zjx sizes fr l m x mine (w (k+1))=some r))))) ∧
 (∀ x fr x1 a a1 r,Im (Zpw x fr x1 a a1=some r) (Zjx x fr x1 a a1 (List.replicate 5 (⟨0,0,0,(⟨[]⟩:Plan)⟩:Za)) 0=some r)) ∧
 (∀ shapes sizes m q fr out i r,Im (Zjz shapes sizes m q fr out i=some r) (if i<(shapes.length:Int) then (0≤i∧(∃ e1,shapes[i.toNat]?=some e1∧(if (andI e1.mask (w (e1.mask - 1)))=0 then (∃ (v2_0:List Int),Zmg e1.mask=some (.own 0,[.arr 3 1 true (v2_0.map ic)])∧(∃ e3,v2_0[0]?=some e3∧(0≤e3∧(∃ e4,q.Atoms[e3.toNat]?=some e4∧(∃ e5,e4.Vars[0]?=some e5∧(0≤e1.mask∧(∃ e6,sizes[e1.mask.toNat]?=some e6∧(∃ v7_0,Zcf m.Scan e6 0 e6=some (I v7_0,[])∧(∃ (v8_0:List Zb),Zmh e3=some (.agg [.own 0],[.arr 194 3 true (v8_0.map Zb.c)])∧(out.length+1≤68719476736∧(Zjz shapes sizes m q fr (out++[(⟨e1.mask,e5,v7_0,(⟨v8_0⟩:Plan)⟩:Za)]) (w (i+1))=some r))))))))))) else (∃ v9_0,∃ (v9_1:List Za),Zpw sizes fr out m e1=some (.own 2,[.arr 3 1 true (sizes.map ic),.arr 145 4 fr (out.map Za.c),.arr 145 4 v9_0 (v9_1.map Za.c)])∧(out.length+v9_1.length≤68719476736∧(Zjz shapes sizes m q (fr && flat (v9_1.map Za.c)) (out++v9_1) (w (i+1))=some r)))))) else (some (.own 2,[.arr 257 3 true (shapes.map Zu.c),.arr 3 1 true (sizes.map ic),.arr 145 4 fr (out.map Za.c)])=some r))) ∧
 (∀ x x1 a a1 r,Im (Zgb x x1 a a1=some r) (Zjz x x1 a a1 true ([]:List Za) 0=some r)) ∧
 (∀ x a a1 r,Im (Zmk x a a1=some r) (∃ v1_0,Zhj a=some (Bo v1_0,[])∧(if v1_0=true then (∃ v2_0,Zhw a1 x=some (Bo v2_0,[])∧(if v2_0=true then (∃ (v3_0:List Zu),Zfi a1=some (.own 0,[.arr 257 3 true (v3_0.map Zu.c)])∧(∃ v4_0,∃ (v4_1:List Za),Zgb v3_0 x a a1=some (.own 2,[.arr 257 3 true (v3_0.map Zu.c),.arr 3 1 true (x.map ic),.arr 145 4 v4_0 (v4_1.map Za.c)])∧(some (.own 1,[.arr 3 1 true (x.map ic),.arr 145 4 v4_0 (v4_1.map Za.c)])=some r))) else (some (.own 1,[.arr 3 1 true (x.map ic),.arr 145 4 true (([]:List Za).map Za.c)])=some r))) else (some (.own 1,[.arr 3 1 true (x.map ic),.arr 145 4 true (([]:List Za).map Za.c)])=some r)))):=by
 and_intros
 all_goals intros
 all_goals unfold Im
 all_goals try simp only [Zps,Zpt,Zpu,Zes,Zjx,Zjy,Zhy,Zfk,Zpw,Zjz,Zgb,Zmk,Zc3,Zcf,Zdh,Zd.c_def,Zi.c_def,Plan.c_def,Zfj,Zju,Zjw,Za.c_def,Zhx,Zb.c_def,Zmg,Zmh,Zu.c_def,Zhj,Zhw,Zfi,Zc.c_def,mpl,dfs]
 all_goals try simp only [itb]
 all_goals try simp only [itf,gS,kk]
 all_goals repeat' first | refine exI fun _=>?_ | refine anJ fun _ _=>?_ | refine anI fun _=>?_ | refine orE2 ?_ ?_ | exact False.elim
 all_goals (intro h;first | refine runM Z2x rfl ?_ | refine runM Zbew rfl ?_ | rw [EvL_eq Zmi.eq_1] | rw [EvL_eq Zvf.eq_1] | rw [EvL_eq Zvi.eq_1] | rw [EvL_eq Zvg.eq_1] | refine runM Zbex rfl ?_ | rw [EvL_eq Zvk.eq_1] | refine runM Zbey rfl ?_ | refine runM Zbez rfl ?_)
 all_goals (refine Eq.trans ?_ h;clear h;simp +decide [*,kk,Zvc,Z16,Zmj,Z17,Zvh,Z18,Zvj,Zpv,Z19,Z2a,Zvl,Z2b,Z2c])
abbrev Zbij:=Zdu.1
abbrev Zbik:=Zdu.2.1
abbrev Zbil:=Zdu.2.2.1
abbrev Zwh:=Zdu.2.2.2.1
abbrev Z5f:=Zdu.2.2.2.2.1
abbrev Z5g:=Zdu.2.2.2.2.2.1
abbrev Zwi:=Zdu.2.2.2.2.2.2.1
abbrev Z5h:=Zdu.2.2.2.2.2.2.2.1
abbrev Zbim:=Zdu.2.2.2.2.2.2.2.2.1
abbrev Zwj:=Zdu.2.2.2.2.2.2.2.2.2.1
abbrev Zbin:=Zdu.2.2.2.2.2.2.2.2.2.2.1
abbrev Zbio:=Zdu.2.2.2.2.2.2.2.2.2.2.2
theorem Z5i:(∀ a a1 r,Im (Zc4 a a1=some r) (∃ v1_0,Zfj a a1=some (I v1_0,[])∧(if v1_0<0 then (some (.tup [.agg [I 0,I 0,I 0,.t .nil],Bo false],[])=some r) else (0≤v1_0∧(∃ e2,a[v1_0.toNat]?=some e2∧(e2.Plan.Steps.length≤68719476736∧(some (.tup [.agg [I e2.Mask,I e2.Order,I e2.Cost,.own 0],Bo true],[.arr 194 3 true (e2.Plan.Steps.map Zb.c)])=some r))))))) ∧
 (∀ x a a1 r,Im (Zml x a a1=some r) ((∃ (v1_0:List Int),∃ v1_1,∃ (v1_2:List Za),Zmk x a a1=some (.own 1,[.arr 3 1 true (v1_0.map ic),.arr 145 4 v1_1 (v1_2.map Za.c)])∧(∃ v2_0,Zcg a1=some (I v2_0,[])∧((∃ v3_0 v3_1 v3_2,Zc4 v1_2 v2_0=some (.tup [.agg [I v3_0,I v3_1,I v3_2,.t .nil],Bo false],[])∧(some (.tup [.agg [I v3_0,I v3_1,I v3_2,.t .nil],Bo false],[.arr 3 1 true (v1_0.map ic)])=some r))∨(∃ (v4_0:List Zb),∃ v4_1,∃ v4_2,∃ v4_3,Zc4 v1_2 v2_0=some (.tup [.agg [I v4_1,I v4_2,I v4_3,.own 0],Bo true],[.arr 194 3 true (v4_0.map Zb.c)])∧(some (.tup [.agg [I v4_1,I v4_2,I v4_3,.own 1],Bo true],[.arr 3 1 true (v1_0.map ic),.arr 194 3 true (v4_0.map Zb.c)])=some r)))))∨(∃ (v5_0:List Int) (v5_1:List Za),Zmk x a a1=some (.own 1,[.arr 3 1 true (v5_0.map ic),.arr 145 4 true (v5_1.map Za.c)])∧(∃ v6_0,Zcg a1=some (I v6_0,[])∧((∃ v7_0 v7_1 v7_2,Zc4 v5_1 v6_0=some (.tup [.agg [I v7_0,I v7_1,I v7_2,.t .nil],Bo false],[])∧(some (.tup [.agg [I v7_0,I v7_1,I v7_2,.t .nil],Bo false],[.arr 3 1 true (v5_0.map ic)])=some r))∨(∃ (v8_0:List Zb),∃ v8_1,∃ v8_2,∃ v8_3,Zc4 v5_1 v6_0=some (.tup [.agg [I v8_1,I v8_2,I v8_3,.own 0],Bo true],[.arr 194 3 true (v8_0.map Zb.c)])∧(some (.tup [.agg [I v8_1,I v8_2,I v8_3,.own 1],Bo true],[.arr 3 1 true (v5_0.map ic),.arr 194 3 true (v8_0.map Zb.c)])=some r))))))):=by
 and_intros
 all_goals intros
 all_goals unfold Im
 all_goals try simp only [Zc4,Zml,Zfj,Plan.c_def,Za.c_def,Zmk,Zcg,Zd.c_def,Zi.c_def,Zc.c_def,mpl,dfs]
 all_goals try simp only [itb]
 all_goals try simp only [itf,gS,kk]
 all_goals repeat' first | refine exI fun _=>?_ | refine anJ fun _ _=>?_ | refine anI fun _=>?_ | refine orE2 ?_ ?_ | exact False.elim
 all_goals (intro h;first | refine run Zbe0 rfl ?_ | refine runM Zbe1 rfl ?_)
 all_goals (refine Eq.trans ?_ h;clear h;simp +decide [*,kk,Z2d,Z2e])
abbrev Zbip:=Z5i.1
abbrev Zbiq:=Z5i.2
end Go.Proofs.YtgnfoghkbpkgjaaGreat
