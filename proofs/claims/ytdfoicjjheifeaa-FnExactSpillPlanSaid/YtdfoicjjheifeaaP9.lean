/-
  Parts of the proofs for this seat: G2 G3 V1 V2 V3 V4 V5 V6 RS RT SQ K FA.
-/
import Derived.Test.YtdfoicjjheifeaaP7
import Derived.Test.YtdfoicjjheifeaaP8
set_option linter.unusedSimpArgs false
set_option linter.unusedVariables false
set_option maxRecDepth 100000
set_option maxHeartbeats 4000000
/- part: G2 -/
namespace Go.Proofs.Ytdfoicjjheifeaa
open Go.AM
theorem Zj5 (a:Int) (a1:Int) (a2:Int) (r:AV×List Blk) (h:(if a1≤a then (some (Bo (decide (a≤a2)),[])=some r) else (some (Bo false,[])=some r))):Zl a a1 a2=some r:=by
 unfold Zl
 refine run Zje rfl ?_
 try simp only [itb] at h
 try simp only [itf,List.getElem?_eq_some_iff,kk] at h
 rcases h with ⟨q1,h⟩ | ⟨q1,h⟩
 all_goals (refine Eq.trans ?_ h;clear h;simp +decide [*,kk,Zga])
theorem Zj6 (a:ByteArray) (r:AV×List Blk) (h:(if (a.size:Int)=1 then (∃ (b1:UInt8),a[0]?=some b1∧(if 97≤(b1.toNat:Int) then (some (Bo (decide ((b1.toNat:Int)≤122)),[])=some r) else (some (Bo false,[])=some r))) else (some (Bo false,[])=some r))):Zcf a=some r:=by
 unfold Zcf
 refine run Zjf rfl ?_
 try simp only [itb] at h
 try simp only [itf,List.getElem?_eq_some_iff,kk] at h
 rcases h with ⟨q1,b1,q2,(⟨q3,h⟩ | ⟨q3,h⟩)⟩ | ⟨q1,h⟩
 all_goals (refine Eq.trans ?_ h;clear h;simp +decide [*,kk,Zgb])
theorem Zgu (l:List Int) (x:Int) (i:Int) (r:AV×List Blk) (h:(if i<(l.length:Int) then (0≤i∧(∃ (e1:Int),l[i.toNat]?=some e1∧(if e1=x then (some (Bo true,[])=some r) else (Zbs l x (w (i+1))=some r)))) else (some (Bo false,[])=some r))):Zbs l x i=some r:=by
 unfold Zbs
 rw [EvL_eq Zed.eq_1]
 try simp only [itb] at h
 try simp only [itf,List.getElem?_eq_some_iff,kk] at h
 rcases h with ⟨q1,q2,e1,⟨g3,q3⟩,(⟨q4,h⟩ | ⟨q4,h⟩)⟩ | ⟨q1,h⟩
 all_goals (refine Eq.trans ?_ h;clear h;simp +decide [*,kk,Zbs,Zee])
theorem Zj7 (a:List Int) (a1:Int) (r:AV×List Blk) (h:(Zbs a a1 0=some r)):Zcg a a1=some r:=by
 unfold Zcg
 refine run Zjg rfl ?_
 refine Eq.trans ?_ h;clear h;simp +decide [*,kk,Zgc,Zbs]
theorem Zgv (q:Zc) (seen:Int) (i:Int) (r:AV×List Blk) (h:(if i<(q.Atoms.length:Int) then (0≤i∧(∃ (e1:Atom),q.Atoms[i.toNat]?=some e1∧(∃ (v2_0:Bool),Zcf e1.Name=some (Bo v2_0,[])∧(if v2_0=true then (∃ (v3_0:Bool),Zl (e1.Vars.length:Int) 1 3=some (Bo v3_0,[])∧(if v3_0=true then (Zbt q e1 seen i 0=some r) else (some (Bo false,[])=some r))) else (some (Bo false,[])=some r))))) else (¬ q.Zd<0∧(some (Bo (decide (seen=(w ((shlI 1 q.Zd) - 1)))),[])=some r)))):Zbb q seen i=some r:=by
 unfold Zbb
 rw [EvL_eq Zc8.eq_1]
 simp only [Zcf,Zl,mpl,dfs] at h
 try simp only [itb] at h
 try simp only [itf,List.getElem?_eq_some_iff,kk] at h
 rcases h with ⟨q1,q2,e1,⟨g3,q3⟩,v2_0,q4,(⟨q5,v3_0,q6,(⟨q7,h⟩ | ⟨q7,h⟩)⟩ | ⟨q5,h⟩)⟩ | ⟨q1,q8,h⟩
 all_goals (refine Eq.trans ?_ h;clear h;simp +decide [*,kk,Zbt,Zc9])
theorem Zgw (q:Zc) (a:Atom) (seen:Int) (i:Int) (k:Int) (r:AV×List Blk) (h:(if k<(a.Vars.length:Int) then (0≤k∧(∃ (e1:Int),a.Vars[k.toNat]?=some e1∧(∃ (v2_0:Bool),Zl e1 0 (w (q.Zd - 1))=some (Bo v2_0,[])∧(if v2_0=true then (k.toNat≤a.Vars.length∧(∃ (v3_0:Bool),Zcg (a.Vars.take k.toNat) e1=some (Bo v3_0,[])∧(if v3_0=true then (some (Bo false,[])=some r) else (¬ e1<0∧(Zbt q a (orI seen (shlI 1 e1)) i (w (k+1))=some r))))) else (some (Bo false,[])=some r))))) else (Zbb q seen (w (i+1))=some r))):Zbt q a seen i k=some r:=by
 unfold Zbt
 rw [EvL_eq Zef.eq_1]
 simp only [Zl,Zcg,mpl,dfs] at h
 try simp only [itb] at h
 try simp only [itf,List.getElem?_eq_some_iff,kk] at h
 rcases h with ⟨q1,q2,e1,⟨g3,q3⟩,v2_0,q4,(⟨q5,q6,v3_0,q7,(⟨q8,h⟩ | ⟨q8,q9,h⟩)⟩ | ⟨q5,h⟩)⟩ | ⟨q1,h⟩
 all_goals (refine Eq.trans ?_ h;clear h;simp +decide [*,kk,Zbt,Zbb,Zeg])
theorem Zj8 (a:Zc) (r:AV×List Blk) (h:(∃ (v1_0:Bool),Zl a.Zd 1 4=some (Bo v1_0,[])∧(if v1_0=true then (∃ (v2_0:Bool),Zl (a.Atoms.length:Int) 1 4=some (Bo v2_0,[])∧(if v2_0=true then (Zbb a 0 0=some r) else (some (Bo false,[])=some r))) else (some (Bo false,[])=some r)))):Zch a=some r:=by
 unfold Zch
 refine run Zjh rfl ?_
 simp only [Zl,mpl,dfs] at h
 try simp only [itb] at h
 try simp only [itf,List.getElem?_eq_some_iff,kk] at h
 rcases h with ⟨v1_0,q1,(⟨q2,v2_0,q3,(⟨q4,h⟩ | ⟨q4,h⟩)⟩ | ⟨q2,h⟩)⟩
 all_goals (refine Eq.trans ?_ h;clear h;simp +decide [*,kk,Zgd,Zbb])
theorem Zgx (q:Zc) (mask:Int) (x:Int) (i:Int) (r:AV×List Blk) (h:(if i<(q.Atoms.length:Int) then (Zbc q mask x i 0=some r) else (some (I x,[])=some r))):Z3 q mask x i=some r:=by
 unfold Z3
 rw [EvL_eq Zda.eq_1]
 try simp only [itb] at h
 try simp only [itf,List.getElem?_eq_some_iff,kk] at h
 rcases h with ⟨q1,h⟩ | ⟨q1,h⟩
 all_goals (refine Eq.trans ?_ h;clear h;simp +decide [*,kk,Zbc,Zdb])
theorem Zeq (q:Zc) (mask:Int) (x:Int) (i:Int) (k:Int) (r:AV×List Blk) (h:(0≤i∧(∃ (e1:Atom),q.Atoms[i.toNat]?=some e1∧(if k<(e1.Vars.length:Int) then (¬ i<0∧(if (andI (shrI mask i) 1)=1 then (0≤k∧(∃ (e2:Int),e1.Vars[k.toNat]?=some e2∧(¬ e2<0∧(Zbc q mask (orI x (shlI 1 e2)) i (w (k+1))=some r)))) else (Z3 q mask x (w (i+1))=some r))) else (Z3 q mask x (w (i+1))=some r))))):Zbc q mask x i k=some r:=by
 unfold Zbc
 rw [EvL_eq Zeh.eq_1]
 try simp only [itb] at h
 try simp only [itf,List.getElem?_eq_some_iff,kk] at h
 rcases h with ⟨q1,e1,⟨g2,q2⟩,(⟨q3,q4,(⟨q5,q6,e2,⟨g7,q7⟩,q8,h⟩ | ⟨q5,h⟩)⟩ | ⟨q3,h⟩)⟩
 all_goals (refine Eq.trans ?_ h;clear h;simp +decide [*,kk,Zbc,Z3,Zei])
theorem Zj9 (a:Zc) (a1:Int) (r:AV×List Blk) (h:(Z3 a a1 0 0=some r)):Zw a a1=some r:=by
 unfold Zw
 refine run Zji rfl ?_
 refine Eq.trans ?_ h;clear h;simp +decide [*,kk,Zge,Z3]
theorem Zka (a:Int) (a1:Int) (r:AV×List Blk) (h:(∃ (v1_0:Bool),Zl a1 0 3=some (Bo v1_0,[])∧(if v1_0=true then (¬ a1<0∧(some (Bo (decide ((andI (shrI a a1) 1)=1)),[])=some r)) else (some (Bo false,[])=some r)))):Z4 a a1=some r:=by
 unfold Z4
 refine run Zjj rfl ?_
 simp only [Zl,mpl,dfs] at h
 try simp only [itb] at h
 try simp only [itf,List.getElem?_eq_some_iff,kk] at h
 rcases h with ⟨v1_0,q1,(⟨q2,q3,h⟩ | ⟨q2,h⟩)⟩
 all_goals (refine Eq.trans ?_ h;clear h;simp +decide [*,kk,Zgf])
theorem Zck (q:Zc) (x:Zb) (x1:Za) (info:List Za) (stack:List Int) (n:Int) (x2:Int) (x3:Bool) (r:AV×List Blk) (h:(if x3=true then (if x.Atom=0 then (if n<2 then (some (.tup [.agg [I 0,I 0,I 0,I 0],I (-1)],[])=some r) else (0≤(w (n - 2))∧(∃ (e1:Int),stack[(w (n - 2)).toNat]?=some e1∧(0≤e1∧(∃ (e2:Za),info[e1.toNat]?=some e2∧(0≤(w (n - 1))∧(∃ (e3:Int),stack[(w (n - 1)).toNat]?=some e3∧(0≤e3∧(∃ (e4:Za),info[e3.toNat]?=some e4∧(∃ (v5_0:Int),Zw q e2.Mask=some (I v5_0,[])∧(∃ (v6_0:Int),Zw q e4.Mask=some (I v6_0,[])∧(if (andI e2.Mask e4.Mask)=0 then (if (andI v5_0 v6_0)=0 then (some (.tup [.agg [I 0,I 0,I 0,I 0],I (-1)],[])=some r) else (if x.Kind=4 then (Zbe q x x1 e2 e4 (⟨(orI e2.Mask e4.Mask),(-1),e1,e3⟩:Za) (andI v5_0 v6_0) false=some r) else (if x.Order=0 then (if x.Kind=5 then (Zbv q x x1 e2 e4 (⟨(orI e2.Mask e4.Mask),e2.Order,e1,e3⟩:Za) (andI v5_0 v6_0)=some r) else (Zbe q x x1 e2 e4 (⟨(orI e2.Mask e4.Mask),(-1),e1,e3⟩:Za) (andI v5_0 v6_0) false=some r)) else (some (.tup [.agg [I 0,I 0,I 0,I 0],I (-1)],[])=some r)))) else (some (.tup [.agg [I 0,I 0,I 0,I 0],I (-1)],[])=some r))))))))))))) else (some (.tup [.agg [I 0,I 0,I 0,I 0],I (-1)],[])=some r)) else (some (.tup [.agg [I 0,I 0,I 0,I 0],I (-1)],[])=some r))):Zbu q x x1 info stack n x2 x3=some r:=by
 unfold Zbu
 rw [Ev_eq Zdc.eq_1]
 by_cases q1:x3=true
 ·rw [if_pos q1] at h
  by_cases q2:x.Atom=0
  ·rw [if_pos q2] at h
   replace q2:=eq_true q2
   by_cases q3:n<2
   ·rw [if_pos q3] at h
    refine Eq.trans ?_ h
    clear h
    simp +decide [*]
   ·rw [if_neg q3] at h
    obtain ⟨q4,h⟩:=h
    obtain ⟨e1,q5,h⟩:=h
    have gq5:=ltOfGet q5
    have kq5:=getOf q5
    obtain ⟨q6,h⟩:=h
    obtain ⟨e2,q7,h⟩:=h
    have gq7:=ltOfGet q7
    have kq7:=getOf q7
    obtain ⟨q8,h⟩:=h
    obtain ⟨e3,q9,h⟩:=h
    have gq9:=ltOfGet q9
    have kq9:=getOf q9
    obtain ⟨q10,h⟩:=h
    obtain ⟨e4,q11,h⟩:=h
    have gq11:=ltOfGet q11
    have kq11:=getOf q11
    obtain ⟨v5_0,q12,h⟩:=h
    unfold Zw at q12
    try simp at q12
    obtain ⟨v6_0,q13,h⟩:=h
    unfold Zw at q13
    try simp at q13
    by_cases q14:(andI e2.Mask e4.Mask)=0
    ·rw [if_pos q14] at h
     replace q14:=eq_true q14
     by_cases q15:(andI v5_0 v6_0)=0
     ·rw [if_pos q15] at h
      replace q15:=eq_true q15
      refine Eq.trans ?_ h
      clear h
      simp +decide [*]
     ·rw [if_neg q15] at h
      replace q15:=eq_false q15
      by_cases q16:x.Kind=4
      ·rw [if_pos q16] at h
       replace q16:=eq_true q16
       have q17:(x.Kind=5)=False:=eq_false (by intro hh;simp_all)
       refine Eq.trans ?_ h
       clear h
       simp +decide [*,Zbe]
      ·rw [if_neg q16] at h
       replace q16:=eq_false q16
       by_cases q18:x.Order=0
       ·rw [if_pos q18] at h
        replace q18:=eq_true q18
        by_cases q19:x.Kind=5
        ·rw [if_pos q19] at h
         replace q19:=eq_true q19
         refine Eq.trans ?_ h
         clear h
         simp +decide [*,Zbv]
        ·rw [if_neg q19] at h
         replace q19:=eq_false q19
         refine Eq.trans ?_ h
         clear h
         simp +decide [*,Zbe]
       ·rw [if_neg q18] at h
        replace q18:=eq_false q18
        refine Eq.trans ?_ h
        clear h
        simp +decide [*]
    ·rw [if_neg q14] at h
     replace q14:=eq_false q14
     refine Eq.trans ?_ h
     clear h
     simp +decide [*]
  ·rw [if_neg q2] at h
   replace q2:=eq_false q2
   refine Eq.trans ?_ h
   clear h
   simp +decide [*]
 ·rw [if_neg q1] at h
  refine Eq.trans ?_ h
  clear h
  simp +decide [*]
theorem Zkb (x:Zc) (x1:Zb) (x2:Za) (a:Za) (b:Za) (y:Za) (v:Int) (r:AV×List Blk) (h:(if x1.Kind=4 then (∃ (v1_0:Bool),Z4 v x1.Order=some (Bo v1_0,[])∧(if v1_0=true then (if a.Order=x1.Order then (if b.Order=x1.Order then (some (.tup [.agg [I y.Mask,I x1.Order,I y.Left,I y.Right],I 2],[])=some r) else (some (.tup [.agg [I 0,I 0,I 0,I 0],I (-1)],[])=some r)) else (some (.tup [.agg [I 0,I 0,I 0,I 0],I (-1)],[])=some r)) else (some (.tup [.agg [I 0,I 0,I 0,I 0],I (-1)],[])=some r))) else (some (.tup [.agg (y.c.map .t),I 2],[])=some r))):Zbv x x1 x2 a b y v=some r:=by
 unfold Zbv
 rw [Ev_eq Zci.eq_1]
 simp only [Z4,mpl,dfs] at h
 try simp only [itb] at h
 try simp only [itf,List.getElem?_eq_some_iff,kk] at h
 rcases h with ⟨q1,v1_0,q2,(⟨q3,(⟨q4,(⟨q5,h⟩ | ⟨q5,h⟩)⟩ | ⟨q4,h⟩)⟩ | ⟨q3,h⟩)⟩ | ⟨q1,h⟩
 all_goals (refine Eq.trans ?_ h;clear h;simp +decide [*,kk,Zej])
theorem Zer (x:Zc) (x1:Zb) (x2:Za) (a:Za) (b:Za) (y:Za) (v:Int) (x3:Bool) (r:AV×List Blk) (h:(if x1.Kind=4 then (∃ (v1_0:Bool),Z4 v x1.Order=some (Bo v1_0,[])∧(if v1_0=true then (if a.Order=x1.Order then (if b.Order=x1.Order then (some (.tup [.agg [I y.Mask,I x1.Order,I y.Left,I y.Right],I 2],[])=some r) else (some (.tup [.agg [I 0,I 0,I 0,I 0],I (-1)],[])=some r)) else (some (.tup [.agg [I 0,I 0,I 0,I 0],I (-1)],[])=some r)) else (some (.tup [.agg [I 0,I 0,I 0,I 0],I (-1)],[])=some r))) else (some (.tup [.agg (y.c.map .t),I 2],[])=some r))):Zbe x x1 x2 a b y v x3=some r:=by
 unfold Zbe
 rw [Ev_eq Zci.eq_1]
 simp only [Z4,mpl,dfs] at h
 try simp only [itb] at h
 try simp only [itf,List.getElem?_eq_some_iff,kk] at h
 rcases h with ⟨q1,v1_0,q2,(⟨q3,(⟨q4,(⟨q5,h⟩ | ⟨q5,h⟩)⟩ | ⟨q4,h⟩)⟩ | ⟨q3,h⟩)⟩ | ⟨q1,h⟩
 all_goals (refine Eq.trans ?_ h;clear h;simp +decide [*,kk,Zej])
theorem Zy (a:Zc) (a1:Zb) (a2:List Za) (a3:List Int) (r:AV×List Blk) (h:(if a1.Kind=1 then (∃ (v1_0:Bool),Zl a1.Atom 0 (w ((a.Atoms.length:Int) - 1))=some (Bo v1_0,[])∧(if v1_0=true then (if a1.Order=0 then (¬ a1.Atom<0∧(0≤a1.Atom∧(∃ (e2:Atom),a.Atoms[a1.Atom.toNat]?=some e2∧(∃ (e3:Int),e2.Vars[0]?=some e3∧(some (.tup [.agg [I (shlI 1 a1.Atom),I e3,I (-1),I (-1)],I 0],[])=some r))))) else (some (.tup [.agg [I 0,I 0,I 0,I 0],I (-1)],[])=some r)) else (some (.tup [.agg [I 0,I 0,I 0,I 0],I (-1)],[])=some r))) else (if a1.Kind=2 then (if a1.Atom=0 then (if (a3.length:Int)<1 then (some (.tup [.agg [I 0,I 0,I 0,I 0],I (-1)],[])=some r) else (0≤(w ((a3.length:Int) - 1))∧(∃ (e4:Int),a3[(w ((a3.length:Int) - 1)).toNat]?=some e4∧(0≤e4∧(∃ (e5:Za),a2[e4.toNat]?=some e5∧(if e5.Order=a1.Order then (some (.tup [.agg [I 0,I 0,I 0,I 0],I (-1)],[])=some r) else (∃ (v6_0:Int),Zw a e5.Mask=some (I v6_0,[])∧(∃ (v7_0:Bool),Z4 v6_0 a1.Order=some (Bo v7_0,[])∧(if v7_0=true then (some (.tup [.agg [I e5.Mask,I a1.Order,I e4,I (-1)],I 1],[])=some r) else (some (.tup [.agg [I 0,I 0,I 0,I 0],I (-1)],[])=some r)))))))))) else (some (.tup [.agg [I 0,I 0,I 0,I 0],I (-1)],[])=some r)) else (if a1.Kind=3 then (Zbu a a1 (⟨0,0,0,0⟩:Za) a2 a3 (a3.length:Int) a1.Kind true=some r) else (if a1.Kind=4 then (Zbu a a1 (⟨0,0,0,0⟩:Za) a2 a3 (a3.length:Int) a1.Kind true=some r) else (if a1.Kind=5 then (if a1.Atom=0 then (if (a3.length:Int)<2 then (some (.tup [.agg [I 0,I 0,I 0,I 0],I (-1)],[])=some r) else (0≤(w ((a3.length:Int) - 2))∧(∃ (e8:Int),a3[(w ((a3.length:Int) - 2)).toNat]?=some e8∧(0≤e8∧(∃ (e9:Za),a2[e8.toNat]?=some e9∧(0≤(w ((a3.length:Int) - 1))∧(∃ (e10:Int),a3[(w ((a3.length:Int) - 1)).toNat]?=some e10∧(0≤e10∧(∃ (e11:Za),a2[e10.toNat]?=some e11∧(∃ (v12_0:Int),Zw a e9.Mask=some (I v12_0,[])∧(∃ (v13_0:Int),Zw a e11.Mask=some (I v13_0,[])∧(if (andI e9.Mask e11.Mask)=0 then (if (andI v12_0 v13_0)=0 then (some (.tup [.agg [I 0,I 0,I 0,I 0],I (-1)],[])=some r) else (if a1.Order=0 then (Zbv a a1 (⟨0,0,0,0⟩:Za) e9 e11 (⟨(orI e9.Mask e11.Mask),e9.Order,e8,e10⟩:Za) (andI v12_0 v13_0)=some r) else (some (.tup [.agg [I 0,I 0,I 0,I 0],I (-1)],[])=some r))) else (some (.tup [.agg [I 0,I 0,I 0,I 0],I (-1)],[])=some r))))))))))))) else (some (.tup [.agg [I 0,I 0,I 0,I 0],I (-1)],[])=some r)) else (some (.tup [.agg [I 0,I 0,I 0,I 0],I (-1)],[])=some r))))))):Zbd a a1 a2 a3=some r:=by
 unfold Zbd
 refine run Zjk rfl ?_
 simp only [Zl,Zw,Z4,Zc.c_def,mpl,dfs] at h
 try simp only [itb] at h
 try simp only [itf,List.getElem?_eq_some_iff,kk] at h
 rcases h with ⟨q1,v1_0,q2,(⟨q3,(⟨q4,q5,q6,e2,⟨g7,q7⟩,e3,⟨g8,q8⟩,h⟩ | ⟨q4,h⟩)⟩ | ⟨q3,h⟩)⟩ | ⟨q1,(⟨q9,(⟨q10,(⟨q11,h⟩ | ⟨q11,q12,e4,⟨g13,q13⟩,q14,e5,⟨g15,q15⟩,(⟨q16,h⟩ | ⟨q16,v6_0,q17,v7_0,q18,(⟨q19,h⟩ | ⟨q19,h⟩)⟩)⟩)⟩ | ⟨q10,h⟩)⟩ | ⟨q9,(⟨q20,h⟩ | ⟨q20,(⟨q21,h⟩ | ⟨q21,(⟨q22,(⟨q23,(⟨q24,h⟩ | ⟨q24,q25,e8,⟨g26,q26⟩,q27,e9,⟨g28,q28⟩,q29,e10,⟨g30,q30⟩,q31,e11,⟨g32,q32⟩,v12_0,q33,v13_0,q34,(⟨q35,(⟨q36,h⟩ | ⟨q36,(⟨q37,h⟩ | ⟨q37,h⟩)⟩)⟩ | ⟨q35,h⟩)⟩)⟩ | ⟨q23,h⟩)⟩ | ⟨q22,h⟩)⟩)⟩)⟩)⟩
 all_goals (refine Eq.trans ?_ h;clear h;simp +decide [*,kk,Zgg,Zbu,Zdc,Zbv])
theorem Zgy (q:Zc) (p:Plan) (info:List Za) (stack:List Int) (i:Int) (r:AV×List Blk) (h:(if i<(p.Steps.length:Int) then (0≤i∧(∃ (e1:Zb),p.Steps[i.toNat]?=some e1∧(∃ (v2_0:Za) (v2_1:Int),Zbd q e1 info stack=some (.tup [.agg (v2_0.c.map .t),I v2_1],[])∧(if v2_1<0 then (some (.tup [.own 0,Bo false],[.arr 73 4 true (([]:List Za).map Za.c)])=some r) else (info.length+1≤68719476736∧(0≤(w ((stack.length:Int) - v2_1))∧((w ((stack.length:Int) - v2_1)).toNat≤stack.length∧((w ((stack.length:Int) - v2_1)).toNat≤68719476736∧((w ((stack.length:Int) - v2_1)).toNat+1≤68719476736∧(Zbx q p (info++[v2_0]) ((stack.take ((w ((stack.length:Int) - v2_1)).toNat))++[i]) (w (i+1))=some r)))))))))) else (if (stack.length:Int)=1 then (some (.tup [.own 0,Bo true],[.arr 73 4 true (info.map Za.c)])=some r) else (some (.tup [.own 0,Bo false],[.arr 73 4 true (([]:List Za).map Za.c)])=some r)))):Zbx q p info stack i=some r:=by
 unfold Zbx
 rw [EvL_eq Zek.eq_1]
 simp only [Zbd,Zb.c_def,Zc.c_def,Za.c_def,mpl,dfs] at h
 try simp only [itb] at h
 try simp only [itf,List.getElem?_eq_some_iff,kk] at h
 rcases h with ⟨q1,q2,e1,⟨g3,q3⟩,v2_0,v2_1,q4,(⟨q5,h⟩ | ⟨q5,q6,q7,q8,q9,q10,h⟩)⟩ | ⟨q1,(⟨q11,h⟩ | ⟨q11,h⟩)⟩
 all_goals (refine Eq.trans ?_ h;clear h;simp +decide [*,kk,Zbx,Zel])
theorem Zkc (a:Zc) (a1:Plan) (r:AV×List Blk) (h:(∃ (v1_0:Bool),Zch a=some (Bo v1_0,[])∧(if v1_0=true then (∃ (v2_0:Bool),Zl (a1.Steps.length:Int) 1 14=some (Bo v2_0,[])∧(if v2_0=true then (Zbx a a1 ([]:List Za) ([]:List Int) 0=some r) else (some (.tup [.own 0,Bo false],[.arr 73 4 true (([]:List Za).map Za.c)])=some r))) else (some (.tup [.own 0,Bo false],[.arr 73 4 true (([]:List Za).map Za.c)])=some r)))):Zbw a a1=some r:=by
 unfold Zbw
 refine run Zjl rfl ?_
 simp only [Zch,Zl,Zc.c_def,mpl,dfs] at h
 try simp only [itb] at h
 try simp only [itf,List.getElem?_eq_some_iff,kk] at h
 rcases h with ⟨v1_0,q1,(⟨q2,v2_0,q3,(⟨q4,h⟩ | ⟨q4,h⟩)⟩ | ⟨q2,h⟩)⟩
 all_goals (refine Eq.trans ?_ h;clear h;simp +decide [*,kk,Zgh,Zbx])
theorem Zkd (info:List Za) (i:Int) (r:AV×List Blk) (h:(0≤i∧(∃ (e1:Za),info[i.toNat]?=some e1∧(if 0≤e1.Left then (Zby info e1.Left=some r) else (some (I i,[])=some r))))):Zby info i=some r:=by
 unfold Zby
 rw [EvL_eq Zem.eq_1]
 try simp only [itb] at h
 try simp only [itf,List.getElem?_eq_some_iff,kk] at h
 rcases h with ⟨q1,e1,⟨g2,q2⟩,(⟨q3,h⟩ | ⟨q3,h⟩)⟩
 all_goals (refine Eq.trans ?_ h;clear h;simp +decide [*,kk,Zby,Zen])
theorem Zke (a:List Za) (a1:Int) (r:AV×List Blk) (h:(Zby a a1=some r)):Zcj a a1=some r:=by
 unfold Zcj
 refine run Zjm rfl ?_
 refine Eq.trans ?_ h;clear h;simp +decide [*,kk,Zgi,Zby]
theorem Zkf (a:Zc) (a1:Plan) (a2:Int) (r:AV×List Blk) (h:(∃ (v1_0:List Za) (v1_1:Bool),Zbw a a1=some (.tup [.own 0,Bo v1_1],[.arr 73 4 true (v1_0.map Za.c)])∧(if v1_1=true then (∃ (v2_0:Bool),Zl a2 0 (w ((v1_0.length:Int) - 1))=some (Bo v2_0,[])∧(if v2_0=true then (∃ (v3_0:Int),Zcj v1_0 a2=some (I v3_0,[])∧(0≤v3_0∧(0≤(w (a2+1))∧(v3_0.toNat≤(w (a2+1)).toNat∧((w (a2+1)).toNat≤a1.Steps.length∧(((a1.Steps.take ((w (a2+1)).toNat)).drop v3_0.toNat).length≤68719476736∧(some (.tup [.agg [.own 0],Bo true],[.arr 111 3 true (((a1.Steps.take ((w (a2+1)).toNat)).drop v3_0.toNat).map Zb.c)])=some r))))))) else (some (.tup [.agg [.t .nil],Bo false],[])=some r))) else (some (.tup [.agg [.t .nil],Bo false],[])=some r)))):Zb4 a a1 a2=some r:=by
 unfold Zb4
 refine run Zjn rfl ?_
 obtain ⟨v1_0,v1_1,q1,h⟩:=h
 unfold Zbw at q1
 try simp at q1
 by_cases q2:v1_1=true
 ·rw [if_pos q2] at h
  obtain ⟨v2_0,q3,h⟩:=h
  unfold Zl at q3
  try simp at q3
  by_cases q4:v2_0=true
  ·rw [if_pos q4] at h
   obtain ⟨v3_0,q5,h⟩:=h
   unfold Zcj at q5
   try simp at q5
   obtain ⟨q6,h⟩:=h
   obtain ⟨q7,h⟩:=h
   obtain ⟨q8,h⟩:=h
   have zq8:=q8;try simp at zq8
   obtain ⟨q9,h⟩:=h
   have zq9:=q9;try simp at zq9
   obtain ⟨q10,h⟩:=h
   have rq10:=roomA (b:=24) q10 (by omega)
   have sq10:=roomB q10
   try simp [*] at rq10
   try simp [*] at sq10
   refine Eq.trans ?_ h
   clear h
   simp +decide [*,Zdd]
  ·rw [if_neg q4] at h
   refine Eq.trans ?_ h
   clear h
   simp +decide [*,Zdd]
 ·rw [if_neg q2] at h
  refine Eq.trans ?_ h
  clear h
  simp +decide [*,Zdd]
end Go.Proofs.Ytdfoicjjheifeaa
/- part: G3 -/
namespace Go.Proofs.Ytdfoicjjheifeaa
open Go.AM
theorem Zes (q:Zc) (p:Plan) (info:List Za) (mask:Int) (is:Bool) (i:Int) (r:AV×List Blk) (h:(if i<(info.length:Int) then (if is=true then (0≤i∧(∃ (e1:Za),info[i.toNat]?=some e1∧(if 0≤e1.Right then (if e1.Mask=mask then ((∃ (v2_0:List Zb),Zb4 q p i=some (.tup [.agg [.own 0],Bo true],[.arr 111 3 true (v2_0.map Zb.c)])∧(some (.tup [.agg [.own 0],Bo true],[.arr 111 3 true (v2_0.map Zb.c)])=some r))∨(Zb4 q p i=some (.tup [.agg [.t .nil],Bo false],[])∧(some (.tup [.agg [.t .nil],Bo false],[])=some r))) else (Zbf q p info mask true (w (i+1))=some r)) else (Zbf q p info mask true (w (i+1))=some r)))) else (some (.tup [.agg [.t .nil],Bo false],[])=some r)) else (some (.tup [.agg [.t .nil],Bo false],[])=some r))):Zbf q p info mask is i=some r:=by
 unfold Zbf
 rw [EvL_eq Zeo.eq_1]
 simp only [Zb4,Plan.c_def,Zc.c_def,mpl,dfs] at h
 try simp only [itb] at h
 try simp only [itf,List.getElem?_eq_some_iff,kk] at h
 rcases h with ⟨q1,(⟨q2,q3,e1,⟨g4,q4⟩,(⟨q5,(⟨q6,(⟨v2_0,q8,h⟩ | ⟨q9,h⟩)⟩ | ⟨q6,h⟩)⟩ | ⟨q5,h⟩)⟩ | ⟨q2,h⟩)⟩ | ⟨q1,h⟩
 all_goals (refine Eq.trans ?_ h;clear h;simp +decide [*,kk,Zbf,Zep])
theorem Zkg (a:Zc) (a1:Plan) (a2:Int) (r:AV×List Blk) (h:(∃ (v1_0:List Za) (v1_1:Bool),Zbw a a1=some (.tup [.own 0,Bo v1_1],[.arr 73 4 true (v1_0.map Za.c)])∧(Zbf a a1 v1_0 a2 v1_1 0=some r))):Zde a a1 a2=some r:=by
 unfold Zde
 refine run Zjo rfl ?_
 simp only [Zbw,Plan.c_def,Zc.c_def,mpl,dfs] at h
 rcases h with ⟨v1_0,v1_1,q1,h⟩
 all_goals (refine Eq.trans ?_ h;clear h;simp +decide [*,kk,Zgj,Zbf])
end Go.Proofs.Ytdfoicjjheifeaa
/- part: V1 -/
namespace Go.Proofs.Ytdfoicjjheifeaa
open Go.AM
@[simp] theorem Zgz (a b c:Int):Zm a b c=some (Bo (inR a b c),[]):=by
 refine Zjp _ _ _ _ ?_
 by_cases h:b≤a <;> simp [inR,h]
@[simp] theorem x_l1In (a b c:Int):Zl a b c=some (Bo (inR a b c),[]):=by
 refine Zj5 _ _ _ _ ?_
 by_cases h:b≤a <;> simp [inR,h]
theorem lIndexI (xs:List Int) (v:Int) (hx:Le xs):∀ i,i≤xs.length →
  Zbl xs v xs.length i=some (I (Zp (fun x=>decide (v=x)) (xs.drop i) i),[]):=by
 refine down _ ?_ ?_
 ·refine Zgk _ _ _ _ _ ?_
  simp [Zp]
 ·intro i hi ih
  refine Zgk _ _ _ _ _ ?_
  have h4:=inc64 (i:=i) (by omega)
  rw [Ze9 _ hi]
  simp at ih
  by_cases e:v=xs[i] <;> simp [hi,h4,e,ih]
@[simp] theorem xIndexI (xs:List Int) (v:Int) (hx:Le xs):Zb8 xs v=some (I (Zp (fun x=>decide (v=x)) xs 0),[]):=by
 refine Zjr _ _ _ ?_
 have:=lIndexI xs v hx 0 (Nat.zero_le _)
 simpa using this
@[simp] theorem Zcl (xs:List Int) (v:Int) (hx:Le xs):Zu xs v=some (Bo (has xs v),[]):=by
 refine Zjs _ _ _ ?_
 unfold has
 rcases tf (xs.any (fun x=>decide (v=x))) with e | e
 ·simp [hx,Zfa _ _ _ e,e]
 ·have:=Zfb _ _ 0 e
  simp [hx,this,e]
theorem lIndexB (xs:List Bool) (v:Bool) (hx:Le xs):∀ i,i≤xs.length →
  Zbm xs v xs.length i=some (I (Zp (fun x=>v == x) (xs.drop i) i),[]):=by
 refine down _ ?_ ?_
 ·refine Zgl _ _ _ _ _ ?_
  simp [Zp]
 ·intro i hi ih
  refine Zgl _ _ _ _ _ ?_
  have h4:=inc64 (i:=i) (by omega)
  rw [Ze9 _ hi]
  simp at ih
  by_cases e:v=xs[i] <;> simp [hi,h4,e,ih]
@[simp] theorem Zkh (xs:List Bool) (v:Bool) (hx:Le xs):Zca xs v=some (Bo (xs.any (fun x=>v == x)),[]):=by
 refine Zju _ _ _ ?_
 have q:Zb9 xs v=some (I (Zp (fun x=>v == x) xs 0),[]):=by
  refine Zjt _ _ _ ?_
  have:=lIndexB xs v hx 0 (Nat.zero_le _)
  simpa using this
 rcases tf (xs.any (fun x=>v == x)) with e | e
 ·rw [Zfa _ _ _ e] at q
  rw [e];simp [q]
 ·have:=Zfb _ _ 0 e
  rw [e];simp [q,this]
theorem l_l7Has (xs:List Int) (v:Int) (hx:Le xs):∀ i,i≤xs.length→Zbs xs v i=some (Bo (has (xs.drop i) v),[]):=by
 unfold has
 refine down _ ?_ ?_
 ·refine Zgu _ _ _ _ ?_
  simp
 ·intro i hi ih
  refine Zgu _ _ _ _ ?_
  have h4:=inc64 (i:=i) (by omega)
  rw [drop_any _ hi]
  simp at ih
  by_cases e:v=xs[i]
  ·simp [hi,h4,← e]
  ·have e':¬ xs[i]=v:=fun hc=>e hc.symm
   simp [hi,h4,e,e',ih]
@[simp] theorem x_l7Has (xs:List Int) (v:Int) (hx:Le xs):Zcg xs v=some (Bo (has xs v),[]):=by
 refine Zj7 _ _ _ ?_
 have:=l_l7Has xs v hx 0 (Nat.zero_le _)
 simpa using this
theorem nm_aux (s:ByteArray) (P:Prop):(if (s.size:Int)=1 then (∃ (b1:UInt8),s[0]?=some b1∧(if 97≤(b1.toNat:Int) then (some (Bo (decide ((b1.toNat:Int)≤122)),[])=some (Bo (nmOk s),([]:List Blk))) else (some (Bo false,[])=some (Bo (nmOk s),([]:List Blk))))) else (some (Bo false,[])=some (Bo (nmOk s),([]:List Blk)))):=by
 by_cases h:s.size=1
 ·obtain ⟨b,hb⟩:=get0 h
  rw [if_pos (by omega)]
  refine ⟨b,hb,?_⟩
  have e:nmOk s=(decide (97≤(b.toNat:Int)) && decide ((b.toNat:Int)≤122)):=by
   unfold nmOk;rw [hb];simp only [h,decide_true,Bool.true_and]
  by_cases h1:(97:Int)≤(b.toNat:Int)
  ·rw [if_pos h1,e,decide_eq_true h1,Bool.true_and]
  ·rw [if_neg h1,e,decide_eq_false h1,Bool.false_and]
 ·have h':¬ (s.size:Int)=1:=by omega
  have:nmOk s=false:=by unfold nmOk;split <;> simp [h]
  simp [h',this]
@[simp] theorem x_nameOk (s:ByteArray):Zb7 s=some (Bo (nmOk s),[]):=Zjq _ _ (nm_aux s True)
@[simp] theorem x_l4Name (s:ByteArray):Zcf s=some (Bo (nmOk s),[]):=Zj6 _ _ (nm_aux s True)
def LeQ (q:Zc):Prop:=Le q.Atoms∧∀ a∈q.Atoms,Le a.Vars
def blB (p:Nat→Bool) (n:Nat):List Bool:=(List.range n).map p
theorem blB_set (p:Nat→Bool) (n:Nat) {v:Int} (h:inR v 0 ((n:Int) - 1)=true):(blB p n).set v.toNat true=blB (addV p [v]) n:=by
 simp [inR] at h
 apply List.ext_getElem
 ·simp [blB]
 ·intro i h1 h2
  simp only [blB,List.length_set,List.length_map,List.length_range] at h1
  rw [List.getElem_set]
  simp only [blB,List.getElem_map,List.getElem_range]
  by_cases e:v.toNat=i
  ·have:(i:Int)=v:=by omega
   simp [e,addV,has,this]
  ·have:¬ (i:Int)=v:=by omega
   simp [e,addV,has,this]
theorem Zki (q:Zc) (n:Nat) (hn:n≤4) (hq:q.Zd=n) (a:Atom) (qa:List Atom) (l j:Int) (hv:Le a.Vars) (r:AV×List Blk):∀ k,k≤a.Vars.length→∀ p,
  (if Zr n (a.Vars.take k) (a.Vars.drop k)=true then Z7 q (blB (addV p (a.Vars.drop k)) n) qa l (w (j+1))=some r else some (Bo false,[])=some r) →
  Zbn q (blB p n) a qa l j a.Vars a.Vars.length k=some r:=by
 refine down _ ?_ ?_
 ·intro p h
  refine Zgn _ _ _ _ _ _ _ _ _ _ ?_
  simpa [Zr,Zdo] using h
 ·intro k hk ih p h
  have h4:=inc64 (i:=k) (by omega)
  have hw:w (q.Zd - 1)=(n:Int) - 1:=by rw [hq];exact wrap64 (by omega) (by omega)
  have hl:=Zcl (a.Vars.take k) a.Vars[k] (by simp;omega)
  refine Zgn _ _ _ _ _ _ _ _ _ _ ?_
  rw [Zfc _ hk] at h
  rcases tf (inR a.Vars[k] 0 ((n:Int) - 1)) with e1 | e1
  ·simp [e1] at h
   simp [hk,h4,hw,e1,← h]
  ·rcases tf (has (a.Vars.take k) a.Vars[k]) with e2 | e2
   ·rw [Zdp p hk] at h
    simp only [e1,e2,Bool.true_and,Bool.not_false] at h
    have ih:=ih _ h
    have e0:=e1
    simp [inR] at e0
    have e5:(a.Vars[k]).toNat<(blB p n).length:=by simp [blB];omega
    have e6:=blB_set p n e1
    have e7:k≤a.Vars.length:=by omega
    simp at ih
    simp [hk,h4,hw,e1,e2,hl,e0,e5,e6,e7,ih]
   ·simp [e1,e2] at h
    have e7:k≤a.Vars.length:=by omega
    simp [hk,h4,hw,e1,e2,hl,e7,← h]
theorem Zkj (q:Zc) (n:Nat) (hn:n≤4) (hq:q.Zd=n) (qa:List Atom) (hl:Le qa) (hv:∀ a∈qa,Le a.Vars):∀ k,k≤qa.length→∀ p,
  Z7 q (blB p n) qa qa.length k=some (Bo ((qa.drop k).all (Zi n) && (List.range n).all (addA p (qa.drop k))),[]):=by
 refine down _ ?_ ?_
 ·intro p
  refine Zgm _ _ _ _ _ _ ?_
  have e:addA p []=p:=by funext u;simp [addA]
  have q1:=Zkh (blB p n) false (by simp [blB];omega)
  have q2:(blB p n).any (fun x=>false == x)=!(List.range n).all p:=bl_any p n
  rw [q2] at q1
  simp [q1,e]
 ·intro k hk ih p
  refine Zgm _ _ _ _ _ _ ?_
  have h4:=inc64 (i:=k) (by omega)
  rw [Ze7 _ hk]
  rcases tf (nmOk qa[k].Name) with e1 | e1
  ·simp [hk,e1,Zi]
  rcases tf (inR qa[k].Vars.length 1 3) with e2 | e2
  ·simp [hk,e1,e2,Zi]
  have b:=Zki q n hn hq qa[k] qa qa.length k (hv _ (List.getElem_mem hk)) (Bo (Zi n qa[k] && (qa.drop (k+1)).all (Zi n) && (List.range n).all (addA p (qa.drop k))),[]) 0 (Nat.zero_le _) p ?_
  ·simp at b
   simp [hk,e1,e2,b]
  ·simp only [List.take_zero,List.drop_zero,Zi,e1,e2,Bool.true_and]
   rcases tf (Zr n [] qa[k].Vars) with e3 | e3
   ·simp [e3]
   ·have ih:=ih (addV p qa[k].Vars)
    simp only [e3,if_true,Bool.true_and,Zfd p hk]
    simp at ih
    rw [show w ((k:Int)+1)=(k:Int)+1 from h4,ih]
@[simp] theorem Zkk (q:Zc) (h:LeQ q):Zcb q=some (Bo (Zh q.Zd q.Atoms),[]):=by
 refine Zjv _ _ ?_
 unfold Zh
 rcases tf (inR q.Zd 1 4) with e1 | e1
 ·simp [e1]
 rcases tf (inR q.Atoms.length 1 4) with e2 | e2
 ·simp [e1,e2]
 have e0:=e1
 simp [inR] at e0
 have hn:q.Zd=(q.Zd.toNat:Int):=by omega
 have b:=Zkj q q.Zd.toNat (by omega) hn q.Atoms h.1 h.2 0 (Nat.zero_le _) (fun _=>false)
 have r1:q.Zd.toNat≤room:=room2 (by omega)
 have r2:q.Zd≤room:=by
  have:(q.Zd.toNat:Int)≤room:=by exact_mod_cast r1
  omega
 have r3:q.Zd≤140737488355328:=by omega
 have ez:blB (fun _=>false) q.Zd.toNat=List.replicate q.Zd.toNat false:=by
  apply List.ext_getElem <;> simp [blB]
 rw [ez,← hn] at b
 simp at b
 simp [e1,e2,e0,r1,r2,r3,b]
 omega
theorem Zkl (q:Zc) (n:Nat) (hn1:1≤n) (hn:n≤4) (hq:q.Zd=n) (a:Atom) (j:Int) (hv:Le a.Vars) (r:AV×List Blk):∀ k,k≤a.Vars.length→∀ p,
  (if Zr n (a.Vars.take k) (a.Vars.drop k)=true then Zbb q (Ze (addV p (a.Vars.drop k))) (w (j+1))=some r else some (Bo false,[])=some r) →
  Zbt q a (Ze p) j k=some r:=by
 refine down _ ?_ ?_
 ·intro p h
  refine Zgw _ _ _ _ _ _ ?_
  simpa [Zr,Zdo] using h
 ·intro k hk ih p h
  have h4:=inc64 (i:=k) (by omega)
  have hw:w (q.Zd - 1)=(n:Int) - 1:=by rw [hq];exact wrap64 (by omega) (by omega)
  have hl:=x_l7Has (a.Vars.take k) a.Vars[k] (by simp;omega)
  have e7:k≤a.Vars.length:=by omega
  refine Zgw _ _ _ _ _ _ ?_
  rw [Zfc _ hk] at h
  rcases tf (inR a.Vars[k] 0 ((n:Int) - 1)) with e1 | e1
  ·simp [e1] at h
   simp [hk,h4,hw,e1,← h]
  ·rcases tf (has (a.Vars.take k) a.Vars[k]) with e2 | e2
   ·rw [Zdp p hk] at h
    simp only [e1,e2,Bool.true_and,Bool.not_false] at h
    have ih:=ih _ h
    have e0:=e1
    simp [inR] at e0
    have e6:=or_bit p (v:=a.Vars[k]) (by simp [inR];omega)
    have e8:¬ a.Vars[k]<0:=by omega
    simp at ih
    simp [hk,h4,hw,e1,e2,hl,e0,e6,e7,e8,ih]
   ·simp [e1,e2] at h
    simp [hk,h4,hw,e1,e2,hl,e7,← h]
end Go.Proofs.Ytdfoicjjheifeaa
/- part: V2 -/
namespace Go.Proofs.Ytdfoicjjheifeaa
open Go.AM
def Zcm (n:Int) (p:Nat→Bool):Bool:=decide (Ze p=w (shlI 1 n - 1))
theorem Zkm (q:Zc) (n:Nat) (hn1:1≤n) (hn:n≤4) (hq:q.Zd=n) (hl:Le q.Atoms) (hv:∀ a∈q.Atoms,Le a.Vars):∀ k,k≤q.Atoms.length→∀ p,
  Zbb q (Ze p) k=some (Bo ((q.Atoms.drop k).all (Zi n) && Zcm n (addA p (q.Atoms.drop k))),[]):=by
 refine down _ ?_ ?_
 ·intro p
  refine Zgv _ _ _ _ ?_
  have e:addA p []=p:=by funext u;simp [addA]
  have h0:¬ (n:Int)<0:=by omega
  simp [e,hq,h0,Zcm]
 ·intro k hk ih p
  refine Zgv _ _ _ _ ?_
  have h4:=inc64 (i:=k) (by omega)
  rw [Ze7 _ hk]
  rcases tf (nmOk q.Atoms[k].Name) with e1 | e1
  ·simp [hk,e1,Zi]
  rcases tf (inR q.Atoms[k].Vars.length 1 3) with e2 | e2
  ·simp [hk,e1,e2,Zi]
  have b:=Zkl q n hn1 hn hq q.Atoms[k] k (hv _ (List.getElem_mem hk)) (Bo (Zi n q.Atoms[k] && (q.Atoms.drop (k+1)).all (Zi n) && Zcm n (addA p (q.Atoms.drop k))),[]) 0 (Nat.zero_le _) p ?_
  ·simp at b
   simp [hk,e1,e2,b]
  ·simp only [List.take_zero,List.drop_zero,Zi,e1,e2,Bool.true_and]
   rcases tf (Zr n [] q.Atoms[k].Vars) with e3 | e3
   ·simp [e3]
   ·have ih:=ih (addV p q.Atoms[k].Vars)
    simp only [e3,if_true,Bool.true_and,Zfd p hk]
    simp at ih
    rw [show w ((k:Int)+1)=(k:Int)+1 from h4,ih]
@[simp] theorem Zkn (q:Zc) (h:LeQ q):Zch q=some (Bo (Zh q.Zd q.Atoms),[]):=by
 refine Zj8 _ _ ?_
 unfold Zh
 rcases tf (inR q.Zd 1 4) with e1 | e1
 ·simp [e1]
 rcases tf (inR q.Atoms.length 1 4) with e2 | e2
 ·simp [e1,e2]
 have e0:=e1
 simp [inR] at e0
 obtain ⟨k,hk⟩:∃ k:Nat,q.Zd=k:=⟨q.Zd.toNat,by omega⟩
 have b:=Zkm q k (by omega) (by omega) hk h.1 h.2 0 (Nat.zero_le _) (fun _=>false)
 have ez:Ze (fun _=>false)=0:=rfl
 rw [ez] at b
 simp only [List.drop_zero,Int.ofNat_zero] at b
 have e3:(q.Atoms.all (Zi k) && Zcm k (addA (fun _=>false) q.Atoms))=(q.Atoms.all (Zi k) && (List.range k).all (addA (fun _=>false) q.Atoms)):=by
  rcases tf (q.Atoms.all (Zi k)) with e3 | e3
  ·simp [e3]
  ·have hk':k=1∨k=2∨k=3∨k=4:=by omega
   have hz:=all_in e3
   have hz':∀ u:Nat,k≤u→addA (fun _=>false) q.Atoms u=false:=fun u hu=>by simp only [addA,Bool.false_or];exact hz u (by omega)
   rw [e3,Bool.true_and,Bool.true_and,Bool.eq_iff_iff,Zcm,decide_eq_true_eq,Ze]
   rcases hk' with rfl | rfl | rfl | rfl
   ·simp [shlI,wrap64,Zcu,hz' 1 (by omega),hz' 2 (by omega),hz' 3 (by omega),List.range_succ]
   ·simp [shlI,wrap64,Zcu,hz' 2 (by omega),hz' 3 (by omega),List.range_succ]
   ·simp [shlI,wrap64,Zcu,hz' 3 (by omega),List.range_succ,and_assoc]
   ·simp [shlI,wrap64,Zcu,List.range_succ,and_assoc]
 rw [e3] at b
 rw [hk] at e1
 simp only [x_l1In,Option.some.injEq,Prod.mk.injEq,AV.t.injEq,T.bool.injEq,and_true,exists_eq_left',e1,e2,if_true,b,hk,Int.toNat_natCast]
 simp
end Go.Proofs.Ytdfoicjjheifeaa
/- part: V3 -/
namespace Go.Proofs.Ytdfoicjjheifeaa
open Go.AM
theorem l_vars0 (q:Zc) (m:Int) (hl:Le q.Atoms) (hv:∀ a∈q.Atoms,Le a.Vars) (v:Nat) (hv4:v<8) (out:List Int) (ho:out.length≤8) (r:AV×List Blk):∀ i,i≤q.Atoms.length →
  Z0 q (out++if hasV m (q.Atoms.drop i) i v=true then [(v:Int)] else []) m (w ((v:Int)+1))=some r →
  Z8 q out m v q.Atoms q.Atoms.length i=some r:=by
 refine down _ ?_ ?_
 ·intro h
  refine Zgp _ _ _ _ _ _ _ _ ?_
  simpa [hasV] using h
 ·intro i hi ih h
  refine Zgp _ _ _ _ _ _ _ _ ?_
  have h4:=inc64 (i:=i) (by omega)
  have c1:=Zcl q.Atoms[i].Vars v (hv _ (List.getElem_mem hi))
  have h0:¬ (i:Int)<0:=by omega
  rw [Zfe _ hi] at h
  by_cases e1:andI (shrI m i) 1=1
  ·have e2:Zs m i=true:=by simp [Zs,e1]
   rcases tf (has q.Atoms[i].Vars v) with e3 | e3
   ·simp [e2,e3] at h
    have ih:=ih (by simpa using h)
    simp at ih
    simp [hi,h4,h0,e1,c1,e3,ih]
   ·simp [e2,e3] at h
    have e4:out.length+1≤68719476736:=by omega
    simp [hi,h4,h0,e1,c1,e3,e4,h]
  ·have e2:Zs m i=false:=by simp [Zs,e1]
   simp [e2] at h
   have ih:=ih (by simpa using h)
   simp at ih
   simp [hi,h4,h0,e1,ih]
theorem l_vars1 (q:Zc) (m:Int) (hl:Le q.Atoms) (hv:∀ a∈q.Atoms,Le a.Vars) (n:Nat) (hq:q.Zd=n) (hn:n≤4):∀ k,k≤n →
  Z0 q (varL m q.Atoms k) m k=some (.own 0,[.arr Zx 1 true ((varL m q.Atoms n).map ic)]):=by
 refine down _ ?_ ?_
 ·refine Zgo _ _ _ _ _ ?_
  simp [hq]
 ·intro k hk ih
  refine Zgo _ _ _ _ _ ?_
  have h4:=inc64 (i:=k) (by omega)
  have b:=l_vars0 q m hl hv k (by omega) (varL m q.Atoms k) (by have:=Zcv m q.Atoms k;omega) _ 0 (Nat.zero_le _) (by
   rw [List.drop_zero,← Zh7,show w ((k:Int)+1)=(k:Int)+1 from h4];simpa using ih)
  simp at b
  simp [hq,hk,b]
@[simp] theorem Zet (q:Zc) (m:Int) (h:LeQ q) (hv:Zh q.Zd q.Atoms=true):Zbo q m=some (.own 0,[.arr Zx 1 true ((varL m q.Atoms q.Zd.toNat).map ic)]):=by
 refine Zjw _ _ _ ?_
 have hn:=Zb1 hv
 have b:=l_vars1 q m h.1 h.2 q.Zd.toNat (by omega) (by omega) 0 (Nat.zero_le _)
 simpa [varL] using b
theorem l_both (b xs:List Int) (hb:Le b) (hx:xs.length≤1000000):∀ i,i≤xs.length →
  Z9 ((xs.take i).filter (has b)) b xs xs.length i=some (.own 0,[.arr Zx 1 true ((xs.filter (has b)).map ic)]):=by
 refine down _ ?_ ?_
 ·refine Zgq _ _ _ _ _ _ ?_
  simp
 ·intro i hi ih
  refine Zgq _ _ _ _ _ _ ?_
  have h4:=inc64 (i:=i) (by omega)
  have c1:=Zcl b xs[i] hb
  have e4:((xs.take i).filter (has b)).length+1≤68719476736:=by
   have:=List.length_filter_le (has b) (xs.take i)
   simp at this
   omega
  rw [Zh8 _ hi] at ih
  rcases tf (has b xs[i]) with e | e
  ·simp [e] at ih
   simp [hi,h4,c1,e,ih]
  ·simp [e] at ih
   simp [hi,h4,c1,e,e4,ih]
@[simp] theorem x_both (xs b:List Int) (hb:Le b) (hx:xs.length≤1000000):Zcc xs b=some (.own 0,[.arr Zx 1 true ((xs.filter (has b)).map ic)]):=by
 refine Zjx _ _ _ ?_
 have:=l_both b xs hb hx 0 (Nat.zero_le _)
 simpa using this
theorem l_bits0 (q:Zc) (m:Int) (hv:∀ a∈q.Atoms,Le a.Vars) (h4v:Var4 q.Atoms) (i:Nat) (hi:i<q.Atoms.length) (hm:Zs m i=true) (r:AV×List Blk):∀ k,k≤q.Atoms[i].Vars.length→∀ p,
  Z3 q m (Ze (addV p (q.Atoms[i].Vars.drop k))) (w ((i:Int)+1))=some r→Zbc q m (Ze p) i k=some r:=by
 have e1:andI (shrI m i) 1=1:=by simpa [Zs] using hm
 have h0:¬ (i:Int)<0:=by omega
 have ha:=List.getElem_mem hi
 refine down _ ?_ ?_
 ·intro p h
  refine Zeq _ _ _ _ _ _ ?_
  rw [List.drop_length,Zdo] at h
  simp [hi,h]
 ·intro k hk ih p h
  refine Zeq _ _ _ _ _ _ ?_
  have h4:=inc64 (i:=k) (by have:=hv _ ha;omega)
  have e6:=or_bit p (v:=q.Atoms[i].Vars[k]) (h4v _ ha _ (List.getElem_mem hk))
  have e7:=h4v _ ha _ (List.getElem_mem hk)
  simp [inR] at e7
  have e8:¬ q.Atoms[i].Vars[k]<0:=by omega
  rw [Zdp p hk] at h
  have ih:=ih _ h
  simp at ih
  simp [hi,hk,h0,e1,h4,e6,e7,e8,ih]
theorem l_bits1 (q:Zc) (m:Int) (hl:Le q.Atoms) (hv:∀ a∈q.Atoms,Le a.Vars) (h4v:Var4 q.Atoms):∀ i,i≤q.Atoms.length→∀ p,
  Z3 q m (Ze p) i=some (I (Ze (addM m p q.Atoms i)),[]):=by
 refine down _ ?_ ?_
 ·intro p
  refine Zgx _ _ _ _ _ ?_
  have e:addM m p q.Atoms q.Atoms.length=p:=by funext u;simp [addM,hasV]
  simp [e]
 ·intro i hi ih p
  refine Zgx _ _ _ _ _ ?_
  have h4:=inc64 (i:=i) (by omega)
  have h0:¬ (i:Int)<0:=by omega
  rw [Zh6 m p hi]
  rcases tf (Zs m i) with e | e
  ·have e1:¬ andI (shrI m i) 1=1:=by simpa [Zs] using e
   have ih:=ih p
   simp at ih
   have b:Zbc q m (Ze p) i 0=some (I (Ze (addM m p q.Atoms (i+1))),[]):=by
    refine Zeq _ _ _ _ _ _ ?_
    simp [hi,h0,e1,h4,ih]
   simp [hi,e,b]
  ·have ih:=ih (addV p q.Atoms[i].Vars)
   have b:=l_bits0 q m hv h4v i hi e _ 0 (Nat.zero_le _) p (by rw [List.drop_zero,show w ((i:Int)+1)=(i:Int)+1 from h4];simpa using ih)
   simp at b
   simp [hi,e,b]
@[simp] theorem Zeu (q:Zc) (m:Int) (h:LeQ q) (h4v:Var4 q.Atoms):Zw q m=some (I (Ze (pV m q.Atoms)),[]):=by
 refine Zj9 _ _ _ ?_
 have b:=l_bits1 q m h.1 h.2 h4v 0 (Nat.zero_le _) (fun _=>false)
 have ez:Ze (fun _=>false)=0:=rfl
 have e:addM m (fun _=>false) q.Atoms 0=pV m q.Atoms:=by funext u;simp [addM,pV]
 rw [ez,e] at b
 simpa using b
end Go.Proofs.Ytdfoicjjheifeaa
/- part: V4 -/
namespace Go.Proofs.Ytdfoicjjheifeaa
open Go.AM
theorem Zko (q:Zc) (hq:LeQ q) (h:Zh q.Zd q.Atoms=true) (x:Zb) (info:List Za) (st:List Int) (hs:StOk info st) (hil:info.length≤100) (hst:st.length≤100) :
  match Zq q.Atoms x info st with
  | some y=>Zbp q x info st=some (.tup [.agg (y.c.map .t),Bo true],[])
  | none=>∃ y:Za,Zbp q x info st=some (.tup [.agg (y.c.map .t),Bo false],[]):=by
 have hl:=Zdr h
 have wl:w ((q.Atoms.length:Int) - 1)=(q.Atoms.length:Int) - 1:=wrap64 (by omega) (by omega)
 unfold Zq
 by_cases k1:x.Kind=1
 ·rw [if_pos k1]
  by_cases c1:inR x.Atom 0 (q.Atoms.length - 1)=true∧x.Order=0
  ·rw [if_pos c1]
   have c2:=c1.1
   simp [inR] at c2
   have hlt:x.Atom.toNat<q.Atoms.length:=by omega
   have hv:=Zfg h _ (List.getElem_mem hlt)
   have h0:¬ x.Atom<0:=by omega
   simp only
   refine Zbg _ _ _ _ _ ?_
   have e:q.Atoms[x.Atom.toNat].Vars.headD 0=q.Atoms[x.Atom.toNat].Vars[0]'(by omega):=by
    rw [List.headD_eq_head?_getD,hd0 (by omega)]
   rw [List.headD_eq_head?_getD] at e
   simp [k1,wl,c1,h0,hlt,c2,e,show 0<q.Atoms[x.Atom.toNat].Vars.length by omega]
  ·rw [if_neg c1]
   refine ⟨⟨0,-1,-1,-1⟩,Zbg _ _ _ _ _ ?_⟩
   rcases tf (inR x.Atom 0 (q.Atoms.length - 1)) with e | e
   ·simp [k1,wl,e]
   ·have e2:¬ x.Order=0:=fun hc=>c1 ⟨e,hc⟩
    simp [k1,wl,e,e2]
 rw [if_neg k1]
 by_cases k0:x.Atom=0
 rotate_left
 ·rw [if_pos k0]
  exact ⟨⟨0,-1,-1,-1⟩,Zbg _ _ _ _ _ (by simp [k1,k0])⟩
 rw [if_neg (by simpa using k0)]
 have w1:w ((st.length:Int) - 1)=(st.length:Int) - 1:=wrap64 (by omega) (by omega)
 have w2:w ((st.length:Int) - 2)=(st.length:Int) - 2:=wrap64 (by omega) (by omega)
 by_cases k2:x.Kind=2
 ·rw [if_pos k2]
  by_cases n1:st.length<1
  ·have:Zn st info 1=none:=by unfold Zn;rw [if_neg (by omega)]
   rw [this]
   have n1':(st.length:Int)<1:=by omega
   exact ⟨⟨0,-1,-1,-1⟩,Zbg _ _ _ _ _ (by simp [k1,k2,k0,n1'])⟩
  ·have n1':¬ (st.length:Int)<1:=by omega
   obtain ⟨s,y,t1,t2,t3,t4⟩:=Zbi hs (by omega:1≤1) (by omega:1≤st.length)
   have z1:(0:Int)≤(st.length:Int) - 1:=by omega
   have z5:(1:Int)≤(st.length:Int):=by omega
   have z2:((st.length:Int) - 1).toNat=st.length - 1:=by omega
   have q1:=Zet q y.Mask hq h
   have q2:=Zcl (varL y.Mask q.Atoms q.Zd.toNat) x.Order (by have:=Zcv y.Mask q.Atoms q.Zd.toNat;have:=Zb1 h;omega)
   rw [Zcw h] at q2
   rw [t1]
   simp only
   by_cases c1:vin q.Atoms y.Mask x.Order=true∧y.Order≠x.Order
   ·rw [if_pos c1]
    refine Zbg _ _ _ _ _ ?_
    simp [k1,k2,k0,n1',w1,z1,z2,z5,t2,t3,t4,q1,q2,c1]
   ·rw [if_neg c1]
    refine ⟨⟨0,-1,-1,-1⟩,Zbg _ _ _ _ _ ?_⟩
    rcases tf (vin q.Atoms y.Mask x.Order) with e | e
    ·simp [k1,k2,k0,n1',w1,z1,z2,z5,t2,t3,t4,q1,q2,e]
    ·have e2:y.Order=x.Order:=Decidable.byContradiction fun hc=>c1 ⟨e,hc⟩
     simp [k1,k2,k0,n1',w1,z1,z2,z5,t2,t3,t4,q1,q2,e,e2]
 rw [if_neg k2]
 by_cases n2:st.length<2
 ·have:Zn st info 2=none:=by unfold Zn;rw [if_neg (by omega)]
  rw [this]
  have n2':(st.length:Int)<2:=by omega
  exact ⟨⟨0,-1,-1,-1⟩,Zbg _ _ _ _ _ (by simp [k1,k2,k0,n2'])⟩
 have n2':¬ (st.length:Int)<2:=by omega
 obtain ⟨s,y,t1,t2,t3,t4⟩:=Zbi hs (by omega:1≤2) (by omega:2≤st.length)
 obtain ⟨t,z,u1,u2,u3,u4⟩:=Zbi hs (by omega:1≤1) (by omega:1≤st.length)
 have z1:(0:Int)≤(st.length:Int) - 1:=by omega
 have z2:((st.length:Int) - 1).toNat=st.length - 1:=by omega
 have z3:(0:Int)≤(st.length:Int) - 2:=by omega
 have z4:((st.length:Int) - 2).toNat=st.length - 2:=by omega
 have hn:=Zb1 h
 have q1:=Zet q y.Mask hq h
 have q2:=Zet q z.Mask hq h
 have l1:=Zcv y.Mask q.Atoms q.Zd.toNat
 have l2:=Zcv z.Mask q.Atoms q.Zd.toNat
 have q3:=x_both (varL y.Mask q.Atoms q.Zd.toNat) (varL z.Mask q.Atoms q.Zd.toNat) (by omega) (by omega)
 have q4:=Zcl ((varL y.Mask q.Atoms q.Zd.toNat).filter (has (varL z.Mask q.Atoms q.Zd.toNat))) x.Order (by
  have:=List.length_filter_le (has (varL z.Mask q.Atoms q.Zd.toNat)) (varL y.Mask q.Atoms q.Zd.toNat);omega)
 rw [Zia h] at q4
 have q5:=Zh9 h y.Mask z.Mask
 generalize hS:(varL y.Mask q.Atoms q.Zd.toNat).filter (has (varL z.Mask q.Atoms q.Zd.toNat))=S at q3 q4 q5
 rw [t1,u1]
 simp only
 have base:∀ (r:AV×List Blk),(if andI y.Mask z.Mask=0 then
    if ((S.length:Int)=0) then some (.tup [.agg [I (orI y.Mask z.Mask),I (-1),I s,I t],Bo false],[])=some r
    else if x.Kind=3 then some (.tup [.agg [I (orI y.Mask z.Mask),I (-1),I s,I t],Bo (decide (x.Order=0))],[])=some r
    else if x.Kind=5 then some (.tup [.agg [I (orI y.Mask z.Mask),I y.Order,I s,I t],Bo (decide (x.Order=0))],[])=some r
    else if x.Kind=4 then
     if (vin q.Atoms y.Mask x.Order && vin q.Atoms z.Mask x.Order)=true then
      if y.Order=x.Order then some (.tup [.agg [I (orI y.Mask z.Mask),I x.Order,I s,I t],Bo (decide (z.Order=x.Order))],[])=some r
      else some (.tup [.agg [I (orI y.Mask z.Mask),I x.Order,I s,I t],Bo false],[])=some r
     else some (.tup [.agg [I (orI y.Mask z.Mask),I x.Order,I s,I t],Bo false],[])=some r
    else some (.tup [.agg [I (orI y.Mask z.Mask),I (-1),I s,I t],Bo false],[])=some r
   else some (.tup [.agg [I (orI y.Mask z.Mask),I (-1),I s,I t],Bo false],[])=some r)→Zbp q x info st=some r:=by
  intro r hr
  refine Zbg _ _ _ _ _ ?_
  simp only [k1,k0,k2,if_false,if_true,n2',w1,w2,z1,z2,z3,z4,t2,t3,t4,u2,u3,u4,q1,q2,true_and,Option.some.injEq,exists_eq_left']
  refine ⟨_,rfl,_,rfl,S,?_,?_⟩
  ·simpa using q3
  ·simp only [q4,Option.some.injEq,Prod.mk.injEq,AV.t.injEq,T.bool.injEq,and_true,exists_eq_left']
   simpa using hr
 by_cases c1:andI y.Mask z.Mask=0∧shr q.Atoms y.Mask z.Mask=true
 rotate_left
 ·rw [if_neg c1]
  refine ⟨⟨orI y.Mask z.Mask,-1,s,t⟩,base _ ?_⟩
  by_cases c2:andI y.Mask z.Mask=0
  ·have c3:S.length=0:=q5.2 (by rcases tf (shr q.Atoms y.Mask z.Mask) with e | e;exact e;exact absurd ⟨c2,e⟩ c1)
   have c4:(S.length:Int)=0:=by omega
   rw [if_pos c2,if_pos c4]
   simp
  ·rw [if_neg c2]
   simp
 rw [if_pos c1]
 have c4:¬ (S.length:Int)=0:=fun hc=>by
  have:=q5.1 (by omega)
  rw [c1.2] at this
  cases this
 have c5:¬ S=[]:=fun hc=>c4 (by simp [hc])
 unfold Zt
 by_cases j1:x.Kind=3∧x.Order=0
 ·rw [if_pos j1]
  exact base _ (by simp [c1.1,c4,c5,j1])
 rw [if_neg j1]
 by_cases j2:x.Kind=5∧x.Order=0
 ·rw [if_pos j2]
  exact base _ (by simp [c1.1,c4,c5,j2])
 rw [if_neg j2]
 by_cases j3:x.Kind=4∧vin q.Atoms y.Mask x.Order=true∧vin q.Atoms z.Mask x.Order=true∧y.Order=x.Order∧z.Order=x.Order
 ·rw [if_pos j3]
  exact base _ (by simp [c1.1,c4,c5,j3])
 rw [if_neg j3]
 simp only [Option.map_none]
 by_cases k3:x.Kind=3
 ·have e:¬ x.Order=0:=fun hc=>j1 ⟨k3,hc⟩
  exact ⟨⟨orI y.Mask z.Mask,-1,s,t⟩,base _ (by simp [c1.1,c4,c5,k3,e])⟩
 by_cases k5:x.Kind=5
 ·have e:¬ x.Order=0:=fun hc=>j2 ⟨k5,hc⟩
  exact ⟨⟨orI y.Mask z.Mask,y.Order,s,t⟩,base _ (by simp [c1.1,c4,c5,k5,e])⟩
 by_cases k4:x.Kind=4
 ·refine ⟨⟨orI y.Mask z.Mask,x.Order,s,t⟩,base _ ?_⟩
  rcases tf (vin q.Atoms y.Mask x.Order) with e1 | e1 <;> rcases tf (vin q.Atoms z.Mask x.Order) with e2 | e2 <;> by_cases e3:y.Order=x.Order <;> simp [c1.1,c4,c5,k4,e1,e2,e3]
  exact fun e4=>j3 ⟨k4,e1,e2,e3,e4⟩
 ·exact ⟨⟨orI y.Mask z.Mask,-1,s,t⟩,base _ (by simp [c1.1,c4,c5,k3,k4,k5])⟩
end Go.Proofs.Ytdfoicjjheifeaa
/- part: V5 -/
namespace Go.Proofs.Ytdfoicjjheifeaa
open Go.AM
@[simp] theorem Zdf (b v:Int):Z4 b v=some (Bo (inR v 0 3 && decide (andI (shrI b v) 1=1)),[]):=by
 refine Zka _ _ _ ?_
 rcases tf (inR v 0 3) with e | e
 ·simp [e]
 ·have e0:=e
  simp [inR] at e0
  have:¬ v<0:=by omega
  simp [e,this]
def Zf (x:Zb):Option Za→AV×List Blk
 | some y=>(.tup [.agg (y.c.map .t),I (popsI x)],[])
 | none=>(.tup [.agg [I 0,I 0,I 0,I 0],I (-1)],[])
theorem Zkp (q:Zc) (hq:LeQ q) (h:Zh q.Zd q.Atoms=true) (x:Zb) (info:List Za) (st:List Int) (hs:StOk info st) (hil:info.length≤100) (hst:st.length≤100) :
  Zbd q x info st=some (Zf x (Zq q.Atoms x info st)):=by
 have hl:=Zdr h
 have wl:w ((q.Atoms.length:Int) - 1)=(q.Atoms.length:Int) - 1:=wrap64 (by omega) (by omega)
 unfold Zq
 by_cases k1:x.Kind=1
 ·rw [if_pos k1]
  by_cases c1:inR x.Atom 0 (q.Atoms.length - 1)=true∧x.Order=0
  ·rw [if_pos c1]
   have c2:=c1.1
   simp [inR] at c2
   have hlt:x.Atom.toNat<q.Atoms.length:=by omega
   have hv:=Zfg h _ (List.getElem_mem hlt)
   have h0:¬ x.Atom<0:=by omega
   refine Zy _ _ _ _ _ ?_
   have e:q.Atoms[x.Atom.toNat].Vars.headD 0=q.Atoms[x.Atom.toNat].Vars[0]'(by omega):=by
    rw [List.headD_eq_head?_getD,hd0 (by omega)]
   rw [List.headD_eq_head?_getD] at e
   simp [k1,wl,c1,h0,hlt,c2,e,Zf,popsI,show 0<q.Atoms[x.Atom.toNat].Vars.length by omega]
  ·rw [if_neg c1]
   refine Zy _ _ _ _ _ ?_
   rcases tf (inR x.Atom 0 (q.Atoms.length - 1)) with e | e
   ·simp [k1,wl,e,Zf]
   ·have e2:¬ x.Order=0:=fun hc=>c1 ⟨e,hc⟩
    simp [k1,wl,e,e2,Zf]
 rw [if_neg k1]
 have w1:w ((st.length:Int) - 1)=(st.length:Int) - 1:=wrap64 (by omega) (by omega)
 have w2:w ((st.length:Int) - 2)=(st.length:Int) - 2:=wrap64 (by omega) (by omega)
 by_cases k0:x.Atom=0
 rotate_left
 ·rw [if_pos k0]
  refine Zy _ _ _ _ _ ?_
  have j:∀ b,Zbu q x ⟨0,0,0,0⟩ info st st.length x.Kind b=some (Zf x none):=by
   intro b
   refine Zck _ _ _ _ _ _ _ _ _ ?_
   cases b <;> simp [k0,Zf]
  by_cases k2:x.Kind=2
  ·simp [k1,k2,k0,Zf]
  ·by_cases k3:x.Kind=3 <;> by_cases k4:x.Kind=4 <;> simp [k1,k2,k0,k3,k4,j] <;> first | (simp only [k3] at j;simp [j,Zf]) | (simp only [k4] at j;simp [j,Zf]) | simp [Zf]
 rw [if_neg (by simpa using k0)]
 by_cases k2:x.Kind=2
 ·rw [if_pos k2]
  refine Zy _ _ _ _ _ ?_
  by_cases n1:st.length<1
  ·have:Zn st info 1=none:=by unfold Zn;rw [if_neg (by omega)]
   rw [this]
   have n1':(st.length:Int)<1:=by omega
   simp [k1,k2,k0,n1',Zf]
  ·have n1':¬ (st.length:Int)<1:=by omega
   obtain ⟨s,y,t1,t2,t3,t4⟩:=Zbi hs (by omega:1≤1) (by omega:1≤st.length)
   have z1:(0:Int)≤(st.length:Int) - 1:=by omega
   have z5:(1:Int)≤(st.length:Int):=by omega
   have z2:((st.length:Int) - 1).toNat=st.length - 1:=by omega
   have q1:=Zeu q y.Mask hq (valid4 h)
   have q2:(inR x.Order 0 3 && decide (andI (shrI (Ze (pV y.Mask q.Atoms)) x.Order) 1=1))=vin q.Atoms y.Mask x.Order:=by
    unfold vin
    rcases tf (inR x.Order 0 3) with e | e
    ·simp [e]
    ·rw [e,Bool.true_and,Bool.true_and,Bool.eq_iff_iff,decide_eq_true_eq]
     exact at_bit _ e
   rw [t1]
   simp only
   by_cases e2:y.Order=x.Order
   ·simp [k1,k2,k0,n1',w1,z1,z2,z5,t2,t3,t4,e2,Zf]
   ·rcases tf (vin q.Atoms y.Mask x.Order) with e | e
    ·simp only [k1,k2,k0,n1',w1,z1,z2,t2,t3,t4,q1,Zdf,q2,e,e2,if_false,if_true,true_and,Option.some.injEq,exists_eq_left',Prod.mk.injEq,AV.t.injEq,T.int.injEq,T.bool.injEq,and_true]
     simp [Zf]
    ·simp only [k1,k2,k0,n1',w1,z1,z2,t2,t3,t4,q1,Zdf,q2,e,e2,if_false,if_true,true_and,Option.some.injEq,exists_eq_left',Prod.mk.injEq,AV.t.injEq,T.int.injEq,T.bool.injEq,and_true]
     simp [Zf,popsI,k1,k2,e2]
 rw [if_neg k2]
 -- a join
 have q0:∀ (b:Za) (c:Za) (y:Za) (f:Bool),x.Kind=4→∀ m1 m2,Zbe q x ⟨0,0,0,0⟩ b c y (andI (Ze (pV m1 q.Atoms)) (Ze (pV m2 q.Atoms))) f =
   if vin q.Atoms m1 x.Order=true∧vin q.Atoms m2 x.Order=true∧b.Order=x.Order∧c.Order=x.Order then some (.tup [.agg [I y.Mask,I x.Order,I y.Left,I y.Right],I 2],[]) else some (Zf x none):=by
  intro b c y f k4 m1 m2
  have e:(inR x.Order 0 3 && decide (andI (shrI (andI (Ze (pV m1 q.Atoms)) (Ze (pV m2 q.Atoms))) x.Order) 1=1))=(vin q.Atoms m1 x.Order && vin q.Atoms m2 x.Order):=by
   unfold vin
   rcases tf (inR x.Order 0 3) with e | e
   ·simp [e]
   ·rw [e,Bool.true_and,Bool.true_and,Bool.true_and,Bool.eq_iff_iff,decide_eq_true_eq,Ze8]
    simpa using at_bit (fun u=>pV m1 q.Atoms u && pV m2 q.Atoms u) e
  split
  ·rename_i hc
   refine Zer _ _ _ _ _ _ _ _ _ ?_
   simp only [Zdf,e,hc]
   simp [k4]
  ·rename_i hc
   refine Zer _ _ _ _ _ _ _ _ _ ?_
   simp only [Zdf,e]
   rcases tf (vin q.Atoms m1 x.Order) with e1 | e1 <;> rcases tf (vin q.Atoms m2 x.Order) with e2 | e2 <;> by_cases e3:b.Order=x.Order <;> by_cases e4:c.Order=x.Order <;> simp [k4,e1,e2,e3,e4,Zf]
   exact hc ⟨e1,e2,e3,e4⟩
 have q3:∀ (b:Za) (c:Za) (y:Za) (v:Int) (f:Bool),x.Kind≠4→Zbe q x ⟨0,0,0,0⟩ b c y v f=some (.tup [.agg (y.c.map .t),I 2],[]):=by
  intro b c y v f k4
  exact Zer _ _ _ _ _ _ _ _ _ (by simp [k4])
 have q5:∀ (b:Za) (c:Za) (y:Za) (v:Int),x.Kind≠4→Zbv q x ⟨0,0,0,0⟩ b c y v=some (.tup [.agg (y.c.map .t),I 2],[]):=by
  intro b c y v k4
  exact Zkb _ _ _ _ _ _ _ _ (by simp [k4])
 by_cases kk:x.Kind=3∨x.Kind=4∨x.Kind=5
 rotate_left
 ·have k3:¬ x.Kind=3:=fun hc=>kk (.inl hc)
  have k4:¬ x.Kind=4:=fun hc=>kk (.inr (.inl hc))
  have k5:¬ x.Kind=5:=fun hc=>kk (.inr (.inr hc))
  have hj:∀ y z,Zt q.Atoms x y z=none:=by intro y z;simp [Zt,k3,k4,k5]
  refine Eq.trans (b:=some (Zf x none)) (Zy _ _ _ _ _ (by simp [k1,k2,k3,k4,k5,Zf])) ?_
  simp only [hj,Option.map_none,ite_self]
  split <;> rfl
 have k5':x.Kind≠3→x.Kind≠4→x.Kind=5:=fun a b=>by rcases kk with h | h | h;exact absurd h a;exact absurd h b;exact h
 have red:∀ r,Zbu q x ⟨0,0,0,0⟩ info st st.length x.Kind true=some r→(x.Kind=5→Zbd q x info st=some r)→Zbd q x info st=some r:=by
  intro r hr h5
  by_cases k5:x.Kind=5
  ·exact h5 k5
  ·refine Zy _ _ _ _ _ ?_
   by_cases k3:x.Kind=3
   ·rw [if_neg k1,if_neg k2,if_pos k3];exact hr
   ·by_cases k4:x.Kind=4
    ·rw [if_neg k1,if_neg k2,if_neg k3,if_pos k4];exact hr
    ·exact absurd (k5' k3 k4) k5
 by_cases n2:st.length<2
 ·have:Zn st info 2=none:=by unfold Zn;rw [if_neg (by omega)]
  rw [this]
  have n2':(st.length:Int)<2:=by omega
  refine red _ ?_ ?_
  ·exact Zck _ _ _ _ _ _ _ _ _ (by simp [k0,n2',Zf])
  ·intro k5
   exact Zy _ _ _ _ _ (by simp [k5,k0,n2',Zf])
 have n2':¬ (st.length:Int)<2:=by omega
 obtain ⟨s,y,t1,t2,t3,t4⟩:=Zbi hs (by omega:1≤2) (by omega:2≤st.length)
 obtain ⟨t,z,u1,u2,u3,u4⟩:=Zbi hs (by omega:1≤1) (by omega:1≤st.length)
 have z1:(0:Int)≤(st.length:Int) - 1:=by omega
 have z2:((st.length:Int) - 1).toNat=st.length - 1:=by omega
 have z3:(0:Int)≤(st.length:Int) - 2:=by omega
 have z4:((st.length:Int) - 2).toNat=st.length - 2:=by omega
 have b1:=Zeu q y.Mask hq (valid4 h)
 have b2:=Zeu q z.Mask hq (valid4 h)
 have b3:=shr_bits q.Atoms y.Mask z.Mask
 rw [t1,u1]
 simp only
 by_cases c1:andI y.Mask z.Mask=0
 rotate_left
 ·rw [if_neg (fun hc=>c1 hc.1)]
  refine red _ ?_ ?_
  ·refine Zck _ _ _ _ _ _ _ _ _ ?_
   simp only [k0,n2',w1,w2,z1,z2,z3,z4,t2,t3,t4,u2,u3,u4,b1,b2,c1,if_true,if_false,true_and,Option.some.injEq,exists_eq_left',Prod.mk.injEq,AV.t.injEq,T.int.injEq,and_true]
   simp [Zf]
  ·intro k5
   refine Zy _ _ _ _ _ ?_
   simp only [k5,k0,n2',w1,w2,z1,z2,z3,z4,t2,t3,t4,u2,u3,u4,b1,b2,c1,if_true,if_false,true_and,Option.some.injEq,exists_eq_left',Prod.mk.injEq,AV.t.injEq,T.int.injEq,and_true]
   simp [Zf]
 rcases tf (shr q.Atoms y.Mask z.Mask) with c2 | c2
 ·rw [if_neg (fun hc=>by rw [hc.2] at c2;cases c2)]
  have c3:=b3.2 c2
  refine red _ ?_ ?_
  ·refine Zck _ _ _ _ _ _ _ _ _ ?_
   simp only [k0,n2',w1,w2,z1,z2,z3,z4,t2,t3,t4,u2,u3,u4,b1,b2,c1,c3,if_true,if_false,true_and,Option.some.injEq,exists_eq_left',Prod.mk.injEq,AV.t.injEq,T.int.injEq,and_true]
   simp [Zf]
  ·intro k5
   refine Zy _ _ _ _ _ ?_
   simp only [k5,k0,n2',w1,w2,z1,z2,z3,z4,t2,t3,t4,u2,u3,u4,b1,b2,c1,c3,if_true,if_false,true_and,Option.some.injEq,exists_eq_left',Prod.mk.injEq,AV.t.injEq,T.int.injEq,and_true]
   simp [Zf]
 rw [if_pos ⟨c1,c2⟩]
 have c3:¬ andI (Ze (pV y.Mask q.Atoms)) (Ze (pV z.Mask q.Atoms))=0:=fun hc=>by rw [b3.1 hc] at c2;cases c2
 have p2:popsI x=2:=by unfold popsI;rw [if_neg k1,if_neg k2]
 refine red _ ?_ ?_
 ·refine Zck _ _ _ _ _ _ _ _ _ ?_
  simp only [k0,n2',w1,w2,z1,z2,z3,z4,t2,t3,t4,u2,u3,u4,b1,b2,c1,c3,if_true,if_false,true_and,Option.some.injEq,exists_eq_left',Prod.mk.injEq,AV.t.injEq,T.int.injEq,and_true]
  by_cases k4:x.Kind=4
  ·have k3:¬ x.Kind=3:=by omega
   have k5:¬ x.Kind=5:=by omega
   rw [if_pos k4,q0 _ _ _ _ k4]
   simp only [Zt,k3,k4,k5,false_and,true_and,if_false]
   split
   ·rename_i hc;simp [Zf,p2]
   ·rfl
  ·by_cases e:x.Order=0
   ·by_cases k5:x.Kind=5
    ·rw [if_neg k4,if_pos e,if_pos k5,q5 _ _ _ _ k4]
     simp [Zt,k5,e,Zf,p2]
    ·have k3:x.Kind=3:=by omega
     rw [if_neg k4,if_pos e,if_neg k5,q3 _ _ _ _ _ k4]
     simp [Zt,k3,e,Zf,p2]
   ·rw [if_neg k4,if_neg e]
    simp [Zt,k4,e,Zf]
 ·intro k5
  refine Zy _ _ _ _ _ ?_
  have k4:x.Kind≠4:=by omega
  simp only [k5,k0,n2',w1,w2,z1,z2,z3,z4,t2,t3,t4,u2,u3,u4,b1,b2,c1,c3,if_true,if_false,true_and,Option.some.injEq,exists_eq_left',Prod.mk.injEq,AV.t.injEq,T.int.injEq,and_true]
  by_cases e:x.Order=0
  ·simp [e,q5 _ _ _ _ k4,Zt,k5,Zf,p2]
  ·simp [e,Zt,k5,Zf]
theorem Zkq (q:Zc) (hq:LeQ q) (h:Zh q.Zd q.Atoms=true) (p:Plan) (hl:p.Steps.length≤14):∀ i,i≤p.Steps.length→∀ info st,StOk info st→info.length=i→st.length≤i →
  Zbx q p info st i=some (match Zj q.Atoms (p.Steps.drop i) i info st with
   | some (info',st')=>if st'.length=1 then (.tup [.own 0,Bo true],[.arr Zbk 4 true (info'.map Za.c)]) else (.tup [.own 0,Bo false],[.arr Zbk 4 true []])
   | none=>(.tup [.own 0,Bo false],[.arr Zbk 4 true []])):=by
 refine down _ ?_ ?_
 ·intro info st _ _ _
  rw [List.drop_length,Zj]
  refine Zgy _ _ _ _ _ _ ?_
  by_cases c:st.length=1
  ·simp [c]
  ·have c':¬ (st.length:Int)=1:=by omega
   simp [c,c']
 ·intro i hi ih info st hs hil hst
  have h5:=inc64 (i:=i) (by omega)
  have s1:=Zkp q hq h p.Steps[i] info st hs (by omega) (by omega)
  rw [Zfh q.Atoms hi]
  refine Zgy _ _ _ _ _ _ ?_
  cases he:Zq q.Atoms p.Steps[i] info st with
  | none =>
   rw [he,Zf] at s1
   have e0:Zbd q p.Steps[i] info st=some (.tup [.agg ((⟨0,0,0,0⟩:Za).c.map .t),I (-1)],[]):=s1
   rw [if_pos (by omega)]
   refine ⟨by omega,_,List.getElem?_eq_getElem hi,_,_,e0,?_⟩
   simp
  | some y =>
   rw [he,Zf] at s1
   obtain ⟨f1,f2,f3⟩:=Zds hs he
   rw [f1] at s1
   have hn:=Zcx hs y (st.length - pops y)
   rw [hil] at hn
   have ih:=ih (info++[y]) (st.take (st.length - pops y)++[(i:Int)]) hn (by simp [hil]) (st_len hst _)
   have w2:w ((st.length:Int) - (pops y:Int))=(st.length:Int) - (pops y:Int):=wrap64 (by omega) (by omega)
   have z2:((st.length:Int) - (pops y:Int)).toNat=st.length - pops y:=by omega
   rw [if_pos (by omega)]
   refine ⟨by omega,_,List.getElem?_eq_getElem hi,_,_,s1,?_⟩
   rw [if_neg (by omega),w2,z2]
   refine ⟨by omega,by omega,by omega,by omega,by omega,?_⟩
   rw [show w ((i:Int)+1)=(i:Int)+1 from h5]
   simpa using ih
@[simp] theorem Zg0 (q:Zc) (p:Plan) (hq:LeQ q):Zbw q p=some (match Zk q.Zd q.Atoms p.Steps with
  | some info=>(.tup [.own 0,Bo true],[.arr Zbk 4 true (info.map Za.c)])
  | none=>(.tup [.own 0,Bo false],[.arr Zbk 4 true []])):=by
 refine Zkc _ _ _ ?_
 have q1:=Zkn q hq
 unfold Zk
 rcases tf (Zh q.Zd q.Atoms) with e | e
 ·simp [q1,e]
 rcases tf (inR p.Steps.length 1 14) with e2 | e2
 ·simp [q1,e,e2]
 ·have e3:=e2
  simp [inR] at e3
  have b:=Zkq q hq e p (by omega) 0 (Nat.zero_le _) [] [] (fun s hs=>by cases hs) rfl (Nat.le_refl _)
  simp only [List.drop_zero] at b
  simp only [q1,e,e2,x_l1In,Option.some.injEq,Prod.mk.injEq,AV.t.injEq,T.bool.injEq,and_true,exists_eq_left',if_true,and_self]
  refine Eq.trans b ?_
  cases Zj q.Atoms p.Steps 0 [] [] with
  | none=>rfl
  | some r=>obtain ⟨a,b⟩:=r;simp only;split <;> rfl
end Go.Proofs.Ytdfoicjjheifeaa
/- part: V6 -/
namespace Go.Proofs.Ytdfoicjjheifeaa
open Go.AM
theorem Zkr (q:Zc) (hq:LeQ q) (h:Zh q.Zd q.Atoms=true) (steps:List Zb) (hl:steps.length≤14):∀ i,i≤steps.length→∀ info st,StOk info st→info.length=i→st.length≤i →
  Z2 q info st steps steps.length i=some (match Zj q.Atoms (steps.drop i) i info st with
   | some (info',st')=>if st'.length=1 then (.tup [.own 0,Bo true],[.arr Zbk 4 true (info'.map Za.c)]) else (.tup [.t .nil,Bo false],[])
   | none=>(.tup [.t .nil,Bo false],[])):=by
 refine down _ ?_ ?_
 ·intro info st _ _ _
  rw [List.drop_length,Zj]
  refine Zgr _ _ _ _ _ _ _ ?_
  by_cases c:st.length=1
  ·simp [c]
  ·have c':¬ (st.length:Int)=1:=by omega
   simp [c,c']
 ·intro i hi ih info st hs hil hst
  have h5:=inc64 (i:=i) (by omega)
  have s1:=Zko q hq h steps[i] info st hs (by omega) (by omega)
  rw [Zfh q.Atoms hi]
  refine Zgr _ _ _ _ _ _ _ ?_
  cases he:Zq q.Atoms steps[i] info st with
  | none =>
   rw [he] at s1
   obtain ⟨y,s1⟩:=s1
   rw [if_pos (by omega)]
   refine ⟨by omega,_,List.getElem?_eq_getElem hi,_,_,s1,?_⟩
   simp
  | some y =>
   rw [he] at s1
   obtain ⟨f1,f2,f3⟩:=Zds hs he
   have hn:=Zcx hs y (st.length - pops y)
   rw [hil] at hn
   have ih:=ih (info++[y]) (st.take (st.length - pops y)++[(i:Int)]) hn (by simp [hil]) (st_len hst _)
   rw [if_pos (by omega)]
   refine ⟨by omega,_,List.getElem?_eq_getElem hi,_,_,s1,?_⟩
   rw [if_pos rfl]
   refine ⟨by omega,?_⟩
   simp only
   unfold pops at ih f2 ⊢
   rw [show w ((i:Int)+1)=(i:Int)+1 from h5]
   by_cases r:0≤y.Right
   ·simp only [if_pos r] at ih f2 ⊢
    have w2:w ((st.length:Int) - 2)=(st.length:Int) - 2:=wrap64 (by omega) (by omega)
    have z2:((st.length:Int) - 2).toNat=st.length - 2:=by omega
    rw [w2,z2]
    refine ⟨by omega,by omega,by omega,by simpa using ih⟩
   ·simp only [if_neg r] at ih f2 ⊢
    by_cases l:0≤y.Left
    ·simp only [if_pos l] at ih f2 ⊢
     have w2:w ((st.length:Int) - 1)=(st.length:Int) - 1:=wrap64 (by omega) (by omega)
     have z2:((st.length:Int) - 1).toNat=st.length - 1:=by omega
     rw [w2,z2]
     refine ⟨by omega,by omega,by omega,by simpa using ih⟩
    ·simp only [if_neg l] at ih f2 ⊢
     exact ⟨by omega,by simpa using ih⟩
@[simp] theorem Zg1 (q:Zc) (p:Plan) (hq:LeQ q):Z1 q p=some (match Zk q.Zd q.Atoms p.Steps with
  | some info=>(.tup [.own 0,Bo true],[.arr Zbk 4 true (info.map Za.c)])
  | none=>(.tup [.t .nil,Bo false],[])):=by
 refine Zjy _ _ _ ?_
 have q1:=Zkk q hq
 unfold Zk
 rcases tf (Zh q.Zd q.Atoms) with e | e
 ·simp [q1,e]
 rcases tf (inR p.Steps.length 1 14) with e2 | e2
 ·simp [q1,e,e2]
 ·have e3:=e2
  simp [inR] at e3
  have b:=Zkr q hq e p.Steps (by omega) 0 (Nat.zero_le _) [] [] (fun s hs=>by cases hs) rfl (Nat.le_refl _)
  simp only [List.drop_zero] at b
  simp only [q1,e,e2,Zgz,Option.some.injEq,Prod.mk.injEq,AV.t.injEq,T.bool.injEq,and_true,exists_eq_left',if_true,and_self]
  refine Eq.trans b ?_
  cases Zj q.Atoms p.Steps 0 [] [] with
  | none=>rfl
  | some r=>obtain ⟨a,b⟩:=r;simp only;split <;> rfl
end Go.Proofs.Ytdfoicjjheifeaa
/- part: RS -/
namespace Go.Proofs.Ytdfoicjjheifeaa
open Go.AM
theorem Zks {qa:List Atom} {x:Zb} {info:List Za} {st:List Int} {y:Za} (hs:StOk info st) (h:Zq qa x info st=some y):y.Left<info.length∧(0≤y.Right→x.Kind≤5):=by
 unfold Zq at h
 split at h
 ·split at h
  ·cases h
   exact ⟨by simp;omega,fun hc=>absurd (show (0:Int)≤-1 from hc) (by decide)⟩
  ·cases h
 ·split at h
  ·cases h
  ·split at h
   ·split at h
    ·rename_i s y' ht
     split at h
     ·cases h
      obtain ⟨_,t2,t3,_⟩:=Z6 hs (Nat.le_refl 1) ht
      exact ⟨by simp;omega,fun hc=>absurd (show (0:Int)≤-1 from hc) (by decide)⟩
     ·cases h
    ·cases h
   ·split at h
    ·rename_i s y' t z ht hu
     split at h
     ·obtain ⟨_,t2,t3,_⟩:=Z6 hs (by omega:1≤2) ht
      obtain ⟨o,ho,rfl⟩:=Option.map_eq_some_iff.1 h
      refine ⟨by simp;omega,fun _=>?_⟩
      unfold Zt at ho
      split at ho
      ·omega
      ·split at ho
       ·omega
       ·split at ho
        ·omega
        ·cases ho
     ·cases h
    ·cases h
theorem Zg2 {qa:List Atom}:∀ {xs:List Zb} {i:Nat} {info:List Za} {st:List Int} {info':List Za} {st':List Int},Zj qa xs i info st=some (info',st') →
  StOk info st→info.length=i→∃ tail,info'=info++tail∧tail.length=xs.length∧∀ (j:Nat) (y:Za) (x:Zb),tail[j]?=some y→xs[j]?=some x→y.Left<(i:Int)+j∧(0≤y.Right→x.Kind≤5)
 | [],i,info,st,info',st',h,hs,hi=>by
  simp [Zj] at h
  obtain ⟨rfl,rfl⟩:=h
  exact ⟨[],by simp,rfl,by intro j y x hj;simp at hj⟩
 | x::xs,i,info,st,info',st',h,hs,hi=>by
  rw [Zj] at h
  split at h
  ·cases h
  ·rename_i y hy
   have hn:=Zcx hs y (st.length - pops y)
   rw [hi] at hn
   obtain ⟨tail,g2,g3,g4⟩:=Zg2 h hn (by simp [hi])
   refine ⟨y::tail,by simp [g2],by simp [g3],?_⟩
   intro j y' x' hj hx
   cases j with
   | zero =>
    simp at hj hx;subst hj;subst hx
    have:=Zks hs hy
    exact ⟨by omega,this.2⟩
   | succ j =>
    have:=g4 j y' x' (by simpa using hj) (by simpa using hx)
    exact ⟨by omega,this.2⟩
def lw (info:List Za):Prop:=∀ (i:Nat) (y:Za),info[i]?=some y→y.Left<(i:Int)
theorem Zg3 {n:Int} {qa:List Atom} {steps:List Zb} {info:List Za} (h:Zk n qa steps=some info) :
  lw info∧∀ (j:Nat) (y:Za) (x:Zb),info[j]?=some y→steps[j]?=some x→0≤y.Right→x.Kind≤5:=by
 have hl:=(Zbj h).2.1
 unfold Zk at h
 split at h
 ·split at h
  ·rename_i info' st hg
   split at h
   ·cases h
    obtain ⟨tail,g2,g3,g4⟩:=Zg2 hg (fun s hs=>by cases hs) rfl
    simp at g2
    subst g2
    refine ⟨fun i y hi=>?_,fun j y x hj hx=>(g4 j y x hj hx).2⟩
    have hi2:i<steps.length:=by
     have:=(List.getElem?_eq_some_iff.1 hi).1
     omega
    have:=(g4 i y _ hi (List.getElem?_eq_getElem hi2)).1
    omega
   ·cases h
  ·cases h
 ·cases h
def fst (info:List Za):Nat→Int→Int
 | 0,i=>i
 | f+1,i=>match info[i.toNat]? with
  | some y=>if 0≤y.Left then fst info f y.Left else i
  | none=>i
def first (info:List Za) (i:Int):Int:=fst info (i.toNat+1) i
theorem Zg4 {info:List Za} (h:lw info):∀ (f:Nat) (i:Int),0≤i→i.toNat<f→i.toNat<info.length→Zbq info i=some (I (fst info f i),[])
 | 0,_,_,h1,_=>absurd h1 (Nat.not_lt_zero _)
 | f+1,i,h0,h1,h2=>by
  have e:=List.getElem?_eq_getElem h2
  have hl:=h _ _ e
  refine Zj0 _ _ _ ⟨h0,_,e,?_⟩
  unfold fst
  rw [e]
  by_cases c:0≤info[i.toNat].Left
  ·simp only [if_pos c]
   exact Zg4 h f _ c (by omega) (by omega)
  ·simp only [if_neg c]
theorem Zg5 {info:List Za} (h:lw info):∀ (f:Nat) (i:Int),0≤i→i.toNat<f→i.toNat<info.length→Zby info i=some (I (fst info f i),[])
 | 0,_,_,h1,_=>absurd h1 (Nat.not_lt_zero _)
 | f+1,i,h0,h1,h2=>by
  have e:=List.getElem?_eq_getElem h2
  have hl:=h _ _ e
  refine Zkd _ _ _ ⟨h0,_,e,?_⟩
  unfold fst
  rw [e]
  by_cases c:0≤info[i.toNat].Left
  ·simp only [if_pos c]
   exact Zg5 h f _ c (by omega) (by omega)
  ·simp only [if_neg c]
theorem x_begins {info:List Za} (h:lw info) {i:Int} (h0:0≤i) (h2:i.toNat<info.length):Zce info i=some (I (first info i),[]):=Zj1 _ _ _ (Zg4 h _ i h0 (by omega) h2)
theorem Zkt {info:List Za} (h:lw info) {i:Int} (h0:0≤i) (h2:i.toNat<info.length):Zcj info i=some (I (first info i),[]):=Zke _ _ _ (Zg5 h _ i h0 (by omega) h2)
end Go.Proofs.Ytdfoicjjheifeaa
/- part: RT -/
namespace Go.Proofs.Ytdfoicjjheifeaa
open Go.AM
theorem Zku (steps:List Zb) (hl:steps.length≤100):∀ i,i≤steps.length→∀ out,out.length≤i→Zba out steps steps.length i=some (.own 0,[.arr Zx 1 true ((out++jst (steps.drop i) i).map ic)]):=by
 refine down _ ?_ ?_
 ·intro out ho
  refine Zgs _ _ _ _ _ ?_
  rw [if_neg (by omega),List.drop_length];simp [jst]
 ·intro i hi ih out ho
  have h5:=inc64 (i:=i) (by omega)
  refine Zgs _ _ _ _ _ ?_
  rw [if_pos (by omega),Zfk hi]
  refine ⟨by omega,_,List.getElem?_eq_getElem hi,?_⟩
  rw [show w ((i:Int)+1)=((i+1:Nat):Int) from h5]
  by_cases c:3≤(steps[i]).Kind
  ·rw [if_pos (by simpa using c),if_pos c]
   refine ⟨by omega,?_⟩
   rw [ih _ (by simp;omega)]
   simp
  ·rw [if_neg (by simpa using c),if_neg c]
   exact ih _ (by omega)
theorem Zkv (p:Plan) (hl:p.Steps.length≤100):Zcd p=some (.own 0,[.arr Zx 1 true ((jst p.Steps 0).map ic)]):=by
 have:=Zku p.Steps hl 0 (Nat.zero_le _) [] (Nat.zero_le _)
 exact Zjz _ _ (by simpa using this)
end Go.Proofs.Ytdfoicjjheifeaa
/- part: SQ -/
namespace Go.Proofs.Ytdfoicjjheifeaa
open Go.AM
theorem fst_in {info:List Za} (h:lw info):∀ (f:Nat) (i:Int),0≤i→0≤fst info f i∧fst info f i≤i
 | 0,i,h0=>⟨h0,Int.le_refl _⟩
 | f+1,i,h0=>by
  unfold fst
  split
  ·rename_i y hy
   split
   ·rename_i c
    have:=h _ _ hy
    have:=fst_in h f y.Left c
    omega
   ·exact ⟨h0,Int.le_refl _⟩
  ·exact ⟨h0,Int.le_refl _⟩
theorem Zg6 {info:List Za} (h:lw info) {i:Int} (h0:0≤i):0≤first info i∧first info i≤i:=fst_in h _ i h0
def subp (info:List Za) (steps:List Zb) (i:Int):List Zb:=(steps.take (i+1).toNat).drop (first info i).toNat
def noP:AV×List Blk:=(.tup [.agg [.t .nil],Bo false],[])
def yesP (l:List Zb):AV×List Blk:=(.tup [.agg [.own 0],Bo true],[.arr 111 3 true (l.map Zb.c)])
theorem Zkw (q:Zc) (hq:LeQ q) (p:Plan) {info:List Za} (he:Zk q.Zd q.Atoms p.Steps=some info) {i:Int} (h0:0≤i) (h1:i.toNat<info.length):Zb3 q p i=some (yesP (subp info p.Steps i)):=by
 have q1:=Zg1 q p hq
 rw [he] at q1
 obtain ⟨l1,l2,l3,l4⟩:=Zbj he
 obtain ⟨lf,l5⟩:=Zg3 he
 obtain ⟨b0,b1⟩:=Zg6 lf h0
 have w1:w ((info.length:Int) - 1)=(info.length:Int) - 1:=wrap64 (by omega) (by omega)
 have w2:w (i+1)=i+1:=wrap64 (by omega) (by omega)
 refine Zj3 _ _ _ _ (.inr ⟨info,q1,_,Zgz _ _ _,?_⟩)
 rw [if_pos (by rw [w1];simp [inR];omega)]
 refine ⟨_,x_begins lf h0 h1,b0,?_⟩
 rw [w2]
 refine ⟨by omega,by omega,by omega,_,Zj2 _ _ ⟨?_,rfl⟩,rfl⟩
 show (List.drop _ (List.take _ _)).length≤_
 rw [List.length_drop,List.length_take]
 omega
theorem Zkx (q:Zc) (hq:LeQ q) (p:Plan) {info:List Za} (he:Zk q.Zd q.Atoms p.Steps=some info) {i:Int} (h0:0≤i) (h1:i.toNat<info.length):Zb4 q p i=some (yesP (subp info p.Steps i)):=by
 have q1:=Zg0 q p hq
 rw [he] at q1
 obtain ⟨l1,l2,l3,l4⟩:=Zbj he
 obtain ⟨lf,l5⟩:=Zg3 he
 obtain ⟨b0,b1⟩:=Zg6 lf h0
 have w1:w ((info.length:Int) - 1)=(info.length:Int) - 1:=wrap64 (by omega) (by omega)
 have w2:w (i+1)=i+1:=wrap64 (by omega) (by omega)
 refine Zkf _ _ _ _ ⟨info,true,q1,?_⟩
 rw [if_pos rfl]
 refine ⟨_,x_l1In _ _ _,?_⟩
 rw [if_pos (by rw [w1];simp [inR];omega)]
 refine ⟨_,Zkt lf h0 h1,b0,?_⟩
 rw [w2]
 refine ⟨by omega,by omega,by omega,?_,rfl⟩
 rw [List.length_drop,List.length_take]
 omega
def spl (info:List Za) (mask:Int):List Int→Option Int
 | []=>none
 | j::js=>match info[j.toNat]? with
  | some y=>if y.Mask=mask then some j else spl info mask js
  | none=>none
def spillR (info:List Za) (steps:List Zb):Option Int→AV×List Blk
 | some j=>yesP (subp info steps j)
 | none=>noP
theorem Zky (q:Zc) (hq:LeQ q) (p:Plan) {info:List Za} (he:Zk q.Zd q.Atoms p.Steps=some info) (mask:Int) (js:List Int) (hj:∀ j∈js,0≤j∧j.toNat<info.length) (hl:js.length≤1000):∀ i,i≤js.length →
  Zbr q p info js mask js.length i=some (spillR info p.Steps (spl info mask (js.drop i))):=by
 refine down _ ?_ ?_
 ·refine Zgt _ _ _ _ _ _ _ _ ?_
  rw [if_neg (by omega),List.drop_length];rfl
 ·intro i hi ih
  have h5:=inc64 (i:=i) (by omega)
  obtain ⟨j0,j1⟩:=hj _ (List.getElem_mem hi)
  refine Zgt _ _ _ _ _ _ _ _ ?_
  rw [if_pos (by omega)]
  refine ⟨by omega,_,List.getElem?_eq_getElem hi,j0,_,List.getElem?_eq_getElem j1,?_⟩
  rw [List.drop_eq_getElem_cons hi,spl,List.getElem?_eq_getElem j1]
  simp only
  by_cases c:info[js[i].toNat].Mask=mask
  ·rw [if_pos (by simpa using c),if_pos (by simpa using c)]
   exact .inr ⟨_,Zkw q hq p he j0 j1,rfl⟩
  ·rw [if_neg (by simpa using c),if_neg (by simpa using c),show w ((i:Int)+1)=((i+1:Nat):Int) from h5]
   exact ih
def Zbz (q:Zc) (p:Plan) (mask:Int):AV×List Blk:=match Zk q.Zd q.Atoms p.Steps with
 | some info=>spillR info p.Steps (spl info mask (jst p.Steps 0))
 | none=>noP
theorem Zkz (q:Zc) (hq:LeQ q) (p:Plan) (mask:Int):Zc7 q p mask=some (Zbz q p mask):=by
 have q1:=Zg1 q p hq
 refine Zj4 _ _ _ _ ?_
 unfold Zbz
 cases he:Zk q.Zd q.Atoms p.Steps with
 | none=>rw [he] at q1;exact .inl ⟨q1,rfl⟩
 | some info =>
  rw [he] at q1
  obtain ⟨l1,l2,l3,l4⟩:=Zbj he
  have hjl:=Zfl p.Steps 0
  refine .inr ⟨info,q1,_,Zkv p (by omega),?_⟩
  have:=Zky q hq p he mask (jst p.Steps 0) (fun j hj=>by have:=Zdt hj;omega) (by omega) 0 (Nat.zero_le _)
  rw [List.drop_zero] at this
  exact this
theorem Zk0 (q:Zc) (hq:LeQ q) (p:Plan) {info:List Za} (he:Zk q.Zd q.Atoms p.Steps=some info) (mask:Int):∀ i,i≤p.Steps.length →
  Zbf q p info mask true i=some (spillR info p.Steps (spl info mask (jst (p.Steps.drop i) i))):=by
 obtain ⟨l1,l2,l3,l4⟩:=Zbj he
 have l6:=(Zic he).2
 refine down _ ?_ ?_
 ·refine Zes _ _ _ _ _ _ _ ?_
  rw [if_neg (by omega),List.drop_length];rfl
 ·intro i hi ih
  have h5:=inc64 (i:=i) (by omega)
  have hi':i<info.length:=by omega
  have hk:=l6 _ _ _ (List.getElem?_eq_getElem hi') (List.getElem?_eq_getElem hi)
  refine Zes _ _ _ _ _ _ _ ?_
  rw [if_pos (by omega),if_pos rfl]
  refine ⟨by omega,_,List.getElem?_eq_getElem hi',?_⟩
  rw [Zfk hi,show w ((i:Int)+1)=((i+1:Nat):Int) from h5]
  by_cases c:3≤p.Steps[i].Kind
  ·rw [if_pos (by simpa using hk.2 c),if_pos c,spl]
   simp only [Int.toNat_natCast,List.getElem?_eq_getElem hi']
   by_cases c2:info[i].Mask=mask
   ·rw [if_pos c2,if_pos c2]
    exact .inl ⟨_,Zkx q hq p he (by omega) (by omega),rfl⟩
   ·rw [if_neg c2,if_neg c2];exact ih
  ·rw [if_neg (fun hc=>c (hk.1 (by simpa using hc))),if_neg c];exact ih
theorem Zk1 (q:Zc) (hq:LeQ q) (p:Plan) (mask:Int):Zde q p mask=some (Zbz q p mask):=by
 have q1:=Zg0 q p hq
 refine Zkg _ _ _ _ ?_
 unfold Zbz
 cases he:Zk q.Zd q.Atoms p.Steps with
 | none =>
  rw [he] at q1
  refine ⟨[],false,q1,Zes _ _ _ _ _ _ _ ?_⟩
  simp;rfl
 | some info =>
  rw [he] at q1
  refine ⟨info,true,q1,?_⟩
  have:=Zk0 q hq p he mask 0 (Nat.zero_le _)
  rw [List.drop_zero] at this
  exact this
theorem Zk2 (q:Zc) (p:Plan) (mask:Int):Zbz q p mask=noP∨∃ l,l.length≤14∧Zbz q p mask=yesP l:=by
 unfold Zbz
 cases he:Zk q.Zd q.Atoms p.Steps with
 | none=>exact .inl rfl
 | some info =>
  obtain ⟨l1,l2,l3,l4⟩:=Zbj he
  simp only
  cases spl info mask (jst p.Steps 0) with
  | none=>exact .inl rfl
  | some j =>
   refine .inr ⟨_,?_,rfl⟩
   unfold subp
   rw [List.length_drop,List.length_take]
   omega
end Go.Proofs.Ytdfoicjjheifeaa
/- part: K -/
namespace Go.Proofs.Ytdfoicjjheifeaa
open Go.AM
def Zcn:MFun:=⟨3,124,[.tmp 6],.r [.bx 3 0,.bx 4 1,.o 6 (.mov (.q false))] [2,3,4] (.r [.mk' 7 1048576] [2,3,4,7] (.r [.ln 19 2 3,.m 20 7,.cl 21 5 [19,20],.m 7 21] [2,3,4,7] (.wc [.m 22 7,.bk 23 .lss 22 0] [2,3,4,7,23] 23 (.r [.o 6 (.mov (.q true))] [6] .ret) (.r [.ln 24 1 4,.m 25 7,.cl 26 6 [24,25],.m 7 26] [2,3,4,7] (.wc [.m 27 7,.bk 28 .lss 27 0] [2,3,4,28] 28 (.r [.o 6 (.mov (.q true))] [6] .ret) (.seq (.drw [.ln 30 2 3,.xl 31 8 [30],.ln 32 1 4,.xl 33 9 [32],.m 34 2,.cl 35 7 [31,33,34],.m 29 35,.o 36 (.ext (.s 29) 0),.o 37 (.ext (.s 29) 1),.o 8 (.alloc [.t .nil]),.st 1 8 36,.m 9 37] [[],[0],[],[2,1],[],[1,3,4,3],[5],[6],[6],[],[9,7,5,0,1,2,3,4,5,6,7,9],[8,10,0,1,2,3,4,5,6,7,8,9,10]] [2,3,4,8,9]) (.r [.ln 38 2 3,.xl 39 8 [38],.o 10 (.alloc [.t .z,.t .nil]),.st 2 10 39] [2,3,4,8,9,10] (.r [.ln 40 1 4,.xl 41 9 [40],.o 11 (.alloc [.t .nil]),.st 1 11 41] [2,3,4,8,9,10,11] (.r [.ln 43 2 10,.ln 44 1 11,.m 45 2,.xl 46 10 [43,44,45],.m 42 46,.o 47 (.ext (.s 42) 0),.o 48 (.ext (.s 42) 1),.o 12 (.alloc [.t .nil]),.st 1 12 47,.m 13 48] [2,3,4,8,9,10,11,12,13] (.wc [.ln 49 1 12,.ln 50 1 8,.cl 51 11 [49,50],.o 52 (.un .not (.s 51)),.m 53 52,.h 54 53 (.mov (.s 13)),.h 55 53 (.mov (.s 9)),.h 56 53 (.beq true (.s 54) (.s 55)),.o 57 (.pick (.s 53) (.q true) (.s 56))] [2,3,4,8,9,10,11,12,13,57] 57 (.r [.o 6 (.mov (.q false))] [6] .ret) (.seq (.seq (.drw [.ln 58 2 10,.ln 59 2 3,.xl 60 8 [59],.cl 61 12 [58,60],.o 62 (.un .not (.s 61))] [[],[],[1],[0,2,2],[3]] [2,3,4,8,9,10,11,12,13,62]) (.cond (.s 62) (.r [.o 6 (.mov (.q false))] [6] .ret) .skip)) (.seq (.seq (.drw [.ln 63 1 11,.ln 64 1 4,.xl 65 9 [64],.cl 66 11 [63,65],.o 67 (.un .not (.s 66))] [[],[],[1],[0,2,2],[3]] [2,3,4,8,9,10,11,12,13,67]) (.cond (.s 67) (.r [.o 6 (.mov (.q false))] [6] .ret) .skip)) (.r [.mk' 14 1] [2,3,4,8,9,10,11,12,13,14] (.r [.ln 68 2 10,.m 69 14,.o 70 (.icall 13 [.s 68,.s 69]),.m 14 70] [2,3,4,8,9,11,12,13,14] (.r [.ln 71 1 11,.m 72 14,.o 73 (.icall 14 [.s 71,.s 72]),.m 14 73] [2,3,4,8,9,12,13,14] (.wc [.m 74 14,.bk 75 .lss 74 0,.m 76 75,.h 77 76 (.ln 1 12),.h 78 76 (.ln 1 8),.h 79 76 (.cl 11 [77,78]),.h 80 76 (.un .not (.s 79)),.o 81 (.pick (.s 76) (.q true) (.s 80)),.m 82 81,.h 83 82 (.mov (.s 13)),.h 84 82 (.mov (.s 9)),.h 85 82 (.beq true (.s 83) (.s 84)),.o 86 (.pick (.s 82) (.q true) (.s 85))] [2,3,4,8,9,12,86] 86 (.r [.o 6 (.mov (.q false))] [6] .ret) (.r [.mk' 15 1] [2,3,4,8,9,12,15] (.r [.ln 87 1 12,.m 88 15,.o 89 (.icall 14 [.s 87,.s 88]),.m 15 89] [2,3,4,8,9,12,15] (.r [.mk' 16 1] [2,3,4,8,9,12,15,16] (.r [.ln 90 1 12,.m 91 16,.cl 92 15 [90,91],.m 16 92] [2,3,4,8,9,12,15,16] (.wc [.m 93 16,.bk 94 .lss 93 0] [2,3,4,8,9,12,15,16,94] 94 (.r [.o 6 (.mov (.q false))] [6] .ret) (.wc [.m 95 16,.m 96 15,.b 97 .neq 95 96] [2,3,4,8,9,12,15,97] 97 (.r [.o 6 (.mov (.q false))] [6] .ret) (.seq (.drw [.ln 99 2 3,.xl 100 8 [99],.ln 101 1 4,.xl 102 9 [101],.m 103 2,.xl 104 10 [100,102,103],.m 98 104,.o 105 (.ext (.s 98) 0),.o 106 (.ext (.s 98) 1),.o 17 (.alloc [.t .nil]),.st 1 17 105,.m 18 106] [[],[0],[],[2,1],[],[1,3,4,3],[5],[6],[6],[],[9,7,5,0,1,2,3,4,5,6,7,9],[8,10,0,1,2,3,4,5,6,7,8,9,10]] [8,9,12,15,17,18]) (.wc [.ln 107 1 17,.ln 108 1 8,.cl 109 11 [107,108],.o 110 (.un .not (.s 109)),.m 111 110,.h 112 111 (.mov (.s 18)),.h 113 111 (.mov (.s 9)),.h 114 111 (.beq true (.s 112) (.s 113)),.o 115 (.pick (.s 111) (.q true) (.s 114))] [12,15,115] 115 (.r [.o 6 (.mov (.q false))] [6] .ret) (.r [.mk' 16 1] [12,15,16] (.r [.ln 116 1 12,.m 117 16,.cl 118 15 [116,117],.m 16 118] [15,16] (.wc [.m 119 16,.bk 120 .lss 119 0] [15,16,120] 120 (.r [.o 6 (.mov (.q false))] [6] .ret) (.wc [.m 121 16,.m 122 15,.b 123 .neq 121 122] [123] 123 (.r [.o 6 (.mov (.q false))] [6] .ret) (.r [.o 6 (.mov (.q true))] [6] .ret)))))))))))))))))))))))))))))⟩
theorem Zk3:tbl 3=some Zcn:=tblOf_eq Try.func3 (by kernel_rfl) (by kernel_rfl)
def Zg7:MFun:=⟨2,12,[.tmp 4],.r [.bx 2 0,.mk' 4 0] [1,2] (.r [.fa 5 1 2,.l 6 5,.m 7 1,.cl 8 28 [6,7],.m 1 8] [1] (.wc [.m 9 1,.bk 10 .lss 9 0] [1,10] 10 (.r [.mk' 4 (-1)] [4] .ret) (.r [.m 11 1,.m 4 11] [4] .ret)))⟩
theorem Zk4:tbl 5=some Zg7:=tblOf_eq Try.func5 (by kernel_rfl) (by kernel_rfl)
def Zg8:MFun:=⟨2,12,[.tmp 4],.r [.bx 2 0,.mk' 4 0] [1,2] (.r [.fa 5 0 2,.l 6 5,.m 7 1,.cl 8 29 [6,7],.m 1 8] [1] (.wc [.m 9 1,.bk 10 .lss 9 0] [1,10] 10 (.r [.mk' 4 (-1)] [4] .ret) (.r [.m 11 1,.m 4 11] [4] .ret)))⟩
theorem Zk5:tbl 6=some Zg8:=tblOf_eq Try.func6 (by kernel_rfl) (by kernel_rfl)
def Zg9:MFun:=⟨1,12,[.cell 2 (some 2)],.r [.bx 1 0,.o 2 (.alloc [.t .z,.t .nil])] [1,2] (.r [.o 3 (.alloc [.t .z,.t .nil])] [1,2,3] (.r [.fa 4 0 1,.l 5 4,.fa 6 0 3,.st 1 6 5] [1,2,3] (.r [.fa 7 1 1,.l 8 7,.cl 9 32 [8],.fa 10 1 3,.st 1 10 9] [2,3] (.r [.ln 11 2 3,.st 2 2 11] [2] .ret))))⟩
theorem Zk6:tbl 8=some Zg9:=tblOf_eq Try.func8 (by kernel_rfl) (by kernel_rfl)
def Zha:MFun:=⟨1,9,[.cell 2 (some 1)],.r [.bx 1 0,.o 2 (.alloc [.t .nil])] [1,2] (.r [.o 3 (.alloc [.t .nil])] [1,2,3] (.r [.fa 4 0 1,.l 5 4,.cl 6 33 [5],.fa 7 0 3,.st 1 7 6] [2,3] (.r [.ln 8 1 3,.st 1 2 8] [2] .ret)))⟩
theorem Zk7:tbl 9=some Zha:=tblOf_eq Try.func9 (by kernel_rfl) (by kernel_rfl)
def Zev:MFun:=⟨2,11,[.tmp 4],.r [.bx 2 0,.bx 3 1,.o 4 (.mov (.q false))] [2,3] (.wc [.fa 5 0 2,.l 6 5,.fa 7 0 3,.l 8 7,.cl 9 37 [6,8],.o 10 (.un .not (.s 9))] [10] 10 (.r [.o 4 (.mov (.q false))] [4] .ret) (.r [.o 4 (.mov (.q true))] [4] .ret))⟩
theorem Zhb:tbl 11=some Zev:=tblOf_eq Try.func11 (by kernel_rfl) (by kernel_rfl)
def Zhc:MFun:=⟨2,16,[.tmp 4],.r [.bx 2 0,.bx 3 1,.o 4 (.mov (.q false))] [2,3] (.wc [.fa 5 0 2,.l 6 5,.fa 7 0 3,.l 8 7,.b 9 .neq 6 8] [2,3,9] 9 (.r [.o 4 (.mov (.q false))] [4] .ret) (.wc [.fa 10 1 2,.l 11 10,.fa 12 1 3,.l 13 12,.cl 14 38 [11,13],.o 15 (.un .not (.s 14))] [15] 15 (.r [.o 4 (.mov (.q false))] [4] .ret) (.r [.o 4 (.mov (.q true))] [4] .ret)))⟩
theorem Zk8:tbl 12=some Zhc:=tblOf_eq Try.func12 (by kernel_rfl) (by kernel_rfl)
def Zhd:MFun:=⟨2,10,[.tmp 4],.r [.bx 2 0,.mk' 4 0] [1,2] (.r [.fa 5 1 2,.o 6 (.loadU (.s 5)),.m 7 1,.o 8 (.scall 39 [.s 6,.s 7] (.s 5)),.m 1 8] [1] (.r [.m 9 1,.m 4 9] [4] .ret))⟩
theorem Zk9:tbl 13=some Zhd:=tblOf_eq Try.func13 (by kernel_rfl) (by kernel_rfl)
def Zew:MFun:=⟨2,10,[.tmp 4],.r [.bx 2 0,.mk' 4 0] [1,2] (.r [.fa 5 0 2,.o 6 (.loadU (.s 5)),.m 7 1,.o 8 (.scall 40 [.s 6,.s 7] (.s 5)),.m 1 8] [1] (.r [.m 9 1,.m 4 9] [4] .ret))⟩
theorem Zhe:tbl 14=some Zew:=tblOf_eq Try.func14 (by kernel_rfl) (by kernel_rfl)
def Zex:MFun:=⟨2,12,[.tmp 4],.r [.bx 2 0,.mk' 4 0] [1,2] (.r [.fa 5 0 2,.l 6 5,.m 7 1,.cl 8 41 [6,7],.m 1 8] [1] (.wc [.m 9 1,.bk 10 .lss 9 0] [1,10] 10 (.r [.mk' 4 (-1)] [4] .ret) (.r [.m 11 1,.m 4 11] [4] .ret)))⟩
theorem Zhf:tbl 15=some Zex:=tblOf_eq Try.func15 (by kernel_rfl) (by kernel_rfl)
def Zb0:MCode :=.we [.m 12 5,.m 13 0,.ll 14 13,.b 15 .lss 12 14] [0,1,5,15] 15 0 (.seq (.block 1 (.r [.m 18 0,.m 19 5,.ia 20 2 18 19,.ln 21 2 20,.m 22 1,.cl 23 60 [21,22],.m 1 23] [0,1,5] (.r [.m 24 1,.bk 25 .lss 24 0] [0,1,5,25] (.cond (.s 25) (.r [.mk' 4 (-1)] [4] .ret) .skip)))) (.reg [.m 16 5,.bk 17 .add 16 1,.m 5 17] [0,1,5]))
def Zhg:MFun:=⟨2,27,[.tmp 4],.r [.mk' 4 0] [0,1] (.r [.m 6 1,.m 7 0,.ll 8 7,.b 9 .sub 6 8,.m 1 9] [0,1] (.wc [.m 10 1,.bk 11 .lss 10 0] [0,1,11] 11 (.r [.mk' 4 (-1)] [4] .ret) (.seq (.r [.mk' 5 0] [0,1,5] (.block 0 (.loop [0,1,5] Zb0))) (.r [.m 26 1,.m 4 26] [4] .ret))))⟩
theorem Zla:tbl 28=some Zhg:=tblOf_eq Try.func28 (by kernel_rfl) (by kernel_rfl)
def Zhh:MFun:=⟨2,12,[.tmp 4],.r [.mk' 4 0] [0,1] (.r [.m 5 1,.m 6 0,.ll 7 6,.b 8 .sub 5 7,.m 1 8] [1] (.wc [.m 9 1,.bk 10 .lss 9 0] [1,10] 10 (.r [.mk' 4 (-1)] [4] .ret) (.r [.m 11 1,.m 4 11] [4] .ret)))⟩
theorem Zlb:tbl 29=some Zhh:=tblOf_eq Try.func29 (by kernel_rfl) (by kernel_rfl)
def Zdg:MCode :=.we [.m 8 4,.m 9 0,.ll 10 9,.b 11 .lss 8 10] [0,3,4,11] 11 0 (.seq (.block 1 (.reg [.m 14 3,.m 15 4,.m 16 0,.m 17 4,.ia 18 2 16 17,.ln 19 2 18,.cl 20 64 [19],.ia 21 2 14 15,.st 2 21 20] [0,3,4])) (.reg [.m 12 4,.bk 13 .add 12 1,.m 4 13] [0,3,4]))
def Zhi:MFun:=⟨1,23,[.tmp 2],.r [.o 2 (.mov (.c (.t .nil)))] [0] (.r [.m 5 0,.ll 6 5,.o 7 (.mkslice 113 2 40 [.str ⟨#[]⟩,.lst 1 []] (.s 6) (.s 6)),.m 3 7] [0,3] (.seq (.r [.mk' 4 0] [0,3,4] (.block 0 (.loop [0,3,4] Zdg))) (.r [.m 22 3,.m 2 22] [2] .ret)))⟩
theorem Zlc:tbl 32=some Zhi:=tblOf_eq Try.func32 (by kernel_rfl) (by kernel_rfl)
def Zdh:MCode :=.we [.m 8 4,.m 9 0,.ll 10 9,.b 11 .lss 8 10] [0,3,4,11] 11 0 (.seq (.block 1 (.reg [.m 14 3,.m 15 4,.m 16 0,.m 17 4,.ia 18 3 16 17,.ln 19 3 18,.cl 20 65 [19],.ia 21 3 14 15,.st 3 21 20] [0,3,4])) (.reg [.m 12 4,.bk 13 .add 12 1,.m 4 13] [0,3,4]))
def Zhj:MFun:=⟨1,23,[.tmp 2],.r [.o 2 (.mov (.c (.t .nil)))] [0] (.r [.m 5 0,.ll 6 5,.o 7 (.mkslice 111 3 24 [.z,.z,.z] (.s 6) (.s 6)),.m 3 7] [0,3] (.seq (.r [.mk' 4 0] [0,3,4] (.block 0 (.loop [0,3,4] Zdh))) (.r [.m 22 3,.m 2 22] [2] .ret)))⟩
theorem Zld:tbl 33=some Zhj:=tblOf_eq Try.func33 (by kernel_rfl) (by kernel_rfl)
def Zco:MCode :=.we [.m 11 5,.m 12 0,.ll 13 12,.b 14 .lss 11 13] [0,1,5,14] 14 0 (.seq (.block 1 (.seq (.drw [.m 17 0,.m 18 5,.ia 19 3 17 18,.ln 20 3 19,.m 21 1,.m 22 5,.ia 23 3 21 22,.ln 24 3 23,.cl 25 70 [20,24],.o 26 (.un .not (.s 25))] [[],[],[0,1],[2],[],[],[4,5],[6],[3,7],[8]] [0,1,5,26]) (.cond (.s 26) (.r [.o 4 (.mov (.q false))] [4] .ret) .skip))) (.reg [.m 15 5,.bk 16 .add 15 1,.m 5 16] [0,1,5]))
def Zdi:MFun:=⟨2,27,[.tmp 4],.r [.o 4 (.mov (.q false))] [0,1] (.wc [.m 6 0,.ll 7 6,.m 8 1,.ll 9 8,.b 10 .neq 7 9] [0,1,10] 10 (.r [.o 4 (.mov (.q false))] [4] .ret) (.seq (.r [.mk' 5 0] [0,1,5] (.block 0 (.loop [0,1,5] Zco))) (.r [.o 4 (.mov (.q true))] [4] .ret)))⟩
theorem Zhk:tbl 37=some Zdi:=tblOf_eq Try.func37 (by kernel_rfl) (by kernel_rfl)
def Zdj:MCode :=.we [.m 11 5,.m 12 0,.ll 13 12,.b 14 .lss 11 13] [0,1,5,14] 14 0 (.seq (.block 1 (.seq (.drw [.m 17 0,.m 18 5,.ia 19 2 17 18,.ln 20 2 19,.m 21 1,.m 22 5,.ia 23 2 21 22,.ln 24 2 23,.cl 25 71 [20,24],.o 26 (.un .not (.s 25))] [[],[],[0,1],[2],[],[],[4,5],[6],[3,7],[8]] [0,1,5,26]) (.cond (.s 26) (.r [.o 4 (.mov (.q false))] [4] .ret) .skip))) (.reg [.m 15 5,.bk 16 .add 15 1,.m 5 16] [0,1,5]))
def Zey:MFun:=⟨2,27,[.tmp 4],.r [.o 4 (.mov (.q false))] [0,1] (.wc [.m 6 0,.ll 7 6,.m 8 1,.ll 9 8,.b 10 .neq 7 9] [0,1,10] 10 (.r [.o 4 (.mov (.q false))] [4] .ret) (.seq (.r [.mk' 5 0] [0,1,5] (.block 0 (.loop [0,1,5] Zdj))) (.r [.o 4 (.mov (.q true))] [4] .ret)))⟩
theorem Zle:tbl 38=some Zey:=tblOf_eq Try.func38 (by kernel_rfl) (by kernel_rfl)
def Zdk:MCode :=.we [.m 6 5,.m 7 0,.ll 8 7,.b 9 .lss 6 8] [0,1,5,9] 9 0 (.seq (.block 1 (.r [.m 12 0,.m 13 5,.m 14 1,.cl 15 72 [14],.ia 16 2 12 13,.fa 17 0 16,.st 1 17 15] [0,1,5] (.r [.m 18 1,.bk 19 .add 18 1,.m 1 19] [0,1,5] (.reg [.m 20 0,.m 21 5,.ia 22 2 20 21,.fa 23 1 22,.o 24 (.loadU (.s 23)),.m 25 1,.o 26 (.scall 73 [.s 24,.s 25] (.s 23)),.m 1 26] [0,1,5])))) (.reg [.m 10 5,.bk 11 .add 10 1,.m 5 11] [0,1,5]))
def Zhl:MFun:=⟨2,28,[.tmp 4],.r [.mk' 4 0] [0,1] (.seq (.r [.mk' 5 0] [0,1,5] (.block 0 (.loop [0,1,5] Zdk))) (.r [.m 27 1,.m 4 27] [4] .ret))⟩
theorem Zlf:tbl 39=some Zhl:=tblOf_eq Try.func39 (by kernel_rfl) (by kernel_rfl)
def Zcp:MCode :=.we [.m 6 5,.m 7 0,.ll 8 7,.b 9 .lss 6 8] [0,1,5,9] 9 0 (.seq (.block 1 (.r [.m 12 0,.m 13 5,.m 14 1,.ia 15 3 12 13,.fa 16 0 15,.st 1 16 14] [0,1,5] (.r [.m 17 1,.bk 18 .add 17 1,.m 1 18] [0,1,5] (.r [.m 19 0,.m 20 5,.m 21 1,.ia 22 3 19 20,.fa 23 1 22,.st 1 23 21] [0,1,5] (.r [.m 24 1,.bk 25 .add 24 1,.m 1 25] [0,1,5] (.r [.m 26 0,.m 27 5,.m 28 1,.ia 29 3 26 27,.fa 30 2 29,.st 1 30 28] [0,1,5] (.reg [.m 31 1,.bk 32 .add 31 1,.m 1 32] [0,1,5]))))))) (.reg [.m 10 5,.bk 11 .add 10 1,.m 5 11] [0,1,5]))
def Zez:MFun:=⟨2,34,[.tmp 4],.r [.mk' 4 0] [0,1] (.seq (.r [.mk' 5 0] [0,1,5] (.block 0 (.loop [0,1,5] Zcp))) (.r [.m 33 1,.m 4 33] [4] .ret))⟩
theorem Zhm:tbl 40=some Zez:=tblOf_eq Try.func40 (by kernel_rfl) (by kernel_rfl)
def Zcq:MCode :=.we [.m 6 5,.m 7 0,.ll 8 7,.b 9 .lss 6 8] [0,1,5,9] 9 0 (.seq (.block 1 (.wc [.m 12 0,.m 13 5,.ia 14 3 12 13,.fa 15 0 14,.l 16 15,.m 17 1,.b 18 .neq 16 17] [0,1,5,18] 18 (.r [.mk' 4 (-1)] [4] .ret) (.r [.m 19 1,.bk 20 .add 19 1,.m 1 20] [0,1,5] (.wc [.m 21 0,.m 22 5,.ia 23 3 21 22,.fa 24 1 23,.l 25 24,.m 26 1,.b 27 .neq 25 26] [0,1,5,27] 27 (.r [.mk' 4 (-1)] [4] .ret) (.r [.m 28 1,.bk 29 .add 28 1,.m 1 29] [0,1,5] (.wc [.m 30 0,.m 31 5,.ia 32 3 30 31,.fa 33 2 32,.l 34 33,.m 35 1,.b 36 .neq 34 35] [0,1,5,36] 36 (.r [.mk' 4 (-1)] [4] .ret) (.reg [.m 37 1,.bk 38 .add 37 1,.m 1 38] [0,1,5]))))))) (.reg [.m 10 5,.bk 11 .add 10 1,.m 5 11] [0,1,5]))
def Ze0:MFun:=⟨2,40,[.tmp 4],.r [.mk' 4 0] [0,1] (.seq (.r [.mk' 5 0] [0,1,5] (.block 0 (.loop [0,1,5] Zcq))) (.r [.m 39 1,.m 4 39] [4] .ret))⟩
theorem Zhn:tbl 41=some Ze0:=tblOf_eq Try.func41 (by kernel_rfl) (by kernel_rfl)
def Zho:MFun:=⟨2,19,[.tmp 4],.r [.bx 2 0,.mk' 4 0] [1,2] (.r [.m 5 1,.fa 6 0 2,.l 7 6,.o 8 (.len true (.s 7)),.b 9 .sub 5 8,.m 1 9] [1,2] (.wc [.m 10 1,.bk 11 .lss 10 0] [1,2,11] 11 (.r [.mk' 4 (-1)] [4] .ret) (.r [.fa 12 1 2,.l 13 12,.m 14 1,.cl 15 90 [13,14],.m 1 15] [1] (.wc [.m 16 1,.bk 17 .lss 16 0] [1,17] 17 (.r [.mk' 4 (-1)] [4] .ret) (.r [.m 18 1,.m 4 18] [4] .ret)))))⟩
theorem Zlg:tbl 60=some Zho:=tblOf_eq Try.func60 (by kernel_rfl) (by kernel_rfl)
def Zhp:MFun:=⟨1,12,[.cell 2 (some 2)],.r [.bx 1 0,.o 2 (.alloc [.t (.str ⟨#[]⟩),.t .nil])] [1,2] (.r [.o 3 (.alloc [.t (.str ⟨#[]⟩),.t .nil])] [1,2,3] (.r [.fa 4 0 1,.l 5 4,.fa 6 0 3,.st 1 6 5] [1,2,3] (.r [.fa 7 1 1,.l 8 7,.cl 9 95 [8],.fa 10 1 3,.st 1 10 9] [2,3] (.r [.ln 11 2 3,.st 2 2 11] [2] .ret))))⟩
theorem Zlh:tbl 64=some Zhp:=tblOf_eq Try.func64 (by kernel_rfl) (by kernel_rfl)
def Zhq:MFun:=⟨1,14,[.cell 2 (some 3)],.r [.bx 1 0,.o 2 (.alloc [.t .z,.t .z,.t .z])] [1,2] (.r [.o 3 (.alloc [.t .z,.t .z,.t .z])] [1,2,3] (.r [.fa 4 0 1,.l 5 4,.fa 6 0 3,.st 1 6 5] [1,2,3] (.r [.fa 7 1 1,.l 8 7,.fa 9 1 3,.st 1 9 8] [1,2,3] (.r [.fa 10 2 1,.l 11 10,.fa 12 2 3,.st 1 12 11] [2,3] (.r [.ln 13 3 3,.st 3 2 13] [2] .ret)))))⟩
theorem Zli:tbl 65=some Zhq:=tblOf_eq Try.func65 (by kernel_rfl) (by kernel_rfl)
def Zhr:MFun:=⟨2,20,[.tmp 4],.r [.bx 2 0,.bx 3 1,.o 4 (.mov (.q false))] [2,3] (.wc [.fa 5 0 2,.l 6 5,.fa 7 0 3,.l 8 7,.b 9 .neq 6 8] [2,3,9] 9 (.r [.o 4 (.mov (.q false))] [4] .ret) (.wc [.fa 10 1 2,.l 11 10,.fa 12 1 3,.l 13 12,.b 14 .neq 11 13] [2,3,14] 14 (.r [.o 4 (.mov (.q false))] [4] .ret) (.wc [.fa 15 2 2,.l 16 15,.fa 17 2 3,.l 18 17,.b 19 .neq 16 18] [19] 19 (.r [.o 4 (.mov (.q false))] [4] .ret) (.r [.o 4 (.mov (.q true))] [4] .ret))))⟩
theorem Zlj:tbl 70=some Zhr:=tblOf_eq Try.func70 (by kernel_rfl) (by kernel_rfl)
def Zhs:MFun:=⟨2,16,[.tmp 4],.r [.bx 2 0,.bx 3 1,.o 4 (.mov (.q false))] [2,3] (.wc [.fa 5 0 2,.l 6 5,.fa 7 0 3,.l 8 7,.b 9 .neq 6 8] [2,3,9] 9 (.r [.o 4 (.mov (.q false))] [4] .ret) (.wc [.fa 10 1 2,.l 11 10,.fa 12 1 3,.l 13 12,.cl 14 101 [11,13],.o 15 (.un .not (.s 14))] [15] 15 (.r [.o 4 (.mov (.q false))] [4] .ret) (.r [.o 4 (.mov (.q true))] [4] .ret)))⟩
theorem Zlk:tbl 71=some Zhs:=tblOf_eq Try.func71 (by kernel_rfl) (by kernel_rfl)
def Zcr:MCode :=.we [.m 6 0,.bk 7 .gtr 6 0] [0,3,7] 7 0 (.block 1 (.r [.m 8 0,.bk 9 .rem 8 10,.o 10 (.bin .add (.k 48) (.s 9)),.o 11 (.conv .u8 (.s 10)),.o 12 (.bslice 5 1 1 [.int .u8 0] [(0,.s 11)]),.o 13 (.tostr (.s 12)),.m 14 3,.b 15 .add 13 14,.m 3 15] [0,3] (.reg [.m 16 0,.bk 17 .quo 16 10,.m 0 17] [0,3])))
def Ze1:MFun:=⟨1,20,[.tmp 2],.r [.o 2 (.mov (.c (.t (.str ⟨#[]⟩))))] [0] (.wc [.m 4 0,.bk 5 .leq 4 0] [0,5] 5 (.r [.o 2 (.mov (.c (.t (.str ⟨#[109,48]⟩))))] [2] .ret) (.r [.o 3 (.mov (.c (.t (.str ⟨#[]⟩))))] [0,3] (.seq (.block 0 (.loop [0,3] Zcr)) (.r [.m 18 3,.o 19 (.bin .add (.c (.t (.str ⟨#[109]⟩))) (.s 18)),.m 2 19] [2] .ret))))⟩
theorem Zht:tbl 72=some Ze1:=tblOf_eq Try.func72 (by kernel_rfl) (by kernel_rfl)
def Zcs:MCode :=.we [.m 6 5,.m 7 0,.ll 8 7,.b 9 .lss 6 8] [0,1,5,9] 9 0 (.seq (.block 1 (.r [.m 12 0,.m 13 5,.m 14 1,.ia 15 1 12 13,.st 1 15 14] [0,1,5] (.reg [.m 16 1,.bk 17 .add 16 1,.m 1 17] [0,1,5]))) (.reg [.m 10 5,.bk 11 .add 10 1,.m 5 11] [0,1,5]))
def Ze2:MFun:=⟨2,19,[.tmp 4],.r [.mk' 4 0] [0,1] (.seq (.r [.mk' 5 0] [0,1,5] (.block 0 (.loop [0,1,5] Zcs))) (.r [.m 18 1,.m 4 18] [4] .ret))⟩
theorem Zhu:tbl 73=some Ze2:=tblOf_eq Try.func73 (by kernel_rfl) (by kernel_rfl)
def Zhv:MFun:=⟨2,12,[.tmp 4],.r [.mk' 4 0] [0,1] (.r [.m 5 1,.m 6 0,.ll 7 6,.b 8 .sub 5 7,.m 1 8] [1] (.wc [.m 9 1,.bk 10 .lss 9 0] [1,10] 10 (.r [.mk' 4 (-1)] [4] .ret) (.r [.m 11 1,.m 4 11] [4] .ret)))⟩
theorem Zll:tbl 90=some Zhv:=tblOf_eq Try.func90 (by kernel_rfl) (by kernel_rfl)
def Zdl:MCode :=.we [.m 8 4,.m 9 0,.ll 10 9,.b 11 .lss 8 10] [0,3,4,11] 11 0 (.seq (.block 1 (.reg [.m 14 3,.m 15 4,.m 16 0,.m 17 4,.ia 18 1 16 17,.l 19 18,.ia 20 1 14 15,.st 1 20 19] [0,3,4])) (.reg [.m 12 4,.bk 13 .add 12 1,.m 4 13] [0,3,4]))
def Zhw:MFun:=⟨1,22,[.tmp 2],.r [.o 2 (.mov (.c (.t .nil)))] [0] (.r [.m 5 0,.ll 6 5,.o 7 (.mkslice 3 1 8 [.z] (.s 6) (.s 6)),.m 3 7] [0,3] (.seq (.r [.mk' 4 0] [0,3,4] (.block 0 (.loop [0,3,4] Zdl))) (.r [.m 21 3,.m 2 21] [2] .ret)))⟩
theorem Zlm:tbl 95=some Zhw:=tblOf_eq Try.func95 (by kernel_rfl) (by kernel_rfl)
def Zdm:MCode :=.we [.m 11 5,.m 12 0,.ll 13 12,.b 14 .lss 11 13] [0,1,5,14] 14 0 (.seq (.block 1 (.seq (.drw [.m 17 0,.m 18 5,.ia 19 1 17 18,.l 20 19,.m 21 1,.m 22 5,.ia 23 1 21 22,.l 24 23,.b 25 .neq 20 24] [[],[],[0,1],[2],[],[],[4,5],[6],[3,7]] [0,1,5,25]) (.cond (.s 25) (.r [.o 4 (.mov (.q false))] [4] .ret) .skip))) (.reg [.m 15 5,.bk 16 .add 15 1,.m 5 16] [0,1,5]))
def Ze3:MFun:=⟨2,26,[.tmp 4],.r [.o 4 (.mov (.q false))] [0,1] (.wc [.m 6 0,.ll 7 6,.m 8 1,.ll 9 8,.b 10 .neq 7 9] [0,1,10] 10 (.r [.o 4 (.mov (.q false))] [4] .ret) (.seq (.r [.mk' 5 0] [0,1,5] (.block 0 (.loop [0,1,5] Zdm))) (.r [.o 4 (.mov (.q true))] [4] .ret)))⟩
theorem Zln:tbl 101=some Ze3:=tblOf_eq Try.func101 (by kernel_rfl) (by kernel_rfl)
end Go.Proofs.Ytdfoicjjheifeaa
/- part: FA -/
namespace Go.Proofs.Ytdfoicjjheifeaa
open Go.AM
theorem l_toIntS (xs:List Int) (h:SmA xs) (fr:List Fr):∀ i,i≤xs.length→EvL C fr [0,3,4] Zdl ⟨[(0,L 1 (xs.map ic)),(3,.own 0),(4,I i)],[[]],[.arr Zx 1 true (fill ic [.int .i64 0] xs i)]⟩ =
  EvX C fr (.x 0) ⟨[(0,L 1 (xs.map ic)),(3,.own 0),(4,I xs.length),(11,Bo false)],[[]],[.arr Zx 1 true (xs.map ic)]⟩:=by
 have hl:xs.length≤4294967296:=h
 refine down xs.length ?_ ?_
 ·rw [EvL_eq Zdl.eq_1]
  simp [fill_all]
 ·intro i hi ih
  rw [EvL_eq Zdl.eq_1,← ih]
  have h1:=fill_set (f:=ic) (z:=[.int .i64 0]) hi
  have h3:=fill_len (f:=ic) (z:=[.int .i64 0]) (Nat.le_of_lt hi)
  have h4:IntKind.wrap .i64 ((i:Int)+1)=(i:Int)+1:=wrap64 (by omega) (by omega)
  simp at h1
  simp [hi,h3,h4,h1]
theorem c_toIntS (xs:List Int) (h:SmA xs):C Ziw [L 1 (xs.map ic)] []=some (.own 0,[.arr Zx 1 true (xs.map ic)]):=by
 refine run Zlm rfl ?_
 have hl:xs.length≤4294967296:=h
 have h1:∀ b,b≤4096→xs.length*b≤room:=fun b hb=>Nat.le_trans (Nat.mul_le_mul hl hb) (by decide)
 have h2:(xs.length:Int)≤140737488355328:=by omega
 have h3:=fun fr=>l_toIntS xs h fr 0 (Nat.zero_le _)
 simp [fill_zero] at h3
 simp [Zhw,h1,h2,h3]
theorem l_eqIntS (xs ys:List Int) (h:SmA xs) (hl:ys.length=xs.length) (fr:List Fr):∀ i,i≤xs.length→EvL C fr [0,1,5] Zdm ⟨[(0,L 1 (xs.map ic)),(1,L 1 (ys.map ic)),(5,I i)],[[]],[]⟩ =
  if xs.drop i=ys.drop i then EvX C fr (.x 0) ⟨[(0,L 1 (xs.map ic)),(1,L 1 (ys.map ic)),(5,I xs.length),(14,Bo false)],[[]],[]⟩ else EvX C fr .r ⟨[(4,Bo false)],[[]],[]⟩:=by
 have hm:xs.length≤4294967296:=h
 refine down xs.length ?_ ?_
 ·rw [EvL_eq Zdm.eq_1]
  simp [hl,List.drop_eq_nil_of_le]
 ·intro i hi ih
  have hi2:i<ys.length:=by omega
  have h4:IntKind.wrap .i64 ((i:Int)+1)=(i:Int)+1:=wrap64 (by omega) (by omega)
  rw [EvL_eq Zdm.eq_1]
  simp +decide [hi,hi2,h4]
  simp at ih
  simp only [drop_eq_iff hi hi2,ih]
  split <;> first | (simp_all;done) | grind
theorem c_eqIntS (xs ys:List Int) (h:SmA xs):C Zix [L 1 (xs.map ic),L 1 (ys.map ic)] []=some (Bo (decide (xs=ys)),[]):=by
 refine run Zln rfl ?_
 by_cases hl:ys.length=xs.length
 ·have h3:=fun fr=>l_eqIntS xs ys h hl fr 0 (Nat.zero_le _)
  simp at h3
  simp [Ze3,h3,hl]
  split <;> simp_all
 ·have h1:xs≠ys:=fun h=>hl (by rw [h])
  have h2:¬ ((xs.length:Int)=ys.length):=by omega
  simp [Ze3,h1,h2]
@[simp] theorem c_szIntS (es:List (List T)) (left:Int):C Ziv [L 1 es,I left] []=some (I (sz1 es.length left),[]):=by
 refine run Zll rfl ?_
 simp [Zhv,sz1]
 split <;> simp_all
theorem c_toAtom (x0:ByteArray) (x1:List Int) (h1:SmA x1):C Zir [.agg [.t (.str x0),.t (tI x1)]] []=some (.agg [.t (.str x0),.own 0],[.arr Zx 1 true (x1.map ic)]):=by
 refine run Zlh rfl ?_
 simp [Zhp,c_toIntS _ h1]
theorem c_eqAtom (x0:ByteArray) (x1:List Int) (y0:ByteArray) (y1:List Int) (h1:SmA x1):C Ziu [.agg [.t (.str x0),.t (tI x1)],.agg [.t (.str y0),.t (tI y1)]] []=some (Bo (decide (x0=y0∧x1=y1)),[]):=by
 refine run Zlk rfl ?_
 simp [Zhs,c_eqIntS _ _ h1]
 repeat' split
 all_goals first | (simp_all;done) | grind
theorem c_szAtom (x0:ByteArray) (x1:List Int) (left:Int) :C Ziq [.agg [.t (.str x0),.t (tI x1)],I left] []=some (I (Atom.sz ⟨x0,x1⟩ left),[]):=by
 refine run Zlg rfl ?_
 simp [Zho,c_szIntS,Atom.sz,andSz,sz1]
 repeat' split
 all_goals first | (simp_all;done) | grind
theorem Zlo (xs:List Atom) (h:SmL Atom.small xs) (fr:List Fr):∀ i,i≤xs.length→EvL C fr [0,3,4] Zdg ⟨[(0,L 2 (xs.map Atom.c)),(3,.own 0),(4,I i)],[[]],[.arr Zc0 2 true (fill Atom.c [.str ⟨#[]⟩,.lst 1 []] xs i)]⟩ =
  EvX C fr (.x 0) ⟨[(0,L 2 (xs.map Atom.c)),(3,.own 0),(4,I xs.length),(11,Bo false)],[[]],[.arr Zc0 2 true (xs.map Atom.c)]⟩:=by
 have hl:xs.length≤4294967296:=h.1
 refine down xs.length ?_ ?_
 ·rw [EvL_eq Zdg.eq_1]
  simp [fill_all]
 ·intro i hi ih
  rw [EvL_eq Zdg.eq_1,← ih]
  have h1:=fill_set (f:=Atom.c) (z:=[.str ⟨#[]⟩,.lst 1 []]) hi
  have h3:=fill_len (f:=Atom.c) (z:=[.str ⟨#[]⟩,.lst 1 []]) (Nat.le_of_lt hi)
  have h4:IntKind.wrap .i64 ((i:Int)+1)=(i:Int)+1:=wrap64 (by omega) (by omega)
  simp at h1
  simp [hi,c_toAtom _ _ (h.2 _ (List.getElem_mem hi)).2,h3,h4,h1]
theorem Zlp (xs:List Atom) (h:SmL Atom.small xs):C Zim [L 2 (xs.map Atom.c)] []=some (.own 0,[.arr Zc0 2 true (xs.map Atom.c)]):=by
 refine run Zlc rfl ?_
 have hl:xs.length≤4294967296:=h.1
 have h1:∀ b,b≤4096→xs.length*b≤room:=fun b hb=>Nat.le_trans (Nat.mul_le_mul hl hb) (by decide)
 have h2:(xs.length:Int)≤140737488355328:=by omega
 have h3:=fun fr=>Zlo xs h fr 0 (Nat.zero_le _)
 simp [fill_zero] at h3
 simp [Zhi,h1,h2,h3]
theorem Zlq (xs ys:List Atom) (h:SmL Atom.small xs) (hl:ys.length=xs.length) (fr:List Fr):∀ i,i≤xs.length→EvL C fr [0,1,5] Zdj ⟨[(0,L 2 (xs.map Atom.c)),(1,L 2 (ys.map Atom.c)),(5,I i)],[[]],[]⟩ =
  if xs.drop i=ys.drop i then EvX C fr (.x 0) ⟨[(0,L 2 (xs.map Atom.c)),(1,L 2 (ys.map Atom.c)),(5,I xs.length),(14,Bo false)],[[]],[]⟩ else EvX C fr .r ⟨[(4,Bo false)],[[]],[]⟩:=by
 have hm:xs.length≤4294967296:=h.1
 refine down xs.length ?_ ?_
 ·rw [EvL_eq Zdj.eq_1]
  simp [hl,List.drop_eq_nil_of_le]
 ·intro i hi ih
  have hi2:i<ys.length:=by omega
  have h4:IntKind.wrap .i64 ((i:Int)+1)=(i:Int)+1:=wrap64 (by omega) (by omega)
  rw [EvL_eq Zdj.eq_1]
  simp +decide [hi,hi2,c_eqAtom _ _ _ _ (h.2 _ (List.getElem_mem hi)).2,h4]
  simp at ih
  simp only [drop_eq_iff hi hi2,ih,Atom.ext_iff]
  split <;> first | (simp_all;done) | grind
theorem Zlr (xs ys:List Atom) (h:SmL Atom.small xs):C Zio [L 2 (xs.map Atom.c),L 2 (ys.map Atom.c)] []=some (Bo (decide (xs=ys)),[]):=by
 refine run Zle rfl ?_
 by_cases hl:ys.length=xs.length
 ·have h3:=fun fr=>Zlq xs ys h hl fr 0 (Nat.zero_le _)
  simp at h3
  simp [Zey,h3,hl]
  split <;> simp_all
 ·have h1:xs≠ys:=fun h=>hl (by rw [h])
  have h2:¬ ((xs.length:Int)=ys.length):=by omega
  simp [Zey,h1,h2]
theorem Zls (xs:List Atom) (h:OkL Atom.okay xs) (fr:List Fr):∀ i,i≤xs.length→∀ left:Int,
  (EvL C fr [0,1,5] Zb0 ⟨[(0,L 2 (xs.map Atom.c)),(1,I left),(5,I i)],[[]],[]⟩=EvX C fr .r ⟨[(4,I (-1))],[[]],[]⟩∧szFold Atom.sz (xs.drop i) left=-1) ∨
  EvL C fr [0,1,5] Zb0 ⟨[(0,L 2 (xs.map Atom.c)),(1,I left),(5,I i)],[[]],[]⟩=EvX C fr (.x 0) ⟨[(0,L 2 (xs.map Atom.c)),(1,I (szFold Atom.sz (xs.drop i) left)),(5,I xs.length),(15,Bo false)],[[]],[]⟩:=by
 have hm:maxLen≤9223372036854775807:=by decide
 have hl:=h.1
 refine down xs.length ?_ ?_
 ·intro left
  right
  rw [EvL_eq Zb0.eq_1]
  simp [List.drop_eq_nil_of_le,szFold]
 ·intro i hi ih left
  have h4:IntKind.wrap .i64 ((i:Int)+1)=(i:Int)+1:=wrap64 (by omega) (by omega)
  have e:EvL C fr [0,1,5] Zb0 ⟨[(0,L 2 (xs.map Atom.c)),(1,I left),(5,I i)],[[]],[]⟩=if Atom.sz xs[i] left<0 then EvX C fr .r ⟨[(4,I (-1))],[[]],[]⟩ else EvL C fr [0,1,5] Zb0 ⟨[(0,L 2 (xs.map Atom.c)),(1,I (Atom.sz xs[i] left)),(5,I ((i+1:Nat):Int))],[[]],[]⟩:=by
   rw [EvL_eq Zb0.eq_1]
   simp [hi,c_szAtom,h4]
  rw [e,List.drop_eq_getElem_cons hi,szFold]
  split
  ·exact .inl ⟨rfl,rfl⟩
  ·exact ih _
theorem Zlt (xs:List Atom) (left:Int) (h:OkL Atom.okay xs):C Zik [L 2 (xs.map Atom.c),I left] []=some (I (szL Atom.sz xs left),[]):=by
 refine run Zla rfl ?_
 have h3:=fun fr l=>Zls xs h fr 0 (Nat.zero_le _) l
 simp at h3
 simp [Zhg,szL,andSz,sz1]
 split
 ·simp_all
 ·rcases h3 [.blk 0,.seq _,.fin _ _] (IntKind.wrap .i64 (left - xs.length)) with ⟨h5,h6⟩ | h5
  ·rw [h5];simp [h6]
  ·rw [h5];simp
theorem Zlu (x0:Int) (x1:List Atom) (h1:SmL Atom.small x1):C Zig [.agg [I x0,.t (.lst 2 (x1.map Atom.c))]] []=some (.agg [I x0,.own 0],[.arr Zc0 2 true (x1.map Atom.c)]):=by
 refine run Zk6 rfl ?_
 simp [Zg9,Zlp _ h1]
theorem Zlv (x0:Int) (x1:List Atom) (y0:Int) (y1:List Atom) (h1:SmL Atom.small x1):C Zii [.agg [I x0,.t (.lst 2 (x1.map Atom.c))],.agg [I y0,.t (.lst 2 (y1.map Atom.c))]] []=some (Bo (decide (x0=y0∧x1=y1)),[]):=by
 refine run Zk8 rfl ?_
 simp [Zhc,Zlr _ _ h1]
 repeat' split
 all_goals first | (simp_all;done) | grind
theorem Zlw (x0:Int) (x1:List Atom) (left:Int) (h1:OkL Atom.okay x1):C Zie [.agg [I x0,.t (.lst 2 (x1.map Atom.c))],I left] []=some (I (Zc.sz ⟨x0,x1⟩ left),[]):=by
 refine run Zk4 rfl ?_
 simp [Zg7,Zlt _ _ h1,Zc.sz,andSz,sz1]
 repeat' split
 all_goals first | (simp_all;done) | grind
theorem Zlx (x0:Int) (x1:Int) (x2:Int) :C Zis [.agg [I x0,I x1,I x2]] []=some (.agg [I x0,I x1,I x2],[]):=by
 refine run Zli rfl ?_
 simp [Zhq]
theorem Zly (x0:Int) (x1:Int) (x2:Int) (y0:Int) (y1:Int) (y2:Int) :C Zit [.agg [I x0,I x1,I x2],.agg [I y0,I y1,I y2]] []=some (Bo (decide (x0=y0∧x1=y1∧x2=y2)),[]):=by
 refine run Zlj rfl ?_
 simp [Zhr]
 repeat' split
 all_goals first | (simp_all;done) | grind
theorem Zlz (xs:List Zb) (h:SmA xs) (fr:List Fr):∀ i,i≤xs.length→EvL C fr [0,3,4] Zdh ⟨[(0,L 3 (xs.map Zb.c)),(3,.own 0),(4,I i)],[[]],[.arr Zcz 3 true (fill Zb.c [.int .i64 0,.int .i64 0,.int .i64 0] xs i)]⟩ =
  EvX C fr (.x 0) ⟨[(0,L 3 (xs.map Zb.c)),(3,.own 0),(4,I xs.length),(11,Bo false)],[[]],[.arr Zcz 3 true (xs.map Zb.c)]⟩:=by
 have hl:xs.length≤4294967296:=h
 refine down xs.length ?_ ?_
 ·rw [EvL_eq Zdh.eq_1]
  simp [fill_all]
 ·intro i hi ih
  rw [EvL_eq Zdh.eq_1,← ih]
  have h1:=fill_set (f:=Zb.c) (z:=[.int .i64 0,.int .i64 0,.int .i64 0]) hi
  have h3:=fill_len (f:=Zb.c) (z:=[.int .i64 0,.int .i64 0,.int .i64 0]) (Nat.le_of_lt hi)
  have h4:IntKind.wrap .i64 ((i:Int)+1)=(i:Int)+1:=wrap64 (by omega) (by omega)
  simp at h1
  simp [hi,Zlx,h3,h4,h1]
theorem Zl0 (xs:List Zb) (h:SmA xs):C Zin [L 3 (xs.map Zb.c)] []=some (.own 0,[.arr Zcz 3 true (xs.map Zb.c)]):=by
 refine run Zld rfl ?_
 have hl:xs.length≤4294967296:=h
 have h1:∀ b,b≤4096→xs.length*b≤room:=fun b hb=>Nat.le_trans (Nat.mul_le_mul hl hb) (by decide)
 have h2:(xs.length:Int)≤140737488355328:=by omega
 have h3:=fun fr=>Zlz xs h fr 0 (Nat.zero_le _)
 simp [fill_zero] at h3
 simp [Zhj,h1,h2,h3]
theorem Zl1 (xs ys:List Zb) (h:SmA xs) (hl:ys.length=xs.length) (fr:List Fr):∀ i,i≤xs.length→EvL C fr [0,1,5] Zco ⟨[(0,L 3 (xs.map Zb.c)),(1,L 3 (ys.map Zb.c)),(5,I i)],[[]],[]⟩ =
  if xs.drop i=ys.drop i then EvX C fr (.x 0) ⟨[(0,L 3 (xs.map Zb.c)),(1,L 3 (ys.map Zb.c)),(5,I xs.length),(14,Bo false)],[[]],[]⟩ else EvX C fr .r ⟨[(4,Bo false)],[[]],[]⟩:=by
 have hm:xs.length≤4294967296:=h
 refine down xs.length ?_ ?_
 ·rw [EvL_eq Zco.eq_1]
  simp [hl,List.drop_eq_nil_of_le]
 ·intro i hi ih
  have hi2:i<ys.length:=by omega
  have h4:IntKind.wrap .i64 ((i:Int)+1)=(i:Int)+1:=wrap64 (by omega) (by omega)
  rw [EvL_eq Zco.eq_1]
  simp +decide [hi,hi2,Zly _ _ _ _ _ _ ,h4]
  simp at ih
  simp only [drop_eq_iff hi hi2,ih,Zb.ext_iff]
  split <;> first | (simp_all;done) | grind
theorem Zl2 (xs ys:List Zb) (h:SmA xs):C Zfp [L 3 (xs.map Zb.c),L 3 (ys.map Zb.c)] []=some (Bo (decide (xs=ys)),[]):=by
 refine run Zhk rfl ?_
 by_cases hl:ys.length=xs.length
 ·have h3:=fun fr=>Zl1 xs ys h hl fr 0 (Nat.zero_le _)
  simp at h3
  simp [Zdi,h3,hl]
  split <;> simp_all
 ·have h1:xs≠ys:=fun h=>hl (by rw [h])
  have h2:¬ ((xs.length:Int)=ys.length):=by omega
  simp [Zdi,h1,h2]
@[simp] theorem Zl3 (es:List (List T)) (left:Int):C Zil [L 3 es,I left] []=some (I (sz1 es.length left),[]):=by
 refine run Zlb rfl ?_
 simp [Zhh,sz1]
 split <;> simp_all
theorem c_toPlan (x0:List Zb) (h0:SmA x0):C Zih [.agg [.t (.lst 3 (x0.map Zb.c))]] []=some (.agg [.own 0],[.arr Zcz 3 true (x0.map Zb.c)]):=by
 refine run Zk7 rfl ?_
 simp [Zha,Zl0 _ h0]
theorem Zhx (x0:List Zb) (y0:List Zb) (h0:SmA x0):C Zfm [.agg [.t (.lst 3 (x0.map Zb.c))],.agg [.t (.lst 3 (y0.map Zb.c))]] []=some (Bo (decide (x0=y0)),[]):=by
 refine run Zhb rfl ?_
 simp [Zev,Zl2 _ _ h0]
 repeat' split
 all_goals first | (simp_all;done) | grind
theorem c_szPlan (x0:List Zb) (left:Int) :C Zif [.agg [.t (.lst 3 (x0.map Zb.c))],I left] []=some (I (Plan.sz ⟨x0⟩ left),[]):=by
 refine run Zk5 rfl ?_
 simp [Zg8,Zl3,Plan.sz,andSz,sz1]
 repeat' split
 all_goals first | (simp_all;done) | grind
end Go.Proofs.Ytdfoicjjheifeaa
