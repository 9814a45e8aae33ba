/-
  Parts of the proofs for this seat: G10 G11 G12 G13 G14 G15 V1 V2 V3 V4 V5 V6.
-/
import Derived.Test.YtbapkgocloaaeaaGreatP8
import Derived.Test.YtbapkgocloaaeaaGreatP10
import Derived.Test.YtbapkgocloaaeaaGreatP11
set_option linter.unusedSimpArgs false
set_option linter.unusedVariables false
set_option maxRecDepth 100000
set_option maxHeartbeats 4000000
/- part: G10 -/
namespace Go.Proofs.YtbapkgocloaaeaaGreat
open Go.AM
theorem Zl4 (q:Zc) (x:Zb) (x1:Zg) (info:List Zg) (stack:List Int) (n:Int) (x2:Int) (x3:Bool) (r:AV×List Blk) (h:(if x3=true then (if x.Atom=0 then (if n<2 then (some (.tup [.agg [I 0,I 0,I 0,I 0],I (-1)],[])=some r) else (0≤(w (n - 2))∧(∃ (e1:Int),stack[(w (n - 2)).toNat]?=some e1∧(0≤e1∧(∃ (e2:Zg),info[e1.toNat]?=some e2∧(0≤(w (n - 1))∧(∃ (e3:Int),stack[(w (n - 1)).toNat]?=some e3∧(0≤e3∧(∃ (e4:Zg),info[e3.toNat]?=some e4∧(∃ (v5_0:Int),Zca q e2.Mask=some (I v5_0,[])∧(∃ (v6_0:Int),Zca q e4.Mask=some (I v6_0,[])∧(if (andI e2.Mask e4.Mask)=0 then (if (andI v5_0 v6_0)=0 then (some (.tup [.agg [I 0,I 0,I 0,I 0],I (-1)],[])=some r) else (if x.Kind=4 then (Zgj q x x1 e2 e4 (⟨(orI e2.Mask e4.Mask),(-1),e1,e3⟩:Zg) (andI v5_0 v6_0) false=some r) else (if x.Order=0 then (if x.Kind=5 then (Zh6 q x x1 e2 e4 (⟨(orI e2.Mask e4.Mask),e2.Order,e1,e3⟩:Zg) (andI v5_0 v6_0)=some r) else (Zgj q x x1 e2 e4 (⟨(orI e2.Mask e4.Mask),(-1),e1,e3⟩:Zg) (andI v5_0 v6_0) false=some r)) else (some (.tup [.agg [I 0,I 0,I 0,I 0],I (-1)],[])=some r)))) else (some (.tup [.agg [I 0,I 0,I 0,I 0],I (-1)],[])=some r))))))))))))) else (some (.tup [.agg [I 0,I 0,I 0,I 0],I (-1)],[])=some r)) else (some (.tup [.agg [I 0,I 0,I 0,I 0],I (-1)],[])=some r))):Zh5 q x x1 info stack n x2 x3=some r:=by
 unfold Zh5
 rw [Ev_eq Zno.eq_1]
 by_cases q1:x3=true
 ·rw [if_pos q1] at h
  by_cases q2:x.Atom=0
  ·rw [if_pos q2] at h
   replace q2:=eq_true q2
   by_cases q3:n<2
   ·rw [if_pos q3] at h
    refine Eq.trans ?_ h
    clear h
    simp +decide [*]
   ·rw [if_neg q3] at h
    obtain ⟨q4,h⟩:=h
    obtain ⟨e1,q5,h⟩:=h
    have gq5:=ltOfGet q5
    have kq5:=getOf q5
    obtain ⟨q6,h⟩:=h
    obtain ⟨e2,q7,h⟩:=h
    have gq7:=ltOfGet q7
    have kq7:=getOf q7
    obtain ⟨q8,h⟩:=h
    obtain ⟨e3,q9,h⟩:=h
    have gq9:=ltOfGet q9
    have kq9:=getOf q9
    obtain ⟨q10,h⟩:=h
    obtain ⟨e4,q11,h⟩:=h
    have gq11:=ltOfGet q11
    have kq11:=getOf q11
    obtain ⟨v5_0,q12,h⟩:=h
    unfold Zca at q12
    try simp at q12
    obtain ⟨v6_0,q13,h⟩:=h
    unfold Zca at q13
    try simp at q13
    by_cases q14:(andI e2.Mask e4.Mask)=0
    ·rw [if_pos q14] at h
     replace q14:=eq_true q14
     by_cases q15:(andI v5_0 v6_0)=0
     ·rw [if_pos q15] at h
      replace q15:=eq_true q15
      refine Eq.trans ?_ h
      clear h
      simp +decide [*]
     ·rw [if_neg q15] at h
      replace q15:=eq_false q15
      by_cases q16:x.Kind=4
      ·rw [if_pos q16] at h
       replace q16:=eq_true q16
       have q17:(x.Kind=5)=False:=eq_false (by intro hh;simp_all)
       refine Eq.trans ?_ h
       clear h
       simp +decide [*,Zgj]
      ·rw [if_neg q16] at h
       replace q16:=eq_false q16
       by_cases q18:x.Order=0
       ·rw [if_pos q18] at h
        replace q18:=eq_true q18
        by_cases q19:x.Kind=5
        ·rw [if_pos q19] at h
         replace q19:=eq_true q19
         refine Eq.trans ?_ h
         clear h
         simp +decide [*,Zh6]
        ·rw [if_neg q19] at h
         replace q19:=eq_false q19
         refine Eq.trans ?_ h
         clear h
         simp +decide [*,Zgj]
       ·rw [if_neg q18] at h
        replace q18:=eq_false q18
        refine Eq.trans ?_ h
        clear h
        simp +decide [*]
    ·rw [if_neg q14] at h
     replace q14:=eq_false q14
     refine Eq.trans ?_ h
     clear h
     simp +decide [*]
  ·rw [if_neg q2] at h
   replace q2:=eq_false q2
   refine Eq.trans ?_ h
   clear h
   simp +decide [*]
 ·rw [if_neg q1] at h
  refine Eq.trans ?_ h
  clear h
  simp +decide [*]
theorem Zbcc (x:Zc) (x1:Zb) (x2:Zg) (a:Zg) (b:Zg) (y:Zg) (v:Int) (r:AV×List Blk) (h:(if x1.Kind=4 then (∃ (v1_0:Bool),Zfg v x1.Order=some (Bo v1_0,[])∧(if v1_0=true then (if a.Order=x1.Order then (if b.Order=x1.Order then (some (.tup [.agg [I y.Mask,I x1.Order,I y.Left,I y.Right],I 2],[])=some r) else (some (.tup [.agg [I 0,I 0,I 0,I 0],I (-1)],[])=some r)) else (some (.tup [.agg [I 0,I 0,I 0,I 0],I (-1)],[])=some r)) else (some (.tup [.agg [I 0,I 0,I 0,I 0],I (-1)],[])=some r))) else (some (.tup [.agg (y.c.map .t),I 2],[])=some r))):Zh6 x x1 x2 a b y v=some r:=by
 unfold Zh6
 rw [Ev_eq Zk3.eq_1]
 simp only [Zfg,mpl,dfs] at h
 try simp only [itb] at h
 try simp only [itf,List.getElem?_eq_some_iff,kk] at h
 rcases h with ⟨q1,v1_0,q2,(⟨q3,(⟨q4,(⟨q5,h⟩ | ⟨q5,h⟩)⟩ | ⟨q4,h⟩)⟩ | ⟨q3,h⟩)⟩ | ⟨q1,h⟩
 all_goals (refine Eq.trans ?_ h;clear h;simp +decide [*,kk,Zro])
theorem Zsv (x:Zc) (x1:Zb) (x2:Zg) (a:Zg) (b:Zg) (y:Zg) (v:Int) (x3:Bool) (r:AV×List Blk) (h:(if x1.Kind=4 then (∃ (v1_0:Bool),Zfg v x1.Order=some (Bo v1_0,[])∧(if v1_0=true then (if a.Order=x1.Order then (if b.Order=x1.Order then (some (.tup [.agg [I y.Mask,I x1.Order,I y.Left,I y.Right],I 2],[])=some r) else (some (.tup [.agg [I 0,I 0,I 0,I 0],I (-1)],[])=some r)) else (some (.tup [.agg [I 0,I 0,I 0,I 0],I (-1)],[])=some r)) else (some (.tup [.agg [I 0,I 0,I 0,I 0],I (-1)],[])=some r))) else (some (.tup [.agg (y.c.map .t),I 2],[])=some r))):Zgj x x1 x2 a b y v x3=some r:=by
 unfold Zgj
 rw [Ev_eq Zk3.eq_1]
 simp only [Zfg,mpl,dfs] at h
 try simp only [itb] at h
 try simp only [itf,List.getElem?_eq_some_iff,kk] at h
 rcases h with ⟨q1,v1_0,q2,(⟨q3,(⟨q4,(⟨q5,h⟩ | ⟨q5,h⟩)⟩ | ⟨q4,h⟩)⟩ | ⟨q3,h⟩)⟩ | ⟨q1,h⟩
 all_goals (refine Eq.trans ?_ h;clear h;simp +decide [*,kk,Zro])
theorem Zel (a:Zc) (a1:Zb) (a2:List Zg) (a3:List Int) (r:AV×List Blk) (h:(if a1.Kind=1 then (∃ (v1_0:Bool),Z0 a1.Atom 0 (w ((a.Atoms.length:Int) - 1))=some (Bo v1_0,[])∧(if v1_0=true then (if a1.Order=0 then (¬ a1.Atom<0∧(0≤a1.Atom∧(∃ (e2:Atom),a.Atoms[a1.Atom.toNat]?=some e2∧(∃ (e3:Int),e2.Vars[0]?=some e3∧(some (.tup [.agg [I (shlI 1 a1.Atom),I e3,I (-1),I (-1)],I 0],[])=some r))))) else (some (.tup [.agg [I 0,I 0,I 0,I 0],I (-1)],[])=some r)) else (some (.tup [.agg [I 0,I 0,I 0,I 0],I (-1)],[])=some r))) else (if a1.Kind=2 then (if a1.Atom=0 then (if (a3.length:Int)<1 then (some (.tup [.agg [I 0,I 0,I 0,I 0],I (-1)],[])=some r) else (0≤(w ((a3.length:Int) - 1))∧(∃ (e4:Int),a3[(w ((a3.length:Int) - 1)).toNat]?=some e4∧(0≤e4∧(∃ (e5:Zg),a2[e4.toNat]?=some e5∧(if e5.Order=a1.Order then (some (.tup [.agg [I 0,I 0,I 0,I 0],I (-1)],[])=some r) else (∃ (v6_0:Int),Zca a e5.Mask=some (I v6_0,[])∧(∃ (v7_0:Bool),Zfg v6_0 a1.Order=some (Bo v7_0,[])∧(if v7_0=true then (some (.tup [.agg [I e5.Mask,I a1.Order,I e4,I (-1)],I 1],[])=some r) else (some (.tup [.agg [I 0,I 0,I 0,I 0],I (-1)],[])=some r)))))))))) else (some (.tup [.agg [I 0,I 0,I 0,I 0],I (-1)],[])=some r)) else (if a1.Kind=3 then (Zh5 a a1 (⟨0,0,0,0⟩:Zg) a2 a3 (a3.length:Int) a1.Kind true=some r) else (if a1.Kind=4 then (Zh5 a a1 (⟨0,0,0,0⟩:Zg) a2 a3 (a3.length:Int) a1.Kind true=some r) else (if a1.Kind=5 then (if a1.Atom=0 then (if (a3.length:Int)<2 then (some (.tup [.agg [I 0,I 0,I 0,I 0],I (-1)],[])=some r) else (0≤(w ((a3.length:Int) - 2))∧(∃ (e8:Int),a3[(w ((a3.length:Int) - 2)).toNat]?=some e8∧(0≤e8∧(∃ (e9:Zg),a2[e8.toNat]?=some e9∧(0≤(w ((a3.length:Int) - 1))∧(∃ (e10:Int),a3[(w ((a3.length:Int) - 1)).toNat]?=some e10∧(0≤e10∧(∃ (e11:Zg),a2[e10.toNat]?=some e11∧(∃ (v12_0:Int),Zca a e9.Mask=some (I v12_0,[])∧(∃ (v13_0:Int),Zca a e11.Mask=some (I v13_0,[])∧(if (andI e9.Mask e11.Mask)=0 then (if (andI v12_0 v13_0)=0 then (some (.tup [.agg [I 0,I 0,I 0,I 0],I (-1)],[])=some r) else (if a1.Order=0 then (Zh6 a a1 (⟨0,0,0,0⟩:Zg) e9 e11 (⟨(orI e9.Mask e11.Mask),e9.Order,e8,e10⟩:Zg) (andI v12_0 v13_0)=some r) else (some (.tup [.agg [I 0,I 0,I 0,I 0],I (-1)],[])=some r))) else (some (.tup [.agg [I 0,I 0,I 0,I 0],I (-1)],[])=some r))))))))))))) else (some (.tup [.agg [I 0,I 0,I 0,I 0],I (-1)],[])=some r)) else (some (.tup [.agg [I 0,I 0,I 0,I 0],I (-1)],[])=some r))))))):Zgi a a1 a2 a3=some r:=by
 unfold Zgi
 refine run Z84 rfl ?_
 simp only [Z0,Zca,Zfg,Zc.c_def,mpl,dfs] at h
 try simp only [itb] at h
 try simp only [itf,List.getElem?_eq_some_iff,kk] at h
 rcases h with ⟨q1,v1_0,q2,(⟨q3,(⟨q4,q5,q6,e2,⟨g7,q7⟩,e3,⟨g8,q8⟩,h⟩ | ⟨q4,h⟩)⟩ | ⟨q3,h⟩)⟩ | ⟨q1,(⟨q9,(⟨q10,(⟨q11,h⟩ | ⟨q11,q12,e4,⟨g13,q13⟩,q14,e5,⟨g15,q15⟩,(⟨q16,h⟩ | ⟨q16,v6_0,q17,v7_0,q18,(⟨q19,h⟩ | ⟨q19,h⟩)⟩)⟩)⟩ | ⟨q10,h⟩)⟩ | ⟨q9,(⟨q20,h⟩ | ⟨q20,(⟨q21,h⟩ | ⟨q21,(⟨q22,(⟨q23,(⟨q24,h⟩ | ⟨q24,q25,e8,⟨g26,q26⟩,q27,e9,⟨g28,q28⟩,q29,e10,⟨g30,q30⟩,q31,e11,⟨g32,q32⟩,v12_0,q33,v13_0,q34,(⟨q35,(⟨q36,h⟩ | ⟨q36,(⟨q37,h⟩ | ⟨q37,h⟩)⟩)⟩ | ⟨q35,h⟩)⟩)⟩ | ⟨q23,h⟩)⟩ | ⟨q22,h⟩)⟩)⟩)⟩)⟩
 all_goals (refine Eq.trans ?_ h;clear h;simp +decide [*,kk,Zye,Zh5,Zno,Zh6])
theorem Z1a (q:Zc) (p:Plan) (info:List Zg) (stack:List Int) (i:Int) (r:AV×List Blk) (h:(if i<(p.Steps.length:Int) then (0≤i∧(∃ (e1:Zb),p.Steps[i.toNat]?=some e1∧(∃ (v2_0:Zg) (v2_1:Int),Zgi q e1 info stack=some (.tup [.agg (v2_0.c.map .t),I v2_1],[])∧(if v2_1<0 then (some (.tup [.own 0,Bo false],[.arr 138 4 true (([]:List Zg).map Zg.c)])=some r) else (info.length+1≤68719476736∧(0≤(w ((stack.length:Int) - v2_1))∧((w ((stack.length:Int) - v2_1)).toNat≤stack.length∧((w ((stack.length:Int) - v2_1)).toNat≤68719476736∧((w ((stack.length:Int) - v2_1)).toNat+1≤68719476736∧(Zh8 q p (info++[v2_0]) ((stack.take ((w ((stack.length:Int) - v2_1)).toNat))++[i]) (w (i+1))=some r)))))))))) else (if (stack.length:Int)=1 then (some (.tup [.own 0,Bo true],[.arr 138 4 true (info.map Zg.c)])=some r) else (some (.tup [.own 0,Bo false],[.arr 138 4 true (([]:List Zg).map Zg.c)])=some r)))):Zh8 q p info stack i=some r:=by
 unfold Zh8
 rw [EvL_eq Zrp.eq_1]
 simp only [Zgi,Zb.c_def,Zc.c_def,Zg.c_def,mpl,dfs] at h
 try simp only [itb] at h
 try simp only [itf,List.getElem?_eq_some_iff,kk] at h
 rcases h with ⟨q1,q2,e1,⟨g3,q3⟩,v2_0,v2_1,q4,(⟨q5,h⟩ | ⟨q5,q6,q7,q8,q9,q10,h⟩)⟩ | ⟨q1,(⟨q11,h⟩ | ⟨q11,h⟩)⟩
 all_goals (refine Eq.trans ?_ h;clear h;simp +decide [*,kk,Zh8,Zrq])
theorem Zbcd (a:Zc) (a1:Plan) (r:AV×List Blk) (h:(∃ (v1_0:Bool),Zdu a=some (Bo v1_0,[])∧(if v1_0=true then (∃ (v2_0:Bool),Z0 (a1.Steps.length:Int) 1 14=some (Bo v2_0,[])∧(if v2_0=true then (Zh8 a a1 ([]:List Zg) ([]:List Int) 0=some r) else (some (.tup [.own 0,Bo false],[.arr 138 4 true (([]:List Zg).map Zg.c)])=some r))) else (some (.tup [.own 0,Bo false],[.arr 138 4 true (([]:List Zg).map Zg.c)])=some r)))):Zh7 a a1=some r:=by
 unfold Zh7
 refine run Z85 rfl ?_
 simp only [Zdu,Z0,Zc.c_def,mpl,dfs] at h
 try simp only [itb] at h
 try simp only [itf,List.getElem?_eq_some_iff,kk] at h
 rcases h with ⟨v1_0,q1,(⟨q2,v2_0,q3,(⟨q4,h⟩ | ⟨q4,h⟩)⟩ | ⟨q2,h⟩)⟩
 all_goals (refine Eq.trans ?_ h;clear h;simp +decide [*,kk,Zyf,Zh8])
theorem Zbce (a:Zc) (a1:Plan) (r:AV×List Blk) (h:(∃ (v1_0:List Zg) (v1_1:Bool),Zh7 a a1=some (.tup [.own 0,Bo v1_1],[.arr 138 4 true (v1_0.map Zg.c)])∧(if v1_1=true then (0≤(w ((v1_0.length:Int) - 1))∧(∃ (e2:Zg),v1_0[(w ((v1_0.length:Int) - 1)).toNat]?=some e2∧(some (I e2.Mask,[])=some r))) else (some (I 0,[])=some r)))):Zk4 a a1=some r:=by
 unfold Zk4
 refine run Z86 rfl ?_
 simp only [Zh7,Plan.c_def,Zc.c_def,mpl,dfs] at h
 try simp only [itb] at h
 try simp only [itf,List.getElem?_eq_some_iff,kk] at h
 rcases h with ⟨v1_0,v1_1,q1,(⟨q2,q3,e2,⟨g4,q4⟩,h⟩ | ⟨q2,h⟩)⟩
 all_goals (refine Eq.trans ?_ h;clear h;simp +decide [*,kk,Zyg])
theorem Zbcf (a:Zc) (a1:Region) (r:AV×List Blk) (h:(∃ (v1_0:Bool),Zff a1.Box=some (Bo v1_0,[])∧(if v1_0=true then (∃ (v2_0:Int),Zc3 a=some (I v2_0,[])∧(if (a1.Box.Low.length:Int)=(w (v2_0+1)) then (∃ (v3_0:Int),Zk4 a a1.Plan=some (I v3_0,[])∧(if v3_0=v2_0 then (if 0<v2_0 then (∃ (v4_0:Bool),Z0 a1.Percent 100 1000=some (Bo v4_0,[])∧(some (Bo v4_0,[])=some r)) else (some (Bo false,[])=some r)) else (some (Bo false,[])=some r))) else (some (Bo false,[])=some r))) else (some (Bo false,[])=some r)))):Zk5 a a1=some r:=by
 unfold Zk5
 refine run Z87 rfl ?_
 simp only [Zff,Zc3,Zk4,Z0,Box.c_def,Plan.c_def,Zc.c_def,mpl,dfs] at h
 try simp only [itb] at h
 try simp only [itf,List.getElem?_eq_some_iff,kk] at h
 rcases h with ⟨v1_0,q1,(⟨q2,v2_0,q3,(⟨q4,v3_0,q5,(⟨q6,(⟨q7,v4_0,q8,h⟩ | ⟨q7,h⟩)⟩ | ⟨q6,h⟩)⟩ | ⟨q4,h⟩)⟩ | ⟨q2,h⟩)⟩
 all_goals (refine Eq.trans ?_ h;clear h;simp +decide [*,kk,Zyh])
theorem Z1b (q:Zc) (out:List Int) (full:Int) (m:Int) (r:AV×List Blk) (h:(if m≤full then (∃ (v1_0:Bool),Zeg q m=some (Bo v1_0,[])∧(if v1_0=true then (out.length+1≤68719476736∧(Zgk q (out++[m]) full (w (m+1))=some r)) else (Zgk q out full (w (m+1))=some r))) else (some (.own 0,[.arr 3 1 true (out.map ic)])=some r))):Zgk q out full m=some r:=by
 unfold Zgk
 rw [EvL_eq Zrr.eq_1]
 simp only [Zeg,Zc.c_def,mpl,dfs] at h
 try simp only [itb] at h
 try simp only [itf,List.getElem?_eq_some_iff,kk] at h
 rcases h with ⟨q1,v1_0,q2,(⟨q3,q4,h⟩ | ⟨q3,h⟩)⟩ | ⟨q1,h⟩
 all_goals (refine Eq.trans ?_ h;clear h;simp +decide [*,kk,Zgk,Zyi,Zrs])
theorem Zbcg (a:Zc) (r:AV×List Blk) (h:(∃ (v1_0:Int),Zc3 a=some (I v1_0,[])∧(Zgk a ([]:List Int) v1_0 1=some r))):Zk6 a=some r:=by
 unfold Zk6
 refine run Z88 rfl ?_
 simp only [Zc3,Zc.c_def,mpl,dfs] at h
 rcases h with ⟨v1_0,q1,h⟩
 all_goals (refine Eq.trans ?_ h;clear h;simp +decide [*,kk,Zyj,Zgk])
theorem Z1c (q:Zc) (out:List Int) (mask:Int) (m:Int) (r:AV×List Blk) (h:(if m<mask then (if (andI m mask)=m then (∃ (v1_0:Bool),Zeg q m=some (Bo v1_0,[])∧(if v1_0=true then (∃ (v2_0:Bool),Zeg q (w (mask - m))=some (Bo v2_0,[])∧(if v2_0=true then (out.length+1≤68719476736∧(Zdv q (out++[m]) mask (w (m+1))=some r)) else (Zdv q out mask (w (m+1))=some r))) else (Zdv q out mask (w (m+1))=some r))) else (Zdv q out mask (w (m+1))=some r)) else (some (.own 0,[.arr 3 1 true (out.map ic)])=some r))):Zdv q out mask m=some r:=by
 unfold Zdv
 rw [EvL_eq Zrt.eq_1]
 simp only [Zeg,Zc.c_def,mpl,dfs] at h
 try simp only [itb] at h
 try simp only [itf,List.getElem?_eq_some_iff,kk] at h
 rcases h with ⟨q1,(⟨q2,v1_0,q3,(⟨q4,v2_0,q5,(⟨q6,q7,h⟩ | ⟨q6,h⟩)⟩ | ⟨q4,h⟩)⟩ | ⟨q2,h⟩)⟩ | ⟨q1,h⟩
 all_goals (refine Eq.trans ?_ h;clear h;simp +decide [*,kk,Zdv,Zyk,Zru])
theorem Zbch (a:Zc) (a1:Int) (r:AV×List Blk) (h:(∃ (v1_0:Bool),Zh2 a a1=some (Bo v1_0,[])∧(if v1_0=true then (Zdv a ([]:List Int) a1 1=some r) else (some (.own 0,[.arr 3 1 true (([]:List Int).map ic)])=some r)))):Zk7 a a1=some r:=by
 unfold Zk7
 refine run Z89 rfl ?_
 simp only [Zh2,Zc.c_def,mpl,dfs] at h
 try simp only [itb] at h
 try simp only [itf,List.getElem?_eq_some_iff,kk] at h
 rcases h with ⟨v1_0,q1,(⟨q2,h⟩ | ⟨q2,h⟩)⟩
 all_goals (refine Eq.trans ?_ h;clear h;simp +decide [*,kk,Zyl,Zdv])
theorem Z1d (out:List Int) (bits:Int) (v:Int) (r:AV×List Blk) (h:(if v<4 then (¬ v<0∧(if (andI (shrI bits v) 1)=1 then (out.length+1≤68719476736∧(Zgl (out++[v]) bits (w (v+1))=some r)) else (Zgl out bits (w (v+1))=some r))) else (some (.own 0,[.arr 3 1 true (out.map ic)])=some r))):Zgl out bits v=some r:=by
 unfold Zgl
 rw [EvL_eq Zrv.eq_1]
 try simp only [itb] at h
 try simp only [itf,List.getElem?_eq_some_iff,kk] at h
 rcases h with ⟨q1,q2,(⟨q3,q4,h⟩ | ⟨q3,h⟩)⟩ | ⟨q1,h⟩
 all_goals (refine Eq.trans ?_ h;clear h;simp +decide [*,kk,Zgl,Zym,Zrw])
theorem Zbci (a:Int) (r:AV×List Blk) (h:(Zgl ([]:List Int) a 0=some r)):Znp a=some r:=by
 unfold Znp
 refine run Z9a rfl ?_
 refine Eq.trans ?_ h;clear h;simp +decide [*,kk,Zyn,Zgl]
theorem Zbcj (a:Zc) (a1:Int) (r:AV×List Blk) (h:(∃ (v1_0:Bool),Zh0 a a1=some (Bo v1_0,[])∧(if v1_0=true then (∃ (v2_0:Int),Zca a a1=some (I v2_0,[])∧(∃ (v3_0:List Int),Znp v2_0=some (.own 0,[.arr 3 1 true (v3_0.map ic)])∧(some (.own 0,[.arr 3 1 true (v3_0.map ic)])=some r))) else (some (.own 0,[.arr 3 1 true (([]:List Int).map ic)])=some r)))):Zi4 a a1=some r:=by
 unfold Zi4
 refine run Z9b rfl ?_
 simp only [Zh0,Zca,Znp,Zc.c_def,mpl,dfs] at h
 try simp only [itb] at h
 try simp only [itf,List.getElem?_eq_some_iff,kk] at h
 rcases h with ⟨v1_0,q1,(⟨q2,v2_0,q3,v3_0,q4,h⟩ | ⟨q2,h⟩)⟩
 all_goals (refine Eq.trans ?_ h;clear h;simp +decide [*,kk,Zyo])
theorem Z1e (out:List Int) (x:List Int) (y:List Int) (i:Int) (r:AV×List Blk) (h:(if i<(x.length:Int) then (0≤i∧(∃ (e1:Int),x[i.toNat]?=some e1∧(∃ (v2_0:Bool),Zhx y e1=some (Bo v2_0,[])∧(if v2_0=true then (out.length+1≤68719476736∧(Zgn (out++[e1]) x y (w (i+1))=some r)) else (Zgn out x y (w (i+1))=some r))))) else (some (.own 0,[.arr 3 1 true (out.map ic)])=some r))):Zgn out x y i=some r:=by
 unfold Zgn
 rw [EvL_eq Zrx.eq_1]
 simp only [Zhx,mpl,dfs] at h
 try simp only [itb] at h
 try simp only [itf,List.getElem?_eq_some_iff,kk] at h
 rcases h with ⟨q1,q2,e1,⟨g3,q3⟩,v2_0,q4,(⟨q5,q6,h⟩ | ⟨q5,h⟩)⟩ | ⟨q1,h⟩
 all_goals (refine Eq.trans ?_ h;clear h;simp +decide [*,kk,Zgn,Zyp,Zry])
theorem Zbck (a:Zc) (a1:Int) (a2:Int) (r:AV×List Blk) (h:(∃ (v1_0:List Int),Zi4 a a1=some (.own 0,[.arr 3 1 true (v1_0.map ic)])∧(∃ (v2_0:List Int),Zi4 a a2=some (.own 0,[.arr 3 1 true (v2_0.map ic)])∧(Zgn ([]:List Int) v1_0 v2_0 0=some r)))):Zgm a a1 a2=some r:=by
 unfold Zgm
 refine run Z9c rfl ?_
 simp only [Zi4,Zc.c_def,mpl,dfs] at h
 rcases h with ⟨v1_0,q1,v2_0,q2,h⟩
 all_goals (refine Eq.trans ?_ h;clear h;simp +decide [*,kk,Zyq,Zgn])
end Go.Proofs.YtbapkgocloaaeaaGreat
/- part: G11 -/
namespace Go.Proofs.YtbapkgocloaaeaaGreat
open Go.AM
theorem Z1f (q:Zc) (out:List Zr) (masks:List Int) (i:Int) (r:AV×List Blk) (h:(if i<(masks.length:Int) then (0≤i∧(∃ (e1:Int),masks[i.toNat]?=some e1∧(∃ (v2_0:List Int),Zk7 q e1=some (.own 0,[.arr 3 1 true (v2_0.map ic)])∧(Zle q out masks e1 v2_0 i 0=some r)))) else (some (.own 0,[.arr 242 3 true (out.map Zr.c)])=some r))):Zdw q out masks i=some r:=by
 unfold Zdw
 rw [EvL_eq Zlb.eq_1]
 simp only [Zk7,Zc.c_def,mpl,dfs] at h
 try simp only [itb] at h
 try simp only [itf,List.getElem?_eq_some_iff,kk] at h
 rcases h with ⟨q1,q2,e1,⟨g3,q3⟩,v2_0,q4,h⟩ | ⟨q1,h⟩
 all_goals (refine Eq.trans ?_ h;clear h;simp +decide [*,kk,Zle,Zlc])
theorem Zbcl (q:Zc) (out:List Zr) (masks:List Int) (mask:Int) (x:List Int) (i:Int) (k:Int) (r:AV×List Blk) (h:(if k<(x.length:Int) then (0≤k∧(∃ (e1:Int),x[k.toNat]?=some e1∧(0≤i∧(∃ (e2:Int),masks[i.toNat]?=some e2∧(∃ (v3_0:List Int),Zgm q e1 (w (e2 - e1))=some (.own 0,[.arr 3 1 true (v3_0.map ic)])∧(Zh9 q out masks mask x ([v3_0]) i (w (k+1))=some r)))))) else (out.length+1≤68719476736∧(Zdw q (out++[(⟨mask,x,[]⟩:Zr)]) masks (w (i+1))=some r)))):Zle q out masks mask x i k=some r:=by
 unfold Zle
 rw [EvL_eq Zk8.eq_1]
 simp only [Zgm,Zc.c_def,mpl,dfs] at h
 try simp only [itb] at h
 try simp only [itf,List.getElem?_eq_some_iff,kk] at h
 rcases h with ⟨q1,q2,e1,⟨g3,q3⟩,q4,e2,⟨g5,q5⟩,v3_0,q6,h⟩ | ⟨q1,q7,h⟩
 all_goals (refine Eq.trans ?_ h;clear h;simp +decide [*,kk,Zh9,Zdw,Zla,Zk9])
theorem Z1g (q:Zc) (out:List Zr) (masks:List Int) (mask:Int) (x:List Int) (x1:List (List Int)) (i:Int) (k:Int) (r:AV×List Blk) (h:(if k<(x.length:Int) then (0≤k∧(∃ (e1:Int),x[k.toNat]?=some e1∧(0≤i∧(∃ (e2:Int),masks[i.toNat]?=some e2∧(∃ (v3_0:List Int),Zgm q e1 (w (e2 - e1))=some (.own 0,[.arr 3 1 true (v3_0.map ic)])∧(x1.length+1≤68719476736∧(Zh9 q out masks mask x (x1++[v3_0]) i (w (k+1))=some r))))))) else (out.length+1≤68719476736∧(Zdw q (out++[(⟨mask,x,x1⟩:Zr)]) masks (w (i+1))=some r)))):Zh9 q out masks mask x x1 i k=some r:=by
 unfold Zh9
 rw [EvL_eq Zk8.eq_1]
 simp only [Zgm,Zc.c_def,mpl,dfs] at h
 try simp only [itb] at h
 try simp only [itf,List.getElem?_eq_some_iff,kk] at h
 rcases h with ⟨q1,q2,e1,⟨g3,q3⟩,q4,e2,⟨g5,q5⟩,v3_0,q6,q7,h⟩ | ⟨q1,q8,h⟩
 all_goals (refine Eq.trans ?_ h;clear h;simp +decide [*,kk,Zh9,Zdw,Zla,Zk9])
theorem Zbcm (a:Zc) (r:AV×List Blk) (h:(∃ (v1_0:List Int),Zk6 a=some (.own 0,[.arr 3 1 true (v1_0.map ic)])∧(Zdw a ([]:List Zr) v1_0 0=some r))):Zld a=some r:=by
 unfold Zld
 refine run Z9d rfl ?_
 simp only [Zk6,Zc.c_def,mpl,dfs] at h
 rcases h with ⟨v1_0,q1,h⟩
 all_goals (refine Eq.trans ?_ h;clear h;simp +decide [*,kk,Zyr,Zdw])
theorem Zsw (out:List Int) (l:List Int) (i:Int) (r:AV×List Blk) (h:(if i<(l.length:Int) then (∃ (v1_0:Bool),Zgg l=some (Bo v1_0,[])∧(if v1_0=true then (0≤i∧(∃ (e2:Int),l[i.toNat]?=some e2∧(∃ (v3_0:Int),Zfb e2=some (I v3_0,[])∧(out.length+1≤68719476736∧(Zib (out++[v3_0]) l (w (i+1))=some r))))) else (some (.own 0,[.arr 3 1 true (out.map ic)])=some r))) else (some (.own 0,[.arr 3 1 true (out.map ic)])=some r))):Zib out l i=some r:=by
 unfold Zib
 rw [EvL_eq Zrz.eq_1]
 simp only [Zgg,Zfb,mpl,dfs] at h
 try simp only [itb] at h
 try simp only [itf,List.getElem?_eq_some_iff,kk] at h
 rcases h with ⟨q1,v1_0,q2,(⟨q3,q4,e2,⟨g5,q5⟩,v3_0,q6,q7,h⟩ | ⟨q3,h⟩)⟩ | ⟨q1,h⟩
 all_goals (refine Eq.trans ?_ h;clear h;simp +decide [*,kk,Zib,Zr0])
theorem Z1h (a:List Int) (r:AV×List Blk) (h:(Zib ([]:List Int) a 0=some r)):Zia a=some r:=by
 unfold Zia
 refine run Z9e rfl ?_
 refine Eq.trans ?_ h;clear h;simp +decide [*,kk,Zys,Zib]
theorem Z1i (out:List Int) (mask:Int) (i:Int) (r:AV×List Blk) (h:(if i<4 then (∃ (v1_0:Bool),Z0 mask 0 15=some (Bo v1_0,[])∧(if v1_0=true then (¬ i<0∧(if (andI (shrI mask i) 1)=1 then (out.length+1≤68719476736∧(Zgo (out++[i]) mask (w (i+1))=some r)) else (Zgo out mask (w (i+1))=some r))) else (some (.own 0,[.arr 3 1 true (out.map ic)])=some r))) else (some (.own 0,[.arr 3 1 true (out.map ic)])=some r))):Zgo out mask i=some r:=by
 unfold Zgo
 rw [EvL_eq Zr1.eq_1]
 simp only [Z0,mpl,dfs] at h
 try simp only [itb] at h
 try simp only [itf,List.getElem?_eq_some_iff,kk] at h
 rcases h with ⟨q1,v1_0,q2,(⟨q3,q4,(⟨q5,q6,h⟩ | ⟨q5,h⟩)⟩ | ⟨q3,h⟩)⟩ | ⟨q1,h⟩
 all_goals (refine Eq.trans ?_ h;clear h;simp +decide [*,kk,Zgo,Zyt,Zr2])
theorem Zbcn (a:Int) (r:AV×List Blk) (h:(Zgo ([]:List Int) a 0=some r)):Zlf a=some r:=by
 unfold Zlf
 refine run Z9f rfl ?_
 refine Eq.trans ?_ h;clear h;simp +decide [*,kk,Zyu,Zgo]
theorem Zbco (a:Int) (r:AV×List Blk) (h:(some (.agg [.own 0],[.arr 142 3 true (([(⟨1,a,0⟩:Zb)]).map Zb.c)])=some r)):Zlg a=some r:=by
 unfold Zlg
 refine run Z9g rfl ?_
 refine Eq.trans ?_ h;clear h;simp +decide [*,kk,Zyv]
theorem Z1j (l:List Za) (mask:Int) (best:Int) (i:Int) (r:AV×List Blk) (h:(if i<(l.length:Int) then (0≤i∧(∃ (e1:Za),l[i.toNat]?=some e1∧(if e1.Mask=mask then (if best<0 then (Zei l mask i (w (i+1))=some r) else (0≤best∧(∃ (e2:Za),l[best.toNat]?=some e2∧(if e1.Cost<e2.Cost then (Zei l mask i (w (i+1))=some r) else (Zei l mask best (w (i+1))=some r))))) else (Zei l mask best (w (i+1))=some r)))) else (some (I best,[])=some r))):Zei l mask best i=some r:=by
 unfold Zei
 rw [EvL_eq Zr3.eq_1]
 try simp only [itb] at h
 try simp only [itf,List.getElem?_eq_some_iff,kk] at h
 rcases h with ⟨q1,q2,e1,⟨g3,q3⟩,(⟨q4,(⟨q5,h⟩ | ⟨q5,q6,e2,⟨g7,q7⟩,(⟨q8,h⟩ | ⟨q8,h⟩)⟩)⟩ | ⟨q4,h⟩)⟩ | ⟨q1,h⟩
 all_goals (refine Eq.trans ?_ h;clear h;simp +decide [*,kk,Zei,Zyw,Zr4])
theorem Zbcp (a:List Za) (a1:Int) (r:AV×List Blk) (h:(Zei a a1 (-1) 0=some r)):Zeh a a1=some r:=by
 unfold Zeh
 refine run Z9h rfl ?_
 refine Eq.trans ?_ h;clear h;simp +decide [*,kk,Zyx,Zei]
theorem Zbcq (a:Plan) (a1:Plan) (a2:Int) (a3:Int) (r:AV×List Blk) (h:(a.Steps.length≤68719476736∧(a.Steps.length+a1.Steps.length≤68719476736∧(a.Steps.length+a1.Steps.length+1≤68719476736∧(some (.agg [.own 0],[.arr 142 3 true (((a.Steps++a1.Steps)++[(⟨a2,0,a3⟩:Zb)]).map Zb.c)])=some r))))):Zcm a a1 a2 a3=some r:=by
 unfold Zcm
 refine run Z9i rfl ?_
 rcases h with ⟨q1,q2,q3,h⟩
 all_goals (refine Eq.trans ?_ h;clear h;simp +decide [*,kk,Zyy])
theorem Zbcr (x:List Int) (x1:List Za) (a:Zd) (a1:Za) (a2:Za) (a3:Int) (a4:Int) (a5:Int) (r:AV×List Blk) (h:(∃ (v1_0:Zh),Zcl a a3=some (.agg (v1_0.c.map .t),[])∧(0≤a1.Mask∧(∃ (e2:Int),x[a1.Mask.toNat]?=some e2∧(0≤a2.Mask∧(∃ (e3:Int),x[a2.Mask.toNat]?=some e3∧(0≤(orI a1.Mask a2.Mask)∧(∃ (e4:Int),x[(orI a1.Mask a2.Mask).toNat]?=some e4∧(∃ (v5_0:Int),Zbs v1_0 e2 e3 e4=some (I v5_0,[])∧(0≤(w (a5+1))∧(∃ (e6:Za),x1[(w (a5+1)).toNat]?=some e6∧(if e6.Mask=0 then (∃ (v7_0:List Zb),Zcm a1.Plan a2.Plan a3 a4=some (.agg [.own 0],[.arr 142 3 true (v7_0.map Zb.c)])∧(some (.tup [],[.arr 3 1 true (x.map ic),.arr 174 4 true ((x1.set ((w (a5+1)).toNat) (⟨(orI a1.Mask a2.Mask),a5,(w ((w (a1.Cost+a2.Cost))+v5_0)),(⟨v7_0⟩:Plan)⟩:Za)).map Za.c)])=some r)) else (if (w ((w (a1.Cost+a2.Cost))+v5_0))<e6.Cost then (∃ (v8_0:List Zb),Zcm a1.Plan a2.Plan a3 a4=some (.agg [.own 0],[.arr 142 3 true (v8_0.map Zb.c)])∧(some (.tup [],[.arr 3 1 true (x.map ic),.arr 174 4 true ((x1.set ((w (a5+1)).toNat) (⟨(orI a1.Mask a2.Mask),a5,(w ((w (a1.Cost+a2.Cost))+v5_0)),(⟨v8_0⟩:Plan)⟩:Za)).map Za.c)])=some r)) else (some (.tup [],[.arr 3 1 true (x.map ic),.arr 174 4 true (x1.map Za.c)])=some r)))))))))))))):Zfh x x1 a a1 a2 a3 a4 a5=some r:=by
 unfold Zfh
 refine runM Znv rfl ?_
 simp only [Zcl,Zbs,Zcm,Zd.c_def,Zh.c_def,Plan.c_def,mpl,dfs] at h
 try simp only [itb] at h
 try simp only [itf,List.getElem?_eq_some_iff,kk] at h
 rcases h with ⟨v1_0,q1,q2,e2,⟨g3,q3⟩,q4,e3,⟨g5,q5⟩,q6,e4,⟨g7,q7⟩,v5_0,q8,q9,e6,⟨g10,q10⟩,(⟨q11,v7_0,q12,h⟩ | ⟨q11,(⟨q13,v8_0,q14,h⟩ | ⟨q13,h⟩)⟩)⟩
 all_goals (refine Eq.trans ?_ h;clear h;simp +decide [*,kk,Zlh])
theorem Z1k (l:List Za) (mask:Int) (order:Int) (i:Int) (r:AV×List Blk) (h:(if i<(l.length:Int) then (0≤i∧(∃ (e1:Za),l[i.toNat]?=some e1∧(if e1.Mask=mask then (if e1.Order=order then (some (I i,[])=some r) else (Zgp l mask order (w (i+1))=some r)) else (Zgp l mask order (w (i+1))=some r)))) else (some (I (-1),[])=some r))):Zgp l mask order i=some r:=by
 unfold Zgp
 rw [EvL_eq Zr5.eq_1]
 try simp only [itb] at h
 try simp only [itf,List.getElem?_eq_some_iff,kk] at h
 rcases h with ⟨q1,q2,e1,⟨g3,q3⟩,(⟨q4,(⟨q5,h⟩ | ⟨q5,h⟩)⟩ | ⟨q4,h⟩)⟩ | ⟨q1,h⟩
 all_goals (refine Eq.trans ?_ h;clear h;simp +decide [*,kk,Zgp,Zr6])
theorem Zbcs (a:List Za) (a1:Int) (a2:Int) (r:AV×List Blk) (h:(Zgp a a1 a2 0=some r)):Zic a a1 a2=some r:=by
 unfold Zic
 refine run Z9j rfl ?_
 refine Eq.trans ?_ h;clear h;simp +decide [*,kk,Zyz,Zgp]
theorem Zbct (a:Plan) (a1:Int) (r:AV×List Blk) (h:(a.Steps.length≤68719476736∧(a.Steps.length+1≤68719476736∧(some (.agg [.own 0],[.arr 142 3 true ((a.Steps++[(⟨2,0,a1⟩:Zb)]).map Zb.c)])=some r)))):Zi5 a a1=some r:=by
 unfold Zi5
 refine run Z9k rfl ?_
 rcases h with ⟨q1,q2,h⟩
 all_goals (refine Eq.trans ?_ h;clear h;simp +decide [*,kk,Zy0])
theorem Zbcu (x:List Int) (x1:List Za) (x2:List Zb) (a:Zd) (a1:Za) (Mask:Int) (Order:Int) (Cost:Int) (a2:Int) (a3:Int) (a4:Int) (r:AV×List Blk) (h:(∃ (v1_0:Zh),Zcl a a2=some (.agg (v1_0.c.map .t),[])∧(0≤a1.Mask∧(∃ (e2:Int),x[a1.Mask.toNat]?=some e2∧(0≤Mask∧(∃ (e3:Int),x[Mask.toNat]?=some e3∧(0≤(orI a1.Mask Mask)∧(∃ (e4:Int),x[(orI a1.Mask Mask).toNat]?=some e4∧(∃ (v5_0:Int),Zbs v1_0 e2 e3 e4=some (I v5_0,[])∧(0≤(w (a4+1))∧(∃ (e6:Za),x1[(w (a4+1)).toNat]?=some e6∧(if e6.Mask=0 then (∃ (v7_0:List Zb),Zcm a1.Plan (⟨x2⟩:Plan) a2 a3=some (.agg [.own 0],[.arr 142 3 true (v7_0.map Zb.c)])∧(some (.tup [],[.arr 3 1 true (x.map ic),.arr 174 4 true ((x1.set ((w (a4+1)).toNat) (⟨(orI a1.Mask Mask),a4,(w ((w (a1.Cost+Cost))+v5_0)),(⟨v7_0⟩:Plan)⟩:Za)).map Za.c),.arr 142 3 true (x2.map Zb.c)])=some r)) else (if (w ((w (a1.Cost+Cost))+v5_0))<e6.Cost then (∃ (v8_0:List Zb),Zcm a1.Plan (⟨x2⟩:Plan) a2 a3=some (.agg [.own 0],[.arr 142 3 true (v8_0.map Zb.c)])∧(some (.tup [],[.arr 3 1 true (x.map ic),.arr 174 4 true ((x1.set ((w (a4+1)).toNat) (⟨(orI a1.Mask Mask),a4,(w ((w (a1.Cost+Cost))+v5_0)),(⟨v8_0⟩:Plan)⟩:Za)).map Za.c),.arr 142 3 true (x2.map Zb.c)])=some r)) else (some (.tup [],[.arr 3 1 true (x.map ic),.arr 174 4 true (x1.map Za.c),.arr 142 3 true (x2.map Zb.c)])=some r)))))))))))))):Zli x x1 x2 a a1 Mask Order Cost a2 a3 a4=some r:=by
 unfold Zli
 refine runM Znv rfl ?_
 simp only [Zcl,Zbs,Zcm,Zd.c_def,Zh.c_def,Plan.c_def,mpl,dfs] at h
 try simp only [itb] at h
 try simp only [itf,List.getElem?_eq_some_iff,kk] at h
 rcases h with ⟨v1_0,q1,q2,e2,⟨g3,q3⟩,q4,e3,⟨g5,q5⟩,q6,e4,⟨g7,q7⟩,v5_0,q8,q9,e6,⟨g10,q10⟩,(⟨q11,v7_0,q12,h⟩ | ⟨q11,(⟨q13,v8_0,q14,h⟩ | ⟨q13,h⟩)⟩)⟩
 all_goals (refine Eq.trans ?_ h;clear h;simp +decide [*,kk,Zlh])
theorem Zbcv (x:List Int) (x1:List Za) (x2:List Zb) (a:Zd) (Mask:Int) (Order:Int) (Cost:Int) (a1:Za) (a2:Int) (a3:Int) (a4:Int) (r:AV×List Blk) (h:(∃ (v1_0:Zh),Zcl a a2=some (.agg (v1_0.c.map .t),[])∧(0≤Mask∧(∃ (e2:Int),x[Mask.toNat]?=some e2∧(0≤a1.Mask∧(∃ (e3:Int),x[a1.Mask.toNat]?=some e3∧(0≤(orI Mask a1.Mask)∧(∃ (e4:Int),x[(orI Mask a1.Mask).toNat]?=some e4∧(∃ (v5_0:Int),Zbs v1_0 e2 e3 e4=some (I v5_0,[])∧(0≤(w (a4+1))∧(∃ (e6:Za),x1[(w (a4+1)).toNat]?=some e6∧(if e6.Mask=0 then (∃ (v7_0:List Zb),Zcm (⟨x2⟩:Plan) a1.Plan a2 a3=some (.agg [.own 0],[.arr 142 3 true (v7_0.map Zb.c)])∧(some (.tup [],[.arr 3 1 true (x.map ic),.arr 174 4 true ((x1.set ((w (a4+1)).toNat) (⟨(orI Mask a1.Mask),a4,(w ((w (Cost+a1.Cost))+v5_0)),(⟨v7_0⟩:Plan)⟩:Za)).map Za.c),.arr 142 3 true (x2.map Zb.c)])=some r)) else (if (w ((w (Cost+a1.Cost))+v5_0))<e6.Cost then (∃ (v8_0:List Zb),Zcm (⟨x2⟩:Plan) a1.Plan a2 a3=some (.agg [.own 0],[.arr 142 3 true (v8_0.map Zb.c)])∧(some (.tup [],[.arr 3 1 true (x.map ic),.arr 174 4 true ((x1.set ((w (a4+1)).toNat) (⟨(orI Mask a1.Mask),a4,(w ((w (Cost+a1.Cost))+v5_0)),(⟨v8_0⟩:Plan)⟩:Za)).map Za.c),.arr 142 3 true (x2.map Zb.c)])=some r)) else (some (.tup [],[.arr 3 1 true (x.map ic),.arr 174 4 true (x1.map Za.c),.arr 142 3 true (x2.map Zb.c)])=some r)))))))))))))):Zlj x x1 x2 a Mask Order Cost a1 a2 a3 a4=some r:=by
 unfold Zlj
 refine runM Znv rfl ?_
 simp only [Zcl,Zbs,Zcm,Zd.c_def,Zh.c_def,Plan.c_def,mpl,dfs] at h
 try simp only [itb] at h
 try simp only [itf,List.getElem?_eq_some_iff,kk] at h
 rcases h with ⟨v1_0,q1,q2,e2,⟨g3,q3⟩,q4,e3,⟨g5,q5⟩,q6,e4,⟨g7,q7⟩,v5_0,q8,q9,e6,⟨g10,q10⟩,(⟨q11,v7_0,q12,h⟩ | ⟨q11,(⟨q13,v8_0,q14,h⟩ | ⟨q13,h⟩)⟩)⟩
 all_goals (refine Eq.trans ?_ h;clear h;simp +decide [*,kk,Zlh])
theorem Zbcw (x:List Int) (x1:List Za) (x2:List Zb) (x3:List Zb) (a:Zd) (Mask:Int) (Order:Int) (Cost:Int) (Mask1:Int) (Order1:Int) (Cost1:Int) (a1:Int) (a2:Int) (a3:Int) (r:AV×List Blk) (h:(∃ (v1_0:Zh),Zcl a a1=some (.agg (v1_0.c.map .t),[])∧(0≤Mask∧(∃ (e2:Int),x[Mask.toNat]?=some e2∧(0≤Mask1∧(∃ (e3:Int),x[Mask1.toNat]?=some e3∧(0≤(orI Mask Mask1)∧(∃ (e4:Int),x[(orI Mask Mask1).toNat]?=some e4∧(∃ (v5_0:Int),Zbs v1_0 e2 e3 e4=some (I v5_0,[])∧(0≤(w (a3+1))∧(∃ (e6:Za),x1[(w (a3+1)).toNat]?=some e6∧(if e6.Mask=0 then (∃ (v7_0:List Zb),Zcm (⟨x2⟩:Plan) (⟨x3⟩:Plan) a1 a2=some (.agg [.own 0],[.arr 142 3 true (v7_0.map Zb.c)])∧(some (.tup [],[.arr 3 1 true (x.map ic),.arr 174 4 true ((x1.set ((w (a3+1)).toNat) (⟨(orI Mask Mask1),a3,(w ((w (Cost+Cost1))+v5_0)),(⟨v7_0⟩:Plan)⟩:Za)).map Za.c),.arr 142 3 true (x2.map Zb.c),.arr 142 3 true (x3.map Zb.c)])=some r)) else (if (w ((w (Cost+Cost1))+v5_0))<e6.Cost then (∃ (v8_0:List Zb),Zcm (⟨x2⟩:Plan) (⟨x3⟩:Plan) a1 a2=some (.agg [.own 0],[.arr 142 3 true (v8_0.map Zb.c)])∧(some (.tup [],[.arr 3 1 true (x.map ic),.arr 174 4 true ((x1.set ((w (a3+1)).toNat) (⟨(orI Mask Mask1),a3,(w ((w (Cost+Cost1))+v5_0)),(⟨v8_0⟩:Plan)⟩:Za)).map Za.c),.arr 142 3 true (x2.map Zb.c),.arr 142 3 true (x3.map Zb.c)])=some r)) else (some (.tup [],[.arr 3 1 true (x.map ic),.arr 174 4 true (x1.map Za.c),.arr 142 3 true (x2.map Zb.c),.arr 142 3 true (x3.map Zb.c)])=some r)))))))))))))):Zlk x x1 x2 x3 a Mask Order Cost Mask1 Order1 Cost1 a1 a2 a3=some r:=by
 unfold Zlk
 refine runM Znv rfl ?_
 simp only [Zcl,Zbs,Zcm,Zd.c_def,Zh.c_def,Plan.c_def,mpl,dfs] at h
 try simp only [itb] at h
 try simp only [itf,List.getElem?_eq_some_iff,kk] at h
 rcases h with ⟨v1_0,q1,q2,e2,⟨g3,q3⟩,q4,e3,⟨g5,q5⟩,q6,e4,⟨g7,q7⟩,v5_0,q8,q9,e6,⟨g10,q10⟩,(⟨q11,v7_0,q12,h⟩ | ⟨q11,(⟨q13,v8_0,q14,h⟩ | ⟨q13,h⟩)⟩)⟩
 all_goals (refine Eq.trans ?_ h;clear h;simp +decide [*,kk,Zlh])
theorem Zsx (x:List Int) (fr:Bool) (x1:List Za) (a:Zd) (a1:Int) (a2:Int) (r:AV×List Blk) (h:(∃ (v1_0:Int),Zeh x1 a1=some (I v1_0,[])∧(0≤v1_0∧(∃ (e2:Za),x1[v1_0.toNat]?=some e2∧(0≤a1∧(∃ (e3:Int),x[a1.toNat]?=some e3∧(∃ (v4_0:Int),Zbs a.Sort_ e3 0 e3=some (I v4_0,[])∧(∃ (v5_0:Int),Zic x1 a1 a2=some (I v5_0,[])∧(if 0≤v5_0 then (∃ (e6:Za),x1[v5_0.toNat]?=some e6∧(if e6.Cost≤(w (e2.Cost+v4_0)) then (some (.agg (e6.c.map .t),[.arr 3 1 true (x.map ic),.arr 174 4 fr (x1.map Za.c)])=some r) else (∃ (v7_0:List Zb),Zi5 e2.Plan a2=some (.agg [.own 0],[.arr 142 3 true (v7_0.map Zb.c)])∧(some (.agg [I a1,I a2,I (w (e2.Cost+v4_0)),.own 2],[.arr 3 1 true (x.map ic),.arr 174 4 fr (x1.map Za.c),.arr 142 3 true (v7_0.map Zb.c)])=some r)))) else (∃ (v8_0:List Zb),Zi5 e2.Plan a2=some (.agg [.own 0],[.arr 142 3 true (v8_0.map Zb.c)])∧(some (.agg [I a1,I a2,I (w (e2.Cost+v4_0)),.own 2],[.arr 3 1 true (x.map ic),.arr 174 4 fr (x1.map Za.c),.arr 142 3 true (v8_0.map Zb.c)])=some r))))))))))):Zdx x fr x1 a a1 a2=some r:=by
 unfold Zdx
 refine runM Z9l rfl ?_
 simp only [Zeh,Zbs,Zic,Zi5,Zh.c_def,Plan.c_def,Za.c_def,mpl,dfs] at h
 try simp only [itb] at h
 try simp only [itf,List.getElem?_eq_some_iff,kk] at h
 rcases h with ⟨v1_0,q1,q2,e2,⟨g3,q3⟩,q4,e3,⟨g5,q5⟩,v4_0,q6,v5_0,q7,(⟨q8,e6,⟨g9,q9⟩,(⟨q10,h⟩ | ⟨q10,v7_0,q11,h⟩)⟩ | ⟨q8,v8_0,q12,h⟩)⟩
 all_goals (refine Eq.trans ?_ h;clear h;simp +decide [*,kk,Zy1])
end Go.Proofs.YtbapkgocloaaeaaGreat
/- part: G12 -/
namespace Go.Proofs.YtbapkgocloaaeaaGreat
open Go.AM
theorem Z1l (sizes:List Int) (fr:Bool) (l:List Za) (m:Zd) (x:Zr) (mine:List Za) (k:Int) (r:AV×List Blk) (h:(if k<(x.Zp.length:Int) then (0≤k∧(∃ (e1:Int),x.Zp[k.toNat]?=some e1∧(∃ (v2_0:Int),Zeh l e1=some (I v2_0,[])∧(0≤v2_0∧(∃ (e3:Za),l[v2_0.toNat]?=some e3∧(∃ (v4_0:Int),Zeh l (w (x.mask - e1))=some (I v4_0,[])∧(0≤v4_0∧(∃ (e5:Za),l[v4_0.toNat]?=some e5∧(∃ (v6_0:List Int) (v6_1:List Za),Zfh sizes mine m e3 e5 3 0 (-1)=some (.tup [],[.arr 3 1 true (v6_0.map ic),.arr 174 4 true (v6_1.map Za.c)])∧(Zgr v6_0 fr l m x v6_1 e5 k e1 (w (x.mask - e1)) (-1)=some r)))))))))) else (Zfi mine true ([]:List Za) sizes fr l 0=some r))):Zgq sizes fr l m x mine k=some r:=by
 unfold Zgq
 rw [EvL_eq Zll.eq_1]
 simp only [Zeh,Zfh,Zd.c_def,Zh.c_def,Plan.c_def,Za.c_def,mpl,dfs] at h
 try simp only [itb] at h
 try simp only [itf,List.getElem?_eq_some_iff,kk] at h
 rcases h with ⟨q1,q2,e1,⟨g3,q3⟩,v2_0,q4,q5,e3,⟨g6,q6⟩,v4_0,q7,q8,e5,⟨g9,q9⟩,v6_0,v6_1,q10,h⟩ | ⟨q1,h⟩
 all_goals (refine Eq.trans ?_ h;clear h;simp +decide [*,kk,Zgr,Zfi,Zlm])
theorem Z1m (sizes:List Int) (fr:Bool) (l:List Za) (m:Zd) (x:Zr) (mine:List Za) (b:Za) (k:Int) (left:Int) (right:Int) (o:Int) (r:AV×List Blk) (h:(if o<4 then (∃ (v1_0:Int),Zic l left o=some (I v1_0,[])∧(if 0≤v1_0 then (∃ (e2:Za),l[v1_0.toNat]?=some e2∧(∃ (v3_0:List Int) (v3_1:List Za),Zfh sizes mine m e2 b 5 0 o=some (.tup [],[.arr 3 1 true (v3_0.map ic),.arr 174 4 true (v3_1.map Za.c)])∧(Zgr v3_0 fr l m x v3_1 b k left right (w (o+1))=some r))) else (Zgr sizes fr l m x mine b k left right (w (o+1))=some r))) else (Zdy sizes fr l m x mine k left right 0=some r))):Zgr sizes fr l m x mine b k left right o=some r:=by
 unfold Zgr
 rw [EvL_eq Zr7.eq_1]
 simp only [Zic,Zfh,Zd.c_def,Zh.c_def,Plan.c_def,Za.c_def,mpl,dfs] at h
 try simp only [itb] at h
 try simp only [itf,List.getElem?_eq_some_iff,kk] at h
 rcases h with ⟨q1,v1_0,q2,(⟨q3,e2,⟨g4,q4⟩,v3_0,v3_1,q5,h⟩ | ⟨q3,h⟩)⟩ | ⟨q1,h⟩
 all_goals (refine Eq.trans ?_ h;clear h;simp +decide [*,kk,Zgr,Zy2,Zdy,Zr9])
theorem Zsy (mine:List Za) (fr:Bool) (out:List Za) (x:List Int) (fr1:Bool) (x1:List Za) (o:Int) (r:AV×List Blk) (h:(if o≤4 then (0≤o∧(∃ (e1:Za),mine[o.toNat]?=some e1∧(if 0<e1.Mask then (out.length+1≤68719476736∧(Zfi mine false (out++[e1]) x fr1 x1 (w (o+1))=some r)) else (Zfi mine fr out x fr1 x1 (w (o+1))=some r)))) else (some (.own 2,[.arr 3 1 true (x.map ic),.arr 174 4 fr1 (x1.map Za.c),.arr 174 4 fr (out.map Za.c)])=some r))):Zfi mine fr out x fr1 x1 o=some r:=by
 unfold Zfi
 rw [EvL_eq Zsa.eq_1]
 try simp only [itb] at h
 try simp only [itf,List.getElem?_eq_some_iff,kk] at h
 rcases h with ⟨q1,q2,e1,⟨g3,q3⟩,(⟨q4,q5,h⟩ | ⟨q4,h⟩)⟩ | ⟨q1,h⟩
 all_goals (refine Eq.trans ?_ h;clear h;simp +decide [*,kk,Zfi,Zy3,Zsb])
theorem Z1n (sizes:List Int) (fr:Bool) (l:List Za) (m:Zd) (x:Zr) (mine:List Za) (k:Int) (left:Int) (right:Int) (e:Int) (r:AV×List Blk) (h:(0≤k∧(∃ (e1:List Int),x.shared[k.toNat]?=some e1∧(if e<(e1.length:Int) then (0≤e∧(∃ (e2:Int),e1[e.toNat]?=some e2∧((∃ (v3_0:Za),Zdx sizes fr l m left e2=some (.agg (v3_0.c.map .t),[.arr 3 1 true (sizes.map ic),.arr 174 4 fr (l.map Za.c)])∧((∃ (v4_0:Za),Zdx sizes fr l m right e2=some (.agg (v4_0.c.map .t),[.arr 3 1 true (sizes.map ic),.arr 174 4 fr (l.map Za.c)])∧(∃ (v5_0:List Int) (v5_1:List Za),Zfh sizes mine m v3_0 v4_0 4 e2 e2=some (.tup [],[.arr 3 1 true (v5_0.map ic),.arr 174 4 true (v5_1.map Za.c)])∧(Zdy v5_0 fr l m x v5_1 k left right (w (e+1))=some r)))∨(∃ (v6_0:List Zb) (v6_1:Int) (v6_2:Int) (v6_3:Int),Zdx sizes fr l m right e2=some (.agg [I v6_1,I v6_2,I v6_3,.own 2],[.arr 3 1 true (sizes.map ic),.arr 174 4 fr (l.map Za.c),.arr 142 3 true (v6_0.map Zb.c)])∧(∃ (v7_0:List Int) (v7_1:List Za) (v7_2:List Zb),Zli sizes mine v6_0 m v3_0 v6_1 v6_2 v6_3 4 e2 e2=some (.tup [],[.arr 3 1 true (v7_0.map ic),.arr 174 4 true (v7_1.map Za.c),.arr 142 3 true (v7_2.map Zb.c)])∧(Zdy v7_0 fr l m x v7_1 k left right (w (e+1))=some r)))))∨(∃ (v8_0:List Zb) (v8_1:Int) (v8_2:Int) (v8_3:Int),Zdx sizes fr l m left e2=some (.agg [I v8_1,I v8_2,I v8_3,.own 2],[.arr 3 1 true (sizes.map ic),.arr 174 4 fr (l.map Za.c),.arr 142 3 true (v8_0.map Zb.c)])∧((∃ (v9_0:Za),Zdx sizes fr l m right e2=some (.agg (v9_0.c.map .t),[.arr 3 1 true (sizes.map ic),.arr 174 4 fr (l.map Za.c)])∧(∃ (v10_0:List Int) (v10_1:List Za) (v10_2:List Zb),Zlj sizes mine v8_0 m v8_1 v8_2 v8_3 v9_0 4 e2 e2=some (.tup [],[.arr 3 1 true (v10_0.map ic),.arr 174 4 true (v10_1.map Za.c),.arr 142 3 true (v10_2.map Zb.c)])∧(Zdy v10_0 fr l m x v10_1 k left right (w (e+1))=some r)))∨(∃ (v11_0:List Zb) (v11_1:Int) (v11_2:Int) (v11_3:Int),Zdx sizes fr l m right e2=some (.agg [I v11_1,I v11_2,I v11_3,.own 2],[.arr 3 1 true (sizes.map ic),.arr 174 4 fr (l.map Za.c),.arr 142 3 true (v11_0.map Zb.c)])∧(∃ (v12_0:List Int) (v12_1:List Za) (v12_2:List Zb) (v12_3:List Zb),Zlk sizes mine v8_0 v11_0 m v8_1 v8_2 v8_3 v11_1 v11_2 v11_3 4 e2 e2=some (.tup [],[.arr 3 1 true (v12_0.map ic),.arr 174 4 true (v12_1.map Za.c),.arr 142 3 true (v12_2.map Zb.c),.arr 142 3 true (v12_3.map Zb.c)])∧(Zdy v12_0 fr l m x v12_1 k left right (w (e+1))=some r)))))))) else (Zgq sizes fr l m x mine (w (k+1))=some r))))):Zdy sizes fr l m x mine k left right e=some r:=by
 unfold Zdy
 rw [EvL_eq Zr8.eq_1]
 simp only [Zdx,Zfh,Zli,Zlj,Zlk,Zd.c_def,Zh.c_def,Plan.c_def,Za.c_def,Zb.c_def,mpl,dfs] at h
 try simp only [itb] at h
 try simp only [itf,List.getElem?_eq_some_iff,kk] at h
 rcases h with ⟨q1,e1,⟨g2,q2⟩,(⟨q3,q4,e2,⟨g5,q5⟩,(⟨v3_0,q7,(⟨v4_0,q9,v5_0,v5_1,q10,h⟩ | ⟨v6_0,v6_1,v6_2,v6_3,q11,v7_0,v7_1,v7_2,q12,h⟩)⟩ | ⟨v8_0,v8_1,v8_2,v8_3,q13,(⟨v9_0,q15,v10_0,v10_1,v10_2,q16,h⟩ | ⟨v11_0,v11_1,v11_2,v11_3,q17,v12_0,v12_1,v12_2,v12_3,q18,h⟩)⟩)⟩ | ⟨q3,h⟩)⟩
 all_goals (refine Eq.trans ?_ h;clear h;simp +decide [*,kk,Zdy,Zgq,Znq])
theorem Zbcx (x:List Int) (fr:Bool) (x1:List Za) (a:Zd) (a1:Zr) (r:AV×List Blk) (h:(Zgq x fr x1 a a1 (List.replicate 5 (⟨0,0,0,(⟨[]⟩:Plan)⟩:Za)) 0=some r)):Zln x fr x1 a a1=some r:=by
 unfold Zln
 refine runM Z9m rfl ?_
 refine Eq.trans ?_ h;clear h;simp +decide [*,kk,Zy4,Zgq]
theorem Zsz (shapes:List Zr) (sizes:List Int) (m:Zd) (q:Zc) (fr:Bool) (out:List Za) (i:Int) (r:AV×List Blk) (h:(if i<(shapes.length:Int) then (0≤i∧(∃ (e1:Zr),shapes[i.toNat]?=some e1∧(if (andI e1.mask (w (e1.mask - 1)))=0 then (∃ (v2_0:List Int),Zlf e1.mask=some (.own 0,[.arr 3 1 true (v2_0.map ic)])∧(∃ (e3:Int),v2_0[0]?=some e3∧(0≤e3∧(∃ (e4:Atom),q.Atoms[e3.toNat]?=some e4∧(∃ (e5:Int),e4.Vars[0]?=some e5∧(0≤e1.mask∧(∃ (e6:Int),sizes[e1.mask.toNat]?=some e6∧(∃ (v7_0:Int),Zbs m.Scan e6 0 e6=some (I v7_0,[])∧(∃ (v8_0:List Zb),Zlg e3=some (.agg [.own 0],[.arr 142 3 true (v8_0.map Zb.c)])∧(out.length+1≤68719476736∧(Zgs shapes sizes m q fr (out++[(⟨e1.mask,e5,v7_0,(⟨v8_0⟩:Plan)⟩:Za)]) (w (i+1))=some r))))))))))) else (∃ (v9_0:Bool) (v9_1:List Za),Zln sizes fr out m e1=some (.own 2,[.arr 3 1 true (sizes.map ic),.arr 174 4 fr (out.map Za.c),.arr 174 4 v9_0 (v9_1.map Za.c)])∧(out.length+v9_1.length≤68719476736∧(Zgs shapes sizes m q (fr && flat (v9_1.map Za.c)) (out++v9_1) (w (i+1))=some r)))))) else (some (.own 2,[.arr 242 3 true (shapes.map Zr.c),.arr 3 1 true (sizes.map ic),.arr 174 4 fr (out.map Za.c)])=some r))):Zgs shapes sizes m q fr out i=some r:=by
 unfold Zgs
 rw [EvL_eq Zsc.eq_1]
 simp only [Zlf,Zbs,Zlg,Zln,Zr.c_def,Zd.c_def,Zh.c_def,Plan.c_def,Za.c_def,mpl,dfs] at h
 try simp only [itb] at h
 try simp only [itf,List.getElem?_eq_some_iff,kk] at h
 rcases h with ⟨q1,q2,e1,⟨g3,q3⟩,(⟨q4,v2_0,q5,e3,⟨g6,q6⟩,q7,e4,⟨g8,q8⟩,e5,⟨g9,q9⟩,q10,e6,⟨g11,q11⟩,v7_0,q12,v8_0,q13,q14,h⟩ | ⟨q4,v9_0,v9_1,q15,q16,h⟩)⟩ | ⟨q1,h⟩
 all_goals (refine Eq.trans ?_ h;clear h;simp +decide [*,kk,Zgs,Zy5,Zsd])
theorem Zbcy (x:List Zr) (x1:List Int) (a:Zd) (a1:Zc) (r:AV×List Blk) (h:(Zgs x x1 a a1 true ([]:List Za) 0=some r)):Zlo x x1 a a1=some r:=by
 unfold Zlo
 refine runM Z9n rfl ?_
 refine Eq.trans ?_ h;clear h;simp +decide [*,kk,Zy6,Zgs]
theorem Zbcz (a:List Za) (a1:Int) (r:AV×List Blk) (h:(∃ (v1_0:Int),Zeh a a1=some (I v1_0,[])∧(if v1_0<0 then (some (.tup [.agg [I 0,I 0,I 0,.t .nil],Bo false],[])=some r) else (0≤v1_0∧(∃ (e2:Za),a[v1_0.toNat]?=some e2∧(e2.Plan.Steps.length≤68719476736∧(some (.tup [.agg [I e2.Mask,I e2.Order,I e2.Cost,.own 0],Bo true],[.arr 142 3 true (e2.Plan.Steps.map Zb.c)])=some r))))))):Zi6 a a1=some r:=by
 unfold Zi6
 refine run Z9o rfl ?_
 simp only [Zeh,Plan.c_def,Za.c_def,mpl,dfs] at h
 try simp only [itb] at h
 try simp only [itf,List.getElem?_eq_some_iff,kk] at h
 rcases h with ⟨v1_0,q1,(⟨q2,h⟩ | ⟨q2,q3,e2,⟨g4,q4⟩,q5,h⟩)⟩
 all_goals (refine Eq.trans ?_ h;clear h;simp +decide [*,kk,Zy7])
theorem Z1o (sizes:List Int) (i:Int) (r:AV×List Blk) (h:(if i<(sizes.length:Int) then (0≤i∧(∃ (e1:Int),sizes[i.toNat]?=some e1∧(∃ (v2_0:Bool),Z0 e1 0 4096=some (Bo v2_0,[])∧(if v2_0=true then (Zid sizes (w (i+1))=some r) else (some (Bo false,[])=some r))))) else (some (Bo true,[])=some r))):Zid sizes i=some r:=by
 unfold Zid
 rw [EvL_eq Zse.eq_1]
 simp only [Z0,mpl,dfs] at h
 try simp only [itb] at h
 try simp only [itf,List.getElem?_eq_some_iff,kk] at h
 rcases h with ⟨q1,q2,e1,⟨g3,q3⟩,v2_0,q4,(⟨q5,h⟩ | ⟨q5,h⟩)⟩ | ⟨q1,h⟩
 all_goals (refine Eq.trans ?_ h;clear h;simp +decide [*,kk,Zid,Zsf])
theorem Zbc0 (a:Zc) (a1:List Int) (r:AV×List Blk) (h:(∃ (v1_0:Bool),Zdu a=some (Bo v1_0,[])∧(if v1_0=true then (∃ (v2_0:Int),Zc3 a=some (I v2_0,[])∧(if (a1.length:Int)=(w (v2_0+1)) then (Zid a1 0=some r) else (some (Bo false,[])=some r))) else (some (Bo false,[])=some r)))):Zlp a a1=some r:=by
 unfold Zlp
 refine run Z9p rfl ?_
 simp only [Zdu,Zc3,Zc.c_def,mpl,dfs] at h
 try simp only [itb] at h
 try simp only [itf,List.getElem?_eq_some_iff,kk] at h
 rcases h with ⟨v1_0,q1,(⟨q2,v2_0,q3,(⟨q4,h⟩ | ⟨q4,h⟩)⟩ | ⟨q2,h⟩)⟩
 all_goals (refine Eq.trans ?_ h;clear h;simp +decide [*,kk,Zy8,Zid])
theorem Zbc1 (a:Zd) (a1:Int) (a2:List Zg) (a3:Int) (a4:List Int) (r:AV×List Blk) (h:(0≤a3∧(∃ (e1:Zg),a2[a3.toNat]?=some e1∧(∃ (v2_0:Zh),Zcl a a1=some (.agg (v2_0.c.map .t),[])∧(if e1.Left<0 then (0≤e1.Mask∧(∃ (e3:Int),a4[e1.Mask.toNat]?=some e3∧(∃ (v4_0:Int),Zbs v2_0 e3 0 e3=some (I v4_0,[])∧(some (I v4_0,[])=some r)))) else (if e1.Right<0 then (0≤e1.Left∧(∃ (e5:Zg),a2[e1.Left.toNat]?=some e5∧(0≤e5.Mask∧(∃ (e6:Int),a4[e5.Mask.toNat]?=some e6∧(0≤e1.Mask∧(∃ (e7:Int),a4[e1.Mask.toNat]?=some e7∧(∃ (v8_0:Int),Zbs v2_0 e6 0 e7=some (I v8_0,[])∧(some (I v8_0,[])=some r)))))))) else (0≤e1.Left∧(∃ (e9:Zg),a2[e1.Left.toNat]?=some e9∧(0≤e9.Mask∧(∃ (e10:Int),a4[e9.Mask.toNat]?=some e10∧(0≤e1.Right∧(∃ (e11:Zg),a2[e1.Right.toNat]?=some e11∧(0≤e11.Mask∧(∃ (e12:Int),a4[e11.Mask.toNat]?=some e12∧(0≤e1.Mask∧(∃ (e13:Int),a4[e1.Mask.toNat]?=some e13∧(∃ (v14_0:Int),Zbs v2_0 e10 e12 e13=some (I v14_0,[])∧(some (I v14_0,[])=some r)))))))))))))))))):Zlq a a1 a2 a3 a4=some r:=by
 unfold Zlq
 refine run Z9q rfl ?_
 simp only [Zcl,Zbs,Zd.c_def,Zh.c_def,mpl,dfs] at h
 try simp only [itb] at h
 try simp only [itf,List.getElem?_eq_some_iff,kk] at h
 rcases h with ⟨q1,e1,⟨g2,q2⟩,v2_0,q3,(⟨q4,q5,e3,⟨g6,q6⟩,v4_0,q7,h⟩ | ⟨q4,(⟨q8,q9,e5,⟨g10,q10⟩,q11,e6,⟨g12,q12⟩,q13,e7,⟨g14,q14⟩,v8_0,q15,h⟩ | ⟨q8,q16,e9,⟨g17,q17⟩,q18,e10,⟨g19,q19⟩,q20,e11,⟨g21,q21⟩,q22,e12,⟨g23,q23⟩,q24,e13,⟨g25,q25⟩,v14_0,q26,h⟩)⟩)⟩
 all_goals (refine Eq.trans ?_ h;clear h;simp +decide [*,kk,Zy9])
theorem Z1p (m:Zd) (p:Plan) (out:List Int) (info:List Zg) (sizes:List Int) (i:Int) (r:AV×List Blk) (h:(if i<(info.length:Int) then (0≤i∧(∃ (e1:Zb),p.Steps[i.toNat]?=some e1∧(∃ (v2_0:Int),Zlq m e1.Kind info i sizes=some (I v2_0,[])∧(out.length+1≤68719476736∧(Zie m p (out++[v2_0]) info sizes (w (i+1))=some r))))) else (some (.own 0,[.arr 3 1 true (out.map ic)])=some r))):Zie m p out info sizes i=some r:=by
 unfold Zie
 rw [EvL_eq Zsg.eq_1]
 simp only [Zlq,Zd.c_def,Zh.c_def,Zg.c_def,mpl,dfs] at h
 try simp only [itb] at h
 try simp only [itf,List.getElem?_eq_some_iff,kk] at h
 rcases h with ⟨q1,q2,e1,⟨g3,q3⟩,v2_0,q4,q5,h⟩ | ⟨q1,h⟩
 all_goals (refine Eq.trans ?_ h;clear h;simp +decide [*,kk,Zie,Zsh])
theorem Zbc2 (a:Zd) (a1:Zc) (a2:Plan) (a3:List Int) (r:AV×List Blk) (h:(∃ (v1_0:List Zg) (v1_1:Bool),Zh7 a1 a2=some (.tup [.own 0,Bo v1_1],[.arr 138 4 true (v1_0.map Zg.c)])∧(if v1_1=true then (∃ (v2_0:Bool),Zlp a1 a3=some (Bo v2_0,[])∧(if v2_0=true then (Zie a a2 ([]:List Int) v1_0 a3 0=some r) else (some (.own 0,[.arr 3 1 true (([]:List Int).map ic)])=some r))) else (some (.own 0,[.arr 3 1 true (([]:List Int).map ic)])=some r)))):Zlr a a1 a2 a3=some r:=by
 unfold Zlr
 refine run Z9r rfl ?_
 simp only [Zh7,Zlp,Plan.c_def,Zc.c_def,mpl,dfs] at h
 try simp only [itb] at h
 try simp only [itf,List.getElem?_eq_some_iff,kk] at h
 rcases h with ⟨v1_0,v1_1,q1,(⟨q2,v2_0,q3,(⟨q4,h⟩ | ⟨q4,h⟩)⟩ | ⟨q2,h⟩)⟩
 all_goals (refine Eq.trans ?_ h;clear h;simp +decide [*,kk,Zza,Zie])
theorem Z1q (l:List Int) (n:Int) (i:Int) (r:AV×List Blk) (h:(if i<(l.length:Int) then (0≤i∧(∃ (e1:Int),l[i.toNat]?=some e1∧(Zif l (w (n+e1)) (w (i+1))=some r))) else (some (I n,[])=some r))):Zif l n i=some r:=by
 unfold Zif
 rw [EvL_eq Zsi.eq_1]
 try simp only [itb] at h
 try simp only [itf,List.getElem?_eq_some_iff,kk] at h
 rcases h with ⟨q1,q2,e1,⟨g3,q3⟩,h⟩ | ⟨q1,h⟩
 all_goals (refine Eq.trans ?_ h;clear h;simp +decide [*,kk,Zif,Zsj])
theorem Zbc3 (a:Zd) (a1:Zc) (a2:Plan) (a3:List Int) (r:AV×List Blk) (h:(∃ (v1_0:List Int),Zlr a a1 a2 a3=some (.own 0,[.arr 3 1 true (v1_0.map ic)])∧(if (v1_0.length:Int)=0 then (some (I (-1),[])=some r) else (Zif v1_0 0 0=some r)))):Zls a a1 a2 a3=some r:=by
 unfold Zls
 refine run Z9s rfl ?_
 simp only [Zlr,Zd.c_def,Zh.c_def,Plan.c_def,Zc.c_def,mpl,dfs] at h
 try simp only [itb] at h
 try simp only [itf,List.getElem?_eq_some_iff,kk] at h
 rcases h with ⟨v1_0,q1,(⟨q2,h⟩ | ⟨q2,h⟩)⟩
 all_goals (refine Eq.trans ?_ h;clear h;simp +decide [*,kk,Zzb,Zif])
theorem Zbc4 (a:Zd) (a1:Zc) (a2:Plan) (a3:List Int) (r:AV×List Blk) (h:(∃ (v1_0:List Int),Zia a3=some (.own 0,[.arr 3 1 true (v1_0.map ic)])∧(∃ (v2_0:Int),Zls a a1 a2 v1_0=some (I v2_0,[])∧(some (I v2_0,[])=some r)))):Zlt a a1 a2 a3=some r:=by
 unfold Zlt
 refine run Z9t rfl ?_
 simp only [Zia,Zls,Zd.c_def,Zh.c_def,Plan.c_def,Zc.c_def,mpl,dfs] at h
 rcases h with ⟨v1_0,q1,v2_0,q2,h⟩
 all_goals (refine Eq.trans ?_ h;clear h;simp +decide [*,kk,Zzc])
theorem Zbc5 (a:Zd) (a1:Zc) (a2:Region) (r:AV×List Blk) (h:(∃ (v1_0:List Zr),Zld a1=some (.own 0,[.arr 242 3 true (v1_0.map Zr.c)])∧(∃ (v2_0:List Int),Zia a2.Box.Low=some (.own 0,[.arr 3 1 true (v2_0.map ic)])∧(∃ (v3_0:Bool) (v3_1:List Za),Zlo v1_0 v2_0 a a1=some (.own 2,[.arr 242 3 true (v1_0.map Zr.c),.arr 3 1 true (v2_0.map ic),.arr 174 4 v3_0 (v3_1.map Za.c)])∧(∃ (v4_0:Int),Zc3 a1=some (I v4_0,[])∧((∃ (v5_0:Int) (v5_1:Int) (v5_2:Int),Zi6 v3_1 v4_0=some (.tup [.agg [I v5_0,I v5_1,I v5_2,.t .nil],Bo false],[])∧(some (Bo false,[])=some r))∨(∃ (v6_0:List Zb) (v6_1:Int) (v6_2:Int) (v6_3:Int),Zi6 v3_1 v4_0=some (.tup [.agg [I v6_1,I v6_2,I v6_3,.own 0],Bo true],[.arr 142 3 true (v6_0.map Zb.c)])∧(∃ (v7_0:Int),Zlt a a1 a2.Plan a2.Box.High=some (I v7_0,[])∧(some (Bo (decide ((w (v7_0*100))≤(w (a2.Percent*v6_3)))),[])=some r))))))))):Zdz a a1 a2=some r:=by
 unfold Zdz
 refine run Z9u rfl ?_
 simp only [Zld,Zia,Zlo,Zc3,Zi6,Zlt,Zr.c_def,Zd.c_def,Zh.c_def,Plan.c_def,Za.c_def,Zc.c_def,mpl,dfs] at h
 rcases h with ⟨v1_0,q1,v2_0,q2,v3_0,v3_1,q3,v4_0,q4,(⟨v5_0,v5_1,v5_2,q6,h⟩ | ⟨v6_0,v6_1,v6_2,v6_3,q7,v7_0,q8,h⟩)⟩
 all_goals (refine Eq.trans ?_ h;clear h;simp +decide [*,kk,Zzd])
theorem Zbc6 (a:Zd) (a1:Zc) (a2:Region) (r:AV×List Blk) (h:(∃ (v1_0:Bool),Zk0 a=some (Bo v1_0,[])∧(if v1_0=true then (∃ (v2_0:Int),Zc3 a1=some (I v2_0,[])∧(∃ (v3_0:Bool),Zh2 a1 v2_0=some (Bo v3_0,[])∧(if v3_0=true then (∃ (v4_0:Bool),Zk5 a1 a2=some (Bo v4_0,[])∧(if v4_0=true then (∃ (v5_0:Bool),Zdz a a1 a2=some (Bo v5_0,[])∧(some (Bo v5_0,[])=some r)) else (some (Bo false,[])=some r))) else (some (Bo false,[])=some r)))) else (some (Bo false,[])=some r)))):Zlu a a1 a2=some r:=by
 unfold Zlu
 refine run Z9v rfl ?_
 simp only [Zk0,Zc3,Zh2,Zk5,Zdz,Box.c_def,Zd.c_def,Zh.c_def,Plan.c_def,Zc.c_def,Region.c_def,mpl,dfs] at h
 try simp only [itb] at h
 try simp only [itf,List.getElem?_eq_some_iff,kk] at h
 rcases h with ⟨v1_0,q1,(⟨q2,v2_0,q3,v3_0,q4,(⟨q5,v4_0,q6,(⟨q7,v5_0,q8,h⟩ | ⟨q7,h⟩)⟩ | ⟨q5,h⟩)⟩ | ⟨q2,h⟩)⟩
 all_goals (refine Eq.trans ?_ h;clear h;simp +decide [*,kk,Zze])
theorem Z1r (b:Box) (n:Int) (x:Int) (x1:Int) (r:AV×List Blk) (h:(if x1<x then (0≤x1∧(∃ (e1:Int),b.High[x1.toNat]?=some e1∧(∃ (e2:Int),b.Low[x1.toNat]?=some e2∧(Zig b (w (n*(w ((w (e1 - e2))+1)))) x (w (x1+1))=some r)))) else (some (I n,[])=some r))):Zig b n x x1=some r:=by
 unfold Zig
 rw [EvL_eq Zsk.eq_1]
 try simp only [itb] at h
 try simp only [itf,List.getElem?_eq_some_iff,kk] at h
 rcases h with ⟨q1,q2,e1,⟨g3,q3⟩,e2,⟨g4,q4⟩,h⟩ | ⟨q1,h⟩
 all_goals (refine Eq.trans ?_ h;clear h;simp +decide [*,kk,Zig,Zsl])
theorem Zbc7 (a:Box) (r:AV×List Blk) (h:(Zig a 1 (a.Low.length:Int) 0=some r)):Zlv a=some r:=by
 unfold Zlv
 refine run Z9w rfl ?_
 refine Eq.trans ?_ h;clear h;simp +decide [*,kk,Zzf,Zig]
theorem Zbc8 (a:Box) (r:AV×List Blk) (h:(∃ (v1_0:Bool),Zes a=some (Bo v1_0,[])∧(if v1_0=true then (∃ (v2_0:Int),Zlv a=some (I v2_0,[])∧(some (I (if 401<v2_0 then 401 else v2_0),[])=some r)) else (some (I 0,[])=some r)))):Zsm a=some r:=by
 unfold Zsm
 refine run Z9x rfl ?_
 simp only [Zes,Zlv,Box.c_def,mpl,dfs] at h
 try simp only [itb] at h
 try simp only [itf,List.getElem?_eq_some_iff,kk] at h
 rcases h with ⟨v1_0,q1,(⟨q2,v2_0,q3,h⟩ | ⟨q2,h⟩)⟩
 all_goals (refine Eq.trans ?_ h;clear h;simp +decide [*,kk,Zzg])
end Go.Proofs.YtbapkgocloaaeaaGreat
/- part: G13 -/
namespace Go.Proofs.YtbapkgocloaaeaaGreat
open Go.AM
theorem Z1s (b:Box) (n:Int) (i:Int) (r:AV×List Blk) (h:(if i<(b.Low.length:Int) then (0≤i∧(∃ (e1:Int),b.High[i.toNat]?=some e1∧(∃ (e2:Int),b.Low[i.toNat]?=some e2∧(Zih b (if (w (n*(w ((w (e1 - e2))+1))))<401 then (w (n*(w ((w (e1 - e2))+1)))) else 401) (w (i+1))=some r)))) else (some (I n,[])=some r))):Zih b n i=some r:=by
 unfold Zih
 rw [EvL_eq Zsn.eq_1]
 try simp only [itb] at h
 try simp only [itf,List.getElem?_eq_some_iff,kk] at h
 rcases h with ⟨q1,q2,e1,⟨g3,q3⟩,e2,⟨g4,q4⟩,h⟩ | ⟨q1,h⟩
 all_goals (refine Eq.trans ?_ h;clear h;simp +decide [*,kk,Zih,Zso])
theorem Zbc9 (a:Box) (r:AV×List Blk) (h:(∃ (v1_0:Bool),Zff a=some (Bo v1_0,[])∧(if v1_0=true then (Zih a 1 0=some r) else (some (I 0,[])=some r)))):Zsp a=some r:=by
 unfold Zsp
 refine run Z9y rfl ?_
 simp only [Zff,Box.c_def,mpl,dfs] at h
 try simp only [itb] at h
 try simp only [itf,List.getElem?_eq_some_iff,kk] at h
 rcases h with ⟨v1_0,q1,(⟨q2,h⟩ | ⟨q2,h⟩)⟩
 all_goals (refine Eq.trans ?_ h;clear h;simp +decide [*,kk,Zzh,Zih])
theorem Zbda (a:Box) (a1:List Int) (r:AV×List Blk) (h:(∃ (v1_0:Bool),Zes a=some (Bo v1_0,[])∧(if v1_0=true then (∃ (v2_0:Bool),Zfr a1 a.Low=some (Bo v2_0,[])∧(if v2_0=true then (∃ (v3_0:Bool),Zfr a.High a1=some (Bo v3_0,[])∧(some (Bo v3_0,[])=some r)) else (some (Bo false,[])=some r))) else (some (Bo false,[])=some r)))):Zlw a a1=some r:=by
 unfold Zlw
 refine run Z9z rfl ?_
 simp only [Zes,Zfr,Box.c_def,mpl,dfs] at h
 try simp only [itb] at h
 try simp only [itf,List.getElem?_eq_some_iff,kk] at h
 rcases h with ⟨v1_0,q1,(⟨q2,v2_0,q3,(⟨q4,v3_0,q5,h⟩ | ⟨q4,h⟩)⟩ | ⟨q2,h⟩)⟩
 all_goals (refine Eq.trans ?_ h;clear h;simp +decide [*,kk,Zzi])
end Go.Proofs.YtbapkgocloaaeaaGreat
/- part: G14 -/
namespace Go.Proofs.YtbapkgocloaaeaaGreat
open Go.AM
theorem Z1t (m:Zd) (q:Zc) (limit:Box) (Percent:Int) (Percent1:Int) (x:List Zb) (x1:List Int) (x2:List Int) (location:List Int) (again:Bool) (r:AV×List Blk) (h:(if again=true then (Zby m q limit Percent Percent1 x x1 x2 location false (location.length:Int) 0=some r) else (some (.tup [.agg [.own 0,.own 1,.own 2,I Percent1],Bo true],[.arr 142 3 true (x.map Zb.c),.arr 3 1 true (x1.map ic),.arr 3 1 true (x2.map ic)])=some r))):Zej m q limit Percent Percent1 x x1 x2 location again=some r:=by
 unfold Zej
 rw [EvL_eq Zlx.eq_1]
 try simp only [itb] at h
 try simp only [itf,List.getElem?_eq_some_iff,kk] at h
 rcases h with ⟨q1,h⟩ | ⟨q1,h⟩
 all_goals (refine Eq.trans ?_ h;clear h;simp +decide [*,kk,Zby,Zly])
theorem Znx (m:Zd) (q:Zc) (limit:Box) (Percent:Int) (Percent1:Int) (x:List Zb) (x1:List Int) (x2:List Int) (location:List Int) (again:Bool) (x3:Int) (x4:Int) (r:AV×List Blk) (h:(if x4<x3 then (0≤x4∧(∃ (e1:Int),x2[x4.toNat]?=some e1∧(∃ (e2:Int),limit.High[x4.toNat]?=some e2∧(if e1<e2 then (∃ (v3_0:Bool),Zdr m q (⟨(⟨x⟩:Plan),(⟨x1,(x2.set x4.toNat (w (e1+1)))⟩:Box),Percent1⟩:Region)=some (Bo v3_0,[])∧(if v3_0=true then (Zlz m q limit Percent Percent1 x x1 (x2.set x4.toNat (w (e1+1))) location true x4 x3 x4=some r) else (Zlz m q limit Percent Percent1 x x1 ((x2.set x4.toNat (w (e1+1))).set x4.toNat (w ((w (e1+1)) - 1))) location again x4 x3 x4=some r))) else (∃ (e4:Int),x1[x4.toNat]?=some e4∧(∃ (e5:Int),limit.Low[x4.toNat]?=some e5∧(if e5<e4 then (∃ (v6_0:Bool),Zdr m q (⟨(⟨x⟩:Plan),(⟨(x1.set x4.toNat (w (e4 - 1))),x2⟩:Box),Percent1⟩:Region)=some (Bo v6_0,[])∧(if v6_0=true then (Zby m q limit Percent Percent1 x (x1.set x4.toNat (w (e4 - 1))) x2 location true x3 (w (x4+1))=some r) else (Zby m q limit Percent Percent1 x ((x1.set x4.toNat (w (e4 - 1))).set x4.toNat (w ((w (e4 - 1))+1))) x2 location again x3 (w (x4+1))=some r))) else (Zby m q limit Percent Percent1 x x1 x2 location again x3 (w (x4+1))=some r)))))))) else (Zej m q limit Percent Percent1 x x1 x2 location again=some r))):Zby m q limit Percent Percent1 x x1 x2 location again x3 x4=some r:=by
 unfold Zby
 rw [EvL_eq Zns.eq_1]
 simp only [Zdr,Box.c_def,Zd.c_def,Zh.c_def,Plan.c_def,Zc.c_def,Region.c_def,tI,mpl,dfs] at h
 try simp only [itb] at h
 try simp only [itf,List.getElem?_eq_some_iff,kk] at h
 rcases h with ⟨q1,q2,e1,⟨g3,q3⟩,e2,⟨g4,q4⟩,(⟨q5,v3_0,q6,(⟨q7,h⟩ | ⟨q7,h⟩)⟩ | ⟨q5,e4,⟨g8,q8⟩,e5,⟨g9,q9⟩,(⟨q10,v6_0,q11,(⟨q12,h⟩ | ⟨q12,h⟩)⟩ | ⟨q10,h⟩)⟩)⟩ | ⟨q1,h⟩
 all_goals (refine Eq.trans ?_ h;clear h;simp +decide [*,kk,Zlz,Zby,Znr,Zej])
theorem Z1u (m:Zd) (q:Zc) (limit:Box) (Percent:Int) (Percent1:Int) (x:List Zb) (x1:List Int) (x2:List Int) (location:List Int) (again:Bool) (i:Int) (x3:Int) (x4:Int) (r:AV×List Blk) (h:(0≤i∧(∃ (e1:Int),x1[i.toNat]?=some e1∧(∃ (e2:Int),limit.Low[i.toNat]?=some e2∧(if e2<e1 then (∃ (v3_0:Bool),Zdr m q (⟨(⟨x⟩:Plan),(⟨(x1.set i.toNat (w (e1 - 1))),x2⟩:Box),Percent1⟩:Region)=some (Bo v3_0,[])∧(if v3_0=true then (Zby m q limit Percent Percent1 x (x1.set i.toNat (w (e1 - 1))) x2 location true x3 (w (x4+1))=some r) else (Zby m q limit Percent Percent1 x ((x1.set i.toNat (w (e1 - 1))).set i.toNat (w ((w (e1 - 1))+1))) x2 location again x3 (w (x4+1))=some r))) else (Zby m q limit Percent Percent1 x x1 x2 location again x3 (w (x4+1))=some r)))))):Zlz m q limit Percent Percent1 x x1 x2 location again i x3 x4=some r:=by
 unfold Zlz
 rw [Ev_eq Znr.eq_1]
 simp only [Zdr,Box.c_def,Zd.c_def,Zh.c_def,Plan.c_def,Zc.c_def,Region.c_def,tI,mpl,dfs] at h
 try simp only [itb] at h
 try simp only [itf,List.getElem?_eq_some_iff,kk] at h
 rcases h with ⟨q1,e1,⟨g2,q2⟩,e2,⟨g3,q3⟩,(⟨q4,v3_0,q5,(⟨q6,h⟩ | ⟨q6,h⟩)⟩ | ⟨q4,h⟩)⟩
 all_goals (refine Eq.trans ?_ h;clear h;simp +decide [*,kk,Zby])
theorem Zs0 (a:Zd) (a1:Zc) (a2:Plan) (a3:Box) (a4:List Int) (a5:Int) (r:AV×List Blk) (h:(∃ (v1_0:List Zb),Zcu a2=some (.agg [.own 0],[.arr 142 3 true (v1_0.map Zb.c)])∧(∃ (v2_0:List Int),Zhk a4=some (.own 0,[.arr 3 1 true (v2_0.map ic)])∧(∃ (v3_0:Bool),Zlw a3 a4=some (Bo v3_0,[])∧(if v3_0=true then (∃ (v4_0:Bool),Zkt a a1 (⟨(⟨v1_0⟩:Plan),(⟨v2_0,v2_0⟩:Box),a5⟩:Region)=some (Bo v4_0,[])∧(if v4_0=true then (Zej a a1 a3 0 a5 v1_0 v2_0 v2_0 a4 true=some r) else (some (.tup [.agg [.t .nil,.t .nil,.t .nil,I 0],Bo false],[])=some r))) else (some (.tup [.agg [.t .nil,.t .nil,.t .nil,I 0],Bo false],[])=some r)))))):Zi7 a a1 a2 a3 a4 a5=some r:=by
 unfold Zi7
 refine run Z90 rfl ?_
 simp only [Zcu,Zhk,Zlw,Zkt,Box.c_def,Zd.c_def,Zh.c_def,Plan.c_def,Zc.c_def,Region.c_def,tI,mpl,dfs] at h
 try simp only [itb] at h
 try simp only [itf,List.getElem?_eq_some_iff,kk] at h
 rcases h with ⟨v1_0,q1,v2_0,q2,v3_0,q3,(⟨q4,v4_0,q5,(⟨q6,h⟩ | ⟨q6,h⟩)⟩ | ⟨q4,h⟩)⟩
 all_goals (refine Eq.trans ?_ h;clear h;simp +decide [*,kk,Zzj,Zej])
theorem Zbdb (a:Box) (a1:List Int) (r:AV×List Blk) (h:(∃ (v1_0:Bool),Zff a=some (Bo v1_0,[])∧(if v1_0=true then (∃ (v2_0:Bool),Zgh a1 a.Low=some (Bo v2_0,[])∧(if v2_0=true then (∃ (v3_0:Bool),Zgh a.High a1=some (Bo v3_0,[])∧(some (Bo v3_0,[])=some r)) else (some (Bo false,[])=some r))) else (some (Bo false,[])=some r)))):Zl0 a a1=some r:=by
 unfold Zl0
 refine run Z91 rfl ?_
 simp only [Zff,Zgh,Box.c_def,mpl,dfs] at h
 try simp only [itb] at h
 try simp only [itf,List.getElem?_eq_some_iff,kk] at h
 rcases h with ⟨v1_0,q1,(⟨q2,v2_0,q3,(⟨q4,v3_0,q5,h⟩ | ⟨q4,h⟩)⟩ | ⟨q2,h⟩)⟩
 all_goals (refine Eq.trans ?_ h;clear h;simp +decide [*,kk,Zzk])
theorem Z1v (m:Zd) (q:Zc) (limit:Box) (Percent:Int) (Percent1:Int) (x:List Zb) (x1:List Int) (x2:List Int) (l:List Int) (grown:Bool) (r:AV×List Blk) (h:(if grown=true then (Zbz m q limit Percent Percent1 x x1 x2 l false 0=some r) else (some (.tup [.agg [.own 0,.own 1,.own 2,I Percent1],Bo true],[.arr 142 3 true (x.map Zb.c),.arr 3 1 true (x1.map ic),.arr 3 1 true (x2.map ic)])=some r))):Zek m q limit Percent Percent1 x x1 x2 l grown=some r:=by
 unfold Zek
 rw [EvL_eq Zl1.eq_1]
 try simp only [itb] at h
 try simp only [itf,List.getElem?_eq_some_iff,kk] at h
 rcases h with ⟨q1,h⟩ | ⟨q1,h⟩
 all_goals (refine Eq.trans ?_ h;clear h;simp +decide [*,kk,Zbz,Zl2])
theorem Zny (m:Zd) (q:Zc) (limit:Box) (Percent:Int) (Percent1:Int) (x:List Zb) (x1:List Int) (x2:List Int) (l:List Int) (grown:Bool) (k:Int) (r:AV×List Blk) (h:(if k<(l.length:Int) then (0≤k∧(∃ (e1:Int),x2[k.toNat]?=some e1∧(∃ (e2:Int),limit.High[k.toNat]?=some e2∧(if e1<e2 then (∃ (v3_0:Bool),Zdz m q (⟨(⟨x⟩:Plan),(⟨x1,(x2.set k.toNat (w (e1+1)))⟩:Box),Percent1⟩:Region)=some (Bo v3_0,[])∧(if v3_0=true then (Zl3 m q limit Percent Percent1 x x1 (x2.set k.toNat (w (e1+1))) l true k=some r) else (Zl3 m q limit Percent Percent1 x x1 ((x2.set k.toNat (w (e1+1))).set k.toNat (w ((w (e1+1)) - 1))) l grown k=some r))) else (∃ (e4:Int),x1[k.toNat]?=some e4∧(∃ (e5:Int),limit.Low[k.toNat]?=some e5∧(if e5<e4 then (∃ (v6_0:Bool),Zdz m q (⟨(⟨x⟩:Plan),(⟨(x1.set k.toNat (w (e4 - 1))),x2⟩:Box),Percent1⟩:Region)=some (Bo v6_0,[])∧(if v6_0=true then (Zbz m q limit Percent Percent1 x (x1.set k.toNat (w (e4 - 1))) x2 l true (w (k+1))=some r) else (Zbz m q limit Percent Percent1 x ((x1.set k.toNat (w (e4 - 1))).set k.toNat (w ((w (e4 - 1))+1))) x2 l grown (w (k+1))=some r))) else (Zbz m q limit Percent Percent1 x x1 x2 l grown (w (k+1))=some r)))))))) else (Zek m q limit Percent Percent1 x x1 x2 l grown=some r))):Zbz m q limit Percent Percent1 x x1 x2 l grown k=some r:=by
 unfold Zbz
 rw [EvL_eq Znu.eq_1]
 simp only [Zdz,Box.c_def,Zd.c_def,Zh.c_def,Plan.c_def,Zc.c_def,Region.c_def,tI,mpl,dfs] at h
 try simp only [itb] at h
 try simp only [itf,List.getElem?_eq_some_iff,kk] at h
 rcases h with ⟨q1,q2,e1,⟨g3,q3⟩,e2,⟨g4,q4⟩,(⟨q5,v3_0,q6,(⟨q7,h⟩ | ⟨q7,h⟩)⟩ | ⟨q5,e4,⟨g8,q8⟩,e5,⟨g9,q9⟩,(⟨q10,v6_0,q11,(⟨q12,h⟩ | ⟨q12,h⟩)⟩ | ⟨q10,h⟩)⟩)⟩ | ⟨q1,h⟩
 all_goals (refine Eq.trans ?_ h;clear h;simp +decide [*,kk,Zl3,Zbz,Znt,Zek])
theorem Z1w (m:Zd) (q:Zc) (limit:Box) (Percent:Int) (Percent1:Int) (x:List Zb) (x1:List Int) (x2:List Int) (l:List Int) (grown:Bool) (k:Int) (r:AV×List Blk) (h:(0≤k∧(∃ (e1:Int),x1[k.toNat]?=some e1∧(∃ (e2:Int),limit.Low[k.toNat]?=some e2∧(if e2<e1 then (∃ (v3_0:Bool),Zdz m q (⟨(⟨x⟩:Plan),(⟨(x1.set k.toNat (w (e1 - 1))),x2⟩:Box),Percent1⟩:Region)=some (Bo v3_0,[])∧(if v3_0=true then (Zbz m q limit Percent Percent1 x (x1.set k.toNat (w (e1 - 1))) x2 l true (w (k+1))=some r) else (Zbz m q limit Percent Percent1 x ((x1.set k.toNat (w (e1 - 1))).set k.toNat (w ((w (e1 - 1))+1))) x2 l grown (w (k+1))=some r))) else (Zbz m q limit Percent Percent1 x x1 x2 l grown (w (k+1))=some r)))))):Zl3 m q limit Percent Percent1 x x1 x2 l grown k=some r:=by
 unfold Zl3
 rw [Ev_eq Znt.eq_1]
 simp only [Zdz,Box.c_def,Zd.c_def,Zh.c_def,Plan.c_def,Zc.c_def,Region.c_def,tI,mpl,dfs] at h
 try simp only [itb] at h
 try simp only [itf,List.getElem?_eq_some_iff,kk] at h
 rcases h with ⟨q1,e1,⟨g2,q2⟩,e2,⟨g3,q3⟩,(⟨q4,v3_0,q5,(⟨q6,h⟩ | ⟨q6,h⟩)⟩ | ⟨q4,h⟩)⟩
 all_goals (refine Eq.trans ?_ h;clear h;simp +decide [*,kk,Zbz])
theorem Zs1 (a:Zd) (a1:Zc) (a2:Plan) (a3:Box) (a4:List Int) (a5:Int) (r:AV×List Blk) (h:(a2.Steps.length≤68719476736∧(a4.length≤68719476736∧(∃ (v1_0:Bool),Zl0 a3 a4=some (Bo v1_0,[])∧(if v1_0=true then (∃ (v2_0:Bool),Zlu a a1 (⟨a2,(⟨a4,a4⟩:Box),a5⟩:Region)=some (Bo v2_0,[])∧(if v2_0=true then (Zek a a1 a3 0 a5 a2.Steps a4 a4 a4 true=some r) else (some (.tup [.agg [.t .nil,.t .nil,.t .nil,I 0],Bo false],[])=some r))) else (some (.tup [.agg [.t .nil,.t .nil,.t .nil,I 0],Bo false],[])=some r)))))):Zi8 a a1 a2 a3 a4 a5=some r:=by
 unfold Zi8
 refine run Z92 rfl ?_
 simp only [Zl0,Zlu,Box.c_def,Zd.c_def,Zh.c_def,Plan.c_def,Zc.c_def,Region.c_def,tI,mpl,dfs] at h
 try simp only [itb] at h
 try simp only [itf,List.getElem?_eq_some_iff,kk] at h
 rcases h with ⟨q1,q2,v1_0,q3,(⟨q4,v2_0,q5,(⟨q6,h⟩ | ⟨q6,h⟩)⟩ | ⟨q4,h⟩)⟩
 all_goals (refine Eq.trans ?_ h;clear h;simp +decide [*,kk,Zzl,Zek])
end Go.Proofs.YtbapkgocloaaeaaGreat
/- part: G15 -/
namespace Go.Proofs.YtbapkgocloaaeaaGreat
open Go.AM
end Go.Proofs.YtbapkgocloaaeaaGreat
/- part: V1 -/
namespace Go.Proofs.YtbapkgocloaaeaaGreat
open Go.AM
@[simp] theorem Zdd (a b c:Int):Zw a b c=some (Bo (inR a b c),[]):=by
 refine Z93 _ _ _ _ ?_
 by_cases h:b≤a <;> simp [inR,h]
@[simp] theorem Zgu (a b c:Int):Z0 a b c=some (Bo (inR a b c),[]):=by
 refine Zbbo _ _ _ _ ?_
 by_cases h:b≤a <;> simp [inR,h]
theorem lIndexI (xs:List Int) (v:Int) (hx:Le xs):∀ i,i≤xs.length →
  Zhb xs v xs.length i=some (I (Zcr (fun x=>decide (v=x)) (xs.drop i) i),[]):=by
 refine down _ ?_ ?_
 ·refine Zzn _ _ _ _ _ ?_
  simp [Zcr]
 ·intro i hi ih
  refine Zzn _ _ _ _ _ ?_
  have h4:=inc64 (i:=i) (by omega)
  rw [Zuw _ hi]
  simp at ih
  by_cases e:v=xs[i] <;> simp [hi,h4,e,ih]
@[simp] theorem xIndexI (xs:List Int) (v:Int) (hx:Le xs):Zj3 xs v=some (I (Zcr (fun x=>decide (v=x)) xs 0),[]):=by
 refine Z95 _ _ _ ?_
 have:=lIndexI xs v hx 0 (Nat.zero_le _)
 simpa using this
@[simp] theorem Zl5 (xs:List Int) (v:Int) (hx:Le xs):Zc8 xs v=some (Bo (has xs v),[]):=by
 refine Z96 _ _ _ ?_
 unfold has
 rcases tf (xs.any (fun x=>decide (v=x))) with e | e
 ·simp [hx,Zux _ _ _ e,e]
 ·have:=Zuy _ _ 0 e
  simp [hx,this,e]
theorem lIndexB (xs:List Bool) (v:Bool) (hx:Le xs):∀ i,i≤xs.length →
  Zhc xs v xs.length i=some (I (Zcr (fun x=>v == x) (xs.drop i) i),[]):=by
 refine down _ ?_ ?_
 ·refine Zzo _ _ _ _ _ ?_
  simp [Zcr]
 ·intro i hi ih
  refine Zzo _ _ _ _ _ ?_
  have h4:=inc64 (i:=i) (by omega)
  rw [Zuw _ hi]
  simp at ih
  by_cases e:v=xs[i] <;> simp [hi,h4,e,ih]
@[simp] theorem Zbdc (xs:List Bool) (v:Bool) (hx:Le xs):Zj5 xs v=some (Bo (xs.any (fun x=>v == x)),[]):=by
 refine Z98 _ _ _ ?_
 have q:Zj4 xs v=some (I (Zcr (fun x=>v == x) xs 0),[]):=by
  refine Z97 _ _ _ ?_
  have:=lIndexB xs v hx 0 (Nat.zero_le _)
  simpa using this
 rcases tf (xs.any (fun x=>v == x)) with e | e
 ·rw [Zux _ _ _ e] at q
  rw [e];simp [q]
 ·have:=Zuy _ _ 0 e
  rw [e];simp [q,this]
theorem l_l7Has (xs:List Int) (v:Int) (hx:Le xs):∀ i,i≤xs.length→Zhy xs v i=some (Bo (has (xs.drop i) v),[]):=by
 unfold has
 refine down _ ?_ ?_
 ·refine Z02 _ _ _ _ ?_
  simp
 ·intro i hi ih
  refine Z02 _ _ _ _ ?_
  have h4:=inc64 (i:=i) (by omega)
  rw [drop_any _ hi]
  simp at ih
  by_cases e:v=xs[i]
  ·simp [hi,h4,← e]
  ·have e':¬ xs[i]=v:=fun hc=>e hc.symm
   simp [hi,h4,e,e',ih]
@[simp] theorem Z1x (xs:List Int) (v:Int) (hx:Le xs):Zhx xs v=some (Bo (has xs v),[]):=by
 refine Zbb0 _ _ _ ?_
 have:=l_l7Has xs v hx 0 (Nat.zero_le _)
 simpa using this
theorem nm_aux (s:ByteArray) (P:Prop):(if (s.size:Int)=1 then (∃ (b1:UInt8),s[0]?=some b1∧(if 97≤(b1.toNat:Int) then (some (Bo (decide ((b1.toNat:Int)≤122)),[])=some (Bo (nmOk s),([]:List Blk))) else (some (Bo false,[])=some (Bo (nmOk s),([]:List Blk))))) else (some (Bo false,[])=some (Bo (nmOk s),([]:List Blk)))):=by
 by_cases h:s.size=1
 ·obtain ⟨b,hb⟩:=get0 h
  rw [if_pos (by omega)]
  refine ⟨b,hb,?_⟩
  have e:nmOk s=(decide (97≤(b.toNat:Int)) && decide ((b.toNat:Int)≤122)):=by
   unfold nmOk;rw [hb];simp only [h,decide_true,Bool.true_and]
  by_cases h1:(97:Int)≤(b.toNat:Int)
  ·rw [if_pos h1,e,decide_eq_true h1,Bool.true_and]
  ·rw [if_neg h1,e,decide_eq_false h1,Bool.false_and]
 ·have h':¬ (s.size:Int)=1:=by omega
  have:nmOk s=false:=by unfold nmOk;split <;> simp [h]
  simp [h',this]
@[simp] theorem x_nameOk (s:ByteArray):Zj2 s=some (Bo (nmOk s),[]):=Z94 _ _ (nm_aux s True)
@[simp] theorem x_l4Name (s:ByteArray):Zk1 s=some (Bo (nmOk s),[]):=Zbbz _ _ (nm_aux s True)
def LeQ (q:Zc):Prop:=Le q.Atoms∧∀ a∈q.Atoms,Le a.Vars
def blB (p:Nat→Bool) (n:Nat):List Bool:=(List.range n).map p
theorem blB_set (p:Nat→Bool) (n:Nat) {v:Int} (h:inR v 0 ((n:Int) - 1)=true):(blB p n).set v.toNat true=blB (addV p [v]) n:=by
 simp [inR] at h
 apply List.ext_getElem
 ·simp [blB]
 ·intro i h1 h2
  simp only [blB,List.length_set,List.length_map,List.length_range] at h1
  rw [List.getElem_set]
  simp only [blB,List.getElem_map,List.getElem_range]
  by_cases e:v.toNat=i
  ·have:(i:Int)=v:=by omega
   simp [e,addV,has,this]
  ·have:¬ (i:Int)=v:=by omega
   simp [e,addV,has,this]
theorem Zbdd (q:Zc) (n:Nat) (hn:n≤4) (hq:q.Ze=n) (a:Atom) (qa:List Atom) (l j:Int) (hv:Le a.Vars) (r:AV×List Blk):∀ k,k≤a.Vars.length→∀ p,
  (if Zc1 n (a.Vars.take k) (a.Vars.drop k)=true then Zfp q (blB (addV p (a.Vars.drop k)) n) qa l (w (j+1))=some r else some (Bo false,[])=some r) →
  Zhd q (blB p n) a qa l j a.Vars a.Vars.length k=some r:=by
 refine down _ ?_ ?_
 ·intro p h
  refine Zzq _ _ _ _ _ _ _ _ _ _ ?_
  simpa [Zc1,Zo5] using h
 ·intro k hk ih p h
  have h4:=inc64 (i:=k) (by omega)
  have hw:w (q.Ze - 1)=(n:Int) - 1:=by rw [hq];exact wrap64 (by omega) (by omega)
  have hl:=Zl5 (a.Vars.take k) a.Vars[k] (by simp;omega)
  refine Zzq _ _ _ _ _ _ _ _ _ _ ?_
  rw [Zuz _ hk] at h
  rcases tf (inR a.Vars[k] 0 ((n:Int) - 1)) with e1 | e1
  ·simp [e1] at h
   simp [hk,h4,hw,e1,← h]
  ·rcases tf (has (a.Vars.take k) a.Vars[k]) with e2 | e2
   ·rw [Zo6 p hk] at h
    simp only [e1,e2,Bool.true_and,Bool.not_false] at h
    have ih:=ih _ h
    have e0:=e1
    simp [inR] at e0
    have e5:(a.Vars[k]).toNat<(blB p n).length:=by simp [blB];omega
    have e6:=blB_set p n e1
    have e7:k≤a.Vars.length:=by omega
    simp at ih
    simp [hk,h4,hw,e1,e2,hl,e0,e5,e6,e7,ih]
   ·simp [e1,e2] at h
    have e7:k≤a.Vars.length:=by omega
    simp [hk,h4,hw,e1,e2,hl,e7,← h]
theorem Zbde (q:Zc) (n:Nat) (hn:n≤4) (hq:q.Ze=n) (qa:List Atom) (hl:Le qa) (hv:∀ a∈qa,Le a.Vars):∀ k,k≤qa.length→∀ p,
  Zfp q (blB p n) qa qa.length k=some (Bo ((qa.drop k).all (Zbu n) && (List.range n).all (addA p (qa.drop k))),[]):=by
 refine down _ ?_ ?_
 ·intro p
  refine Zzp _ _ _ _ _ _ ?_
  have e:addA p []=p:=by funext u;simp [addA]
  have q1:=Zbdc (blB p n) false (by simp [blB];omega)
  have q2:(blB p n).any (fun x=>false == x)=!(List.range n).all p:=bl_any p n
  rw [q2] at q1
  simp [q1,e]
 ·intro k hk ih p
  refine Zzp _ _ _ _ _ _ ?_
  have h4:=inc64 (i:=k) (by omega)
  rw [Zjx _ hk]
  rcases tf (nmOk qa[k].Name) with e1 | e1
  ·simp [hk,e1,Zbu]
  rcases tf (inR qa[k].Vars.length 1 3) with e2 | e2
  ·simp [hk,e1,e2,Zbu]
  have b:=Zbdd q n hn hq qa[k] qa qa.length k (hv _ (List.getElem_mem hk)) (Bo (Zbu n qa[k] && (qa.drop (k+1)).all (Zbu n) && (List.range n).all (addA p (qa.drop k))),[]) 0 (Nat.zero_le _) p ?_
  ·simp at b
   simp [hk,e1,e2,b]
  ·simp only [List.take_zero,List.drop_zero,Zbu,e1,e2,Bool.true_and]
   rcases tf (Zc1 n [] qa[k].Vars) with e3 | e3
   ·simp [e3]
   ·have ih:=ih (addV p qa[k].Vars)
    simp only [e3,if_true,Bool.true_and,Zu0 p hk]
    simp at ih
    rw [show w ((k:Int)+1)=(k:Int)+1 from h4,ih]
@[simp] theorem Zl6 (q:Zc) (h:LeQ q):Zc2 q=some (Bo (Zm q.Ze q.Atoms),[]):=by
 refine Z99 _ _ ?_
 unfold Zm
 rcases tf (inR q.Ze 1 4) with e1 | e1
 ·simp [e1]
 rcases tf (inR q.Atoms.length 1 4) with e2 | e2
 ·simp [e1,e2]
 have e0:=e1
 simp [inR] at e0
 have hn:q.Ze=(q.Ze.toNat:Int):=by omega
 have b:=Zbde q q.Ze.toNat (by omega) hn q.Atoms h.1 h.2 0 (Nat.zero_le _) (fun _=>false)
 have r1:q.Ze.toNat≤room:=room2 (by omega)
 have r2:q.Ze≤room:=by
  have:(q.Ze.toNat:Int)≤room:=by exact_mod_cast r1
  omega
 have r3:q.Ze≤140737488355328:=by omega
 have ez:blB (fun _=>false) q.Ze.toNat=List.replicate q.Ze.toNat false:=by
  apply List.ext_getElem <;> simp [blB]
 rw [ez,← hn] at b
 simp at b
 simp [e1,e2,e0,r1,r2,r3,b]
 omega
theorem Zbdf (q:Zc) (n:Nat) (hn1:1≤n) (hn:n≤4) (hq:q.Ze=n) (a:Atom) (j:Int) (hv:Le a.Vars) (r:AV×List Blk):∀ k,k≤a.Vars.length→∀ p,
  (if Zc1 n (a.Vars.take k) (a.Vars.drop k)=true then Zge q (Zx (addV p (a.Vars.drop k))) (w (j+1))=some r else some (Bo false,[])=some r) →
  Zhz q a (Zx p) j k=some r:=by
 refine down _ ?_ ?_
 ·intro p h
  refine Z04 _ _ _ _ _ _ ?_
  simpa [Zc1,Zo5] using h
 ·intro k hk ih p h
  have h4:=inc64 (i:=k) (by omega)
  have hw:w (q.Ze - 1)=(n:Int) - 1:=by rw [hq];exact wrap64 (by omega) (by omega)
  have hl:=Z1x (a.Vars.take k) a.Vars[k] (by simp;omega)
  have e7:k≤a.Vars.length:=by omega
  refine Z04 _ _ _ _ _ _ ?_
  rw [Zuz _ hk] at h
  rcases tf (inR a.Vars[k] 0 ((n:Int) - 1)) with e1 | e1
  ·simp [e1] at h
   simp [hk,h4,hw,e1,← h]
  ·rcases tf (has (a.Vars.take k) a.Vars[k]) with e2 | e2
   ·rw [Zo6 p hk] at h
    simp only [e1,e2,Bool.true_and,Bool.not_false] at h
    have ih:=ih _ h
    have e0:=e1
    simp [inR] at e0
    have e6:=Zmy p (v:=a.Vars[k]) (by simp [inR];omega)
    have e8:¬ a.Vars[k]<0:=by omega
    simp at ih
    simp [hk,h4,hw,e1,e2,hl,e0,e6,e7,e8,ih]
   ·simp [e1,e2] at h
    simp [hk,h4,hw,e1,e2,hl,e7,← h]
end Go.Proofs.YtbapkgocloaaeaaGreat
/- part: V2 -/
namespace Go.Proofs.YtbapkgocloaaeaaGreat
open Go.AM
def Zl7 (n:Int) (p:Nat→Bool):Bool:=decide (Zx p=w (shlI 1 n - 1))
theorem Zbdg (q:Zc) (n:Nat) (hn1:1≤n) (hn:n≤4) (hq:q.Ze=n) (hl:Le q.Atoms) (hv:∀ a∈q.Atoms,Le a.Vars):∀ k,k≤q.Atoms.length→∀ p,
  Zge q (Zx p) k=some (Bo ((q.Atoms.drop k).all (Zbu n) && Zl7 n (addA p (q.Atoms.drop k))),[]):=by
 refine down _ ?_ ?_
 ·intro p
  refine Z03 _ _ _ _ ?_
  have e:addA p []=p:=by funext u;simp [addA]
  have h0:¬ (n:Int)<0:=by omega
  simp [e,hq,h0,Zl7]
 ·intro k hk ih p
  refine Z03 _ _ _ _ ?_
  have h4:=inc64 (i:=k) (by omega)
  rw [Zjx _ hk]
  rcases tf (nmOk q.Atoms[k].Name) with e1 | e1
  ·simp [hk,e1,Zbu]
  rcases tf (inR q.Atoms[k].Vars.length 1 3) with e2 | e2
  ·simp [hk,e1,e2,Zbu]
  have b:=Zbdf q n hn1 hn hq q.Atoms[k] k (hv _ (List.getElem_mem hk)) (Bo (Zbu n q.Atoms[k] && (q.Atoms.drop (k+1)).all (Zbu n) && Zl7 n (addA p (q.Atoms.drop k))),[]) 0 (Nat.zero_le _) p ?_
  ·simp at b
   simp [hk,e1,e2,b]
  ·simp only [List.take_zero,List.drop_zero,Zbu,e1,e2,Bool.true_and]
   rcases tf (Zc1 n [] q.Atoms[k].Vars) with e3 | e3
   ·simp [e3]
   ·have ih:=ih (addV p q.Atoms[k].Vars)
    simp only [e3,if_true,Bool.true_and,Zu0 p hk]
    simp at ih
    rw [show w ((k:Int)+1)=(k:Int)+1 from h4,ih]
@[simp] theorem Znz (q:Zc) (h:LeQ q):Zdu q=some (Bo (Zm q.Ze q.Atoms),[]):=by
 refine Zbb1 _ _ ?_
 unfold Zm
 rcases tf (inR q.Ze 1 4) with e1 | e1
 ·simp [e1]
 rcases tf (inR q.Atoms.length 1 4) with e2 | e2
 ·simp [e1,e2]
 have e0:=e1
 simp [inR] at e0
 obtain ⟨k,hk⟩:∃ k:Nat,q.Ze=k:=⟨q.Ze.toNat,by omega⟩
 have b:=Zbdg q k (by omega) (by omega) hk h.1 h.2 0 (Nat.zero_le _) (fun _=>false)
 have ez:Zx (fun _=>false)=0:=rfl
 rw [ez] at b
 simp only [List.drop_zero,Int.ofNat_zero] at b
 have e3:(q.Atoms.all (Zbu k) && Zl7 k (addA (fun _=>false) q.Atoms))=(q.Atoms.all (Zbu k) && (List.range k).all (addA (fun _=>false) q.Atoms)):=by
  rcases tf (q.Atoms.all (Zbu k)) with e3 | e3
  ·simp [e3]
  ·have hk':k=1∨k=2∨k=3∨k=4:=by omega
   have hz:=all_in e3
   have hz':∀ u:Nat,k≤u→addA (fun _=>false) q.Atoms u=false:=fun u hu=>by simp only [addA,Bool.false_or];exact hz u (by omega)
   rw [e3,Bool.true_and,Bool.true_and,Bool.eq_iff_iff,Zl7,decide_eq_true_eq,Zx]
   rcases hk' with rfl | rfl | rfl | rfl
   ·simp [shlI,wrap64,Zmz,hz' 1 (by omega),hz' 2 (by omega),hz' 3 (by omega),List.range_succ]
   ·simp [shlI,wrap64,Zmz,hz' 2 (by omega),hz' 3 (by omega),List.range_succ]
   ·simp [shlI,wrap64,Zmz,hz' 3 (by omega),List.range_succ,and_assoc]
   ·simp [shlI,wrap64,Zmz,List.range_succ,and_assoc]
 rw [e3] at b
 rw [hk] at e1
 simp only [Zgu,Option.some.injEq,Prod.mk.injEq,AV.t.injEq,T.bool.injEq,and_true,exists_eq_left',e1,e2,if_true,b,hk,Int.toNat_natCast]
 simp
@[simp] theorem Zgv (q:Zc) (h:LeQ q):Zb5 q=some (I (Zs q.Ze q.Atoms),[]):=by
 refine Zbad _ _ ?_
 have q1:=Zl6 q h
 unfold Zs
 rcases tf (Zm q.Ze q.Atoms) with e | e
 ·simp [q1,e]
 ·have:=(Zg4 e).2.2.1
  have h0:¬ ((q.Atoms.length:Int)<0):=by omega
  simp [q1,e,this,h0]
@[simp] theorem Zl8 (q:Zc) (h:LeQ q):Zc3 q=some (I (Zs q.Ze q.Atoms),[]):=by
 refine Zbb2 _ _ ?_
 have q1:=Znz q h
 unfold Zs
 rcases tf (Zm q.Ze q.Atoms) with e | e
 ·simp [q1,e]
 ·have:=(Zg4 e).2.2.1
  have h0:¬ ((q.Atoms.length:Int)<0):=by omega
  simp [q1,e,this,h0]
theorem Zbdh (xs:List Int) (hx:Le xs):∀ i,i≤xs.length→Zh3 xs i=some (Bo (Zbl (xs.drop i) && decide ((xs.length:Int)≤16)),[]):=by
 refine down _ ?_ ?_
 ·refine Z08 _ _ _ ?_
  simp [Zbl]
 ·intro i hi ih
  refine Z08 _ _ _ ?_
  have h4:=inc64 (i:=i) (by omega)
  rw [Zut hi]
  simp at ih
  rcases tf (inR xs[i] 0 7) with h | h <;> simp [hi,h4,h,ih]
@[simp] theorem Zn0 (xs:List Int) (hx:Le xs):Zgg xs=some (Bo (Z5 xs),[]):=by
 refine Zbb8 _ _ ?_
 have:=Zbdh xs hx 0 (Nat.zero_le _)
 simpa [Z5] using this
theorem Zbdi (xs:List Int) (hx:Le xs):∀ i,i≤xs.length→Zhe xs xs xs.length i=some (Bo (Zbl (xs.drop i) && decide ((xs.length:Int)≤16)),[]):=by
 refine down _ ?_ ?_
 ·refine Zzr _ _ _ _ _ ?_
  simp [Zbl]
 ·intro i hi ih
  refine Zzr _ _ _ _ _ ?_
  have h4:=inc64 (i:=i) (by omega)
  rw [Zut hi]
  simp at ih
  rcases tf (inR xs[i] 0 7) with h | h <;> simp [hi,h4,h,ih]
@[simp] theorem Zn1 (xs:List Int) (hx:Le xs):Zfq xs=some (Bo (Z5 xs),[]):=by
 refine Zbaa _ _ ?_
 have:=Zbdi xs hx 0 (Nat.zero_le _)
 simpa [Z5] using this
theorem Zbdj (xs ys:List Int) (hx:Le xs) (hl:ys.length=xs.length):∀ i,i≤xs.length→Zh4 xs ys i=some (Bo (Zy (xs.drop i) (ys.drop i)),[]):=by
 refine down _ ?_ ?_
 ·refine Z09 _ _ _ _ ?_
  simp [Zy]
 ·intro i hi ih
  refine Z09 _ _ _ _ ?_
  have hi2:i<ys.length:=by omega
  have h4:=inc64 (i:=i) (by omega)
  rw [Zuu hi hi2]
  simp at ih
  by_cases h:xs[i]<ys[i]
  ·simp [hi,hi2,h4,h,show ¬ ys[i]≤xs[i] by omega]
  ·simp [hi,hi2,h4,h,show ys[i]≤xs[i] by omega,ih]
@[simp] theorem Zs2 (xs ys:List Int) (hx:Le xs):Zgh xs ys=some (Bo (dom xs ys),[]):=by
 refine Zbb9 _ _ _ ?_
 by_cases hl:ys.length=xs.length
 ·have:=Zbdj xs ys hx hl 0 (Nat.zero_le _)
  simp at this
  simp [hl,this,dom]
 ·have h2:¬ ((xs.length:Int)=ys.length):=by omega
  have h1:¬ (xs.length=ys.length):=by omega
  simp [h1,h2,dom]
theorem Zbdk (xs ys:List Int) (hx:Le xs) (hl:ys.length=xs.length):∀ i,i≤xs.length→Zhf xs ys xs.length i=some (Bo (Zy (xs.drop i) (ys.drop i)),[]):=by
 refine down _ ?_ ?_
 ·refine Zzs _ _ _ _ _ ?_
  simp [Zy]
 ·intro i hi ih
  refine Zzs _ _ _ _ _ ?_
  have hi2:i<ys.length:=by omega
  have h4:=inc64 (i:=i) (by omega)
  rw [Zuu hi hi2]
  simp at ih
  by_cases h:xs[i]<ys[i]
  ·simp [hi,hi2,h4,h,show ¬ ys[i]≤xs[i] by omega]
  ·simp [hi,hi2,h4,h,show ys[i]≤xs[i] by omega,ih]
@[simp] theorem Zs3 (xs ys:List Int) (hx:Le xs):Zfr xs ys=some (Bo (dom xs ys),[]):=by
 refine Zbab _ _ _ ?_
 by_cases hl:ys.length=xs.length
 ·have:=Zbdk xs ys hx hl 0 (Nat.zero_le _)
  simp at this
  simp [hl,this,dom]
 ·have h2:¬ ((xs.length:Int)=ys.length):=by omega
  have h1:¬ (xs.length=ys.length):=by omega
  simp [h1,h2,dom]
def LeX (b:Box):Prop:=Le b.Low∧Le b.High
@[simp] theorem Zs4 (b:Box) (h:LeX b):Zes b=some (Bo (Z9 b.Low b.High),[]):=by
 refine Zbac _ _ ?_
 have q1:=Zn1 b.Low h.1
 have q2:=Zn1 b.High h.2
 have q3:=Zs3 b.High b.Low h.2
 unfold Z9
 rcases tf (Z5 b.Low) with e1 | e1 <;> rcases tf (Z5 b.High) with e2 | e2 <;> by_cases e3:0<b.Low.length <;> simp [q1,q2,q3,e1,e2,e3]
@[simp] theorem Zs5 (b:Box) (h:LeX b):Zff b=some (Bo (Z9 b.Low b.High),[]):=by
 refine Zbca _ _ ?_
 have q1:=Zn0 b.Low h.1
 have q2:=Zn0 b.High h.2
 have q3:=Zs2 b.High b.Low h.2
 unfold Z9
 rcases tf (Z5 b.Low) with e1 | e1 <;> rcases tf (Z5 b.High) with e2 | e2 <;> by_cases e3:0<b.Low.length <;> simp [q1,q2,q3,e1,e2,e3]
theorem l_volume (b:Box) (hv:Z9 b.Low b.High=true):∀ i,i≤b.Low.length→∀ n:Int,1≤n→n≤8 ^ i →
  Zig b n b.Low.length i=some (I (n*vol (b.Low.drop i) (b.High.drop i)),[]):=by
 obtain ⟨b1,b2,b3,b4⟩:=Zu8 hv
 refine down _ ?_ ?_
 ·intro n _ _
  refine Z1r _ _ _ _ _ ?_
  rw [List.drop_length,← b1,List.drop_length,Zu5]
  simp
 ·intro i hi0 ih n hn1 hn2
  refine Z1r _ _ _ _ _ ?_
  have h5:=inc64 (i:=i) (by omega)
  have hi2:i<b.High.length:=by omega
  obtain ⟨g1,g2,g3⟩:=b4 i hi0 hi2
  have p1:=pow8 (i:=i+1) (by omega)
  have p2:(8:Int) ^ (i+1)=8 ^ i*8:=Int.pow_succ 8 i
  have hd:(b.High[i] - b.Low[i]+1)≤8:=by omega
  have hd1:1≤(b.High[i] - b.Low[i]+1):=by omega
  have m1:n*(b.High[i] - b.Low[i]+1)≤8 ^ i*8:=Int.mul_le_mul hn2 hd (by omega) (by omega)
  have m2:1≤n*(b.High[i] - b.Low[i]+1):=by
   have:=Int.mul_le_mul hn1 hd1 (by omega) (by omega)
   omega
  have w1:IntKind.wrap .i64 (b.High[i] - b.Low[i])=b.High[i] - b.Low[i]:=wrap64 (by omega) (by omega)
  have w2:IntKind.wrap .i64 (b.High[i] - b.Low[i]+1)=b.High[i] - b.Low[i]+1:=wrap64 (by omega) (by omega)
  have w3:IntKind.wrap .i64 (n*(b.High[i] - b.Low[i]+1))=n*(b.High[i] - b.Low[i]+1):=wrap64 (by omega) (by omega)
  have ih:=ih (n*(b.High[i] - b.Low[i]+1)) m2 (by omega)
  rw [Zu6 hi0 hi2,← Int.mul_assoc]
  simp at ih
  simp [hi0,hi2,h5,w1,w2,w3,ih]
@[simp] theorem Zbjc (b:Box) (h:LeX b):Zsm b=some (I (Zis b.Low b.High),[]):=by
 refine Zbc8 _ _ ?_
 have q1:=Zs4 b h
 unfold Zis
 rcases tf (Z9 b.Low b.High) with e | e
 ·simp [q1,e]
 ·have q2:=l_volume b e 0 (Nat.zero_le _) 1 (by omega) (by decide)
  have q3:Zlv b=some (I (vol b.Low b.High),[]):=Zbc7 _ _ (by simpa using q2)
  simp [q1,q3,e,capV]
theorem Zbdl (b:Box) (hv:Z9 b.Low b.High=true):∀ i,i≤b.Low.length→∀ n:Int,1≤n →
  Zih b (capV n) i=some (I (capV (n*vol (b.Low.drop i) (b.High.drop i))),[]):=by
 obtain ⟨b1,b2,b3,b4⟩:=Zu8 hv
 refine down _ ?_ ?_
 ·intro n _
  refine Z1s _ _ _ _ ?_
  rw [List.drop_length,← b1,List.drop_length,Zu5]
  simp [b1]
 ·intro i hi0 ih n hn1
  refine Z1s _ _ _ _ ?_
  have h5:=inc64 (i:=i) (by omega)
  have hi2:i<b.High.length:=by omega
  obtain ⟨g1,g2,g3⟩:=b4 i hi0 hi2
  have hd:(b.High[i] - b.Low[i]+1)≤8:=by omega
  have hd1:1≤(b.High[i] - b.Low[i]+1):=by omega
  obtain ⟨c1,c2⟩:=cap_le hn1
  have m1:capV n*(b.High[i] - b.Low[i]+1)≤401*8:=Int.mul_le_mul c2 hd (by omega) (by omega)
  have m2:1*1≤capV n*(b.High[i] - b.Low[i]+1):=Int.mul_le_mul c1 hd1 (by omega) (by omega)
  have m3:1*1≤n*(b.High[i] - b.Low[i]+1):=Int.mul_le_mul hn1 hd1 (by omega) (by omega)
  have w1:IntKind.wrap .i64 (b.High[i] - b.Low[i])=b.High[i] - b.Low[i]:=wrap64 (by omega) (by omega)
  have w2:IntKind.wrap .i64 (b.High[i] - b.Low[i]+1)=b.High[i] - b.Low[i]+1:=wrap64 (by omega) (by omega)
  have w3:IntKind.wrap .i64 (capV n*(b.High[i] - b.Low[i]+1))=capV n*(b.High[i] - b.Low[i]+1):=wrap64 (by omega) (by omega)
  have ih:=ih (n*(b.High[i] - b.Low[i]+1)) (by omega)
  rw [← cap_mul hn1 hd1] at ih
  rw [Zu6 hi0 hi2,← Int.mul_assoc]
  simp at ih
  simp [hi0,hi2,h5,w1,w2,w3,cap_flip,ih]
@[simp] theorem Zbjd (b:Box) (h:LeX b):Zsp b=some (I (Zis b.Low b.High),[]):=by
 refine Zbc9 _ _ ?_
 have q1:=Zs5 b h
 unfold Zis
 rcases tf (Z9 b.Low b.High) with e | e
 ·simp [q1,e]
 ·have q2:=Zbdl b e 0 (Nat.zero_le _) 1 (by omega)
  have e1:capV 1=1:=by decide
  rw [e1] at q2
  simp at q2
  simp [q1,e,q2]
end Go.Proofs.YtbapkgocloaaeaaGreat
/- part: V3 -/
namespace Go.Proofs.YtbapkgocloaaeaaGreat
open Go.AM
theorem l_vars0 (q:Zc) (m:Int) (hl:Le q.Atoms) (hv:∀ a∈q.Atoms,Le a.Vars) (v:Nat) (hv4:v<8) (out:List Int) (ho:out.length≤8) (r:AV×List Blk):∀ i,i≤q.Atoms.length →
  Zet q (out++if hasV m (q.Atoms.drop i) i v=true then [(v:Int)] else []) m (w ((v:Int)+1))=some r →
  Zfs q out m v q.Atoms q.Atoms.length i=some r:=by
 refine down _ ?_ ?_
 ·intro h
  refine Zzu _ _ _ _ _ _ _ _ ?_
  simpa [hasV] using h
 ·intro i hi ih h
  refine Zzu _ _ _ _ _ _ _ _ ?_
  have h4:=inc64 (i:=i) (by omega)
  have c1:=Zl5 q.Atoms[i].Vars v (hv _ (List.getElem_mem hi))
  have h0:¬ (i:Int)<0:=by omega
  rw [Zo8 _ hi] at h
  by_cases e1:andI (shrI m i) 1=1
  ·have e2:Zq m i=true:=by simp [Zq,e1]
   rcases tf (has q.Atoms[i].Vars v) with e3 | e3
   ·simp [e2,e3] at h
    have ih:=ih (by simpa using h)
    simp at ih
    simp [hi,h4,h0,e1,c1,e3,ih]
   ·simp [e2,e3] at h
    have e4:out.length+1≤68719476736:=by omega
    simp [hi,h4,h0,e1,c1,e3,e4,h]
  ·have e2:Zq m i=false:=by simp [Zq,e1]
   simp [e2] at h
   have ih:=ih (by simpa using h)
   simp at ih
   simp [hi,h4,h0,e1,ih]
theorem l_vars1 (q:Zc) (m:Int) (hl:Le q.Atoms) (hv:∀ a∈q.Atoms,Le a.Vars) (n:Nat) (hq:q.Ze=n) (hn:n≤4):∀ k,k≤n →
  Zet q (varL m q.Atoms k) m k=some (.own 0,[.arr Zt 1 true ((varL m q.Atoms n).map ic)]):=by
 refine down _ ?_ ?_
 ·refine Zzt _ _ _ _ _ ?_
  simp [hq]
 ·intro k hk ih
  refine Zzt _ _ _ _ _ ?_
  have h4:=inc64 (i:=k) (by omega)
  have b:=l_vars0 q m hl hv k (by omega) (varL m q.Atoms k) (by have:=Zir m q.Atoms k;omega) _ 0 (Nat.zero_le _) (by
   rw [List.drop_zero,← Z5n,show w ((k:Int)+1)=(k:Int)+1 from h4];simpa using ih)
  simp at b
  simp [hq,hk,b]
@[simp] theorem Zl9 (q:Zc) (m:Int) (h:LeQ q) (hv:Zm q.Ze q.Atoms=true):Zdm q m=some (.own 0,[.arr Zt 1 true ((varL m q.Atoms q.Ze.toNat).map ic)]):=by
 refine Zbaf _ _ _ ?_
 have hn:=Zc7 hv
 have b:=l_vars1 q m h.1 h.2 q.Ze.toNat (by omega) (by omega) 0 (Nat.zero_le _)
 simpa [varL] using b
theorem l_both (b xs:List Int) (hb:Le b) (hx:xs.length≤1000000):∀ i,i≤xs.length →
  Zft ((xs.take i).filter (has b)) b xs xs.length i=some (.own 0,[.arr Zt 1 true ((xs.filter (has b)).map ic)]):=by
 refine down _ ?_ ?_
 ·refine Zzv _ _ _ _ _ _ ?_
  simp
 ·intro i hi ih
  refine Zzv _ _ _ _ _ _ ?_
  have h4:=inc64 (i:=i) (by omega)
  have c1:=Zl5 b xs[i] hb
  have e4:((xs.take i).filter (has b)).length+1≤68719476736:=by
   have:=List.length_filter_le (has b) (xs.take i)
   simp at this
   omega
  rw [Zo9 _ hi] at ih
  rcases tf (has b xs[i]) with e | e
  ·simp [e] at ih
   simp [hi,h4,c1,e,ih]
  ·simp [e] at ih
   simp [hi,h4,c1,e,e4,ih]
@[simp] theorem x_both (xs b:List Int) (hb:Le b) (hx:xs.length≤1000000):Zeu xs b=some (.own 0,[.arr Zt 1 true ((xs.filter (has b)).map ic)]):=by
 refine Zbag _ _ _ ?_
 have:=l_both b xs hb hx 0 (Nat.zero_le _)
 simpa using this
theorem l_bits0 (q:Zc) (m:Int) (hv:∀ a∈q.Atoms,Le a.Vars) (h4v:Var4 q.Atoms) (i:Nat) (hi:i<q.Atoms.length) (hm:Zq m i=true) (r:AV×List Blk):∀ k,k≤q.Atoms[i].Vars.length→∀ p,
  Zfd q m (Zx (addV p (q.Atoms[i].Vars.drop k))) (w ((i:Int)+1))=some r→Zgf q m (Zx p) i k=some r:=by
 have e1:andI (shrI m i) 1=1:=by simpa [Zq] using hm
 have h0:¬ (i:Int)<0:=by omega
 have ha:=List.getElem_mem hi
 refine down _ ?_ ?_
 ·intro p h
  refine Zsu _ _ _ _ _ _ ?_
  rw [List.drop_length,Zo5] at h
  simp [hi,h]
 ·intro k hk ih p h
  refine Zsu _ _ _ _ _ _ ?_
  have h4:=inc64 (i:=k) (by have:=hv _ ha;omega)
  have e6:=Zmy p (v:=q.Atoms[i].Vars[k]) (h4v _ ha _ (List.getElem_mem hk))
  have e7:=h4v _ ha _ (List.getElem_mem hk)
  simp [inR] at e7
  have e8:¬ q.Atoms[i].Vars[k]<0:=by omega
  rw [Zo6 p hk] at h
  have ih:=ih _ h
  simp at ih
  simp [hi,hk,h0,e1,h4,e6,e7,e8,ih]
theorem l_bits1 (q:Zc) (m:Int) (hl:Le q.Atoms) (hv:∀ a∈q.Atoms,Le a.Vars) (h4v:Var4 q.Atoms):∀ i,i≤q.Atoms.length→∀ p,
  Zfd q m (Zx p) i=some (I (Zx (addM m p q.Atoms i)),[]):=by
 refine down _ ?_ ?_
 ·intro p
  refine Z05 _ _ _ _ _ ?_
  have e:addM m p q.Atoms q.Atoms.length=p:=by funext u;simp [addM,hasV]
  simp [e]
 ·intro i hi ih p
  refine Z05 _ _ _ _ _ ?_
  have h4:=inc64 (i:=i) (by omega)
  have h0:¬ (i:Int)<0:=by omega
  rw [Z5m m p hi]
  rcases tf (Zq m i) with e | e
  ·have e1:¬ andI (shrI m i) 1=1:=by simpa [Zq] using e
   have ih:=ih p
   simp at ih
   have b:Zgf q m (Zx p) i 0=some (I (Zx (addM m p q.Atoms (i+1))),[]):=by
    refine Zsu _ _ _ _ _ _ ?_
    simp [hi,h0,e1,h4,ih]
   simp [hi,e,b]
  ·have ih:=ih (addV p q.Atoms[i].Vars)
   have b:=l_bits0 q m hv h4v i hi e _ 0 (Nat.zero_le _) p (by rw [List.drop_zero,show w ((i:Int)+1)=(i:Int)+1 from h4];simpa using ih)
   simp at b
   simp [hi,e,b]
@[simp] theorem Zjb (q:Zc) (m:Int) (h:LeQ q) (h4v:Var4 q.Atoms):Zca q m=some (I (Zx (pV m q.Atoms)),[]):=by
 refine Zbb4 _ _ _ ?_
 have b:=l_bits1 q m h.1 h.2 h4v 0 (Nat.zero_le _) (fun _=>false)
 have ez:Zx (fun _=>false)=0:=rfl
 have e:addM m (fun _=>false) q.Atoms 0=pV m q.Atoms:=by funext u;simp [addM,pV]
 rw [ez,e] at b
 simpa using b
end Go.Proofs.YtbapkgocloaaeaaGreat
/- part: V4 -/
namespace Go.Proofs.YtbapkgocloaaeaaGreat
open Go.AM
theorem Zbdm (q:Zc) (hq:LeQ q) (h:Zm q.Ze q.Atoms=true) (x:Zb) (info:List Zg) (st:List Int) (hs:StOk info st) (hil:info.length≤100) (hst:st.length≤100) :
  match Zb9 q.Atoms x info st with
  | some y=>Zhg q x info st=some (.tup [.agg (y.c.map .t),Bo true],[])
  | none=>∃ y:Zg,Zhg q x info st=some (.tup [.agg (y.c.map .t),Bo false],[]):=by
 have hl:=Zbr h
 have wl:w ((q.Atoms.length:Int) - 1)=(q.Atoms.length:Int) - 1:=wrap64 (by omega) (by omega)
 unfold Zb9
 by_cases k1:x.Kind=1
 ·rw [if_pos k1]
  by_cases c1:inR x.Atom 0 (q.Atoms.length - 1)=true∧x.Order=0
  ·rw [if_pos c1]
   have c2:=c1.1
   simp [inR] at c2
   have hlt:x.Atom.toNat<q.Atoms.length:=by omega
   have hv:=Ziq h _ (List.getElem_mem hlt)
   have h0:¬ x.Atom<0:=by omega
   simp only
   refine Zgt _ _ _ _ _ ?_
   have e:q.Atoms[x.Atom.toNat].Vars.headD 0=q.Atoms[x.Atom.toNat].Vars[0]'(by omega):=by
    rw [List.headD_eq_head?_getD,hd0 (by omega)]
   rw [List.headD_eq_head?_getD] at e
   simp [k1,wl,c1,h0,hlt,c2,e,show 0<q.Atoms[x.Atom.toNat].Vars.length by omega]
  ·rw [if_neg c1]
   refine ⟨⟨0,-1,-1,-1⟩,Zgt _ _ _ _ _ ?_⟩
   rcases tf (inR x.Atom 0 (q.Atoms.length - 1)) with e | e
   ·simp [k1,wl,e]
   ·have e2:¬ x.Order=0:=fun hc=>c1 ⟨e,hc⟩
    simp [k1,wl,e,e2]
 rw [if_neg k1]
 by_cases k0:x.Atom=0
 rotate_left
 ·rw [if_pos k0]
  exact ⟨⟨0,-1,-1,-1⟩,Zgt _ _ _ _ _ (by simp [k1,k0])⟩
 rw [if_neg (by simpa using k0)]
 have w1:w ((st.length:Int) - 1)=(st.length:Int) - 1:=wrap64 (by omega) (by omega)
 have w2:w ((st.length:Int) - 2)=(st.length:Int) - 2:=wrap64 (by omega) (by omega)
 by_cases k2:x.Kind=2
 ·rw [if_pos k2]
  by_cases n1:st.length<1
  ·have:Zbe st info 1=none:=by unfold Zbe;rw [if_neg (by omega)]
   rw [this]
   have n1':(st.length:Int)<1:=by omega
   exact ⟨⟨0,-1,-1,-1⟩,Zgt _ _ _ _ _ (by simp [k1,k2,k0,n1'])⟩
  ·have n1':¬ (st.length:Int)<1:=by omega
   obtain ⟨s,y,t1,t2,t3,t4⟩:=Zg7 hs (by omega:1≤1) (by omega:1≤st.length)
   have z1:(0:Int)≤(st.length:Int) - 1:=by omega
   have z5:(1:Int)≤(st.length:Int):=by omega
   have z2:((st.length:Int) - 1).toNat=st.length - 1:=by omega
   have q1:=Zl9 q y.Mask hq h
   have q2:=Zl5 (varL y.Mask q.Atoms q.Ze.toNat) x.Order (by have:=Zir y.Mask q.Atoms q.Ze.toNat;have:=Zc7 h;omega)
   rw [Zjy h] at q2
   rw [t1]
   simp only
   by_cases c1:vin q.Atoms y.Mask x.Order=true∧y.Order≠x.Order
   ·rw [if_pos c1]
    refine Zgt _ _ _ _ _ ?_
    simp [k1,k2,k0,n1',w1,z1,z2,z5,t2,t3,t4,q1,q2,c1]
   ·rw [if_neg c1]
    refine ⟨⟨0,-1,-1,-1⟩,Zgt _ _ _ _ _ ?_⟩
    rcases tf (vin q.Atoms y.Mask x.Order) with e | e
    ·simp [k1,k2,k0,n1',w1,z1,z2,z5,t2,t3,t4,q1,q2,e]
    ·have e2:y.Order=x.Order:=Decidable.byContradiction fun hc=>c1 ⟨e,hc⟩
     simp [k1,k2,k0,n1',w1,z1,z2,z5,t2,t3,t4,q1,q2,e,e2]
 rw [if_neg k2]
 by_cases n2:st.length<2
 ·have:Zbe st info 2=none:=by unfold Zbe;rw [if_neg (by omega)]
  rw [this]
  have n2':(st.length:Int)<2:=by omega
  exact ⟨⟨0,-1,-1,-1⟩,Zgt _ _ _ _ _ (by simp [k1,k2,k0,n2'])⟩
 have n2':¬ (st.length:Int)<2:=by omega
 obtain ⟨s,y,t1,t2,t3,t4⟩:=Zg7 hs (by omega:1≤2) (by omega:2≤st.length)
 obtain ⟨t,z,u1,u2,u3,u4⟩:=Zg7 hs (by omega:1≤1) (by omega:1≤st.length)
 have z1:(0:Int)≤(st.length:Int) - 1:=by omega
 have z2:((st.length:Int) - 1).toNat=st.length - 1:=by omega
 have z3:(0:Int)≤(st.length:Int) - 2:=by omega
 have z4:((st.length:Int) - 2).toNat=st.length - 2:=by omega
 have hn:=Zc7 h
 have q1:=Zl9 q y.Mask hq h
 have q2:=Zl9 q z.Mask hq h
 have l1:=Zir y.Mask q.Atoms q.Ze.toNat
 have l2:=Zir z.Mask q.Atoms q.Ze.toNat
 have q3:=x_both (varL y.Mask q.Atoms q.Ze.toNat) (varL z.Mask q.Atoms q.Ze.toNat) (by omega) (by omega)
 have q4:=Zl5 ((varL y.Mask q.Atoms q.Ze.toNat).filter (has (varL z.Mask q.Atoms q.Ze.toNat))) x.Order (by
  have:=List.length_filter_le (has (varL z.Mask q.Atoms q.Ze.toNat)) (varL y.Mask q.Atoms q.Ze.toNat);omega)
 rw [Z5p h] at q4
 have q5:=Z5o h y.Mask z.Mask
 generalize hS:(varL y.Mask q.Atoms q.Ze.toNat).filter (has (varL z.Mask q.Atoms q.Ze.toNat))=S at q3 q4 q5
 rw [t1,u1]
 simp only
 have base:∀ (r:AV×List Blk),(if andI y.Mask z.Mask=0 then
    if ((S.length:Int)=0) then some (.tup [.agg [I (orI y.Mask z.Mask),I (-1),I s,I t],Bo false],[])=some r
    else if x.Kind=3 then some (.tup [.agg [I (orI y.Mask z.Mask),I (-1),I s,I t],Bo (decide (x.Order=0))],[])=some r
    else if x.Kind=5 then some (.tup [.agg [I (orI y.Mask z.Mask),I y.Order,I s,I t],Bo (decide (x.Order=0))],[])=some r
    else if x.Kind=4 then
     if (vin q.Atoms y.Mask x.Order && vin q.Atoms z.Mask x.Order)=true then
      if y.Order=x.Order then some (.tup [.agg [I (orI y.Mask z.Mask),I x.Order,I s,I t],Bo (decide (z.Order=x.Order))],[])=some r
      else some (.tup [.agg [I (orI y.Mask z.Mask),I x.Order,I s,I t],Bo false],[])=some r
     else some (.tup [.agg [I (orI y.Mask z.Mask),I x.Order,I s,I t],Bo false],[])=some r
    else some (.tup [.agg [I (orI y.Mask z.Mask),I (-1),I s,I t],Bo false],[])=some r
   else some (.tup [.agg [I (orI y.Mask z.Mask),I (-1),I s,I t],Bo false],[])=some r)→Zhg q x info st=some r:=by
  intro r hr
  refine Zgt _ _ _ _ _ ?_
  simp only [k1,k0,k2,if_false,if_true,n2',w1,w2,z1,z2,z3,z4,t2,t3,t4,u2,u3,u4,q1,q2,true_and,Option.some.injEq,exists_eq_left']
  refine ⟨_,rfl,_,rfl,S,?_,?_⟩
  ·simpa using q3
  ·simp only [q4,Option.some.injEq,Prod.mk.injEq,AV.t.injEq,T.bool.injEq,and_true,exists_eq_left']
   simpa using hr
 by_cases c1:andI y.Mask z.Mask=0∧shr q.Atoms y.Mask z.Mask=true
 rotate_left
 ·rw [if_neg c1]
  refine ⟨⟨orI y.Mask z.Mask,-1,s,t⟩,base _ ?_⟩
  by_cases c2:andI y.Mask z.Mask=0
  ·have c3:S.length=0:=q5.2 (by rcases tf (shr q.Atoms y.Mask z.Mask) with e | e;exact e;exact absurd ⟨c2,e⟩ c1)
   have c4:(S.length:Int)=0:=by omega
   rw [if_pos c2,if_pos c4]
   simp
  ·rw [if_neg c2]
   simp
 rw [if_pos c1]
 have c4:¬ (S.length:Int)=0:=fun hc=>by
  have:=q5.1 (by omega)
  rw [c1.2] at this
  cases this
 have c5:¬ S=[]:=fun hc=>c4 (by simp [hc])
 unfold Zbx
 by_cases j1:x.Kind=3∧x.Order=0
 ·rw [if_pos j1]
  exact base _ (by simp [c1.1,c4,c5,j1])
 rw [if_neg j1]
 by_cases j2:x.Kind=5∧x.Order=0
 ·rw [if_pos j2]
  exact base _ (by simp [c1.1,c4,c5,j2])
 rw [if_neg j2]
 by_cases j3:x.Kind=4∧vin q.Atoms y.Mask x.Order=true∧vin q.Atoms z.Mask x.Order=true∧y.Order=x.Order∧z.Order=x.Order
 ·rw [if_pos j3]
  exact base _ (by simp [c1.1,c4,c5,j3])
 rw [if_neg j3]
 simp only [Option.map_none]
 by_cases k3:x.Kind=3
 ·have e:¬ x.Order=0:=fun hc=>j1 ⟨k3,hc⟩
  exact ⟨⟨orI y.Mask z.Mask,-1,s,t⟩,base _ (by simp [c1.1,c4,c5,k3,e])⟩
 by_cases k5:x.Kind=5
 ·have e:¬ x.Order=0:=fun hc=>j2 ⟨k5,hc⟩
  exact ⟨⟨orI y.Mask z.Mask,y.Order,s,t⟩,base _ (by simp [c1.1,c4,c5,k5,e])⟩
 by_cases k4:x.Kind=4
 ·refine ⟨⟨orI y.Mask z.Mask,x.Order,s,t⟩,base _ ?_⟩
  rcases tf (vin q.Atoms y.Mask x.Order) with e1 | e1 <;> rcases tf (vin q.Atoms z.Mask x.Order) with e2 | e2 <;> by_cases e3:y.Order=x.Order <;> simp [c1.1,c4,c5,k4,e1,e2,e3]
  exact fun e4=>j3 ⟨k4,e1,e2,e3,e4⟩
 ·exact ⟨⟨orI y.Mask z.Mask,-1,s,t⟩,base _ (by simp [c1.1,c4,c5,k3,k4,k5])⟩
end Go.Proofs.YtbapkgocloaaeaaGreat
/- part: V5 -/
namespace Go.Proofs.YtbapkgocloaaeaaGreat
open Go.AM
@[simp] theorem Zn2 (b v:Int):Zfg b v=some (Bo (inR v 0 3 && decide (andI (shrI b v) 1=1)),[]):=by
 refine Zbcb _ _ _ ?_
 rcases tf (inR v 0 3) with e | e
 ·simp [e]
 ·have e0:=e
  simp [inR] at e0
  have:¬ v<0:=by omega
  simp [e,this]
def Z6 (x:Zb):Option Zg→AV×List Blk
 | some y=>(.tup [.agg (y.c.map .t),I (popsI x)],[])
 | none=>(.tup [.agg [I 0,I 0,I 0,I 0],I (-1)],[])
theorem Zbdn (q:Zc) (hq:LeQ q) (h:Zm q.Ze q.Atoms=true) (x:Zb) (info:List Zg) (st:List Int) (hs:StOk info st) (hil:info.length≤100) (hst:st.length≤100) :
  Zgi q x info st=some (Z6 x (Zb9 q.Atoms x info st)):=by
 have hl:=Zbr h
 have wl:w ((q.Atoms.length:Int) - 1)=(q.Atoms.length:Int) - 1:=wrap64 (by omega) (by omega)
 unfold Zb9
 by_cases k1:x.Kind=1
 ·rw [if_pos k1]
  by_cases c1:inR x.Atom 0 (q.Atoms.length - 1)=true∧x.Order=0
  ·rw [if_pos c1]
   have c2:=c1.1
   simp [inR] at c2
   have hlt:x.Atom.toNat<q.Atoms.length:=by omega
   have hv:=Ziq h _ (List.getElem_mem hlt)
   have h0:¬ x.Atom<0:=by omega
   refine Zel _ _ _ _ _ ?_
   have e:q.Atoms[x.Atom.toNat].Vars.headD 0=q.Atoms[x.Atom.toNat].Vars[0]'(by omega):=by
    rw [List.headD_eq_head?_getD,hd0 (by omega)]
   rw [List.headD_eq_head?_getD] at e
   simp [k1,wl,c1,h0,hlt,c2,e,Z6,popsI,show 0<q.Atoms[x.Atom.toNat].Vars.length by omega]
  ·rw [if_neg c1]
   refine Zel _ _ _ _ _ ?_
   rcases tf (inR x.Atom 0 (q.Atoms.length - 1)) with e | e
   ·simp [k1,wl,e,Z6]
   ·have e2:¬ x.Order=0:=fun hc=>c1 ⟨e,hc⟩
    simp [k1,wl,e,e2,Z6]
 rw [if_neg k1]
 have w1:w ((st.length:Int) - 1)=(st.length:Int) - 1:=wrap64 (by omega) (by omega)
 have w2:w ((st.length:Int) - 2)=(st.length:Int) - 2:=wrap64 (by omega) (by omega)
 by_cases k0:x.Atom=0
 rotate_left
 ·rw [if_pos k0]
  refine Zel _ _ _ _ _ ?_
  have j:∀ b,Zh5 q x ⟨0,0,0,0⟩ info st st.length x.Kind b=some (Z6 x none):=by
   intro b
   refine Zl4 _ _ _ _ _ _ _ _ _ ?_
   cases b <;> simp [k0,Z6]
  by_cases k2:x.Kind=2
  ·simp [k1,k2,k0,Z6]
  ·by_cases k3:x.Kind=3 <;> by_cases k4:x.Kind=4 <;> simp [k1,k2,k0,k3,k4,j] <;> first | (simp only [k3] at j;simp [j,Z6]) | (simp only [k4] at j;simp [j,Z6]) | simp [Z6]
 rw [if_neg (by simpa using k0)]
 by_cases k2:x.Kind=2
 ·rw [if_pos k2]
  refine Zel _ _ _ _ _ ?_
  by_cases n1:st.length<1
  ·have:Zbe st info 1=none:=by unfold Zbe;rw [if_neg (by omega)]
   rw [this]
   have n1':(st.length:Int)<1:=by omega
   simp [k1,k2,k0,n1',Z6]
  ·have n1':¬ (st.length:Int)<1:=by omega
   obtain ⟨s,y,t1,t2,t3,t4⟩:=Zg7 hs (by omega:1≤1) (by omega:1≤st.length)
   have z1:(0:Int)≤(st.length:Int) - 1:=by omega
   have z5:(1:Int)≤(st.length:Int):=by omega
   have z2:((st.length:Int) - 1).toNat=st.length - 1:=by omega
   have q1:=Zjb q y.Mask hq (Zg6 h)
   have q2:(inR x.Order 0 3 && decide (andI (shrI (Zx (pV y.Mask q.Atoms)) x.Order) 1=1))=vin q.Atoms y.Mask x.Order:=by
    unfold vin
    rcases tf (inR x.Order 0 3) with e | e
    ·simp [e]
    ·rw [e,Bool.true_and,Bool.true_and,Bool.eq_iff_iff,decide_eq_true_eq]
     exact at_bit _ e
   rw [t1]
   simp only
   by_cases e2:y.Order=x.Order
   ·simp [k1,k2,k0,n1',w1,z1,z2,z5,t2,t3,t4,e2,Z6]
   ·rcases tf (vin q.Atoms y.Mask x.Order) with e | e
    ·simp only [k1,k2,k0,n1',w1,z1,z2,t2,t3,t4,q1,Zn2,q2,e,e2,if_false,if_true,true_and,Option.some.injEq,exists_eq_left',Prod.mk.injEq,AV.t.injEq,T.int.injEq,T.bool.injEq,and_true]
     simp [Z6]
    ·simp only [k1,k2,k0,n1',w1,z1,z2,t2,t3,t4,q1,Zn2,q2,e,e2,if_false,if_true,true_and,Option.some.injEq,exists_eq_left',Prod.mk.injEq,AV.t.injEq,T.int.injEq,T.bool.injEq,and_true]
     simp [Z6,popsI,k1,k2,e2]
 rw [if_neg k2]
 -- a join
 have q0:∀ (b:Zg) (c:Zg) (y:Zg) (f:Bool),x.Kind=4→∀ m1 m2,Zgj q x ⟨0,0,0,0⟩ b c y (andI (Zx (pV m1 q.Atoms)) (Zx (pV m2 q.Atoms))) f =
   if vin q.Atoms m1 x.Order=true∧vin q.Atoms m2 x.Order=true∧b.Order=x.Order∧c.Order=x.Order then some (.tup [.agg [I y.Mask,I x.Order,I y.Left,I y.Right],I 2],[]) else some (Z6 x none):=by
  intro b c y f k4 m1 m2
  have e:(inR x.Order 0 3 && decide (andI (shrI (andI (Zx (pV m1 q.Atoms)) (Zx (pV m2 q.Atoms))) x.Order) 1=1))=(vin q.Atoms m1 x.Order && vin q.Atoms m2 x.Order):=by
   unfold vin
   rcases tf (inR x.Order 0 3) with e | e
   ·simp [e]
   ·rw [e,Bool.true_and,Bool.true_and,Bool.true_and,Bool.eq_iff_iff,decide_eq_true_eq,Zuv]
    simpa using at_bit (fun u=>pV m1 q.Atoms u && pV m2 q.Atoms u) e
  split
  ·rename_i hc
   refine Zsv _ _ _ _ _ _ _ _ _ ?_
   simp only [Zn2,e,hc]
   simp [k4]
  ·rename_i hc
   refine Zsv _ _ _ _ _ _ _ _ _ ?_
   simp only [Zn2,e]
   rcases tf (vin q.Atoms m1 x.Order) with e1 | e1 <;> rcases tf (vin q.Atoms m2 x.Order) with e2 | e2 <;> by_cases e3:b.Order=x.Order <;> by_cases e4:c.Order=x.Order <;> simp [k4,e1,e2,e3,e4,Z6]
   exact hc ⟨e1,e2,e3,e4⟩
 have q3:∀ (b:Zg) (c:Zg) (y:Zg) (v:Int) (f:Bool),x.Kind≠4→Zgj q x ⟨0,0,0,0⟩ b c y v f=some (.tup [.agg (y.c.map .t),I 2],[]):=by
  intro b c y v f k4
  exact Zsv _ _ _ _ _ _ _ _ _ (by simp [k4])
 have q5:∀ (b:Zg) (c:Zg) (y:Zg) (v:Int),x.Kind≠4→Zh6 q x ⟨0,0,0,0⟩ b c y v=some (.tup [.agg (y.c.map .t),I 2],[]):=by
  intro b c y v k4
  exact Zbcc _ _ _ _ _ _ _ _ (by simp [k4])
 by_cases kk:x.Kind=3∨x.Kind=4∨x.Kind=5
 rotate_left
 ·have k3:¬ x.Kind=3:=fun hc=>kk (.inl hc)
  have k4:¬ x.Kind=4:=fun hc=>kk (.inr (.inl hc))
  have k5:¬ x.Kind=5:=fun hc=>kk (.inr (.inr hc))
  have hj:∀ y z,Zbx q.Atoms x y z=none:=by intro y z;simp [Zbx,k3,k4,k5]
  refine Eq.trans (b:=some (Z6 x none)) (Zel _ _ _ _ _ (by simp [k1,k2,k3,k4,k5,Z6])) ?_
  simp only [hj,Option.map_none,ite_self]
  split <;> rfl
 have k5':x.Kind≠3→x.Kind≠4→x.Kind=5:=fun a b=>by rcases kk with h | h | h;exact absurd h a;exact absurd h b;exact h
 have red:∀ r,Zh5 q x ⟨0,0,0,0⟩ info st st.length x.Kind true=some r→(x.Kind=5→Zgi q x info st=some r)→Zgi q x info st=some r:=by
  intro r hr h5
  by_cases k5:x.Kind=5
  ·exact h5 k5
  ·refine Zel _ _ _ _ _ ?_
   by_cases k3:x.Kind=3
   ·rw [if_neg k1,if_neg k2,if_pos k3];exact hr
   ·by_cases k4:x.Kind=4
    ·rw [if_neg k1,if_neg k2,if_neg k3,if_pos k4];exact hr
    ·exact absurd (k5' k3 k4) k5
 by_cases n2:st.length<2
 ·have:Zbe st info 2=none:=by unfold Zbe;rw [if_neg (by omega)]
  rw [this]
  have n2':(st.length:Int)<2:=by omega
  refine red _ ?_ ?_
  ·exact Zl4 _ _ _ _ _ _ _ _ _ (by simp [k0,n2',Z6])
  ·intro k5
   exact Zel _ _ _ _ _ (by simp [k5,k0,n2',Z6])
 have n2':¬ (st.length:Int)<2:=by omega
 obtain ⟨s,y,t1,t2,t3,t4⟩:=Zg7 hs (by omega:1≤2) (by omega:2≤st.length)
 obtain ⟨t,z,u1,u2,u3,u4⟩:=Zg7 hs (by omega:1≤1) (by omega:1≤st.length)
 have z1:(0:Int)≤(st.length:Int) - 1:=by omega
 have z2:((st.length:Int) - 1).toNat=st.length - 1:=by omega
 have z3:(0:Int)≤(st.length:Int) - 2:=by omega
 have z4:((st.length:Int) - 2).toNat=st.length - 2:=by omega
 have b1:=Zjb q y.Mask hq (Zg6 h)
 have b2:=Zjb q z.Mask hq (Zg6 h)
 have b3:=Zpa q.Atoms y.Mask z.Mask
 rw [t1,u1]
 simp only
 by_cases c1:andI y.Mask z.Mask=0
 rotate_left
 ·rw [if_neg (fun hc=>c1 hc.1)]
  refine red _ ?_ ?_
  ·refine Zl4 _ _ _ _ _ _ _ _ _ ?_
   simp only [k0,n2',w1,w2,z1,z2,z3,z4,t2,t3,t4,u2,u3,u4,b1,b2,c1,if_true,if_false,true_and,Option.some.injEq,exists_eq_left',Prod.mk.injEq,AV.t.injEq,T.int.injEq,and_true]
   simp [Z6]
  ·intro k5
   refine Zel _ _ _ _ _ ?_
   simp only [k5,k0,n2',w1,w2,z1,z2,z3,z4,t2,t3,t4,u2,u3,u4,b1,b2,c1,if_true,if_false,true_and,Option.some.injEq,exists_eq_left',Prod.mk.injEq,AV.t.injEq,T.int.injEq,and_true]
   simp [Z6]
 rcases tf (shr q.Atoms y.Mask z.Mask) with c2 | c2
 ·rw [if_neg (fun hc=>by rw [hc.2] at c2;cases c2)]
  have c3:=b3.2 c2
  refine red _ ?_ ?_
  ·refine Zl4 _ _ _ _ _ _ _ _ _ ?_
   simp only [k0,n2',w1,w2,z1,z2,z3,z4,t2,t3,t4,u2,u3,u4,b1,b2,c1,c3,if_true,if_false,true_and,Option.some.injEq,exists_eq_left',Prod.mk.injEq,AV.t.injEq,T.int.injEq,and_true]
   simp [Z6]
  ·intro k5
   refine Zel _ _ _ _ _ ?_
   simp only [k5,k0,n2',w1,w2,z1,z2,z3,z4,t2,t3,t4,u2,u3,u4,b1,b2,c1,c3,if_true,if_false,true_and,Option.some.injEq,exists_eq_left',Prod.mk.injEq,AV.t.injEq,T.int.injEq,and_true]
   simp [Z6]
 rw [if_pos ⟨c1,c2⟩]
 have c3:¬ andI (Zx (pV y.Mask q.Atoms)) (Zx (pV z.Mask q.Atoms))=0:=fun hc=>by rw [b3.1 hc] at c2;cases c2
 have p2:popsI x=2:=by unfold popsI;rw [if_neg k1,if_neg k2]
 refine red _ ?_ ?_
 ·refine Zl4 _ _ _ _ _ _ _ _ _ ?_
  simp only [k0,n2',w1,w2,z1,z2,z3,z4,t2,t3,t4,u2,u3,u4,b1,b2,c1,c3,if_true,if_false,true_and,Option.some.injEq,exists_eq_left',Prod.mk.injEq,AV.t.injEq,T.int.injEq,and_true]
  by_cases k4:x.Kind=4
  ·have k3:¬ x.Kind=3:=by omega
   have k5:¬ x.Kind=5:=by omega
   rw [if_pos k4,q0 _ _ _ _ k4]
   simp only [Zbx,k3,k4,k5,false_and,true_and,if_false]
   split
   ·rename_i hc;simp [Z6,p2]
   ·rfl
  ·by_cases e:x.Order=0
   ·by_cases k5:x.Kind=5
    ·rw [if_neg k4,if_pos e,if_pos k5,q5 _ _ _ _ k4]
     simp [Zbx,k5,e,Z6,p2]
    ·have k3:x.Kind=3:=by omega
     rw [if_neg k4,if_pos e,if_neg k5,q3 _ _ _ _ _ k4]
     simp [Zbx,k3,e,Z6,p2]
   ·rw [if_neg k4,if_neg e]
    simp [Zbx,k4,e,Z6]
 ·intro k5
  refine Zel _ _ _ _ _ ?_
  have k4:x.Kind≠4:=by omega
  simp only [k5,k0,n2',w1,w2,z1,z2,z3,z4,t2,t3,t4,u2,u3,u4,b1,b2,c1,c3,if_true,if_false,true_and,Option.some.injEq,exists_eq_left',Prod.mk.injEq,AV.t.injEq,T.int.injEq,and_true]
  by_cases e:x.Order=0
  ·simp [e,q5 _ _ _ _ k4,Zbx,k5,Z6,p2]
  ·simp [e,Zbx,k5,Z6]
theorem Zbdo (q:Zc) (hq:LeQ q) (h:Zm q.Ze q.Atoms=true) (p:Plan) (hl:p.Steps.length≤14):∀ i,i≤p.Steps.length→∀ info st,StOk info st→info.length=i→st.length≤i →
  Zh8 q p info st i=some (match Zbf q.Atoms (p.Steps.drop i) i info st with
   | some (info',st')=>if st'.length=1 then (.tup [.own 0,Bo true],[.arr Zha 4 true (info'.map Zg.c)]) else (.tup [.own 0,Bo false],[.arr Zha 4 true []])
   | none=>(.tup [.own 0,Bo false],[.arr Zha 4 true []])):=by
 refine down _ ?_ ?_
 ·intro info st _ _ _
  rw [List.drop_length,Zbf]
  refine Z1a _ _ _ _ _ _ ?_
  by_cases c:st.length=1
  ·simp [c]
  ·have c':¬ (st.length:Int)=1:=by omega
   simp [c,c']
 ·intro i hi ih info st hs hil hst
  have h5:=inc64 (i:=i) (by omega)
  have s1:=Zbdn q hq h p.Steps[i] info st hs (by omega) (by omega)
  rw [Zu1 q.Atoms hi]
  refine Z1a _ _ _ _ _ _ ?_
  cases he:Zb9 q.Atoms p.Steps[i] info st with
  | none =>
   rw [he,Z6] at s1
   have e0:Zgi q p.Steps[i] info st=some (.tup [.agg ((⟨0,0,0,0⟩:Zg).c.map .t),I (-1)],[]):=s1
   rw [if_pos (by omega)]
   refine ⟨by omega,_,List.getElem?_eq_getElem hi,_,_,e0,?_⟩
   simp
  | some y =>
   rw [he,Z6] at s1
   obtain ⟨f1,f2,f3⟩:=Zpb hs he
   rw [f1] at s1
   have hn:=Zjz hs y (st.length - pops y)
   rw [hil] at hn
   have ih:=ih (info++[y]) (st.take (st.length - pops y)++[(i:Int)]) hn (by simp [hil]) (st_len hst _)
   have w2:w ((st.length:Int) - (pops y:Int))=(st.length:Int) - (pops y:Int):=wrap64 (by omega) (by omega)
   have z2:((st.length:Int) - (pops y:Int)).toNat=st.length - pops y:=by omega
   rw [if_pos (by omega)]
   refine ⟨by omega,_,List.getElem?_eq_getElem hi,_,_,s1,?_⟩
   rw [if_neg (by omega),w2,z2]
   refine ⟨by omega,by omega,by omega,by omega,by omega,?_⟩
   rw [show w ((i:Int)+1)=(i:Int)+1 from h5]
   simpa using ih
@[simp] theorem Z1y (q:Zc) (p:Plan) (hq:LeQ q):Zh7 q p=some (match Zbg q.Ze q.Atoms p.Steps with
  | some info=>(.tup [.own 0,Bo true],[.arr Zha 4 true (info.map Zg.c)])
  | none=>(.tup [.own 0,Bo false],[.arr Zha 4 true []])):=by
 refine Zbcd _ _ _ ?_
 have q1:=Znz q hq
 unfold Zbg
 rcases tf (Zm q.Ze q.Atoms) with e | e
 ·simp [q1,e]
 rcases tf (inR p.Steps.length 1 14) with e2 | e2
 ·simp [q1,e,e2]
 ·have e3:=e2
  simp [inR] at e3
  have b:=Zbdo q hq e p (by omega) 0 (Nat.zero_le _) [] [] (fun s hs=>by cases hs) rfl (Nat.le_refl _)
  simp only [List.drop_zero] at b
  simp only [q1,e,e2,Zgu,Option.some.injEq,Prod.mk.injEq,AV.t.injEq,T.bool.injEq,and_true,exists_eq_left',if_true,and_self]
  refine Eq.trans b ?_
  cases Zbf q.Atoms p.Steps 0 [] [] with
  | none=>rfl
  | some r=>obtain ⟨a,b⟩:=r;simp only;split <;> rfl
end Go.Proofs.YtbapkgocloaaeaaGreat
/- part: V6 -/
namespace Go.Proofs.YtbapkgocloaaeaaGreat
open Go.AM
theorem Zbdp (q:Zc) (hq:LeQ q) (h:Zm q.Ze q.Atoms=true) (steps:List Zb) (hl:steps.length≤14):∀ i,i≤steps.length→∀ info st,StOk info st→info.length=i→st.length≤i →
  Zew q info st steps steps.length i=some (match Zbf q.Atoms (steps.drop i) i info st with
   | some (info',st')=>if st'.length=1 then (.tup [.own 0,Bo true],[.arr Zha 4 true (info'.map Zg.c)]) else (.tup [.t .nil,Bo false],[])
   | none=>(.tup [.t .nil,Bo false],[])):=by
 refine down _ ?_ ?_
 ·intro info st _ _ _
  rw [List.drop_length,Zbf]
  refine Zzw _ _ _ _ _ _ _ ?_
  by_cases c:st.length=1
  ·simp [c]
  ·have c':¬ (st.length:Int)=1:=by omega
   simp [c,c']
 ·intro i hi ih info st hs hil hst
  have h5:=inc64 (i:=i) (by omega)
  have s1:=Zbdm q hq h steps[i] info st hs (by omega) (by omega)
  rw [Zu1 q.Atoms hi]
  refine Zzw _ _ _ _ _ _ _ ?_
  cases he:Zb9 q.Atoms steps[i] info st with
  | none =>
   rw [he] at s1
   obtain ⟨y,s1⟩:=s1
   rw [if_pos (by omega)]
   refine ⟨by omega,_,List.getElem?_eq_getElem hi,_,_,s1,?_⟩
   simp
  | some y =>
   rw [he] at s1
   obtain ⟨f1,f2,f3⟩:=Zpb hs he
   have hn:=Zjz hs y (st.length - pops y)
   rw [hil] at hn
   have ih:=ih (info++[y]) (st.take (st.length - pops y)++[(i:Int)]) hn (by simp [hil]) (st_len hst _)
   rw [if_pos (by omega)]
   refine ⟨by omega,_,List.getElem?_eq_getElem hi,_,_,s1,?_⟩
   rw [if_pos rfl]
   refine ⟨by omega,?_⟩
   simp only
   unfold pops at ih f2 ⊢
   rw [show w ((i:Int)+1)=(i:Int)+1 from h5]
   by_cases r:0≤y.Right
   ·simp only [if_pos r] at ih f2 ⊢
    have w2:w ((st.length:Int) - 2)=(st.length:Int) - 2:=wrap64 (by omega) (by omega)
    have z2:((st.length:Int) - 2).toNat=st.length - 2:=by omega
    rw [w2,z2]
    refine ⟨by omega,by omega,by omega,by simpa using ih⟩
   ·simp only [if_neg r] at ih f2 ⊢
    by_cases l:0≤y.Left
    ·simp only [if_pos l] at ih f2 ⊢
     have w2:w ((st.length:Int) - 1)=(st.length:Int) - 1:=wrap64 (by omega) (by omega)
     have z2:((st.length:Int) - 1).toNat=st.length - 1:=by omega
     rw [w2,z2]
     refine ⟨by omega,by omega,by omega,by simpa using ih⟩
    ·simp only [if_neg l] at ih f2 ⊢
     exact ⟨by omega,by simpa using ih⟩
@[simp] theorem Z1z (q:Zc) (p:Plan) (hq:LeQ q):Zev q p=some (match Zbg q.Ze q.Atoms p.Steps with
  | some info=>(.tup [.own 0,Bo true],[.arr Zha 4 true (info.map Zg.c)])
  | none=>(.tup [.t .nil,Bo false],[])):=by
 refine Zbah _ _ _ ?_
 have q1:=Zl6 q hq
 unfold Zbg
 rcases tf (Zm q.Ze q.Atoms) with e | e
 ·simp [q1,e]
 rcases tf (inR p.Steps.length 1 14) with e2 | e2
 ·simp [q1,e,e2]
 ·have e3:=e2
  simp [inR] at e3
  have b:=Zbdp q hq e p.Steps (by omega) 0 (Nat.zero_le _) [] [] (fun s hs=>by cases hs) rfl (Nat.le_refl _)
  simp only [List.drop_zero] at b
  simp only [q1,e,e2,Zdd,Option.some.injEq,Prod.mk.injEq,AV.t.injEq,T.bool.injEq,and_true,exists_eq_left',if_true,and_self]
  refine Eq.trans b ?_
  cases Zbf q.Atoms p.Steps 0 [] [] with
  | none=>rfl
  | some r=>obtain ⟨a,b⟩:=r;simp only;split <;> rfl
@[simp] theorem Zbdq (q:Zc) (p:Plan) (hq:LeQ q):Zj7 q p=some (I (Zfo q.Ze q.Atoms p.Steps),[]):=by
 refine Zbai _ _ _ ?_
 have q1:=Z1z q p hq
 unfold Zfo
 cases he:Zbg q.Ze q.Atoms p.Steps with
 | none=>rw [he] at q1;exact .inl ⟨q1,rfl⟩
 | some info =>
  obtain ⟨l1,l2,l3,l4⟩:=Zg8 he
  rw [he] at q1
  have hlt:info.length - 1<info.length:=by omega
  have w1:w ((info.length:Int) - 1)=(info.length:Int) - 1:=wrap64 (by omega) (by omega)
  have z2:((info.length:Int) - 1).toNat=info.length - 1:=by omega
  refine .inr ⟨info,q1,?_⟩
  rw [w1,z2]
  refine ⟨by omega,_,List.getElem?_eq_getElem hlt,?_⟩
  simp [List.getElem?_eq_getElem hlt]
@[simp] theorem Zbdr (q:Zc) (p:Plan) (hq:LeQ q):Zk4 q p=some (I (Zfo q.Ze q.Atoms p.Steps),[]):=by
 refine Zbce _ _ _ ?_
 have q1:=Z1y q p hq
 unfold Zfo
 cases he:Zbg q.Ze q.Atoms p.Steps with
 | none=>rw [he] at q1;exact ⟨[],false,q1,by simp⟩
 | some info =>
  obtain ⟨l1,l2,l3,l4⟩:=Zg8 he
  rw [he] at q1
  have hlt:info.length - 1<info.length:=by omega
  have w1:w ((info.length:Int) - 1)=(info.length:Int) - 1:=wrap64 (by omega) (by omega)
  have z2:((info.length:Int) - 1).toNat=info.length - 1:=by omega
  refine ⟨info,true,q1,?_⟩
  rw [if_pos rfl,w1,z2]
  refine ⟨by omega,_,List.getElem?_eq_getElem hlt,?_⟩
  simp [List.getElem?_eq_getElem hlt]
end Go.Proofs.YtbapkgocloaaeaaGreat
