/-
  Parts of the proofs for this seat: G11 G12 G13 V1 V2 V3 V4 V5 V6 OP.
-/
import Derived.Test.YtbapkgocloaaeaaGreatP7
import Derived.Test.YtbapkgocloaaeaaGreatP9
import Derived.Test.YtbapkgocloaaeaaGreatP10
set_option linter.unusedSimpArgs false
set_option linter.unusedVariables false
set_option maxRecDepth 100000
set_option maxHeartbeats 4000000
/- part: G11 -/
namespace Go.Proofs.YtbapkgocloaaeaaGreat
open Go.AM
theorem Zy3 (q : Zb) (out : List Zq) (masks : List Int) (i : Int) (r : AV × List Blk) (h : (if i < (masks.length : Int) then (0 ≤ i ∧ (∃ (e1 : Int), masks[i.toNat]? = some e1 ∧ (∃ (v2_0 : List Int), Zkr q e1 = some (.own 0, [.arr 3 1 true (v2_0.map ic)]) ∧ (Zky q out masks e1 v2_0 i 0 = some r)))) else (some (.own 0, [.arr 242 3 true (out.map Zq.c)]) = some r))) : Zds q out masks i = some r := by
  unfold Zds
  rw [EvL_eq Zkv.eq_1]
  simp only [Zkr, Zb.c_def, mpl, dfs] at h
  try simp only [itb] at h
  try simp only [itf, List.getElem?_eq_some_iff, kk] at h
  rcases h with ⟨q1, q2, e1, ⟨g3, q3⟩, v2_0, q4, h⟩ | ⟨q1, h⟩
  all_goals (refine Eq.trans ?_ h; clear h; simp +decide [*, kk, Zky, Zkw])
theorem Z9s (q : Zb) (out : List Zq) (masks : List Int) (mask : Int) (x : List Int) (i : Int) (k : Int) (r : AV × List Blk) (h : (if k < (x.length : Int) then (0 ≤ k ∧ (∃ (e1 : Int), x[k.toNat]? = some e1 ∧ (0 ≤ i ∧ (∃ (e2 : Int), masks[i.toNat]? = some e2 ∧ (∃ (v3_0 : List Int), Zgb q e1 (w (e2 - e1)) = some (.own 0, [.arr 3 1 true (v3_0.map ic)]) ∧ (Zhy q out masks mask x ([v3_0]) i (w (k + 1)) = some r)))))) else (out.length + 1 ≤ 68719476736 ∧ (Zds q (out ++ [(⟨mask, x, []⟩ : Zq)]) masks (w (i + 1)) = some r)))) : Zky q out masks mask x i k = some r := by
  unfold Zky
  rw [EvL_eq Zks.eq_1]
  simp only [Zgb, Zb.c_def, mpl, dfs] at h
  try simp only [itb] at h
  try simp only [itf, List.getElem?_eq_some_iff, kk] at h
  rcases h with ⟨q1, q2, e1, ⟨g3, q3⟩, q4, e2, ⟨g5, q5⟩, v3_0, q6, h⟩ | ⟨q1, q7, h⟩
  all_goals (refine Eq.trans ?_ h; clear h; simp +decide [*, kk, Zhy, Zds, Zku, Zkt])
theorem Zy4 (q : Zb) (out : List Zq) (masks : List Int) (mask : Int) (x : List Int) (x1 : List (List Int)) (i : Int) (k : Int) (r : AV × List Blk) (h : (if k < (x.length : Int) then (0 ≤ k ∧ (∃ (e1 : Int), x[k.toNat]? = some e1 ∧ (0 ≤ i ∧ (∃ (e2 : Int), masks[i.toNat]? = some e2 ∧ (∃ (v3_0 : List Int), Zgb q e1 (w (e2 - e1)) = some (.own 0, [.arr 3 1 true (v3_0.map ic)]) ∧ (x1.length + 1 ≤ 68719476736 ∧ (Zhy q out masks mask x (x1 ++ [v3_0]) i (w (k + 1)) = some r))))))) else (out.length + 1 ≤ 68719476736 ∧ (Zds q (out ++ [(⟨mask, x, x1⟩ : Zq)]) masks (w (i + 1)) = some r)))) : Zhy q out masks mask x x1 i k = some r := by
  unfold Zhy
  rw [EvL_eq Zks.eq_1]
  simp only [Zgb, Zb.c_def, mpl, dfs] at h
  try simp only [itb] at h
  try simp only [itf, List.getElem?_eq_some_iff, kk] at h
  rcases h with ⟨q1, q2, e1, ⟨g3, q3⟩, q4, e2, ⟨g5, q5⟩, v3_0, q6, q7, h⟩ | ⟨q1, q8, h⟩
  all_goals (refine Eq.trans ?_ h; clear h; simp +decide [*, kk, Zhy, Zds, Zku, Zkt])
theorem Z9t (a : Zb) (r : AV × List Blk) (h : (∃ (v1_0 : List Int), Zkq a = some (.own 0, [.arr 3 1 true (v1_0.map ic)]) ∧ (Zds a ([] : List Zq) v1_0 0 = some r))) : Zkx a = some r := by
  unfold Zkx
  refine run Z6n rfl ?_
  simp only [Zkq, Zb.c_def, mpl, dfs] at h
  rcases h with ⟨v1_0, q1, h⟩
  all_goals (refine Eq.trans ?_ h; clear h; simp +decide [*, kk, Zwg, Zds])
theorem Zrt (out : List Int) (l : List Int) (i : Int) (r : AV × List Blk) (h : (if i < (l.length : Int) then (∃ (v1_0 : Bool), Zf6 l = some (Bo v1_0, []) ∧ (if v1_0 = true then (0 ≤ i ∧ (∃ (e2 : Int), l[i.toNat]? = some e2 ∧ (∃ (v3_0 : Int), Ze2 e2 = some (I v3_0, []) ∧ (out.length + 1 ≤ 68719476736 ∧ (Zh0 (out ++ [v3_0]) l (w (i + 1)) = some r))))) else (some (.own 0, [.arr 3 1 true (out.map ic)]) = some r))) else (some (.own 0, [.arr 3 1 true (out.map ic)]) = some r))) : Zh0 out l i = some r := by
  unfold Zh0
  rw [EvL_eq Zqo.eq_1]
  simp only [Zf6, Ze2, mpl, dfs] at h
  try simp only [itb] at h
  try simp only [itf, List.getElem?_eq_some_iff, kk] at h
  rcases h with ⟨q1, v1_0, q2, (⟨q3, q4, e2, ⟨g5, q5⟩, v3_0, q6, q7, h⟩ | ⟨q3, h⟩)⟩ | ⟨q1, h⟩
  all_goals (refine Eq.trans ?_ h; clear h; simp +decide [*, kk, Zh0, Zqp])
theorem Zy5 (a : List Int) (r : AV × List Blk) (h : (Zh0 ([] : List Int) a 0 = some r)) : Zhz a = some r := by
  unfold Zhz
  refine run Z6o rfl ?_
  refine Eq.trans ?_ h; clear h; simp +decide [*, kk, Zwh, Zh0]
theorem Zy6 (out : List Int) (mask : Int) (i : Int) (r : AV × List Blk) (h : (if i < 4 then (∃ (v1_0 : Bool), Zx mask 0 15 = some (Bo v1_0, []) ∧ (if v1_0 = true then (¬ i < 0 ∧ (if (andI (shrI mask i) 1) = 1 then (out.length + 1 ≤ 68719476736 ∧ (Zgd (out ++ [i]) mask (w (i + 1)) = some r)) else (Zgd out mask (w (i + 1)) = some r))) else (some (.own 0, [.arr 3 1 true (out.map ic)]) = some r))) else (some (.own 0, [.arr 3 1 true (out.map ic)]) = some r))) : Zgd out mask i = some r := by
  unfold Zgd
  rw [EvL_eq Zqq.eq_1]
  simp only [Zx, mpl, dfs] at h
  try simp only [itb] at h
  try simp only [itf, List.getElem?_eq_some_iff, kk] at h
  rcases h with ⟨q1, v1_0, q2, (⟨q3, q4, (⟨q5, q6, h⟩ | ⟨q5, h⟩)⟩ | ⟨q3, h⟩)⟩ | ⟨q1, h⟩
  all_goals (refine Eq.trans ?_ h; clear h; simp +decide [*, kk, Zgd, Zwi, Zqr])
theorem Z9u (a : Int) (r : AV × List Blk) (h : (Zgd ([] : List Int) a 0 = some r)) : Zkz a = some r := by
  unfold Zkz
  refine run Z6p rfl ?_
  refine Eq.trans ?_ h; clear h; simp +decide [*, kk, Zwj, Zgd]
theorem Z9v (a : Int) (r : AV × List Blk) (h : (some (.agg [.own 0], [.arr 142 3 true (([(⟨1, a, 0⟩ : Zc)]).map Zc.c)]) = some r)) : Zk0 a = some r := by
  unfold Zk0
  refine run Z6q rfl ?_
  refine Eq.trans ?_ h; clear h; simp +decide [*, kk, Zwk]
theorem Zy7 (l : List Za) (mask : Int) (best : Int) (i : Int) (r : AV × List Blk) (h : (if i < (l.length : Int) then (0 ≤ i ∧ (∃ (e1 : Za), l[i.toNat]? = some e1 ∧ (if e1.Mask = mask then (if best < 0 then (Zec l mask i (w (i + 1)) = some r) else (0 ≤ best ∧ (∃ (e2 : Za), l[best.toNat]? = some e2 ∧ (if e1.Cost < e2.Cost then (Zec l mask i (w (i + 1)) = some r) else (Zec l mask best (w (i + 1)) = some r))))) else (Zec l mask best (w (i + 1)) = some r)))) else (some (I best, []) = some r))) : Zec l mask best i = some r := by
  unfold Zec
  rw [EvL_eq Zqs.eq_1]
  try simp only [itb] at h
  try simp only [itf, List.getElem?_eq_some_iff, kk] at h
  rcases h with ⟨q1, q2, e1, ⟨g3, q3⟩, (⟨q4, (⟨q5, h⟩ | ⟨q5, q6, e2, ⟨g7, q7⟩, (⟨q8, h⟩ | ⟨q8, h⟩)⟩)⟩ | ⟨q4, h⟩)⟩ | ⟨q1, h⟩
  all_goals (refine Eq.trans ?_ h; clear h; simp +decide [*, kk, Zec, Zwl, Zqt])
theorem Z9w (a : List Za) (a1 : Int) (r : AV × List Blk) (h : (Zec a a1 (-1) 0 = some r)) : Zeb a a1 = some r := by
  unfold Zeb
  refine run Z6r rfl ?_
  refine Eq.trans ?_ h; clear h; simp +decide [*, kk, Zwm, Zec]
theorem Z9x (a : Plan) (a1 : Plan) (a2 : Int) (a3 : Int) (r : AV × List Blk) (h : (a.Steps.length ≤ 68719476736 ∧ (a.Steps.length + a1.Steps.length ≤ 68719476736 ∧ (a.Steps.length + a1.Steps.length + 1 ≤ 68719476736 ∧ (some (.agg [.own 0], [.arr 142 3 true (((a.Steps ++ a1.Steps) ++ [(⟨a2, 0, a3⟩ : Zc)]).map Zc.c)]) = some r))))) : Zci a a1 a2 a3 = some r := by
  unfold Zci
  refine run Z6s rfl ?_
  rcases h with ⟨q1, q2, q3, h⟩
  all_goals (refine Eq.trans ?_ h; clear h; simp +decide [*, kk, Zwn])
theorem Z9y (x : List Int) (x1 : List Za) (a : Zd) (a1 : Za) (a2 : Za) (a3 : Int) (a4 : Int) (a5 : Int) (r : AV × List Blk) (h : (∃ (v1_0 : Zh), Zch a a3 = some (.agg (v1_0.c.map .t), []) ∧ (0 ≤ a1.Mask ∧ (∃ (e2 : Int), x[a1.Mask.toNat]? = some e2 ∧ (0 ≤ a2.Mask ∧ (∃ (e3 : Int), x[a2.Mask.toNat]? = some e3 ∧ (0 ≤ (orI a1.Mask a2.Mask) ∧ (∃ (e4 : Int), x[(orI a1.Mask a2.Mask).toNat]? = some e4 ∧ (∃ (v5_0 : Int), Zbp v1_0 e2 e3 e4 = some (I v5_0, []) ∧ (0 ≤ (w (a5 + 1)) ∧ (∃ (e6 : Za), x1[(w (a5 + 1)).toNat]? = some e6 ∧ (if e6.Mask = 0 then (∃ (v7_0 : List Zc), Zci a1.Plan a2.Plan a3 a4 = some (.agg [.own 0], [.arr 142 3 true (v7_0.map Zc.c)]) ∧ (some (.tup [], [.arr 3 1 true (x.map ic), .arr 174 4 true ((x1.set ((w (a5 + 1)).toNat) (⟨(orI a1.Mask a2.Mask), a5, (w ((w (a1.Cost + a2.Cost)) + v5_0)), (⟨v7_0⟩ : Plan)⟩ : Za)).map Za.c)]) = some r)) else (if (w ((w (a1.Cost + a2.Cost)) + v5_0)) < e6.Cost then (∃ (v8_0 : List Zc), Zci a1.Plan a2.Plan a3 a4 = some (.agg [.own 0], [.arr 142 3 true (v8_0.map Zc.c)]) ∧ (some (.tup [], [.arr 3 1 true (x.map ic), .arr 174 4 true ((x1.set ((w (a5 + 1)).toNat) (⟨(orI a1.Mask a2.Mask), a5, (w ((w (a1.Cost + a2.Cost)) + v5_0)), (⟨v8_0⟩ : Plan)⟩ : Za)).map Za.c)]) = some r)) else (some (.tup [], [.arr 3 1 true (x.map ic), .arr 174 4 true (x1.map Za.c)]) = some r)))))))))))))) : Ze8 x x1 a a1 a2 a3 a4 a5 = some r := by
  unfold Ze8
  refine runM Zmv rfl ?_
  simp only [Zch, Zbp, Zci, Zd.c_def, Zh.c_def, Plan.c_def, mpl, dfs] at h
  try simp only [itb] at h
  try simp only [itf, List.getElem?_eq_some_iff, kk] at h
  rcases h with ⟨v1_0, q1, q2, e2, ⟨g3, q3⟩, q4, e3, ⟨g5, q5⟩, q6, e4, ⟨g7, q7⟩, v5_0, q8, q9, e6, ⟨g10, q10⟩, (⟨q11, v7_0, q12, h⟩ | ⟨q11, (⟨q13, v8_0, q14, h⟩ | ⟨q13, h⟩)⟩)⟩
  all_goals (refine Eq.trans ?_ h; clear h; simp +decide [*, kk, Zk1])
theorem Zy8 (l : List Za) (mask : Int) (order : Int) (i : Int) (r : AV × List Blk) (h : (if i < (l.length : Int) then (0 ≤ i ∧ (∃ (e1 : Za), l[i.toNat]? = some e1 ∧ (if e1.Mask = mask then (if e1.Order = order then (some (I i, []) = some r) else (Zge l mask order (w (i + 1)) = some r)) else (Zge l mask order (w (i + 1)) = some r)))) else (some (I (-1), []) = some r))) : Zge l mask order i = some r := by
  unfold Zge
  rw [EvL_eq Zqu.eq_1]
  try simp only [itb] at h
  try simp only [itf, List.getElem?_eq_some_iff, kk] at h
  rcases h with ⟨q1, q2, e1, ⟨g3, q3⟩, (⟨q4, (⟨q5, h⟩ | ⟨q5, h⟩)⟩ | ⟨q4, h⟩)⟩ | ⟨q1, h⟩
  all_goals (refine Eq.trans ?_ h; clear h; simp +decide [*, kk, Zge, Zqv])
theorem Z9z (a : List Za) (a1 : Int) (a2 : Int) (r : AV × List Blk) (h : (Zge a a1 a2 0 = some r)) : Zh1 a a1 a2 = some r := by
  unfold Zh1
  refine run Z6t rfl ?_
  refine Eq.trans ?_ h; clear h; simp +decide [*, kk, Zwo, Zge]
theorem Z90 (a : Plan) (a1 : Int) (r : AV × List Blk) (h : (a.Steps.length ≤ 68719476736 ∧ (a.Steps.length + 1 ≤ 68719476736 ∧ (some (.agg [.own 0], [.arr 142 3 true ((a.Steps ++ [(⟨2, 0, a1⟩ : Zc)]).map Zc.c)]) = some r)))) : Ziw a a1 = some r := by
  unfold Ziw
  refine run Z6u rfl ?_
  rcases h with ⟨q1, q2, h⟩
  all_goals (refine Eq.trans ?_ h; clear h; simp +decide [*, kk, Zwp])
theorem Z91 (x : List Int) (x1 : List Za) (x2 : List Zc) (a : Zd) (a1 : Za) (Mask : Int) (Order : Int) (Cost : Int) (a2 : Int) (a3 : Int) (a4 : Int) (r : AV × List Blk) (h : (∃ (v1_0 : Zh), Zch a a2 = some (.agg (v1_0.c.map .t), []) ∧ (0 ≤ a1.Mask ∧ (∃ (e2 : Int), x[a1.Mask.toNat]? = some e2 ∧ (0 ≤ Mask ∧ (∃ (e3 : Int), x[Mask.toNat]? = some e3 ∧ (0 ≤ (orI a1.Mask Mask) ∧ (∃ (e4 : Int), x[(orI a1.Mask Mask).toNat]? = some e4 ∧ (∃ (v5_0 : Int), Zbp v1_0 e2 e3 e4 = some (I v5_0, []) ∧ (0 ≤ (w (a4 + 1)) ∧ (∃ (e6 : Za), x1[(w (a4 + 1)).toNat]? = some e6 ∧ (if e6.Mask = 0 then (∃ (v7_0 : List Zc), Zci a1.Plan (⟨x2⟩ : Plan) a2 a3 = some (.agg [.own 0], [.arr 142 3 true (v7_0.map Zc.c)]) ∧ (some (.tup [], [.arr 3 1 true (x.map ic), .arr 174 4 true ((x1.set ((w (a4 + 1)).toNat) (⟨(orI a1.Mask Mask), a4, (w ((w (a1.Cost + Cost)) + v5_0)), (⟨v7_0⟩ : Plan)⟩ : Za)).map Za.c), .arr 142 3 true (x2.map Zc.c)]) = some r)) else (if (w ((w (a1.Cost + Cost)) + v5_0)) < e6.Cost then (∃ (v8_0 : List Zc), Zci a1.Plan (⟨x2⟩ : Plan) a2 a3 = some (.agg [.own 0], [.arr 142 3 true (v8_0.map Zc.c)]) ∧ (some (.tup [], [.arr 3 1 true (x.map ic), .arr 174 4 true ((x1.set ((w (a4 + 1)).toNat) (⟨(orI a1.Mask Mask), a4, (w ((w (a1.Cost + Cost)) + v5_0)), (⟨v8_0⟩ : Plan)⟩ : Za)).map Za.c), .arr 142 3 true (x2.map Zc.c)]) = some r)) else (some (.tup [], [.arr 3 1 true (x.map ic), .arr 174 4 true (x1.map Za.c), .arr 142 3 true (x2.map Zc.c)]) = some r)))))))))))))) : Zk2 x x1 x2 a a1 Mask Order Cost a2 a3 a4 = some r := by
  unfold Zk2
  refine runM Zmv rfl ?_
  simp only [Zch, Zbp, Zci, Zd.c_def, Zh.c_def, Plan.c_def, mpl, dfs] at h
  try simp only [itb] at h
  try simp only [itf, List.getElem?_eq_some_iff, kk] at h
  rcases h with ⟨v1_0, q1, q2, e2, ⟨g3, q3⟩, q4, e3, ⟨g5, q5⟩, q6, e4, ⟨g7, q7⟩, v5_0, q8, q9, e6, ⟨g10, q10⟩, (⟨q11, v7_0, q12, h⟩ | ⟨q11, (⟨q13, v8_0, q14, h⟩ | ⟨q13, h⟩)⟩)⟩
  all_goals (refine Eq.trans ?_ h; clear h; simp +decide [*, kk, Zk1])
theorem Z92 (x : List Int) (x1 : List Za) (x2 : List Zc) (a : Zd) (Mask : Int) (Order : Int) (Cost : Int) (a1 : Za) (a2 : Int) (a3 : Int) (a4 : Int) (r : AV × List Blk) (h : (∃ (v1_0 : Zh), Zch a a2 = some (.agg (v1_0.c.map .t), []) ∧ (0 ≤ Mask ∧ (∃ (e2 : Int), x[Mask.toNat]? = some e2 ∧ (0 ≤ a1.Mask ∧ (∃ (e3 : Int), x[a1.Mask.toNat]? = some e3 ∧ (0 ≤ (orI Mask a1.Mask) ∧ (∃ (e4 : Int), x[(orI Mask a1.Mask).toNat]? = some e4 ∧ (∃ (v5_0 : Int), Zbp v1_0 e2 e3 e4 = some (I v5_0, []) ∧ (0 ≤ (w (a4 + 1)) ∧ (∃ (e6 : Za), x1[(w (a4 + 1)).toNat]? = some e6 ∧ (if e6.Mask = 0 then (∃ (v7_0 : List Zc), Zci (⟨x2⟩ : Plan) a1.Plan a2 a3 = some (.agg [.own 0], [.arr 142 3 true (v7_0.map Zc.c)]) ∧ (some (.tup [], [.arr 3 1 true (x.map ic), .arr 174 4 true ((x1.set ((w (a4 + 1)).toNat) (⟨(orI Mask a1.Mask), a4, (w ((w (Cost + a1.Cost)) + v5_0)), (⟨v7_0⟩ : Plan)⟩ : Za)).map Za.c), .arr 142 3 true (x2.map Zc.c)]) = some r)) else (if (w ((w (Cost + a1.Cost)) + v5_0)) < e6.Cost then (∃ (v8_0 : List Zc), Zci (⟨x2⟩ : Plan) a1.Plan a2 a3 = some (.agg [.own 0], [.arr 142 3 true (v8_0.map Zc.c)]) ∧ (some (.tup [], [.arr 3 1 true (x.map ic), .arr 174 4 true ((x1.set ((w (a4 + 1)).toNat) (⟨(orI Mask a1.Mask), a4, (w ((w (Cost + a1.Cost)) + v5_0)), (⟨v8_0⟩ : Plan)⟩ : Za)).map Za.c), .arr 142 3 true (x2.map Zc.c)]) = some r)) else (some (.tup [], [.arr 3 1 true (x.map ic), .arr 174 4 true (x1.map Za.c), .arr 142 3 true (x2.map Zc.c)]) = some r)))))))))))))) : Zk3 x x1 x2 a Mask Order Cost a1 a2 a3 a4 = some r := by
  unfold Zk3
  refine runM Zmv rfl ?_
  simp only [Zch, Zbp, Zci, Zd.c_def, Zh.c_def, Plan.c_def, mpl, dfs] at h
  try simp only [itb] at h
  try simp only [itf, List.getElem?_eq_some_iff, kk] at h
  rcases h with ⟨v1_0, q1, q2, e2, ⟨g3, q3⟩, q4, e3, ⟨g5, q5⟩, q6, e4, ⟨g7, q7⟩, v5_0, q8, q9, e6, ⟨g10, q10⟩, (⟨q11, v7_0, q12, h⟩ | ⟨q11, (⟨q13, v8_0, q14, h⟩ | ⟨q13, h⟩)⟩)⟩
  all_goals (refine Eq.trans ?_ h; clear h; simp +decide [*, kk, Zk1])
theorem Z93 (x : List Int) (x1 : List Za) (x2 : List Zc) (x3 : List Zc) (a : Zd) (Mask : Int) (Order : Int) (Cost : Int) (Mask1 : Int) (Order1 : Int) (Cost1 : Int) (a1 : Int) (a2 : Int) (a3 : Int) (r : AV × List Blk) (h : (∃ (v1_0 : Zh), Zch a a1 = some (.agg (v1_0.c.map .t), []) ∧ (0 ≤ Mask ∧ (∃ (e2 : Int), x[Mask.toNat]? = some e2 ∧ (0 ≤ Mask1 ∧ (∃ (e3 : Int), x[Mask1.toNat]? = some e3 ∧ (0 ≤ (orI Mask Mask1) ∧ (∃ (e4 : Int), x[(orI Mask Mask1).toNat]? = some e4 ∧ (∃ (v5_0 : Int), Zbp v1_0 e2 e3 e4 = some (I v5_0, []) ∧ (0 ≤ (w (a3 + 1)) ∧ (∃ (e6 : Za), x1[(w (a3 + 1)).toNat]? = some e6 ∧ (if e6.Mask = 0 then (∃ (v7_0 : List Zc), Zci (⟨x2⟩ : Plan) (⟨x3⟩ : Plan) a1 a2 = some (.agg [.own 0], [.arr 142 3 true (v7_0.map Zc.c)]) ∧ (some (.tup [], [.arr 3 1 true (x.map ic), .arr 174 4 true ((x1.set ((w (a3 + 1)).toNat) (⟨(orI Mask Mask1), a3, (w ((w (Cost + Cost1)) + v5_0)), (⟨v7_0⟩ : Plan)⟩ : Za)).map Za.c), .arr 142 3 true (x2.map Zc.c), .arr 142 3 true (x3.map Zc.c)]) = some r)) else (if (w ((w (Cost + Cost1)) + v5_0)) < e6.Cost then (∃ (v8_0 : List Zc), Zci (⟨x2⟩ : Plan) (⟨x3⟩ : Plan) a1 a2 = some (.agg [.own 0], [.arr 142 3 true (v8_0.map Zc.c)]) ∧ (some (.tup [], [.arr 3 1 true (x.map ic), .arr 174 4 true ((x1.set ((w (a3 + 1)).toNat) (⟨(orI Mask Mask1), a3, (w ((w (Cost + Cost1)) + v5_0)), (⟨v8_0⟩ : Plan)⟩ : Za)).map Za.c), .arr 142 3 true (x2.map Zc.c), .arr 142 3 true (x3.map Zc.c)]) = some r)) else (some (.tup [], [.arr 3 1 true (x.map ic), .arr 174 4 true (x1.map Za.c), .arr 142 3 true (x2.map Zc.c), .arr 142 3 true (x3.map Zc.c)]) = some r)))))))))))))) : Zk4 x x1 x2 x3 a Mask Order Cost Mask1 Order1 Cost1 a1 a2 a3 = some r := by
  unfold Zk4
  refine runM Zmv rfl ?_
  simp only [Zch, Zbp, Zci, Zd.c_def, Zh.c_def, Plan.c_def, mpl, dfs] at h
  try simp only [itb] at h
  try simp only [itf, List.getElem?_eq_some_iff, kk] at h
  rcases h with ⟨v1_0, q1, q2, e2, ⟨g3, q3⟩, q4, e3, ⟨g5, q5⟩, q6, e4, ⟨g7, q7⟩, v5_0, q8, q9, e6, ⟨g10, q10⟩, (⟨q11, v7_0, q12, h⟩ | ⟨q11, (⟨q13, v8_0, q14, h⟩ | ⟨q13, h⟩)⟩)⟩
  all_goals (refine Eq.trans ?_ h; clear h; simp +decide [*, kk, Zk1])
theorem Zru (x : List Int) (fr : Bool) (x1 : List Za) (a : Zd) (a1 : Int) (a2 : Int) (r : AV × List Blk) (h : (∃ (v1_0 : Int), Zeb x1 a1 = some (I v1_0, []) ∧ (0 ≤ v1_0 ∧ (∃ (e2 : Za), x1[v1_0.toNat]? = some e2 ∧ (0 ≤ a1 ∧ (∃ (e3 : Int), x[a1.toNat]? = some e3 ∧ (∃ (v4_0 : Int), Zbp a.Sort_ e3 0 e3 = some (I v4_0, []) ∧ (∃ (v5_0 : Int), Zh1 x1 a1 a2 = some (I v5_0, []) ∧ (if 0 ≤ v5_0 then (∃ (e6 : Za), x1[v5_0.toNat]? = some e6 ∧ (if e6.Cost ≤ (w (e2.Cost + v4_0)) then (some (.agg (e6.c.map .t), [.arr 3 1 true (x.map ic), .arr 174 4 fr (x1.map Za.c)]) = some r) else (∃ (v7_0 : List Zc), Ziw e2.Plan a2 = some (.agg [.own 0], [.arr 142 3 true (v7_0.map Zc.c)]) ∧ (some (.agg [I a1, I a2, I (w (e2.Cost + v4_0)), .own 2], [.arr 3 1 true (x.map ic), .arr 174 4 fr (x1.map Za.c), .arr 142 3 true (v7_0.map Zc.c)]) = some r)))) else (∃ (v8_0 : List Zc), Ziw e2.Plan a2 = some (.agg [.own 0], [.arr 142 3 true (v8_0.map Zc.c)]) ∧ (some (.agg [I a1, I a2, I (w (e2.Cost + v4_0)), .own 2], [.arr 3 1 true (x.map ic), .arr 174 4 fr (x1.map Za.c), .arr 142 3 true (v8_0.map Zc.c)]) = some r))))))))))) : Zdt x fr x1 a a1 a2 = some r := by
  unfold Zdt
  refine runM Z6v rfl ?_
  simp only [Zeb, Zbp, Zh1, Ziw, Zh.c_def, Plan.c_def, Za.c_def, mpl, dfs] at h
  try simp only [itb] at h
  try simp only [itf, List.getElem?_eq_some_iff, kk] at h
  rcases h with ⟨v1_0, q1, q2, e2, ⟨g3, q3⟩, q4, e3, ⟨g5, q5⟩, v4_0, q6, v5_0, q7, (⟨q8, e6, ⟨g9, q9⟩, (⟨q10, h⟩ | ⟨q10, v7_0, q11, h⟩)⟩ | ⟨q8, v8_0, q12, h⟩)⟩
  all_goals (refine Eq.trans ?_ h; clear h; simp +decide [*, kk, Zwq])
end Go.Proofs.YtbapkgocloaaeaaGreat
/- part: G12 -/
namespace Go.Proofs.YtbapkgocloaaeaaGreat
open Go.AM
theorem Zy9 (sizes : List Int) (fr : Bool) (l : List Za) (m : Zd) (x : Zq) (mine : List Za) (k : Int) (r : AV × List Blk) (h : (if k < (x.Zo.length : Int) then (0 ≤ k ∧ (∃ (e1 : Int), x.Zo[k.toNat]? = some e1 ∧ (∃ (v2_0 : Int), Zeb l e1 = some (I v2_0, []) ∧ (0 ≤ v2_0 ∧ (∃ (e3 : Za), l[v2_0.toNat]? = some e3 ∧ (∃ (v4_0 : Int), Zeb l (w (x.mask - e1)) = some (I v4_0, []) ∧ (0 ≤ v4_0 ∧ (∃ (e5 : Za), l[v4_0.toNat]? = some e5 ∧ (∃ (v6_0 : List Int) (v6_1 : List Za), Ze8 sizes mine m e3 e5 3 0 (-1) = some (.tup [], [.arr 3 1 true (v6_0.map ic), .arr 174 4 true (v6_1.map Za.c)]) ∧ (Zgg v6_0 fr l m x v6_1 e5 k e1 (w (x.mask - e1)) (-1) = some r)))))))))) else (Ze9 mine true ([] : List Za) sizes fr l 0 = some r))) : Zgf sizes fr l m x mine k = some r := by
  unfold Zgf
  rw [EvL_eq Zk5.eq_1]
  simp only [Zeb, Ze8, Zd.c_def, Zh.c_def, Plan.c_def, Za.c_def, mpl, dfs] at h
  try simp only [itb] at h
  try simp only [itf, List.getElem?_eq_some_iff, kk] at h
  rcases h with ⟨q1, q2, e1, ⟨g3, q3⟩, v2_0, q4, q5, e3, ⟨g6, q6⟩, v4_0, q7, q8, e5, ⟨g9, q9⟩, v6_0, v6_1, q10, h⟩ | ⟨q1, h⟩
  all_goals (refine Eq.trans ?_ h; clear h; simp +decide [*, kk, Zgg, Ze9, Zk6])
theorem Zza (sizes : List Int) (fr : Bool) (l : List Za) (m : Zd) (x : Zq) (mine : List Za) (b : Za) (k : Int) (left : Int) (right : Int) (o : Int) (r : AV × List Blk) (h : (if o < 4 then (∃ (v1_0 : Int), Zh1 l left o = some (I v1_0, []) ∧ (if 0 ≤ v1_0 then (∃ (e2 : Za), l[v1_0.toNat]? = some e2 ∧ (∃ (v3_0 : List Int) (v3_1 : List Za), Ze8 sizes mine m e2 b 5 0 o = some (.tup [], [.arr 3 1 true (v3_0.map ic), .arr 174 4 true (v3_1.map Za.c)]) ∧ (Zgg v3_0 fr l m x v3_1 b k left right (w (o + 1)) = some r))) else (Zgg sizes fr l m x mine b k left right (w (o + 1)) = some r))) else (Zdu sizes fr l m x mine k left right 0 = some r))) : Zgg sizes fr l m x mine b k left right o = some r := by
  unfold Zgg
  rw [EvL_eq Zqw.eq_1]
  simp only [Zh1, Ze8, Zd.c_def, Zh.c_def, Plan.c_def, Za.c_def, mpl, dfs] at h
  try simp only [itb] at h
  try simp only [itf, List.getElem?_eq_some_iff, kk] at h
  rcases h with ⟨q1, v1_0, q2, (⟨q3, e2, ⟨g4, q4⟩, v3_0, v3_1, q5, h⟩ | ⟨q3, h⟩)⟩ | ⟨q1, h⟩
  all_goals (refine Eq.trans ?_ h; clear h; simp +decide [*, kk, Zgg, Zwr, Zdu, Zqy])
theorem Zrv (mine : List Za) (fr : Bool) (out : List Za) (x : List Int) (fr1 : Bool) (x1 : List Za) (o : Int) (r : AV × List Blk) (h : (if o ≤ 4 then (0 ≤ o ∧ (∃ (e1 : Za), mine[o.toNat]? = some e1 ∧ (if 0 < e1.Mask then (out.length + 1 ≤ 68719476736 ∧ (Ze9 mine false (out ++ [e1]) x fr1 x1 (w (o + 1)) = some r)) else (Ze9 mine fr out x fr1 x1 (w (o + 1)) = some r)))) else (some (.own 2, [.arr 3 1 true (x.map ic), .arr 174 4 fr1 (x1.map Za.c), .arr 174 4 fr (out.map Za.c)]) = some r))) : Ze9 mine fr out x fr1 x1 o = some r := by
  unfold Ze9
  rw [EvL_eq Zqz.eq_1]
  try simp only [itb] at h
  try simp only [itf, List.getElem?_eq_some_iff, kk] at h
  rcases h with ⟨q1, q2, e1, ⟨g3, q3⟩, (⟨q4, q5, h⟩ | ⟨q4, h⟩)⟩ | ⟨q1, h⟩
  all_goals (refine Eq.trans ?_ h; clear h; simp +decide [*, kk, Ze9, Zws, Zq0])
theorem Zzb (sizes : List Int) (fr : Bool) (l : List Za) (m : Zd) (x : Zq) (mine : List Za) (k : Int) (left : Int) (right : Int) (e : Int) (r : AV × List Blk) (h : (0 ≤ k ∧ (∃ (e1 : List Int), x.shared[k.toNat]? = some e1 ∧ (if e < (e1.length : Int) then (0 ≤ e ∧ (∃ (e2 : Int), e1[e.toNat]? = some e2 ∧ ((∃ (v3_0 : Za), Zdt sizes fr l m left e2 = some (.agg (v3_0.c.map .t), [.arr 3 1 true (sizes.map ic), .arr 174 4 fr (l.map Za.c)]) ∧ ((∃ (v4_0 : Za), Zdt sizes fr l m right e2 = some (.agg (v4_0.c.map .t), [.arr 3 1 true (sizes.map ic), .arr 174 4 fr (l.map Za.c)]) ∧ (∃ (v5_0 : List Int) (v5_1 : List Za), Ze8 sizes mine m v3_0 v4_0 4 e2 e2 = some (.tup [], [.arr 3 1 true (v5_0.map ic), .arr 174 4 true (v5_1.map Za.c)]) ∧ (Zdu v5_0 fr l m x v5_1 k left right (w (e + 1)) = some r))) ∨ (∃ (v6_0 : List Zc) (v6_1 : Int) (v6_2 : Int) (v6_3 : Int), Zdt sizes fr l m right e2 = some (.agg [I v6_1, I v6_2, I v6_3, .own 2], [.arr 3 1 true (sizes.map ic), .arr 174 4 fr (l.map Za.c), .arr 142 3 true (v6_0.map Zc.c)]) ∧ (∃ (v7_0 : List Int) (v7_1 : List Za) (v7_2 : List Zc), Zk2 sizes mine v6_0 m v3_0 v6_1 v6_2 v6_3 4 e2 e2 = some (.tup [], [.arr 3 1 true (v7_0.map ic), .arr 174 4 true (v7_1.map Za.c), .arr 142 3 true (v7_2.map Zc.c)]) ∧ (Zdu v7_0 fr l m x v7_1 k left right (w (e + 1)) = some r))))) ∨ (∃ (v8_0 : List Zc) (v8_1 : Int) (v8_2 : Int) (v8_3 : Int), Zdt sizes fr l m left e2 = some (.agg [I v8_1, I v8_2, I v8_3, .own 2], [.arr 3 1 true (sizes.map ic), .arr 174 4 fr (l.map Za.c), .arr 142 3 true (v8_0.map Zc.c)]) ∧ ((∃ (v9_0 : Za), Zdt sizes fr l m right e2 = some (.agg (v9_0.c.map .t), [.arr 3 1 true (sizes.map ic), .arr 174 4 fr (l.map Za.c)]) ∧ (∃ (v10_0 : List Int) (v10_1 : List Za) (v10_2 : List Zc), Zk3 sizes mine v8_0 m v8_1 v8_2 v8_3 v9_0 4 e2 e2 = some (.tup [], [.arr 3 1 true (v10_0.map ic), .arr 174 4 true (v10_1.map Za.c), .arr 142 3 true (v10_2.map Zc.c)]) ∧ (Zdu v10_0 fr l m x v10_1 k left right (w (e + 1)) = some r))) ∨ (∃ (v11_0 : List Zc) (v11_1 : Int) (v11_2 : Int) (v11_3 : Int), Zdt sizes fr l m right e2 = some (.agg [I v11_1, I v11_2, I v11_3, .own 2], [.arr 3 1 true (sizes.map ic), .arr 174 4 fr (l.map Za.c), .arr 142 3 true (v11_0.map Zc.c)]) ∧ (∃ (v12_0 : List Int) (v12_1 : List Za) (v12_2 : List Zc) (v12_3 : List Zc), Zk4 sizes mine v8_0 v11_0 m v8_1 v8_2 v8_3 v11_1 v11_2 v11_3 4 e2 e2 = some (.tup [], [.arr 3 1 true (v12_0.map ic), .arr 174 4 true (v12_1.map Za.c), .arr 142 3 true (v12_2.map Zc.c), .arr 142 3 true (v12_3.map Zc.c)]) ∧ (Zdu v12_0 fr l m x v12_1 k left right (w (e + 1)) = some r)))))))) else (Zgf sizes fr l m x mine (w (k + 1)) = some r))))) : Zdu sizes fr l m x mine k left right e = some r := by
  unfold Zdu
  rw [EvL_eq Zqx.eq_1]
  simp only [Zdt, Ze8, Zk2, Zk3, Zk4, Zd.c_def, Zh.c_def, Plan.c_def, Za.c_def, Zc.c_def, mpl, dfs] at h
  try simp only [itb] at h
  try simp only [itf, List.getElem?_eq_some_iff, kk] at h
  rcases h with ⟨q1, e1, ⟨g2, q2⟩, (⟨q3, q4, e2, ⟨g5, q5⟩, (⟨v3_0, q7, (⟨v4_0, q9, v5_0, v5_1, q10, h⟩ | ⟨v6_0, v6_1, v6_2, v6_3, q11, v7_0, v7_1, v7_2, q12, h⟩)⟩ | ⟨v8_0, v8_1, v8_2, v8_3, q13, (⟨v9_0, q15, v10_0, v10_1, v10_2, q16, h⟩ | ⟨v11_0, v11_1, v11_2, v11_3, q17, v12_0, v12_1, v12_2, v12_3, q18, h⟩)⟩)⟩ | ⟨q3, h⟩)⟩
  all_goals (refine Eq.trans ?_ h; clear h; simp +decide [*, kk, Zdu, Zgf, Zms])
theorem Z94 (x : List Int) (fr : Bool) (x1 : List Za) (a : Zd) (a1 : Zq) (r : AV × List Blk) (h : (Zgf x fr x1 a a1 (List.replicate 5 (⟨0, 0, 0, (⟨[]⟩ : Plan)⟩ : Za)) 0 = some r)) : Zk7 x fr x1 a a1 = some r := by
  unfold Zk7
  refine runM Z6w rfl ?_
  refine Eq.trans ?_ h; clear h; simp +decide [*, kk, Zwt, Zgf]
theorem Zrw (shapes : List Zq) (sizes : List Int) (m : Zd) (q : Zb) (fr : Bool) (out : List Za) (i : Int) (r : AV × List Blk) (h : (if i < (shapes.length : Int) then (0 ≤ i ∧ (∃ (e1 : Zq), shapes[i.toNat]? = some e1 ∧ (if (andI e1.mask (w (e1.mask - 1))) = 0 then (∃ (v2_0 : List Int), Zkz e1.mask = some (.own 0, [.arr 3 1 true (v2_0.map ic)]) ∧ (∃ (e3 : Int), v2_0[0]? = some e3 ∧ (0 ≤ e3 ∧ (∃ (e4 : Atom), q.Atoms[e3.toNat]? = some e4 ∧ (∃ (e5 : Int), e4.Vars[0]? = some e5 ∧ (0 ≤ e1.mask ∧ (∃ (e6 : Int), sizes[e1.mask.toNat]? = some e6 ∧ (∃ (v7_0 : Int), Zbp m.Scan e6 0 e6 = some (I v7_0, []) ∧ (∃ (v8_0 : List Zc), Zk0 e3 = some (.agg [.own 0], [.arr 142 3 true (v8_0.map Zc.c)]) ∧ (out.length + 1 ≤ 68719476736 ∧ (Zgh shapes sizes m q fr (out ++ [(⟨e1.mask, e5, v7_0, (⟨v8_0⟩ : Plan)⟩ : Za)]) (w (i + 1)) = some r))))))))))) else (∃ (v9_0 : Bool) (v9_1 : List Za), Zk7 sizes fr out m e1 = some (.own 2, [.arr 3 1 true (sizes.map ic), .arr 174 4 fr (out.map Za.c), .arr 174 4 v9_0 (v9_1.map Za.c)]) ∧ (out.length + v9_1.length ≤ 68719476736 ∧ (Zgh shapes sizes m q (fr && flat (v9_1.map Za.c)) (out ++ v9_1) (w (i + 1)) = some r)))))) else (some (.own 2, [.arr 242 3 true (shapes.map Zq.c), .arr 3 1 true (sizes.map ic), .arr 174 4 fr (out.map Za.c)]) = some r))) : Zgh shapes sizes m q fr out i = some r := by
  unfold Zgh
  rw [EvL_eq Zq1.eq_1]
  simp only [Zkz, Zbp, Zk0, Zk7, Zq.c_def, Zd.c_def, Zh.c_def, Plan.c_def, Za.c_def, mpl, dfs] at h
  try simp only [itb] at h
  try simp only [itf, List.getElem?_eq_some_iff, kk] at h
  rcases h with ⟨q1, q2, e1, ⟨g3, q3⟩, (⟨q4, v2_0, q5, e3, ⟨g6, q6⟩, q7, e4, ⟨g8, q8⟩, e5, ⟨g9, q9⟩, q10, e6, ⟨g11, q11⟩, v7_0, q12, v8_0, q13, q14, h⟩ | ⟨q4, v9_0, v9_1, q15, q16, h⟩)⟩ | ⟨q1, h⟩
  all_goals (refine Eq.trans ?_ h; clear h; simp +decide [*, kk, Zgh, Zwu, Zq2])
theorem Z95 (x : List Zq) (x1 : List Int) (a : Zd) (a1 : Zb) (r : AV × List Blk) (h : (Zgh x x1 a a1 true ([] : List Za) 0 = some r)) : Zk8 x x1 a a1 = some r := by
  unfold Zk8
  refine runM Z6x rfl ?_
  refine Eq.trans ?_ h; clear h; simp +decide [*, kk, Zwv, Zgh]
theorem Z96 (a : List Za) (a1 : Int) (r : AV × List Blk) (h : (∃ (v1_0 : Int), Zeb a a1 = some (I v1_0, []) ∧ (if v1_0 < 0 then (some (.tup [.agg [I 0, I 0, I 0, .t .nil], Bo false], []) = some r) else (0 ≤ v1_0 ∧ (∃ (e2 : Za), a[v1_0.toNat]? = some e2 ∧ (e2.Plan.Steps.length ≤ 68719476736 ∧ (some (.tup [.agg [I e2.Mask, I e2.Order, I e2.Cost, .own 0], Bo true], [.arr 142 3 true (e2.Plan.Steps.map Zc.c)]) = some r))))))) : Zix a a1 = some r := by
  unfold Zix
  refine run Z6y rfl ?_
  simp only [Zeb, Plan.c_def, Za.c_def, mpl, dfs] at h
  try simp only [itb] at h
  try simp only [itf, List.getElem?_eq_some_iff, kk] at h
  rcases h with ⟨v1_0, q1, (⟨q2, h⟩ | ⟨q2, q3, e2, ⟨g4, q4⟩, q5, h⟩)⟩
  all_goals (refine Eq.trans ?_ h; clear h; simp +decide [*, kk, Zww])
theorem Zzc (sizes : List Int) (i : Int) (r : AV × List Blk) (h : (if i < (sizes.length : Int) then (0 ≤ i ∧ (∃ (e1 : Int), sizes[i.toNat]? = some e1 ∧ (∃ (v2_0 : Bool), Zx e1 0 4096 = some (Bo v2_0, []) ∧ (if v2_0 = true then (Zh2 sizes (w (i + 1)) = some r) else (some (Bo false, []) = some r))))) else (some (Bo true, []) = some r))) : Zh2 sizes i = some r := by
  unfold Zh2
  rw [EvL_eq Zq3.eq_1]
  simp only [Zx, mpl, dfs] at h
  try simp only [itb] at h
  try simp only [itf, List.getElem?_eq_some_iff, kk] at h
  rcases h with ⟨q1, q2, e1, ⟨g3, q3⟩, v2_0, q4, (⟨q5, h⟩ | ⟨q5, h⟩)⟩ | ⟨q1, h⟩
  all_goals (refine Eq.trans ?_ h; clear h; simp +decide [*, kk, Zh2, Zq4])
theorem Z97 (a : Zb) (a1 : List Int) (r : AV × List Blk) (h : (∃ (v1_0 : Bool), Zdp a = some (Bo v1_0, []) ∧ (if v1_0 = true then (∃ (v2_0 : Int), Zdq a = some (I v2_0, []) ∧ (if (a1.length : Int) = (w (v2_0 + 1)) then (Zh2 a1 0 = some r) else (some (Bo false, []) = some r))) else (some (Bo false, []) = some r)))) : Zk9 a a1 = some r := by
  unfold Zk9
  refine run Z6z rfl ?_
  simp only [Zdp, Zdq, Zb.c_def, mpl, dfs] at h
  try simp only [itb] at h
  try simp only [itf, List.getElem?_eq_some_iff, kk] at h
  rcases h with ⟨v1_0, q1, (⟨q2, v2_0, q3, (⟨q4, h⟩ | ⟨q4, h⟩)⟩ | ⟨q2, h⟩)⟩
  all_goals (refine Eq.trans ?_ h; clear h; simp +decide [*, kk, Zwx, Zh2])
theorem Z98 (a : Zd) (a1 : Int) (a2 : List Zf) (a3 : Int) (a4 : List Int) (r : AV × List Blk) (h : (0 ≤ a3 ∧ (∃ (e1 : Zf), a2[a3.toNat]? = some e1 ∧ (∃ (v2_0 : Zh), Zch a a1 = some (.agg (v2_0.c.map .t), []) ∧ (if e1.Left < 0 then (0 ≤ e1.Mask ∧ (∃ (e3 : Int), a4[e1.Mask.toNat]? = some e3 ∧ (∃ (v4_0 : Int), Zbp v2_0 e3 0 e3 = some (I v4_0, []) ∧ (some (I v4_0, []) = some r)))) else (if e1.Right < 0 then (0 ≤ e1.Left ∧ (∃ (e5 : Zf), a2[e1.Left.toNat]? = some e5 ∧ (0 ≤ e5.Mask ∧ (∃ (e6 : Int), a4[e5.Mask.toNat]? = some e6 ∧ (0 ≤ e1.Mask ∧ (∃ (e7 : Int), a4[e1.Mask.toNat]? = some e7 ∧ (∃ (v8_0 : Int), Zbp v2_0 e6 0 e7 = some (I v8_0, []) ∧ (some (I v8_0, []) = some r)))))))) else (0 ≤ e1.Left ∧ (∃ (e9 : Zf), a2[e1.Left.toNat]? = some e9 ∧ (0 ≤ e9.Mask ∧ (∃ (e10 : Int), a4[e9.Mask.toNat]? = some e10 ∧ (0 ≤ e1.Right ∧ (∃ (e11 : Zf), a2[e1.Right.toNat]? = some e11 ∧ (0 ≤ e11.Mask ∧ (∃ (e12 : Int), a4[e11.Mask.toNat]? = some e12 ∧ (0 ≤ e1.Mask ∧ (∃ (e13 : Int), a4[e1.Mask.toNat]? = some e13 ∧ (∃ (v14_0 : Int), Zbp v2_0 e10 e12 e13 = some (I v14_0, []) ∧ (some (I v14_0, []) = some r)))))))))))))))))) : Zla a a1 a2 a3 a4 = some r := by
  unfold Zla
  refine run Z60 rfl ?_
  simp only [Zch, Zbp, Zd.c_def, Zh.c_def, mpl, dfs] at h
  try simp only [itb] at h
  try simp only [itf, List.getElem?_eq_some_iff, kk] at h
  rcases h with ⟨q1, e1, ⟨g2, q2⟩, v2_0, q3, (⟨q4, q5, e3, ⟨g6, q6⟩, v4_0, q7, h⟩ | ⟨q4, (⟨q8, q9, e5, ⟨g10, q10⟩, q11, e6, ⟨g12, q12⟩, q13, e7, ⟨g14, q14⟩, v8_0, q15, h⟩ | ⟨q8, q16, e9, ⟨g17, q17⟩, q18, e10, ⟨g19, q19⟩, q20, e11, ⟨g21, q21⟩, q22, e12, ⟨g23, q23⟩, q24, e13, ⟨g25, q25⟩, v14_0, q26, h⟩)⟩)⟩
  all_goals (refine Eq.trans ?_ h; clear h; simp +decide [*, kk, Zwy])
theorem Zzd (m : Zd) (p : Plan) (out : List Int) (info : List Zf) (sizes : List Int) (i : Int) (r : AV × List Blk) (h : (if i < (info.length : Int) then (0 ≤ i ∧ (∃ (e1 : Zc), p.Steps[i.toNat]? = some e1 ∧ (∃ (v2_0 : Int), Zla m e1.Kind info i sizes = some (I v2_0, []) ∧ (out.length + 1 ≤ 68719476736 ∧ (Zh3 m p (out ++ [v2_0]) info sizes (w (i + 1)) = some r))))) else (some (.own 0, [.arr 3 1 true (out.map ic)]) = some r))) : Zh3 m p out info sizes i = some r := by
  unfold Zh3
  rw [EvL_eq Zq5.eq_1]
  simp only [Zla, Zd.c_def, Zh.c_def, Zf.c_def, mpl, dfs] at h
  try simp only [itb] at h
  try simp only [itf, List.getElem?_eq_some_iff, kk] at h
  rcases h with ⟨q1, q2, e1, ⟨g3, q3⟩, v2_0, q4, q5, h⟩ | ⟨q1, h⟩
  all_goals (refine Eq.trans ?_ h; clear h; simp +decide [*, kk, Zh3, Zq6])
theorem Z99 (a : Zd) (a1 : Zb) (a2 : Plan) (a3 : List Int) (r : AV × List Blk) (h : (∃ (v1_0 : List Zf) (v1_1 : Bool), Zhw a1 a2 = some (.tup [.own 0, Bo v1_1], [.arr 138 4 true (v1_0.map Zf.c)]) ∧ (if v1_1 = true then (∃ (v2_0 : Bool), Zk9 a1 a3 = some (Bo v2_0, []) ∧ (if v2_0 = true then (Zh3 a a2 ([] : List Int) v1_0 a3 0 = some r) else (some (.own 0, [.arr 3 1 true (([] : List Int).map ic)]) = some r))) else (some (.own 0, [.arr 3 1 true (([] : List Int).map ic)]) = some r)))) : Zlb a a1 a2 a3 = some r := by
  unfold Zlb
  refine run Z61 rfl ?_
  simp only [Zhw, Zk9, Plan.c_def, Zb.c_def, mpl, dfs] at h
  try simp only [itb] at h
  try simp only [itf, List.getElem?_eq_some_iff, kk] at h
  rcases h with ⟨v1_0, v1_1, q1, (⟨q2, v2_0, q3, (⟨q4, h⟩ | ⟨q4, h⟩)⟩ | ⟨q2, h⟩)⟩
  all_goals (refine Eq.trans ?_ h; clear h; simp +decide [*, kk, Zwz, Zh3])
theorem Zze (l : List Int) (n : Int) (i : Int) (r : AV × List Blk) (h : (if i < (l.length : Int) then (0 ≤ i ∧ (∃ (e1 : Int), l[i.toNat]? = some e1 ∧ (Zh4 l (w (n + e1)) (w (i + 1)) = some r))) else (some (I n, []) = some r))) : Zh4 l n i = some r := by
  unfold Zh4
  rw [EvL_eq Zq7.eq_1]
  try simp only [itb] at h
  try simp only [itf, List.getElem?_eq_some_iff, kk] at h
  rcases h with ⟨q1, q2, e1, ⟨g3, q3⟩, h⟩ | ⟨q1, h⟩
  all_goals (refine Eq.trans ?_ h; clear h; simp +decide [*, kk, Zh4, Zq8])
theorem Zbaa (a : Zd) (a1 : Zb) (a2 : Plan) (a3 : List Int) (r : AV × List Blk) (h : (∃ (v1_0 : List Int), Zlb a a1 a2 a3 = some (.own 0, [.arr 3 1 true (v1_0.map ic)]) ∧ (if (v1_0.length : Int) = 0 then (some (I (-1), []) = some r) else (Zh4 v1_0 0 0 = some r)))) : Zlc a a1 a2 a3 = some r := by
  unfold Zlc
  refine run Z62 rfl ?_
  simp only [Zlb, Zd.c_def, Zh.c_def, Plan.c_def, Zb.c_def, mpl, dfs] at h
  try simp only [itb] at h
  try simp only [itf, List.getElem?_eq_some_iff, kk] at h
  rcases h with ⟨v1_0, q1, (⟨q2, h⟩ | ⟨q2, h⟩)⟩
  all_goals (refine Eq.trans ?_ h; clear h; simp +decide [*, kk, Zw0, Zh4])
theorem Zbab (a : Zd) (a1 : Zb) (a2 : Plan) (a3 : List Int) (r : AV × List Blk) (h : (∃ (v1_0 : List Int), Zhz a3 = some (.own 0, [.arr 3 1 true (v1_0.map ic)]) ∧ (∃ (v2_0 : Int), Zlc a a1 a2 v1_0 = some (I v2_0, []) ∧ (some (I v2_0, []) = some r)))) : Ziy a a1 a2 a3 = some r := by
  unfold Ziy
  refine run Z63 rfl ?_
  simp only [Zhz, Zlc, Zd.c_def, Zh.c_def, Plan.c_def, Zb.c_def, mpl, dfs] at h
  rcases h with ⟨v1_0, q1, v2_0, q2, h⟩
  all_goals (refine Eq.trans ?_ h; clear h; simp +decide [*, kk, Zw1])
theorem Zzf (b : Box) (n : Int) (x : Int) (x1 : Int) (r : AV × List Blk) (h : (if x1 < x then (0 ≤ x1 ∧ (∃ (e1 : Int), b.High[x1.toNat]? = some e1 ∧ (∃ (e2 : Int), b.Low[x1.toNat]? = some e2 ∧ (Zh5 b (w (n * (w ((w (e1 - e2)) + 1)))) x (w (x1 + 1)) = some r)))) else (some (I n, []) = some r))) : Zh5 b n x x1 = some r := by
  unfold Zh5
  rw [EvL_eq Zq9.eq_1]
  try simp only [itb] at h
  try simp only [itf, List.getElem?_eq_some_iff, kk] at h
  rcases h with ⟨q1, q2, e1, ⟨g3, q3⟩, e2, ⟨g4, q4⟩, h⟩ | ⟨q1, h⟩
  all_goals (refine Eq.trans ?_ h; clear h; simp +decide [*, kk, Zh5, Zra])
theorem Zzg (a : Box) (r : AV × List Blk) (h : (Zh5 a 1 (a.Low.length : Int) 0 = some r)) : Zgi a = some r := by
  unfold Zgi
  refine run Z64 rfl ?_
  refine Eq.trans ?_ h; clear h; simp +decide [*, kk, Zw2, Zh5]
theorem Zbac (a : Box) (r : AV × List Blk) (h : (∃ (v1_0 : Bool), Zej a = some (Bo v1_0, []) ∧ (if v1_0 = true then (∃ (v2_0 : Int), Zgi a = some (I v2_0, []) ∧ (some (I (if 401 < v2_0 then 401 else v2_0), []) = some r)) else (some (I 0, []) = some r)))) : Zld a = some r := by
  unfold Zld
  refine run Z65 rfl ?_
  simp only [Zej, Zgi, Box.c_def, mpl, dfs] at h
  try simp only [itb] at h
  try simp only [itf, List.getElem?_eq_some_iff, kk] at h
  rcases h with ⟨v1_0, q1, (⟨q2, v2_0, q3, h⟩ | ⟨q2, h⟩)⟩
  all_goals (refine Eq.trans ?_ h; clear h; simp +decide [*, kk, Zw3])
end Go.Proofs.YtbapkgocloaaeaaGreat
/- part: G13 -/
namespace Go.Proofs.YtbapkgocloaaeaaGreat
open Go.AM
theorem Zzh (b : Box) (out : List Int) (index : Int) (i : Int) (r : AV × List Blk) (h : (if 0 ≤ i then (∃ (e1 : Int), b.High[i.toNat]? = some e1 ∧ (∃ (e2 : Int), b.Low[i.toNat]? = some e2 ∧ (∃ (e3 : Int), out[i.toNat]? = some e3 ∧ (¬ (w ((w (e1 - e2)) + 1)) = 0 ∧ (Zh6 b (out.set i.toNat (w (e3 + (Int.tmod index (w ((w (e1 - e2)) + 1)))))) (w (Int.tdiv index (w ((w (e1 - e2)) + 1)))) (w (i - 1)) = some r))))) else (some (.tup [.own 0, Bo true], [.arr 3 1 true (out.map ic)]) = some r))) : Zh6 b out index i = some r := by
  unfold Zh6
  rw [EvL_eq Zrb.eq_1]
  try simp only [itb] at h
  try simp only [itf, List.getElem?_eq_some_iff, kk] at h
  rcases h with ⟨q1, e1, ⟨g2, q2⟩, e2, ⟨g3, q3⟩, e3, ⟨g4, q4⟩, q5, h⟩ | ⟨q1, h⟩
  all_goals (refine Eq.trans ?_ h; clear h; simp +decide [*, kk, Zh6, Zrc])
theorem Zbad (a : Box) (a1 : Int) (r : AV × List Blk) (h : (∃ (v1_0 : Bool), Zej a = some (Bo v1_0, []) ∧ (if v1_0 = true then (∃ (v2_0 : Int), Zgi a = some (I v2_0, []) ∧ (∃ (v3_0 : Bool), Zu a1 0 (w (v2_0 - 1)) = some (Bo v3_0, []) ∧ (if v3_0 = true then (∃ (v4_0 : List Int), Zg9 a.Low = some (.own 0, [.arr 3 1 true (v4_0.map ic)]) ∧ (Zh6 a v4_0 a1 (w ((v4_0.length : Int) - 1)) = some r)) else (some (.tup [.t .nil, Bo false], []) = some r)))) else (some (.tup [.t .nil, Bo false], []) = some r)))) : Ziz a a1 = some r := by
  unfold Ziz
  refine run Z66 rfl ?_
  simp only [Zej, Zgi, Zu, Zg9, Box.c_def, mpl, dfs] at h
  try simp only [itb] at h
  try simp only [itf, List.getElem?_eq_some_iff, kk] at h
  rcases h with ⟨v1_0, q1, (⟨q2, v2_0, q3, v3_0, q4, (⟨q5, v4_0, q6, h⟩ | ⟨q5, h⟩)⟩ | ⟨q2, h⟩)⟩
  all_goals (refine Eq.trans ?_ h; clear h; simp +decide [*, kk, Zw4, Zh6])
theorem Zzi (b : Box) (out : List (List Int)) (n : Int) (i : Int) (r : AV × List Blk) (h : (if i < n then ((Ziz b i = some (.tup [.t .nil, Bo false], []) ∧ (out.length + 1 ≤ 68719476736 ∧ (Zgj b (out ++ [[]]) n (w (i + 1)) = some r))) ∨ (∃ (v2_0 : List Int), Ziz b i = some (.tup [.own 0, Bo true], [.arr 3 1 true (v2_0.map ic)]) ∧ (out.length + 1 ≤ 68719476736 ∧ (Zgj b (out ++ [v2_0]) n (w (i + 1)) = some r)))) else (some (.own 0, [.arr 38 1 true (out.map isc)]) = some r))) : Zgj b out n i = some r := by
  unfold Zgj
  rw [EvL_eq Zrd.eq_1]
  simp only [Ziz, Box.c_def, mpl, dfs] at h
  try simp only [itb] at h
  try simp only [itf, List.getElem?_eq_some_iff, kk] at h
  rcases h with ⟨q1, (⟨q3, q4, h⟩ | ⟨v2_0, q5, q6, h⟩)⟩ | ⟨q1, h⟩
  all_goals (refine Eq.trans ?_ h; clear h; simp +decide [*, kk, Zgj, Zre])
theorem Zzj (a : Box) (r : AV × List Blk) (h : (∃ (v1_0 : Int), Zld a = some (I v1_0, []) ∧ (if 400 < v1_0 then (some (.t .nil, []) = some r) else (Zgj a ([] : List (List Int)) v1_0 0 = some r)))) : Zi0 a = some r := by
  unfold Zi0
  refine run Z67 rfl ?_
  simp only [Zld, Box.c_def, mpl, dfs] at h
  try simp only [itb] at h
  try simp only [itf, List.getElem?_eq_some_iff, kk] at h
  rcases h with ⟨v1_0, q1, (⟨q2, h⟩ | ⟨q2, h⟩)⟩
  all_goals (refine Eq.trans ?_ h; clear h; simp +decide [*, kk, Zw5, Zgj])
theorem Zzk (m : Zd) (q : Zb) (r_1 : Region) (x : List (List Int)) (x1 : Int) (x2 : Int) (r : AV × List Blk) (h : (if x2 < x1 then (0 ≤ x2 ∧ (∃ (e1 : List Int), x[x2.toNat]? = some e1 ∧ (∃ (v2_0 : Int), Zj2 m q r_1.Plan e1 = some (I v2_0, []) ∧ (∃ (v3_0 : Int), Zkc m q e1 = some (I v3_0, []) ∧ (if (w (r_1.Percent * v3_0)) < (w (100 * v2_0)) then (some (Bo false, []) = some r) else (Zh7 m q r_1 x x1 (w (x2 + 1)) = some r)))))) else (some (Bo true, []) = some r))) : Zh7 m q r_1 x x1 x2 = some r := by
  unfold Zh7
  rw [EvL_eq Zrf.eq_1]
  simp only [Zj2, Zkc, Zd.c_def, Zh.c_def, Plan.c_def, Zb.c_def, mpl, dfs] at h
  try simp only [itb] at h
  try simp only [itf, List.getElem?_eq_some_iff, kk] at h
  rcases h with ⟨q1, q2, e1, ⟨g3, q3⟩, v2_0, q4, v3_0, q5, (⟨q6, h⟩ | ⟨q6, h⟩)⟩ | ⟨q1, h⟩
  all_goals (refine Eq.trans ?_ h; clear h; simp +decide [*, kk, Zh7, Zrg])
theorem Zzl (a : Zd) (a1 : Zb) (a2 : Region) (r : AV × List Blk) (h : ((Zi0 a2.Box = some (.t .nil, []) ∧ (∃ (v2_0 : Bool), Zij a a1 a2 = some (Bo v2_0, []) ∧ (if v2_0 = true then (some (Bo false, []) = some r) else (some (Bo false, []) = some r)))) ∨ (∃ (v3_0 : List (List Int)), Zi0 a2.Box = some (.own 0, [.arr 38 1 true (v3_0.map isc)]) ∧ (∃ (v4_0 : Bool), Zij a a1 a2 = some (Bo v4_0, []) ∧ (if v4_0 = true then (if (v3_0.length : Int) = 0 then (some (Bo false, []) = some r) else (Zh7 a a1 a2 v3_0 (v3_0.length : Int) 0 = some r)) else (some (Bo false, []) = some r)))))) : Zmt a a1 a2 = some r := by
  unfold Zmt
  refine run Z68 rfl ?_
  simp only [Zi0, Zij, Box.c_def, Zd.c_def, Zh.c_def, Plan.c_def, Zb.c_def, Region.c_def, mpl, dfs] at h
  try simp only [itb] at h
  try simp only [itf, List.getElem?_eq_some_iff, kk] at h
  rcases h with ⟨q2, v2_0, q3, (⟨q4, h⟩ | ⟨q4, h⟩)⟩ | ⟨v3_0, q5, v4_0, q6, (⟨q7, (⟨q8, h⟩ | ⟨q8, h⟩)⟩ | ⟨q7, h⟩)⟩
  all_goals (refine Eq.trans ?_ h; clear h; simp +decide [*, kk, Zw6, Zh7])
theorem Zzm (b : Box) (n : Int) (i : Int) (r : AV × List Blk) (h : (if i < (b.Low.length : Int) then (0 ≤ i ∧ (∃ (e1 : Int), b.High[i.toNat]? = some e1 ∧ (∃ (e2 : Int), b.Low[i.toNat]? = some e2 ∧ (Zh8 b (if (w (n * (w ((w (e1 - e2)) + 1)))) < 401 then (w (n * (w ((w (e1 - e2)) + 1)))) else 401) (w (i + 1)) = some r)))) else (some (I n, []) = some r))) : Zh8 b n i = some r := by
  unfold Zh8
  rw [EvL_eq Zrh.eq_1]
  try simp only [itb] at h
  try simp only [itf, List.getElem?_eq_some_iff, kk] at h
  rcases h with ⟨q1, q2, e1, ⟨g3, q3⟩, e2, ⟨g4, q4⟩, h⟩ | ⟨q1, h⟩
  all_goals (refine Eq.trans ?_ h; clear h; simp +decide [*, kk, Zh8, Zri])
theorem Zbae (a : Box) (r : AV × List Blk) (h : (∃ (v1_0 : Bool), Ze6 a = some (Bo v1_0, []) ∧ (if v1_0 = true then (Zh8 a 1 0 = some r) else (some (I 0, []) = some r)))) : Zle a = some r := by
  unfold Zle
  refine run Z69 rfl ?_
  simp only [Ze6, Box.c_def, mpl, dfs] at h
  try simp only [itb] at h
  try simp only [itf, List.getElem?_eq_some_iff, kk] at h
  rcases h with ⟨v1_0, q1, (⟨q2, h⟩ | ⟨q2, h⟩)⟩
  all_goals (refine Eq.trans ?_ h; clear h; simp +decide [*, kk, Zw7, Zh8])
theorem Zzn (b : Box) (out : List Int) (index : Int) (i : Int) (r : AV × List Blk) (h : (if 0 ≤ i then (∃ (e1 : Int), b.High[i.toNat]? = some e1 ∧ (∃ (e2 : Int), b.Low[i.toNat]? = some e2 ∧ (¬ (w ((w (e1 - e2)) + 1)) = 0 ∧ (∃ (e3 : Int), out[i.toNat]? = some e3 ∧ (Zh9 b (out.set i.toNat (w (e2 + (Int.tmod index (w ((w (e1 - e2)) + 1)))))) (w (Int.tdiv index (w ((w (e1 - e2)) + 1)))) (w (i - 1)) = some r))))) else (if 0 < index then (some (.tup [.own 0, Bo false], [.arr 3 1 true (([] : List Int).map ic)]) = some r) else (some (.tup [.own 0, Bo true], [.arr 3 1 true (out.map ic)]) = some r)))) : Zh9 b out index i = some r := by
  unfold Zh9
  rw [EvL_eq Zrj.eq_1]
  try simp only [itb] at h
  try simp only [itf, List.getElem?_eq_some_iff, kk] at h
  rcases h with ⟨q1, e1, ⟨g2, q2⟩, e2, ⟨g3, q3⟩, q4, e3, ⟨g5, q5⟩, h⟩ | ⟨q1, (⟨q6, h⟩ | ⟨q6, h⟩)⟩
  all_goals (refine Eq.trans ?_ h; clear h; simp +decide [*, kk, Zh9, Zrk])
theorem Zbaf (a : Box) (a1 : Int) (r : AV × List Blk) (h : (∃ (v1_0 : Bool), Ze6 a = some (Bo v1_0, []) ∧ (if v1_0 = true then (if a1 < 0 then (some (.tup [.own 0, Bo false], [.arr 3 1 true (([] : List Int).map ic)]) = some r) else (a.Low.length ≤ 68719476736 ∧ (Zh9 a a.Low a1 (w ((a.Low.length : Int) - 1)) = some r))) else (some (.tup [.own 0, Bo false], [.arr 3 1 true (([] : List Int).map ic)]) = some r)))) : Zlf a a1 = some r := by
  unfold Zlf
  refine run Z7a rfl ?_
  simp only [Ze6, Box.c_def, mpl, dfs] at h
  try simp only [itb] at h
  try simp only [itf, List.getElem?_eq_some_iff, kk] at h
  rcases h with ⟨v1_0, q1, (⟨q2, (⟨q3, h⟩ | ⟨q3, q4, h⟩)⟩ | ⟨q2, h⟩)⟩
  all_goals (refine Eq.trans ?_ h; clear h; simp +decide [*, kk, Zw8, Zh9])
theorem Zzo (m : Zd) (q : Zb) (r_1 : Region) (shapes : List Zq) (n : Int) (full : Int) (i : Int) (r : AV × List Blk) (h : (if i < n then (∃ (v1_0 : List Int) (v1_1 : Bool), Zlf r_1.Box i = some (.tup [.own 0, Bo v1_1], [.arr 3 1 true (v1_0.map ic)]) ∧ (∃ (v2_0 : List Int), Zhz v1_0 = some (.own 0, [.arr 3 1 true (v2_0.map ic)]) ∧ (∃ (v3_0 : Bool) (v3_1 : List Za), Zk8 shapes v2_0 m q = some (.own 2, [.arr 242 3 true (shapes.map Zq.c), .arr 3 1 true (v2_0.map ic), .arr 174 4 v3_0 (v3_1.map Za.c)]) ∧ ((∃ (v4_0 : Int) (v4_1 : Int) (v4_2 : Int), Zix v3_1 full = some (.tup [.agg [I v4_0, I v4_1, I v4_2, .t .nil], Bo false], []) ∧ (∃ (v5_0 : Int), Ziy m q r_1.Plan v1_0 = some (I v5_0, []) ∧ (if (w (r_1.Percent * v4_2)) < (w (v5_0 * 100)) then (some (Bo false, []) = some r) else (Zgk m q r_1 shapes n full (w (i + 1)) = some r)))) ∨ (∃ (v6_0 : List Zc) (v6_1 : Int) (v6_2 : Int) (v6_3 : Int), Zix v3_1 full = some (.tup [.agg [I v6_1, I v6_2, I v6_3, .own 0], Bo true], [.arr 142 3 true (v6_0.map Zc.c)]) ∧ (∃ (v7_0 : Int), Ziy m q r_1.Plan v1_0 = some (I v7_0, []) ∧ (if (w (r_1.Percent * v6_3)) < (w (v7_0 * 100)) then (some (Bo false, []) = some r) else (Zgk m q r_1 shapes n full (w (i + 1)) = some r)))))))) else (some (Bo true, []) = some r))) : Zgk m q r_1 shapes n full i = some r := by
  unfold Zgk
  rw [EvL_eq Zrl.eq_1]
  simp only [Zlf, Zhz, Zk8, Zix, Ziy, Box.c_def, Zq.c_def, Zd.c_def, Zh.c_def, Plan.c_def, Za.c_def, Zb.c_def, mpl, dfs] at h
  try simp only [itb] at h
  try simp only [itf, List.getElem?_eq_some_iff, kk] at h
  rcases h with ⟨q1, v1_0, v1_1, q2, v2_0, q3, v3_0, v3_1, q4, (⟨v4_0, v4_1, v4_2, q6, v5_0, q7, (⟨q8, h⟩ | ⟨q8, h⟩)⟩ | ⟨v6_0, v6_1, v6_2, v6_3, q9, v7_0, q10, (⟨q11, h⟩ | ⟨q11, h⟩)⟩)⟩ | ⟨q1, h⟩
  all_goals (refine Eq.trans ?_ h; clear h; simp +decide [*, kk, Zgk, Zrm])
theorem Zbag (a : Zd) (a1 : Zb) (a2 : Region) (r : AV × List Blk) (h : (∃ (v1_0 : Int), Zle a2.Box = some (I v1_0, []) ∧ (∃ (v2_0 : Bool), Zkj a = some (Bo v2_0, []) ∧ (if v2_0 = true then (∃ (v3_0 : Int), Zdq a1 = some (I v3_0, []) ∧ (∃ (v4_0 : Bool), Zhr a1 v3_0 = some (Bo v4_0, []) ∧ (if v4_0 = true then (∃ (v5_0 : Bool), Zkp a1 a2 = some (Bo v5_0, []) ∧ (if v5_0 = true then (if 400 < v1_0 then (some (Bo false, []) = some r) else (∃ (v6_0 : List Zq), Zkx a1 = some (.own 0, [.arr 242 3 true (v6_0.map Zq.c)]) ∧ (Zgk a a1 a2 v6_0 v1_0 v3_0 0 = some r))) else (some (Bo false, []) = some r))) else (some (Bo false, []) = some r)))) else (some (Bo false, []) = some r))))) : Zmu a a1 a2 = some r := by
  unfold Zmu
  refine run Z7b rfl ?_
  simp only [Zle, Zkj, Zdq, Zhr, Zkp, Zkx, Box.c_def, Zd.c_def, Zh.c_def, Plan.c_def, Zb.c_def, Region.c_def, mpl, dfs] at h
  try simp only [itb] at h
  try simp only [itf, List.getElem?_eq_some_iff, kk] at h
  rcases h with ⟨v1_0, q1, v2_0, q2, (⟨q3, v3_0, q4, v4_0, q5, (⟨q6, v5_0, q7, (⟨q8, (⟨q9, h⟩ | ⟨q9, v6_0, q10, h⟩)⟩ | ⟨q8, h⟩)⟩ | ⟨q6, h⟩)⟩ | ⟨q3, h⟩)⟩
  all_goals (refine Eq.trans ?_ h; clear h; simp +decide [*, kk, Zw9, Zgk])
end Go.Proofs.YtbapkgocloaaeaaGreat
/- part: V1 -/
namespace Go.Proofs.YtbapkgocloaaeaaGreat
open Go.AM
@[simp] theorem Zcw (a b c : Int) : Zu a b c = some (Bo (inR a b c), []) := by
  refine Z7c _ _ _ _ ?_
  by_cases h : b ≤ a <;> simp [inR, h]
@[simp] theorem Zgm (a b c : Int) : Zx a b c = some (Bo (inR a b c), []) := by
  refine Z8v _ _ _ _ ?_
  by_cases h : b ≤ a <;> simp [inR, h]
theorem lIndexI (xs : List Int) (v : Int) (hx : Le xs) : ∀ i, i ≤ xs.length →
    Zg0 xs v xs.length i = some (I (Zcm (fun x => decide (v = x)) (xs.drop i) i), []) := by
  refine down _ ?_ ?_
  · refine Zxb _ _ _ _ _ ?_
    simp [Zcm]
  · intro i hi ih
    refine Zxb _ _ _ _ _ ?_
    have h4 := inc64 (i := i) (by omega)
    rw [Zs4 _ hi]
    simp at ih
    by_cases e : v = xs[i] <;> simp [hi, h4, e, ih]
@[simp] theorem xIndexI (xs : List Int) (v : Int) (hx : Le xs) : Zjn xs v = some (I (Zcm (fun x => decide (v = x)) xs 0), []) := by
  refine Z7e _ _ _ ?_
  have := lIndexI xs v hx 0 (Nat.zero_le _)
  simpa using this
@[simp] theorem Zlh (xs : List Int) (v : Int) (hx : Le xs) : Zc3 xs v = some (Bo (has xs v), []) := by
  refine Z7f _ _ _ ?_
  unfold has
  rcases tf (xs.any (fun x => decide (v = x))) with e | e
  · simp [hx, Zs5 _ _ _ e, e]
  · have := Zs6 _ _ 0 e
    simp [hx, this, e]
theorem lIndexB (xs : List Bool) (v : Bool) (hx : Le xs) : ∀ i, i ≤ xs.length →
    Zg1 xs v xs.length i = some (I (Zcm (fun x => v == x) (xs.drop i) i), []) := by
  refine down _ ?_ ?_
  · refine Zxc _ _ _ _ _ ?_
    simp [Zcm]
  · intro i hi ih
    refine Zxc _ _ _ _ _ ?_
    have h4 := inc64 (i := i) (by omega)
    rw [Zs4 _ hi]
    simp at ih
    by_cases e : v = xs[i] <;> simp [hi, h4, e, ih]
@[simp] theorem Zbah (xs : List Bool) (v : Bool) (hx : Le xs) : Zjp xs v = some (Bo (xs.any (fun x => v == x)), []) := by
  refine Z7h _ _ _ ?_
  have q : Zjo xs v = some (I (Zcm (fun x => v == x) xs 0), []) := by
    refine Z7g _ _ _ ?_
    have := lIndexB xs v hx 0 (Nat.zero_le _)
    simpa using this
  rcases tf (xs.any (fun x => v == x)) with e | e
  · rw [Zs5 _ _ _ e] at q
    rw [e]; simp [q]
  · have := Zs6 _ _ 0 e
    rw [e]; simp [q, this]
theorem l_l7Has (xs : List Int) (v : Int) (hx : Le xs) : ∀ i, i ≤ xs.length → Zhn xs v i = some (Bo (has (xs.drop i) v), []) := by
  unfold has
  refine down _ ?_ ?_
  · refine Zyq _ _ _ _ ?_
    simp
  · intro i hi ih
    refine Zyq _ _ _ _ ?_
    have h4 := inc64 (i := i) (by omega)
    rw [drop_any _ hi]
    simp at ih
    by_cases e : v = xs[i]
    · simp [hi, h4, ← e]
    · have e' : ¬ xs[i] = v := fun hc => e hc.symm
      simp [hi, h4, e, e', ih]
@[simp] theorem Zzp (xs : List Int) (v : Int) (hx : Le xs) : Zhm xs v = some (Bo (has xs v), []) := by
  refine Z87 _ _ _ ?_
  have := l_l7Has xs v hx 0 (Nat.zero_le _)
  simpa using this
theorem nm_aux (s : ByteArray) (P : Prop) : (if (s.size : Int) = 1 then (∃ (b1 : UInt8), s[0]? = some b1 ∧ (if 97 ≤ (b1.toNat : Int) then (some (Bo (decide ((b1.toNat : Int) ≤ 122)), []) = some (Bo (nmOk s), ([] : List Blk))) else (some (Bo false, []) = some (Bo (nmOk s), ([] : List Blk))))) else (some (Bo false, []) = some (Bo (nmOk s), ([] : List Blk)))) := by
  by_cases h : s.size = 1
  · obtain ⟨b, hb⟩ := get0 h
    rw [if_pos (by omega)]
    refine ⟨b, hb, ?_⟩
    have e : nmOk s = (decide (97 ≤ (b.toNat : Int)) && decide ((b.toNat : Int) ≤ 122)) := by
      unfold nmOk; rw [hb]; simp only [h, decide_true, Bool.true_and]
    by_cases h1 : (97 : Int) ≤ (b.toNat : Int)
    · rw [if_pos h1, e, decide_eq_true h1, Bool.true_and]
    · rw [if_neg h1, e, decide_eq_false h1, Bool.false_and]
  · have h' : ¬ (s.size : Int) = 1 := by omega
    have : nmOk s = false := by unfold nmOk; split <;> simp [h]
    simp [h', this]
@[simp] theorem x_nameOk (s : ByteArray) : Zjm s = some (Bo (nmOk s), []) := Z7d _ _ (nm_aux s True)
@[simp] theorem x_l4Name (s : ByteArray) : Zkk s = some (Bo (nmOk s), []) := Z86 _ _ (nm_aux s True)
/-! ### queries: the program's -/
def LeQ (q : Zb) : Prop := Le q.Atoms ∧ ∀ a ∈ q.Atoms, Le a.Vars
def blB (p : Nat → Bool) (n : Nat) : List Bool := (List.range n).map p
theorem blB_set (p : Nat → Bool) (n : Nat) {v : Int} (h : inR v 0 ((n : Int) - 1) = true) : (blB p n).set v.toNat true = blB (addV p [v]) n := by
  simp [inR] at h
  apply List.ext_getElem
  · simp [blB]
  · intro i h1 h2
    simp only [blB, List.length_set, List.length_map, List.length_range] at h1
    rw [List.getElem_set]
    simp only [blB, List.getElem_map, List.getElem_range]
    by_cases e : v.toNat = i
    · have : (i : Int) = v := by omega
      simp [e, addV, has, this]
    · have : ¬ (i : Int) = v := by omega
      simp [e, addV, has, this]
theorem Zbai (q : Zb) (n : Nat) (hn : n ≤ 4) (hq : q.Ze = n) (a : Atom) (qa : List Atom) (l j : Int) (hv : Le a.Vars) (r : AV × List Blk) : ∀ k, k ≤ a.Vars.length → ∀ p,
    (if Zcu n (a.Vars.take k) (a.Vars.drop k) = true then Zfg q (blB (addV p (a.Vars.drop k)) n) qa l (w (j + 1)) = some r else some (Bo false, []) = some r) →
    Zg2 q (blB p n) a qa l j a.Vars a.Vars.length k = some r := by
  refine down _ ?_ ?_
  · intro p h
    refine Zxe _ _ _ _ _ _ _ _ _ _ ?_
    simpa [Zcu, Znt] using h
  · intro k hk ih p h
    have h4 := inc64 (i := k) (by omega)
    have hw : w (q.Ze - 1) = (n : Int) - 1 := by rw [hq]; exact wrap64 (by omega) (by omega)
    have hl := Zlh (a.Vars.take k) a.Vars[k] (by simp; omega)
    refine Zxe _ _ _ _ _ _ _ _ _ _ ?_
    rw [Zs7 _ hk] at h
    rcases tf (inR a.Vars[k] 0 ((n : Int) - 1)) with e1 | e1
    · simp [e1] at h
      simp [hk, h4, hw, e1, ← h]
    · rcases tf (has (a.Vars.take k) a.Vars[k]) with e2 | e2
      · rw [Znu p hk] at h
        simp only [e1, e2, Bool.true_and, Bool.not_false] at h
        have ih := ih _ h
        have e0 := e1
        simp [inR] at e0
        have e5 : (a.Vars[k]).toNat < (blB p n).length := by simp [blB]; omega
        have e6 := blB_set p n e1
        have e7 : k ≤ a.Vars.length := by omega
        simp at ih
        simp [hk, h4, hw, e1, e2, hl, e0, e5, e6, e7, ih]
      · simp [e1, e2] at h
        have e7 : k ≤ a.Vars.length := by omega
        simp [hk, h4, hw, e1, e2, hl, e7, ← h]
theorem Zbaj (q : Zb) (n : Nat) (hn : n ≤ 4) (hq : q.Ze = n) (qa : List Atom) (hl : Le qa) (hv : ∀ a ∈ qa, Le a.Vars) : ∀ k, k ≤ qa.length → ∀ p,
    Zfg q (blB p n) qa qa.length k = some (Bo ((qa.drop k).all (Zbr n) && (List.range n).all (addA p (qa.drop k))), []) := by
  refine down _ ?_ ?_
  · intro p
    refine Zxd _ _ _ _ _ _ ?_
    have e : addA p [] = p := by funext u; simp [addA]
    have q1 := Zbah (blB p n) false (by simp [blB]; omega)
    have q2 : (blB p n).any (fun x => false == x) = !(List.range n).all p := bl_any p n
    rw [q2] at q1
    simp [q1, e]
  · intro k hk ih p
    refine Zxd _ _ _ _ _ _ ?_
    have h4 := inc64 (i := k) (by omega)
    rw [Zjh _ hk]
    rcases tf (nmOk qa[k].Name) with e1 | e1
    · simp [hk, e1, Zbr]
    rcases tf (inR qa[k].Vars.length 1 3) with e2 | e2
    · simp [hk, e1, e2, Zbr]
    have b := Zbai q n hn hq qa[k] qa qa.length k (hv _ (List.getElem_mem hk)) (Bo (Zbr n qa[k] && (qa.drop (k + 1)).all (Zbr n) && (List.range n).all (addA p (qa.drop k))), []) 0 (Nat.zero_le _) p ?_
    · simp at b
      simp [hk, e1, e2, b]
    · simp only [List.take_zero, List.drop_zero, Zbr, e1, e2, Bool.true_and]
      rcases tf (Zcu n [] qa[k].Vars) with e3 | e3
      · simp [e3]
      · have ih := ih (addV p qa[k].Vars)
        simp only [e3, if_true, Bool.true_and, Zs8 p hk]
        simp at ih
        rw [show w ((k : Int) + 1) = (k : Int) + 1 from h4, ih]
@[simp] theorem Zli (q : Zb) (h : LeQ q) : Zcv q = some (Bo (Zm q.Ze q.Atoms), []) := by
  refine Z7i _ _ ?_
  unfold Zm
  rcases tf (inR q.Ze 1 4) with e1 | e1
  · simp [e1]
  rcases tf (inR q.Atoms.length 1 4) with e2 | e2
  · simp [e1, e2]
  have e0 := e1
  simp [inR] at e0
  have hn : q.Ze = (q.Ze.toNat : Int) := by omega
  have b := Zbaj q q.Ze.toNat (by omega) hn q.Atoms h.1 h.2 0 (Nat.zero_le _) (fun _ => false)
  have r1 : q.Ze.toNat ≤ room := room2 (by omega)
  have r2 : q.Ze ≤ room := by
    have : (q.Ze.toNat : Int) ≤ room := by exact_mod_cast r1
    omega
  have r3 : q.Ze ≤ 140737488355328 := by omega
  have ez : blB (fun _ => false) q.Ze.toNat = List.replicate q.Ze.toNat false := by
    apply List.ext_getElem <;> simp [blB]
  rw [ez, ← hn] at b
  simp at b
  simp [e1, e2, e0, r1, r2, r3, b]
  omega
/-! ### queries: the reference's -/
theorem Zbak (q : Zb) (n : Nat) (hn1 : 1 ≤ n) (hn : n ≤ 4) (hq : q.Ze = n) (a : Atom) (j : Int) (hv : Le a.Vars) (r : AV × List Blk) : ∀ k, k ≤ a.Vars.length → ∀ p,
    (if Zcu n (a.Vars.take k) (a.Vars.drop k) = true then Zf4 q (Zv (addV p (a.Vars.drop k))) (w (j + 1)) = some r else some (Bo false, []) = some r) →
    Zho q a (Zv p) j k = some r := by
  refine down _ ?_ ?_
  · intro p h
    refine Zys _ _ _ _ _ _ ?_
    simpa [Zcu, Znt] using h
  · intro k hk ih p h
    have h4 := inc64 (i := k) (by omega)
    have hw : w (q.Ze - 1) = (n : Int) - 1 := by rw [hq]; exact wrap64 (by omega) (by omega)
    have hl := Zzp (a.Vars.take k) a.Vars[k] (by simp; omega)
    have e7 : k ≤ a.Vars.length := by omega
    refine Zys _ _ _ _ _ _ ?_
    rw [Zs7 _ hk] at h
    rcases tf (inR a.Vars[k] 0 ((n : Int) - 1)) with e1 | e1
    · simp [e1] at h
      simp [hk, h4, hw, e1, ← h]
    · rcases tf (has (a.Vars.take k) a.Vars[k]) with e2 | e2
      · rw [Znu p hk] at h
        simp only [e1, e2, Bool.true_and, Bool.not_false] at h
        have ih := ih _ h
        have e0 := e1
        simp [inR] at e0
        have e6 := Zl1 p (v := a.Vars[k]) (by simp [inR]; omega)
        have e8 : ¬ a.Vars[k] < 0 := by omega
        simp at ih
        simp [hk, h4, hw, e1, e2, hl, e0, e6, e7, e8, ih]
      · simp [e1, e2] at h
        simp [hk, h4, hw, e1, e2, hl, e7, ← h]
end Go.Proofs.YtbapkgocloaaeaaGreat
/- part: V2 -/
namespace Go.Proofs.YtbapkgocloaaeaaGreat
open Go.AM
def Zlj (n : Int) (p : Nat → Bool) : Bool := decide (Zv p = w (shlI 1 n - 1))
theorem Zbal (q : Zb) (n : Nat) (hn1 : 1 ≤ n) (hn : n ≤ 4) (hq : q.Ze = n) (hl : Le q.Atoms) (hv : ∀ a ∈ q.Atoms, Le a.Vars) : ∀ k, k ≤ q.Atoms.length → ∀ p,
    Zf4 q (Zv p) k = some (Bo ((q.Atoms.drop k).all (Zbr n) && Zlj n (addA p (q.Atoms.drop k))), []) := by
  refine down _ ?_ ?_
  · intro p
    refine Zyr _ _ _ _ ?_
    have e : addA p [] = p := by funext u; simp [addA]
    have h0 : ¬ (n : Int) < 0 := by omega
    simp [e, hq, h0, Zlj]
  · intro k hk ih p
    refine Zyr _ _ _ _ ?_
    have h4 := inc64 (i := k) (by omega)
    rw [Zjh _ hk]
    rcases tf (nmOk q.Atoms[k].Name) with e1 | e1
    · simp [hk, e1, Zbr]
    rcases tf (inR q.Atoms[k].Vars.length 1 3) with e2 | e2
    · simp [hk, e1, e2, Zbr]
    have b := Zbak q n hn1 hn hq q.Atoms[k] k (hv _ (List.getElem_mem hk)) (Bo (Zbr n q.Atoms[k] && (q.Atoms.drop (k + 1)).all (Zbr n) && Zlj n (addA p (q.Atoms.drop k))), []) 0 (Nat.zero_le _) p ?_
    · simp at b
      simp [hk, e1, e2, b]
    · simp only [List.take_zero, List.drop_zero, Zbr, e1, e2, Bool.true_and]
      rcases tf (Zcu n [] q.Atoms[k].Vars) with e3 | e3
      · simp [e3]
      · have ih := ih (addV p q.Atoms[k].Vars)
        simp only [e3, if_true, Bool.true_and, Zs8 p hk]
        simp at ih
        rw [show w ((k : Int) + 1) = (k : Int) + 1 from h4, ih]
@[simp] theorem Zmx (q : Zb) (h : LeQ q) : Zdp q = some (Bo (Zm q.Ze q.Atoms), []) := by
  refine Z88 _ _ ?_
  unfold Zm
  rcases tf (inR q.Ze 1 4) with e1 | e1
  · simp [e1]
  rcases tf (inR q.Atoms.length 1 4) with e2 | e2
  · simp [e1, e2]
  have e0 := e1
  simp [inR] at e0
  obtain ⟨k, hk⟩ : ∃ k : Nat, q.Ze = k := ⟨q.Ze.toNat, by omega⟩
  have b := Zbal q k (by omega) (by omega) hk h.1 h.2 0 (Nat.zero_le _) (fun _ => false)
  have ez : Zv (fun _ => false) = 0 := rfl
  rw [ez] at b
  simp only [List.drop_zero, Int.ofNat_zero] at b
  have e3 : (q.Atoms.all (Zbr k) && Zlj k (addA (fun _ => false) q.Atoms)) = (q.Atoms.all (Zbr k) && (List.range k).all (addA (fun _ => false) q.Atoms)) := by
    rcases tf (q.Atoms.all (Zbr k)) with e3 | e3
    · simp [e3]
    · have hk' : k = 1 ∨ k = 2 ∨ k = 3 ∨ k = 4 := by omega
      have hz := all_in e3
      have hz' : ∀ u : Nat, k ≤ u → addA (fun _ => false) q.Atoms u = false := fun u hu => by simp only [addA, Bool.false_or]; exact hz u (by omega)
      rw [e3, Bool.true_and, Bool.true_and, Bool.eq_iff_iff, Zlj, decide_eq_true_eq, Zv]
      rcases hk' with rfl | rfl | rfl | rfl
      · simp [shlI, wrap64, Zl2, hz' 1 (by omega), hz' 2 (by omega), hz' 3 (by omega), List.range_succ]
      · simp [shlI, wrap64, Zl2, hz' 2 (by omega), hz' 3 (by omega), List.range_succ]
      · simp [shlI, wrap64, Zl2, hz' 3 (by omega), List.range_succ, and_assoc]
      · simp [shlI, wrap64, Zl2, List.range_succ, and_assoc]
  rw [e3] at b
  rw [hk] at e1
  simp only [Zgm, Option.some.injEq, Prod.mk.injEq, AV.t.injEq, T.bool.injEq, and_true, exists_eq_left', e1, e2, if_true, b, hk, Int.toNat_natCast]
  simp
@[simp] theorem Zgn (q : Zb) (h : LeQ q) : Zbz q = some (I (Zr q.Ze q.Atoms), []) := by
  refine Z7m _ _ ?_
  have q1 := Zli q h
  unfold Zr
  rcases tf (Zm q.Ze q.Atoms) with e | e
  · simp [q1, e]
  · have := (Zgu e).2.2.1
    have h0 : ¬ ((q.Atoms.length : Int) < 0) := by omega
    simp [q1, e, this, h0]
@[simp] theorem Zmy (q : Zb) (h : LeQ q) : Zdq q = some (I (Zr q.Ze q.Atoms), []) := by
  refine Z89 _ _ ?_
  have q1 := Zmx q h
  unfold Zr
  rcases tf (Zm q.Ze q.Atoms) with e | e
  · simp [q1, e]
  · have := (Zgu e).2.2.1
    have h0 : ¬ ((q.Atoms.length : Int) < 0) := by omega
    simp [q1, e, this, h0]
/-! ### boxes -/
theorem Zbam (xs : List Int) (hx : Le xs) : ∀ i, i ≤ xs.length → Zhs xs i = some (Bo (Zd3 (xs.drop i) && decide ((xs.length : Int) ≤ 16)), []) := by
  refine down _ ?_ ?_
  · refine Zyw _ _ _ ?_
    simp [Zd3]
  · intro i hi ih
    refine Zyw _ _ _ ?_
    have h4 := inc64 (i := i) (by omega)
    rw [Zs1 hi]
    simp at ih
    rcases tf (inR xs[i] 0 7) with h | h <;> simp [hi, h4, h, ih]
@[simp] theorem Zmz (xs : List Int) (hx : Le xs) : Zf6 xs = some (Bo (Zz xs), []) := by
  refine Z9f _ _ ?_
  have := Zbam xs hx 0 (Nat.zero_le _)
  simpa [Zz] using this
theorem Zban (xs : List Int) (hx : Le xs) : ∀ i, i ≤ xs.length → Zg3 xs xs xs.length i = some (Bo (Zd3 (xs.drop i) && decide ((xs.length : Int) ≤ 16)), []) := by
  refine down _ ?_ ?_
  · refine Zxf _ _ _ _ _ ?_
    simp [Zd3]
  · intro i hi ih
    refine Zxf _ _ _ _ _ ?_
    have h4 := inc64 (i := i) (by omega)
    rw [Zs1 hi]
    simp at ih
    rcases tf (inR xs[i] 0 7) with h | h <;> simp [hi, h4, h, ih]
@[simp] theorem Zm0 (xs : List Int) (hx : Le xs) : Zfh xs = some (Bo (Zz xs), []) := by
  refine Z7j _ _ ?_
  have := Zban xs hx 0 (Nat.zero_le _)
  simpa [Zz] using this
theorem Zbao (xs ys : List Int) (hx : Le xs) (hl : ys.length = xs.length) : ∀ i, i ≤ xs.length → Zht xs ys i = some (Bo (Zc1 (xs.drop i) (ys.drop i)), []) := by
  refine down _ ?_ ?_
  · refine Zyx _ _ _ _ ?_
    simp [Zc1]
  · intro i hi ih
    refine Zyx _ _ _ _ ?_
    have hi2 : i < ys.length := by omega
    have h4 := inc64 (i := i) (by omega)
    rw [Zs2 hi hi2]
    simp at ih
    by_cases h : xs[i] < ys[i]
    · simp [hi, hi2, h4, h, show ¬ ys[i] ≤ xs[i] by omega]
    · simp [hi, hi2, h4, h, show ys[i] ≤ xs[i] by omega, ih]
@[simp] theorem Zbap (xs ys : List Int) (hx : Le xs) : Zkm xs ys = some (Bo (dom xs ys), []) := by
  refine Z9g _ _ _ ?_
  by_cases hl : ys.length = xs.length
  · have := Zbao xs ys hx hl 0 (Nat.zero_le _)
    simp at this
    simp [hl, this, dom]
  · have h2 : ¬ ((xs.length : Int) = ys.length) := by omega
    have h1 : ¬ (xs.length = ys.length) := by omega
    simp [h1, h2, dom]
theorem Zbaq (xs ys : List Int) (hx : Le xs) (hl : ys.length = xs.length) : ∀ i, i ≤ xs.length → Zg4 xs ys xs.length i = some (Bo (Zc1 (xs.drop i) (ys.drop i)), []) := by
  refine down _ ?_ ?_
  · refine Zxg _ _ _ _ _ ?_
    simp [Zc1]
  · intro i hi ih
    refine Zxg _ _ _ _ _ ?_
    have hi2 : i < ys.length := by omega
    have h4 := inc64 (i := i) (by omega)
    rw [Zs2 hi hi2]
    simp at ih
    by_cases h : xs[i] < ys[i]
    · simp [hi, hi2, h4, h, show ¬ ys[i] ≤ xs[i] by omega]
    · simp [hi, hi2, h4, h, show ys[i] ≤ xs[i] by omega, ih]
@[simp] theorem Zbar (xs ys : List Int) (hx : Le xs) : Zjq xs ys = some (Bo (dom xs ys), []) := by
  refine Z7k _ _ _ ?_
  by_cases hl : ys.length = xs.length
  · have := Zbaq xs ys hx hl 0 (Nat.zero_le _)
    simp at this
    simp [hl, this, dom]
  · have h2 : ¬ ((xs.length : Int) = ys.length) := by omega
    have h1 : ¬ (xs.length = ys.length) := by omega
    simp [h1, h2, dom]
def LeX (b : Box) : Prop := Le b.Low ∧ Le b.High
@[simp] theorem Zrx (b : Box) (h : LeX b) : Zej b = some (Bo (Z4 b.Low b.High), []) := by
  refine Z7l _ _ ?_
  have q1 := Zm0 b.Low h.1
  have q2 := Zm0 b.High h.2
  have q3 := Zbar b.High b.Low h.2
  unfold Z4
  rcases tf (Zz b.Low) with e1 | e1 <;> rcases tf (Zz b.High) with e2 | e2 <;> by_cases e3 : 0 < b.Low.length <;> simp [q1, q2, q3, e1, e2, e3]
@[simp] theorem Zry (b : Box) (h : LeX b) : Ze6 b = some (Bo (Z4 b.Low b.High), []) := by
  refine Z9h _ _ ?_
  have q1 := Zmz b.Low h.1
  have q2 := Zmz b.High h.2
  have q3 := Zbap b.High b.Low h.2
  unfold Z4
  rcases tf (Zz b.Low) with e1 | e1 <;> rcases tf (Zz b.High) with e2 | e2 <;> by_cases e3 : 0 < b.Low.length <;> simp [q1, q2, q3, e1, e2, e3]
theorem Zzq (b : Box) (hv : Z4 b.Low b.High = true) : ∀ i, i ≤ b.Low.length → ∀ n : Int, 1 ≤ n → n ≤ 8 ^ i →
    Zh5 b n b.Low.length i = some (I (n * vol (b.Low.drop i) (b.High.drop i)), []) := by
  obtain ⟨b1, b2, b3, b4⟩ := Zdg hv
  refine down _ ?_ ?_
  · intro n _ _
    refine Zzf _ _ _ _ _ ?_
    rw [List.drop_length, ← b1, List.drop_length, Zn1]
    simp
  · intro i hi0 ih n hn1 hn2
    refine Zzf _ _ _ _ _ ?_
    have h5 := inc64 (i := i) (by omega)
    have hi2 : i < b.High.length := by omega
    obtain ⟨g1, g2, g3⟩ := b4 i hi0 hi2
    have p1 := pow8 (i := i + 1) (by omega)
    have p2 : (8 : Int) ^ (i + 1) = 8 ^ i * 8 := Int.pow_succ 8 i
    have hd : (b.High[i] - b.Low[i] + 1) ≤ 8 := by omega
    have hd1 : 1 ≤ (b.High[i] - b.Low[i] + 1) := by omega
    have m1 : n * (b.High[i] - b.Low[i] + 1) ≤ 8 ^ i * 8 := Int.mul_le_mul hn2 hd (by omega) (by omega)
    have m2 : 1 ≤ n * (b.High[i] - b.Low[i] + 1) := by
      have := Int.mul_le_mul hn1 hd1 (by omega) (by omega)
      omega
    have w1 : IntKind.wrap .i64 (b.High[i] - b.Low[i]) = b.High[i] - b.Low[i] := wrap64 (by omega) (by omega)
    have w2 : IntKind.wrap .i64 (b.High[i] - b.Low[i] + 1) = b.High[i] - b.Low[i] + 1 := wrap64 (by omega) (by omega)
    have w3 : IntKind.wrap .i64 (n * (b.High[i] - b.Low[i] + 1)) = n * (b.High[i] - b.Low[i] + 1) := wrap64 (by omega) (by omega)
    have ih := ih (n * (b.High[i] - b.Low[i] + 1)) m2 (by omega)
    rw [Zn2 hi0 hi2, ← Int.mul_assoc]
    simp at ih
    simp [hi0, hi2, h5, w1, w2, w3, ih]
@[simp] theorem Zzr (b : Box) (h : LeX b) : Zld b = some (I (Z7 b.Low b.High), []) := by
  refine Zbac _ _ ?_
  have q1 := Zrx b h
  unfold Z7
  rcases tf (Z4 b.Low b.High) with e | e
  · simp [q1, e]
  · have q2 := Zzq b e 0 (Nat.zero_le _) 1 (by omega) (by decide)
    have q3 : Zgi b = some (I (vol b.Low b.High), []) := Zzg _ _ (by simpa using q2)
    simp [q1, q3, e, capV]
theorem Zbas (b : Box) (hv : Z4 b.Low b.High = true) : ∀ i, i ≤ b.Low.length → ∀ n : Int, 1 ≤ n →
    Zh8 b (capV n) i = some (I (capV (n * vol (b.Low.drop i) (b.High.drop i))), []) := by
  obtain ⟨b1, b2, b3, b4⟩ := Zdg hv
  refine down _ ?_ ?_
  · intro n _
    refine Zzm _ _ _ _ ?_
    rw [List.drop_length, ← b1, List.drop_length, Zn1]
    simp [b1]
  · intro i hi0 ih n hn1
    refine Zzm _ _ _ _ ?_
    have h5 := inc64 (i := i) (by omega)
    have hi2 : i < b.High.length := by omega
    obtain ⟨g1, g2, g3⟩ := b4 i hi0 hi2
    have hd : (b.High[i] - b.Low[i] + 1) ≤ 8 := by omega
    have hd1 : 1 ≤ (b.High[i] - b.Low[i] + 1) := by omega
    obtain ⟨c1, c2⟩ := cap_le hn1
    have m1 : capV n * (b.High[i] - b.Low[i] + 1) ≤ 401 * 8 := Int.mul_le_mul c2 hd (by omega) (by omega)
    have m2 : 1 * 1 ≤ capV n * (b.High[i] - b.Low[i] + 1) := Int.mul_le_mul c1 hd1 (by omega) (by omega)
    have m3 : 1 * 1 ≤ n * (b.High[i] - b.Low[i] + 1) := Int.mul_le_mul hn1 hd1 (by omega) (by omega)
    have w1 : IntKind.wrap .i64 (b.High[i] - b.Low[i]) = b.High[i] - b.Low[i] := wrap64 (by omega) (by omega)
    have w2 : IntKind.wrap .i64 (b.High[i] - b.Low[i] + 1) = b.High[i] - b.Low[i] + 1 := wrap64 (by omega) (by omega)
    have w3 : IntKind.wrap .i64 (capV n * (b.High[i] - b.Low[i] + 1)) = capV n * (b.High[i] - b.Low[i] + 1) := wrap64 (by omega) (by omega)
    have ih := ih (n * (b.High[i] - b.Low[i] + 1)) (by omega)
    rw [← cap_mul hn1 hd1] at ih
    rw [Zn2 hi0 hi2, ← Int.mul_assoc]
    simp at ih
    simp [hi0, hi2, h5, w1, w2, w3, cap_flip, ih]
@[simp] theorem Zbat (b : Box) (h : LeX b) : Zle b = some (I (Z7 b.Low b.High), []) := by
  refine Zbae _ _ ?_
  have q1 := Zry b h
  unfold Z7
  rcases tf (Z4 b.Low b.High) with e | e
  · simp [q1, e]
  · have q2 := Zbas b e 0 (Nat.zero_le _) 1 (by omega)
    have e1 : capV 1 = 1 := by decide
    rw [e1] at q2
    simp at q2
    simp [q1, e, q2]
end Go.Proofs.YtbapkgocloaaeaaGreat
/- part: V3 -/
namespace Go.Proofs.YtbapkgocloaaeaaGreat
open Go.AM
theorem l_vars0 (q : Zb) (m : Int) (hl : Le q.Atoms) (hv : ∀ a ∈ q.Atoms, Le a.Vars) (v : Nat) (hv4 : v < 8) (out : List Int) (ho : out.length ≤ 8) (r : AV × List Blk) : ∀ i, i ≤ q.Atoms.length →
    Zek q (out ++ if hasV m (q.Atoms.drop i) i v = true then [(v : Int)] else []) m (w ((v : Int) + 1)) = some r →
    Zfi q out m v q.Atoms q.Atoms.length i = some r := by
  refine down _ ?_ ?_
  · intro h
    refine Zxi _ _ _ _ _ _ _ _ ?_
    simpa [hasV] using h
  · intro i hi ih h
    refine Zxi _ _ _ _ _ _ _ _ ?_
    have h4 := inc64 (i := i) (by omega)
    have c1 := Zlh q.Atoms[i].Vars v (hv _ (List.getElem_mem hi))
    have h0 : ¬ (i : Int) < 0 := by omega
    rw [Znw _ hi] at h
    by_cases e1 : andI (shrI m i) 1 = 1
    · have e2 : Zp m i = true := by simp [Zp, e1]
      rcases tf (has q.Atoms[i].Vars v) with e3 | e3
      · simp [e2, e3] at h
        have ih := ih (by simpa using h)
        simp at ih
        simp [hi, h4, h0, e1, c1, e3, ih]
      · simp [e2, e3] at h
        have e4 : out.length + 1 ≤ 68719476736 := by omega
        simp [hi, h4, h0, e1, c1, e3, e4, h]
    · have e2 : Zp m i = false := by simp [Zp, e1]
      simp [e2] at h
      have ih := ih (by simpa using h)
      simp at ih
      simp [hi, h4, h0, e1, ih]
theorem l_vars1 (q : Zb) (m : Int) (hl : Le q.Atoms) (hv : ∀ a ∈ q.Atoms, Le a.Vars) (n : Nat) (hq : q.Ze = n) (hn : n ≤ 4) : ∀ k, k ≤ n →
    Zek q (varL m q.Atoms k) m k = some (.own 0, [.arr Zs 1 true ((varL m q.Atoms n).map ic)]) := by
  refine down _ ?_ ?_
  · refine Zxh _ _ _ _ _ ?_
    simp [hq]
  · intro k hk ih
    refine Zxh _ _ _ _ _ ?_
    have h4 := inc64 (i := k) (by omega)
    have b := l_vars0 q m hl hv k (by omega) (varL m q.Atoms k) (by have := Zii m q.Atoms k; omega) _ 0 (Nat.zero_le _) (by
      rw [List.drop_zero, ← Z2y, show w ((k : Int) + 1) = (k : Int) + 1 from h4]; simpa using ih)
    simp at b
    simp [hq, hk, b]
@[simp] theorem Zlk (q : Zb) (m : Int) (h : LeQ q) (hv : Zm q.Ze q.Atoms = true) : Zdh q m = some (.own 0, [.arr Zs 1 true ((varL m q.Atoms q.Ze.toNat).map ic)]) := by
  refine Z7o _ _ _ ?_
  have hn := Zc2 hv
  have b := l_vars1 q m h.1 h.2 q.Ze.toNat (by omega) (by omega) 0 (Nat.zero_le _)
  simpa [varL] using b
theorem l_both (b xs : List Int) (hb : Le b) (hx : xs.length ≤ 1000000) : ∀ i, i ≤ xs.length →
    Zfj ((xs.take i).filter (has b)) b xs xs.length i = some (.own 0, [.arr Zs 1 true ((xs.filter (has b)).map ic)]) := by
  refine down _ ?_ ?_
  · refine Zxj _ _ _ _ _ _ ?_
    simp
  · intro i hi ih
    refine Zxj _ _ _ _ _ _ ?_
    have h4 := inc64 (i := i) (by omega)
    have c1 := Zlh b xs[i] hb
    have e4 : ((xs.take i).filter (has b)).length + 1 ≤ 68719476736 := by
      have := List.length_filter_le (has b) (xs.take i)
      simp at this
      omega
    rw [Znx _ hi] at ih
    rcases tf (has b xs[i]) with e | e
    · simp [e] at ih
      simp [hi, h4, c1, e, ih]
    · simp [e] at ih
      simp [hi, h4, c1, e, e4, ih]
@[simp] theorem x_both (xs b : List Int) (hb : Le b) (hx : xs.length ≤ 1000000) : Zel xs b = some (.own 0, [.arr Zs 1 true ((xs.filter (has b)).map ic)]) := by
  refine Z7p _ _ _ ?_
  have := l_both b xs hb hx 0 (Nat.zero_le _)
  simpa using this
theorem l_bits0 (q : Zb) (m : Int) (hv : ∀ a ∈ q.Atoms, Le a.Vars) (h4v : Var4 q.Atoms) (i : Nat) (hi : i < q.Atoms.length) (hm : Zp m i = true) (r : AV × List Blk) : ∀ k, k ≤ q.Atoms[i].Vars.length → ∀ p,
    Ze4 q m (Zv (addV p (q.Atoms[i].Vars.drop k))) (w ((i : Int) + 1)) = some r → Zf5 q m (Zv p) i k = some r := by
  have e1 : andI (shrI m i) 1 = 1 := by simpa [Zp] using hm
  have h0 : ¬ (i : Int) < 0 := by omega
  have ha := List.getElem_mem hi
  refine down _ ?_ ?_
  · intro p h
    refine Zrr _ _ _ _ _ _ ?_
    rw [List.drop_length, Znt] at h
    simp [hi, h]
  · intro k hk ih p h
    refine Zrr _ _ _ _ _ _ ?_
    have h4 := inc64 (i := k) (by have := hv _ ha; omega)
    have e6 := Zl1 p (v := q.Atoms[i].Vars[k]) (h4v _ ha _ (List.getElem_mem hk))
    have e7 := h4v _ ha _ (List.getElem_mem hk)
    simp [inR] at e7
    have e8 : ¬ q.Atoms[i].Vars[k] < 0 := by omega
    rw [Znu p hk] at h
    have ih := ih _ h
    simp at ih
    simp [hi, hk, h0, e1, h4, e6, e7, e8, ih]
theorem l_bits1 (q : Zb) (m : Int) (hl : Le q.Atoms) (hv : ∀ a ∈ q.Atoms, Le a.Vars) (h4v : Var4 q.Atoms) : ∀ i, i ≤ q.Atoms.length → ∀ p,
    Ze4 q m (Zv p) i = some (I (Zv (addM m p q.Atoms i)), []) := by
  refine down _ ?_ ?_
  · intro p
    refine Zyt _ _ _ _ _ ?_
    have e : addM m p q.Atoms q.Atoms.length = p := by funext u; simp [addM, hasV]
    simp [e]
  · intro i hi ih p
    refine Zyt _ _ _ _ _ ?_
    have h4 := inc64 (i := i) (by omega)
    have h0 : ¬ (i : Int) < 0 := by omega
    rw [Z2x m p hi]
    rcases tf (Zp m i) with e | e
    · have e1 : ¬ andI (shrI m i) 1 = 1 := by simpa [Zp] using e
      have ih := ih p
      simp at ih
      have b : Zf5 q m (Zv p) i 0 = some (I (Zv (addM m p q.Atoms (i + 1))), []) := by
        refine Zrr _ _ _ _ _ _ ?_
        simp [hi, h0, e1, h4, ih]
      simp [hi, e, b]
    · have ih := ih (addV p q.Atoms[i].Vars)
      have b := l_bits0 q m hv h4v i hi e _ 0 (Nat.zero_le _) p (by rw [List.drop_zero, show w ((i : Int) + 1) = (i : Int) + 1 from h4]; simpa using ih)
      simp at b
      simp [hi, e, b]
@[simp] theorem Zi3 (q : Zb) (m : Int) (h : LeQ q) (h4v : Var4 q.Atoms) : Zb4 q m = some (I (Zv (pV m q.Atoms)), []) := by
  refine Z9b _ _ _ ?_
  have b := l_bits1 q m h.1 h.2 h4v 0 (Nat.zero_le _) (fun _ => false)
  have ez : Zv (fun _ => false) = 0 := rfl
  have e : addM m (fun _ => false) q.Atoms 0 = pV m q.Atoms := by funext u; simp [addM, pV]
  rw [ez, e] at b
  simpa using b
end Go.Proofs.YtbapkgocloaaeaaGreat
/- part: V4 -/
namespace Go.Proofs.YtbapkgocloaaeaaGreat
open Go.AM
theorem Zbau (q : Zb) (hq : LeQ q) (h : Zm q.Ze q.Atoms = true) (x : Zc) (info : List Zf) (st : List Int) (hs : StOk info st) (hil : info.length ≤ 100) (hst : st.length ≤ 100) :
    match Zb3 q.Atoms x info st with
    | some y => Zg5 q x info st = some (.tup [.agg (y.c.map .t), Bo true], [])
    | none => ∃ y : Zf, Zg5 q x info st = some (.tup [.agg (y.c.map .t), Bo false], []) := by
  have hl := Zbo h
  have wl : w ((q.Atoms.length : Int) - 1) = (q.Atoms.length : Int) - 1 := wrap64 (by omega) (by omega)
  unfold Zb3
  by_cases k1 : x.Kind = 1
  · rw [if_pos k1]
    by_cases c1 : inR x.Atom 0 (q.Atoms.length - 1) = true ∧ x.Order = 0
    · rw [if_pos c1]
      have c2 := c1.1
      simp [inR] at c2
      have hlt : x.Atom.toNat < q.Atoms.length := by omega
      have hv := Zih h _ (List.getElem_mem hlt)
      have h0 : ¬ x.Atom < 0 := by omega
      simp only
      refine Zgl _ _ _ _ _ ?_
      have e : q.Atoms[x.Atom.toNat].Vars.headD 0 = q.Atoms[x.Atom.toNat].Vars[0]'(by omega) := by
        rw [List.headD_eq_head?_getD, hd0 (by omega)]
      rw [List.headD_eq_head?_getD] at e
      simp [k1, wl, c1, h0, hlt, c2, e, show 0 < q.Atoms[x.Atom.toNat].Vars.length by omega]
    · rw [if_neg c1]
      refine ⟨⟨0, -1, -1, -1⟩, Zgl _ _ _ _ _ ?_⟩
      rcases tf (inR x.Atom 0 (q.Atoms.length - 1)) with e | e
      · simp [k1, wl, e]
      · have e2 : ¬ x.Order = 0 := fun hc => c1 ⟨e, hc⟩
        simp [k1, wl, e, e2]
  rw [if_neg k1]
  by_cases k0 : x.Atom = 0
  rotate_left
  · rw [if_pos k0]
    exact ⟨⟨0, -1, -1, -1⟩, Zgl _ _ _ _ _ (by simp [k1, k0])⟩
  rw [if_neg (by simpa using k0)]
  have w1 : w ((st.length : Int) - 1) = (st.length : Int) - 1 := wrap64 (by omega) (by omega)
  have w2 : w ((st.length : Int) - 2) = (st.length : Int) - 2 := wrap64 (by omega) (by omega)
  by_cases k2 : x.Kind = 2
  · rw [if_pos k2]
    by_cases n1 : st.length < 1
    · have : Zbc st info 1 = none := by unfold Zbc; rw [if_neg (by omega)]
      rw [this]
      have n1' : (st.length : Int) < 1 := by omega
      exact ⟨⟨0, -1, -1, -1⟩, Zgl _ _ _ _ _ (by simp [k1, k2, k0, n1'])⟩
    · have n1' : ¬ (st.length : Int) < 1 := by omega
      obtain ⟨s, y, t1, t2, t3, t4⟩ := Zgw hs (by omega : 1 ≤ 1) (by omega : 1 ≤ st.length)
      have z1 : (0 : Int) ≤ (st.length : Int) - 1 := by omega
      have z5 : (1 : Int) ≤ (st.length : Int) := by omega
      have z2 : ((st.length : Int) - 1).toNat = st.length - 1 := by omega
      have q1 := Zlk q y.Mask hq h
      have q2 := Zlh (varL y.Mask q.Atoms q.Ze.toNat) x.Order (by have := Zii y.Mask q.Atoms q.Ze.toNat; have := Zc2 h; omega)
      rw [Zji h] at q2
      rw [t1]
      simp only
      by_cases c1 : vin q.Atoms y.Mask x.Order = true ∧ y.Order ≠ x.Order
      · rw [if_pos c1]
        refine Zgl _ _ _ _ _ ?_
        simp [k1, k2, k0, n1', w1, z1, z2, z5, t2, t3, t4, q1, q2, c1]
      · rw [if_neg c1]
        refine ⟨⟨0, -1, -1, -1⟩, Zgl _ _ _ _ _ ?_⟩
        rcases tf (vin q.Atoms y.Mask x.Order) with e | e
        · simp [k1, k2, k0, n1', w1, z1, z2, z5, t2, t3, t4, q1, q2, e]
        · have e2 : y.Order = x.Order := Decidable.byContradiction fun hc => c1 ⟨e, hc⟩
          simp [k1, k2, k0, n1', w1, z1, z2, z5, t2, t3, t4, q1, q2, e, e2]
  rw [if_neg k2]
  by_cases n2 : st.length < 2
  · have : Zbc st info 2 = none := by unfold Zbc; rw [if_neg (by omega)]
    rw [this]
    have n2' : (st.length : Int) < 2 := by omega
    exact ⟨⟨0, -1, -1, -1⟩, Zgl _ _ _ _ _ (by simp [k1, k2, k0, n2'])⟩
  have n2' : ¬ (st.length : Int) < 2 := by omega
  obtain ⟨s, y, t1, t2, t3, t4⟩ := Zgw hs (by omega : 1 ≤ 2) (by omega : 2 ≤ st.length)
  obtain ⟨t, z, u1, u2, u3, u4⟩ := Zgw hs (by omega : 1 ≤ 1) (by omega : 1 ≤ st.length)
  have z1 : (0 : Int) ≤ (st.length : Int) - 1 := by omega
  have z2 : ((st.length : Int) - 1).toNat = st.length - 1 := by omega
  have z3 : (0 : Int) ≤ (st.length : Int) - 2 := by omega
  have z4 : ((st.length : Int) - 2).toNat = st.length - 2 := by omega
  have hn := Zc2 h
  have q1 := Zlk q y.Mask hq h
  have q2 := Zlk q z.Mask hq h
  have l1 := Zii y.Mask q.Atoms q.Ze.toNat
  have l2 := Zii z.Mask q.Atoms q.Ze.toNat
  have q3 := x_both (varL y.Mask q.Atoms q.Ze.toNat) (varL z.Mask q.Atoms q.Ze.toNat) (by omega) (by omega)
  have q4 := Zlh ((varL y.Mask q.Atoms q.Ze.toNat).filter (has (varL z.Mask q.Atoms q.Ze.toNat))) x.Order (by
    have := List.length_filter_le (has (varL z.Mask q.Atoms q.Ze.toNat)) (varL y.Mask q.Atoms q.Ze.toNat); omega)
  rw [Z20 h] at q4
  have q5 := Z2z h y.Mask z.Mask
  generalize hS : (varL y.Mask q.Atoms q.Ze.toNat).filter (has (varL z.Mask q.Atoms q.Ze.toNat)) = S at q3 q4 q5
  rw [t1, u1]
  simp only
  have base : ∀ (r : AV × List Blk), (if andI y.Mask z.Mask = 0 then
        if ((S.length : Int) = 0) then some (.tup [.agg [I (orI y.Mask z.Mask), I (-1), I s, I t], Bo false], []) = some r
        else if x.Kind = 3 then some (.tup [.agg [I (orI y.Mask z.Mask), I (-1), I s, I t], Bo (decide (x.Order = 0))], []) = some r
        else if x.Kind = 5 then some (.tup [.agg [I (orI y.Mask z.Mask), I y.Order, I s, I t], Bo (decide (x.Order = 0))], []) = some r
        else if x.Kind = 4 then
          if (vin q.Atoms y.Mask x.Order && vin q.Atoms z.Mask x.Order) = true then
            if y.Order = x.Order then some (.tup [.agg [I (orI y.Mask z.Mask), I x.Order, I s, I t], Bo (decide (z.Order = x.Order))], []) = some r
            else some (.tup [.agg [I (orI y.Mask z.Mask), I x.Order, I s, I t], Bo false], []) = some r
          else some (.tup [.agg [I (orI y.Mask z.Mask), I x.Order, I s, I t], Bo false], []) = some r
        else some (.tup [.agg [I (orI y.Mask z.Mask), I (-1), I s, I t], Bo false], []) = some r
      else some (.tup [.agg [I (orI y.Mask z.Mask), I (-1), I s, I t], Bo false], []) = some r) → Zg5 q x info st = some r := by
    intro r hr
    refine Zgl _ _ _ _ _ ?_
    simp only [k1, k0, k2, if_false, if_true, n2', w1, w2, z1, z2, z3, z4, t2, t3, t4, u2, u3, u4, q1, q2, true_and, Option.some.injEq, exists_eq_left']
    refine ⟨_, rfl, _, rfl, S, ?_, ?_⟩
    · simpa using q3
    · simp only [q4, Option.some.injEq, Prod.mk.injEq, AV.t.injEq, T.bool.injEq, and_true, exists_eq_left']
      simpa using hr
  by_cases c1 : andI y.Mask z.Mask = 0 ∧ shr q.Atoms y.Mask z.Mask = true
  rotate_left
  · rw [if_neg c1]
    refine ⟨⟨orI y.Mask z.Mask, -1, s, t⟩, base _ ?_⟩
    by_cases c2 : andI y.Mask z.Mask = 0
    · have c3 : S.length = 0 := q5.2 (by rcases tf (shr q.Atoms y.Mask z.Mask) with e | e; exact e; exact absurd ⟨c2, e⟩ c1)
      have c4 : (S.length : Int) = 0 := by omega
      rw [if_pos c2, if_pos c4]
      simp
    · rw [if_neg c2]
      simp
  rw [if_pos c1]
  have c4 : ¬ (S.length : Int) = 0 := fun hc => by
    have := q5.1 (by omega)
    rw [c1.2] at this
    cases this
  have c5 : ¬ S = [] := fun hc => c4 (by simp [hc])
  unfold Zbt
  by_cases j1 : x.Kind = 3 ∧ x.Order = 0
  · rw [if_pos j1]
    exact base _ (by simp [c1.1, c4, c5, j1])
  rw [if_neg j1]
  by_cases j2 : x.Kind = 5 ∧ x.Order = 0
  · rw [if_pos j2]
    exact base _ (by simp [c1.1, c4, c5, j2])
  rw [if_neg j2]
  by_cases j3 : x.Kind = 4 ∧ vin q.Atoms y.Mask x.Order = true ∧ vin q.Atoms z.Mask x.Order = true ∧ y.Order = x.Order ∧ z.Order = x.Order
  · rw [if_pos j3]
    exact base _ (by simp [c1.1, c4, c5, j3])
  rw [if_neg j3]
  simp only [Option.map_none]
  by_cases k3 : x.Kind = 3
  · have e : ¬ x.Order = 0 := fun hc => j1 ⟨k3, hc⟩
    exact ⟨⟨orI y.Mask z.Mask, -1, s, t⟩, base _ (by simp [c1.1, c4, c5, k3, e])⟩
  by_cases k5 : x.Kind = 5
  · have e : ¬ x.Order = 0 := fun hc => j2 ⟨k5, hc⟩
    exact ⟨⟨orI y.Mask z.Mask, y.Order, s, t⟩, base _ (by simp [c1.1, c4, c5, k5, e])⟩
  by_cases k4 : x.Kind = 4
  · refine ⟨⟨orI y.Mask z.Mask, x.Order, s, t⟩, base _ ?_⟩
    rcases tf (vin q.Atoms y.Mask x.Order) with e1 | e1 <;> rcases tf (vin q.Atoms z.Mask x.Order) with e2 | e2 <;> by_cases e3 : y.Order = x.Order <;> simp [c1.1, c4, c5, k4, e1, e2, e3]
    exact fun e4 => j3 ⟨k4, e1, e2, e3, e4⟩
  · exact ⟨⟨orI y.Mask z.Mask, -1, s, t⟩, base _ (by simp [c1.1, c4, c5, k3, k4, k5])⟩
end Go.Proofs.YtbapkgocloaaeaaGreat
/- part: V5 -/
namespace Go.Proofs.YtbapkgocloaaeaaGreat
open Go.AM
@[simp] theorem Zm1 (b v : Int) : Ze7 b v = some (Bo (inR v 0 3 && decide (andI (shrI b v) 1 = 1)), []) := by
  refine Z9i _ _ _ ?_
  rcases tf (inR v 0 3) with e | e
  · simp [e]
  · have e0 := e
    simp [inR] at e0
    have : ¬ v < 0 := by omega
    simp [e, this]
def Z2 (x : Zc) : Option Zf → AV × List Blk
  | some y => (.tup [.agg (y.c.map .t), I (popsI x)], [])
  | none => (.tup [.agg [I 0, I 0, I 0, I 0], I (-1)], [])
theorem Zbav (q : Zb) (hq : LeQ q) (h : Zm q.Ze q.Atoms = true) (x : Zc) (info : List Zf) (st : List Int) (hs : StOk info st) (hil : info.length ≤ 100) (hst : st.length ≤ 100) :
    Zf7 q x info st = some (Z2 x (Zb3 q.Atoms x info st)) := by
  have hl := Zbo h
  have wl : w ((q.Atoms.length : Int) - 1) = (q.Atoms.length : Int) - 1 := wrap64 (by omega) (by omega)
  unfold Zb3
  by_cases k1 : x.Kind = 1
  · rw [if_pos k1]
    by_cases c1 : inR x.Atom 0 (q.Atoms.length - 1) = true ∧ x.Order = 0
    · rw [if_pos c1]
      have c2 := c1.1
      simp [inR] at c2
      have hlt : x.Atom.toNat < q.Atoms.length := by omega
      have hv := Zih h _ (List.getElem_mem hlt)
      have h0 : ¬ x.Atom < 0 := by omega
      refine Zed _ _ _ _ _ ?_
      have e : q.Atoms[x.Atom.toNat].Vars.headD 0 = q.Atoms[x.Atom.toNat].Vars[0]'(by omega) := by
        rw [List.headD_eq_head?_getD, hd0 (by omega)]
      rw [List.headD_eq_head?_getD] at e
      simp [k1, wl, c1, h0, hlt, c2, e, Z2, popsI, show 0 < q.Atoms[x.Atom.toNat].Vars.length by omega]
    · rw [if_neg c1]
      refine Zed _ _ _ _ _ ?_
      rcases tf (inR x.Atom 0 (q.Atoms.length - 1)) with e | e
      · simp [k1, wl, e, Z2]
      · have e2 : ¬ x.Order = 0 := fun hc => c1 ⟨e, hc⟩
        simp [k1, wl, e, e2, Z2]
  rw [if_neg k1]
  have w1 : w ((st.length : Int) - 1) = (st.length : Int) - 1 := wrap64 (by omega) (by omega)
  have w2 : w ((st.length : Int) - 2) = (st.length : Int) - 2 := wrap64 (by omega) (by omega)
  by_cases k0 : x.Atom = 0
  rotate_left
  · rw [if_pos k0]
    refine Zed _ _ _ _ _ ?_
    have j : ∀ b, Zhu q x ⟨0, 0, 0, 0⟩ info st st.length x.Kind b = some (Z2 x none) := by
      intro b
      refine Zlg _ _ _ _ _ _ _ _ _ ?_
      cases b <;> simp [k0, Z2]
    by_cases k2 : x.Kind = 2
    · simp [k1, k2, k0, Z2]
    · by_cases k3 : x.Kind = 3 <;> by_cases k4 : x.Kind = 4 <;> simp [k1, k2, k0, k3, k4, j] <;> first | (simp only [k3] at j; simp [j, Z2]) | (simp only [k4] at j; simp [j, Z2]) | simp [Z2]
  rw [if_neg (by simpa using k0)]
  by_cases k2 : x.Kind = 2
  · rw [if_pos k2]
    refine Zed _ _ _ _ _ ?_
    by_cases n1 : st.length < 1
    · have : Zbc st info 1 = none := by unfold Zbc; rw [if_neg (by omega)]
      rw [this]
      have n1' : (st.length : Int) < 1 := by omega
      simp [k1, k2, k0, n1', Z2]
    · have n1' : ¬ (st.length : Int) < 1 := by omega
      obtain ⟨s, y, t1, t2, t3, t4⟩ := Zgw hs (by omega : 1 ≤ 1) (by omega : 1 ≤ st.length)
      have z1 : (0 : Int) ≤ (st.length : Int) - 1 := by omega
      have z5 : (1 : Int) ≤ (st.length : Int) := by omega
      have z2 : ((st.length : Int) - 1).toNat = st.length - 1 := by omega
      have q1 := Zi3 q y.Mask hq (Zgv h)
      have q2 : (inR x.Order 0 3 && decide (andI (shrI (Zv (pV y.Mask q.Atoms)) x.Order) 1 = 1)) = vin q.Atoms y.Mask x.Order := by
        unfold vin
        rcases tf (inR x.Order 0 3) with e | e
        · simp [e]
        · rw [e, Bool.true_and, Bool.true_and, Bool.eq_iff_iff, decide_eq_true_eq]
          exact at_bit _ e
      rw [t1]
      simp only
      by_cases e2 : y.Order = x.Order
      · simp [k1, k2, k0, n1', w1, z1, z2, z5, t2, t3, t4, e2, Z2]
      · rcases tf (vin q.Atoms y.Mask x.Order) with e | e
        · simp only [k1, k2, k0, n1', w1, z1, z2, t2, t3, t4, q1, Zm1, q2, e, e2, if_false, if_true, true_and, Option.some.injEq, exists_eq_left', Prod.mk.injEq, AV.t.injEq, T.int.injEq, T.bool.injEq, and_true]
          simp [Z2]
        · simp only [k1, k2, k0, n1', w1, z1, z2, t2, t3, t4, q1, Zm1, q2, e, e2, if_false, if_true, true_and, Option.some.injEq, exists_eq_left', Prod.mk.injEq, AV.t.injEq, T.int.injEq, T.bool.injEq, and_true]
          simp [Z2, popsI, k1, k2, e2]
  rw [if_neg k2]
  -- a join
  have q0 : ∀ (b : Zf) (c : Zf) (y : Zf) (f : Bool), x.Kind = 4 → ∀ m1 m2, Zf8 q x ⟨0, 0, 0, 0⟩ b c y (andI (Zv (pV m1 q.Atoms)) (Zv (pV m2 q.Atoms))) f =
      if vin q.Atoms m1 x.Order = true ∧ vin q.Atoms m2 x.Order = true ∧ b.Order = x.Order ∧ c.Order = x.Order then some (.tup [.agg [I y.Mask, I x.Order, I y.Left, I y.Right], I 2], []) else some (Z2 x none) := by
    intro b c y f k4 m1 m2
    have e : (inR x.Order 0 3 && decide (andI (shrI (andI (Zv (pV m1 q.Atoms)) (Zv (pV m2 q.Atoms))) x.Order) 1 = 1)) = (vin q.Atoms m1 x.Order && vin q.Atoms m2 x.Order) := by
      unfold vin
      rcases tf (inR x.Order 0 3) with e | e
      · simp [e]
      · rw [e, Bool.true_and, Bool.true_and, Bool.true_and, Bool.eq_iff_iff, decide_eq_true_eq, Zs3]
        simpa using at_bit (fun u => pV m1 q.Atoms u && pV m2 q.Atoms u) e
    split
    · rename_i hc
      refine Zrs _ _ _ _ _ _ _ _ _ ?_
      simp only [Zm1, e, hc]
      simp [k4]
    · rename_i hc
      refine Zrs _ _ _ _ _ _ _ _ _ ?_
      simp only [Zm1, e]
      rcases tf (vin q.Atoms m1 x.Order) with e1 | e1 <;> rcases tf (vin q.Atoms m2 x.Order) with e2 | e2 <;> by_cases e3 : b.Order = x.Order <;> by_cases e4 : c.Order = x.Order <;> simp [k4, e1, e2, e3, e4, Z2]
      exact hc ⟨e1, e2, e3, e4⟩
  have q3 : ∀ (b : Zf) (c : Zf) (y : Zf) (v : Int) (f : Bool), x.Kind ≠ 4 → Zf8 q x ⟨0, 0, 0, 0⟩ b c y v f = some (.tup [.agg (y.c.map .t), I 2], []) := by
    intro b c y v f k4
    exact Zrs _ _ _ _ _ _ _ _ _ (by simp [k4])
  have q5 : ∀ (b : Zf) (c : Zf) (y : Zf) (v : Int), x.Kind ≠ 4 → Zhv q x ⟨0, 0, 0, 0⟩ b c y v = some (.tup [.agg (y.c.map .t), I 2], []) := by
    intro b c y v k4
    exact Z9j _ _ _ _ _ _ _ _ (by simp [k4])
  by_cases kk : x.Kind = 3 ∨ x.Kind = 4 ∨ x.Kind = 5
  rotate_left
  · have k3 : ¬ x.Kind = 3 := fun hc => kk (.inl hc)
    have k4 : ¬ x.Kind = 4 := fun hc => kk (.inr (.inl hc))
    have k5 : ¬ x.Kind = 5 := fun hc => kk (.inr (.inr hc))
    have hj : ∀ y z, Zbt q.Atoms x y z = none := by intro y z; simp [Zbt, k3, k4, k5]
    refine Eq.trans (b := some (Z2 x none)) (Zed _ _ _ _ _ (by simp [k1, k2, k3, k4, k5, Z2])) ?_
    simp only [hj, Option.map_none, ite_self]
    split <;> rfl
  have k5' : x.Kind ≠ 3 → x.Kind ≠ 4 → x.Kind = 5 := fun a b => by rcases kk with h | h | h; exact absurd h a; exact absurd h b; exact h
  have red : ∀ r, Zhu q x ⟨0, 0, 0, 0⟩ info st st.length x.Kind true = some r → (x.Kind = 5 → Zf7 q x info st = some r) → Zf7 q x info st = some r := by
    intro r hr h5
    by_cases k5 : x.Kind = 5
    · exact h5 k5
    · refine Zed _ _ _ _ _ ?_
      by_cases k3 : x.Kind = 3
      · rw [if_neg k1, if_neg k2, if_pos k3]; exact hr
      · by_cases k4 : x.Kind = 4
        · rw [if_neg k1, if_neg k2, if_neg k3, if_pos k4]; exact hr
        · exact absurd (k5' k3 k4) k5
  by_cases n2 : st.length < 2
  · have : Zbc st info 2 = none := by unfold Zbc; rw [if_neg (by omega)]
    rw [this]
    have n2' : (st.length : Int) < 2 := by omega
    refine red _ ?_ ?_
    · exact Zlg _ _ _ _ _ _ _ _ _ (by simp [k0, n2', Z2])
    · intro k5
      exact Zed _ _ _ _ _ (by simp [k5, k0, n2', Z2])
  have n2' : ¬ (st.length : Int) < 2 := by omega
  obtain ⟨s, y, t1, t2, t3, t4⟩ := Zgw hs (by omega : 1 ≤ 2) (by omega : 2 ≤ st.length)
  obtain ⟨t, z, u1, u2, u3, u4⟩ := Zgw hs (by omega : 1 ≤ 1) (by omega : 1 ≤ st.length)
  have z1 : (0 : Int) ≤ (st.length : Int) - 1 := by omega
  have z2 : ((st.length : Int) - 1).toNat = st.length - 1 := by omega
  have z3 : (0 : Int) ≤ (st.length : Int) - 2 := by omega
  have z4 : ((st.length : Int) - 2).toNat = st.length - 2 := by omega
  have b1 := Zi3 q y.Mask hq (Zgv h)
  have b2 := Zi3 q z.Mask hq (Zgv h)
  have b3 := Zny q.Atoms y.Mask z.Mask
  rw [t1, u1]
  simp only
  by_cases c1 : andI y.Mask z.Mask = 0
  rotate_left
  · rw [if_neg (fun hc => c1 hc.1)]
    refine red _ ?_ ?_
    · refine Zlg _ _ _ _ _ _ _ _ _ ?_
      simp only [k0, n2', w1, w2, z1, z2, z3, z4, t2, t3, t4, u2, u3, u4, b1, b2, c1, if_true, if_false, true_and, Option.some.injEq, exists_eq_left', Prod.mk.injEq, AV.t.injEq, T.int.injEq, and_true]
      simp [Z2]
    · intro k5
      refine Zed _ _ _ _ _ ?_
      simp only [k5, k0, n2', w1, w2, z1, z2, z3, z4, t2, t3, t4, u2, u3, u4, b1, b2, c1, if_true, if_false, true_and, Option.some.injEq, exists_eq_left', Prod.mk.injEq, AV.t.injEq, T.int.injEq, and_true]
      simp [Z2]
  rcases tf (shr q.Atoms y.Mask z.Mask) with c2 | c2
  · rw [if_neg (fun hc => by rw [hc.2] at c2; cases c2)]
    have c3 := b3.2 c2
    refine red _ ?_ ?_
    · refine Zlg _ _ _ _ _ _ _ _ _ ?_
      simp only [k0, n2', w1, w2, z1, z2, z3, z4, t2, t3, t4, u2, u3, u4, b1, b2, c1, c3, if_true, if_false, true_and, Option.some.injEq, exists_eq_left', Prod.mk.injEq, AV.t.injEq, T.int.injEq, and_true]
      simp [Z2]
    · intro k5
      refine Zed _ _ _ _ _ ?_
      simp only [k5, k0, n2', w1, w2, z1, z2, z3, z4, t2, t3, t4, u2, u3, u4, b1, b2, c1, c3, if_true, if_false, true_and, Option.some.injEq, exists_eq_left', Prod.mk.injEq, AV.t.injEq, T.int.injEq, and_true]
      simp [Z2]
  rw [if_pos ⟨c1, c2⟩]
  have c3 : ¬ andI (Zv (pV y.Mask q.Atoms)) (Zv (pV z.Mask q.Atoms)) = 0 := fun hc => by rw [b3.1 hc] at c2; cases c2
  have p2 : popsI x = 2 := by unfold popsI; rw [if_neg k1, if_neg k2]
  refine red _ ?_ ?_
  · refine Zlg _ _ _ _ _ _ _ _ _ ?_
    simp only [k0, n2', w1, w2, z1, z2, z3, z4, t2, t3, t4, u2, u3, u4, b1, b2, c1, c3, if_true, if_false, true_and, Option.some.injEq, exists_eq_left', Prod.mk.injEq, AV.t.injEq, T.int.injEq, and_true]
    by_cases k4 : x.Kind = 4
    · have k3 : ¬ x.Kind = 3 := by omega
      have k5 : ¬ x.Kind = 5 := by omega
      rw [if_pos k4, q0 _ _ _ _ k4]
      simp only [Zbt, k3, k4, k5, false_and, true_and, if_false]
      split
      · rename_i hc; simp [Z2, p2]
      · rfl
    · by_cases e : x.Order = 0
      · by_cases k5 : x.Kind = 5
        · rw [if_neg k4, if_pos e, if_pos k5, q5 _ _ _ _ k4]
          simp [Zbt, k5, e, Z2, p2]
        · have k3 : x.Kind = 3 := by omega
          rw [if_neg k4, if_pos e, if_neg k5, q3 _ _ _ _ _ k4]
          simp [Zbt, k3, e, Z2, p2]
      · rw [if_neg k4, if_neg e]
        simp [Zbt, k4, e, Z2]
  · intro k5
    refine Zed _ _ _ _ _ ?_
    have k4 : x.Kind ≠ 4 := by omega
    simp only [k5, k0, n2', w1, w2, z1, z2, z3, z4, t2, t3, t4, u2, u3, u4, b1, b2, c1, c3, if_true, if_false, true_and, Option.some.injEq, exists_eq_left', Prod.mk.injEq, AV.t.injEq, T.int.injEq, and_true]
    by_cases e : x.Order = 0
    · simp [e, q5 _ _ _ _ k4, Zbt, k5, Z2, p2]
    · simp [e, Zbt, k5, Z2]
theorem Zbaw (q : Zb) (hq : LeQ q) (h : Zm q.Ze q.Atoms = true) (p : Plan) (hl : p.Steps.length ≤ 14) : ∀ i, i ≤ p.Steps.length → ∀ info st, StOk info st → info.length = i → st.length ≤ i →
    Zhx q p info st i = some (match Zbd q.Atoms (p.Steps.drop i) i info st with
      | some (info', st') => if st'.length = 1 then (.tup [.own 0, Bo true], [.arr Zgz 4 true (info'.map Zf.c)]) else (.tup [.own 0, Bo false], [.arr Zgz 4 true []])
      | none => (.tup [.own 0, Bo false], [.arr Zgz 4 true []])) := by
  refine down _ ?_ ?_
  · intro info st _ _ _
    rw [List.drop_length, Zbd]
    refine Zyy _ _ _ _ _ _ ?_
    by_cases c : st.length = 1
    · simp [c]
    · have c' : ¬ (st.length : Int) = 1 := by omega
      simp [c, c']
  · intro i hi ih info st hs hil hst
    have h5 := inc64 (i := i) (by omega)
    have s1 := Zbav q hq h p.Steps[i] info st hs (by omega) (by omega)
    rw [Zs9 q.Atoms hi]
    refine Zyy _ _ _ _ _ _ ?_
    cases he : Zb3 q.Atoms p.Steps[i] info st with
    | none =>
      rw [he, Z2] at s1
      have e0 : Zf7 q p.Steps[i] info st = some (.tup [.agg ((⟨0, 0, 0, 0⟩ : Zf).c.map .t), I (-1)], []) := s1
      rw [if_pos (by omega)]
      refine ⟨by omega, _, List.getElem?_eq_getElem hi, _, _, e0, ?_⟩
      simp
    | some y =>
      rw [he, Z2] at s1
      obtain ⟨f1, f2, f3⟩ := Znz hs he
      rw [f1] at s1
      have hn := Zjj hs y (st.length - pops y)
      rw [hil] at hn
      have ih := ih (info ++ [y]) (st.take (st.length - pops y) ++ [(i : Int)]) hn (by simp [hil]) (st_len hst _)
      have w2 : w ((st.length : Int) - (pops y : Int)) = (st.length : Int) - (pops y : Int) := wrap64 (by omega) (by omega)
      have z2 : ((st.length : Int) - (pops y : Int)).toNat = st.length - pops y := by omega
      rw [if_pos (by omega)]
      refine ⟨by omega, _, List.getElem?_eq_getElem hi, _, _, s1, ?_⟩
      rw [if_neg (by omega), w2, z2]
      refine ⟨by omega, by omega, by omega, by omega, by omega, ?_⟩
      rw [show w ((i : Int) + 1) = (i : Int) + 1 from h5]
      simpa using ih
@[simp] theorem Zzs (q : Zb) (p : Plan) (hq : LeQ q) : Zhw q p = some (match Zbe q.Ze q.Atoms p.Steps with
    | some info => (.tup [.own 0, Bo true], [.arr Zgz 4 true (info.map Zf.c)])
    | none => (.tup [.own 0, Bo false], [.arr Zgz 4 true []])) := by
  refine Z9k _ _ _ ?_
  have q1 := Zmx q hq
  unfold Zbe
  rcases tf (Zm q.Ze q.Atoms) with e | e
  · simp [q1, e]
  rcases tf (inR p.Steps.length 1 14) with e2 | e2
  · simp [q1, e, e2]
  · have e3 := e2
    simp [inR] at e3
    have b := Zbaw q hq e p (by omega) 0 (Nat.zero_le _) [] [] (fun s hs => by cases hs) rfl (Nat.le_refl _)
    simp only [List.drop_zero] at b
    simp only [q1, e, e2, Zgm, Option.some.injEq, Prod.mk.injEq, AV.t.injEq, T.bool.injEq, and_true, exists_eq_left', if_true, and_self]
    refine Eq.trans b ?_
    cases Zbd q.Atoms p.Steps 0 [] [] with
    | none => rfl
    | some r => obtain ⟨a, b⟩ := r; simp only; split <;> rfl
end Go.Proofs.YtbapkgocloaaeaaGreat
/- part: V6 -/
namespace Go.Proofs.YtbapkgocloaaeaaGreat
open Go.AM
theorem Zbax (q : Zb) (hq : LeQ q) (h : Zm q.Ze q.Atoms = true) (steps : List Zc) (hl : steps.length ≤ 14) : ∀ i, i ≤ steps.length → ∀ info st, StOk info st → info.length = i → st.length ≤ i →
    Zen q info st steps steps.length i = some (match Zbd q.Atoms (steps.drop i) i info st with
      | some (info', st') => if st'.length = 1 then (.tup [.own 0, Bo true], [.arr Zgz 4 true (info'.map Zf.c)]) else (.tup [.t .nil, Bo false], [])
      | none => (.tup [.t .nil, Bo false], [])) := by
  refine down _ ?_ ?_
  · intro info st _ _ _
    rw [List.drop_length, Zbd]
    refine Zxk _ _ _ _ _ _ _ ?_
    by_cases c : st.length = 1
    · simp [c]
    · have c' : ¬ (st.length : Int) = 1 := by omega
      simp [c, c']
  · intro i hi ih info st hs hil hst
    have h5 := inc64 (i := i) (by omega)
    have s1 := Zbau q hq h steps[i] info st hs (by omega) (by omega)
    rw [Zs9 q.Atoms hi]
    refine Zxk _ _ _ _ _ _ _ ?_
    cases he : Zb3 q.Atoms steps[i] info st with
    | none =>
      rw [he] at s1
      obtain ⟨y, s1⟩ := s1
      rw [if_pos (by omega)]
      refine ⟨by omega, _, List.getElem?_eq_getElem hi, _, _, s1, ?_⟩
      simp
    | some y =>
      rw [he] at s1
      obtain ⟨f1, f2, f3⟩ := Znz hs he
      have hn := Zjj hs y (st.length - pops y)
      rw [hil] at hn
      have ih := ih (info ++ [y]) (st.take (st.length - pops y) ++ [(i : Int)]) hn (by simp [hil]) (st_len hst _)
      rw [if_pos (by omega)]
      refine ⟨by omega, _, List.getElem?_eq_getElem hi, _, _, s1, ?_⟩
      rw [if_pos rfl]
      refine ⟨by omega, ?_⟩
      simp only
      unfold pops at ih f2 ⊢
      rw [show w ((i : Int) + 1) = (i : Int) + 1 from h5]
      by_cases r : 0 ≤ y.Right
      · simp only [if_pos r] at ih f2 ⊢
        have w2 : w ((st.length : Int) - 2) = (st.length : Int) - 2 := wrap64 (by omega) (by omega)
        have z2 : ((st.length : Int) - 2).toNat = st.length - 2 := by omega
        rw [w2, z2]
        refine ⟨by omega, by omega, by omega, by simpa using ih⟩
      · simp only [if_neg r] at ih f2 ⊢
        by_cases l : 0 ≤ y.Left
        · simp only [if_pos l] at ih f2 ⊢
          have w2 : w ((st.length : Int) - 1) = (st.length : Int) - 1 := wrap64 (by omega) (by omega)
          have z2 : ((st.length : Int) - 1).toNat = st.length - 1 := by omega
          rw [w2, z2]
          refine ⟨by omega, by omega, by omega, by simpa using ih⟩
        · simp only [if_neg l] at ih f2 ⊢
          exact ⟨by omega, by simpa using ih⟩
@[simp] theorem Zzt (q : Zb) (p : Plan) (hq : LeQ q) : Zem q p = some (match Zbe q.Ze q.Atoms p.Steps with
    | some info => (.tup [.own 0, Bo true], [.arr Zgz 4 true (info.map Zf.c)])
    | none => (.tup [.t .nil, Bo false], [])) := by
  refine Z7q _ _ _ ?_
  have q1 := Zli q hq
  unfold Zbe
  rcases tf (Zm q.Ze q.Atoms) with e | e
  · simp [q1, e]
  rcases tf (inR p.Steps.length 1 14) with e2 | e2
  · simp [q1, e, e2]
  · have e3 := e2
    simp [inR] at e3
    have b := Zbax q hq e p.Steps (by omega) 0 (Nat.zero_le _) [] [] (fun s hs => by cases hs) rfl (Nat.le_refl _)
    simp only [List.drop_zero] at b
    simp only [q1, e, e2, Zcw, Option.some.injEq, Prod.mk.injEq, AV.t.injEq, T.bool.injEq, and_true, exists_eq_left', if_true, and_self]
    refine Eq.trans b ?_
    cases Zbd q.Atoms p.Steps 0 [] [] with
    | none => rfl
    | some r => obtain ⟨a, b⟩ := r; simp only; split <;> rfl
@[simp] theorem Zbay (q : Zb) (p : Plan) (hq : LeQ q) : Zjs q p = some (I (Zfe q.Ze q.Atoms p.Steps), []) := by
  refine Z7r _ _ _ ?_
  have q1 := Zzt q p hq
  unfold Zfe
  cases he : Zbe q.Ze q.Atoms p.Steps with
  | none => rw [he] at q1; exact .inl ⟨q1, rfl⟩
  | some info =>
    obtain ⟨l1, l2, l3, l4⟩ := Zgx he
    rw [he] at q1
    have hlt : info.length - 1 < info.length := by omega
    have w1 : w ((info.length : Int) - 1) = (info.length : Int) - 1 := wrap64 (by omega) (by omega)
    have z2 : ((info.length : Int) - 1).toNat = info.length - 1 := by omega
    refine .inr ⟨info, q1, ?_⟩
    rw [w1, z2]
    refine ⟨by omega, _, List.getElem?_eq_getElem hlt, ?_⟩
    simp [List.getElem?_eq_getElem hlt]
@[simp] theorem Zbaz (q : Zb) (p : Plan) (hq : LeQ q) : Zko q p = some (I (Zfe q.Ze q.Atoms p.Steps), []) := by
  refine Z9l _ _ _ ?_
  have q1 := Zzs q p hq
  unfold Zfe
  cases he : Zbe q.Ze q.Atoms p.Steps with
  | none => rw [he] at q1; exact ⟨[], false, q1, by simp⟩
  | some info =>
    obtain ⟨l1, l2, l3, l4⟩ := Zgx he
    rw [he] at q1
    have hlt : info.length - 1 < info.length := by omega
    have w1 : w ((info.length : Int) - 1) = (info.length : Int) - 1 := wrap64 (by omega) (by omega)
    have z2 : ((info.length : Int) - 1).toNat = info.length - 1 := by omega
    refine ⟨info, true, q1, ?_⟩
    rw [if_pos rfl, w1, z2]
    refine ⟨by omega, _, List.getElem?_eq_getElem hlt, ?_⟩
    simp [List.getElem?_eq_getElem hlt]
/-! ### indices, slack -/
/-! ### bouquets -/
end Go.Proofs.YtbapkgocloaaeaaGreat
/- part: OP -/
namespace Go.Proofs.YtbapkgocloaaeaaGreat
open Go.AM
def Zc8 : Int → List Zg → Bool
  | _, [] => true
  | p, s :: r => inR s.From 1 8192 && inR s.Add (-99) 99 && decide (p < s.From) && Zc8 s.From r
def Zb9 (l : List Zg) : Nat → Int
  | 0 => 0
  | i + 1 => match l[i]? with | some s => s.From | none => 0
def Zca (n : Int) : Bool := inR n (-99) 99
def Z8 (o : Zh) : Bool := Zca o.Fixed && Zca o.Zi && Zca o.Zj && Zca o.Zl && Zca o.Zk && decide (o.Steps.length ≤ 4) && Zc8 0 o.Steps
theorem Zzu (p : Int) {l : List Zg} {i : Nat} (h : i < l.length) : Zc8 p (l.drop i) = (inR l[i].From 1 8192 && inR l[i].Add (-99) 99 && decide (p < l[i].From) && Zc8 l[i].From (l.drop (i + 1))) := by
  rw [List.drop_eq_getElem_cons h, Zc8]
@[simp] theorem Zba0 (n : Int) : Zdn n = some (Bo (Zca n), []) := by
  refine Z8w _ _ ?_
  simp [Zca]
theorem Zba1 (o : Zh) (hl : Le o.Steps) : ∀ i, i ≤ o.Steps.length → Ze1 o i = some (Bo (Zc8 (Zb9 o.Steps i) (o.Steps.drop i)), []) := by
  refine down _ ?_ ?_
  · refine Zyh _ _ _ ?_
    simp [Zc8]
  · intro i hi ih
    refine Zyh _ _ _ ?_
    have h4 := inc64 (i := i) (by omega)
    rw [Zzu _ hi]
    have pn : Zb9 o.Steps (i + 1) = o.Steps[i].From := by simp [Zb9, List.getElem?_eq_getElem hi]
    rw [pn] at ih
    simp only [Int.natCast_add, Int.cast_ofNat_Int] at ih
    rw [if_pos (by omega)]
    refine ⟨by omega, o.Steps[i], by rw [Int.toNat_natCast]; exact List.getElem?_eq_getElem hi, _, Zgm _ _ _, ?_⟩
    rcases tf (inR o.Steps[i].From 1 8192) with e1 | e1
    · rw [e1]; simp
    rw [e1, if_pos rfl]
    refine ⟨_, Zba0 _, ?_⟩
    unfold Zca
    rcases tf (inR o.Steps[i].Add (-99) 99) with e2 | e2
    · rw [e2]; simp
    rw [e2, if_pos rfl, show w ((i : Int) + 1) = (i : Int) + 1 from h4]
    cases i with
    | zero =>
      rw [if_neg (by omega), ih]
      have : Zb9 o.Steps 0 < o.Steps[0].From := by simp [inR] at e1; simp [Zb9]; omega
      simp [this]
    | succ j =>
      have hj : j < o.Steps.length := by omega
      have w2 : w (((j + 1 : Nat) : Int) - 1) = j := by rw [show ((j + 1 : Nat) : Int) - 1 = j by omega]; exact wrap64 (by omega) (by omega)
      have pj : Zb9 o.Steps (j + 1) = o.Steps[j].From := by simp [Zb9, List.getElem?_eq_getElem hj]
      rw [if_pos (by omega), w2, pj]
      refine ⟨by omega, o.Steps[j], by rw [Int.toNat_natCast]; exact List.getElem?_eq_getElem hj, ?_⟩
      by_cases e3 : o.Steps[j + 1].From ≤ o.Steps[j].From
      · rw [if_pos e3, decide_eq_false (by omega)]; simp
      · rw [if_neg e3, decide_eq_true (by omega), ih]; simp
@[simp] theorem Zll (o : Zh) (hl : Le o.Steps) : Zd9 o = some (Bo (Z8 o), []) := by
  refine Z8x _ _ ?_
  have b := Zba1 o hl 0 (Nat.zero_le _)
  simp only [Zb9, List.drop_zero, Int.ofNat_zero] at b
  have b : Ze1 o 0 = _ := b
  unfold Z8
  rcases tf (Zca o.Fixed) with e1 | e1
  · simp [e1]
  rcases tf (Zca o.Zi) with e2 | e2
  · simp [e1, e2]
  rcases tf (Zca o.Zj) with e3 | e3
  · simp [e1, e2, e3]
  rcases tf (Zca o.Zl) with e4 | e4
  · simp [e1, e2, e3, e4]
  rcases tf (Zca o.Zk) with e5 | e5
  · simp [e1, e2, e3, e4, e5]
  by_cases e6 : o.Steps.length ≤ 4
  · have e7 : ¬ (4 : Int) < o.Steps.length := by omega
    simp [e1, e2, e3, e4, e5, e6, e7, b]
  · have e7 : (4 : Int) < o.Steps.length := by omega
    simp [e1, e2, e3, e4, e5, e6, e7]
theorem Zba2 (o : Zh) (hl : Le o.Steps) : ∀ i, i ≤ o.Steps.length → Zep o o.Steps o.Steps.length i = some (Bo (Zc8 (Zb9 o.Steps i) (o.Steps.drop i) && decide (o.Steps.length ≤ 4)), []) := by
  refine down _ ?_ ?_
  · refine Zxp _ _ _ _ _ ?_
    rw [if_neg (by omega)]
    by_cases e : o.Steps.length ≤ 4
    · simp [Zc8, e]; omega
    · simp [Zc8, e]; omega
  · intro i hi ih
    refine Zxp _ _ _ _ _ ?_
    have h4 := inc64 (i := i) (by omega)
    rw [Zzu _ hi]
    have pn : Zb9 o.Steps (i + 1) = o.Steps[i].From := by simp [Zb9, List.getElem?_eq_getElem hi]
    rw [pn] at ih
    simp only [Int.natCast_add, Int.cast_ofNat_Int] at ih
    rw [if_pos (by omega)]
    refine ⟨by omega, o.Steps[i], by rw [Int.toNat_natCast]; exact List.getElem?_eq_getElem hi, _, Zcw _ _ _, ?_⟩
    rcases tf (inR o.Steps[i].Add (-99) 99) with e2 | e2
    · rw [e2]; simp
    rw [e2, if_pos rfl]
    refine ⟨_, Zcw _ _ _, ?_⟩
    rcases tf (inR o.Steps[i].From 1 8192) with e1 | e1
    · rw [e1]; simp
    rw [e1, if_pos rfl, show w ((i : Int) + 1) = (i : Int) + 1 from h4]
    cases i with
    | zero =>
      rw [if_neg (by omega), ih]
      have : Zb9 o.Steps 0 < o.Steps[0].From := by simp [inR] at e1; simp [Zb9]; omega
      simp [this]
    | succ j =>
      have hj : j < o.Steps.length := by omega
      have w2 : w (((j + 1 : Nat) : Int) - 1) = j := by rw [show ((j + 1 : Nat) : Int) - 1 = j by omega]; exact wrap64 (by omega) (by omega)
      have pj : Zb9 o.Steps (j + 1) = o.Steps[j].From := by simp [Zb9, List.getElem?_eq_getElem hj]
      rw [if_pos (by omega), w2, pj]
      refine ⟨by omega, o.Steps[j], by rw [Int.toNat_natCast]; exact List.getElem?_eq_getElem hj, ?_⟩
      by_cases e3 : o.Steps[j + 1].From ≤ o.Steps[j].From
      · rw [if_pos e3, decide_eq_false (by omega)]; simp
      · rw [if_neg e3, decide_eq_true (by omega), ih]; simp
@[simp] theorem Zcb (o : Zh) (hl : Le o.Steps) : Zbj o = some (Bo (Z8 o), []) := by
  refine Z7x _ _ ?_
  have hc : Zjv o = some (.bsl 1 5, [.box (o.c.map .t), .box [.ptr 0 0, .ptr 0 1, .ptr 0 2, .ptr 0 3, .ptr 0 4]]) := Z7w _ _ rfl
  refine ⟨hc, ?_⟩
  have b := Zba2 o hl 0 (Nat.zero_le _)
  simp only [Zb9, List.drop_zero] at b
  have b : Zep o o.Steps o.Steps.length 0 = _ := b
  have w1 : w (0 + 1) = 1 := by decide
  have w2 : w (1 + 1) = 2 := by decide
  have w3 : w (2 + 1) = 3 := by decide
  have w4 : w (3 + 1) = 4 := by decide
  have w5 : w (4 + 1) = 5 := by decide
  unfold Z8 Zca
  refine Zi1 _ _ _ _ ?_
  rw [if_pos (by omega), if_pos rfl]
  refine ⟨_, Zcw _ _ _, ?_⟩
  rcases tf (inR o.Fixed (-99) 99) with e1 | e1
  · rw [e1]; simp
  rw [e1, if_pos rfl, w1]
  refine Zi1 _ _ _ _ ?_
  rw [if_pos (by omega), if_neg (by omega), if_pos rfl]
  refine ⟨_, Zcw _ _ _, ?_⟩
  rcases tf (inR o.Zi (-99) 99) with e2 | e2
  · rw [e2]; simp
  rw [e2, if_pos rfl, w2]
  refine Zi1 _ _ _ _ ?_
  rw [if_pos (by omega), if_neg (by omega), if_neg (by omega), if_pos rfl]
  refine ⟨_, Zcw _ _ _, ?_⟩
  rcases tf (inR o.Zj (-99) 99) with e3 | e3
  · rw [e3]; simp
  rw [e3, if_pos rfl, w3]
  refine Zi1 _ _ _ _ ?_
  rw [if_pos (by omega), if_neg (by omega), if_neg (by omega), if_neg (by omega), if_pos rfl]
  refine ⟨_, Zcw _ _ _, ?_⟩
  rcases tf (inR o.Zl (-99) 99) with e4 | e4
  · rw [e4]; simp
  rw [e4, if_pos rfl, w4]
  refine Zi1 _ _ _ _ ?_
  rw [if_pos (by omega), if_neg (by omega), if_neg (by omega), if_neg (by omega), if_neg (by omega), if_pos rfl]
  refine ⟨_, Zcw _ _ _, ?_⟩
  rcases tf (inR o.Zk (-99) 99) with e5 | e5
  · rw [e5]; simp
  rw [e5, if_pos rfl, w5]
  refine Zi1 _ _ _ _ ?_
  rw [if_neg (by omega), b]
  simp [Bool.and_comm]
/-! ### costs -/
def Zfa (o : Zh) (l r n : Int) : Int := w (w (w (w (o.Fixed + w (o.Zi * l)) + w (o.Zj * r)) + w (o.Zl * n)) + w (w (o.Zk * l) * r))
def Zc9 (l r : Int) (n : Int) (s : Zg) : Int := if s.From ≤ w (l + r) then w (n + s.Add) else n
def Zi4 (o : Zh) (l r n : Int) : Int := o.Steps.foldl (Zc9 l r) (Zfa o l r n)
def Z3 (o : Zh) (l r n : Int) : Int := if (Z8 o && inR l 0 4096 && inR r 0 4096 && inR n 0 4096) = true then Zi4 o l r n else 0
theorem Zba3 (l r : Int) (st : List Zg) (hl : Le st) : ∀ i, i ≤ st.length → ∀ n, Zfm l r n st st.length i = some (I ((st.drop i).foldl (Zc9 l r) n), []) := by
  refine down _ ?_ ?_
  · intro n
    refine Zxu _ _ _ _ _ _ _ ?_
    simp
  · intro i hi ih n
    refine Zxu _ _ _ _ _ _ _ ?_
    have h4 := inc64 (i := i) (by omega)
    rw [List.drop_eq_getElem_cons hi, List.foldl_cons]
    simp only [Int.natCast_add, Int.cast_ofNat_Int] at ih
    by_cases e : st[i].From ≤ w (l + r)
    · simp [hi, h4, e, ih, Zc9]
    · simp [hi, h4, e, ih, Zc9]
@[simp] theorem Zbfm (o : Zh) (hl : Le o.Steps) (l r n : Int) : Zha o l r n = some (I (Zi4 o l r n), []) := by
  refine Z70 _ _ _ _ _ ?_
  have b := Zba3 l r o.Steps hl 0 (Nat.zero_le _) (Zfa o l r n)
  simpa [Zi4, Zfa] using b
@[simp] theorem Zee (o : Zh) (hl : Le o.Steps) (l r n : Int) : Zbh o l r n = some (I (Z3 o l r n), []) := by
  refine Z77 _ _ _ _ _ ?_
  unfold Z3
  rcases tf (Z8 o) with e1 | e1 <;> rcases tf (inR l 0 4096) with e2 | e2 <;> rcases tf (inR r 0 4096) with e3 | e3 <;> rcases tf (inR n 0 4096) with e4 | e4 <;> simp [hl, e1, e2, e3, e4]
theorem Zba4 (o : Zh) (l r : Int) (hl : Le o.Steps) : ∀ i, i ≤ o.Steps.length → ∀ n, Ze3 o l r n i = some (I ((o.Steps.drop i).foldl (Zc9 l r) n), []) := by
  refine down _ ?_ ?_
  · intro n
    refine Zyi _ _ _ _ _ _ ?_
    simp
  · intro i hi ih n
    refine Zyi _ _ _ _ _ _ ?_
    have h4 := inc64 (i := i) (by omega)
    rw [List.drop_eq_getElem_cons hi, List.foldl_cons]
    simp only [Int.natCast_add, Int.cast_ofNat_Int] at ih
    by_cases e : o.Steps[i].From ≤ w (l + r)
    · simp [hi, h4, e, ih, Zc9]
    · simp [hi, h4, e, ih, Zc9]
@[simp] theorem Zdw (o : Zh) (hl : Le o.Steps) (l r n : Int) : Zbp o l r n = some (I (Z3 o l r n), []) := by
  refine Z80 _ _ _ _ _ ?_
  have b := Zba4 o l r hl 0 (Nat.zero_le _) (Zfa o l r n)
  simp only [List.drop_zero, Zfa] at b
  have b : Ze3 o l r _ 0 = _ := b
  unfold Z3
  rcases tf (Z8 o) with e1 | e1 <;> rcases tf (inR l 0 4096) with e2 | e2 <;> rcases tf (inR r 0 4096) with e3 | e3 <;> rcases tf (inR n 0 4096) with e4 | e4 <;> simp [hl, e1, e2, e3, e4, b, Zi4, Zfa]
end Go.Proofs.YtbapkgocloaaeaaGreat
