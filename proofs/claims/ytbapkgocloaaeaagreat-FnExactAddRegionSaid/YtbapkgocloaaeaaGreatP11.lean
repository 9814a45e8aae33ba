/-
  Parts of the proofs for this seat: G11 G12 G13 G14 G15 G16 G17 V1 V2 V3 V4 V5 V6 OP.
-/
import Derived.Test.YtbapkgocloaaeaaGreatP7
import Derived.Test.YtbapkgocloaaeaaGreatP9
import Derived.Test.YtbapkgocloaaeaaGreatP10
set_option linter.unusedSimpArgs false
set_option linter.unusedVariables false
set_option maxRecDepth 100000
set_option maxHeartbeats 4000000
namespace Go.Proofs.YtbapkgocloaaeaaGreat
open Go.AM
theorem Z34 (q:Zb) (out:List Zv) (masks:List Int) (i:Int) (r:AV×List Blk) (h:(if i<(masks.length:Int) then (0≤i∧(∃ (e1:Int),masks[i.toNat]?=some e1∧(∃ (v2_0:List Int),Zl2 q e1=some (.own 0,[.arr 3 1 true (v2_0.map ic)])∧(Zl9 q out masks e1 v2_0 i 0=some r)))) else (some (.own 0,[.arr 242 3 true (out.map Zv.c)])=some r))):Zec q out masks i=some r:=by
 unfold Zec
 rw [EvL_eq Zl6.eq_1]
 simp only [Zl2,Zb.c_def,mpl,dfs] at h
 try simp only [itb] at h
 try simp only [itf,gS,kk] at h
 rcases h with ⟨q1,q2,e1,⟨g3,q3⟩,v2_0,q4,h⟩ | ⟨q1,h⟩
 all_goals (refine Eq.trans ?_ h;clear h;simp +decide [*,kk,Zl9,Zl7])
theorem Zbg4 (q:Zb) (out:List Zv) (masks:List Int) (mask:Int) (x:List Int) (i:Int) (k:Int) (r:AV×List Blk) (h:(if k<(x.length:Int) then (0≤k∧(∃ (e1:Int),x[k.toNat]?=some e1∧(0≤i∧(∃ (e2:Int),masks[i.toNat]?=some e2∧(∃ (v3_0:List Int),Zg7 q e1 (w (e2 - e1))=some (.own 0,[.arr 3 1 true (v3_0.map ic)])∧(Ziw q out masks mask x ([v3_0]) i (w (k+1))=some r)))))) else (out.length+1≤68719476736∧(Zec q (out++[(⟨mask,x,[]⟩:Zv)]) masks (w (i+1))=some r)))):Zl9 q out masks mask x i k=some r:=by
 unfold Zl9
 rw [EvL_eq Zl3.eq_1]
 simp only [Zg7,Zb.c_def,mpl,dfs] at h
 try simp only [itb] at h
 try simp only [itf,gS,kk] at h
 rcases h with ⟨q1,q2,e1,⟨g3,q3⟩,q4,e2,⟨g5,q5⟩,v3_0,q6,h⟩ | ⟨q1,q7,h⟩
 all_goals (refine Eq.trans ?_ h;clear h;simp +decide [*,kk,Ziw,Zec,Zl5,Zl4])
theorem Z35 (q:Zb) (out:List Zv) (masks:List Int) (mask:Int) (x:List Int) (x1:List (List Int)) (i:Int) (k:Int) (r:AV×List Blk) (h:(if k<(x.length:Int) then (0≤k∧(∃ (e1:Int),x[k.toNat]?=some e1∧(0≤i∧(∃ (e2:Int),masks[i.toNat]?=some e2∧(∃ (v3_0:List Int),Zg7 q e1 (w (e2 - e1))=some (.own 0,[.arr 3 1 true (v3_0.map ic)])∧(x1.length+1≤68719476736∧(Ziw q out masks mask x (x1++[v3_0]) i (w (k+1))=some r))))))) else (out.length+1≤68719476736∧(Zec q (out++[(⟨mask,x,x1⟩:Zv)]) masks (w (i+1))=some r)))):Ziw q out masks mask x x1 i k=some r:=by
 unfold Ziw
 rw [EvL_eq Zl3.eq_1]
 simp only [Zg7,Zb.c_def,mpl,dfs] at h
 try simp only [itb] at h
 try simp only [itf,gS,kk] at h
 rcases h with ⟨q1,q2,e1,⟨g3,q3⟩,q4,e2,⟨g5,q5⟩,v3_0,q6,q7,h⟩ | ⟨q1,q8,h⟩
 all_goals (refine Eq.trans ?_ h;clear h;simp +decide [*,kk,Ziw,Zec,Zl5,Zl4])
theorem Zbg5 (a:Zb) (r:AV×List Blk) (h:(∃ (v1_0:List Int),Zl1 a=some (.own 0,[.arr 3 1 true (v1_0.map ic)])∧(Zec a ([]:List Zv) v1_0 0=some r))):Zl8 a=some r:=by
 unfold Zl8
 refine run Zbdg rfl ?_
 simp only [Zl1,Zb.c_def,mpl,dfs] at h
 rcases h with ⟨v1_0,q1,h⟩
 all_goals (refine Eq.trans ?_ h;clear h;simp +decide [*,kk,Z0w,Zec])
theorem Zuv (out:List Int) (l:List Int) (i:Int) (r:AV×List Blk) (h:(if i<(l.length:Int) then (∃ (v1_0:Bool),Zg1 l=some (Bo v1_0,[])∧(if v1_0=true then (0≤i∧(∃ (e2:Int),l[i.toNat]?=some e2∧(∃ (v3_0:Int),Zfp e2=some (I v3_0,[])∧(out.length+1≤68719476736∧(Ziy (out++[v3_0]) l (w (i+1))=some r))))) else (some (.own 0,[.arr 3 1 true (out.map ic)])=some r))) else (some (.own 0,[.arr 3 1 true (out.map ic)])=some r))):Ziy out l i=some r:=by
 unfold Ziy
 rw [EvL_eq Ztl.eq_1]
 simp only [Zg1,Zfp,mpl,dfs] at h
 try simp only [itb] at h
 try simp only [itf,gS,kk] at h
 rcases h with ⟨q1,v1_0,q2,(⟨q3,q4,e2,⟨g5,q5⟩,v3_0,q6,q7,h⟩ | ⟨q3,h⟩)⟩ | ⟨q1,h⟩
 all_goals (refine Eq.trans ?_ h;clear h;simp +decide [*,kk,Ziy,Ztm])
theorem Z36 (a:List Int) (r:AV×List Blk) (h:(Ziy ([]:List Int) a 0=some r)):Zix a=some r:=by
 unfold Zix
 refine run Zbdh rfl ?_
 refine Eq.trans ?_ h;clear h;simp +decide [*,kk,Z0x,Ziy]
theorem Z37 (out:List Int) (mask:Int) (i:Int) (r:AV×List Blk) (h:(if i<4 then (∃ (v1_0:Bool),Z0 mask 0 15=some (Bo v1_0,[])∧(if v1_0=true then (¬ i<0∧(if (andI (shrI mask i) 1)=1 then (out.length+1≤68719476736∧(Zg9 (out++[i]) mask (w (i+1))=some r)) else (Zg9 out mask (w (i+1))=some r))) else (some (.own 0,[.arr 3 1 true (out.map ic)])=some r))) else (some (.own 0,[.arr 3 1 true (out.map ic)])=some r))):Zg9 out mask i=some r:=by
 unfold Zg9
 rw [EvL_eq Ztn.eq_1]
 simp only [Z0,mpl,dfs] at h
 try simp only [itb] at h
 try simp only [itf,gS,kk] at h
 rcases h with ⟨q1,v1_0,q2,(⟨q3,q4,(⟨q5,q6,h⟩ | ⟨q5,h⟩)⟩ | ⟨q3,h⟩)⟩ | ⟨q1,h⟩
 all_goals (refine Eq.trans ?_ h;clear h;simp +decide [*,kk,Zg9,Z0y,Zto])
theorem Zbg6 (a:Int) (r:AV×List Blk) (h:(Zg9 ([]:List Int) a 0=some r)):Zma a=some r:=by
 unfold Zma
 refine run Zbdi rfl ?_
 refine Eq.trans ?_ h;clear h;simp +decide [*,kk,Z0z,Zg9]
theorem Zbg7 (a:Int) (r:AV×List Blk) (h:(some (.agg [.own 0],[.arr 142 3 true (([(⟨1,a,0⟩:Zc)]).map Zc.c)])=some r)):Zmb a=some r:=by
 unfold Zmb
 refine run Zbdj rfl ?_
 refine Eq.trans ?_ h;clear h;simp +decide [*,kk,Z00]
theorem Z38 (l:List Za) (mask:Int) (best:Int) (i:Int) (r:AV×List Blk) (h:(if i<(l.length:Int) then (0≤i∧(∃ (e1:Za),l[i.toNat]?=some e1∧(if e1.Mask=mask then (if best<0 then (Zex l mask i (w (i+1))=some r) else (0≤best∧(∃ (e2:Za),l[best.toNat]?=some e2∧(if e1.Cost<e2.Cost then (Zex l mask i (w (i+1))=some r) else (Zex l mask best (w (i+1))=some r))))) else (Zex l mask best (w (i+1))=some r)))) else (some (I best,[])=some r))):Zex l mask best i=some r:=by
 unfold Zex
 rw [EvL_eq Ztp.eq_1]
 try simp only [itb] at h
 try simp only [itf,gS,kk] at h
 rcases h with ⟨q1,q2,e1,⟨g3,q3⟩,(⟨q4,(⟨q5,h⟩ | ⟨q5,q6,e2,⟨g7,q7⟩,(⟨q8,h⟩ | ⟨q8,h⟩)⟩)⟩ | ⟨q4,h⟩)⟩ | ⟨q1,h⟩
 all_goals (refine Eq.trans ?_ h;clear h;simp +decide [*,kk,Zex,Z01,Ztq])
theorem Zbg8 (a:List Za) (a1:Int) (r:AV×List Blk) (h:(Zex a a1 (-1) 0=some r)):Zew a a1=some r:=by
 unfold Zew
 refine run Zbdk rfl ?_
 refine Eq.trans ?_ h;clear h;simp +decide [*,kk,Z02,Zex]
theorem Zbg9 (a:Plan) (a1:Plan) (a2:Int) (a3:Int) (r:AV×List Blk) (h:(a.Steps.length≤68719476736∧(a.Steps.length+a1.Steps.length≤68719476736∧(a.Steps.length+a1.Steps.length+1≤68719476736∧(some (.agg [.own 0],[.arr 142 3 true (((a.Steps++a1.Steps)++[(⟨a2,0,a3⟩:Zc)]).map Zc.c)])=some r))))):Zcv a a1 a2 a3=some r:=by
 unfold Zcv
 refine run Zbdl rfl ?_
 rcases h with ⟨q1,q2,q3,h⟩
 all_goals (refine Eq.trans ?_ h;clear h;simp +decide [*,kk,Z03])
theorem Zbha (x:List Int) (x1:List Za) (a:Zd) (a1:Za) (a2:Za) (a3:Int) (a4:Int) (a5:Int) (r:AV×List Blk) (h:(∃ (v1_0:Zi),Zcu a a3=some (.agg (v1_0.c.map .t),[])∧(0≤a1.Mask∧(∃ (e2:Int),x[a1.Mask.toNat]?=some e2∧(0≤a2.Mask∧(∃ (e3:Int),x[a2.Mask.toNat]?=some e3∧(0≤(orI a1.Mask a2.Mask)∧(∃ (e4:Int),x[(orI a1.Mask a2.Mask).toNat]?=some e4∧(∃ (v5_0:Int),Zbw v1_0 e2 e3 e4=some (I v5_0,[])∧(0≤(w (a5+1))∧(∃ (e6:Za),x1[(w (a5+1)).toNat]?=some e6∧(if e6.Mask=0 then (∃ (v7_0:List Zc),Zcv a1.Plan a2.Plan a3 a4=some (.agg [.own 0],[.arr 142 3 true (v7_0.map Zc.c)])∧(some (.tup [],[.arr 3 1 true (x.map ic),.arr 174 4 true ((x1.set ((w (a5+1)).toNat) (⟨(orI a1.Mask a2.Mask),a5,(w ((w (a1.Cost+a2.Cost))+v5_0)),(⟨v7_0⟩:Plan)⟩:Za)).map Za.c)])=some r)) else (if (w ((w (a1.Cost+a2.Cost))+v5_0))<e6.Cost then (∃ (v8_0:List Zc),Zcv a1.Plan a2.Plan a3 a4=some (.agg [.own 0],[.arr 142 3 true (v8_0.map Zc.c)])∧(some (.tup [],[.arr 3 1 true (x.map ic),.arr 174 4 true ((x1.set ((w (a5+1)).toNat) (⟨(orI a1.Mask a2.Mask),a5,(w ((w (a1.Cost+a2.Cost))+v5_0)),(⟨v8_0⟩:Plan)⟩:Za)).map Za.c)])=some r)) else (some (.tup [],[.arr 3 1 true (x.map ic),.arr 174 4 true (x1.map Za.c)])=some r)))))))))))))):Zfv x x1 a a1 a2 a3 a4 a5=some r:=by
 unfold Zfv
 refine runM Zpg rfl ?_
 simp only [Zcu,Zbw,Zcv,Zd.c_def,Zi.c_def,Plan.c_def,mpl,dfs] at h
 try simp only [itb] at h
 try simp only [itf,gS,kk] at h
 rcases h with ⟨v1_0,q1,q2,e2,⟨g3,q3⟩,q4,e3,⟨g5,q5⟩,q6,e4,⟨g7,q7⟩,v5_0,q8,q9,e6,⟨g10,q10⟩,(⟨q11,v7_0,q12,h⟩ | ⟨q11,(⟨q13,v8_0,q14,h⟩ | ⟨q13,h⟩)⟩)⟩
 all_goals (refine Eq.trans ?_ h;clear h;simp +decide [*,kk,Zmc])
theorem Z39 (l:List Za) (mask:Int) (order:Int) (i:Int) (r:AV×List Blk) (h:(if i<(l.length:Int) then (0≤i∧(∃ (e1:Za),l[i.toNat]?=some e1∧(if e1.Mask=mask then (if e1.Order=order then (some (I i,[])=some r) else (Zha l mask order (w (i+1))=some r)) else (Zha l mask order (w (i+1))=some r)))) else (some (I (-1),[])=some r))):Zha l mask order i=some r:=by
 unfold Zha
 rw [EvL_eq Ztr.eq_1]
 try simp only [itb] at h
 try simp only [itf,gS,kk] at h
 rcases h with ⟨q1,q2,e1,⟨g3,q3⟩,(⟨q4,(⟨q5,h⟩ | ⟨q5,h⟩)⟩ | ⟨q4,h⟩)⟩ | ⟨q1,h⟩
 all_goals (refine Eq.trans ?_ h;clear h;simp +decide [*,kk,Zha,Zts])
theorem Zbhb (a:List Za) (a1:Int) (a2:Int) (r:AV×List Blk) (h:(Zha a a1 a2 0=some r)):Ziz a a1 a2=some r:=by
 unfold Ziz
 refine run Zbdm rfl ?_
 refine Eq.trans ?_ h;clear h;simp +decide [*,kk,Z04,Zha]
theorem Zbhc (a:Plan) (a1:Int) (r:AV×List Blk) (h:(a.Steps.length≤68719476736∧(a.Steps.length+1≤68719476736∧(some (.agg [.own 0],[.arr 142 3 true ((a.Steps++[(⟨2,0,a1⟩:Zc)]).map Zc.c)])=some r)))):Zj2 a a1=some r:=by
 unfold Zj2
 refine run Zbdn rfl ?_
 rcases h with ⟨q1,q2,h⟩
 all_goals (refine Eq.trans ?_ h;clear h;simp +decide [*,kk,Z05])
theorem Zbhd (x:List Int) (x1:List Za) (x2:List Zc) (a:Zd) (a1:Za) (Mask:Int) (Order:Int) (Cost:Int) (a2:Int) (a3:Int) (a4:Int) (r:AV×List Blk) (h:(∃ (v1_0:Zi),Zcu a a2=some (.agg (v1_0.c.map .t),[])∧(0≤a1.Mask∧(∃ (e2:Int),x[a1.Mask.toNat]?=some e2∧(0≤Mask∧(∃ (e3:Int),x[Mask.toNat]?=some e3∧(0≤(orI a1.Mask Mask)∧(∃ (e4:Int),x[(orI a1.Mask Mask).toNat]?=some e4∧(∃ (v5_0:Int),Zbw v1_0 e2 e3 e4=some (I v5_0,[])∧(0≤(w (a4+1))∧(∃ (e6:Za),x1[(w (a4+1)).toNat]?=some e6∧(if e6.Mask=0 then (∃ (v7_0:List Zc),Zcv a1.Plan (⟨x2⟩:Plan) a2 a3=some (.agg [.own 0],[.arr 142 3 true (v7_0.map Zc.c)])∧(some (.tup [],[.arr 3 1 true (x.map ic),.arr 174 4 true ((x1.set ((w (a4+1)).toNat) (⟨(orI a1.Mask Mask),a4,(w ((w (a1.Cost+Cost))+v5_0)),(⟨v7_0⟩:Plan)⟩:Za)).map Za.c),.arr 142 3 true (x2.map Zc.c)])=some r)) else (if (w ((w (a1.Cost+Cost))+v5_0))<e6.Cost then (∃ (v8_0:List Zc),Zcv a1.Plan (⟨x2⟩:Plan) a2 a3=some (.agg [.own 0],[.arr 142 3 true (v8_0.map Zc.c)])∧(some (.tup [],[.arr 3 1 true (x.map ic),.arr 174 4 true ((x1.set ((w (a4+1)).toNat) (⟨(orI a1.Mask Mask),a4,(w ((w (a1.Cost+Cost))+v5_0)),(⟨v8_0⟩:Plan)⟩:Za)).map Za.c),.arr 142 3 true (x2.map Zc.c)])=some r)) else (some (.tup [],[.arr 3 1 true (x.map ic),.arr 174 4 true (x1.map Za.c),.arr 142 3 true (x2.map Zc.c)])=some r)))))))))))))):Zmd x x1 x2 a a1 Mask Order Cost a2 a3 a4=some r:=by
 unfold Zmd
 refine runM Zpg rfl ?_
 simp only [Zcu,Zbw,Zcv,Zd.c_def,Zi.c_def,Plan.c_def,mpl,dfs] at h
 try simp only [itb] at h
 try simp only [itf,gS,kk] at h
 rcases h with ⟨v1_0,q1,q2,e2,⟨g3,q3⟩,q4,e3,⟨g5,q5⟩,q6,e4,⟨g7,q7⟩,v5_0,q8,q9,e6,⟨g10,q10⟩,(⟨q11,v7_0,q12,h⟩ | ⟨q11,(⟨q13,v8_0,q14,h⟩ | ⟨q13,h⟩)⟩)⟩
 all_goals (refine Eq.trans ?_ h;clear h;simp +decide [*,kk,Zmc])
theorem Zbhe (x:List Int) (x1:List Za) (x2:List Zc) (a:Zd) (Mask:Int) (Order:Int) (Cost:Int) (a1:Za) (a2:Int) (a3:Int) (a4:Int) (r:AV×List Blk) (h:(∃ (v1_0:Zi),Zcu a a2=some (.agg (v1_0.c.map .t),[])∧(0≤Mask∧(∃ (e2:Int),x[Mask.toNat]?=some e2∧(0≤a1.Mask∧(∃ (e3:Int),x[a1.Mask.toNat]?=some e3∧(0≤(orI Mask a1.Mask)∧(∃ (e4:Int),x[(orI Mask a1.Mask).toNat]?=some e4∧(∃ (v5_0:Int),Zbw v1_0 e2 e3 e4=some (I v5_0,[])∧(0≤(w (a4+1))∧(∃ (e6:Za),x1[(w (a4+1)).toNat]?=some e6∧(if e6.Mask=0 then (∃ (v7_0:List Zc),Zcv (⟨x2⟩:Plan) a1.Plan a2 a3=some (.agg [.own 0],[.arr 142 3 true (v7_0.map Zc.c)])∧(some (.tup [],[.arr 3 1 true (x.map ic),.arr 174 4 true ((x1.set ((w (a4+1)).toNat) (⟨(orI Mask a1.Mask),a4,(w ((w (Cost+a1.Cost))+v5_0)),(⟨v7_0⟩:Plan)⟩:Za)).map Za.c),.arr 142 3 true (x2.map Zc.c)])=some r)) else (if (w ((w (Cost+a1.Cost))+v5_0))<e6.Cost then (∃ (v8_0:List Zc),Zcv (⟨x2⟩:Plan) a1.Plan a2 a3=some (.agg [.own 0],[.arr 142 3 true (v8_0.map Zc.c)])∧(some (.tup [],[.arr 3 1 true (x.map ic),.arr 174 4 true ((x1.set ((w (a4+1)).toNat) (⟨(orI Mask a1.Mask),a4,(w ((w (Cost+a1.Cost))+v5_0)),(⟨v8_0⟩:Plan)⟩:Za)).map Za.c),.arr 142 3 true (x2.map Zc.c)])=some r)) else (some (.tup [],[.arr 3 1 true (x.map ic),.arr 174 4 true (x1.map Za.c),.arr 142 3 true (x2.map Zc.c)])=some r)))))))))))))):Zme x x1 x2 a Mask Order Cost a1 a2 a3 a4=some r:=by
 unfold Zme
 refine runM Zpg rfl ?_
 simp only [Zcu,Zbw,Zcv,Zd.c_def,Zi.c_def,Plan.c_def,mpl,dfs] at h
 try simp only [itb] at h
 try simp only [itf,gS,kk] at h
 rcases h with ⟨v1_0,q1,q2,e2,⟨g3,q3⟩,q4,e3,⟨g5,q5⟩,q6,e4,⟨g7,q7⟩,v5_0,q8,q9,e6,⟨g10,q10⟩,(⟨q11,v7_0,q12,h⟩ | ⟨q11,(⟨q13,v8_0,q14,h⟩ | ⟨q13,h⟩)⟩)⟩
 all_goals (refine Eq.trans ?_ h;clear h;simp +decide [*,kk,Zmc])
theorem Zbhf (x:List Int) (x1:List Za) (x2:List Zc) (x3:List Zc) (a:Zd) (Mask:Int) (Order:Int) (Cost:Int) (Mask1:Int) (Order1:Int) (Cost1:Int) (a1:Int) (a2:Int) (a3:Int) (r:AV×List Blk) (h:(∃ (v1_0:Zi),Zcu a a1=some (.agg (v1_0.c.map .t),[])∧(0≤Mask∧(∃ (e2:Int),x[Mask.toNat]?=some e2∧(0≤Mask1∧(∃ (e3:Int),x[Mask1.toNat]?=some e3∧(0≤(orI Mask Mask1)∧(∃ (e4:Int),x[(orI Mask Mask1).toNat]?=some e4∧(∃ (v5_0:Int),Zbw v1_0 e2 e3 e4=some (I v5_0,[])∧(0≤(w (a3+1))∧(∃ (e6:Za),x1[(w (a3+1)).toNat]?=some e6∧(if e6.Mask=0 then (∃ (v7_0:List Zc),Zcv (⟨x2⟩:Plan) (⟨x3⟩:Plan) a1 a2=some (.agg [.own 0],[.arr 142 3 true (v7_0.map Zc.c)])∧(some (.tup [],[.arr 3 1 true (x.map ic),.arr 174 4 true ((x1.set ((w (a3+1)).toNat) (⟨(orI Mask Mask1),a3,(w ((w (Cost+Cost1))+v5_0)),(⟨v7_0⟩:Plan)⟩:Za)).map Za.c),.arr 142 3 true (x2.map Zc.c),.arr 142 3 true (x3.map Zc.c)])=some r)) else (if (w ((w (Cost+Cost1))+v5_0))<e6.Cost then (∃ (v8_0:List Zc),Zcv (⟨x2⟩:Plan) (⟨x3⟩:Plan) a1 a2=some (.agg [.own 0],[.arr 142 3 true (v8_0.map Zc.c)])∧(some (.tup [],[.arr 3 1 true (x.map ic),.arr 174 4 true ((x1.set ((w (a3+1)).toNat) (⟨(orI Mask Mask1),a3,(w ((w (Cost+Cost1))+v5_0)),(⟨v8_0⟩:Plan)⟩:Za)).map Za.c),.arr 142 3 true (x2.map Zc.c),.arr 142 3 true (x3.map Zc.c)])=some r)) else (some (.tup [],[.arr 3 1 true (x.map ic),.arr 174 4 true (x1.map Za.c),.arr 142 3 true (x2.map Zc.c),.arr 142 3 true (x3.map Zc.c)])=some r)))))))))))))):Zmf x x1 x2 x3 a Mask Order Cost Mask1 Order1 Cost1 a1 a2 a3=some r:=by
 unfold Zmf
 refine runM Zpg rfl ?_
 simp only [Zcu,Zbw,Zcv,Zd.c_def,Zi.c_def,Plan.c_def,mpl,dfs] at h
 try simp only [itb] at h
 try simp only [itf,gS,kk] at h
 rcases h with ⟨v1_0,q1,q2,e2,⟨g3,q3⟩,q4,e3,⟨g5,q5⟩,q6,e4,⟨g7,q7⟩,v5_0,q8,q9,e6,⟨g10,q10⟩,(⟨q11,v7_0,q12,h⟩ | ⟨q11,(⟨q13,v8_0,q14,h⟩ | ⟨q13,h⟩)⟩)⟩
 all_goals (refine Eq.trans ?_ h;clear h;simp +decide [*,kk,Zmc])
theorem Zuw (x:List Int) (fr:Bool) (x1:List Za) (a:Zd) (a1:Int) (a2:Int) (r:AV×List Blk) (h:(∃ (v1_0:Int),Zew x1 a1=some (I v1_0,[])∧(0≤v1_0∧(∃ (e2:Za),x1[v1_0.toNat]?=some e2∧(0≤a1∧(∃ (e3:Int),x[a1.toNat]?=some e3∧(∃ (v4_0:Int),Zbw a.Sort_ e3 0 e3=some (I v4_0,[])∧(∃ (v5_0:Int),Ziz x1 a1 a2=some (I v5_0,[])∧(if 0≤v5_0 then (∃ (e6:Za),x1[v5_0.toNat]?=some e6∧(if e6.Cost≤(w (e2.Cost+v4_0)) then (some (.agg (e6.c.map .t),[.arr 3 1 true (x.map ic),.arr 174 4 fr (x1.map Za.c)])=some r) else (∃ (v7_0:List Zc),Zj2 e2.Plan a2=some (.agg [.own 0],[.arr 142 3 true (v7_0.map Zc.c)])∧(some (.agg [I a1,I a2,I (w (e2.Cost+v4_0)),.own 2],[.arr 3 1 true (x.map ic),.arr 174 4 fr (x1.map Za.c),.arr 142 3 true (v7_0.map Zc.c)])=some r)))) else (∃ (v8_0:List Zc),Zj2 e2.Plan a2=some (.agg [.own 0],[.arr 142 3 true (v8_0.map Zc.c)])∧(some (.agg [I a1,I a2,I (w (e2.Cost+v4_0)),.own 2],[.arr 3 1 true (x.map ic),.arr 174 4 fr (x1.map Za.c),.arr 142 3 true (v8_0.map Zc.c)])=some r))))))))))):Zed x fr x1 a a1 a2=some r:=by
 unfold Zed
 refine runM Zbdo rfl ?_
 simp only [Zew,Zbw,Ziz,Zj2,Zi.c_def,Plan.c_def,Za.c_def,mpl,dfs] at h
 try simp only [itb] at h
 try simp only [itf,gS,kk] at h
 rcases h with ⟨v1_0,q1,q2,e2,⟨g3,q3⟩,q4,e3,⟨g5,q5⟩,v4_0,q6,v5_0,q7,(⟨q8,e6,⟨g9,q9⟩,(⟨q10,h⟩ | ⟨q10,v7_0,q11,h⟩)⟩ | ⟨q8,v8_0,q12,h⟩)⟩
 all_goals (refine Eq.trans ?_ h;clear h;simp +decide [*,kk,Z06])
theorem Z4a (sizes:List Int) (fr:Bool) (l:List Za) (m:Zd) (x:Zv) (mine:List Za) (k:Int) (r:AV×List Blk) (h:(if k<(x.Zt.length:Int) then (0≤k∧(∃ (e1:Int),x.Zt[k.toNat]?=some e1∧(∃ (v2_0:Int),Zew l e1=some (I v2_0,[])∧(0≤v2_0∧(∃ (e3:Za),l[v2_0.toNat]?=some e3∧(∃ (v4_0:Int),Zew l (w (x.mask - e1))=some (I v4_0,[])∧(0≤v4_0∧(∃ (e5:Za),l[v4_0.toNat]?=some e5∧(∃ (v6_0:List Int) (v6_1:List Za),Zfv sizes mine m e3 e5 3 0 (-1)=some (.tup [],[.arr 3 1 true (v6_0.map ic),.arr 174 4 true (v6_1.map Za.c)])∧(Zhc v6_0 fr l m x v6_1 e5 k e1 (w (x.mask - e1)) (-1)=some r)))))))))) else (Zfw mine true ([]:List Za) sizes fr l 0=some r))):Zhb sizes fr l m x mine k=some r:=by
 unfold Zhb
 rw [EvL_eq Zmg.eq_1]
 simp only [Zew,Zfv,Zd.c_def,Zi.c_def,Plan.c_def,Za.c_def,mpl,dfs] at h
 try simp only [itb] at h
 try simp only [itf,gS,kk] at h
 rcases h with ⟨q1,q2,e1,⟨g3,q3⟩,v2_0,q4,q5,e3,⟨g6,q6⟩,v4_0,q7,q8,e5,⟨g9,q9⟩,v6_0,v6_1,q10,h⟩ | ⟨q1,h⟩
 all_goals (refine Eq.trans ?_ h;clear h;simp +decide [*,kk,Zhc,Zfw,Zmh])
theorem Z4b (sizes:List Int) (fr:Bool) (l:List Za) (m:Zd) (x:Zv) (mine:List Za) (b:Za) (k:Int) (left:Int) (right:Int) (o:Int) (r:AV×List Blk) (h:(if o<4 then (∃ (v1_0:Int),Ziz l left o=some (I v1_0,[])∧(if 0≤v1_0 then (∃ (e2:Za),l[v1_0.toNat]?=some e2∧(∃ (v3_0:List Int) (v3_1:List Za),Zfv sizes mine m e2 b 5 0 o=some (.tup [],[.arr 3 1 true (v3_0.map ic),.arr 174 4 true (v3_1.map Za.c)])∧(Zhc v3_0 fr l m x v3_1 b k left right (w (o+1))=some r))) else (Zhc sizes fr l m x mine b k left right (w (o+1))=some r))) else (Zee sizes fr l m x mine k left right 0=some r))):Zhc sizes fr l m x mine b k left right o=some r:=by
 unfold Zhc
 rw [EvL_eq Ztt.eq_1]
 simp only [Ziz,Zfv,Zd.c_def,Zi.c_def,Plan.c_def,Za.c_def,mpl,dfs] at h
 try simp only [itb] at h
 try simp only [itf,gS,kk] at h
 rcases h with ⟨q1,v1_0,q2,(⟨q3,e2,⟨g4,q4⟩,v3_0,v3_1,q5,h⟩ | ⟨q3,h⟩)⟩ | ⟨q1,h⟩
 all_goals (refine Eq.trans ?_ h;clear h;simp +decide [*,kk,Zhc,Z07,Zee,Ztv])
theorem Zux (mine:List Za) (fr:Bool) (out:List Za) (x:List Int) (fr1:Bool) (x1:List Za) (o:Int) (r:AV×List Blk) (h:(if o≤4 then (0≤o∧(∃ (e1:Za),mine[o.toNat]?=some e1∧(if 0<e1.Mask then (out.length+1≤68719476736∧(Zfw mine false (out++[e1]) x fr1 x1 (w (o+1))=some r)) else (Zfw mine fr out x fr1 x1 (w (o+1))=some r)))) else (some (.own 2,[.arr 3 1 true (x.map ic),.arr 174 4 fr1 (x1.map Za.c),.arr 174 4 fr (out.map Za.c)])=some r))):Zfw mine fr out x fr1 x1 o=some r:=by
 unfold Zfw
 rw [EvL_eq Ztw.eq_1]
 try simp only [itb] at h
 try simp only [itf,gS,kk] at h
 rcases h with ⟨q1,q2,e1,⟨g3,q3⟩,(⟨q4,q5,h⟩ | ⟨q4,h⟩)⟩ | ⟨q1,h⟩
 all_goals (refine Eq.trans ?_ h;clear h;simp +decide [*,kk,Zfw,Z08,Ztx])
theorem Z4c (sizes:List Int) (fr:Bool) (l:List Za) (m:Zd) (x:Zv) (mine:List Za) (k:Int) (left:Int) (right:Int) (e:Int) (r:AV×List Blk) (h:(0≤k∧(∃ (e1:List Int),x.shared[k.toNat]?=some e1∧(if e<(e1.length:Int) then (0≤e∧(∃ (e2:Int),e1[e.toNat]?=some e2∧((∃ (v3_0:Za),Zed sizes fr l m left e2=some (.agg (v3_0.c.map .t),[.arr 3 1 true (sizes.map ic),.arr 174 4 fr (l.map Za.c)])∧((∃ (v4_0:Za),Zed sizes fr l m right e2=some (.agg (v4_0.c.map .t),[.arr 3 1 true (sizes.map ic),.arr 174 4 fr (l.map Za.c)])∧(∃ (v5_0:List Int) (v5_1:List Za),Zfv sizes mine m v3_0 v4_0 4 e2 e2=some (.tup [],[.arr 3 1 true (v5_0.map ic),.arr 174 4 true (v5_1.map Za.c)])∧(Zee v5_0 fr l m x v5_1 k left right (w (e+1))=some r)))∨(∃ (v6_0:List Zc) (v6_1:Int) (v6_2:Int) (v6_3:Int),Zed sizes fr l m right e2=some (.agg [I v6_1,I v6_2,I v6_3,.own 2],[.arr 3 1 true (sizes.map ic),.arr 174 4 fr (l.map Za.c),.arr 142 3 true (v6_0.map Zc.c)])∧(∃ (v7_0:List Int) (v7_1:List Za) (v7_2:List Zc),Zmd sizes mine v6_0 m v3_0 v6_1 v6_2 v6_3 4 e2 e2=some (.tup [],[.arr 3 1 true (v7_0.map ic),.arr 174 4 true (v7_1.map Za.c),.arr 142 3 true (v7_2.map Zc.c)])∧(Zee v7_0 fr l m x v7_1 k left right (w (e+1))=some r)))))∨(∃ (v8_0:List Zc) (v8_1:Int) (v8_2:Int) (v8_3:Int),Zed sizes fr l m left e2=some (.agg [I v8_1,I v8_2,I v8_3,.own 2],[.arr 3 1 true (sizes.map ic),.arr 174 4 fr (l.map Za.c),.arr 142 3 true (v8_0.map Zc.c)])∧((∃ (v9_0:Za),Zed sizes fr l m right e2=some (.agg (v9_0.c.map .t),[.arr 3 1 true (sizes.map ic),.arr 174 4 fr (l.map Za.c)])∧(∃ (v10_0:List Int) (v10_1:List Za) (v10_2:List Zc),Zme sizes mine v8_0 m v8_1 v8_2 v8_3 v9_0 4 e2 e2=some (.tup [],[.arr 3 1 true (v10_0.map ic),.arr 174 4 true (v10_1.map Za.c),.arr 142 3 true (v10_2.map Zc.c)])∧(Zee v10_0 fr l m x v10_1 k left right (w (e+1))=some r)))∨(∃ (v11_0:List Zc) (v11_1:Int) (v11_2:Int) (v11_3:Int),Zed sizes fr l m right e2=some (.agg [I v11_1,I v11_2,I v11_3,.own 2],[.arr 3 1 true (sizes.map ic),.arr 174 4 fr (l.map Za.c),.arr 142 3 true (v11_0.map Zc.c)])∧(∃ (v12_0:List Int) (v12_1:List Za) (v12_2:List Zc) (v12_3:List Zc),Zmf sizes mine v8_0 v11_0 m v8_1 v8_2 v8_3 v11_1 v11_2 v11_3 4 e2 e2=some (.tup [],[.arr 3 1 true (v12_0.map ic),.arr 174 4 true (v12_1.map Za.c),.arr 142 3 true (v12_2.map Zc.c),.arr 142 3 true (v12_3.map Zc.c)])∧(Zee v12_0 fr l m x v12_1 k left right (w (e+1))=some r)))))))) else (Zhb sizes fr l m x mine (w (k+1))=some r))))):Zee sizes fr l m x mine k left right e=some r:=by
 unfold Zee
 rw [EvL_eq Ztu.eq_1]
 simp only [Zed,Zfv,Zmd,Zme,Zmf,Zd.c_def,Zi.c_def,Plan.c_def,Za.c_def,Zc.c_def,mpl,dfs] at h
 try simp only [itb] at h
 try simp only [itf,gS,kk] at h
 rcases h with ⟨q1,e1,⟨g2,q2⟩,(⟨q3,q4,e2,⟨g5,q5⟩,(⟨v3_0,q7,(⟨v4_0,q9,v5_0,v5_1,q10,h⟩ | ⟨v6_0,v6_1,v6_2,v6_3,q11,v7_0,v7_1,v7_2,q12,h⟩)⟩ | ⟨v8_0,v8_1,v8_2,v8_3,q13,(⟨v9_0,q15,v10_0,v10_1,v10_2,q16,h⟩ | ⟨v11_0,v11_1,v11_2,v11_3,q17,v12_0,v12_1,v12_2,v12_3,q18,h⟩)⟩)⟩ | ⟨q3,h⟩)⟩
 all_goals (refine Eq.trans ?_ h;clear h;simp +decide [*,kk,Zee,Zhb,Zow])
theorem Zbhg (x:List Int) (fr:Bool) (x1:List Za) (a:Zd) (a1:Zv) (r:AV×List Blk) (h:(Zhb x fr x1 a a1 (List.replicate 5 (⟨0,0,0,(⟨[]⟩:Plan)⟩:Za)) 0=some r)):Zmi x fr x1 a a1=some r:=by
 unfold Zmi
 refine runM Zbdp rfl ?_
 refine Eq.trans ?_ h;clear h;simp +decide [*,kk,Z09,Zhb]
theorem Zuy (shapes:List Zv) (sizes:List Int) (m:Zd) (q:Zb) (fr:Bool) (out:List Za) (i:Int) (r:AV×List Blk) (h:(if i<(shapes.length:Int) then (0≤i∧(∃ (e1:Zv),shapes[i.toNat]?=some e1∧(if (andI e1.mask (w (e1.mask - 1)))=0 then (∃ (v2_0:List Int),Zma e1.mask=some (.own 0,[.arr 3 1 true (v2_0.map ic)])∧(∃ (e3:Int),v2_0[0]?=some e3∧(0≤e3∧(∃ (e4:Atom),q.Atoms[e3.toNat]?=some e4∧(∃ (e5:Int),e4.Vars[0]?=some e5∧(0≤e1.mask∧(∃ (e6:Int),sizes[e1.mask.toNat]?=some e6∧(∃ (v7_0:Int),Zbw m.Scan e6 0 e6=some (I v7_0,[])∧(∃ (v8_0:List Zc),Zmb e3=some (.agg [.own 0],[.arr 142 3 true (v8_0.map Zc.c)])∧(out.length+1≤68719476736∧(Zhd shapes sizes m q fr (out++[(⟨e1.mask,e5,v7_0,(⟨v8_0⟩:Plan)⟩:Za)]) (w (i+1))=some r))))))))))) else (∃ (v9_0:Bool) (v9_1:List Za),Zmi sizes fr out m e1=some (.own 2,[.arr 3 1 true (sizes.map ic),.arr 174 4 fr (out.map Za.c),.arr 174 4 v9_0 (v9_1.map Za.c)])∧(out.length+v9_1.length≤68719476736∧(Zhd shapes sizes m q (fr && flat (v9_1.map Za.c)) (out++v9_1) (w (i+1))=some r)))))) else (some (.own 2,[.arr 242 3 true (shapes.map Zv.c),.arr 3 1 true (sizes.map ic),.arr 174 4 fr (out.map Za.c)])=some r))):Zhd shapes sizes m q fr out i=some r:=by
 unfold Zhd
 rw [EvL_eq Zty.eq_1]
 simp only [Zma,Zbw,Zmb,Zmi,Zv.c_def,Zd.c_def,Zi.c_def,Plan.c_def,Za.c_def,mpl,dfs] at h
 try simp only [itb] at h
 try simp only [itf,gS,kk] at h
 rcases h with ⟨q1,q2,e1,⟨g3,q3⟩,(⟨q4,v2_0,q5,e3,⟨g6,q6⟩,q7,e4,⟨g8,q8⟩,e5,⟨g9,q9⟩,q10,e6,⟨g11,q11⟩,v7_0,q12,v8_0,q13,q14,h⟩ | ⟨q4,v9_0,v9_1,q15,q16,h⟩)⟩ | ⟨q1,h⟩
 all_goals (refine Eq.trans ?_ h;clear h;simp +decide [*,kk,Zhd,Z1a,Ztz])
theorem Zbhh (x:List Zv) (x1:List Int) (a:Zd) (a1:Zb) (r:AV×List Blk) (h:(Zhd x x1 a a1 true ([]:List Za) 0=some r)):Zmj x x1 a a1=some r:=by
 unfold Zmj
 refine runM Zbdq rfl ?_
 refine Eq.trans ?_ h;clear h;simp +decide [*,kk,Z1b,Zhd]
theorem Zbhi (a:List Za) (a1:Int) (r:AV×List Blk) (h:(∃ (v1_0:Int),Zew a a1=some (I v1_0,[])∧(if v1_0<0 then (some (.tup [.agg [I 0,I 0,I 0,.t .nil],Bo false],[])=some r) else (0≤v1_0∧(∃ (e2:Za),a[v1_0.toNat]?=some e2∧(e2.Plan.Steps.length≤68719476736∧(some (.tup [.agg [I e2.Mask,I e2.Order,I e2.Cost,.own 0],Bo true],[.arr 142 3 true (e2.Plan.Steps.map Zc.c)])=some r))))))):Zj3 a a1=some r:=by
 unfold Zj3
 refine run Zbdr rfl ?_
 simp only [Zew,Plan.c_def,Za.c_def,mpl,dfs] at h
 try simp only [itb] at h
 try simp only [itf,gS,kk] at h
 rcases h with ⟨v1_0,q1,(⟨q2,h⟩ | ⟨q2,q3,e2,⟨g4,q4⟩,q5,h⟩)⟩
 all_goals (refine Eq.trans ?_ h;clear h;simp +decide [*,kk,Z1c])
theorem Z4d (sizes:List Int) (i:Int) (r:AV×List Blk) (h:(if i<(sizes.length:Int) then (0≤i∧(∃ (e1:Int),sizes[i.toNat]?=some e1∧(∃ (v2_0:Bool),Z0 e1 0 4096=some (Bo v2_0,[])∧(if v2_0=true then (Zi0 sizes (w (i+1))=some r) else (some (Bo false,[])=some r))))) else (some (Bo true,[])=some r))):Zi0 sizes i=some r:=by
 unfold Zi0
 rw [EvL_eq Zt0.eq_1]
 simp only [Z0,mpl,dfs] at h
 try simp only [itb] at h
 try simp only [itf,gS,kk] at h
 rcases h with ⟨q1,q2,e1,⟨g3,q3⟩,v2_0,q4,(⟨q5,h⟩ | ⟨q5,h⟩)⟩ | ⟨q1,h⟩
 all_goals (refine Eq.trans ?_ h;clear h;simp +decide [*,kk,Zi0,Zt1])
theorem Zbhj (a:Zb) (a1:List Int) (r:AV×List Blk) (h:(∃ (v1_0:Bool),Zea a=some (Bo v1_0,[])∧(if v1_0=true then (∃ (v2_0:Int),Zde a=some (I v2_0,[])∧(if (a1.length:Int)=(w (v2_0+1)) then (Zi0 a1 0=some r) else (some (Bo false,[])=some r))) else (some (Bo false,[])=some r)))):Zmk a a1=some r:=by
 unfold Zmk
 refine run Zbds rfl ?_
 simp only [Zea,Zde,Zb.c_def,mpl,dfs] at h
 try simp only [itb] at h
 try simp only [itf,gS,kk] at h
 rcases h with ⟨v1_0,q1,(⟨q2,v2_0,q3,(⟨q4,h⟩ | ⟨q4,h⟩)⟩ | ⟨q2,h⟩)⟩
 all_goals (refine Eq.trans ?_ h;clear h;simp +decide [*,kk,Z1d,Zi0])
theorem Zbhk (a:Zd) (a1:Int) (a2:List Zh) (a3:Int) (a4:List Int) (r:AV×List Blk) (h:(0≤a3∧(∃ (e1:Zh),a2[a3.toNat]?=some e1∧(∃ (v2_0:Zi),Zcu a a1=some (.agg (v2_0.c.map .t),[])∧(if e1.Left<0 then (0≤e1.Mask∧(∃ (e3:Int),a4[e1.Mask.toNat]?=some e3∧(∃ (v4_0:Int),Zbw v2_0 e3 0 e3=some (I v4_0,[])∧(some (I v4_0,[])=some r)))) else (if e1.Right<0 then (0≤e1.Left∧(∃ (e5:Zh),a2[e1.Left.toNat]?=some e5∧(0≤e5.Mask∧(∃ (e6:Int),a4[e5.Mask.toNat]?=some e6∧(0≤e1.Mask∧(∃ (e7:Int),a4[e1.Mask.toNat]?=some e7∧(∃ (v8_0:Int),Zbw v2_0 e6 0 e7=some (I v8_0,[])∧(some (I v8_0,[])=some r)))))))) else (0≤e1.Left∧(∃ (e9:Zh),a2[e1.Left.toNat]?=some e9∧(0≤e9.Mask∧(∃ (e10:Int),a4[e9.Mask.toNat]?=some e10∧(0≤e1.Right∧(∃ (e11:Zh),a2[e1.Right.toNat]?=some e11∧(0≤e11.Mask∧(∃ (e12:Int),a4[e11.Mask.toNat]?=some e12∧(0≤e1.Mask∧(∃ (e13:Int),a4[e1.Mask.toNat]?=some e13∧(∃ (v14_0:Int),Zbw v2_0 e10 e12 e13=some (I v14_0,[])∧(some (I v14_0,[])=some r)))))))))))))))))):Zml a a1 a2 a3 a4=some r:=by
 unfold Zml
 refine run Zbdt rfl ?_
 simp only [Zcu,Zbw,Zd.c_def,Zi.c_def,mpl,dfs] at h
 try simp only [itb] at h
 try simp only [itf,gS,kk] at h
 rcases h with ⟨q1,e1,⟨g2,q2⟩,v2_0,q3,(⟨q4,q5,e3,⟨g6,q6⟩,v4_0,q7,h⟩ | ⟨q4,(⟨q8,q9,e5,⟨g10,q10⟩,q11,e6,⟨g12,q12⟩,q13,e7,⟨g14,q14⟩,v8_0,q15,h⟩ | ⟨q8,q16,e9,⟨g17,q17⟩,q18,e10,⟨g19,q19⟩,q20,e11,⟨g21,q21⟩,q22,e12,⟨g23,q23⟩,q24,e13,⟨g25,q25⟩,v14_0,q26,h⟩)⟩)⟩
 all_goals (refine Eq.trans ?_ h;clear h;simp +decide [*,kk,Z1e])
theorem Z4e (m:Zd) (p:Plan) (out:List Int) (info:List Zh) (sizes:List Int) (i:Int) (r:AV×List Blk) (h:(if i<(info.length:Int) then (0≤i∧(∃ (e1:Zc),p.Steps[i.toNat]?=some e1∧(∃ (v2_0:Int),Zml m e1.Kind info i sizes=some (I v2_0,[])∧(out.length+1≤68719476736∧(Zi1 m p (out++[v2_0]) info sizes (w (i+1))=some r))))) else (some (.own 0,[.arr 3 1 true (out.map ic)])=some r))):Zi1 m p out info sizes i=some r:=by
 unfold Zi1
 rw [EvL_eq Zt2.eq_1]
 simp only [Zml,Zd.c_def,Zi.c_def,Zh.c_def,mpl,dfs] at h
 try simp only [itb] at h
 try simp only [itf,gS,kk] at h
 rcases h with ⟨q1,q2,e1,⟨g3,q3⟩,v2_0,q4,q5,h⟩ | ⟨q1,h⟩
 all_goals (refine Eq.trans ?_ h;clear h;simp +decide [*,kk,Zi1,Zt3])
theorem Zbhl (a:Zd) (a1:Zb) (a2:Plan) (a3:List Int) (r:AV×List Blk) (h:(∃ (v1_0:List Zh) (v1_1:Bool),Ziu a1 a2=some (.tup [.own 0,Bo v1_1],[.arr 138 4 true (v1_0.map Zh.c)])∧(if v1_1=true then (∃ (v2_0:Bool),Zmk a1 a3=some (Bo v2_0,[])∧(if v2_0=true then (Zi1 a a2 ([]:List Int) v1_0 a3 0=some r) else (some (.own 0,[.arr 3 1 true (([]:List Int).map ic)])=some r))) else (some (.own 0,[.arr 3 1 true (([]:List Int).map ic)])=some r)))):Zmm a a1 a2 a3=some r:=by
 unfold Zmm
 refine run Zbdu rfl ?_
 simp only [Ziu,Zmk,Plan.c_def,Zb.c_def,mpl,dfs] at h
 try simp only [itb] at h
 try simp only [itf,gS,kk] at h
 rcases h with ⟨v1_0,v1_1,q1,(⟨q2,v2_0,q3,(⟨q4,h⟩ | ⟨q4,h⟩)⟩ | ⟨q2,h⟩)⟩
 all_goals (refine Eq.trans ?_ h;clear h;simp +decide [*,kk,Z1f,Zi1])
theorem Z4f (l:List Int) (n:Int) (i:Int) (r:AV×List Blk) (h:(if i<(l.length:Int) then (0≤i∧(∃ (e1:Int),l[i.toNat]?=some e1∧(Zi2 l (w (n+e1)) (w (i+1))=some r))) else (some (I n,[])=some r))):Zi2 l n i=some r:=by
 unfold Zi2
 rw [EvL_eq Zt4.eq_1]
 try simp only [itb] at h
 try simp only [itf,gS,kk] at h
 rcases h with ⟨q1,q2,e1,⟨g3,q3⟩,h⟩ | ⟨q1,h⟩
 all_goals (refine Eq.trans ?_ h;clear h;simp +decide [*,kk,Zi2,Zt5])
theorem Zbhm (a:Zd) (a1:Zb) (a2:Plan) (a3:List Int) (r:AV×List Blk) (h:(∃ (v1_0:List Int),Zmm a a1 a2 a3=some (.own 0,[.arr 3 1 true (v1_0.map ic)])∧(if (v1_0.length:Int)=0 then (some (I (-1),[])=some r) else (Zi2 v1_0 0 0=some r)))):Zmn a a1 a2 a3=some r:=by
 unfold Zmn
 refine run Zbdv rfl ?_
 simp only [Zmm,Zd.c_def,Zi.c_def,Plan.c_def,Zb.c_def,mpl,dfs] at h
 try simp only [itb] at h
 try simp only [itf,gS,kk] at h
 rcases h with ⟨v1_0,q1,(⟨q2,h⟩ | ⟨q2,h⟩)⟩
 all_goals (refine Eq.trans ?_ h;clear h;simp +decide [*,kk,Z1g,Zi2])
theorem Zbhn (a:Zd) (a1:Zb) (a2:Plan) (a3:List Int) (r:AV×List Blk) (h:(∃ (v1_0:List Int),Zix a3=some (.own 0,[.arr 3 1 true (v1_0.map ic)])∧(∃ (v2_0:Int),Zmn a a1 a2 v1_0=some (I v2_0,[])∧(some (I v2_0,[])=some r)))):Zmo a a1 a2 a3=some r:=by
 unfold Zmo
 refine run Zbdw rfl ?_
 simp only [Zix,Zmn,Zd.c_def,Zi.c_def,Plan.c_def,Zb.c_def,mpl,dfs] at h
 rcases h with ⟨v1_0,q1,v2_0,q2,h⟩
 all_goals (refine Eq.trans ?_ h;clear h;simp +decide [*,kk,Z1h])
theorem Zbho (a:Zd) (a1:Zb) (a2:Region) (r:AV×List Blk) (h:(∃ (v1_0:List Zv),Zl8 a1=some (.own 0,[.arr 242 3 true (v1_0.map Zv.c)])∧(∃ (v2_0:List Int),Zix a2.Box.Low=some (.own 0,[.arr 3 1 true (v2_0.map ic)])∧(∃ (v3_0:Bool) (v3_1:List Za),Zmj v1_0 v2_0 a a1=some (.own 2,[.arr 242 3 true (v1_0.map Zv.c),.arr 3 1 true (v2_0.map ic),.arr 174 4 v3_0 (v3_1.map Za.c)])∧(∃ (v4_0:Int),Zde a1=some (I v4_0,[])∧((∃ (v5_0:Int) (v5_1:Int) (v5_2:Int),Zj3 v3_1 v4_0=some (.tup [.agg [I v5_0,I v5_1,I v5_2,.t .nil],Bo false],[])∧(some (Bo false,[])=some r))∨(∃ (v6_0:List Zc) (v6_1:Int) (v6_2:Int) (v6_3:Int),Zj3 v3_1 v4_0=some (.tup [.agg [I v6_1,I v6_2,I v6_3,.own 0],Bo true],[.arr 142 3 true (v6_0.map Zc.c)])∧(∃ (v7_0:Int),Zmo a a1 a2.Plan a2.Box.High=some (I v7_0,[])∧(some (Bo (decide ((w (v7_0*100))≤(w (a2.Percent*v6_3)))),[])=some r))))))))):Zef a a1 a2=some r:=by
 unfold Zef
 refine run Zbdx rfl ?_
 simp only [Zl8,Zix,Zmj,Zde,Zj3,Zmo,Zv.c_def,Zd.c_def,Zi.c_def,Plan.c_def,Za.c_def,Zb.c_def,mpl,dfs] at h
 rcases h with ⟨v1_0,q1,v2_0,q2,v3_0,v3_1,q3,v4_0,q4,(⟨v5_0,v5_1,v5_2,q6,h⟩ | ⟨v6_0,v6_1,v6_2,v6_3,q7,v7_0,q8,h⟩)⟩
 all_goals (refine Eq.trans ?_ h;clear h;simp +decide [*,kk,Z1i])
theorem Zbhp (a:Zd) (a1:Zb) (a2:Region) (r:AV×List Blk) (h:(∃ (v1_0:Bool),Zlv a=some (Bo v1_0,[])∧(if v1_0=true then (∃ (v2_0:Int),Zde a1=some (I v2_0,[])∧(∃ (v3_0:Bool),Zip a1 v2_0=some (Bo v3_0,[])∧(if v3_0=true then (∃ (v4_0:Bool),Zl0 a1 a2=some (Bo v4_0,[])∧(if v4_0=true then (∃ (v5_0:Bool),Zef a a1 a2=some (Bo v5_0,[])∧(some (Bo v5_0,[])=some r)) else (some (Bo false,[])=some r))) else (some (Bo false,[])=some r)))) else (some (Bo false,[])=some r)))):Zhe a a1 a2=some r:=by
 unfold Zhe
 refine run Zbdy rfl ?_
 simp only [Zlv,Zde,Zip,Zl0,Zef,Box.c_def,Zd.c_def,Zi.c_def,Plan.c_def,Zb.c_def,Region.c_def,mpl,dfs] at h
 try simp only [itb] at h
 try simp only [itf,gS,kk] at h
 rcases h with ⟨v1_0,q1,(⟨q2,v2_0,q3,v3_0,q4,(⟨q5,v4_0,q6,(⟨q7,v5_0,q8,h⟩ | ⟨q7,h⟩)⟩ | ⟨q5,h⟩)⟩ | ⟨q2,h⟩)⟩
 all_goals (refine Eq.trans ?_ h;clear h;simp +decide [*,kk,Z1j])
theorem Z4g (b:Box) (n:Int) (x:Int) (x1:Int) (r:AV×List Blk) (h:(if x1<x then (0≤x1∧(∃ (e1:Int),b.High[x1.toNat]?=some e1∧(∃ (e2:Int),b.Low[x1.toNat]?=some e2∧(Zi3 b (w (n*(w ((w (e1 - e2))+1)))) x (w (x1+1))=some r)))) else (some (I n,[])=some r))):Zi3 b n x x1=some r:=by
 unfold Zi3
 rw [EvL_eq Zt6.eq_1]
 try simp only [itb] at h
 try simp only [itf,gS,kk] at h
 rcases h with ⟨q1,q2,e1,⟨g3,q3⟩,e2,⟨g4,q4⟩,h⟩ | ⟨q1,h⟩
 all_goals (refine Eq.trans ?_ h;clear h;simp +decide [*,kk,Zi3,Zt7])
theorem Zbhq (a:Box) (r:AV×List Blk) (h:(Zi3 a 1 (a.Low.length:Int) 0=some r)):Zmp a=some r:=by
 unfold Zmp
 refine run Zbdz rfl ?_
 refine Eq.trans ?_ h;clear h;simp +decide [*,kk,Z1k,Zi3]
theorem Zbhr (a:Box) (r:AV×List Blk) (h:(∃ (v1_0:Bool),Ze6 a=some (Bo v1_0,[])∧(if v1_0=true then (∃ (v2_0:Int),Zmp a=some (I v2_0,[])∧(some (I (if 401<v2_0 then 401 else v2_0),[])=some r)) else (some (I 0,[])=some r)))):Zt8 a=some r:=by
 unfold Zt8
 refine run Zbd0 rfl ?_
 simp only [Ze6,Zmp,Box.c_def,mpl,dfs] at h
 try simp only [itb] at h
 try simp only [itf,gS,kk] at h
 rcases h with ⟨v1_0,q1,(⟨q2,v2_0,q3,h⟩ | ⟨q2,h⟩)⟩
 all_goals (refine Eq.trans ?_ h;clear h;simp +decide [*,kk,Z1l])
theorem Z4h (b:Box) (n:Int) (i:Int) (r:AV×List Blk) (h:(if i<(b.Low.length:Int) then (0≤i∧(∃ (e1:Int),b.High[i.toNat]?=some e1∧(∃ (e2:Int),b.Low[i.toNat]?=some e2∧(Zi4 b (if (w (n*(w ((w (e1 - e2))+1))))<401 then (w (n*(w ((w (e1 - e2))+1)))) else 401) (w (i+1))=some r)))) else (some (I n,[])=some r))):Zi4 b n i=some r:=by
 unfold Zi4
 rw [EvL_eq Zt9.eq_1]
 try simp only [itb] at h
 try simp only [itf,gS,kk] at h
 rcases h with ⟨q1,q2,e1,⟨g3,q3⟩,e2,⟨g4,q4⟩,h⟩ | ⟨q1,h⟩
 all_goals (refine Eq.trans ?_ h;clear h;simp +decide [*,kk,Zi4,Zua])
theorem Zbhs (a:Box) (r:AV×List Blk) (h:(∃ (v1_0:Bool),Zft a=some (Bo v1_0,[])∧(if v1_0=true then (Zi4 a 1 0=some r) else (some (I 0,[])=some r)))):Zub a=some r:=by
 unfold Zub
 refine run Zbd1 rfl ?_
 simp only [Zft,Box.c_def,mpl,dfs] at h
 try simp only [itb] at h
 try simp only [itf,gS,kk] at h
 rcases h with ⟨v1_0,q1,(⟨q2,h⟩ | ⟨q2,h⟩)⟩
 all_goals (refine Eq.trans ?_ h;clear h;simp +decide [*,kk,Z1m,Zi4])
theorem Zbht (a:Ze) (a1:Ze) (r:AV×List Blk) (h:(some (Bo (decide (a.Used=a1.Used)),[])=some r)):Zox a a1=some r:=by
 unfold Zox
 refine run Zbd2 rfl ?_
 refine Eq.trans ?_ h;clear h;simp +decide [*,kk,Z1n]
theorem Z4i (s:List Ze) (f:Ze) (x:Int) (x1:Int) (r:AV×List Blk) (h:(if x1<x then (0≤x1∧(∃ (e1:Ze),s[x1.toNat]?=some e1∧(∃ (v2_0:Bool),Zox e1 f=some (Bo v2_0,[])∧(if v2_0=true then (some (I x1,[])=some r) else (Zi5 s f x (w (x1+1))=some r))))) else (some (I (-1),[])=some r))):Zi5 s f x x1=some r:=by
 unfold Zi5
 rw [EvL_eq Zuc.eq_1]
 simp only [Zox,Box.c_def,Ze.c_def,Plan.c_def,Zb.c_def,Region.c_def,mpl,dfs] at h
 try simp only [itb] at h
 try simp only [itf,gS,kk] at h
 rcases h with ⟨q1,q2,e1,⟨g3,q3⟩,v2_0,q4,(⟨q5,h⟩ | ⟨q5,h⟩)⟩ | ⟨q1,h⟩
 all_goals (refine Eq.trans ?_ h;clear h;simp +decide [*,kk,Zi5,Zud])
theorem Zbhu (a:List Ze) (a1:Ze) (r:AV×List Blk) (h:(Zi5 a a1 (a.length:Int) 0=some r)):Zoy a a1=some r:=by
 unfold Zoy
 refine run Zbd3 rfl ?_
 refine Eq.trans ?_ h;clear h;simp +decide [*,kk,Z1o,Zi5]
theorem Zbhv (a:List Ze) (a1:Ze) (r:AV×List Blk) (h:(∃ (v1_0:Int),Zoy a a1=some (I v1_0,[])∧(some (Bo (decide (0≤v1_0)),[])=some r))):Zmq a a1=some r:=by
 unfold Zmq
 refine run Zbd4 rfl ?_
 simp only [Zoy,Box.c_def,Ze.c_def,Plan.c_def,Zb.c_def,Region.c_def,mpl,dfs] at h
 rcases h with ⟨v1_0,q1,h⟩
 all_goals (refine Eq.trans ?_ h;clear h;simp +decide [*,kk,Z1p])
theorem Z4j (m:Zd) (c:Zn) (x:List Ze) (x1:Int) (x2:Int) (r:AV×List Blk) (h:(if x2<x1 then (0≤x2∧(∃ (e1:Ze),x[x2.toNat]?=some e1∧(∃ (v2_0:Bool),Zy e1.Version 1 999=some (Bo v2_0,[])∧(if v2_0=true then (∃ (v3_0:Bool),Zy e1.Used 1 c.Clock=some (Bo v3_0,[])∧(if v3_0=true then (∃ (v4_0:Bool),Zgq m e1.Zb e1.Region=some (Bo v4_0,[])∧(if v4_0=true then (x2.toNat≤c.Entries.length∧(∃ (v5_0:Bool),Zmq (c.Entries.take x2.toNat) e1=some (Bo v5_0,[])∧(if v5_0=true then (some (Bo false,[])=some r) else (Zi6 m c x x1 (w (x2+1))=some r)))) else (some (Bo false,[])=some r))) else (some (Bo false,[])=some r))) else (some (Bo false,[])=some r))))) else (some (Bo true,[])=some r))):Zi6 m c x x1 x2=some r:=by
 unfold Zi6
 rw [EvL_eq Zue.eq_1]
 simp only [Zy,Zgq,Zmq,Box.c_def,Ze.c_def,Zd.c_def,Zi.c_def,Plan.c_def,Zb.c_def,Region.c_def,mpl,dfs] at h
 try simp only [itb] at h
 try simp only [itf,gS,kk] at h
 rcases h with ⟨q1,q2,e1,⟨g3,q3⟩,v2_0,q4,(⟨q5,v3_0,q6,(⟨q7,v4_0,q8,(⟨q9,q10,v5_0,q11,(⟨q12,h⟩ | ⟨q12,h⟩)⟩ | ⟨q9,h⟩)⟩ | ⟨q7,h⟩)⟩ | ⟨q5,h⟩)⟩ | ⟨q1,h⟩
 all_goals (refine Eq.trans ?_ h;clear h;simp +decide [*,kk,Zi6,Zuf])
theorem Zbhw (a:Zd) (a1:Zn) (r:AV×List Blk) (h:(∃ (v1_0:Bool),Zy a1.Clock 0 1000000=some (Bo v1_0,[])∧(if v1_0=true then (if 4<(a1.Entries.length:Int) then (some (Bo false,[])=some r) else (Zi6 a a1 a1.Entries (a1.Entries.length:Int) 0=some r)) else (some (Bo false,[])=some r)))):Zj4 a a1=some r:=by
 unfold Zj4
 refine run Zbd5 rfl ?_
 simp only [Zy,mpl,dfs] at h
 try simp only [itb] at h
 try simp only [itf,gS,kk] at h
 rcases h with ⟨v1_0,q1,(⟨q2,(⟨q3,h⟩ | ⟨q3,h⟩)⟩ | ⟨q2,h⟩)⟩
 all_goals (refine Eq.trans ?_ h;clear h;simp +decide [*,kk,Z1q,Zi6])
theorem Z4k (m:Zd) (c:Zn) (i:Int) (r:AV×List Blk) (h:(if i<(c.Entries.length:Int) then (0≤i∧(∃ (e1:Ze),c.Entries[i.toNat]?=some e1∧(∃ (v2_0:Bool),Z0 e1.Version 1 999=some (Bo v2_0,[])∧(if v2_0=true then (∃ (v3_0:Bool),Z0 e1.Used 1 c.Clock=some (Bo v3_0,[])∧(if v3_0=true then (∃ (v4_0:Bool),Zhe m e1.Zb e1.Region=some (Bo v4_0,[])∧(if v4_0=true then (Zi7 m c e1 i 0=some r) else (some (Bo false,[])=some r))) else (some (Bo false,[])=some r))) else (some (Bo false,[])=some r))))) else (∃ (v5_0:Bool),Z0 c.Clock 0 1000000=some (Bo v5_0,[])∧(if v5_0=true then (some (Bo (decide ((c.Entries.length:Int)≤4)),[])=some r) else (some (Bo false,[])=some r))))):Zhf m c i=some r:=by
 unfold Zhf
 rw [EvL_eq Zoz.eq_1]
 simp only [Z0,Zhe,Box.c_def,Zd.c_def,Zi.c_def,Plan.c_def,Zb.c_def,Region.c_def,mpl,dfs] at h
 try simp only [itb] at h
 try simp only [itf,gS,kk] at h
 rcases h with ⟨q1,q2,e1,⟨g3,q3⟩,v2_0,q4,(⟨q5,v3_0,q6,(⟨q7,v4_0,q8,(⟨q9,h⟩ | ⟨q9,h⟩)⟩ | ⟨q7,h⟩)⟩ | ⟨q5,h⟩)⟩ | ⟨q1,v5_0,q10,(⟨q11,h⟩ | ⟨q11,h⟩)⟩
 all_goals (refine Eq.trans ?_ h;clear h;simp +decide [*,kk,Zi7,Zo0])
theorem Z4l (m:Zd) (c:Zn) (e:Ze) (i:Int) (k:Int) (r:AV×List Blk) (h:(if k<i then (0≤k∧(∃ (e1:Ze),c.Entries[k.toNat]?=some e1∧(if e1.Used=e.Used then (some (Bo false,[])=some r) else (Zi7 m c e i (w (k+1))=some r)))) else (Zhf m c (w (i+1))=some r))):Zi7 m c e i k=some r:=by
 unfold Zi7
 rw [EvL_eq Zug.eq_1]
 try simp only [itb] at h
 try simp only [itf,gS,kk] at h
 rcases h with ⟨q1,q2,e1,⟨g3,q3⟩,(⟨q4,h⟩ | ⟨q4,h⟩)⟩ | ⟨q1,h⟩
 all_goals (refine Eq.trans ?_ h;clear h;simp +decide [*,kk,Zi7,Zhf,Zuh])
theorem Zbhx (a:Zd) (a1:Zn) (r:AV×List Blk) (h:(Zhf a a1 0=some r)):Zj5 a a1=some r:=by
 unfold Zj5
 refine run Zbd6 rfl ?_
 refine Eq.trans ?_ h;clear h;simp +decide [*,kk,Z1r,Zhf]
theorem Zbhy (a:Box) (a1:List Int) (r:AV×List Blk) (h:(∃ (v1_0:Bool),Ze6 a=some (Bo v1_0,[])∧(if v1_0=true then (∃ (v2_0:Bool),Zgb a1 a.Low=some (Bo v2_0,[])∧(if v2_0=true then (∃ (v3_0:Bool),Zgb a.High a1=some (Bo v3_0,[])∧(some (Bo v3_0,[])=some r)) else (some (Bo false,[])=some r))) else (some (Bo false,[])=some r)))):Zui a a1=some r:=by
 unfold Zui
 refine run Zbd7 rfl ?_
 simp only [Ze6,Zgb,Box.c_def,mpl,dfs] at h
 try simp only [itb] at h
 try simp only [itf,gS,kk] at h
 rcases h with ⟨v1_0,q1,(⟨q2,v2_0,q3,(⟨q4,v3_0,q5,h⟩ | ⟨q4,h⟩)⟩ | ⟨q2,h⟩)⟩
 all_goals (refine Eq.trans ?_ h;clear h;simp +decide [*,kk,Z1s])
theorem Zbhz (m:Zd) (q:Zb) (limit:Box) (Percent:Int) (Percent1:Int) (x:List Zc) (x1:List Int) (x2:List Int) (location:List Int) (again:Bool) (r:AV×List Blk) (h:(if again=true then (Zb1 m q limit Percent Percent1 x x1 x2 location false (location.length:Int) 0=some r) else (some (.tup [.agg [.own 0,.own 1,.own 2,I Percent1],Bo true],[.arr 142 3 true (x.map Zc.c),.arr 3 1 true (x1.map ic),.arr 3 1 true (x2.map ic)])=some r))):Zi8 m q limit Percent Percent1 x x1 x2 location again=some r:=by
 unfold Zi8
 rw [EvL_eq Zo3.eq_1]
 try simp only [itb] at h
 try simp only [itf,gS,kk] at h
 rcases h with ⟨q1,h⟩ | ⟨q1,h⟩
 all_goals (refine Eq.trans ?_ h;clear h;simp +decide [*,kk,Zb1,Zo4])
theorem Zpi (m:Zd) (q:Zb) (limit:Box) (Percent:Int) (Percent1:Int) (x:List Zc) (x1:List Int) (x2:List Int) (location:List Int) (again:Bool) (x3:Int) (x4:Int) (r:AV×List Blk) (h:(if x4<x3 then (0≤x4∧(∃ (e1:Int),x2[x4.toNat]?=some e1∧(∃ (e2:Int),limit.High[x4.toNat]?=some e2∧(if e1<e2 then (∃ (v3_0:Bool),Zd7 m q (⟨(⟨x⟩:Plan),(⟨x1,(x2.set x4.toNat (w (e1+1)))⟩:Box),Percent1⟩:Region)=some (Bo v3_0,[])∧(if v3_0=true then (Zmr m q limit Percent Percent1 x x1 (x2.set x4.toNat (w (e1+1))) location true x4 x3 x4=some r) else (Zmr m q limit Percent Percent1 x x1 ((x2.set x4.toNat (w (e1+1))).set x4.toNat (w ((w (e1+1)) - 1))) location again x4 x3 x4=some r))) else (∃ (e4:Int),x1[x4.toNat]?=some e4∧(∃ (e5:Int),limit.Low[x4.toNat]?=some e5∧(if e5<e4 then (∃ (v6_0:Bool),Zd7 m q (⟨(⟨x⟩:Plan),(⟨(x1.set x4.toNat (w (e4 - 1))),x2⟩:Box),Percent1⟩:Region)=some (Bo v6_0,[])∧(if v6_0=true then (Zb1 m q limit Percent Percent1 x (x1.set x4.toNat (w (e4 - 1))) x2 location true x3 (w (x4+1))=some r) else (Zb1 m q limit Percent Percent1 x ((x1.set x4.toNat (w (e4 - 1))).set x4.toNat (w ((w (e4 - 1))+1))) x2 location again x3 (w (x4+1))=some r))) else (Zb1 m q limit Percent Percent1 x x1 x2 location again x3 (w (x4+1))=some r)))))))) else (Zi8 m q limit Percent Percent1 x x1 x2 location again=some r))):Zb1 m q limit Percent Percent1 x x1 x2 location again x3 x4=some r:=by
 unfold Zb1
 rw [EvL_eq Zo2.eq_1]
 simp only [Zd7,Box.c_def,Zd.c_def,Zi.c_def,Plan.c_def,Zb.c_def,Region.c_def,tI,mpl,dfs] at h
 try simp only [itb] at h
 try simp only [itf,gS,kk] at h
 rcases h with ⟨q1,q2,e1,⟨g3,q3⟩,e2,⟨g4,q4⟩,(⟨q5,v3_0,q6,(⟨q7,h⟩ | ⟨q7,h⟩)⟩ | ⟨q5,e4,⟨g8,q8⟩,e5,⟨g9,q9⟩,(⟨q10,v6_0,q11,(⟨q12,h⟩ | ⟨q12,h⟩)⟩ | ⟨q10,h⟩)⟩)⟩ | ⟨q1,h⟩
 all_goals (refine Eq.trans ?_ h;clear h;simp +decide [*,kk,Zmr,Zb1,Zo1,Zi8])
theorem Z4m (m:Zd) (q:Zb) (limit:Box) (Percent:Int) (Percent1:Int) (x:List Zc) (x1:List Int) (x2:List Int) (location:List Int) (again:Bool) (i:Int) (x3:Int) (x4:Int) (r:AV×List Blk) (h:(0≤i∧(∃ (e1:Int),x1[i.toNat]?=some e1∧(∃ (e2:Int),limit.Low[i.toNat]?=some e2∧(if e2<e1 then (∃ (v3_0:Bool),Zd7 m q (⟨(⟨x⟩:Plan),(⟨(x1.set i.toNat (w (e1 - 1))),x2⟩:Box),Percent1⟩:Region)=some (Bo v3_0,[])∧(if v3_0=true then (Zb1 m q limit Percent Percent1 x (x1.set i.toNat (w (e1 - 1))) x2 location true x3 (w (x4+1))=some r) else (Zb1 m q limit Percent Percent1 x ((x1.set i.toNat (w (e1 - 1))).set i.toNat (w ((w (e1 - 1))+1))) x2 location again x3 (w (x4+1))=some r))) else (Zb1 m q limit Percent Percent1 x x1 x2 location again x3 (w (x4+1))=some r)))))):Zmr m q limit Percent Percent1 x x1 x2 location again i x3 x4=some r:=by
 unfold Zmr
 rw [Ev_eq Zo1.eq_1]
 simp only [Zd7,Box.c_def,Zd.c_def,Zi.c_def,Plan.c_def,Zb.c_def,Region.c_def,tI,mpl,dfs] at h
 try simp only [itb] at h
 try simp only [itf,gS,kk] at h
 rcases h with ⟨q1,e1,⟨g2,q2⟩,e2,⟨g3,q3⟩,(⟨q4,v3_0,q5,(⟨q6,h⟩ | ⟨q6,h⟩)⟩ | ⟨q4,h⟩)⟩
 all_goals (refine Eq.trans ?_ h;clear h;simp +decide [*,kk,Zb1])
theorem Zbh0 (a:Box) (a1:List Int) (r:AV×List Blk) (h:(∃ (v1_0:Bool),Zft a=some (Bo v1_0,[])∧(if v1_0=true then (∃ (v2_0:Bool),Zg2 a1 a.Low=some (Bo v2_0,[])∧(if v2_0=true then (∃ (v3_0:Bool),Zg2 a.High a1=some (Bo v3_0,[])∧(some (Bo v3_0,[])=some r)) else (some (Bo false,[])=some r))) else (some (Bo false,[])=some r)))):Zuj a a1=some r:=by
 unfold Zuj
 refine run Zbd8 rfl ?_
 simp only [Zft,Zg2,Box.c_def,mpl,dfs] at h
 try simp only [itb] at h
 try simp only [itf,gS,kk] at h
 rcases h with ⟨v1_0,q1,(⟨q2,v2_0,q3,(⟨q4,v3_0,q5,h⟩ | ⟨q4,h⟩)⟩ | ⟨q2,h⟩)⟩
 all_goals (refine Eq.trans ?_ h;clear h;simp +decide [*,kk,Z1t])
theorem Zbh1 (m:Zd) (q:Zb) (limit:Box) (Percent:Int) (Percent1:Int) (x:List Zc) (x1:List Int) (x2:List Int) (l:List Int) (grown:Bool) (r:AV×List Blk) (h:(if grown=true then (Zb2 m q limit Percent Percent1 x x1 x2 l false 0=some r) else (some (.tup [.agg [.own 0,.own 1,.own 2,I Percent1],Bo true],[.arr 142 3 true (x.map Zc.c),.arr 3 1 true (x1.map ic),.arr 3 1 true (x2.map ic)])=some r))):Zi9 m q limit Percent Percent1 x x1 x2 l grown=some r:=by
 unfold Zi9
 rw [EvL_eq Zo7.eq_1]
 try simp only [itb] at h
 try simp only [itf,gS,kk] at h
 rcases h with ⟨q1,h⟩ | ⟨q1,h⟩
 all_goals (refine Eq.trans ?_ h;clear h;simp +decide [*,kk,Zb2,Zo8])
theorem Zpj (m:Zd) (q:Zb) (limit:Box) (Percent:Int) (Percent1:Int) (x:List Zc) (x1:List Int) (x2:List Int) (l:List Int) (grown:Bool) (k:Int) (r:AV×List Blk) (h:(if k<(l.length:Int) then (0≤k∧(∃ (e1:Int),x2[k.toNat]?=some e1∧(∃ (e2:Int),limit.High[k.toNat]?=some e2∧(if e1<e2 then (∃ (v3_0:Bool),Zef m q (⟨(⟨x⟩:Plan),(⟨x1,(x2.set k.toNat (w (e1+1)))⟩:Box),Percent1⟩:Region)=some (Bo v3_0,[])∧(if v3_0=true then (Zms m q limit Percent Percent1 x x1 (x2.set k.toNat (w (e1+1))) l true k=some r) else (Zms m q limit Percent Percent1 x x1 ((x2.set k.toNat (w (e1+1))).set k.toNat (w ((w (e1+1)) - 1))) l grown k=some r))) else (∃ (e4:Int),x1[k.toNat]?=some e4∧(∃ (e5:Int),limit.Low[k.toNat]?=some e5∧(if e5<e4 then (∃ (v6_0:Bool),Zef m q (⟨(⟨x⟩:Plan),(⟨(x1.set k.toNat (w (e4 - 1))),x2⟩:Box),Percent1⟩:Region)=some (Bo v6_0,[])∧(if v6_0=true then (Zb2 m q limit Percent Percent1 x (x1.set k.toNat (w (e4 - 1))) x2 l true (w (k+1))=some r) else (Zb2 m q limit Percent Percent1 x ((x1.set k.toNat (w (e4 - 1))).set k.toNat (w ((w (e4 - 1))+1))) x2 l grown (w (k+1))=some r))) else (Zb2 m q limit Percent Percent1 x x1 x2 l grown (w (k+1))=some r)))))))) else (Zi9 m q limit Percent Percent1 x x1 x2 l grown=some r))):Zb2 m q limit Percent Percent1 x x1 x2 l grown k=some r:=by
 unfold Zb2
 rw [EvL_eq Zo6.eq_1]
 simp only [Zef,Box.c_def,Zd.c_def,Zi.c_def,Plan.c_def,Zb.c_def,Region.c_def,tI,mpl,dfs] at h
 try simp only [itb] at h
 try simp only [itf,gS,kk] at h
 rcases h with ⟨q1,q2,e1,⟨g3,q3⟩,e2,⟨g4,q4⟩,(⟨q5,v3_0,q6,(⟨q7,h⟩ | ⟨q7,h⟩)⟩ | ⟨q5,e4,⟨g8,q8⟩,e5,⟨g9,q9⟩,(⟨q10,v6_0,q11,(⟨q12,h⟩ | ⟨q12,h⟩)⟩ | ⟨q10,h⟩)⟩)⟩ | ⟨q1,h⟩
 all_goals (refine Eq.trans ?_ h;clear h;simp +decide [*,kk,Zms,Zb2,Zo5,Zi9])
theorem Z4n (m:Zd) (q:Zb) (limit:Box) (Percent:Int) (Percent1:Int) (x:List Zc) (x1:List Int) (x2:List Int) (l:List Int) (grown:Bool) (k:Int) (r:AV×List Blk) (h:(0≤k∧(∃ (e1:Int),x1[k.toNat]?=some e1∧(∃ (e2:Int),limit.Low[k.toNat]?=some e2∧(if e2<e1 then (∃ (v3_0:Bool),Zef m q (⟨(⟨x⟩:Plan),(⟨(x1.set k.toNat (w (e1 - 1))),x2⟩:Box),Percent1⟩:Region)=some (Bo v3_0,[])∧(if v3_0=true then (Zb2 m q limit Percent Percent1 x (x1.set k.toNat (w (e1 - 1))) x2 l true (w (k+1))=some r) else (Zb2 m q limit Percent Percent1 x ((x1.set k.toNat (w (e1 - 1))).set k.toNat (w ((w (e1 - 1))+1))) x2 l grown (w (k+1))=some r))) else (Zb2 m q limit Percent Percent1 x x1 x2 l grown (w (k+1))=some r)))))):Zms m q limit Percent Percent1 x x1 x2 l grown k=some r:=by
 unfold Zms
 rw [Ev_eq Zo5.eq_1]
 simp only [Zef,Box.c_def,Zd.c_def,Zi.c_def,Plan.c_def,Zb.c_def,Region.c_def,tI,mpl,dfs] at h
 try simp only [itb] at h
 try simp only [itf,gS,kk] at h
 rcases h with ⟨q1,e1,⟨g2,q2⟩,e2,⟨g3,q3⟩,(⟨q4,v3_0,q5,(⟨q6,h⟩ | ⟨q6,h⟩)⟩ | ⟨q4,h⟩)⟩
 all_goals (refine Eq.trans ?_ h;clear h;simp +decide [*,kk,Zb2])
theorem Zbh2 (Zf:Int) (VariableCount1:Int) (x:List Atom) (x1:Int) (x2:Int) (r:AV×List Blk) (h:(if x2<x1 then (0≤x2∧(∃ (e1:Atom),x[x2.toNat]?=some e1∧(∃ (v2_0:List Int),Zdm e1.Vars=some (.own 0,[.arr 3 1 true (v2_0.map ic)])∧(Zja Zf VariableCount1 ([(⟨e1.Name,v2_0⟩:Atom)]) x x1 (w (x2+1))=some r)))) else (some (.agg [I VariableCount1,.t .nil],[])=some r))):Zo9 Zf VariableCount1 x x1 x2=some r:=by
 unfold Zo9
 rw [EvL_eq Zmt.eq_1]
 simp only [Zdm,mpl,dfs] at h
 try simp only [itb] at h
 try simp only [itf,gS,kk] at h
 rcases h with ⟨q1,q2,e1,⟨g3,q3⟩,v2_0,q4,h⟩ | ⟨q1,h⟩
 all_goals (refine Eq.trans ?_ h;clear h;simp +decide [*,kk,Zja,Zmu])
theorem Z4o (Zf:Int) (VariableCount1:Int) (x:List Atom) (x1:List Atom) (x2:Int) (x3:Int) (r:AV×List Blk) (h:(if x3<x2 then (0≤x3∧(∃ (e1:Atom),x1[x3.toNat]?=some e1∧(∃ (v2_0:List Int),Zdm e1.Vars=some (.own 0,[.arr 3 1 true (v2_0.map ic)])∧(x.length+1≤68719476736∧(Zja Zf VariableCount1 (x++[(⟨e1.Name,v2_0⟩:Atom)]) x1 x2 (w (x3+1))=some r))))) else (some (.agg [I VariableCount1,.own 0],[.arr 223 2 true (x.map Atom.c)])=some r))):Zja Zf VariableCount1 x x1 x2 x3=some r:=by
 unfold Zja
 rw [EvL_eq Zmt.eq_1]
 simp only [Zdm,mpl,dfs] at h
 try simp only [itb] at h
 try simp only [itf,gS,kk] at h
 rcases h with ⟨q1,q2,e1,⟨g3,q3⟩,v2_0,q4,q5,h⟩ | ⟨q1,h⟩
 all_goals (refine Eq.trans ?_ h;clear h;simp +decide [*,kk,Zja,Zmu])
theorem Zbh3 (a:Zb) (r:AV×List Blk) (h:(Zo9 0 a.Zf a.Atoms (a.Atoms.length:Int) 0=some r)):Zci a=some r:=by
 unfold Zci
 refine run Zbd9 rfl ?_
 refine Eq.trans ?_ h;clear h;simp +decide [*,kk,Z1u,Zo9]
theorem Zbh4 (a:Box) (r:AV×List Blk) (h:(∃ (v1_0:List Int),Zdm a.Low=some (.own 0,[.arr 3 1 true (v1_0.map ic)])∧(∃ (v2_0:List Int),Zdm a.High=some (.own 0,[.arr 3 1 true (v2_0.map ic)])∧(some (.agg [.own 0,.own 1],[.arr 3 1 true (v1_0.map ic),.arr 3 1 true (v2_0.map ic)])=some r)))):Zmv a=some r:=by
 unfold Zmv
 refine run Zbea rfl ?_
 simp only [Zdm,mpl,dfs] at h
 rcases h with ⟨v1_0,q1,v2_0,q2,h⟩
 all_goals (refine Eq.trans ?_ h;clear h;simp +decide [*,kk,Z1v])
theorem Zbh5 (a:Region) (r:AV×List Blk) (h:(∃ (v1_0:List Zc),Zc4 a.Plan=some (.agg [.own 0],[.arr 142 3 true (v1_0.map Zc.c)])∧(∃ (v2_0:List Int) (v2_1:List Int),Zmv a.Box=some (.agg [.own 0,.own 1],[.arr 3 1 true (v2_0.map ic),.arr 3 1 true (v2_1.map ic)])∧(some (.agg [.own 0,.own 1,.own 2,I a.Percent],[.arr 142 3 true (v1_0.map Zc.c),.arr 3 1 true (v2_0.map ic),.arr 3 1 true (v2_1.map ic)])=some r)))):Zcj a=some r:=by
 unfold Zcj
 refine run Zbeb rfl ?_
 simp only [Zc4,Zmv,Box.c_def,Plan.c_def,mpl,dfs] at h
 rcases h with ⟨v1_0,q1,v2_0,v2_1,q2,h⟩
 all_goals (refine Eq.trans ?_ h;clear h;simp +decide [*,kk,Z1w])
theorem Zbh6 (Clock:Int) (Clock1:Int) (x:List Ze) (x1:Int) (x2:Int) (r:AV×List Blk) (h:(if x2<x1 then (0≤x2∧(∃ (e1:Ze),x[x2.toNat]?=some e1∧((∃ (v2_0:Int),Zci e1.Zb=some (.agg [I v2_0,.t .nil],[])∧(∃ (v3_0:List Zc) (v3_1:List Int) (v3_2:List Int) (v3_3:Int),Zcj e1.Region=some (.agg [.own 0,.own 1,.own 2,I v3_3],[.arr 142 3 true (v3_0.map Zc.c),.arr 3 1 true (v3_1.map ic),.arr 3 1 true (v3_2.map ic)])∧(Zfx Clock Clock1 ([(⟨(⟨v2_0,[]⟩:Zb),(⟨(⟨v3_0⟩:Plan),(⟨v3_1,v3_2⟩:Box),v3_3⟩:Region),e1.Version,e1.Used⟩:Ze)]) x x1 (w (x2+1))=some r)))∨(∃ (v4_0:List Atom) (v4_1:Int),Zci e1.Zb=some (.agg [I v4_1,.own 0],[.arr 223 2 true (v4_0.map Atom.c)])∧(∃ (v5_0:List Zc) (v5_1:List Int) (v5_2:List Int) (v5_3:Int),Zcj e1.Region=some (.agg [.own 0,.own 1,.own 2,I v5_3],[.arr 142 3 true (v5_0.map Zc.c),.arr 3 1 true (v5_1.map ic),.arr 3 1 true (v5_2.map ic)])∧(Zfx Clock Clock1 ([(⟨(⟨v4_1,v4_0⟩:Zb),(⟨(⟨v5_0⟩:Plan),(⟨v5_1,v5_2⟩:Box),v5_3⟩:Region),e1.Version,e1.Used⟩:Ze)]) x x1 (w (x2+1))=some r)))))) else (some (.agg [I Clock1,.t .nil],[])=some r))):Zpa Clock Clock1 x x1 x2=some r:=by
 unfold Zpa
 rw [EvL_eq Zmw.eq_1]
 simp only [Zci,Zcj,Box.c_def,Plan.c_def,Zb.c_def,Region.c_def,mpl,dfs] at h
 try simp only [itb] at h
 try simp only [itf,gS,kk] at h
 rcases h with ⟨q1,q2,e1,⟨g3,q3⟩,(⟨v2_0,q5,v3_0,v3_1,v3_2,v3_3,q6,h⟩ | ⟨v4_0,v4_1,q7,v5_0,v5_1,v5_2,v5_3,q8,h⟩)⟩ | ⟨q1,h⟩
 all_goals (refine Eq.trans ?_ h;clear h;simp +decide [*,kk,Zfx,Zmx])
theorem Z4p (Clock:Int) (Clock1:Int) (x:List Ze) (x1:List Ze) (x2:Int) (x3:Int) (r:AV×List Blk) (h:(if x3<x2 then (0≤x3∧(∃ (e1:Ze),x1[x3.toNat]?=some e1∧((∃ (v2_0:Int),Zci e1.Zb=some (.agg [I v2_0,.t .nil],[])∧(∃ (v3_0:List Zc) (v3_1:List Int) (v3_2:List Int) (v3_3:Int),Zcj e1.Region=some (.agg [.own 0,.own 1,.own 2,I v3_3],[.arr 142 3 true (v3_0.map Zc.c),.arr 3 1 true (v3_1.map ic),.arr 3 1 true (v3_2.map ic)])∧(x.length+1≤68719476736∧(Zfx Clock Clock1 (x++[(⟨(⟨v2_0,[]⟩:Zb),(⟨(⟨v3_0⟩:Plan),(⟨v3_1,v3_2⟩:Box),v3_3⟩:Region),e1.Version,e1.Used⟩:Ze)]) x1 x2 (w (x3+1))=some r))))∨(∃ (v4_0:List Atom) (v4_1:Int),Zci e1.Zb=some (.agg [I v4_1,.own 0],[.arr 223 2 true (v4_0.map Atom.c)])∧(∃ (v5_0:List Zc) (v5_1:List Int) (v5_2:List Int) (v5_3:Int),Zcj e1.Region=some (.agg [.own 0,.own 1,.own 2,I v5_3],[.arr 142 3 true (v5_0.map Zc.c),.arr 3 1 true (v5_1.map ic),.arr 3 1 true (v5_2.map ic)])∧(x.length+1≤68719476736∧(Zfx Clock Clock1 (x++[(⟨(⟨v4_1,v4_0⟩:Zb),(⟨(⟨v5_0⟩:Plan),(⟨v5_1,v5_2⟩:Box),v5_3⟩:Region),e1.Version,e1.Used⟩:Ze)]) x1 x2 (w (x3+1))=some r))))))) else (some (.agg [I Clock1,.own 0],[.arr 114 8 true (x.map Ze.c)])=some r))):Zfx Clock Clock1 x x1 x2 x3=some r:=by
 unfold Zfx
 rw [EvL_eq Zmw.eq_1]
 simp only [Zci,Zcj,Box.c_def,Plan.c_def,Zb.c_def,Region.c_def,mpl,dfs] at h
 try simp only [itb] at h
 try simp only [itf,gS,kk] at h
 rcases h with ⟨q1,q2,e1,⟨g3,q3⟩,(⟨v2_0,q5,v3_0,v3_1,v3_2,v3_3,q6,q7,h⟩ | ⟨v4_0,v4_1,q8,v5_0,v5_1,v5_2,v5_3,q9,q10,h⟩)⟩ | ⟨q1,h⟩
 all_goals (refine Eq.trans ?_ h;clear h;simp +decide [*,kk,Zfx,Zmx])
theorem Zbh7 (a:Zn) (r:AV×List Blk) (h:(Zpa 0 a.Clock a.Entries (a.Entries.length:Int) 0=some r)):Zj6 a=some r:=by
 unfold Zj6
 refine run Zbec rfl ?_
 refine Eq.trans ?_ h;clear h;simp +decide [*,kk,Z1x,Zpa]
theorem Z4q (c:Zn) (best:Int) (x:List Ze) (x1:Int) (x2:Int) (r:AV×List Blk) (h:(if x2<x1 then (0≤x2∧(∃ (e1:Ze),x[x2.toNat]?=some e1∧(if best<0 then (Zfy c x2 x x1 (w (x2+1))=some r) else (0≤best∧(∃ (e2:Ze),c.Entries[best.toNat]?=some e2∧(if e1.Used<e2.Used then (Zfy c x2 x x1 (w (x2+1))=some r) else (Zfy c best x x1 (w (x2+1))=some r))))))) else (some (I best,[])=some r))):Zfy c best x x1 x2=some r:=by
 unfold Zfy
 rw [EvL_eq Zuk.eq_1]
 try simp only [itb] at h
 try simp only [itf,gS,kk] at h
 rcases h with ⟨q1,q2,e1,⟨g3,q3⟩,(⟨q4,h⟩ | ⟨q4,q5,e2,⟨g6,q6⟩,(⟨q7,h⟩ | ⟨q7,h⟩)⟩)⟩ | ⟨q1,h⟩
 all_goals (refine Eq.trans ?_ h;clear h;simp +decide [*,kk,Zfy,Z1y,Zul])
theorem Zbh8 (a:Zn) (r:AV×List Blk) (h:(Zfy a (-1) a.Entries (a.Entries.length:Int) 0=some r)):Zmy a=some r:=by
 unfold Zmy
 refine run Zbed rfl ?_
 refine Eq.trans ?_ h;clear h;simp +decide [*,kk,Z1z,Zfy]
theorem Zbh9 (a:Zd) (a1:Zn) (a2:Zb) (a3:Int) (a4:Region) (r:AV×List Blk) (h:((∃ (v1_0:Int),Zj6 a1=some (.agg [I v1_0,.t .nil],[])∧(∃ (v2_0:Bool),Zj4 a a1=some (Bo v2_0,[])∧(if v2_0=true then (∃ (v3_0:Bool),Zgq a a2 a4=some (Bo v3_0,[])∧(if v3_0=true then (∃ (v4_0:Bool),Zy a3 1 999=some (Bo v4_0,[])∧(if v4_0=true then (if a1.Clock=1000000 then (some (.tup [.agg [I v1_0,.t .nil],Bo false],[])=some r) else ((∃ (v5_0:Int),Zci a2=some (.agg [I v5_0,.t .nil],[])∧(∃ (v6_0:List Zc) (v6_1:List Int) (v6_2:List Int) (v6_3:Int),Zcj a4=some (.agg [.own 0,.own 1,.own 2,I v6_3],[.arr 142 3 true (v6_0.map Zc.c),.arr 3 1 true (v6_1.map ic),.arr 3 1 true (v6_2.map ic)])∧(some (.tup [.agg [I (w (v1_0+1)),.own 0],Bo true],[.arr 114 8 true (([(⟨(⟨v5_0,[]⟩:Zb),(⟨(⟨v6_0⟩:Plan),(⟨v6_1,v6_2⟩:Box),v6_3⟩:Region),a3,(w (v1_0+1))⟩:Ze)]).map Ze.c)])=some r)))∨(∃ (v7_0:List Atom) (v7_1:Int),Zci a2=some (.agg [I v7_1,.own 0],[.arr 223 2 true (v7_0.map Atom.c)])∧(∃ (v8_0:List Zc) (v8_1:List Int) (v8_2:List Int) (v8_3:Int),Zcj a4=some (.agg [.own 0,.own 1,.own 2,I v8_3],[.arr 142 3 true (v8_0.map Zc.c),.arr 3 1 true (v8_1.map ic),.arr 3 1 true (v8_2.map ic)])∧(some (.tup [.agg [I (w (v1_0+1)),.own 0],Bo true],[.arr 114 8 true (([(⟨(⟨v7_1,v7_0⟩:Zb),(⟨(⟨v8_0⟩:Plan),(⟨v8_1,v8_2⟩:Box),v8_3⟩:Region),a3,(w (v1_0+1))⟩:Ze)]).map Ze.c)])=some r))))) else (some (.tup [.agg [I v1_0,.t .nil],Bo false],[])=some r))) else (some (.tup [.agg [I v1_0,.t .nil],Bo false],[])=some r))) else (some (.tup [.agg [I v1_0,.t .nil],Bo false],[])=some r))))∨(∃ (v9_0:List Ze) (v9_1:Int),Zj6 a1=some (.agg [I v9_1,.own 0],[.arr 114 8 true (v9_0.map Ze.c)])∧(∃ (v10_0:Bool),Zj4 a a1=some (Bo v10_0,[])∧(if v10_0=true then (∃ (v11_0:Bool),Zgq a a2 a4=some (Bo v11_0,[])∧(if v11_0=true then (∃ (v12_0:Bool),Zy a3 1 999=some (Bo v12_0,[])∧(if v12_0=true then (if a1.Clock=1000000 then (some (.tup [.agg [I v9_1,.own 0],Bo false],[.arr 114 8 true (v9_0.map Ze.c)])=some r) else (if (v9_0.length:Int)=4 then (∃ (v13_0:Int),Zmy (⟨(w (v9_1+1)),v9_0⟩:Zn)=some (I v13_0,[])∧(∃ (v14_0:List Ze),Zpb v9_0 v13_0 (w (v13_0+1))=some (.own 1,[.dead,.arr 114 8 true (v14_0.map Ze.c)])∧((∃ (v15_0:Int),Zci a2=some (.agg [I v15_0,.t .nil],[])∧(∃ (v16_0:List Zc) (v16_1:List Int) (v16_2:List Int) (v16_3:Int),Zcj a4=some (.agg [.own 0,.own 1,.own 2,I v16_3],[.arr 142 3 true (v16_0.map Zc.c),.arr 3 1 true (v16_1.map ic),.arr 3 1 true (v16_2.map ic)])∧(v14_0.length+1≤68719476736∧(some (.tup [.agg [I (w (v9_1+1)),.own 0],Bo true],[.arr 114 8 true ((v14_0++[(⟨(⟨v15_0,[]⟩:Zb),(⟨(⟨v16_0⟩:Plan),(⟨v16_1,v16_2⟩:Box),v16_3⟩:Region),a3,(w (v9_1+1))⟩:Ze)]).map Ze.c)])=some r))))∨(∃ (v17_0:List Atom) (v17_1:Int),Zci a2=some (.agg [I v17_1,.own 0],[.arr 223 2 true (v17_0.map Atom.c)])∧(∃ (v18_0:List Zc) (v18_1:List Int) (v18_2:List Int) (v18_3:Int),Zcj a4=some (.agg [.own 0,.own 1,.own 2,I v18_3],[.arr 142 3 true (v18_0.map Zc.c),.arr 3 1 true (v18_1.map ic),.arr 3 1 true (v18_2.map ic)])∧(v14_0.length+1≤68719476736∧(some (.tup [.agg [I (w (v9_1+1)),.own 0],Bo true],[.arr 114 8 true ((v14_0++[(⟨(⟨v17_1,v17_0⟩:Zb),(⟨(⟨v18_0⟩:Plan),(⟨v18_1,v18_2⟩:Box),v18_3⟩:Region),a3,(w (v9_1+1))⟩:Ze)]).map Ze.c)])=some r))))))) else ((∃ (v19_0:Int),Zci a2=some (.agg [I v19_0,.t .nil],[])∧(∃ (v20_0:List Zc) (v20_1:List Int) (v20_2:List Int) (v20_3:Int),Zcj a4=some (.agg [.own 0,.own 1,.own 2,I v20_3],[.arr 142 3 true (v20_0.map Zc.c),.arr 3 1 true (v20_1.map ic),.arr 3 1 true (v20_2.map ic)])∧(v9_0.length+1≤68719476736∧(some (.tup [.agg [I (w (v9_1+1)),.own 0],Bo true],[.arr 114 8 true ((v9_0++[(⟨(⟨v19_0,[]⟩:Zb),(⟨(⟨v20_0⟩:Plan),(⟨v20_1,v20_2⟩:Box),v20_3⟩:Region),a3,(w (v9_1+1))⟩:Ze)]).map Ze.c)])=some r))))∨(∃ (v21_0:List Atom) (v21_1:Int),Zci a2=some (.agg [I v21_1,.own 0],[.arr 223 2 true (v21_0.map Atom.c)])∧(∃ (v22_0:List Zc) (v22_1:List Int) (v22_2:List Int) (v22_3:Int),Zcj a4=some (.agg [.own 0,.own 1,.own 2,I v22_3],[.arr 142 3 true (v22_0.map Zc.c),.arr 3 1 true (v22_1.map ic),.arr 3 1 true (v22_2.map ic)])∧(v9_0.length+1≤68719476736∧(some (.tup [.agg [I (w (v9_1+1)),.own 0],Bo true],[.arr 114 8 true ((v9_0++[(⟨(⟨v21_1,v21_0⟩:Zb),(⟨(⟨v22_0⟩:Plan),(⟨v22_1,v22_2⟩:Box),v22_3⟩:Region),a3,(w (v9_1+1))⟩:Ze)]).map Ze.c)])=some r))))))) else (some (.tup [.agg [I v9_1,.own 0],Bo false],[.arr 114 8 true (v9_0.map Ze.c)])=some r))) else (some (.tup [.agg [I v9_1,.own 0],Bo false],[.arr 114 8 true (v9_0.map Ze.c)])=some r))) else (some (.tup [.agg [I v9_1,.own 0],Bo false],[.arr 114 8 true (v9_0.map Ze.c)])=some r)))))):Zpc a a1 a2 a3 a4=some r:=by
 unfold Zpc
 refine run Zbee rfl ?_
 simp only [Zj6,Zj4,Zgq,Zy,Zci,Zcj,Zmy,Zpb,Box.c_def,Ze.c_def,Zd.c_def,Zi.c_def,Plan.c_def,Zn.c_def,Zb.c_def,Region.c_def,mpl,dfs] at h
 try simp only [itb] at h
 try simp only [itf,gS,kk] at h
 rcases h with ⟨v1_0,q2,v2_0,q3,(⟨q4,v3_0,q5,(⟨q6,v4_0,q7,(⟨q8,(⟨q9,h⟩ | ⟨q9,(⟨v5_0,q11,v6_0,v6_1,v6_2,v6_3,q12,h⟩ | ⟨v7_0,v7_1,q13,v8_0,v8_1,v8_2,v8_3,q14,h⟩)⟩)⟩ | ⟨q8,h⟩)⟩ | ⟨q6,h⟩)⟩ | ⟨q4,h⟩)⟩ | ⟨v9_0,v9_1,q15,v10_0,q16,(⟨q17,v11_0,q18,(⟨q19,v12_0,q20,(⟨q21,(⟨q22,h⟩ | ⟨q22,(⟨q23,v13_0,q24,v14_0,q25,(⟨v15_0,q27,v16_0,v16_1,v16_2,v16_3,q28,q29,h⟩ | ⟨v17_0,v17_1,q30,v18_0,v18_1,v18_2,v18_3,q31,q32,h⟩)⟩ | ⟨q23,(⟨v19_0,q34,v20_0,v20_1,v20_2,v20_3,q35,q36,h⟩ | ⟨v21_0,v21_1,q37,v22_0,v22_1,v22_2,v22_3,q38,q39,h⟩)⟩)⟩)⟩ | ⟨q21,h⟩)⟩ | ⟨q19,h⟩)⟩ | ⟨q17,h⟩)⟩
 all_goals (refine Eq.trans ?_ h;clear h;simp +decide [*,kk,Z11,Z10])
theorem Zbia (q:Zb) (Zf:Int) (VariableCount1:Int) (i:Int) (r:AV×List Blk) (h:(if i<(q.Atoms.length:Int) then (0≤i∧(∃ (e1:Atom),q.Atoms[i.toNat]?=some e1∧(e1.Vars.length≤68719476736∧(Zjb q Zf VariableCount1 ([e1]) (w (i+1))=some r)))) else (some (.agg [I VariableCount1,.t .nil],[])=some r))):Zpd q Zf VariableCount1 i=some r:=by
 unfold Zpd
 rw [EvL_eq Zmz.eq_1]
 try simp only [itb] at h
 try simp only [itf,gS,kk] at h
 rcases h with ⟨q1,q2,e1,⟨g3,q3⟩,q4,h⟩ | ⟨q1,h⟩
 all_goals (refine Eq.trans ?_ h;clear h;simp +decide [*,kk,Zjb,Zm0])
theorem Z4r (q:Zb) (Zf:Int) (VariableCount1:Int) (x:List Atom) (i:Int) (r:AV×List Blk) (h:(if i<(q.Atoms.length:Int) then (0≤i∧(∃ (e1:Atom),q.Atoms[i.toNat]?=some e1∧(e1.Vars.length≤68719476736∧(x.length+1≤68719476736∧(Zjb q Zf VariableCount1 (x++[e1]) (w (i+1))=some r))))) else (some (.agg [I VariableCount1,.own 0],[.arr 223 2 true (x.map Atom.c)])=some r))):Zjb q Zf VariableCount1 x i=some r:=by
 unfold Zjb
 rw [EvL_eq Zmz.eq_1]
 try simp only [itb] at h
 try simp only [itf,gS,kk] at h
 rcases h with ⟨q1,q2,e1,⟨g3,q3⟩,q4,q5,h⟩ | ⟨q1,h⟩
 all_goals (refine Eq.trans ?_ h;clear h;simp +decide [*,kk,Zjb,Zm0])
theorem Zbib (a:Zb) (r:AV×List Blk) (h:(Zpd a 0 a.Zf 0=some r)):Zdr a=some r:=by
 unfold Zdr
 refine run Zbef rfl ?_
 refine Eq.trans ?_ h;clear h;simp +decide [*,kk,Z12,Zpd]
theorem Zbic (a:Box) (r:AV×List Blk) (h:(a.Low.length≤68719476736∧(a.High.length≤68719476736∧(some (.agg [.own 0,.own 1],[.arr 3 1 true (a.Low.map ic),.arr 3 1 true (a.High.map ic)])=some r)))):Zm1 a=some r:=by
 unfold Zm1
 refine run Zbeg rfl ?_
 rcases h with ⟨q1,q2,h⟩
 all_goals (refine Eq.trans ?_ h;clear h;simp +decide [*,kk,Z13])
theorem Zbid (a:Region) (r:AV×List Blk) (h:(a.Plan.Steps.length≤68719476736∧(∃ (v1_0:List Int) (v1_1:List Int),Zm1 a.Box=some (.agg [.own 0,.own 1],[.arr 3 1 true (v1_0.map ic),.arr 3 1 true (v1_1.map ic)])∧(some (.agg [.own 0,.own 1,.own 2,I a.Percent],[.arr 142 3 true (a.Plan.Steps.map Zc.c),.arr 3 1 true (v1_0.map ic),.arr 3 1 true (v1_1.map ic)])=some r)))):Zds a=some r:=by
 unfold Zds
 refine run Zbeh rfl ?_
 simp only [Zm1,Box.c_def,mpl,dfs] at h
 rcases h with ⟨q1,v1_0,v1_1,q2,h⟩
 all_goals (refine Eq.trans ?_ h;clear h;simp +decide [*,kk,Z14])
theorem Z4s (a:Ze) (r:AV×List Blk) (h:((∃ (v1_0:Int),Zdr a.Zb=some (.agg [I v1_0,.t .nil],[])∧(∃ (v2_0:List Zc) (v2_1:List Int) (v2_2:List Int) (v2_3:Int),Zds a.Region=some (.agg [.own 0,.own 1,.own 2,I v2_3],[.arr 142 3 true (v2_0.map Zc.c),.arr 3 1 true (v2_1.map ic),.arr 3 1 true (v2_2.map ic)])∧(some (.agg [I v1_0,.t .nil,.own 0,.own 1,.own 2,I v2_3,I a.Version,I a.Used],[.arr 142 3 true (v2_0.map Zc.c),.arr 3 1 true (v2_1.map ic),.arr 3 1 true (v2_2.map ic)])=some r)))∨(∃ (v3_0:List Atom) (v3_1:Int),Zdr a.Zb=some (.agg [I v3_1,.own 0],[.arr 223 2 true (v3_0.map Atom.c)])∧(∃ (v4_0:List Zc) (v4_1:List Int) (v4_2:List Int) (v4_3:Int),Zds a.Region=some (.agg [.own 0,.own 1,.own 2,I v4_3],[.arr 142 3 true (v4_0.map Zc.c),.arr 3 1 true (v4_1.map ic),.arr 3 1 true (v4_2.map ic)])∧(some (.agg [I v3_1,.own 0,.own 1,.own 2,.own 3,I v4_3,I a.Version,I a.Used],[.arr 223 2 true (v3_0.map Atom.c),.arr 142 3 true (v4_0.map Zc.c),.arr 3 1 true (v4_1.map ic),.arr 3 1 true (v4_2.map ic)])=some r))))):Zey a=some r:=by
 unfold Zey
 refine run Zbei rfl ?_
 simp only [Zdr,Zds,Box.c_def,Plan.c_def,Zb.c_def,Region.c_def,mpl,dfs] at h
 rcases h with ⟨v1_0,q2,v2_0,v2_1,v2_2,v2_3,q3,h⟩ | ⟨v3_0,v3_1,q4,v4_0,v4_1,v4_2,v4_3,q5,h⟩
 all_goals (refine Eq.trans ?_ h;clear h;simp +decide [*,kk,Z15])
theorem Zbie (c:Zn) (Clock:Int) (Clock1:Int) (i:Int) (r:AV×List Blk) (h:(if i<(c.Entries.length:Int) then (0≤i∧(∃ (e1:Ze),c.Entries[i.toNat]?=some e1∧((∃ (v2_0:List Zc) (v2_1:List Int) (v2_2:List Int) (v2_3:Int) (v2_4:Int) (v2_5:Int) (v2_6:Int),Zey e1=some (.agg [I v2_3,.t .nil,.own 0,.own 1,.own 2,I v2_4,I v2_5,I v2_6],[.arr 142 3 true (v2_0.map Zc.c),.arr 3 1 true (v2_1.map ic),.arr 3 1 true (v2_2.map ic)])∧(Zfz c Clock Clock1 ([(⟨(⟨v2_3,[]⟩:Zb),(⟨(⟨v2_0⟩:Plan),(⟨v2_1,v2_2⟩:Box),v2_4⟩:Region),v2_5,v2_6⟩:Ze)]) (w (i+1))=some r))∨(∃ (v3_0:List Atom) (v3_1:List Zc) (v3_2:List Int) (v3_3:List Int) (v3_4:Int) (v3_5:Int) (v3_6:Int) (v3_7:Int),Zey e1=some (.agg [I v3_4,.own 0,.own 1,.own 2,.own 3,I v3_5,I v3_6,I v3_7],[.arr 223 2 true (v3_0.map Atom.c),.arr 142 3 true (v3_1.map Zc.c),.arr 3 1 true (v3_2.map ic),.arr 3 1 true (v3_3.map ic)])∧(Zfz c Clock Clock1 ([(⟨(⟨v3_4,v3_0⟩:Zb),(⟨(⟨v3_1⟩:Plan),(⟨v3_2,v3_3⟩:Box),v3_5⟩:Region),v3_6,v3_7⟩:Ze)]) (w (i+1))=some r))))) else (some (.agg [I Clock1,.t .nil],[])=some r))):Zpe c Clock Clock1 i=some r:=by
 unfold Zpe
 rw [EvL_eq Zm2.eq_1]
 simp only [Zey,Box.c_def,Ze.c_def,Plan.c_def,Zb.c_def,Region.c_def,mpl,dfs] at h
 try simp only [itb] at h
 try simp only [itf,gS,kk] at h
 rcases h with ⟨q1,q2,e1,⟨g3,q3⟩,(⟨v2_0,v2_1,v2_2,v2_3,v2_4,v2_5,v2_6,q5,h⟩ | ⟨v3_0,v3_1,v3_2,v3_3,v3_4,v3_5,v3_6,v3_7,q6,h⟩)⟩ | ⟨q1,h⟩
 all_goals (refine Eq.trans ?_ h;clear h;simp +decide [*,kk,Zfz,Zm3])
theorem Z4t (c:Zn) (Clock:Int) (Clock1:Int) (x:List Ze) (i:Int) (r:AV×List Blk) (h:(if i<(c.Entries.length:Int) then (0≤i∧(∃ (e1:Ze),c.Entries[i.toNat]?=some e1∧((∃ (v2_0:List Zc) (v2_1:List Int) (v2_2:List Int) (v2_3:Int) (v2_4:Int) (v2_5:Int) (v2_6:Int),Zey e1=some (.agg [I v2_3,.t .nil,.own 0,.own 1,.own 2,I v2_4,I v2_5,I v2_6],[.arr 142 3 true (v2_0.map Zc.c),.arr 3 1 true (v2_1.map ic),.arr 3 1 true (v2_2.map ic)])∧(x.length+1≤68719476736∧(Zfz c Clock Clock1 (x++[(⟨(⟨v2_3,[]⟩:Zb),(⟨(⟨v2_0⟩:Plan),(⟨v2_1,v2_2⟩:Box),v2_4⟩:Region),v2_5,v2_6⟩:Ze)]) (w (i+1))=some r)))∨(∃ (v3_0:List Atom) (v3_1:List Zc) (v3_2:List Int) (v3_3:List Int) (v3_4:Int) (v3_5:Int) (v3_6:Int) (v3_7:Int),Zey e1=some (.agg [I v3_4,.own 0,.own 1,.own 2,.own 3,I v3_5,I v3_6,I v3_7],[.arr 223 2 true (v3_0.map Atom.c),.arr 142 3 true (v3_1.map Zc.c),.arr 3 1 true (v3_2.map ic),.arr 3 1 true (v3_3.map ic)])∧(x.length+1≤68719476736∧(Zfz c Clock Clock1 (x++[(⟨(⟨v3_4,v3_0⟩:Zb),(⟨(⟨v3_1⟩:Plan),(⟨v3_2,v3_3⟩:Box),v3_5⟩:Region),v3_6,v3_7⟩:Ze)]) (w (i+1))=some r)))))) else (some (.agg [I Clock1,.own 0],[.arr 114 8 true (x.map Ze.c)])=some r))):Zfz c Clock Clock1 x i=some r:=by
 unfold Zfz
 rw [EvL_eq Zm2.eq_1]
 simp only [Zey,Box.c_def,Ze.c_def,Plan.c_def,Zb.c_def,Region.c_def,mpl,dfs] at h
 try simp only [itb] at h
 try simp only [itf,gS,kk] at h
 rcases h with ⟨q1,q2,e1,⟨g3,q3⟩,(⟨v2_0,v2_1,v2_2,v2_3,v2_4,v2_5,v2_6,q5,q6,h⟩ | ⟨v3_0,v3_1,v3_2,v3_3,v3_4,v3_5,v3_6,v3_7,q7,q8,h⟩)⟩ | ⟨q1,h⟩
 all_goals (refine Eq.trans ?_ h;clear h;simp +decide [*,kk,Zfz,Zm3])
theorem Zbif (a:Zn) (r:AV×List Blk) (h:(Zpe a 0 a.Clock 0=some r)):Zj7 a=some r:=by
 unfold Zj7
 refine run Zbej rfl ?_
 refine Eq.trans ?_ h;clear h;simp +decide [*,kk,Z16,Zpe]
theorem Z4u (c:Zn) (best:Int) (i:Int) (r:AV×List Blk) (h:(if i<(c.Entries.length:Int) then (if best<0 then (Zf0 c i (w (i+1))=some r) else (0≤i∧(∃ (e1:Ze),c.Entries[i.toNat]?=some e1∧(0≤best∧(∃ (e2:Ze),c.Entries[best.toNat]?=some e2∧(if e1.Used<e2.Used then (Zf0 c i (w (i+1))=some r) else (Zf0 c best (w (i+1))=some r))))))) else (some (I best,[])=some r))):Zf0 c best i=some r:=by
 unfold Zf0
 rw [EvL_eq Zum.eq_1]
 try simp only [itb] at h
 try simp only [itf,gS,kk] at h
 rcases h with ⟨q1,(⟨q2,h⟩ | ⟨q2,q3,e1,⟨g4,q4⟩,q5,e2,⟨g6,q6⟩,(⟨q7,h⟩ | ⟨q7,h⟩)⟩)⟩ | ⟨q1,h⟩
 all_goals (refine Eq.trans ?_ h;clear h;simp +decide [*,kk,Zf0,Z17,Zun])
theorem Zbig (a:Zn) (r:AV×List Blk) (h:(Zf0 a (-1) 0=some r)):Zm4 a=some r:=by
 unfold Zm4
 refine run Zbek rfl ?_
 refine Eq.trans ?_ h;clear h;simp +decide [*,kk,Z18,Zf0]
theorem Zbih (q:Zb) (r_1:Region) (Clock:Int) (Clock1:Int) (l:List Ze) (version:Int) (old:Int) (i:Int) (r:AV×List Blk) (h:(if i<0 then (if i=old then (Zj8 q r_1 Clock Clock1 l version old (w (i+1))=some r) else False) else ((∃ (v1_0:Int),Zdr q=some (.agg [I v1_0,.t .nil],[])∧(∃ (v2_0:List Zc) (v2_1:List Int) (v2_2:List Int) (v2_3:Int),Zds r_1=some (.agg [.own 0,.own 1,.own 2,I v2_3],[.arr 142 3 true (v2_0.map Zc.c),.arr 3 1 true (v2_1.map ic),.arr 3 1 true (v2_2.map ic)])∧(l.length+1≤68719476736∧(some (.tup [.agg [I Clock1,.own 0],Bo true],[.arr 114 8 true ((l++[(⟨(⟨v1_0,[]⟩:Zb),(⟨(⟨v2_0⟩:Plan),(⟨v2_1,v2_2⟩:Box),v2_3⟩:Region),version,Clock1⟩:Ze)]).map Ze.c)])=some r))))∨(∃ (v3_0:List Atom) (v3_1:Int),Zdr q=some (.agg [I v3_1,.own 0],[.arr 223 2 true (v3_0.map Atom.c)])∧(∃ (v4_0:List Zc) (v4_1:List Int) (v4_2:List Int) (v4_3:Int),Zds r_1=some (.agg [.own 0,.own 1,.own 2,I v4_3],[.arr 142 3 true (v4_0.map Zc.c),.arr 3 1 true (v4_1.map ic),.arr 3 1 true (v4_2.map ic)])∧(l.length+1≤68719476736∧(some (.tup [.agg [I Clock1,.own 0],Bo true],[.arr 114 8 true ((l++[(⟨(⟨v3_1,v3_0⟩:Zb),(⟨(⟨v4_0⟩:Plan),(⟨v4_1,v4_2⟩:Box),v4_3⟩:Region),version,Clock1⟩:Ze)]).map Ze.c)])=some r))))))):Zj8 q r_1 Clock Clock1 l version old i=some r:=by
 unfold Zj8
 rw [EvL_eq Zm5.eq_1]
 simp only [Zdr,Zds,Box.c_def,Plan.c_def,Zb.c_def,Region.c_def,mpl,dfs] at h
 try simp only [itb] at h
 try simp only [itf,gS,kk] at h
 rcases h with ⟨q1,(⟨q2,h⟩ | ⟨q2,⟨⟩⟩)⟩ | ⟨q1,(⟨v1_0,q4,v2_0,v2_1,v2_2,v2_3,q5,q6,h⟩ | ⟨v3_0,v3_1,q7,v4_0,v4_1,v4_2,v4_3,q8,q9,h⟩)⟩
 all_goals (refine Eq.trans ?_ h;clear h;simp +decide [*,kk,Zj8,Zuo,Zm6])
theorem Zuz (q:Zb) (r_1:Region) (Clock:Int) (Clock1:Int) (x:List Ze) (fr:Bool) (l:List Ze) (version:Int) (old:Int) (i:Int) (r:AV×List Blk) (h:(if i<(x.length:Int) then (if i=old then (Zf1 q r_1 Clock Clock1 x fr l version old (w (i+1))=some r) else (0≤i∧(∃ (e1:Ze),x[i.toNat]?=some e1∧(l.length+1≤68719476736∧(Zf1 q r_1 Clock Clock1 x false (l++[e1]) version old (w (i+1))=some r))))) else ((∃ (v2_0:Int),Zdr q=some (.agg [I v2_0,.t .nil],[])∧(∃ (v3_0:List Zc) (v3_1:List Int) (v3_2:List Int) (v3_3:Int),Zds r_1=some (.agg [.own 0,.own 1,.own 2,I v3_3],[.arr 142 3 true (v3_0.map Zc.c),.arr 3 1 true (v3_1.map ic),.arr 3 1 true (v3_2.map ic)])∧(l.length+1≤68719476736∧(some (.tup [.agg [I Clock1,.own 0],Bo true],[.arr 114 8 fr ((l++[(⟨(⟨v2_0,[]⟩:Zb),(⟨(⟨v3_0⟩:Plan),(⟨v3_1,v3_2⟩:Box),v3_3⟩:Region),version,Clock1⟩:Ze)]).map Ze.c)])=some r))))∨(∃ (v4_0:List Atom) (v4_1:Int),Zdr q=some (.agg [I v4_1,.own 0],[.arr 223 2 true (v4_0.map Atom.c)])∧(∃ (v5_0:List Zc) (v5_1:List Int) (v5_2:List Int) (v5_3:Int),Zds r_1=some (.agg [.own 0,.own 1,.own 2,I v5_3],[.arr 142 3 true (v5_0.map Zc.c),.arr 3 1 true (v5_1.map ic),.arr 3 1 true (v5_2.map ic)])∧(l.length+1≤68719476736∧(some (.tup [.agg [I Clock1,.own 0],Bo true],[.arr 114 8 fr ((l++[(⟨(⟨v4_1,v4_0⟩:Zb),(⟨(⟨v5_0⟩:Plan),(⟨v5_1,v5_2⟩:Box),v5_3⟩:Region),version,Clock1⟩:Ze)]).map Ze.c)])=some r))))))):Zf1 q r_1 Clock Clock1 x fr l version old i=some r:=by
 unfold Zf1
 rw [EvL_eq Zm5.eq_1]
 simp only [Zdr,Zds,Box.c_def,Plan.c_def,Zb.c_def,Region.c_def,mpl,dfs] at h
 try simp only [itb] at h
 try simp only [itf,gS,kk] at h
 rcases h with ⟨q1,(⟨q2,h⟩ | ⟨q2,q3,e1,⟨g4,q4⟩,q5,h⟩)⟩ | ⟨q1,(⟨v2_0,q7,v3_0,v3_1,v3_2,v3_3,q8,q9,h⟩ | ⟨v4_0,v4_1,q10,v5_0,v5_1,v5_2,v5_3,q11,q12,h⟩)⟩
 all_goals (refine Eq.trans ?_ h;clear h;simp +decide [*,kk,Zf1,Zuo,Zm6])
theorem Zpk (a:Zd) (a1:Zn) (a2:Zb) (a3:Int) (a4:Region) (r:AV×List Blk) (h:((∃ (v1_0:Int),Zj7 a1=some (.agg [I v1_0,.t .nil],[])∧(∃ (v2_0:Bool),Zj5 a a1=some (Bo v2_0,[])∧(if v2_0=true then (∃ (v3_0:Bool),Zhe a a2 a4=some (Bo v3_0,[])∧(if v3_0=true then (∃ (v4_0:Bool),Z0 a3 1 999=some (Bo v4_0,[])∧(if v4_0=true then (if a1.Clock=1000000 then (some (.tup [.agg [I v1_0,.t .nil],Bo false],[])=some r) else (Zj8 a2 a4 0 (w (v1_0+1)) ([]:List Ze) a3 (-1) 0=some r)) else (some (.tup [.agg [I v1_0,.t .nil],Bo false],[])=some r))) else (some (.tup [.agg [I v1_0,.t .nil],Bo false],[])=some r))) else (some (.tup [.agg [I v1_0,.t .nil],Bo false],[])=some r))))∨(∃ (v5_0:List Ze) (v5_1:Int),Zj7 a1=some (.agg [I v5_1,.own 0],[.arr 114 8 true (v5_0.map Ze.c)])∧(∃ (v6_0:Bool),Zj5 a a1=some (Bo v6_0,[])∧(if v6_0=true then (∃ (v7_0:Bool),Zhe a a2 a4=some (Bo v7_0,[])∧(if v7_0=true then (∃ (v8_0:Bool),Z0 a3 1 999=some (Bo v8_0,[])∧(if v8_0=true then (if a1.Clock=1000000 then (some (.tup [.agg [I v5_1,.own 0],Bo false],[.arr 114 8 true (v5_0.map Ze.c)])=some r) else (if (v5_0.length:Int)=4 then (∃ (v9_0:Int),Zm4 (⟨(w (v5_1+1)),v5_0⟩:Zn)=some (I v9_0,[])∧(Zf1 a2 a4 0 (w (v5_1+1)) v5_0 true ([]:List Ze) a3 v9_0 0=some r)) else (Zf1 a2 a4 0 (w (v5_1+1)) v5_0 true ([]:List Ze) a3 (-1) 0=some r))) else (some (.tup [.agg [I v5_1,.own 0],Bo false],[.arr 114 8 true (v5_0.map Ze.c)])=some r))) else (some (.tup [.agg [I v5_1,.own 0],Bo false],[.arr 114 8 true (v5_0.map Ze.c)])=some r))) else (some (.tup [.agg [I v5_1,.own 0],Bo false],[.arr 114 8 true (v5_0.map Ze.c)])=some r)))))):Zpf a a1 a2 a3 a4=some r:=by
 unfold Zpf
 refine run Zbel rfl ?_
 simp only [Zj7,Zj5,Zhe,Z0,Zm4,Box.c_def,Zd.c_def,Zi.c_def,Plan.c_def,Zn.c_def,Zb.c_def,Region.c_def,mpl,dfs] at h
 try simp only [itb] at h
 try simp only [itf,gS,kk] at h
 rcases h with ⟨v1_0,q2,v2_0,q3,(⟨q4,v3_0,q5,(⟨q6,v4_0,q7,(⟨q8,(⟨q9,h⟩ | ⟨q9,h⟩)⟩ | ⟨q8,h⟩)⟩ | ⟨q6,h⟩)⟩ | ⟨q4,h⟩)⟩ | ⟨v5_0,v5_1,q10,v6_0,q11,(⟨q12,v7_0,q13,(⟨q14,v8_0,q15,(⟨q16,(⟨q17,h⟩ | ⟨q17,(⟨q18,v9_0,q19,h⟩ | ⟨q18,h⟩)⟩)⟩ | ⟨q16,h⟩)⟩ | ⟨q14,h⟩)⟩ | ⟨q12,h⟩)⟩
 all_goals (refine Eq.trans ?_ h;clear h;simp +decide [*,kk,Z2a,Zj8,Z19,Zf1])
@[simp] theorem Zcd (a b c:Int):Zy a b c=some (Bo (inR a b c),[]):=by
 refine Zbem _ _ _ _ ?_
 by_cases h:b≤a <;> simp [inR,h]
@[simp] theorem Zck (a b c:Int):Z0 a b c=some (Bo (inR a b c),[]):=by
 refine Zbf7 _ _ _ _ ?_
 by_cases h:b≤a <;> simp [inR,h]
theorem lIndexI (xs:List Int) (v:Int) (hx:Le xs):∀ i,i≤xs.length →
  Zhz xs v xs.length i=some (I (Zc1 (fun x=>decide (v=x)) (xs.drop i) i),[]):=by
 refine down _ ?_ ?_
 ·refine Z2c _ _ _ _ _ ?_
  simp [Zc1]
 ·intro i hi ih
  refine Z2c _ _ _ _ _ ?_
  have h4:=inc64 (i:=i) (by omega)
  rw [Zw9 _ hi]
  simp at ih
  by_cases e:v=xs[i] <;> simp [hi,h4,e,ih]
@[simp] theorem xIndexI (xs:List Int) (v:Int) (hx:Le xs):Zkz xs v=some (I (Zc1 (fun x=>decide (v=x)) xs 0),[]):=by
 refine Zbeo _ _ _ ?_
 have:=lIndexI xs v hx 0 (Nat.zero_le _)
 simpa using this
@[simp] theorem Zm8 (xs:List Int) (v:Int) (hx:Le xs):Zdl xs v=some (Bo (has xs v),[]):=by
 refine Zbep _ _ _ ?_
 unfold has
 rcases tf (xs.any (fun x=>decide (v=x))) with e | e
 ·simp [hx,Zxa _ _ _ e,e]
 ·have:=Zxb _ _ 0 e
  simp [hx,this,e]
theorem lIndexB (xs:List Bool) (v:Bool) (hx:Le xs):∀ i,i≤xs.length →
  Zh0 xs v xs.length i=some (I (Zc1 (fun x=>v == x) (xs.drop i) i),[]):=by
 refine down _ ?_ ?_
 ·refine Z2d _ _ _ _ _ ?_
  simp [Zc1]
 ·intro i hi ih
  refine Z2d _ _ _ _ _ ?_
  have h4:=inc64 (i:=i) (by omega)
  rw [Zw9 _ hi]
  simp at ih
  by_cases e:v=xs[i] <;> simp [hi,h4,e,ih]
@[simp] theorem Zbii (xs:List Bool) (v:Bool) (hx:Le xs):Zk1 xs v=some (Bo (xs.any (fun x=>v == x)),[]):=by
 refine Zber _ _ _ ?_
 have q:Zk0 xs v=some (I (Zc1 (fun x=>v == x) xs 0),[]):=by
  refine Zbeq _ _ _ ?_
  have:=lIndexB xs v hx 0 (Nat.zero_le _)
  simpa using this
 rcases tf (xs.any (fun x=>v == x)) with e | e
 ·rw [Zxa _ _ _ e] at q
  rw [e];simp [q]
 ·have:=Zxb _ _ 0 e
  rw [e];simp [q,this]
theorem l_l7Has (xs:List Int) (v:Int) (hx:Le xs):∀ i,i≤xs.length→Zil xs v i=some (Bo (has (xs.drop i) v),[]):=by
 unfold has
 refine down _ ?_ ?_
 ·refine Z3r _ _ _ _ ?_
  simp
 ·intro i hi ih
  refine Z3r _ _ _ _ ?_
  have h4:=inc64 (i:=i) (by omega)
  rw [drop_any _ hi]
  simp at ih
  by_cases e:v=xs[i]
  ·simp [hi,h4,← e]
  ·have e':¬ xs[i]=v:=fun hc=>e hc.symm
   simp [hi,h4,e,e',ih]
@[simp] theorem Z4v (xs:List Int) (v:Int) (hx:Le xs):Zik xs v=some (Bo (has xs v),[]):=by
 refine Zbgj _ _ _ ?_
 have:=l_l7Has xs v hx 0 (Nat.zero_le _)
 simpa using this
theorem nm_aux (s:ByteArray) (P:Prop):(if (s.size:Int)=1 then (∃ (b1:UInt8),s[0]?=some b1∧(if 97≤(b1.toNat:Int) then (some (Bo (decide ((b1.toNat:Int)≤122)),[])=some (Bo (nmOk s),([]:List Blk))) else (some (Bo false,[])=some (Bo (nmOk s),([]:List Blk))))) else (some (Bo false,[])=some (Bo (nmOk s),([]:List Blk)))):=by
 by_cases h:s.size=1
 ·obtain ⟨b,hb⟩:=get0 h
  rw [if_pos (by omega)]
  refine ⟨b,hb,?_⟩
  have e:nmOk s=(decide (97≤(b.toNat:Int)) && decide ((b.toNat:Int)≤122)):=by
   unfold nmOk;rw [hb];simp only [h,decide_true,Bool.true_and]
  by_cases h1:(97:Int)≤(b.toNat:Int)
  ·rw [if_pos h1,e,decide_eq_true h1,Bool.true_and]
  ·rw [if_neg h1,e,decide_eq_false h1,Bool.false_and]
 ·have h':¬ (s.size:Int)=1:=by omega
  have:nmOk s=false:=by unfold nmOk;split <;> simp [h]
  simp [h',this]
@[simp] theorem x_nameOk (s:ByteArray):Zky s=some (Bo (nmOk s),[]):=Zben _ _ (nm_aux s True)
@[simp] theorem x_l4Name (s:ByteArray):Zlw s=some (Bo (nmOk s),[]):=Zbgi _ _ (nm_aux s True)
def LeQ (q:Zb):Prop:=Le q.Atoms∧∀ a∈q.Atoms,Le a.Vars
def blB (p:Nat→Bool) (n:Nat):List Bool:=(List.range n).map p
theorem blB_set (p:Nat→Bool) (n:Nat) {v:Int} (h:inR v 0 ((n:Int) - 1)=true):(blB p n).set v.toNat true=blB (addV p [v]) n:=by
 simp [inR] at h
 apply List.ext_getElem
 ·simp [blB]
 ·intro i h1 h2
  simp only [blB,List.length_set,List.length_map,List.length_range] at h1
  rw [List.getElem_set]
  simp only [blB,List.getElem_map,List.getElem_range]
  by_cases e:v.toNat=i
  ·have:(i:Int)=v:=by omega
   simp [e,addV,has,this]
  ·have:¬ (i:Int)=v:=by omega
   simp [e,addV,has,this]
theorem Zbij (q:Zb) (n:Nat) (hn:n≤4) (hq:q.Zf=n) (a:Atom) (qa:List Atom) (l j:Int) (hv:Le a.Vars) (r:AV×List Blk):∀ k,k≤a.Vars.length→∀ p,
  (if Zdc n (a.Vars.take k) (a.Vars.drop k)=true then Zf9 q (blB (addV p (a.Vars.drop k)) n) qa l (w (j+1))=some r else some (Bo false,[])=some r) →
  Zh1 q (blB p n) a qa l j a.Vars a.Vars.length k=some r:=by
 refine down _ ?_ ?_
 ·intro p h
  refine Z2f _ _ _ _ _ _ _ _ _ _ ?_
  simpa [Zdc,Zqr] using h
 ·intro k hk ih p h
  have h4:=inc64 (i:=k) (by omega)
  have hw:w (q.Zf - 1)=(n:Int) - 1:=by rw [hq];exact wrap64 (by omega) (by omega)
  have hl:=Zm8 (a.Vars.take k) a.Vars[k] (by simp;omega)
  refine Z2f _ _ _ _ _ _ _ _ _ _ ?_
  rw [Zxc _ hk] at h
  rcases tf (inR a.Vars[k] 0 ((n:Int) - 1)) with e1 | e1
  ·simp [e1] at h
   simp [hk,h4,hw,e1,← h]
  ·rcases tf (has (a.Vars.take k) a.Vars[k]) with e2 | e2
   ·rw [Zqs p hk] at h
    simp only [e1,e2,Bool.true_and,Bool.not_false] at h
    have ih:=ih _ h
    have e0:=e1
    simp [inR] at e0
    have e5:(a.Vars[k]).toNat<(blB p n).length:=by simp [blB];omega
    have e6:=blB_set p n e1
    have e7:k≤a.Vars.length:=by omega
    simp at ih
    simp [hk,h4,hw,e1,e2,hl,e0,e5,e6,e7,ih]
   ·simp [e1,e2] at h
    have e7:k≤a.Vars.length:=by omega
    simp [hk,h4,hw,e1,e2,hl,e7,← h]
theorem Zbik (q:Zb) (n:Nat) (hn:n≤4) (hq:q.Zf=n) (qa:List Atom) (hl:Le qa) (hv:∀ a∈qa,Le a.Vars):∀ k,k≤qa.length→∀ p,
  Zf9 q (blB p n) qa qa.length k=some (Bo ((qa.drop k).all (Zby n) && (List.range n).all (addA p (qa.drop k))),[]):=by
 refine down _ ?_ ?_
 ·intro p
  refine Z2e _ _ _ _ _ _ ?_
  have e:addA p []=p:=by funext u;simp [addA]
  have q1:=Zbii (blB p n) false (by simp [blB];omega)
  have q2:(blB p n).any (fun x=>false == x)=!(List.range n).all p:=bl_any p n
  rw [q2] at q1
  simp [q1,e]
 ·intro k hk ih p
  refine Z2e _ _ _ _ _ _ ?_
  have h4:=inc64 (i:=k) (by omega)
  rw [Zkt _ hk]
  rcases tf (nmOk qa[k].Name) with e1 | e1
  ·simp [hk,e1,Zby]
  rcases tf (inR qa[k].Vars.length 1 3) with e2 | e2
  ·simp [hk,e1,e2,Zby]
  have b:=Zbij q n hn hq qa[k] qa qa.length k (hv _ (List.getElem_mem hk)) (Bo (Zby n qa[k] && (qa.drop (k+1)).all (Zby n) && (List.range n).all (addA p (qa.drop k))),[]) 0 (Nat.zero_le _) p ?_
  ·simp at b
   simp [hk,e1,e2,b]
  ·simp only [List.take_zero,List.drop_zero,Zby,e1,e2,Bool.true_and]
   rcases tf (Zdc n [] qa[k].Vars) with e3 | e3
   ·simp [e3]
   ·have ih:=ih (addV p qa[k].Vars)
    simp only [e3,if_true,Bool.true_and,Zxd p hk]
    simp at ih
    rw [show w ((k:Int)+1)=(k:Int)+1 from h4,ih]
@[simp] theorem Zm9 (q:Zb) (h:LeQ q):Zdd q=some (Bo (Zo q.Zf q.Atoms),[]):=by
 refine Zbes _ _ ?_
 unfold Zo
 rcases tf (inR q.Zf 1 4) with e1 | e1
 ·simp [e1]
 rcases tf (inR q.Atoms.length 1 4) with e2 | e2
 ·simp [e1,e2]
 have e0:=e1
 simp [inR] at e0
 have hn:q.Zf=(q.Zf.toNat:Int):=by omega
 have b:=Zbik q q.Zf.toNat (by omega) hn q.Atoms h.1 h.2 0 (Nat.zero_le _) (fun _=>false)
 have r1:q.Zf.toNat≤room:=room2 (by omega)
 have r2:q.Zf≤room:=by
  have:(q.Zf.toNat:Int)≤room:=by exact_mod_cast r1
  omega
 have r3:q.Zf≤140737488355328:=by omega
 have ez:blB (fun _=>false) q.Zf.toNat=List.replicate q.Zf.toNat false:=by
  apply List.ext_getElem <;> simp [blB]
 rw [ez,← hn] at b
 simp at b
 simp [e1,e2,e0,r1,r2,r3,b]
 omega
theorem Zbil (q:Zb) (n:Nat) (hn1:1≤n) (hn:n≤4) (hq:q.Zf=n) (a:Atom) (j:Int) (hv:Le a.Vars) (r:AV×List Blk):∀ k,k≤a.Vars.length→∀ p,
  (if Zdc n (a.Vars.take k) (a.Vars.drop k)=true then Zgz q (Z2 (addV p (a.Vars.drop k))) (w (j+1))=some r else some (Bo false,[])=some r) →
  Zim q a (Z2 p) j k=some r:=by
 refine down _ ?_ ?_
 ·intro p h
  refine Z3t _ _ _ _ _ _ ?_
  simpa [Zdc,Zqr] using h
 ·intro k hk ih p h
  have h4:=inc64 (i:=k) (by omega)
  have hw:w (q.Zf - 1)=(n:Int) - 1:=by rw [hq];exact wrap64 (by omega) (by omega)
  have hl:=Z4v (a.Vars.take k) a.Vars[k] (by simp;omega)
  have e7:k≤a.Vars.length:=by omega
  refine Z3t _ _ _ _ _ _ ?_
  rw [Zxc _ hk] at h
  rcases tf (inR a.Vars[k] 0 ((n:Int) - 1)) with e1 | e1
  ·simp [e1] at h
   simp [hk,h4,hw,e1,← h]
  ·rcases tf (has (a.Vars.take k) a.Vars[k]) with e2 | e2
   ·rw [Zqs p hk] at h
    simp only [e1,e2,Bool.true_and,Bool.not_false] at h
    have ih:=ih _ h
    have e0:=e1
    simp [inR] at e0
    have e6:=Zn2 p (v:=a.Vars[k]) (by simp [inR];omega)
    have e8:¬ a.Vars[k]<0:=by omega
    simp at ih
    simp [hk,h4,hw,e1,e2,hl,e0,e6,e7,e8,ih]
   ·simp [e1,e2] at h
    simp [hk,h4,hw,e1,e2,hl,e7,← h]
def Zna (n:Int) (p:Nat→Bool):Bool:=decide (Z2 p=w (shlI 1 n - 1))
theorem Zbim (q:Zb) (n:Nat) (hn1:1≤n) (hn:n≤4) (hq:q.Zf=n) (hl:Le q.Atoms) (hv:∀ a∈q.Atoms,Le a.Vars):∀ k,k≤q.Atoms.length→∀ p,
  Zgz q (Z2 p) k=some (Bo ((q.Atoms.drop k).all (Zby n) && Zna n (addA p (q.Atoms.drop k))),[]):=by
 refine down _ ?_ ?_
 ·intro p
  refine Z3s _ _ _ _ ?_
  have e:addA p []=p:=by funext u;simp [addA]
  have h0:¬ (n:Int)<0:=by omega
  simp [e,hq,h0,Zna]
 ·intro k hk ih p
  refine Z3s _ _ _ _ ?_
  have h4:=inc64 (i:=k) (by omega)
  rw [Zkt _ hk]
  rcases tf (nmOk q.Atoms[k].Name) with e1 | e1
  ·simp [hk,e1,Zby]
  rcases tf (inR q.Atoms[k].Vars.length 1 3) with e2 | e2
  ·simp [hk,e1,e2,Zby]
  have b:=Zbil q n hn1 hn hq q.Atoms[k] k (hv _ (List.getElem_mem hk)) (Bo (Zby n q.Atoms[k] && (q.Atoms.drop (k+1)).all (Zby n) && Zna n (addA p (q.Atoms.drop k))),[]) 0 (Nat.zero_le _) p ?_
  ·simp at b
   simp [hk,e1,e2,b]
  ·simp only [List.take_zero,List.drop_zero,Zby,e1,e2,Bool.true_and]
   rcases tf (Zdc n [] q.Atoms[k].Vars) with e3 | e3
   ·simp [e3]
   ·have ih:=ih (addV p q.Atoms[k].Vars)
    simp only [e3,if_true,Bool.true_and,Zxd p hk]
    simp at ih
    rw [show w ((k:Int)+1)=(k:Int)+1 from h4,ih]
@[simp] theorem Zpl (q:Zb) (h:LeQ q):Zea q=some (Bo (Zo q.Zf q.Atoms),[]):=by
 refine Zbgk _ _ ?_
 unfold Zo
 rcases tf (inR q.Zf 1 4) with e1 | e1
 ·simp [e1]
 rcases tf (inR q.Atoms.length 1 4) with e2 | e2
 ·simp [e1,e2]
 have e0:=e1
 simp [inR] at e0
 obtain ⟨k,hk⟩:∃ k:Nat,q.Zf=k:=⟨q.Zf.toNat,by omega⟩
 have b:=Zbim q k (by omega) (by omega) hk h.1 h.2 0 (Nat.zero_le _) (fun _=>false)
 have ez:Z2 (fun _=>false)=0:=rfl
 rw [ez] at b
 simp only [List.drop_zero,Int.ofNat_zero] at b
 have e3:(q.Atoms.all (Zby k) && Zna k (addA (fun _=>false) q.Atoms))=(q.Atoms.all (Zby k) && (List.range k).all (addA (fun _=>false) q.Atoms)):=by
  rcases tf (q.Atoms.all (Zby k)) with e3 | e3
  ·simp [e3]
  ·have hk':k=1∨k=2∨k=3∨k=4:=by omega
   have hz:=all_in e3
   have hz':∀ u:Nat,k≤u→addA (fun _=>false) q.Atoms u=false:=fun u hu=>by simp only [addA,Bool.false_or];exact hz u (by omega)
   rw [e3,Bool.true_and,Bool.true_and,Bool.eq_iff_iff,Zna,decide_eq_true_eq,Z2]
   rcases hk' with rfl | rfl | rfl | rfl
   ·simp [shlI,wrap64,Zn3,hz' 1 (by omega),hz' 2 (by omega),hz' 3 (by omega),List.range_succ]
   ·simp [shlI,wrap64,Zn3,hz' 2 (by omega),hz' 3 (by omega),List.range_succ]
   ·simp [shlI,wrap64,Zn3,hz' 3 (by omega),List.range_succ,and_assoc]
   ·simp [shlI,wrap64,Zn3,List.range_succ,and_assoc]
 rw [e3] at b
 rw [hk] at e1
 simp only [Zck,Option.some.injEq,Prod.mk.injEq,AV.t.injEq,T.bool.injEq,and_true,exists_eq_left',e1,e2,if_true,b,hk,Int.toNat_natCast]
 simp
@[simp] theorem Zhh (q:Zb) (h:LeQ q):Zb7 q=some (I (Zw q.Zf q.Atoms),[]):=by
 refine Zbew _ _ ?_
 have q1:=Zm9 q h
 unfold Zw
 rcases tf (Zo q.Zf q.Atoms) with e | e
 ·simp [q1,e]
 ·have:=(Zht e).2.2.1
  have h0:¬ ((q.Atoms.length:Int)<0):=by omega
  simp [q1,e,this,h0]
@[simp] theorem Znb (q:Zb) (h:LeQ q):Zde q=some (I (Zw q.Zf q.Atoms),[]):=by
 refine Zbgl _ _ ?_
 have q1:=Zpl q h
 unfold Zw
 rcases tf (Zo q.Zf q.Atoms) with e | e
 ·simp [q1,e]
 ·have:=(Zht e).2.2.1
  have h0:¬ ((q.Atoms.length:Int)<0):=by omega
  simp [q1,e,this,h0]
theorem Zbin (xs:List Int) (hx:Le xs):∀ i,i≤xs.length→Ziq xs i=some (Bo (Zbp (xs.drop i) && decide ((xs.length:Int)≤16)),[]):=by
 refine down _ ?_ ?_
 ·refine Z3x _ _ _ ?_
  simp [Zbp]
 ·intro i hi ih
  refine Z3x _ _ _ ?_
  have h4:=inc64 (i:=i) (by omega)
  rw [Zw6 hi]
  simp at ih
  rcases tf (inR xs[i] 0 7) with h | h <;> simp [hi,h4,h,ih]
@[simp] theorem Zpm (xs:List Int) (hx:Le xs):Zg1 xs=some (Bo (Zba xs),[]):=by
 refine Zbgr _ _ ?_
 have:=Zbin xs hx 0 (Nat.zero_le _)
 simpa [Zba] using this
theorem Zbio (xs:List Int) (hx:Le xs):∀ i,i≤xs.length→Zh2 xs xs xs.length i=some (Bo (Zbp (xs.drop i) && decide ((xs.length:Int)≤16)),[]):=by
 refine down _ ?_ ?_
 ·refine Z2g _ _ _ _ _ ?_
  simp [Zbp]
 ·intro i hi ih
  refine Z2g _ _ _ _ _ ?_
  have h4:=inc64 (i:=i) (by omega)
  rw [Zw6 hi]
  simp at ih
  rcases tf (inR xs[i] 0 7) with h | h <;> simp [hi,h4,h,ih]
@[simp] theorem Zpn (xs:List Int) (hx:Le xs):Zga xs=some (Bo (Zba xs),[]):=by
 refine Zbet _ _ ?_
 have:=Zbio xs hx 0 (Nat.zero_le _)
 simpa [Zba] using this
theorem Zbip (xs ys:List Int) (hx:Le xs) (hl:ys.length=xs.length):∀ i,i≤xs.length→Zir xs ys i=some (Bo (Z4 (xs.drop i) (ys.drop i)),[]):=by
 refine down _ ?_ ?_
 ·refine Z3y _ _ _ _ ?_
  simp [Z4]
 ·intro i hi ih
  refine Z3y _ _ _ _ ?_
  have hi2:i<ys.length:=by omega
  have h4:=inc64 (i:=i) (by omega)
  rw [Zw7 hi hi2]
  simp at ih
  by_cases h:xs[i]<ys[i]
  ·simp [hi,hi2,h4,h,show ¬ ys[i]≤xs[i] by omega]
  ·simp [hi,hi2,h4,h,show ys[i]≤xs[i] by omega,ih]
@[simp] theorem Zu0 (xs ys:List Int) (hx:Le xs):Zg2 xs ys=some (Bo (dom xs ys),[]):=by
 refine Zbgs _ _ _ ?_
 by_cases hl:ys.length=xs.length
 ·have:=Zbip xs ys hx hl 0 (Nat.zero_le _)
  simp at this
  simp [hl,this,dom]
 ·have h2:¬ ((xs.length:Int)=ys.length):=by omega
  have h1:¬ (xs.length=ys.length):=by omega
  simp [h1,h2,dom]
theorem Zbiq (xs ys:List Int) (hx:Le xs) (hl:ys.length=xs.length):∀ i,i≤xs.length→Zh3 xs ys xs.length i=some (Bo (Z4 (xs.drop i) (ys.drop i)),[]):=by
 refine down _ ?_ ?_
 ·refine Z2h _ _ _ _ _ ?_
  simp [Z4]
 ·intro i hi ih
  refine Z2h _ _ _ _ _ ?_
  have hi2:i<ys.length:=by omega
  have h4:=inc64 (i:=i) (by omega)
  rw [Zw7 hi hi2]
  simp at ih
  by_cases h:xs[i]<ys[i]
  ·simp [hi,hi2,h4,h,show ¬ ys[i]≤xs[i] by omega]
  ·simp [hi,hi2,h4,h,show ys[i]≤xs[i] by omega,ih]
@[simp] theorem Zu1 (xs ys:List Int) (hx:Le xs):Zgb xs ys=some (Bo (dom xs ys),[]):=by
 refine Zbeu _ _ _ ?_
 by_cases hl:ys.length=xs.length
 ·have:=Zbiq xs ys hx hl 0 (Nat.zero_le _)
  simp at this
  simp [hl,this,dom]
 ·have h2:¬ ((xs.length:Int)=ys.length):=by omega
  have h1:¬ (xs.length=ys.length):=by omega
  simp [h1,h2,dom]
def LeX (b:Box):Prop:=Le b.Low∧Le b.High
@[simp] theorem Zu2 (b:Box) (h:LeX b):Ze6 b=some (Bo (Zbh b.Low b.High),[]):=by
 refine Zbev _ _ ?_
 have q1:=Zpn b.Low h.1
 have q2:=Zpn b.High h.2
 have q3:=Zu1 b.High b.Low h.2
 unfold Zbh
 rcases tf (Zba b.Low) with e1 | e1 <;> rcases tf (Zba b.High) with e2 | e2 <;> by_cases e3:0<b.Low.length <;> simp [q1,q2,q3,e1,e2,e3]
@[simp] theorem Zu3 (b:Box) (h:LeX b):Zft b=some (Bo (Zbh b.Low b.High),[]):=by
 refine Zbgt _ _ ?_
 have q1:=Zpm b.Low h.1
 have q2:=Zpm b.High h.2
 have q3:=Zu0 b.High b.Low h.2
 unfold Zbh
 rcases tf (Zba b.Low) with e1 | e1 <;> rcases tf (Zba b.High) with e2 | e2 <;> by_cases e3:0<b.Low.length <;> simp [q1,q2,q3,e1,e2,e3]
theorem l_volume (b:Box) (hv:Zbh b.Low b.High=true):∀ i,i≤b.Low.length→∀ n:Int,1≤n→n≤8 ^ i →
  Zi3 b n b.Low.length i=some (I (n*vol (b.Low.drop i) (b.High.drop i)),[]):=by
 obtain ⟨b1,b2,b3,b4⟩:=Zxl hv
 refine down _ ?_ ?_
 ·intro n _ _
  refine Z4g _ _ _ _ _ ?_
  rw [List.drop_length,← b1,List.drop_length,Zxi]
  simp
 ·intro i hi0 ih n hn1 hn2
  refine Z4g _ _ _ _ _ ?_
  have h5:=inc64 (i:=i) (by omega)
  have hi2:i<b.High.length:=by omega
  obtain ⟨g1,g2,g3⟩:=b4 i hi0 hi2
  have p1:=pow8 (i:=i+1) (by omega)
  have p2:(8:Int) ^ (i+1)=8 ^ i*8:=Int.pow_succ 8 i
  have hd:(b.High[i] - b.Low[i]+1)≤8:=by omega
  have hd1:1≤(b.High[i] - b.Low[i]+1):=by omega
  have m1:n*(b.High[i] - b.Low[i]+1)≤8 ^ i*8:=Int.mul_le_mul hn2 hd (by omega) (by omega)
  have m2:1≤n*(b.High[i] - b.Low[i]+1):=by
   have:=Int.mul_le_mul hn1 hd1 (by omega) (by omega)
   omega
  have w1:IntKind.wrap .i64 (b.High[i] - b.Low[i])=b.High[i] - b.Low[i]:=wrap64 (by omega) (by omega)
  have w2:IntKind.wrap .i64 (b.High[i] - b.Low[i]+1)=b.High[i] - b.Low[i]+1:=wrap64 (by omega) (by omega)
  have w3:IntKind.wrap .i64 (n*(b.High[i] - b.Low[i]+1))=n*(b.High[i] - b.Low[i]+1):=wrap64 (by omega) (by omega)
  have ih:=ih (n*(b.High[i] - b.Low[i]+1)) m2 (by omega)
  rw [Zxj hi0 hi2,← Int.mul_assoc]
  simp at ih
  simp [hi0,hi2,h5,w1,w2,w3,ih]
@[simp] theorem Zbpm (b:Box) (h:LeX b):Zt8 b=some (I (Zjo b.Low b.High),[]):=by
 refine Zbhr _ _ ?_
 have q1:=Zu2 b h
 unfold Zjo
 rcases tf (Zbh b.Low b.High) with e | e
 ·simp [q1,e]
 ·have q2:=l_volume b e 0 (Nat.zero_le _) 1 (by omega) (by decide)
  have q3:Zmp b=some (I (vol b.Low b.High),[]):=Zbhq _ _ (by simpa using q2)
  simp [q1,q3,e,capV]
theorem Zbir (b:Box) (hv:Zbh b.Low b.High=true):∀ i,i≤b.Low.length→∀ n:Int,1≤n →
  Zi4 b (capV n) i=some (I (capV (n*vol (b.Low.drop i) (b.High.drop i))),[]):=by
 obtain ⟨b1,b2,b3,b4⟩:=Zxl hv
 refine down _ ?_ ?_
 ·intro n _
  refine Z4h _ _ _ _ ?_
  rw [List.drop_length,← b1,List.drop_length,Zxi]
  simp [b1]
 ·intro i hi0 ih n hn1
  refine Z4h _ _ _ _ ?_
  have h5:=inc64 (i:=i) (by omega)
  have hi2:i<b.High.length:=by omega
  obtain ⟨g1,g2,g3⟩:=b4 i hi0 hi2
  have hd:(b.High[i] - b.Low[i]+1)≤8:=by omega
  have hd1:1≤(b.High[i] - b.Low[i]+1):=by omega
  obtain ⟨c1,c2⟩:=cap_le hn1
  have m1:capV n*(b.High[i] - b.Low[i]+1)≤401*8:=Int.mul_le_mul c2 hd (by omega) (by omega)
  have m2:1*1≤capV n*(b.High[i] - b.Low[i]+1):=Int.mul_le_mul c1 hd1 (by omega) (by omega)
  have m3:1*1≤n*(b.High[i] - b.Low[i]+1):=Int.mul_le_mul hn1 hd1 (by omega) (by omega)
  have w1:IntKind.wrap .i64 (b.High[i] - b.Low[i])=b.High[i] - b.Low[i]:=wrap64 (by omega) (by omega)
  have w2:IntKind.wrap .i64 (b.High[i] - b.Low[i]+1)=b.High[i] - b.Low[i]+1:=wrap64 (by omega) (by omega)
  have w3:IntKind.wrap .i64 (capV n*(b.High[i] - b.Low[i]+1))=capV n*(b.High[i] - b.Low[i]+1):=wrap64 (by omega) (by omega)
  have ih:=ih (n*(b.High[i] - b.Low[i]+1)) (by omega)
  rw [← cap_mul hn1 hd1] at ih
  rw [Zxj hi0 hi2,← Int.mul_assoc]
  simp at ih
  simp [hi0,hi2,h5,w1,w2,w3,cap_flip,ih]
@[simp] theorem Zbpn (b:Box) (h:LeX b):Zub b=some (I (Zjo b.Low b.High),[]):=by
 refine Zbhs _ _ ?_
 have q1:=Zu3 b h
 unfold Zjo
 rcases tf (Zbh b.Low b.High) with e | e
 ·simp [q1,e]
 ·have q2:=Zbir b e 0 (Nat.zero_le _) 1 (by omega)
  have e1:capV 1=1:=by decide
  rw [e1] at q2
  simp at q2
  simp [q1,e,q2]
theorem l_vars0 (q:Zb) (m:Int) (hl:Le q.Atoms) (hv:∀ a∈q.Atoms,Le a.Vars) (v:Nat) (hv4:v<8) (out:List Int) (ho:out.length≤8) (r:AV×List Blk):∀ i,i≤q.Atoms.length →
  Ze7 q (out++if hasV m (q.Atoms.drop i) i v=true then [(v:Int)] else []) m (w ((v:Int)+1))=some r →
  Zgc q out m v q.Atoms q.Atoms.length i=some r:=by
 refine down _ ?_ ?_
 ·intro h
  refine Z2j _ _ _ _ _ _ _ _ ?_
  simpa [hasV] using h
 ·intro i hi ih h
  refine Z2j _ _ _ _ _ _ _ _ ?_
  have h4:=inc64 (i:=i) (by omega)
  have c1:=Zm8 q.Atoms[i].Vars v (hv _ (List.getElem_mem hi))
  have h0:¬ (i:Int)<0:=by omega
  rw [Zqu _ hi] at h
  by_cases e1:andI (shrI m i) 1=1
  ·have e2:Zu m i=true:=by simp [Zu,e1]
   rcases tf (has q.Atoms[i].Vars v) with e3 | e3
   ·simp [e2,e3] at h
    have ih:=ih (by simpa using h)
    simp at ih
    simp [hi,h4,h0,e1,c1,e3,ih]
   ·simp [e2,e3] at h
    have e4:out.length+1≤68719476736:=by omega
    simp [hi,h4,h0,e1,c1,e3,e4,h]
  ·have e2:Zu m i=false:=by simp [Zu,e1]
   simp [e2] at h
   have ih:=ih (by simpa using h)
   simp at ih
   simp [hi,h4,h0,e1,ih]
theorem l_vars1 (q:Zb) (m:Int) (hl:Le q.Atoms) (hv:∀ a∈q.Atoms,Le a.Vars) (n:Nat) (hq:q.Zf=n) (hn:n≤4):∀ k,k≤n →
  Ze7 q (varL m q.Atoms k) m k=some (.own 0,[.arr Zx 1 true ((varL m q.Atoms n).map ic)]):=by
 refine down _ ?_ ?_
 ·refine Z2i _ _ _ _ _ ?_
  simp [hq]
 ·intro k hk ih
  refine Z2i _ _ _ _ _ ?_
  have h4:=inc64 (i:=k) (by omega)
  have b:=l_vars0 q m hl hv k (by omega) (varL m q.Atoms k) (by have:=Zjn m q.Atoms k;omega) _ 0 (Nat.zero_le _) (by
   rw [List.drop_zero,← Z88,show w ((k:Int)+1)=(k:Int)+1 from h4];simpa using ih)
  simp at b
  simp [hq,hk,b]
@[simp] theorem Znc (q:Zb) (m:Int) (h:LeQ q) (hv:Zo q.Zf q.Atoms=true):Zd2 q m=some (.own 0,[.arr Zx 1 true ((varL m q.Atoms q.Zf.toNat).map ic)]):=by
 refine Zbey _ _ _ ?_
 have hn:=Zdk hv
 have b:=l_vars1 q m h.1 h.2 q.Zf.toNat (by omega) (by omega) 0 (Nat.zero_le _)
 simpa [varL] using b
theorem l_both (b xs:List Int) (hb:Le b) (hx:xs.length≤1000000):∀ i,i≤xs.length →
  Zgd ((xs.take i).filter (has b)) b xs xs.length i=some (.own 0,[.arr Zx 1 true ((xs.filter (has b)).map ic)]):=by
 refine down _ ?_ ?_
 ·refine Z2k _ _ _ _ _ _ ?_
  simp
 ·intro i hi ih
  refine Z2k _ _ _ _ _ _ ?_
  have h4:=inc64 (i:=i) (by omega)
  have c1:=Zm8 b xs[i] hb
  have e4:((xs.take i).filter (has b)).length+1≤68719476736:=by
   have:=List.length_filter_le (has b) (xs.take i)
   simp at this
   omega
  rw [Zqv _ hi] at ih
  rcases tf (has b xs[i]) with e | e
  ·simp [e] at ih
   simp [hi,h4,c1,e,ih]
  ·simp [e] at ih
   simp [hi,h4,c1,e,e4,ih]
@[simp] theorem x_both (xs b:List Int) (hb:Le b) (hx:xs.length≤1000000):Ze8 xs b=some (.own 0,[.arr Zx 1 true ((xs.filter (has b)).map ic)]):=by
 refine Zbez _ _ _ ?_
 have:=l_both b xs hb hx 0 (Nat.zero_le _)
 simpa using this
theorem l_bits0 (q:Zb) (m:Int) (hv:∀ a∈q.Atoms,Le a.Vars) (h4v:Var4 q.Atoms) (i:Nat) (hi:i<q.Atoms.length) (hm:Zu m i=true) (r:AV×List Blk):∀ k,k≤q.Atoms[i].Vars.length→∀ p,
  Zfr q m (Z2 (addV p (q.Atoms[i].Vars.drop k))) (w ((i:Int)+1))=some r→Zg0 q m (Z2 p) i k=some r:=by
 have e1:andI (shrI m i) 1=1:=by simpa [Zu] using hm
 have h0:¬ (i:Int)<0:=by omega
 have ha:=List.getElem_mem hi
 refine down _ ?_ ?_
 ·intro p h
  refine Zut _ _ _ _ _ _ ?_
  rw [List.drop_length,Zqr] at h
  simp [hi,h]
 ·intro k hk ih p h
  refine Zut _ _ _ _ _ _ ?_
  have h4:=inc64 (i:=k) (by have:=hv _ ha;omega)
  have e6:=Zn2 p (v:=q.Atoms[i].Vars[k]) (h4v _ ha _ (List.getElem_mem hk))
  have e7:=h4v _ ha _ (List.getElem_mem hk)
  simp [inR] at e7
  have e8:¬ q.Atoms[i].Vars[k]<0:=by omega
  rw [Zqs p hk] at h
  have ih:=ih _ h
  simp at ih
  simp [hi,hk,h0,e1,h4,e6,e7,e8,ih]
theorem l_bits1 (q:Zb) (m:Int) (hl:Le q.Atoms) (hv:∀ a∈q.Atoms,Le a.Vars) (h4v:Var4 q.Atoms):∀ i,i≤q.Atoms.length→∀ p,
  Zfr q m (Z2 p) i=some (I (Z2 (addM m p q.Atoms i)),[]):=by
 refine down _ ?_ ?_
 ·intro p
  refine Z3u _ _ _ _ _ ?_
  have e:addM m p q.Atoms q.Atoms.length=p:=by funext u;simp [addM,hasV]
  simp [e]
 ·intro i hi ih p
  refine Z3u _ _ _ _ _ ?_
  have h4:=inc64 (i:=i) (by omega)
  have h0:¬ (i:Int)<0:=by omega
  rw [Z87 m p hi]
  rcases tf (Zu m i) with e | e
  ·have e1:¬ andI (shrI m i) 1=1:=by simpa [Zu] using e
   have ih:=ih p
   simp at ih
   have b:Zg0 q m (Z2 p) i 0=some (I (Z2 (addM m p q.Atoms (i+1))),[]):=by
    refine Zut _ _ _ _ _ _ ?_
    simp [hi,h0,e1,h4,ih]
   simp [hi,e,b]
  ·have ih:=ih (addV p q.Atoms[i].Vars)
   have b:=l_bits0 q m hv h4v i hi e _ 0 (Nat.zero_le _) p (by rw [List.drop_zero,show w ((i:Int)+1)=(i:Int)+1 from h4];simpa using ih)
   simp at b
   simp [hi,e,b]
@[simp] theorem Zkb (q:Zb) (m:Int) (h:LeQ q) (h4v:Var4 q.Atoms):Zcc q m=some (I (Z2 (pV m q.Atoms)),[]):=by
 refine Zbgn _ _ _ ?_
 have b:=l_bits1 q m h.1 h.2 h4v 0 (Nat.zero_le _) (fun _=>false)
 have ez:Z2 (fun _=>false)=0:=rfl
 have e:addM m (fun _=>false) q.Atoms 0=pV m q.Atoms:=by funext u;simp [addM,pV]
 rw [ez,e] at b
 simpa using b
theorem Zbis (q:Zb) (hq:LeQ q) (h:Zo q.Zf q.Atoms=true) (x:Zc) (info:List Zh) (st:List Int) (hs:StOk info st) (hil:info.length≤100) (hst:st.length≤100) :
  match Zcb q.Atoms x info st with
  | some y=>Zh4 q x info st=some (.tup [.agg (y.c.map .t),Bo true],[])
  | none=>∃ y:Zh,Zh4 q x info st=some (.tup [.agg (y.c.map .t),Bo false],[]):=by
 have hl:=Zbv h
 have wl:w ((q.Atoms.length:Int) - 1)=(q.Atoms.length:Int) - 1:=wrap64 (by omega) (by omega)
 unfold Zcb
 by_cases k1:x.Kind=1
 ·rw [if_pos k1]
  by_cases c1:inR x.Atom 0 (q.Atoms.length - 1)=true∧x.Order=0
  ·rw [if_pos c1]
   have c2:=c1.1
   simp [inR] at c2
   have hlt:x.Atom.toNat<q.Atoms.length:=by omega
   have hv:=Zjm h _ (List.getElem_mem hlt)
   have h0:¬ x.Atom<0:=by omega
   simp only
   refine Zhg _ _ _ _ _ ?_
   have e:q.Atoms[x.Atom.toNat].Vars.headD 0=q.Atoms[x.Atom.toNat].Vars[0]'(by omega):=by
    rw [List.headD_eq_head?_getD,hd0 (by omega)]
   rw [List.headD_eq_head?_getD] at e
   simp [k1,wl,c1,h0,hlt,c2,e,show 0<q.Atoms[x.Atom.toNat].Vars.length by omega]
  ·rw [if_neg c1]
   refine ⟨⟨0,-1,-1,-1⟩,Zhg _ _ _ _ _ ?_⟩
   rcases tf (inR x.Atom 0 (q.Atoms.length - 1)) with e | e
   ·simp [k1,wl,e]
   ·have e2:¬ x.Order=0:=fun hc=>c1 ⟨e,hc⟩
    simp [k1,wl,e,e2]
 rw [if_neg k1]
 by_cases k0:x.Atom=0
 rotate_left
 ·rw [if_pos k0]
  exact ⟨⟨0,-1,-1,-1⟩,Zhg _ _ _ _ _ (by simp [k1,k0])⟩
 rw [if_neg (by simpa using k0)]
 have w1:w ((st.length:Int) - 1)=(st.length:Int) - 1:=wrap64 (by omega) (by omega)
 have w2:w ((st.length:Int) - 2)=(st.length:Int) - 2:=wrap64 (by omega) (by omega)
 by_cases k2:x.Kind=2
 ·rw [if_pos k2]
  by_cases n1:st.length<1
  ·have:Zbi st info 1=none:=by unfold Zbi;rw [if_neg (by omega)]
   rw [this]
   have n1':(st.length:Int)<1:=by omega
   exact ⟨⟨0,-1,-1,-1⟩,Zhg _ _ _ _ _ (by simp [k1,k2,k0,n1'])⟩
  ·have n1':¬ (st.length:Int)<1:=by omega
   obtain ⟨s,y,t1,t2,t3,t4⟩:=Zhv hs (by omega:1≤1) (by omega:1≤st.length)
   have z1:(0:Int)≤(st.length:Int) - 1:=by omega
   have z5:(1:Int)≤(st.length:Int):=by omega
   have z2:((st.length:Int) - 1).toNat=st.length - 1:=by omega
   have q1:=Znc q y.Mask hq h
   have q2:=Zm8 (varL y.Mask q.Atoms q.Zf.toNat) x.Order (by have:=Zjn y.Mask q.Atoms q.Zf.toNat;have:=Zdk h;omega)
   rw [Zku h] at q2
   rw [t1]
   simp only
   by_cases c1:vin q.Atoms y.Mask x.Order=true∧y.Order≠x.Order
   ·rw [if_pos c1]
    refine Zhg _ _ _ _ _ ?_
    simp [k1,k2,k0,n1',w1,z1,z2,z5,t2,t3,t4,q1,q2,c1]
   ·rw [if_neg c1]
    refine ⟨⟨0,-1,-1,-1⟩,Zhg _ _ _ _ _ ?_⟩
    rcases tf (vin q.Atoms y.Mask x.Order) with e | e
    ·simp [k1,k2,k0,n1',w1,z1,z2,z5,t2,t3,t4,q1,q2,e]
    ·have e2:y.Order=x.Order:=Decidable.byContradiction fun hc=>c1 ⟨e,hc⟩
     simp [k1,k2,k0,n1',w1,z1,z2,z5,t2,t3,t4,q1,q2,e,e2]
 rw [if_neg k2]
 by_cases n2:st.length<2
 ·have:Zbi st info 2=none:=by unfold Zbi;rw [if_neg (by omega)]
  rw [this]
  have n2':(st.length:Int)<2:=by omega
  exact ⟨⟨0,-1,-1,-1⟩,Zhg _ _ _ _ _ (by simp [k1,k2,k0,n2'])⟩
 have n2':¬ (st.length:Int)<2:=by omega
 obtain ⟨s,y,t1,t2,t3,t4⟩:=Zhv hs (by omega:1≤2) (by omega:2≤st.length)
 obtain ⟨t,z,u1,u2,u3,u4⟩:=Zhv hs (by omega:1≤1) (by omega:1≤st.length)
 have z1:(0:Int)≤(st.length:Int) - 1:=by omega
 have z2:((st.length:Int) - 1).toNat=st.length - 1:=by omega
 have z3:(0:Int)≤(st.length:Int) - 2:=by omega
 have z4:((st.length:Int) - 2).toNat=st.length - 2:=by omega
 have hn:=Zdk h
 have q1:=Znc q y.Mask hq h
 have q2:=Znc q z.Mask hq h
 have l1:=Zjn y.Mask q.Atoms q.Zf.toNat
 have l2:=Zjn z.Mask q.Atoms q.Zf.toNat
 have q3:=x_both (varL y.Mask q.Atoms q.Zf.toNat) (varL z.Mask q.Atoms q.Zf.toNat) (by omega) (by omega)
 have q4:=Zm8 ((varL y.Mask q.Atoms q.Zf.toNat).filter (has (varL z.Mask q.Atoms q.Zf.toNat))) x.Order (by
  have:=List.length_filter_le (has (varL z.Mask q.Atoms q.Zf.toNat)) (varL y.Mask q.Atoms q.Zf.toNat);omega)
 rw [Z9a h] at q4
 have q5:=Z89 h y.Mask z.Mask
 generalize hS:(varL y.Mask q.Atoms q.Zf.toNat).filter (has (varL z.Mask q.Atoms q.Zf.toNat))=S at q3 q4 q5
 rw [t1,u1]
 simp only
 have base:∀ (r:AV×List Blk),(if andI y.Mask z.Mask=0 then
    if ((S.length:Int)=0) then some (.tup [.agg [I (orI y.Mask z.Mask),I (-1),I s,I t],Bo false],[])=some r
    else if x.Kind=3 then some (.tup [.agg [I (orI y.Mask z.Mask),I (-1),I s,I t],Bo (decide (x.Order=0))],[])=some r
    else if x.Kind=5 then some (.tup [.agg [I (orI y.Mask z.Mask),I y.Order,I s,I t],Bo (decide (x.Order=0))],[])=some r
    else if x.Kind=4 then
     if (vin q.Atoms y.Mask x.Order && vin q.Atoms z.Mask x.Order)=true then
      if y.Order=x.Order then some (.tup [.agg [I (orI y.Mask z.Mask),I x.Order,I s,I t],Bo (decide (z.Order=x.Order))],[])=some r
      else some (.tup [.agg [I (orI y.Mask z.Mask),I x.Order,I s,I t],Bo false],[])=some r
     else some (.tup [.agg [I (orI y.Mask z.Mask),I x.Order,I s,I t],Bo false],[])=some r
    else some (.tup [.agg [I (orI y.Mask z.Mask),I (-1),I s,I t],Bo false],[])=some r
   else some (.tup [.agg [I (orI y.Mask z.Mask),I (-1),I s,I t],Bo false],[])=some r)→Zh4 q x info st=some r:=by
  intro r hr
  refine Zhg _ _ _ _ _ ?_
  simp only [k1,k0,k2,if_false,if_true,n2',w1,w2,z1,z2,z3,z4,t2,t3,t4,u2,u3,u4,q1,q2,true_and,Option.some.injEq,exists_eq_left']
  refine ⟨_,rfl,_,rfl,S,?_,?_⟩
  ·simpa using q3
  ·simp only [q4,Option.some.injEq,Prod.mk.injEq,AV.t.injEq,T.bool.injEq,and_true,exists_eq_left']
   simpa using hr
 by_cases c1:andI y.Mask z.Mask=0∧shr q.Atoms y.Mask z.Mask=true
 rotate_left
 ·rw [if_neg c1]
  refine ⟨⟨orI y.Mask z.Mask,-1,s,t⟩,base _ ?_⟩
  by_cases c2:andI y.Mask z.Mask=0
  ·have c3:S.length=0:=q5.2 (by rcases tf (shr q.Atoms y.Mask z.Mask) with e | e;exact e;exact absurd ⟨c2,e⟩ c1)
   have c4:(S.length:Int)=0:=by omega
   rw [if_pos c2,if_pos c4]
   simp
  ·rw [if_neg c2]
   simp
 rw [if_pos c1]
 have c4:¬ (S.length:Int)=0:=fun hc=>by
  have:=q5.1 (by omega)
  rw [c1.2] at this
  cases this
 have c5:¬ S=[]:=fun hc=>c4 (by simp [hc])
 unfold Zb0
 by_cases j1:x.Kind=3∧x.Order=0
 ·rw [if_pos j1]
  exact base _ (by simp [c1.1,c4,c5,j1])
 rw [if_neg j1]
 by_cases j2:x.Kind=5∧x.Order=0
 ·rw [if_pos j2]
  exact base _ (by simp [c1.1,c4,c5,j2])
 rw [if_neg j2]
 by_cases j3:x.Kind=4∧vin q.Atoms y.Mask x.Order=true∧vin q.Atoms z.Mask x.Order=true∧y.Order=x.Order∧z.Order=x.Order
 ·rw [if_pos j3]
  exact base _ (by simp [c1.1,c4,c5,j3])
 rw [if_neg j3]
 simp only [Option.map_none]
 by_cases k3:x.Kind=3
 ·have e:¬ x.Order=0:=fun hc=>j1 ⟨k3,hc⟩
  exact ⟨⟨orI y.Mask z.Mask,-1,s,t⟩,base _ (by simp [c1.1,c4,c5,k3,e])⟩
 by_cases k5:x.Kind=5
 ·have e:¬ x.Order=0:=fun hc=>j2 ⟨k5,hc⟩
  exact ⟨⟨orI y.Mask z.Mask,y.Order,s,t⟩,base _ (by simp [c1.1,c4,c5,k5,e])⟩
 by_cases k4:x.Kind=4
 ·refine ⟨⟨orI y.Mask z.Mask,x.Order,s,t⟩,base _ ?_⟩
  rcases tf (vin q.Atoms y.Mask x.Order) with e1 | e1 <;> rcases tf (vin q.Atoms z.Mask x.Order) with e2 | e2 <;> by_cases e3:y.Order=x.Order <;> simp [c1.1,c4,c5,k4,e1,e2,e3]
  exact fun e4=>j3 ⟨k4,e1,e2,e3,e4⟩
 ·exact ⟨⟨orI y.Mask z.Mask,-1,s,t⟩,base _ (by simp [c1.1,c4,c5,k3,k4,k5])⟩
@[simp] theorem Zpo (b v:Int):Zfu b v=some (Bo (inR v 0 3 && decide (andI (shrI b v) 1=1)),[]):=by
 refine Zbgu _ _ _ ?_
 rcases tf (inR v 0 3) with e | e
 ·simp [e]
 ·have e0:=e
  simp [inR] at e0
  have:¬ v<0:=by omega
  simp [e,this]
def Z8 (x:Zc):Option Zh→AV×List Blk
 | some y=>(.tup [.agg (y.c.map .t),I (popsI x)],[])
 | none=>(.tup [.agg [I 0,I 0,I 0,I 0],I (-1)],[])
theorem Zbit (q:Zb) (hq:LeQ q) (h:Zo q.Zf q.Atoms=true) (x:Zc) (info:List Zh) (st:List Int) (hs:StOk info st) (hil:info.length≤100) (hst:st.length≤100) :
  Zg3 q x info st=some (Z8 x (Zcb q.Atoms x info st)):=by
 have hl:=Zbv h
 have wl:w ((q.Atoms.length:Int) - 1)=(q.Atoms.length:Int) - 1:=wrap64 (by omega) (by omega)
 unfold Zcb
 by_cases k1:x.Kind=1
 ·rw [if_pos k1]
  by_cases c1:inR x.Atom 0 (q.Atoms.length - 1)=true∧x.Order=0
  ·rw [if_pos c1]
   have c2:=c1.1
   simp [inR] at c2
   have hlt:x.Atom.toNat<q.Atoms.length:=by omega
   have hv:=Zjm h _ (List.getElem_mem hlt)
   have h0:¬ x.Atom<0:=by omega
   refine Zez _ _ _ _ _ ?_
   have e:q.Atoms[x.Atom.toNat].Vars.headD 0=q.Atoms[x.Atom.toNat].Vars[0]'(by omega):=by
    rw [List.headD_eq_head?_getD,hd0 (by omega)]
   rw [List.headD_eq_head?_getD] at e
   simp [k1,wl,c1,h0,hlt,c2,e,Z8,popsI,show 0<q.Atoms[x.Atom.toNat].Vars.length by omega]
  ·rw [if_neg c1]
   refine Zez _ _ _ _ _ ?_
   rcases tf (inR x.Atom 0 (q.Atoms.length - 1)) with e | e
   ·simp [k1,wl,e,Z8]
   ·have e2:¬ x.Order=0:=fun hc=>c1 ⟨e,hc⟩
    simp [k1,wl,e,e2,Z8]
 rw [if_neg k1]
 have w1:w ((st.length:Int) - 1)=(st.length:Int) - 1:=wrap64 (by omega) (by omega)
 have w2:w ((st.length:Int) - 2)=(st.length:Int) - 2:=wrap64 (by omega) (by omega)
 by_cases k0:x.Atom=0
 rotate_left
 ·rw [if_pos k0]
  refine Zez _ _ _ _ _ ?_
  have j:∀ b,Zis q x ⟨0,0,0,0⟩ info st st.length x.Kind b=some (Z8 x none):=by
   intro b
   refine Zm7 _ _ _ _ _ _ _ _ _ ?_
   cases b <;> simp [k0,Z8]
  by_cases k2:x.Kind=2
  ·simp [k1,k2,k0,Z8]
  ·by_cases k3:x.Kind=3 <;> by_cases k4:x.Kind=4 <;> simp [k1,k2,k0,k3,k4,j] <;> first | (simp only [k3] at j;simp [j,Z8]) | (simp only [k4] at j;simp [j,Z8]) | simp [Z8]
 rw [if_neg (by simpa using k0)]
 by_cases k2:x.Kind=2
 ·rw [if_pos k2]
  refine Zez _ _ _ _ _ ?_
  by_cases n1:st.length<1
  ·have:Zbi st info 1=none:=by unfold Zbi;rw [if_neg (by omega)]
   rw [this]
   have n1':(st.length:Int)<1:=by omega
   simp [k1,k2,k0,n1',Z8]
  ·have n1':¬ (st.length:Int)<1:=by omega
   obtain ⟨s,y,t1,t2,t3,t4⟩:=Zhv hs (by omega:1≤1) (by omega:1≤st.length)
   have z1:(0:Int)≤(st.length:Int) - 1:=by omega
   have z5:(1:Int)≤(st.length:Int):=by omega
   have z2:((st.length:Int) - 1).toNat=st.length - 1:=by omega
   have q1:=Zkb q y.Mask hq (Zhu h)
   have q2:(inR x.Order 0 3 && decide (andI (shrI (Z2 (pV y.Mask q.Atoms)) x.Order) 1=1))=vin q.Atoms y.Mask x.Order:=by
    unfold vin
    rcases tf (inR x.Order 0 3) with e | e
    ·simp [e]
    ·rw [e,Bool.true_and,Bool.true_and,Bool.eq_iff_iff,decide_eq_true_eq]
     exact at_bit _ e
   rw [t1]
   simp only
   by_cases e2:y.Order=x.Order
   ·simp [k1,k2,k0,n1',w1,z1,z2,z5,t2,t3,t4,e2,Z8]
   ·rcases tf (vin q.Atoms y.Mask x.Order) with e | e
    ·simp only [k1,k2,k0,n1',w1,z1,z2,t2,t3,t4,q1,Zpo,q2,e,e2,if_false,if_true,true_and,Option.some.injEq,exists_eq_left',Prod.mk.injEq,AV.t.injEq,T.int.injEq,T.bool.injEq,and_true]
     simp [Z8]
    ·simp only [k1,k2,k0,n1',w1,z1,z2,t2,t3,t4,q1,Zpo,q2,e,e2,if_false,if_true,true_and,Option.some.injEq,exists_eq_left',Prod.mk.injEq,AV.t.injEq,T.int.injEq,T.bool.injEq,and_true]
     simp [Z8,popsI,k1,k2,e2]
 rw [if_neg k2]
 -- a join
 have q0:∀ (b:Zh) (c:Zh) (y:Zh) (f:Bool),x.Kind=4→∀ m1 m2,Zg4 q x ⟨0,0,0,0⟩ b c y (andI (Z2 (pV m1 q.Atoms)) (Z2 (pV m2 q.Atoms))) f =
   if vin q.Atoms m1 x.Order=true∧vin q.Atoms m2 x.Order=true∧b.Order=x.Order∧c.Order=x.Order then some (.tup [.agg [I y.Mask,I x.Order,I y.Left,I y.Right],I 2],[]) else some (Z8 x none):=by
  intro b c y f k4 m1 m2
  have e:(inR x.Order 0 3 && decide (andI (shrI (andI (Z2 (pV m1 q.Atoms)) (Z2 (pV m2 q.Atoms))) x.Order) 1=1))=(vin q.Atoms m1 x.Order && vin q.Atoms m2 x.Order):=by
   unfold vin
   rcases tf (inR x.Order 0 3) with e | e
   ·simp [e]
   ·rw [e,Bool.true_and,Bool.true_and,Bool.true_and,Bool.eq_iff_iff,decide_eq_true_eq,Zw8]
    simpa using at_bit (fun u=>pV m1 q.Atoms u && pV m2 q.Atoms u) e
  split
  ·rename_i hc
   refine Zuu _ _ _ _ _ _ _ _ _ ?_
   simp only [Zpo,e,hc]
   simp [k4]
  ·rename_i hc
   refine Zuu _ _ _ _ _ _ _ _ _ ?_
   simp only [Zpo,e]
   rcases tf (vin q.Atoms m1 x.Order) with e1 | e1 <;> rcases tf (vin q.Atoms m2 x.Order) with e2 | e2 <;> by_cases e3:b.Order=x.Order <;> by_cases e4:c.Order=x.Order <;> simp [k4,e1,e2,e3,e4,Z8]
   exact hc ⟨e1,e2,e3,e4⟩
 have q3:∀ (b:Zh) (c:Zh) (y:Zh) (v:Int) (f:Bool),x.Kind≠4→Zg4 q x ⟨0,0,0,0⟩ b c y v f=some (.tup [.agg (y.c.map .t),I 2],[]):=by
  intro b c y v f k4
  exact Zuu _ _ _ _ _ _ _ _ _ (by simp [k4])
 have q5:∀ (b:Zh) (c:Zh) (y:Zh) (v:Int),x.Kind≠4→Zit q x ⟨0,0,0,0⟩ b c y v=some (.tup [.agg (y.c.map .t),I 2],[]):=by
  intro b c y v k4
  exact Zbgv _ _ _ _ _ _ _ _ (by simp [k4])
 by_cases kk:x.Kind=3∨x.Kind=4∨x.Kind=5
 rotate_left
 ·have k3:¬ x.Kind=3:=fun hc=>kk (.inl hc)
  have k4:¬ x.Kind=4:=fun hc=>kk (.inr (.inl hc))
  have k5:¬ x.Kind=5:=fun hc=>kk (.inr (.inr hc))
  have hj:∀ y z,Zb0 q.Atoms x y z=none:=by intro y z;simp [Zb0,k3,k4,k5]
  refine Eq.trans (b:=some (Z8 x none)) (Zez _ _ _ _ _ (by simp [k1,k2,k3,k4,k5,Z8])) ?_
  simp only [hj,Option.map_none,ite_self]
  split <;> rfl
 have k5':x.Kind≠3→x.Kind≠4→x.Kind=5:=fun a b=>by rcases kk with h | h | h;exact absurd h a;exact absurd h b;exact h
 have red:∀ r,Zis q x ⟨0,0,0,0⟩ info st st.length x.Kind true=some r→(x.Kind=5→Zg3 q x info st=some r)→Zg3 q x info st=some r:=by
  intro r hr h5
  by_cases k5:x.Kind=5
  ·exact h5 k5
  ·refine Zez _ _ _ _ _ ?_
   by_cases k3:x.Kind=3
   ·rw [if_neg k1,if_neg k2,if_pos k3];exact hr
   ·by_cases k4:x.Kind=4
    ·rw [if_neg k1,if_neg k2,if_neg k3,if_pos k4];exact hr
    ·exact absurd (k5' k3 k4) k5
 by_cases n2:st.length<2
 ·have:Zbi st info 2=none:=by unfold Zbi;rw [if_neg (by omega)]
  rw [this]
  have n2':(st.length:Int)<2:=by omega
  refine red _ ?_ ?_
  ·exact Zm7 _ _ _ _ _ _ _ _ _ (by simp [k0,n2',Z8])
  ·intro k5
   exact Zez _ _ _ _ _ (by simp [k5,k0,n2',Z8])
 have n2':¬ (st.length:Int)<2:=by omega
 obtain ⟨s,y,t1,t2,t3,t4⟩:=Zhv hs (by omega:1≤2) (by omega:2≤st.length)
 obtain ⟨t,z,u1,u2,u3,u4⟩:=Zhv hs (by omega:1≤1) (by omega:1≤st.length)
 have z1:(0:Int)≤(st.length:Int) - 1:=by omega
 have z2:((st.length:Int) - 1).toNat=st.length - 1:=by omega
 have z3:(0:Int)≤(st.length:Int) - 2:=by omega
 have z4:((st.length:Int) - 2).toNat=st.length - 2:=by omega
 have b1:=Zkb q y.Mask hq (Zhu h)
 have b2:=Zkb q z.Mask hq (Zhu h)
 have b3:=Zqw q.Atoms y.Mask z.Mask
 rw [t1,u1]
 simp only
 by_cases c1:andI y.Mask z.Mask=0
 rotate_left
 ·rw [if_neg (fun hc=>c1 hc.1)]
  refine red _ ?_ ?_
  ·refine Zm7 _ _ _ _ _ _ _ _ _ ?_
   simp only [k0,n2',w1,w2,z1,z2,z3,z4,t2,t3,t4,u2,u3,u4,b1,b2,c1,if_true,if_false,true_and,Option.some.injEq,exists_eq_left',Prod.mk.injEq,AV.t.injEq,T.int.injEq,and_true]
   simp [Z8]
  ·intro k5
   refine Zez _ _ _ _ _ ?_
   simp only [k5,k0,n2',w1,w2,z1,z2,z3,z4,t2,t3,t4,u2,u3,u4,b1,b2,c1,if_true,if_false,true_and,Option.some.injEq,exists_eq_left',Prod.mk.injEq,AV.t.injEq,T.int.injEq,and_true]
   simp [Z8]
 rcases tf (shr q.Atoms y.Mask z.Mask) with c2 | c2
 ·rw [if_neg (fun hc=>by rw [hc.2] at c2;cases c2)]
  have c3:=b3.2 c2
  refine red _ ?_ ?_
  ·refine Zm7 _ _ _ _ _ _ _ _ _ ?_
   simp only [k0,n2',w1,w2,z1,z2,z3,z4,t2,t3,t4,u2,u3,u4,b1,b2,c1,c3,if_true,if_false,true_and,Option.some.injEq,exists_eq_left',Prod.mk.injEq,AV.t.injEq,T.int.injEq,and_true]
   simp [Z8]
  ·intro k5
   refine Zez _ _ _ _ _ ?_
   simp only [k5,k0,n2',w1,w2,z1,z2,z3,z4,t2,t3,t4,u2,u3,u4,b1,b2,c1,c3,if_true,if_false,true_and,Option.some.injEq,exists_eq_left',Prod.mk.injEq,AV.t.injEq,T.int.injEq,and_true]
   simp [Z8]
 rw [if_pos ⟨c1,c2⟩]
 have c3:¬ andI (Z2 (pV y.Mask q.Atoms)) (Z2 (pV z.Mask q.Atoms))=0:=fun hc=>by rw [b3.1 hc] at c2;cases c2
 have p2:popsI x=2:=by unfold popsI;rw [if_neg k1,if_neg k2]
 refine red _ ?_ ?_
 ·refine Zm7 _ _ _ _ _ _ _ _ _ ?_
  simp only [k0,n2',w1,w2,z1,z2,z3,z4,t2,t3,t4,u2,u3,u4,b1,b2,c1,c3,if_true,if_false,true_and,Option.some.injEq,exists_eq_left',Prod.mk.injEq,AV.t.injEq,T.int.injEq,and_true]
  by_cases k4:x.Kind=4
  ·have k3:¬ x.Kind=3:=by omega
   have k5:¬ x.Kind=5:=by omega
   rw [if_pos k4,q0 _ _ _ _ k4]
   simp only [Zb0,k3,k4,k5,false_and,true_and,if_false]
   split
   ·rename_i hc;simp [Z8,p2]
   ·rfl
  ·by_cases e:x.Order=0
   ·by_cases k5:x.Kind=5
    ·rw [if_neg k4,if_pos e,if_pos k5,q5 _ _ _ _ k4]
     simp [Zb0,k5,e,Z8,p2]
    ·have k3:x.Kind=3:=by omega
     rw [if_neg k4,if_pos e,if_neg k5,q3 _ _ _ _ _ k4]
     simp [Zb0,k3,e,Z8,p2]
   ·rw [if_neg k4,if_neg e]
    simp [Zb0,k4,e,Z8]
 ·intro k5
  refine Zez _ _ _ _ _ ?_
  have k4:x.Kind≠4:=by omega
  simp only [k5,k0,n2',w1,w2,z1,z2,z3,z4,t2,t3,t4,u2,u3,u4,b1,b2,c1,c3,if_true,if_false,true_and,Option.some.injEq,exists_eq_left',Prod.mk.injEq,AV.t.injEq,T.int.injEq,and_true]
  by_cases e:x.Order=0
  ·simp [e,q5 _ _ _ _ k4,Zb0,k5,Z8,p2]
  ·simp [e,Zb0,k5,Z8]
theorem Zbiu (q:Zb) (hq:LeQ q) (h:Zo q.Zf q.Atoms=true) (p:Plan) (hl:p.Steps.length≤14):∀ i,i≤p.Steps.length→∀ info st,StOk info st→info.length=i→st.length≤i →
  Ziv q p info st i=some (match Zbj q.Atoms (p.Steps.drop i) i info st with
   | some (info',st')=>if st'.length=1 then (.tup [.own 0,Bo true],[.arr Zhy 4 true (info'.map Zh.c)]) else (.tup [.own 0,Bo false],[.arr Zhy 4 true []])
   | none=>(.tup [.own 0,Bo false],[.arr Zhy 4 true []])):=by
 refine down _ ?_ ?_
 ·intro info st _ _ _
  rw [List.drop_length,Zbj]
  refine Z3z _ _ _ _ _ _ ?_
  by_cases c:st.length=1
  ·simp [c]
  ·have c':¬ (st.length:Int)=1:=by omega
   simp [c,c']
 ·intro i hi ih info st hs hil hst
  have h5:=inc64 (i:=i) (by omega)
  have s1:=Zbit q hq h p.Steps[i] info st hs (by omega) (by omega)
  rw [Zxe q.Atoms hi]
  refine Z3z _ _ _ _ _ _ ?_
  cases he:Zcb q.Atoms p.Steps[i] info st with
  | none =>
   rw [he,Z8] at s1
   have e0:Zg3 q p.Steps[i] info st=some (.tup [.agg ((⟨0,0,0,0⟩:Zh).c.map .t),I (-1)],[]):=s1
   rw [if_pos (by omega)]
   refine ⟨by omega,_,List.getElem?_eq_getElem hi,_,_,e0,?_⟩
   simp
  | some y =>
   rw [he,Z8] at s1
   obtain ⟨f1,f2,f3⟩:=Zqx hs he
   rw [f1] at s1
   have hn:=Zkv hs y (st.length - pops y)
   rw [hil] at hn
   have ih:=ih (info++[y]) (st.take (st.length - pops y)++[(i:Int)]) hn (by simp [hil]) (st_len hst _)
   have w2:w ((st.length:Int) - (pops y:Int))=(st.length:Int) - (pops y:Int):=wrap64 (by omega) (by omega)
   have z2:((st.length:Int) - (pops y:Int)).toNat=st.length - pops y:=by omega
   rw [if_pos (by omega)]
   refine ⟨by omega,_,List.getElem?_eq_getElem hi,_,_,s1,?_⟩
   rw [if_neg (by omega),w2,z2]
   refine ⟨by omega,by omega,by omega,by omega,by omega,?_⟩
   rw [show w ((i:Int)+1)=(i:Int)+1 from h5]
   simpa using ih
@[simp] theorem Z4w (q:Zb) (p:Plan) (hq:LeQ q):Ziu q p=some (match Zbk q.Zf q.Atoms p.Steps with
  | some info=>(.tup [.own 0,Bo true],[.arr Zhy 4 true (info.map Zh.c)])
  | none=>(.tup [.own 0,Bo false],[.arr Zhy 4 true []])):=by
 refine Zbgw _ _ _ ?_
 have q1:=Zpl q hq
 unfold Zbk
 rcases tf (Zo q.Zf q.Atoms) with e | e
 ·simp [q1,e]
 rcases tf (inR p.Steps.length 1 14) with e2 | e2
 ·simp [q1,e,e2]
 ·have e3:=e2
  simp [inR] at e3
  have b:=Zbiu q hq e p (by omega) 0 (Nat.zero_le _) [] [] (fun s hs=>by cases hs) rfl (Nat.le_refl _)
  simp only [List.drop_zero] at b
  simp only [q1,e,e2,Zck,Option.some.injEq,Prod.mk.injEq,AV.t.injEq,T.bool.injEq,and_true,exists_eq_left',if_true,and_self]
  refine Eq.trans b ?_
  cases Zbj q.Atoms p.Steps 0 [] [] with
  | none=>rfl
  | some r=>obtain ⟨a,b⟩:=r;simp only;split <;> rfl
theorem Zbiv (q:Zb) (hq:LeQ q) (h:Zo q.Zf q.Atoms=true) (steps:List Zc) (hl:steps.length≤14):∀ i,i≤steps.length→∀ info st,StOk info st→info.length=i→st.length≤i →
  Zfa q info st steps steps.length i=some (match Zbj q.Atoms (steps.drop i) i info st with
   | some (info',st')=>if st'.length=1 then (.tup [.own 0,Bo true],[.arr Zhy 4 true (info'.map Zh.c)]) else (.tup [.t .nil,Bo false],[])
   | none=>(.tup [.t .nil,Bo false],[])):=by
 refine down _ ?_ ?_
 ·intro info st _ _ _
  rw [List.drop_length,Zbj]
  refine Z2l _ _ _ _ _ _ _ ?_
  by_cases c:st.length=1
  ·simp [c]
  ·have c':¬ (st.length:Int)=1:=by omega
   simp [c,c']
 ·intro i hi ih info st hs hil hst
  have h5:=inc64 (i:=i) (by omega)
  have s1:=Zbis q hq h steps[i] info st hs (by omega) (by omega)
  rw [Zxe q.Atoms hi]
  refine Z2l _ _ _ _ _ _ _ ?_
  cases he:Zcb q.Atoms steps[i] info st with
  | none =>
   rw [he] at s1
   obtain ⟨y,s1⟩:=s1
   rw [if_pos (by omega)]
   refine ⟨by omega,_,List.getElem?_eq_getElem hi,_,_,s1,?_⟩
   simp
  | some y =>
   rw [he] at s1
   obtain ⟨f1,f2,f3⟩:=Zqx hs he
   have hn:=Zkv hs y (st.length - pops y)
   rw [hil] at hn
   have ih:=ih (info++[y]) (st.take (st.length - pops y)++[(i:Int)]) hn (by simp [hil]) (st_len hst _)
   rw [if_pos (by omega)]
   refine ⟨by omega,_,List.getElem?_eq_getElem hi,_,_,s1,?_⟩
   rw [if_pos rfl]
   refine ⟨by omega,?_⟩
   simp only
   unfold pops at ih f2 ⊢
   rw [show w ((i:Int)+1)=(i:Int)+1 from h5]
   by_cases r:0≤y.Right
   ·simp only [if_pos r] at ih f2 ⊢
    have w2:w ((st.length:Int) - 2)=(st.length:Int) - 2:=wrap64 (by omega) (by omega)
    have z2:((st.length:Int) - 2).toNat=st.length - 2:=by omega
    rw [w2,z2]
    refine ⟨by omega,by omega,by omega,by simpa using ih⟩
   ·simp only [if_neg r] at ih f2 ⊢
    by_cases l:0≤y.Left
    ·simp only [if_pos l] at ih f2 ⊢
     have w2:w ((st.length:Int) - 1)=(st.length:Int) - 1:=wrap64 (by omega) (by omega)
     have z2:((st.length:Int) - 1).toNat=st.length - 1:=by omega
     rw [w2,z2]
     refine ⟨by omega,by omega,by omega,by simpa using ih⟩
    ·simp only [if_neg l] at ih f2 ⊢
     exact ⟨by omega,by simpa using ih⟩
@[simp] theorem Z4x (q:Zb) (p:Plan) (hq:LeQ q):Ze9 q p=some (match Zbk q.Zf q.Atoms p.Steps with
  | some info=>(.tup [.own 0,Bo true],[.arr Zhy 4 true (info.map Zh.c)])
  | none=>(.tup [.t .nil,Bo false],[])):=by
 refine Zbe0 _ _ _ ?_
 have q1:=Zm9 q hq
 unfold Zbk
 rcases tf (Zo q.Zf q.Atoms) with e | e
 ·simp [q1,e]
 rcases tf (inR p.Steps.length 1 14) with e2 | e2
 ·simp [q1,e,e2]
 ·have e3:=e2
  simp [inR] at e3
  have b:=Zbiv q hq e p.Steps (by omega) 0 (Nat.zero_le _) [] [] (fun s hs=>by cases hs) rfl (Nat.le_refl _)
  simp only [List.drop_zero] at b
  simp only [q1,e,e2,Zcd,Option.some.injEq,Prod.mk.injEq,AV.t.injEq,T.bool.injEq,and_true,exists_eq_left',if_true,and_self]
  refine Eq.trans b ?_
  cases Zbj q.Atoms p.Steps 0 [] [] with
  | none=>rfl
  | some r=>obtain ⟨a,b⟩:=r;simp only;split <;> rfl
@[simp] theorem Zbiw (q:Zb) (p:Plan) (hq:LeQ q):Zk3 q p=some (I (Zf7 q.Zf q.Atoms p.Steps),[]):=by
 refine Zbe1 _ _ _ ?_
 have q1:=Z4x q p hq
 unfold Zf7
 cases he:Zbk q.Zf q.Atoms p.Steps with
 | none=>rw [he] at q1;exact .inl ⟨q1,rfl⟩
 | some info =>
  obtain ⟨l1,l2,l3,l4⟩:=Zhw he
  rw [he] at q1
  have hlt:info.length - 1<info.length:=by omega
  have w1:w ((info.length:Int) - 1)=(info.length:Int) - 1:=wrap64 (by omega) (by omega)
  have z2:((info.length:Int) - 1).toNat=info.length - 1:=by omega
  refine .inr ⟨info,q1,?_⟩
  rw [w1,z2]
  refine ⟨by omega,_,List.getElem?_eq_getElem hlt,?_⟩
  simp [List.getElem?_eq_getElem hlt]
@[simp] theorem Zbix (q:Zb) (p:Plan) (hq:LeQ q):Zlz q p=some (I (Zf7 q.Zf q.Atoms p.Steps),[]):=by
 refine Zbgx _ _ _ ?_
 have q1:=Z4w q p hq
 unfold Zf7
 cases he:Zbk q.Zf q.Atoms p.Steps with
 | none=>rw [he] at q1;exact ⟨[],false,q1,by simp⟩
 | some info =>
  obtain ⟨l1,l2,l3,l4⟩:=Zhw he
  rw [he] at q1
  have hlt:info.length - 1<info.length:=by omega
  have w1:w ((info.length:Int) - 1)=(info.length:Int) - 1:=wrap64 (by omega) (by omega)
  have z2:((info.length:Int) - 1).toNat=info.length - 1:=by omega
  refine ⟨info,true,q1,?_⟩
  rw [if_pos rfl,w1,z2]
  refine ⟨by omega,_,List.getElem?_eq_getElem hlt,?_⟩
  simp [List.getElem?_eq_getElem hlt]
def Zdt:Int→List Zg→Bool
 | _,[]=>true
 | p,s::r=>inR s.From 1 8192 && inR s.Add (-99) 99 && decide (p<s.From) && Zdt s.From r
def Zcl (l:List Zg):Nat→Int
 | 0=>0
 | i+1=>match l[i]? with | some s=>s.From | none=>0
def Zcm (n:Int):Bool:=inR n (-99) 99
def Zbd (o:Zi):Bool:=Zcm o.Fixed && Zcm o.Zj && Zcm o.Zk && Zcm o.Zm && Zcm o.Zl && decide (o.Steps.length≤4) && Zdt 0 o.Steps
theorem Z4y (p:Int) {l:List Zg} {i:Nat} (h:i<l.length):Zdt p (l.drop i)=(inR l[i].From 1 8192 && inR l[i].Add (-99) 99 && decide (p<l[i].From) && Zdt l[i].From (l.drop (i+1))):=by
 rw [List.drop_eq_getElem_cons h,Zdt]
@[simp] theorem Zbiy (n:Int):Zd8 n=some (Bo (Zcm n),[]):=by
 refine Zbf8 _ _ ?_
 simp [Zcm]
theorem Zbiz (o:Zi) (hl:Le o.Steps):∀ i,i≤o.Steps.length→Zfo o i=some (Bo (Zdt (Zcl o.Steps i) (o.Steps.drop i)),[]):=by
 refine down _ ?_ ?_
 ·refine Z3i _ _ _ ?_
  simp [Zdt]
 ·intro i hi ih
  refine Z3i _ _ _ ?_
  have h4:=inc64 (i:=i) (by omega)
  rw [Z4y _ hi]
  have pn:Zcl o.Steps (i+1)=o.Steps[i].From:=by simp [Zcl,List.getElem?_eq_getElem hi]
  rw [pn] at ih
  simp only [Int.natCast_add,Int.cast_ofNat_Int] at ih
  rw [if_pos (by omega)]
  refine ⟨by omega,o.Steps[i],by rw [Int.toNat_natCast];exact List.getElem?_eq_getElem hi,_,Zck _ _ _,?_⟩
  rcases tf (inR o.Steps[i].From 1 8192) with e1 | e1
  ·rw [e1];simp
  rw [e1,if_pos rfl]
  refine ⟨_,Zbiy _,?_⟩
  unfold Zcm
  rcases tf (inR o.Steps[i].Add (-99) 99) with e2 | e2
  ·rw [e2];simp
  rw [e2,if_pos rfl,show w ((i:Int)+1)=(i:Int)+1 from h4]
  cases i with
  | zero =>
   rw [if_neg (by omega),ih]
   have:Zcl o.Steps 0<o.Steps[0].From:=by simp [inR] at e1;simp [Zcl];omega
   simp [this]
  | succ j =>
   have hj:j<o.Steps.length:=by omega
   have w2:w (((j+1:Nat):Int) - 1)=j:=by rw [show ((j+1:Nat):Int) - 1=j by omega];exact wrap64 (by omega) (by omega)
   have pj:Zcl o.Steps (j+1)=o.Steps[j].From:=by simp [Zcl,List.getElem?_eq_getElem hj]
   rw [if_pos (by omega),w2,pj]
   refine ⟨by omega,o.Steps[j],by rw [Int.toNat_natCast];exact List.getElem?_eq_getElem hj,?_⟩
   by_cases e3:o.Steps[j+1].From≤o.Steps[j].From
   ·rw [if_pos e3,decide_eq_false (by omega)];simp
   ·rw [if_neg e3,decide_eq_true (by omega),ih];simp
@[simp] theorem Znd (o:Zi) (hl:Le o.Steps):Zeu o=some (Bo (Zbd o),[]):=by
 refine Zbf9 _ _ ?_
 have b:=Zbiz o hl 0 (Nat.zero_le _)
 simp only [Zcl,List.drop_zero,Int.ofNat_zero] at b
 have b:Zfo o 0=_:=b
 unfold Zbd
 rcases tf (Zcm o.Fixed) with e1 | e1
 ·simp [e1]
 rcases tf (Zcm o.Zj) with e2 | e2
 ·simp [e1,e2]
 rcases tf (Zcm o.Zk) with e3 | e3
 ·simp [e1,e2,e3]
 rcases tf (Zcm o.Zm) with e4 | e4
 ·simp [e1,e2,e3,e4]
 rcases tf (Zcm o.Zl) with e5 | e5
 ·simp [e1,e2,e3,e4,e5]
 by_cases e6:o.Steps.length≤4
 ·have e7:¬ (4:Int)<o.Steps.length:=by omega
  simp [e1,e2,e3,e4,e5,e6,e7,b]
 ·have e7:(4:Int)<o.Steps.length:=by omega
  simp [e1,e2,e3,e4,e5,e6,e7]
theorem Zbi0 (o:Zi) (hl:Le o.Steps):∀ i,i≤o.Steps.length→Zfc o o.Steps o.Steps.length i=some (Bo (Zdt (Zcl o.Steps i) (o.Steps.drop i) && decide (o.Steps.length≤4)),[]):=by
 refine down _ ?_ ?_
 ·refine Z2q _ _ _ _ _ ?_
  rw [if_neg (by omega)]
  by_cases e:o.Steps.length≤4
  ·simp [Zdt,e];omega
  ·simp [Zdt,e];omega
 ·intro i hi ih
  refine Z2q _ _ _ _ _ ?_
  have h4:=inc64 (i:=i) (by omega)
  rw [Z4y _ hi]
  have pn:Zcl o.Steps (i+1)=o.Steps[i].From:=by simp [Zcl,List.getElem?_eq_getElem hi]
  rw [pn] at ih
  simp only [Int.natCast_add,Int.cast_ofNat_Int] at ih
  rw [if_pos (by omega)]
  refine ⟨by omega,o.Steps[i],by rw [Int.toNat_natCast];exact List.getElem?_eq_getElem hi,_,Zcd _ _ _,?_⟩
  rcases tf (inR o.Steps[i].Add (-99) 99) with e2 | e2
  ·rw [e2];simp
  rw [e2,if_pos rfl]
  refine ⟨_,Zcd _ _ _,?_⟩
  rcases tf (inR o.Steps[i].From 1 8192) with e1 | e1
  ·rw [e1];simp
  rw [e1,if_pos rfl,show w ((i:Int)+1)=(i:Int)+1 from h4]
  cases i with
  | zero =>
   rw [if_neg (by omega),ih]
   have:Zcl o.Steps 0<o.Steps[0].From:=by simp [inR] at e1;simp [Zcl];omega
   simp [this]
  | succ j =>
   have hj:j<o.Steps.length:=by omega
   have w2:w (((j+1:Nat):Int) - 1)=j:=by rw [show ((j+1:Nat):Int) - 1=j by omega];exact wrap64 (by omega) (by omega)
   have pj:Zcl o.Steps (j+1)=o.Steps[j].From:=by simp [Zcl,List.getElem?_eq_getElem hj]
   rw [if_pos (by omega),w2,pj]
   refine ⟨by omega,o.Steps[j],by rw [Int.toNat_natCast];exact List.getElem?_eq_getElem hj,?_⟩
   by_cases e3:o.Steps[j+1].From≤o.Steps[j].From
   ·rw [if_pos e3,decide_eq_false (by omega)];simp
   ·rw [if_neg e3,decide_eq_true (by omega),ih];simp
@[simp] theorem Zcn (o:Zi) (hl:Le o.Steps):Zbq o=some (Bo (Zbd o),[]):=by
 refine Zbe7 _ _ ?_
 have hc:Zk6 o=some (.bsl 1 5,[.box (o.c.map .t),.box [.ptr 0 0,.ptr 0 1,.ptr 0 2,.ptr 0 3,.ptr 0 4]]):=Zbe6 _ _ rfl
 refine ⟨hc,?_⟩
 have b:=Zbi0 o hl 0 (Nat.zero_le _)
 simp only [Zcl,List.drop_zero] at b
 have b:Zfc o o.Steps o.Steps.length 0=_:=b
 have w1:w (0+1)=1:=by decide
 have w2:w (1+1)=2:=by decide
 have w3:w (2+1)=3:=by decide
 have w4:w (3+1)=4:=by decide
 have w5:w (4+1)=5:=by decide
 unfold Zbd Zcm
 refine Zj9 _ _ _ _ ?_
 rw [if_pos (by omega),if_pos rfl]
 refine ⟨_,Zcd _ _ _,?_⟩
 rcases tf (inR o.Fixed (-99) 99) with e1 | e1
 ·rw [e1];simp
 rw [e1,if_pos rfl,w1]
 refine Zj9 _ _ _ _ ?_
 rw [if_pos (by omega),if_neg (by omega),if_pos rfl]
 refine ⟨_,Zcd _ _ _,?_⟩
 rcases tf (inR o.Zj (-99) 99) with e2 | e2
 ·rw [e2];simp
 rw [e2,if_pos rfl,w2]
 refine Zj9 _ _ _ _ ?_
 rw [if_pos (by omega),if_neg (by omega),if_neg (by omega),if_pos rfl]
 refine ⟨_,Zcd _ _ _,?_⟩
 rcases tf (inR o.Zk (-99) 99) with e3 | e3
 ·rw [e3];simp
 rw [e3,if_pos rfl,w3]
 refine Zj9 _ _ _ _ ?_
 rw [if_pos (by omega),if_neg (by omega),if_neg (by omega),if_neg (by omega),if_pos rfl]
 refine ⟨_,Zcd _ _ _,?_⟩
 rcases tf (inR o.Zm (-99) 99) with e4 | e4
 ·rw [e4];simp
 rw [e4,if_pos rfl,w4]
 refine Zj9 _ _ _ _ ?_
 rw [if_pos (by omega),if_neg (by omega),if_neg (by omega),if_neg (by omega),if_neg (by omega),if_pos rfl]
 refine ⟨_,Zcd _ _ _,?_⟩
 rcases tf (inR o.Zl (-99) 99) with e5 | e5
 ·rw [e5];simp
 rw [e5,if_pos rfl,w5]
 refine Zj9 _ _ _ _ ?_
 rw [if_neg (by omega),b]
 simp [Bool.and_comm]
def Zf2 (o:Zi) (l r n:Int):Int:=w (w (w (w (o.Fixed+w (o.Zj*l))+w (o.Zk*r))+w (o.Zm*n))+w (w (o.Zl*l)*r))
def Zdu (l r:Int) (n:Int) (s:Zg):Int:=if s.From≤w (l+r) then w (n+s.Add) else n
def Zkc (o:Zi) (l r n:Int):Int:=o.Steps.foldl (Zdu l r) (Zf2 o l r n)
def Z9 (o:Zi) (l r n:Int):Int:=if (Zbd o && inR l 0 4096 && inR r 0 4096 && inR n 0 4096)=true then Zkc o l r n else 0
theorem Zbi1 (l r:Int) (st:List Zg) (hl:Le st):∀ i,i≤st.length→∀ n,Zgg l r n st st.length i=some (I ((st.drop i).foldl (Zdu l r) n),[]):=by
 refine down _ ?_ ?_
 ·intro n
  refine Z2u _ _ _ _ _ _ _ ?_
  simp
 ·intro i hi ih n
  refine Z2u _ _ _ _ _ _ _ ?_
  have h4:=inc64 (i:=i) (by omega)
  rw [List.drop_eq_getElem_cons hi,List.foldl_cons]
  simp only [Int.natCast_add,Int.cast_ofNat_Int] at ih
  by_cases e:st[i].From≤w (l+r)
  ·simp [hi,h4,e,ih,Zdu]
  ·simp [hi,h4,e,ih,Zdu]
@[simp] theorem Zbpo (o:Zi) (hl:Le o.Steps) (l r n:Int):Zh8 o l r n=some (I (Zkc o l r n),[]):=by
 refine Zbfb _ _ _ _ _ ?_
 have b:=Zbi1 l r o.Steps hl 0 (Nat.zero_le _) (Zf2 o l r n)
 simpa [Zkc,Zf2] using b
@[simp] theorem Ze0 (o:Zi) (hl:Le o.Steps) (l r n:Int):Zbm o l r n=some (I (Z9 o l r n),[]):=by
 refine Zbfi _ _ _ _ _ ?_
 unfold Z9
 rcases tf (Zbd o) with e1 | e1 <;> rcases tf (inR l 0 4096) with e2 | e2 <;> rcases tf (inR r 0 4096) with e3 | e3 <;> rcases tf (inR n 0 4096) with e4 | e4 <;> simp [hl,e1,e2,e3,e4]
theorem Zbi2 (o:Zi) (l r:Int) (hl:Le o.Steps):∀ i,i≤o.Steps.length→∀ n,Zfq o l r n i=some (I ((o.Steps.drop i).foldl (Zdu l r) n),[]):=by
 refine down _ ?_ ?_
 ·intro n
  refine Z3j _ _ _ _ _ _ ?_
  simp
 ·intro i hi ih n
  refine Z3j _ _ _ _ _ _ ?_
  have h4:=inc64 (i:=i) (by omega)
  rw [List.drop_eq_getElem_cons hi,List.foldl_cons]
  simp only [Int.natCast_add,Int.cast_ofNat_Int] at ih
  by_cases e:o.Steps[i].From≤w (l+r)
  ·simp [hi,h4,e,ih,Zdu]
  ·simp [hi,h4,e,ih,Zdu]
@[simp] theorem Zeh (o:Zi) (hl:Le o.Steps) (l r n:Int):Zbw o l r n=some (I (Z9 o l r n),[]):=by
 refine Zbgc _ _ _ _ _ ?_
 have b:=Zbi2 o l r hl 0 (Nat.zero_le _) (Zf2 o l r n)
 simp only [List.drop_zero,Zf2] at b
 have b:Zfq o l r _ 0=_:=b
 unfold Z9
 rcases tf (Zbd o) with e1 | e1 <;> rcases tf (inR l 0 4096) with e2 | e2 <;> rcases tf (inR r 0 4096) with e3 | e3 <;> rcases tf (inR n 0 4096) with e4 | e4 <;> simp [hl,e1,e2,e3,e4,b,Zkc,Zf2]
end Go.Proofs.YtbapkgocloaaeaaGreat
