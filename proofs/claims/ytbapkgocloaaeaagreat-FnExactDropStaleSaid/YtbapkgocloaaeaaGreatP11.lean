/-
  Parts of the proofs for this seat: G12 G13 G14 G15 G16 G17 V1 V2 V3 V4 V5 V6 OP.
-/
import Derived.Test.YtbapkgocloaaeaaGreatP7
import Derived.Test.YtbapkgocloaaeaaGreatP9
import Derived.Test.YtbapkgocloaaeaaGreatP10
set_option linter.unusedSimpArgs false
set_option linter.unusedVariables false
set_option maxRecDepth 100000
set_option maxHeartbeats 4000000
namespace Go.Proofs.YtbapkgocloaaeaaGreat
open Go.AM
theorem Z3p (sizes:List Int) (fr:Bool) (l:List Za) (m:Zd) (x:Zv) (mine:List Za) (k:Int) (r:AV×List Blk) (h:(if k<(x.Zr.length:Int) then (0≤k∧(∃ (e1:Int),x.Zr[k.toNat]?=some e1∧(∃ (v2_0:Int),Zep l e1=some (I v2_0,[])∧(0≤v2_0∧(∃ (e3:Za),l[v2_0.toNat]?=some e3∧(∃ (v4_0:Int),Zep l (w (x.mask - e1))=some (I v4_0,[])∧(0≤v4_0∧(∃ (e5:Za),l[v4_0.toNat]?=some e5∧(∃ (v6_0:List Int) (v6_1:List Za),Zfp sizes mine m e3 e5 3 0 (-1)=some (.tup [],[.arr 3 1 true (v6_0.map ic),.arr 174 4 true (v6_1.map Za.c)])∧(Zg4 v6_0 fr l m x v6_1 e5 k e1 (w (x.mask - e1)) (-1)=some r)))))))))) else (Zfq mine true ([]:List Za) sizes fr l 0=some r))):Zg3 sizes fr l m x mine k=some r:=by
 unfold Zg3
 rw [EvL_eq Zmb.eq_1]
 simp only [Zep,Zfp,Zd.c_def,Zi.c_def,Plan.c_def,Za.c_def,mpl,dfs] at h
 try simp only [itb] at h
 try simp only [itf,gS,kk] at h
 rcases h with ⟨q1,q2,e1,⟨g3,q3⟩,v2_0,q4,q5,e3,⟨g6,q6⟩,v4_0,q7,q8,e5,⟨g9,q9⟩,v6_0,v6_1,q10,h⟩ | ⟨q1,h⟩
 all_goals (refine Eq.trans ?_ h;clear h;simp +decide [*,kk,Zg4,Zfq,Zmc])
theorem Z3q (sizes:List Int) (fr:Bool) (l:List Za) (m:Zd) (x:Zv) (mine:List Za) (b:Za) (k:Int) (left:Int) (right:Int) (o:Int) (r:AV×List Blk) (h:(if o<4 then (∃ (v1_0:Int),Zip l left o=some (I v1_0,[])∧(if 0≤v1_0 then (∃ (e2:Za),l[v1_0.toNat]?=some e2∧(∃ (v3_0:List Int) (v3_1:List Za),Zfp sizes mine m e2 b 5 0 o=some (.tup [],[.arr 3 1 true (v3_0.map ic),.arr 174 4 true (v3_1.map Za.c)])∧(Zg4 v3_0 fr l m x v3_1 b k left right (w (o+1))=some r))) else (Zg4 sizes fr l m x mine b k left right (w (o+1))=some r))) else (Zd6 sizes fr l m x mine k left right 0=some r))):Zg4 sizes fr l m x mine b k left right o=some r:=by
 unfold Zg4
 rw [EvL_eq Ztp.eq_1]
 simp only [Zip,Zfp,Zd.c_def,Zi.c_def,Plan.c_def,Za.c_def,mpl,dfs] at h
 try simp only [itb] at h
 try simp only [itf,gS,kk] at h
 rcases h with ⟨q1,v1_0,q2,(⟨q3,e2,⟨g4,q4⟩,v3_0,v3_1,q5,h⟩ | ⟨q3,h⟩)⟩ | ⟨q1,h⟩
 all_goals (refine Eq.trans ?_ h;clear h;simp +decide [*,kk,Zg4,Z0s,Zd6,Ztr])
theorem Zup (mine:List Za) (fr:Bool) (out:List Za) (x:List Int) (fr1:Bool) (x1:List Za) (o:Int) (r:AV×List Blk) (h:(if o≤4 then (0≤o∧(∃ (e1:Za),mine[o.toNat]?=some e1∧(if 0<e1.Mask then (out.length+1≤68719476736∧(Zfq mine false (out++[e1]) x fr1 x1 (w (o+1))=some r)) else (Zfq mine fr out x fr1 x1 (w (o+1))=some r)))) else (some (.own 2,[.arr 3 1 true (x.map ic),.arr 174 4 fr1 (x1.map Za.c),.arr 174 4 fr (out.map Za.c)])=some r))):Zfq mine fr out x fr1 x1 o=some r:=by
 unfold Zfq
 rw [EvL_eq Zts.eq_1]
 try simp only [itb] at h
 try simp only [itf,gS,kk] at h
 rcases h with ⟨q1,q2,e1,⟨g3,q3⟩,(⟨q4,q5,h⟩ | ⟨q4,h⟩)⟩ | ⟨q1,h⟩
 all_goals (refine Eq.trans ?_ h;clear h;simp +decide [*,kk,Zfq,Z0t,Ztt])
theorem Z3r (sizes:List Int) (fr:Bool) (l:List Za) (m:Zd) (x:Zv) (mine:List Za) (k:Int) (left:Int) (right:Int) (e:Int) (r:AV×List Blk) (h:(0≤k∧(∃ (e1:List Int),x.shared[k.toNat]?=some e1∧(if e<(e1.length:Int) then (0≤e∧(∃ (e2:Int),e1[e.toNat]?=some e2∧((∃ (v3_0:Za),Zd5 sizes fr l m left e2=some (.agg (v3_0.c.map .t),[.arr 3 1 true (sizes.map ic),.arr 174 4 fr (l.map Za.c)])∧((∃ (v4_0:Za),Zd5 sizes fr l m right e2=some (.agg (v4_0.c.map .t),[.arr 3 1 true (sizes.map ic),.arr 174 4 fr (l.map Za.c)])∧(∃ (v5_0:List Int) (v5_1:List Za),Zfp sizes mine m v3_0 v4_0 4 e2 e2=some (.tup [],[.arr 3 1 true (v5_0.map ic),.arr 174 4 true (v5_1.map Za.c)])∧(Zd6 v5_0 fr l m x v5_1 k left right (w (e+1))=some r)))∨(∃ (v6_0:List Zb) (v6_1:Int) (v6_2:Int) (v6_3:Int),Zd5 sizes fr l m right e2=some (.agg [I v6_1,I v6_2,I v6_3,.own 2],[.arr 3 1 true (sizes.map ic),.arr 174 4 fr (l.map Za.c),.arr 142 3 true (v6_0.map Zb.c)])∧(∃ (v7_0:List Int) (v7_1:List Za) (v7_2:List Zb),Zl8 sizes mine v6_0 m v3_0 v6_1 v6_2 v6_3 4 e2 e2=some (.tup [],[.arr 3 1 true (v7_0.map ic),.arr 174 4 true (v7_1.map Za.c),.arr 142 3 true (v7_2.map Zb.c)])∧(Zd6 v7_0 fr l m x v7_1 k left right (w (e+1))=some r)))))∨(∃ (v8_0:List Zb) (v8_1:Int) (v8_2:Int) (v8_3:Int),Zd5 sizes fr l m left e2=some (.agg [I v8_1,I v8_2,I v8_3,.own 2],[.arr 3 1 true (sizes.map ic),.arr 174 4 fr (l.map Za.c),.arr 142 3 true (v8_0.map Zb.c)])∧((∃ (v9_0:Za),Zd5 sizes fr l m right e2=some (.agg (v9_0.c.map .t),[.arr 3 1 true (sizes.map ic),.arr 174 4 fr (l.map Za.c)])∧(∃ (v10_0:List Int) (v10_1:List Za) (v10_2:List Zb),Zl9 sizes mine v8_0 m v8_1 v8_2 v8_3 v9_0 4 e2 e2=some (.tup [],[.arr 3 1 true (v10_0.map ic),.arr 174 4 true (v10_1.map Za.c),.arr 142 3 true (v10_2.map Zb.c)])∧(Zd6 v10_0 fr l m x v10_1 k left right (w (e+1))=some r)))∨(∃ (v11_0:List Zb) (v11_1:Int) (v11_2:Int) (v11_3:Int),Zd5 sizes fr l m right e2=some (.agg [I v11_1,I v11_2,I v11_3,.own 2],[.arr 3 1 true (sizes.map ic),.arr 174 4 fr (l.map Za.c),.arr 142 3 true (v11_0.map Zb.c)])∧(∃ (v12_0:List Int) (v12_1:List Za) (v12_2:List Zb) (v12_3:List Zb),Zma sizes mine v8_0 v11_0 m v8_1 v8_2 v8_3 v11_1 v11_2 v11_3 4 e2 e2=some (.tup [],[.arr 3 1 true (v12_0.map ic),.arr 174 4 true (v12_1.map Za.c),.arr 142 3 true (v12_2.map Zb.c),.arr 142 3 true (v12_3.map Zb.c)])∧(Zd6 v12_0 fr l m x v12_1 k left right (w (e+1))=some r)))))))) else (Zg3 sizes fr l m x mine (w (k+1))=some r))))):Zd6 sizes fr l m x mine k left right e=some r:=by
 unfold Zd6
 rw [EvL_eq Ztq.eq_1]
 simp only [Zd5,Zfp,Zl8,Zl9,Zma,Zd.c_def,Zi.c_def,Plan.c_def,Za.c_def,Zb.c_def,mpl,dfs] at h
 try simp only [itb] at h
 try simp only [itf,gS,kk] at h
 rcases h with ⟨q1,e1,⟨g2,q2⟩,(⟨q3,q4,e2,⟨g5,q5⟩,(⟨v3_0,q7,(⟨v4_0,q9,v5_0,v5_1,q10,h⟩ | ⟨v6_0,v6_1,v6_2,v6_3,q11,v7_0,v7_1,v7_2,q12,h⟩)⟩ | ⟨v8_0,v8_1,v8_2,v8_3,q13,(⟨v9_0,q15,v10_0,v10_1,v10_2,q16,h⟩ | ⟨v11_0,v11_1,v11_2,v11_3,q17,v12_0,v12_1,v12_2,v12_3,q18,h⟩)⟩)⟩ | ⟨q3,h⟩)⟩
 all_goals (refine Eq.trans ?_ h;clear h;simp +decide [*,kk,Zd6,Zg3,Zos])
theorem Zbgi (x:List Int) (fr:Bool) (x1:List Za) (a:Zd) (a1:Zv) (r:AV×List Blk) (h:(Zg3 x fr x1 a a1 (List.replicate 5 (⟨0,0,0,(⟨[]⟩:Plan)⟩:Za)) 0=some r)):Zmd x fr x1 a a1=some r:=by
 unfold Zmd
 refine runM Zbct rfl ?_
 refine Eq.trans ?_ h;clear h;simp +decide [*,kk,Z0u,Zg3]
theorem Zuq (shapes:List Zv) (sizes:List Int) (m:Zd) (q:Zc) (fr:Bool) (out:List Za) (i:Int) (r:AV×List Blk) (h:(if i<(shapes.length:Int) then (0≤i∧(∃ (e1:Zv),shapes[i.toNat]?=some e1∧(if (andI e1.mask (w (e1.mask - 1)))=0 then (∃ (v2_0:List Int),Zl5 e1.mask=some (.own 0,[.arr 3 1 true (v2_0.map ic)])∧(∃ (e3:Int),v2_0[0]?=some e3∧(0≤e3∧(∃ (e4:Atom),q.Atoms[e3.toNat]?=some e4∧(∃ (e5:Int),e4.Vars[0]?=some e5∧(0≤e1.mask∧(∃ (e6:Int),sizes[e1.mask.toNat]?=some e6∧(∃ (v7_0:Int),Zbv m.Scan e6 0 e6=some (I v7_0,[])∧(∃ (v8_0:List Zb),Zl6 e3=some (.agg [.own 0],[.arr 142 3 true (v8_0.map Zb.c)])∧(out.length+1≤68719476736∧(Zg5 shapes sizes m q fr (out++[(⟨e1.mask,e5,v7_0,(⟨v8_0⟩:Plan)⟩:Za)]) (w (i+1))=some r))))))))))) else (∃ (v9_0:Bool) (v9_1:List Za),Zmd sizes fr out m e1=some (.own 2,[.arr 3 1 true (sizes.map ic),.arr 174 4 fr (out.map Za.c),.arr 174 4 v9_0 (v9_1.map Za.c)])∧(out.length+v9_1.length≤68719476736∧(Zg5 shapes sizes m q (fr && flat (v9_1.map Za.c)) (out++v9_1) (w (i+1))=some r)))))) else (some (.own 2,[.arr 242 3 true (shapes.map Zv.c),.arr 3 1 true (sizes.map ic),.arr 174 4 fr (out.map Za.c)])=some r))):Zg5 shapes sizes m q fr out i=some r:=by
 unfold Zg5
 rw [EvL_eq Ztu.eq_1]
 simp only [Zl5,Zbv,Zl6,Zmd,Zv.c_def,Zd.c_def,Zi.c_def,Plan.c_def,Za.c_def,mpl,dfs] at h
 try simp only [itb] at h
 try simp only [itf,gS,kk] at h
 rcases h with ⟨q1,q2,e1,⟨g3,q3⟩,(⟨q4,v2_0,q5,e3,⟨g6,q6⟩,q7,e4,⟨g8,q8⟩,e5,⟨g9,q9⟩,q10,e6,⟨g11,q11⟩,v7_0,q12,v8_0,q13,q14,h⟩ | ⟨q4,v9_0,v9_1,q15,q16,h⟩)⟩ | ⟨q1,h⟩
 all_goals (refine Eq.trans ?_ h;clear h;simp +decide [*,kk,Zg5,Z0v,Ztv])
theorem Zbgj (x:List Zv) (x1:List Int) (a:Zd) (a1:Zc) (r:AV×List Blk) (h:(Zg5 x x1 a a1 true ([]:List Za) 0=some r)):Zme x x1 a a1=some r:=by
 unfold Zme
 refine runM Zbcu rfl ?_
 refine Eq.trans ?_ h;clear h;simp +decide [*,kk,Z0w,Zg5]
theorem Zbgk (a:List Za) (a1:Int) (r:AV×List Blk) (h:(∃ (v1_0:Int),Zep a a1=some (I v1_0,[])∧(if v1_0<0 then (some (.tup [.agg [I 0,I 0,I 0,.t .nil],Bo false],[])=some r) else (0≤v1_0∧(∃ (e2:Za),a[v1_0.toNat]?=some e2∧(e2.Plan.Steps.length≤68719476736∧(some (.tup [.agg [I e2.Mask,I e2.Order,I e2.Cost,.own 0],Bo true],[.arr 142 3 true (e2.Plan.Steps.map Zb.c)])=some r))))))):Zjw a a1=some r:=by
 unfold Zjw
 refine run Zbcv rfl ?_
 simp only [Zep,Plan.c_def,Za.c_def,mpl,dfs] at h
 try simp only [itb] at h
 try simp only [itf,gS,kk] at h
 rcases h with ⟨v1_0,q1,(⟨q2,h⟩ | ⟨q2,q3,e2,⟨g4,q4⟩,q5,h⟩)⟩
 all_goals (refine Eq.trans ?_ h;clear h;simp +decide [*,kk,Z0x])
theorem Z3s (sizes:List Int) (i:Int) (r:AV×List Blk) (h:(if i<(sizes.length:Int) then (0≤i∧(∃ (e1:Int),sizes[i.toNat]?=some e1∧(∃ (v2_0:Bool),Z1 e1 0 4096=some (Bo v2_0,[])∧(if v2_0=true then (Ziq sizes (w (i+1))=some r) else (some (Bo false,[])=some r))))) else (some (Bo true,[])=some r))):Ziq sizes i=some r:=by
 unfold Ziq
 rw [EvL_eq Ztw.eq_1]
 simp only [Z1,mpl,dfs] at h
 try simp only [itb] at h
 try simp only [itf,gS,kk] at h
 rcases h with ⟨q1,q2,e1,⟨g3,q3⟩,v2_0,q4,(⟨q5,h⟩ | ⟨q5,h⟩)⟩ | ⟨q1,h⟩
 all_goals (refine Eq.trans ?_ h;clear h;simp +decide [*,kk,Ziq,Ztx])
theorem Zbgl (a:Zc) (a1:List Int) (r:AV×List Blk) (h:(∃ (v1_0:Bool),Zd2 a=some (Bo v1_0,[])∧(if v1_0=true then (∃ (v2_0:Int),Zc9 a=some (I v2_0,[])∧(if (a1.length:Int)=(w (v2_0+1)) then (Ziq a1 0=some r) else (some (Bo false,[])=some r))) else (some (Bo false,[])=some r)))):Zmf a a1=some r:=by
 unfold Zmf
 refine run Zbcw rfl ?_
 simp only [Zd2,Zc9,Zc.c_def,mpl,dfs] at h
 try simp only [itb] at h
 try simp only [itf,gS,kk] at h
 rcases h with ⟨v1_0,q1,(⟨q2,v2_0,q3,(⟨q4,h⟩ | ⟨q4,h⟩)⟩ | ⟨q2,h⟩)⟩
 all_goals (refine Eq.trans ?_ h;clear h;simp +decide [*,kk,Z0y,Ziq])
theorem Zbgm (a:Zd) (a1:Int) (a2:List Zh) (a3:Int) (a4:List Int) (r:AV×List Blk) (h:(0≤a3∧(∃ (e1:Zh),a2[a3.toNat]?=some e1∧(∃ (v2_0:Zi),Zco a a1=some (.agg (v2_0.c.map .t),[])∧(if e1.Left<0 then (0≤e1.Mask∧(∃ (e3:Int),a4[e1.Mask.toNat]?=some e3∧(∃ (v4_0:Int),Zbv v2_0 e3 0 e3=some (I v4_0,[])∧(some (I v4_0,[])=some r)))) else (if e1.Right<0 then (0≤e1.Left∧(∃ (e5:Zh),a2[e1.Left.toNat]?=some e5∧(0≤e5.Mask∧(∃ (e6:Int),a4[e5.Mask.toNat]?=some e6∧(0≤e1.Mask∧(∃ (e7:Int),a4[e1.Mask.toNat]?=some e7∧(∃ (v8_0:Int),Zbv v2_0 e6 0 e7=some (I v8_0,[])∧(some (I v8_0,[])=some r)))))))) else (0≤e1.Left∧(∃ (e9:Zh),a2[e1.Left.toNat]?=some e9∧(0≤e9.Mask∧(∃ (e10:Int),a4[e9.Mask.toNat]?=some e10∧(0≤e1.Right∧(∃ (e11:Zh),a2[e1.Right.toNat]?=some e11∧(0≤e11.Mask∧(∃ (e12:Int),a4[e11.Mask.toNat]?=some e12∧(0≤e1.Mask∧(∃ (e13:Int),a4[e1.Mask.toNat]?=some e13∧(∃ (v14_0:Int),Zbv v2_0 e10 e12 e13=some (I v14_0,[])∧(some (I v14_0,[])=some r)))))))))))))))))):Zmg a a1 a2 a3 a4=some r:=by
 unfold Zmg
 refine run Zbcx rfl ?_
 simp only [Zco,Zbv,Zd.c_def,Zi.c_def,mpl,dfs] at h
 try simp only [itb] at h
 try simp only [itf,gS,kk] at h
 rcases h with ⟨q1,e1,⟨g2,q2⟩,v2_0,q3,(⟨q4,q5,e3,⟨g6,q6⟩,v4_0,q7,h⟩ | ⟨q4,(⟨q8,q9,e5,⟨g10,q10⟩,q11,e6,⟨g12,q12⟩,q13,e7,⟨g14,q14⟩,v8_0,q15,h⟩ | ⟨q8,q16,e9,⟨g17,q17⟩,q18,e10,⟨g19,q19⟩,q20,e11,⟨g21,q21⟩,q22,e12,⟨g23,q23⟩,q24,e13,⟨g25,q25⟩,v14_0,q26,h⟩)⟩)⟩
 all_goals (refine Eq.trans ?_ h;clear h;simp +decide [*,kk,Z0z])
theorem Z3t (m:Zd) (p:Plan) (out:List Int) (info:List Zh) (sizes:List Int) (i:Int) (r:AV×List Blk) (h:(if i<(info.length:Int) then (0≤i∧(∃ (e1:Zb),p.Steps[i.toNat]?=some e1∧(∃ (v2_0:Int),Zmg m e1.Kind info i sizes=some (I v2_0,[])∧(out.length+1≤68719476736∧(Zir m p (out++[v2_0]) info sizes (w (i+1))=some r))))) else (some (.own 0,[.arr 3 1 true (out.map ic)])=some r))):Zir m p out info sizes i=some r:=by
 unfold Zir
 rw [EvL_eq Zty.eq_1]
 simp only [Zmg,Zd.c_def,Zi.c_def,Zh.c_def,mpl,dfs] at h
 try simp only [itb] at h
 try simp only [itf,gS,kk] at h
 rcases h with ⟨q1,q2,e1,⟨g3,q3⟩,v2_0,q4,q5,h⟩ | ⟨q1,h⟩
 all_goals (refine Eq.trans ?_ h;clear h;simp +decide [*,kk,Zir,Ztz])
theorem Zbgn (a:Zd) (a1:Zc) (a2:Plan) (a3:List Int) (r:AV×List Blk) (h:(∃ (v1_0:List Zh) (v1_1:Bool),Zik a1 a2=some (.tup [.own 0,Bo v1_1],[.arr 138 4 true (v1_0.map Zh.c)])∧(if v1_1=true then (∃ (v2_0:Bool),Zmf a1 a3=some (Bo v2_0,[])∧(if v2_0=true then (Zir a a2 ([]:List Int) v1_0 a3 0=some r) else (some (.own 0,[.arr 3 1 true (([]:List Int).map ic)])=some r))) else (some (.own 0,[.arr 3 1 true (([]:List Int).map ic)])=some r)))):Zmh a a1 a2 a3=some r:=by
 unfold Zmh
 refine run Zbcy rfl ?_
 simp only [Zik,Zmf,Plan.c_def,Zc.c_def,mpl,dfs] at h
 try simp only [itb] at h
 try simp only [itf,gS,kk] at h
 rcases h with ⟨v1_0,v1_1,q1,(⟨q2,v2_0,q3,(⟨q4,h⟩ | ⟨q4,h⟩)⟩ | ⟨q2,h⟩)⟩
 all_goals (refine Eq.trans ?_ h;clear h;simp +decide [*,kk,Z00,Zir])
theorem Z3u (l:List Int) (n:Int) (i:Int) (r:AV×List Blk) (h:(if i<(l.length:Int) then (0≤i∧(∃ (e1:Int),l[i.toNat]?=some e1∧(Zis l (w (n+e1)) (w (i+1))=some r))) else (some (I n,[])=some r))):Zis l n i=some r:=by
 unfold Zis
 rw [EvL_eq Zt0.eq_1]
 try simp only [itb] at h
 try simp only [itf,gS,kk] at h
 rcases h with ⟨q1,q2,e1,⟨g3,q3⟩,h⟩ | ⟨q1,h⟩
 all_goals (refine Eq.trans ?_ h;clear h;simp +decide [*,kk,Zis,Zt1])
theorem Zbgo (a:Zd) (a1:Zc) (a2:Plan) (a3:List Int) (r:AV×List Blk) (h:(∃ (v1_0:List Int),Zmh a a1 a2 a3=some (.own 0,[.arr 3 1 true (v1_0.map ic)])∧(if (v1_0.length:Int)=0 then (some (I (-1),[])=some r) else (Zis v1_0 0 0=some r)))):Zmi a a1 a2 a3=some r:=by
 unfold Zmi
 refine run Zbcz rfl ?_
 simp only [Zmh,Zd.c_def,Zi.c_def,Plan.c_def,Zc.c_def,mpl,dfs] at h
 try simp only [itb] at h
 try simp only [itf,gS,kk] at h
 rcases h with ⟨v1_0,q1,(⟨q2,h⟩ | ⟨q2,h⟩)⟩
 all_goals (refine Eq.trans ?_ h;clear h;simp +decide [*,kk,Z01,Zis])
theorem Zbgp (a:Zd) (a1:Zc) (a2:Plan) (a3:List Int) (r:AV×List Blk) (h:(∃ (v1_0:List Int),Zin a3=some (.own 0,[.arr 3 1 true (v1_0.map ic)])∧(∃ (v2_0:Int),Zmi a a1 a2 v1_0=some (I v2_0,[])∧(some (I v2_0,[])=some r)))):Zmj a a1 a2 a3=some r:=by
 unfold Zmj
 refine run Zbc0 rfl ?_
 simp only [Zin,Zmi,Zd.c_def,Zi.c_def,Plan.c_def,Zc.c_def,mpl,dfs] at h
 rcases h with ⟨v1_0,q1,v2_0,q2,h⟩
 all_goals (refine Eq.trans ?_ h;clear h;simp +decide [*,kk,Z02])
theorem Zbgq (a:Zd) (a1:Zc) (a2:Region) (r:AV×List Blk) (h:(∃ (v1_0:List Zv),Zl3 a1=some (.own 0,[.arr 242 3 true (v1_0.map Zv.c)])∧(∃ (v2_0:List Int),Zin a2.Box.Low=some (.own 0,[.arr 3 1 true (v2_0.map ic)])∧(∃ (v3_0:Bool) (v3_1:List Za),Zme v1_0 v2_0 a a1=some (.own 2,[.arr 242 3 true (v1_0.map Zv.c),.arr 3 1 true (v2_0.map ic),.arr 174 4 v3_0 (v3_1.map Za.c)])∧(∃ (v4_0:Int),Zc9 a1=some (I v4_0,[])∧((∃ (v5_0:Int) (v5_1:Int) (v5_2:Int),Zjw v3_1 v4_0=some (.tup [.agg [I v5_0,I v5_1,I v5_2,.t .nil],Bo false],[])∧(some (Bo false,[])=some r))∨(∃ (v6_0:List Zb) (v6_1:Int) (v6_2:Int) (v6_3:Int),Zjw v3_1 v4_0=some (.tup [.agg [I v6_1,I v6_2,I v6_3,.own 0],Bo true],[.arr 142 3 true (v6_0.map Zb.c)])∧(∃ (v7_0:Int),Zmj a a1 a2.Plan a2.Box.High=some (I v7_0,[])∧(some (Bo (decide ((w (v7_0*100))≤(w (a2.Percent*v6_3)))),[])=some r))))))))):Zd7 a a1 a2=some r:=by
 unfold Zd7
 refine run Zbc1 rfl ?_
 simp only [Zl3,Zin,Zme,Zc9,Zjw,Zmj,Zv.c_def,Zd.c_def,Zi.c_def,Plan.c_def,Za.c_def,Zc.c_def,mpl,dfs] at h
 rcases h with ⟨v1_0,q1,v2_0,q2,v3_0,v3_1,q3,v4_0,q4,(⟨v5_0,v5_1,v5_2,q6,h⟩ | ⟨v6_0,v6_1,v6_2,v6_3,q7,v7_0,q8,h⟩)⟩
 all_goals (refine Eq.trans ?_ h;clear h;simp +decide [*,kk,Z03])
theorem Zbgr (a:Zd) (a1:Zc) (a2:Region) (r:AV×List Blk) (h:(∃ (v1_0:Bool),Zlq a=some (Bo v1_0,[])∧(if v1_0=true then (∃ (v2_0:Int),Zc9 a1=some (I v2_0,[])∧(∃ (v3_0:Bool),Zif a1 v2_0=some (Bo v3_0,[])∧(if v3_0=true then (∃ (v4_0:Bool),Zlv a1 a2=some (Bo v4_0,[])∧(if v4_0=true then (∃ (v5_0:Bool),Zd7 a a1 a2=some (Bo v5_0,[])∧(some (Bo v5_0,[])=some r)) else (some (Bo false,[])=some r))) else (some (Bo false,[])=some r)))) else (some (Bo false,[])=some r)))):Zmk a a1 a2=some r:=by
 unfold Zmk
 refine run Zbc2 rfl ?_
 simp only [Zlq,Zc9,Zif,Zlv,Zd7,Box.c_def,Zd.c_def,Zi.c_def,Plan.c_def,Zc.c_def,Region.c_def,mpl,dfs] at h
 try simp only [itb] at h
 try simp only [itf,gS,kk] at h
 rcases h with ⟨v1_0,q1,(⟨q2,v2_0,q3,v3_0,q4,(⟨q5,v4_0,q6,(⟨q7,v5_0,q8,h⟩ | ⟨q7,h⟩)⟩ | ⟨q5,h⟩)⟩ | ⟨q2,h⟩)⟩
 all_goals (refine Eq.trans ?_ h;clear h;simp +decide [*,kk,Z04])
theorem Z3v (b:Box) (n:Int) (x:Int) (x1:Int) (r:AV×List Blk) (h:(if x1<x then (0≤x1∧(∃ (e1:Int),b.High[x1.toNat]?=some e1∧(∃ (e2:Int),b.Low[x1.toNat]?=some e2∧(Zit b (w (n*(w ((w (e1 - e2))+1)))) x (w (x1+1))=some r)))) else (some (I n,[])=some r))):Zit b n x x1=some r:=by
 unfold Zit
 rw [EvL_eq Zt2.eq_1]
 try simp only [itb] at h
 try simp only [itf,gS,kk] at h
 rcases h with ⟨q1,q2,e1,⟨g3,q3⟩,e2,⟨g4,q4⟩,h⟩ | ⟨q1,h⟩
 all_goals (refine Eq.trans ?_ h;clear h;simp +decide [*,kk,Zit,Zt3])
theorem Zbgs (a:Box) (r:AV×List Blk) (h:(Zit a 1 (a.Low.length:Int) 0=some r)):Zml a=some r:=by
 unfold Zml
 refine run Zbc3 rfl ?_
 refine Eq.trans ?_ h;clear h;simp +decide [*,kk,Z05,Zit]
theorem Zbgt (a:Box) (r:AV×List Blk) (h:(∃ (v1_0:Bool),Ze0 a=some (Bo v1_0,[])∧(if v1_0=true then (∃ (v2_0:Int),Zml a=some (I v2_0,[])∧(some (I (if 401<v2_0 then 401 else v2_0),[])=some r)) else (some (I 0,[])=some r)))):Zt4 a=some r:=by
 unfold Zt4
 refine run Zbc4 rfl ?_
 simp only [Ze0,Zml,Box.c_def,mpl,dfs] at h
 try simp only [itb] at h
 try simp only [itf,gS,kk] at h
 rcases h with ⟨v1_0,q1,(⟨q2,v2_0,q3,h⟩ | ⟨q2,h⟩)⟩
 all_goals (refine Eq.trans ?_ h;clear h;simp +decide [*,kk,Z06])
theorem Z3w (b:Box) (n:Int) (i:Int) (r:AV×List Blk) (h:(if i<(b.Low.length:Int) then (0≤i∧(∃ (e1:Int),b.High[i.toNat]?=some e1∧(∃ (e2:Int),b.Low[i.toNat]?=some e2∧(Ziu b (if (w (n*(w ((w (e1 - e2))+1))))<401 then (w (n*(w ((w (e1 - e2))+1)))) else 401) (w (i+1))=some r)))) else (some (I n,[])=some r))):Ziu b n i=some r:=by
 unfold Ziu
 rw [EvL_eq Zt5.eq_1]
 try simp only [itb] at h
 try simp only [itf,gS,kk] at h
 rcases h with ⟨q1,q2,e1,⟨g3,q3⟩,e2,⟨g4,q4⟩,h⟩ | ⟨q1,h⟩
 all_goals (refine Eq.trans ?_ h;clear h;simp +decide [*,kk,Ziu,Zt6])
theorem Zbgu (a:Box) (r:AV×List Blk) (h:(∃ (v1_0:Bool),Zfn a=some (Bo v1_0,[])∧(if v1_0=true then (Ziu a 1 0=some r) else (some (I 0,[])=some r)))):Zt7 a=some r:=by
 unfold Zt7
 refine run Zbc5 rfl ?_
 simp only [Zfn,Box.c_def,mpl,dfs] at h
 try simp only [itb] at h
 try simp only [itf,gS,kk] at h
 rcases h with ⟨v1_0,q1,(⟨q2,h⟩ | ⟨q2,h⟩)⟩
 all_goals (refine Eq.trans ?_ h;clear h;simp +decide [*,kk,Z07,Ziu])
theorem Zbgv (a:Zf) (a1:Zf) (r:AV×List Blk) (h:(some (Bo (decide (a.Used=a1.Used)),[])=some r)):Zot a a1=some r:=by
 unfold Zot
 refine run Zbc6 rfl ?_
 refine Eq.trans ?_ h;clear h;simp +decide [*,kk,Z08]
theorem Z3x (s:List Zf) (f:Zf) (x:Int) (x1:Int) (r:AV×List Blk) (h:(if x1<x then (0≤x1∧(∃ (e1:Zf),s[x1.toNat]?=some e1∧(∃ (v2_0:Bool),Zot e1 f=some (Bo v2_0,[])∧(if v2_0=true then (some (I x1,[])=some r) else (Ziv s f x (w (x1+1))=some r))))) else (some (I (-1),[])=some r))):Ziv s f x x1=some r:=by
 unfold Ziv
 rw [EvL_eq Zt8.eq_1]
 simp only [Zot,Box.c_def,Zf.c_def,Plan.c_def,Zc.c_def,Region.c_def,mpl,dfs] at h
 try simp only [itb] at h
 try simp only [itf,gS,kk] at h
 rcases h with ⟨q1,q2,e1,⟨g3,q3⟩,v2_0,q4,(⟨q5,h⟩ | ⟨q5,h⟩)⟩ | ⟨q1,h⟩
 all_goals (refine Eq.trans ?_ h;clear h;simp +decide [*,kk,Ziv,Zt9])
theorem Zbgw (a:List Zf) (a1:Zf) (r:AV×List Blk) (h:(Ziv a a1 (a.length:Int) 0=some r)):Zou a a1=some r:=by
 unfold Zou
 refine run Zbc7 rfl ?_
 refine Eq.trans ?_ h;clear h;simp +decide [*,kk,Z09,Ziv]
theorem Zbgx (a:List Zf) (a1:Zf) (r:AV×List Blk) (h:(∃ (v1_0:Int),Zou a a1=some (I v1_0,[])∧(some (Bo (decide (0≤v1_0)),[])=some r))):Zmm a a1=some r:=by
 unfold Zmm
 refine run Zbc8 rfl ?_
 simp only [Zou,Box.c_def,Zf.c_def,Plan.c_def,Zc.c_def,Region.c_def,mpl,dfs] at h
 rcases h with ⟨v1_0,q1,h⟩
 all_goals (refine Eq.trans ?_ h;clear h;simp +decide [*,kk,Z1a])
theorem Z3y (m:Zd) (c:Zp) (x:List Zf) (x1:Int) (x2:Int) (r:AV×List Blk) (h:(if x2<x1 then (0≤x2∧(∃ (e1:Zf),x[x2.toNat]?=some e1∧(∃ (v2_0:Bool),Zy e1.Version 1 999=some (Bo v2_0,[])∧(if v2_0=true then (∃ (v3_0:Bool),Zy e1.Used 1 c.Clock=some (Bo v3_0,[])∧(if v3_0=true then (∃ (v4_0:Bool),Zlj m e1.Zc e1.Region=some (Bo v4_0,[])∧(if v4_0=true then (x2.toNat≤c.Entries.length∧(∃ (v5_0:Bool),Zmm (c.Entries.take x2.toNat) e1=some (Bo v5_0,[])∧(if v5_0=true then (some (Bo false,[])=some r) else (Ziw m c x x1 (w (x2+1))=some r)))) else (some (Bo false,[])=some r))) else (some (Bo false,[])=some r))) else (some (Bo false,[])=some r))))) else (some (Bo true,[])=some r))):Ziw m c x x1 x2=some r:=by
 unfold Ziw
 rw [EvL_eq Zua.eq_1]
 simp only [Zy,Zlj,Zmm,Box.c_def,Zf.c_def,Zd.c_def,Zi.c_def,Plan.c_def,Zc.c_def,Region.c_def,mpl,dfs] at h
 try simp only [itb] at h
 try simp only [itf,gS,kk] at h
 rcases h with ⟨q1,q2,e1,⟨g3,q3⟩,v2_0,q4,(⟨q5,v3_0,q6,(⟨q7,v4_0,q8,(⟨q9,q10,v5_0,q11,(⟨q12,h⟩ | ⟨q12,h⟩)⟩ | ⟨q9,h⟩)⟩ | ⟨q7,h⟩)⟩ | ⟨q5,h⟩)⟩ | ⟨q1,h⟩
 all_goals (refine Eq.trans ?_ h;clear h;simp +decide [*,kk,Ziw,Zub])
theorem Zbgy (a:Zd) (a1:Zp) (r:AV×List Blk) (h:(∃ (v1_0:Bool),Zy a1.Clock 0 1000000=some (Bo v1_0,[])∧(if v1_0=true then (if 4<(a1.Entries.length:Int) then (some (Bo false,[])=some r) else (Ziw a a1 a1.Entries (a1.Entries.length:Int) 0=some r)) else (some (Bo false,[])=some r)))):Zjx a a1=some r:=by
 unfold Zjx
 refine run Zbc9 rfl ?_
 simp only [Zy,mpl,dfs] at h
 try simp only [itb] at h
 try simp only [itf,gS,kk] at h
 rcases h with ⟨v1_0,q1,(⟨q2,(⟨q3,h⟩ | ⟨q3,h⟩)⟩ | ⟨q2,h⟩)⟩
 all_goals (refine Eq.trans ?_ h;clear h;simp +decide [*,kk,Z1b,Ziw])
theorem Z3z (m:Zd) (c:Zp) (i:Int) (r:AV×List Blk) (h:(if i<(c.Entries.length:Int) then (0≤i∧(∃ (e1:Zf),c.Entries[i.toNat]?=some e1∧(∃ (v2_0:Bool),Z1 e1.Version 1 999=some (Bo v2_0,[])∧(if v2_0=true then (∃ (v3_0:Bool),Z1 e1.Used 1 c.Clock=some (Bo v3_0,[])∧(if v3_0=true then (∃ (v4_0:Bool),Zmk m e1.Zc e1.Region=some (Bo v4_0,[])∧(if v4_0=true then (Zix m c e1 i 0=some r) else (some (Bo false,[])=some r))) else (some (Bo false,[])=some r))) else (some (Bo false,[])=some r))))) else (∃ (v5_0:Bool),Z1 c.Clock 0 1000000=some (Bo v5_0,[])∧(if v5_0=true then (some (Bo (decide ((c.Entries.length:Int)≤4)),[])=some r) else (some (Bo false,[])=some r))))):Zg6 m c i=some r:=by
 unfold Zg6
 rw [EvL_eq Zov.eq_1]
 simp only [Z1,Zmk,Box.c_def,Zd.c_def,Zi.c_def,Plan.c_def,Zc.c_def,Region.c_def,mpl,dfs] at h
 try simp only [itb] at h
 try simp only [itf,gS,kk] at h
 rcases h with ⟨q1,q2,e1,⟨g3,q3⟩,v2_0,q4,(⟨q5,v3_0,q6,(⟨q7,v4_0,q8,(⟨q9,h⟩ | ⟨q9,h⟩)⟩ | ⟨q7,h⟩)⟩ | ⟨q5,h⟩)⟩ | ⟨q1,v5_0,q10,(⟨q11,h⟩ | ⟨q11,h⟩)⟩
 all_goals (refine Eq.trans ?_ h;clear h;simp +decide [*,kk,Zix,Zow])
theorem Z30 (m:Zd) (c:Zp) (e:Zf) (i:Int) (k:Int) (r:AV×List Blk) (h:(if k<i then (0≤k∧(∃ (e1:Zf),c.Entries[k.toNat]?=some e1∧(if e1.Used=e.Used then (some (Bo false,[])=some r) else (Zix m c e i (w (k+1))=some r)))) else (Zg6 m c (w (i+1))=some r))):Zix m c e i k=some r:=by
 unfold Zix
 rw [EvL_eq Zuc.eq_1]
 try simp only [itb] at h
 try simp only [itf,gS,kk] at h
 rcases h with ⟨q1,q2,e1,⟨g3,q3⟩,(⟨q4,h⟩ | ⟨q4,h⟩)⟩ | ⟨q1,h⟩
 all_goals (refine Eq.trans ?_ h;clear h;simp +decide [*,kk,Zix,Zg6,Zud])
theorem Zbgz (a:Zd) (a1:Zp) (r:AV×List Blk) (h:(Zg6 a a1 0=some r)):Zmn a a1=some r:=by
 unfold Zmn
 refine run Zbda rfl ?_
 refine Eq.trans ?_ h;clear h;simp +decide [*,kk,Z1c,Zg6]
theorem Zbg0 (a:Box) (a1:List Int) (r:AV×List Blk) (h:(∃ (v1_0:Bool),Ze0 a=some (Bo v1_0,[])∧(if v1_0=true then (∃ (v2_0:Bool),Zf4 a1 a.Low=some (Bo v2_0,[])∧(if v2_0=true then (∃ (v3_0:Bool),Zf4 a.High a1=some (Bo v3_0,[])∧(some (Bo v3_0,[])=some r)) else (some (Bo false,[])=some r))) else (some (Bo false,[])=some r)))):Zue a a1=some r:=by
 unfold Zue
 refine run Zbdb rfl ?_
 simp only [Ze0,Zf4,Box.c_def,mpl,dfs] at h
 try simp only [itb] at h
 try simp only [itf,gS,kk] at h
 rcases h with ⟨v1_0,q1,(⟨q2,v2_0,q3,(⟨q4,v3_0,q5,h⟩ | ⟨q4,h⟩)⟩ | ⟨q2,h⟩)⟩
 all_goals (refine Eq.trans ?_ h;clear h;simp +decide [*,kk,Z1d])
theorem Zbg1 (m:Zd) (q:Zc) (limit:Box) (Percent:Int) (Percent1:Int) (x:List Zb) (x1:List Int) (x2:List Int) (location:List Int) (again:Bool) (r:AV×List Blk) (h:(if again=true then (Zbz m q limit Percent Percent1 x x1 x2 location false (location.length:Int) 0=some r) else (some (.tup [.agg [.own 0,.own 1,.own 2,I Percent1],Bo true],[.arr 142 3 true (x.map Zb.c),.arr 3 1 true (x1.map ic),.arr 3 1 true (x2.map ic)])=some r))):Ziy m q limit Percent Percent1 x x1 x2 location again=some r:=by
 unfold Ziy
 rw [EvL_eq Zoz.eq_1]
 try simp only [itb] at h
 try simp only [itf,gS,kk] at h
 rcases h with ⟨q1,h⟩ | ⟨q1,h⟩
 all_goals (refine Eq.trans ?_ h;clear h;simp +decide [*,kk,Zbz,Zo0])
theorem Zpf (m:Zd) (q:Zc) (limit:Box) (Percent:Int) (Percent1:Int) (x:List Zb) (x1:List Int) (x2:List Int) (location:List Int) (again:Bool) (x3:Int) (x4:Int) (r:AV×List Blk) (h:(if x4<x3 then (0≤x4∧(∃ (e1:Int),x2[x4.toNat]?=some e1∧(∃ (e2:Int),limit.High[x4.toNat]?=some e2∧(if e1<e2 then (∃ (v3_0:Bool),Zdz m q (⟨(⟨x⟩:Plan),(⟨x1,(x2.set x4.toNat (w (e1+1)))⟩:Box),Percent1⟩:Region)=some (Bo v3_0,[])∧(if v3_0=true then (Zmo m q limit Percent Percent1 x x1 (x2.set x4.toNat (w (e1+1))) location true x4 x3 x4=some r) else (Zmo m q limit Percent Percent1 x x1 ((x2.set x4.toNat (w (e1+1))).set x4.toNat (w ((w (e1+1)) - 1))) location again x4 x3 x4=some r))) else (∃ (e4:Int),x1[x4.toNat]?=some e4∧(∃ (e5:Int),limit.Low[x4.toNat]?=some e5∧(if e5<e4 then (∃ (v6_0:Bool),Zdz m q (⟨(⟨x⟩:Plan),(⟨(x1.set x4.toNat (w (e4 - 1))),x2⟩:Box),Percent1⟩:Region)=some (Bo v6_0,[])∧(if v6_0=true then (Zbz m q limit Percent Percent1 x (x1.set x4.toNat (w (e4 - 1))) x2 location true x3 (w (x4+1))=some r) else (Zbz m q limit Percent Percent1 x ((x1.set x4.toNat (w (e4 - 1))).set x4.toNat (w ((w (e4 - 1))+1))) x2 location again x3 (w (x4+1))=some r))) else (Zbz m q limit Percent Percent1 x x1 x2 location again x3 (w (x4+1))=some r)))))))) else (Ziy m q limit Percent Percent1 x x1 x2 location again=some r))):Zbz m q limit Percent Percent1 x x1 x2 location again x3 x4=some r:=by
 unfold Zbz
 rw [EvL_eq Zoy.eq_1]
 simp only [Zdz,Box.c_def,Zd.c_def,Zi.c_def,Plan.c_def,Zc.c_def,Region.c_def,tI,mpl,dfs] at h
 try simp only [itb] at h
 try simp only [itf,gS,kk] at h
 rcases h with ⟨q1,q2,e1,⟨g3,q3⟩,e2,⟨g4,q4⟩,(⟨q5,v3_0,q6,(⟨q7,h⟩ | ⟨q7,h⟩)⟩ | ⟨q5,e4,⟨g8,q8⟩,e5,⟨g9,q9⟩,(⟨q10,v6_0,q11,(⟨q12,h⟩ | ⟨q12,h⟩)⟩ | ⟨q10,h⟩)⟩)⟩ | ⟨q1,h⟩
 all_goals (refine Eq.trans ?_ h;clear h;simp +decide [*,kk,Zmo,Zbz,Zox,Ziy])
theorem Z31 (m:Zd) (q:Zc) (limit:Box) (Percent:Int) (Percent1:Int) (x:List Zb) (x1:List Int) (x2:List Int) (location:List Int) (again:Bool) (i:Int) (x3:Int) (x4:Int) (r:AV×List Blk) (h:(0≤i∧(∃ (e1:Int),x1[i.toNat]?=some e1∧(∃ (e2:Int),limit.Low[i.toNat]?=some e2∧(if e2<e1 then (∃ (v3_0:Bool),Zdz m q (⟨(⟨x⟩:Plan),(⟨(x1.set i.toNat (w (e1 - 1))),x2⟩:Box),Percent1⟩:Region)=some (Bo v3_0,[])∧(if v3_0=true then (Zbz m q limit Percent Percent1 x (x1.set i.toNat (w (e1 - 1))) x2 location true x3 (w (x4+1))=some r) else (Zbz m q limit Percent Percent1 x ((x1.set i.toNat (w (e1 - 1))).set i.toNat (w ((w (e1 - 1))+1))) x2 location again x3 (w (x4+1))=some r))) else (Zbz m q limit Percent Percent1 x x1 x2 location again x3 (w (x4+1))=some r)))))):Zmo m q limit Percent Percent1 x x1 x2 location again i x3 x4=some r:=by
 unfold Zmo
 rw [Ev_eq Zox.eq_1]
 simp only [Zdz,Box.c_def,Zd.c_def,Zi.c_def,Plan.c_def,Zc.c_def,Region.c_def,tI,mpl,dfs] at h
 try simp only [itb] at h
 try simp only [itf,gS,kk] at h
 rcases h with ⟨q1,e1,⟨g2,q2⟩,e2,⟨g3,q3⟩,(⟨q4,v3_0,q5,(⟨q6,h⟩ | ⟨q6,h⟩)⟩ | ⟨q4,h⟩)⟩
 all_goals (refine Eq.trans ?_ h;clear h;simp +decide [*,kk,Zbz])
theorem Zbg2 (a:Box) (a1:List Int) (r:AV×List Blk) (h:(∃ (v1_0:Bool),Zfn a=some (Bo v1_0,[])∧(if v1_0=true then (∃ (v2_0:Bool),Zgu a1 a.Low=some (Bo v2_0,[])∧(if v2_0=true then (∃ (v3_0:Bool),Zgu a.High a1=some (Bo v3_0,[])∧(some (Bo v3_0,[])=some r)) else (some (Bo false,[])=some r))) else (some (Bo false,[])=some r)))):Zuf a a1=some r:=by
 unfold Zuf
 refine run Zbdc rfl ?_
 simp only [Zfn,Zgu,Box.c_def,mpl,dfs] at h
 try simp only [itb] at h
 try simp only [itf,gS,kk] at h
 rcases h with ⟨v1_0,q1,(⟨q2,v2_0,q3,(⟨q4,v3_0,q5,h⟩ | ⟨q4,h⟩)⟩ | ⟨q2,h⟩)⟩
 all_goals (refine Eq.trans ?_ h;clear h;simp +decide [*,kk,Z1e])
theorem Zbg3 (m:Zd) (q:Zc) (limit:Box) (Percent:Int) (Percent1:Int) (x:List Zb) (x1:List Int) (x2:List Int) (l:List Int) (grown:Bool) (r:AV×List Blk) (h:(if grown=true then (Zb0 m q limit Percent Percent1 x x1 x2 l false 0=some r) else (some (.tup [.agg [.own 0,.own 1,.own 2,I Percent1],Bo true],[.arr 142 3 true (x.map Zb.c),.arr 3 1 true (x1.map ic),.arr 3 1 true (x2.map ic)])=some r))):Ziz m q limit Percent Percent1 x x1 x2 l grown=some r:=by
 unfold Ziz
 rw [EvL_eq Zo3.eq_1]
 try simp only [itb] at h
 try simp only [itf,gS,kk] at h
 rcases h with ⟨q1,h⟩ | ⟨q1,h⟩
 all_goals (refine Eq.trans ?_ h;clear h;simp +decide [*,kk,Zb0,Zo4])
theorem Zpg (m:Zd) (q:Zc) (limit:Box) (Percent:Int) (Percent1:Int) (x:List Zb) (x1:List Int) (x2:List Int) (l:List Int) (grown:Bool) (k:Int) (r:AV×List Blk) (h:(if k<(l.length:Int) then (0≤k∧(∃ (e1:Int),x2[k.toNat]?=some e1∧(∃ (e2:Int),limit.High[k.toNat]?=some e2∧(if e1<e2 then (∃ (v3_0:Bool),Zd7 m q (⟨(⟨x⟩:Plan),(⟨x1,(x2.set k.toNat (w (e1+1)))⟩:Box),Percent1⟩:Region)=some (Bo v3_0,[])∧(if v3_0=true then (Zmp m q limit Percent Percent1 x x1 (x2.set k.toNat (w (e1+1))) l true k=some r) else (Zmp m q limit Percent Percent1 x x1 ((x2.set k.toNat (w (e1+1))).set k.toNat (w ((w (e1+1)) - 1))) l grown k=some r))) else (∃ (e4:Int),x1[k.toNat]?=some e4∧(∃ (e5:Int),limit.Low[k.toNat]?=some e5∧(if e5<e4 then (∃ (v6_0:Bool),Zd7 m q (⟨(⟨x⟩:Plan),(⟨(x1.set k.toNat (w (e4 - 1))),x2⟩:Box),Percent1⟩:Region)=some (Bo v6_0,[])∧(if v6_0=true then (Zb0 m q limit Percent Percent1 x (x1.set k.toNat (w (e4 - 1))) x2 l true (w (k+1))=some r) else (Zb0 m q limit Percent Percent1 x ((x1.set k.toNat (w (e4 - 1))).set k.toNat (w ((w (e4 - 1))+1))) x2 l grown (w (k+1))=some r))) else (Zb0 m q limit Percent Percent1 x x1 x2 l grown (w (k+1))=some r)))))))) else (Ziz m q limit Percent Percent1 x x1 x2 l grown=some r))):Zb0 m q limit Percent Percent1 x x1 x2 l grown k=some r:=by
 unfold Zb0
 rw [EvL_eq Zo2.eq_1]
 simp only [Zd7,Box.c_def,Zd.c_def,Zi.c_def,Plan.c_def,Zc.c_def,Region.c_def,tI,mpl,dfs] at h
 try simp only [itb] at h
 try simp only [itf,gS,kk] at h
 rcases h with ⟨q1,q2,e1,⟨g3,q3⟩,e2,⟨g4,q4⟩,(⟨q5,v3_0,q6,(⟨q7,h⟩ | ⟨q7,h⟩)⟩ | ⟨q5,e4,⟨g8,q8⟩,e5,⟨g9,q9⟩,(⟨q10,v6_0,q11,(⟨q12,h⟩ | ⟨q12,h⟩)⟩ | ⟨q10,h⟩)⟩)⟩ | ⟨q1,h⟩
 all_goals (refine Eq.trans ?_ h;clear h;simp +decide [*,kk,Zmp,Zb0,Zo1,Ziz])
theorem Z32 (m:Zd) (q:Zc) (limit:Box) (Percent:Int) (Percent1:Int) (x:List Zb) (x1:List Int) (x2:List Int) (l:List Int) (grown:Bool) (k:Int) (r:AV×List Blk) (h:(0≤k∧(∃ (e1:Int),x1[k.toNat]?=some e1∧(∃ (e2:Int),limit.Low[k.toNat]?=some e2∧(if e2<e1 then (∃ (v3_0:Bool),Zd7 m q (⟨(⟨x⟩:Plan),(⟨(x1.set k.toNat (w (e1 - 1))),x2⟩:Box),Percent1⟩:Region)=some (Bo v3_0,[])∧(if v3_0=true then (Zb0 m q limit Percent Percent1 x (x1.set k.toNat (w (e1 - 1))) x2 l true (w (k+1))=some r) else (Zb0 m q limit Percent Percent1 x ((x1.set k.toNat (w (e1 - 1))).set k.toNat (w ((w (e1 - 1))+1))) x2 l grown (w (k+1))=some r))) else (Zb0 m q limit Percent Percent1 x x1 x2 l grown (w (k+1))=some r)))))):Zmp m q limit Percent Percent1 x x1 x2 l grown k=some r:=by
 unfold Zmp
 rw [Ev_eq Zo1.eq_1]
 simp only [Zd7,Box.c_def,Zd.c_def,Zi.c_def,Plan.c_def,Zc.c_def,Region.c_def,tI,mpl,dfs] at h
 try simp only [itb] at h
 try simp only [itf,gS,kk] at h
 rcases h with ⟨q1,e1,⟨g2,q2⟩,e2,⟨g3,q3⟩,(⟨q4,v3_0,q5,(⟨q6,h⟩ | ⟨q6,h⟩)⟩ | ⟨q4,h⟩)⟩
 all_goals (refine Eq.trans ?_ h;clear h;simp +decide [*,kk,Zb0])
theorem Zbg4 (Ze:Int) (VariableCount1:Int) (x:List Atom) (x1:Int) (x2:Int) (r:AV×List Blk) (h:(if x2<x1 then (0≤x2∧(∃ (e1:Atom),x[x2.toNat]?=some e1∧(∃ (v2_0:List Int),Zdg e1.Vars=some (.own 0,[.arr 3 1 true (v2_0.map ic)])∧(Zi0 Ze VariableCount1 ([(⟨e1.Name,v2_0⟩:Atom)]) x x1 (w (x2+1))=some r)))) else (some (.agg [I VariableCount1,.t .nil],[])=some r))):Zo5 Ze VariableCount1 x x1 x2=some r:=by
 unfold Zo5
 rw [EvL_eq Zmq.eq_1]
 simp only [Zdg,mpl,dfs] at h
 try simp only [itb] at h
 try simp only [itf,gS,kk] at h
 rcases h with ⟨q1,q2,e1,⟨g3,q3⟩,v2_0,q4,h⟩ | ⟨q1,h⟩
 all_goals (refine Eq.trans ?_ h;clear h;simp +decide [*,kk,Zi0,Zmr])
theorem Z33 (Ze:Int) (VariableCount1:Int) (x:List Atom) (x1:List Atom) (x2:Int) (x3:Int) (r:AV×List Blk) (h:(if x3<x2 then (0≤x3∧(∃ (e1:Atom),x1[x3.toNat]?=some e1∧(∃ (v2_0:List Int),Zdg e1.Vars=some (.own 0,[.arr 3 1 true (v2_0.map ic)])∧(x.length+1≤68719476736∧(Zi0 Ze VariableCount1 (x++[(⟨e1.Name,v2_0⟩:Atom)]) x1 x2 (w (x3+1))=some r))))) else (some (.agg [I VariableCount1,.own 0],[.arr 223 2 true (x.map Atom.c)])=some r))):Zi0 Ze VariableCount1 x x1 x2 x3=some r:=by
 unfold Zi0
 rw [EvL_eq Zmq.eq_1]
 simp only [Zdg,mpl,dfs] at h
 try simp only [itb] at h
 try simp only [itf,gS,kk] at h
 rcases h with ⟨q1,q2,e1,⟨g3,q3⟩,v2_0,q4,q5,h⟩ | ⟨q1,h⟩
 all_goals (refine Eq.trans ?_ h;clear h;simp +decide [*,kk,Zi0,Zmr])
theorem Zbg5 (a:Zc) (r:AV×List Blk) (h:(Zo5 0 a.Ze a.Atoms (a.Atoms.length:Int) 0=some r)):Zfr a=some r:=by
 unfold Zfr
 refine run Zbdd rfl ?_
 refine Eq.trans ?_ h;clear h;simp +decide [*,kk,Z1f,Zo5]
theorem Zbg6 (a:Box) (r:AV×List Blk) (h:(∃ (v1_0:List Int),Zdg a.Low=some (.own 0,[.arr 3 1 true (v1_0.map ic)])∧(∃ (v2_0:List Int),Zdg a.High=some (.own 0,[.arr 3 1 true (v2_0.map ic)])∧(some (.agg [.own 0,.own 1],[.arr 3 1 true (v1_0.map ic),.arr 3 1 true (v2_0.map ic)])=some r)))):Zms a=some r:=by
 unfold Zms
 refine run Zbde rfl ?_
 simp only [Zdg,mpl,dfs] at h
 rcases h with ⟨v1_0,q1,v2_0,q2,h⟩
 all_goals (refine Eq.trans ?_ h;clear h;simp +decide [*,kk,Z1g])
theorem Zbg7 (a:Region) (r:AV×List Blk) (h:(∃ (v1_0:List Zb),Zcy a.Plan=some (.agg [.own 0],[.arr 142 3 true (v1_0.map Zb.c)])∧(∃ (v2_0:List Int) (v2_1:List Int),Zms a.Box=some (.agg [.own 0,.own 1],[.arr 3 1 true (v2_0.map ic),.arr 3 1 true (v2_1.map ic)])∧(some (.agg [.own 0,.own 1,.own 2,I a.Percent],[.arr 142 3 true (v1_0.map Zb.c),.arr 3 1 true (v2_0.map ic),.arr 3 1 true (v2_1.map ic)])=some r)))):Zfs a=some r:=by
 unfold Zfs
 refine run Zbdf rfl ?_
 simp only [Zcy,Zms,Box.c_def,Plan.c_def,mpl,dfs] at h
 rcases h with ⟨v1_0,q1,v2_0,v2_1,q2,h⟩
 all_goals (refine Eq.trans ?_ h;clear h;simp +decide [*,kk,Z1h])
theorem Zbg8 (Clock:Int) (Clock1:Int) (x:List Zf) (x1:Int) (x2:Int) (r:AV×List Blk) (h:(if x2<x1 then (0≤x2∧(∃ (e1:Zf),x[x2.toNat]?=some e1∧((∃ (v2_0:Int),Zfr e1.Zc=some (.agg [I v2_0,.t .nil],[])∧(∃ (v3_0:List Zb) (v3_1:List Int) (v3_2:List Int) (v3_3:Int),Zfs e1.Region=some (.agg [.own 0,.own 1,.own 2,I v3_3],[.arr 142 3 true (v3_0.map Zb.c),.arr 3 1 true (v3_1.map ic),.arr 3 1 true (v3_2.map ic)])∧(Zft Clock Clock1 ([(⟨(⟨v2_0,[]⟩:Zc),(⟨(⟨v3_0⟩:Plan),(⟨v3_1,v3_2⟩:Box),v3_3⟩:Region),e1.Version,e1.Used⟩:Zf)]) x x1 (w (x2+1))=some r)))∨(∃ (v4_0:List Atom) (v4_1:Int),Zfr e1.Zc=some (.agg [I v4_1,.own 0],[.arr 223 2 true (v4_0.map Atom.c)])∧(∃ (v5_0:List Zb) (v5_1:List Int) (v5_2:List Int) (v5_3:Int),Zfs e1.Region=some (.agg [.own 0,.own 1,.own 2,I v5_3],[.arr 142 3 true (v5_0.map Zb.c),.arr 3 1 true (v5_1.map ic),.arr 3 1 true (v5_2.map ic)])∧(Zft Clock Clock1 ([(⟨(⟨v4_1,v4_0⟩:Zc),(⟨(⟨v5_0⟩:Plan),(⟨v5_1,v5_2⟩:Box),v5_3⟩:Region),e1.Version,e1.Used⟩:Zf)]) x x1 (w (x2+1))=some r)))))) else (some (.agg [I Clock1,.t .nil],[])=some r))):Zo6 Clock Clock1 x x1 x2=some r:=by
 unfold Zo6
 rw [EvL_eq Zmt.eq_1]
 simp only [Zfr,Zfs,Box.c_def,Plan.c_def,Zc.c_def,Region.c_def,mpl,dfs] at h
 try simp only [itb] at h
 try simp only [itf,gS,kk] at h
 rcases h with ⟨q1,q2,e1,⟨g3,q3⟩,(⟨v2_0,q5,v3_0,v3_1,v3_2,v3_3,q6,h⟩ | ⟨v4_0,v4_1,q7,v5_0,v5_1,v5_2,v5_3,q8,h⟩)⟩ | ⟨q1,h⟩
 all_goals (refine Eq.trans ?_ h;clear h;simp +decide [*,kk,Zft,Zmu])
theorem Z34 (Clock:Int) (Clock1:Int) (x:List Zf) (x1:List Zf) (x2:Int) (x3:Int) (r:AV×List Blk) (h:(if x3<x2 then (0≤x3∧(∃ (e1:Zf),x1[x3.toNat]?=some e1∧((∃ (v2_0:Int),Zfr e1.Zc=some (.agg [I v2_0,.t .nil],[])∧(∃ (v3_0:List Zb) (v3_1:List Int) (v3_2:List Int) (v3_3:Int),Zfs e1.Region=some (.agg [.own 0,.own 1,.own 2,I v3_3],[.arr 142 3 true (v3_0.map Zb.c),.arr 3 1 true (v3_1.map ic),.arr 3 1 true (v3_2.map ic)])∧(x.length+1≤68719476736∧(Zft Clock Clock1 (x++[(⟨(⟨v2_0,[]⟩:Zc),(⟨(⟨v3_0⟩:Plan),(⟨v3_1,v3_2⟩:Box),v3_3⟩:Region),e1.Version,e1.Used⟩:Zf)]) x1 x2 (w (x3+1))=some r))))∨(∃ (v4_0:List Atom) (v4_1:Int),Zfr e1.Zc=some (.agg [I v4_1,.own 0],[.arr 223 2 true (v4_0.map Atom.c)])∧(∃ (v5_0:List Zb) (v5_1:List Int) (v5_2:List Int) (v5_3:Int),Zfs e1.Region=some (.agg [.own 0,.own 1,.own 2,I v5_3],[.arr 142 3 true (v5_0.map Zb.c),.arr 3 1 true (v5_1.map ic),.arr 3 1 true (v5_2.map ic)])∧(x.length+1≤68719476736∧(Zft Clock Clock1 (x++[(⟨(⟨v4_1,v4_0⟩:Zc),(⟨(⟨v5_0⟩:Plan),(⟨v5_1,v5_2⟩:Box),v5_3⟩:Region),e1.Version,e1.Used⟩:Zf)]) x1 x2 (w (x3+1))=some r))))))) else (some (.agg [I Clock1,.own 0],[.arr 114 8 true (x.map Zf.c)])=some r))):Zft Clock Clock1 x x1 x2 x3=some r:=by
 unfold Zft
 rw [EvL_eq Zmt.eq_1]
 simp only [Zfr,Zfs,Box.c_def,Plan.c_def,Zc.c_def,Region.c_def,mpl,dfs] at h
 try simp only [itb] at h
 try simp only [itf,gS,kk] at h
 rcases h with ⟨q1,q2,e1,⟨g3,q3⟩,(⟨v2_0,q5,v3_0,v3_1,v3_2,v3_3,q6,q7,h⟩ | ⟨v4_0,v4_1,q8,v5_0,v5_1,v5_2,v5_3,q9,q10,h⟩)⟩ | ⟨q1,h⟩
 all_goals (refine Eq.trans ?_ h;clear h;simp +decide [*,kk,Zft,Zmu])
theorem Zbg9 (a:Zp) (r:AV×List Blk) (h:(Zo6 0 a.Clock a.Entries (a.Entries.length:Int) 0=some r)):Zjy a=some r:=by
 unfold Zjy
 refine run Zbdg rfl ?_
 refine Eq.trans ?_ h;clear h;simp +decide [*,kk,Z1i,Zo6]
theorem Zbha (q:Zc) (Ze:Int) (VariableCount1:Int) (i:Int) (r:AV×List Blk) (h:(if i<(q.Atoms.length:Int) then (0≤i∧(∃ (e1:Atom),q.Atoms[i.toNat]?=some e1∧(e1.Vars.length≤68719476736∧(Zi1 q Ze VariableCount1 ([e1]) (w (i+1))=some r)))) else (some (.agg [I VariableCount1,.t .nil],[])=some r))):Zo7 q Ze VariableCount1 i=some r:=by
 unfold Zo7
 rw [EvL_eq Zmv.eq_1]
 try simp only [itb] at h
 try simp only [itf,gS,kk] at h
 rcases h with ⟨q1,q2,e1,⟨g3,q3⟩,q4,h⟩ | ⟨q1,h⟩
 all_goals (refine Eq.trans ?_ h;clear h;simp +decide [*,kk,Zi1,Zmw])
theorem Z35 (q:Zc) (Ze:Int) (VariableCount1:Int) (x:List Atom) (i:Int) (r:AV×List Blk) (h:(if i<(q.Atoms.length:Int) then (0≤i∧(∃ (e1:Atom),q.Atoms[i.toNat]?=some e1∧(e1.Vars.length≤68719476736∧(x.length+1≤68719476736∧(Zi1 q Ze VariableCount1 (x++[e1]) (w (i+1))=some r))))) else (some (.agg [I VariableCount1,.own 0],[.arr 223 2 true (x.map Atom.c)])=some r))):Zi1 q Ze VariableCount1 x i=some r:=by
 unfold Zi1
 rw [EvL_eq Zmv.eq_1]
 try simp only [itb] at h
 try simp only [itf,gS,kk] at h
 rcases h with ⟨q1,q2,e1,⟨g3,q3⟩,q4,q5,h⟩ | ⟨q1,h⟩
 all_goals (refine Eq.trans ?_ h;clear h;simp +decide [*,kk,Zi1,Zmw])
theorem Zbhb (a:Zc) (r:AV×List Blk) (h:(Zo7 a 0 a.Ze 0=some r)):Zjz a=some r:=by
 unfold Zjz
 refine run Zbdh rfl ?_
 refine Eq.trans ?_ h;clear h;simp +decide [*,kk,Z1j,Zo7]
theorem Zbhc (a:Box) (r:AV×List Blk) (h:(a.Low.length≤68719476736∧(a.High.length≤68719476736∧(some (.agg [.own 0,.own 1],[.arr 3 1 true (a.Low.map ic),.arr 3 1 true (a.High.map ic)])=some r)))):Zmx a=some r:=by
 unfold Zmx
 refine run Zbdi rfl ?_
 rcases h with ⟨q1,q2,h⟩
 all_goals (refine Eq.trans ?_ h;clear h;simp +decide [*,kk,Z1k])
theorem Zbhd (a:Region) (r:AV×List Blk) (h:(a.Plan.Steps.length≤68719476736∧(∃ (v1_0:List Int) (v1_1:List Int),Zmx a.Box=some (.agg [.own 0,.own 1],[.arr 3 1 true (v1_0.map ic),.arr 3 1 true (v1_1.map ic)])∧(some (.agg [.own 0,.own 1,.own 2,I a.Percent],[.arr 142 3 true (a.Plan.Steps.map Zb.c),.arr 3 1 true (v1_0.map ic),.arr 3 1 true (v1_1.map ic)])=some r)))):Zj0 a=some r:=by
 unfold Zj0
 refine run Zbdj rfl ?_
 simp only [Zmx,Box.c_def,mpl,dfs] at h
 rcases h with ⟨q1,v1_0,v1_1,q2,h⟩
 all_goals (refine Eq.trans ?_ h;clear h;simp +decide [*,kk,Z1l])
theorem Z36 (a:Zf) (r:AV×List Blk) (h:((∃ (v1_0:Int),Zjz a.Zc=some (.agg [I v1_0,.t .nil],[])∧(∃ (v2_0:List Zb) (v2_1:List Int) (v2_2:List Int) (v2_3:Int),Zj0 a.Region=some (.agg [.own 0,.own 1,.own 2,I v2_3],[.arr 142 3 true (v2_0.map Zb.c),.arr 3 1 true (v2_1.map ic),.arr 3 1 true (v2_2.map ic)])∧(some (.agg [I v1_0,.t .nil,.own 0,.own 1,.own 2,I v2_3,I a.Version,I a.Used],[.arr 142 3 true (v2_0.map Zb.c),.arr 3 1 true (v2_1.map ic),.arr 3 1 true (v2_2.map ic)])=some r)))∨(∃ (v3_0:List Atom) (v3_1:Int),Zjz a.Zc=some (.agg [I v3_1,.own 0],[.arr 223 2 true (v3_0.map Atom.c)])∧(∃ (v4_0:List Zb) (v4_1:List Int) (v4_2:List Int) (v4_3:Int),Zj0 a.Region=some (.agg [.own 0,.own 1,.own 2,I v4_3],[.arr 142 3 true (v4_0.map Zb.c),.arr 3 1 true (v4_1.map ic),.arr 3 1 true (v4_2.map ic)])∧(some (.agg [I v3_1,.own 0,.own 1,.own 2,.own 3,I v4_3,I a.Version,I a.Used],[.arr 223 2 true (v3_0.map Atom.c),.arr 142 3 true (v4_0.map Zb.c),.arr 3 1 true (v4_1.map ic),.arr 3 1 true (v4_2.map ic)])=some r))))):Zcf a=some r:=by
 unfold Zcf
 refine run Zbdk rfl ?_
 simp only [Zjz,Zj0,Box.c_def,Plan.c_def,Zc.c_def,Region.c_def,mpl,dfs] at h
 rcases h with ⟨v1_0,q2,v2_0,v2_1,v2_2,v2_3,q3,h⟩ | ⟨v3_0,v3_1,q4,v4_0,v4_1,v4_2,v4_3,q5,h⟩
 all_goals (refine Eq.trans ?_ h;clear h;simp +decide [*,kk,Z1m])
theorem Zbhe (c:Zp) (Clock:Int) (Clock1:Int) (i:Int) (r:AV×List Blk) (h:(if i<(c.Entries.length:Int) then (0≤i∧(∃ (e1:Zf),c.Entries[i.toNat]?=some e1∧((∃ (v2_0:List Zb) (v2_1:List Int) (v2_2:List Int) (v2_3:Int) (v2_4:Int) (v2_5:Int) (v2_6:Int),Zcf e1=some (.agg [I v2_3,.t .nil,.own 0,.own 1,.own 2,I v2_4,I v2_5,I v2_6],[.arr 142 3 true (v2_0.map Zb.c),.arr 3 1 true (v2_1.map ic),.arr 3 1 true (v2_2.map ic)])∧(Zfu c Clock Clock1 ([(⟨(⟨v2_3,[]⟩:Zc),(⟨(⟨v2_0⟩:Plan),(⟨v2_1,v2_2⟩:Box),v2_4⟩:Region),v2_5,v2_6⟩:Zf)]) (w (i+1))=some r))∨(∃ (v3_0:List Atom) (v3_1:List Zb) (v3_2:List Int) (v3_3:List Int) (v3_4:Int) (v3_5:Int) (v3_6:Int) (v3_7:Int),Zcf e1=some (.agg [I v3_4,.own 0,.own 1,.own 2,.own 3,I v3_5,I v3_6,I v3_7],[.arr 223 2 true (v3_0.map Atom.c),.arr 142 3 true (v3_1.map Zb.c),.arr 3 1 true (v3_2.map ic),.arr 3 1 true (v3_3.map ic)])∧(Zfu c Clock Clock1 ([(⟨(⟨v3_4,v3_0⟩:Zc),(⟨(⟨v3_1⟩:Plan),(⟨v3_2,v3_3⟩:Box),v3_5⟩:Region),v3_6,v3_7⟩:Zf)]) (w (i+1))=some r))))) else (some (.agg [I Clock1,.t .nil],[])=some r))):Zo8 c Clock Clock1 i=some r:=by
 unfold Zo8
 rw [EvL_eq Zmy.eq_1]
 simp only [Zcf,Box.c_def,Zf.c_def,Plan.c_def,Zc.c_def,Region.c_def,mpl,dfs] at h
 try simp only [itb] at h
 try simp only [itf,gS,kk] at h
 rcases h with ⟨q1,q2,e1,⟨g3,q3⟩,(⟨v2_0,v2_1,v2_2,v2_3,v2_4,v2_5,v2_6,q5,h⟩ | ⟨v3_0,v3_1,v3_2,v3_3,v3_4,v3_5,v3_6,v3_7,q6,h⟩)⟩ | ⟨q1,h⟩
 all_goals (refine Eq.trans ?_ h;clear h;simp +decide [*,kk,Zfu,Zmz])
theorem Z37 (c:Zp) (Clock:Int) (Clock1:Int) (x:List Zf) (i:Int) (r:AV×List Blk) (h:(if i<(c.Entries.length:Int) then (0≤i∧(∃ (e1:Zf),c.Entries[i.toNat]?=some e1∧((∃ (v2_0:List Zb) (v2_1:List Int) (v2_2:List Int) (v2_3:Int) (v2_4:Int) (v2_5:Int) (v2_6:Int),Zcf e1=some (.agg [I v2_3,.t .nil,.own 0,.own 1,.own 2,I v2_4,I v2_5,I v2_6],[.arr 142 3 true (v2_0.map Zb.c),.arr 3 1 true (v2_1.map ic),.arr 3 1 true (v2_2.map ic)])∧(x.length+1≤68719476736∧(Zfu c Clock Clock1 (x++[(⟨(⟨v2_3,[]⟩:Zc),(⟨(⟨v2_0⟩:Plan),(⟨v2_1,v2_2⟩:Box),v2_4⟩:Region),v2_5,v2_6⟩:Zf)]) (w (i+1))=some r)))∨(∃ (v3_0:List Atom) (v3_1:List Zb) (v3_2:List Int) (v3_3:List Int) (v3_4:Int) (v3_5:Int) (v3_6:Int) (v3_7:Int),Zcf e1=some (.agg [I v3_4,.own 0,.own 1,.own 2,.own 3,I v3_5,I v3_6,I v3_7],[.arr 223 2 true (v3_0.map Atom.c),.arr 142 3 true (v3_1.map Zb.c),.arr 3 1 true (v3_2.map ic),.arr 3 1 true (v3_3.map ic)])∧(x.length+1≤68719476736∧(Zfu c Clock Clock1 (x++[(⟨(⟨v3_4,v3_0⟩:Zc),(⟨(⟨v3_1⟩:Plan),(⟨v3_2,v3_3⟩:Box),v3_5⟩:Region),v3_6,v3_7⟩:Zf)]) (w (i+1))=some r)))))) else (some (.agg [I Clock1,.own 0],[.arr 114 8 true (x.map Zf.c)])=some r))):Zfu c Clock Clock1 x i=some r:=by
 unfold Zfu
 rw [EvL_eq Zmy.eq_1]
 simp only [Zcf,Box.c_def,Zf.c_def,Plan.c_def,Zc.c_def,Region.c_def,mpl,dfs] at h
 try simp only [itb] at h
 try simp only [itf,gS,kk] at h
 rcases h with ⟨q1,q2,e1,⟨g3,q3⟩,(⟨v2_0,v2_1,v2_2,v2_3,v2_4,v2_5,v2_6,q5,q6,h⟩ | ⟨v3_0,v3_1,v3_2,v3_3,v3_4,v3_5,v3_6,v3_7,q7,q8,h⟩)⟩ | ⟨q1,h⟩
 all_goals (refine Eq.trans ?_ h;clear h;simp +decide [*,kk,Zfu,Zmz])
theorem Zbhf (a:Zp) (r:AV×List Blk) (h:(Zo8 a 0 a.Clock 0=some r)):Zj1 a=some r:=by
 unfold Zj1
 refine run Zbdl rfl ?_
 refine Eq.trans ?_ h;clear h;simp +decide [*,kk,Z1n,Zo8]
theorem Zbhg (a:Zd) (a1:Zp) (a2:Int) (r:AV×List Blk) (h:((∃ (v1_0:Int),Zjy a1=some (.agg [I v1_0,.t .nil],[])∧(∃ (v2_0:Bool),Zjx a a1=some (Bo v2_0,[])∧(if v2_0=true then (∃ (v3_0:Int),Zo9 a2=some (.t .nil,[.box [I v3_0]])∧(some (.tup [.agg [I v1_0,.t .nil],I (w ((a1.Entries.length:Int) - 0))],[])=some r)) else (some (.tup [.agg [I v1_0,.t .nil],I 0],[])=some r))))∨(∃ (v4_0:List Zf) (v4_1:Int),Zjy a1=some (.agg [I v4_1,.own 0],[.arr 114 8 true (v4_0.map Zf.c)])∧(∃ (v5_0:Bool),Zjx a a1=some (Bo v5_0,[])∧(if v5_0=true then (∃ (v6_0:Int) (v6_1:List Zf),Zpa v4_0 a2=some (.own 2,[.dead,.box [I v6_0],.arr 114 8 true (v6_1.map Zf.c)])∧(some (.tup [.agg [I v4_1,.own 0],I (w ((a1.Entries.length:Int) - (v6_1.length:Int)))],[.arr 114 8 true (v6_1.map Zf.c)])=some r)) else (some (.tup [.agg [I v4_1,.own 0],I 0],[.arr 114 8 true (v4_0.map Zf.c)])=some r)))))):Zpb a a1 a2=some r:=by
 unfold Zpb
 refine run Zbdm rfl ?_
 simp only [Zjy,Zjx,Zo9,Zpa,Box.c_def,Zf.c_def,Zd.c_def,Zi.c_def,Plan.c_def,Zp.c_def,Zc.c_def,Region.c_def,mpl,dfs] at h
 try simp only [itb] at h
 try simp only [itf,gS,kk] at h
 rcases h with ⟨v1_0,q2,v2_0,q3,(⟨q4,v3_0,q5,h⟩ | ⟨q4,h⟩)⟩ | ⟨v4_0,v4_1,q6,v5_0,q7,(⟨q8,v6_0,v6_1,q9,h⟩ | ⟨q8,h⟩)⟩
 all_goals (refine Eq.trans ?_ h;clear h;simp +decide [*,kk,Z1o])
theorem Z38 (c:Zp) (Clock:Int) (Clock1:Int) (version:Int) (i:Int) (r:AV×List Blk) (h:(if i<(c.Entries.length:Int) then (0≤i∧(∃ (e1:Zf),c.Entries[i.toNat]?=some e1∧(if e1.Version=version then ((∃ (v2_0:List Zb) (v2_1:List Int) (v2_2:List Int) (v2_3:Int) (v2_4:Int) (v2_5:Int) (v2_6:Int),Zcf e1=some (.agg [I v2_3,.t .nil,.own 0,.own 1,.own 2,I v2_4,I v2_5,I v2_6],[.arr 142 3 true (v2_0.map Zb.c),.arr 3 1 true (v2_1.map ic),.arr 3 1 true (v2_2.map ic)])∧(Zer c Clock Clock1 ([(⟨(⟨v2_3,[]⟩:Zc),(⟨(⟨v2_0⟩:Plan),(⟨v2_1,v2_2⟩:Box),v2_4⟩:Region),v2_5,v2_6⟩:Zf)]) version (w (i+1))=some r))∨(∃ (v3_0:List Atom) (v3_1:List Zb) (v3_2:List Int) (v3_3:List Int) (v3_4:Int) (v3_5:Int) (v3_6:Int) (v3_7:Int),Zcf e1=some (.agg [I v3_4,.own 0,.own 1,.own 2,.own 3,I v3_5,I v3_6,I v3_7],[.arr 223 2 true (v3_0.map Atom.c),.arr 142 3 true (v3_1.map Zb.c),.arr 3 1 true (v3_2.map ic),.arr 3 1 true (v3_3.map ic)])∧(Zer c Clock Clock1 ([(⟨(⟨v3_4,v3_0⟩:Zc),(⟨(⟨v3_1⟩:Plan),(⟨v3_2,v3_3⟩:Box),v3_5⟩:Region),v3_6,v3_7⟩:Zf)]) version (w (i+1))=some r))) else (Zi2 c Clock Clock1 version (w (i+1))=some r)))) else (some (.tup [.agg [I Clock1,.t .nil],I (w ((c.Entries.length:Int) - 0))],[])=some r))):Zi2 c Clock Clock1 version i=some r:=by
 unfold Zi2
 rw [EvL_eq Zm0.eq_1]
 simp only [Zcf,Box.c_def,Zf.c_def,Plan.c_def,Zc.c_def,Region.c_def,mpl,dfs] at h
 try simp only [itb] at h
 try simp only [itf,gS,kk] at h
 rcases h with ⟨q1,q2,e1,⟨g3,q3⟩,(⟨q4,(⟨v2_0,v2_1,v2_2,v2_3,v2_4,v2_5,v2_6,q6,h⟩ | ⟨v3_0,v3_1,v3_2,v3_3,v3_4,v3_5,v3_6,v3_7,q7,h⟩)⟩ | ⟨q4,h⟩)⟩ | ⟨q1,h⟩
 all_goals (refine Eq.trans ?_ h;clear h;simp +decide [*,kk,Zer,Zug,Zi2,Zm1])
theorem Z39 (c:Zp) (Clock:Int) (Clock1:Int) (x:List Zf) (version:Int) (i:Int) (r:AV×List Blk) (h:(if i<(c.Entries.length:Int) then (0≤i∧(∃ (e1:Zf),c.Entries[i.toNat]?=some e1∧(if e1.Version=version then ((∃ (v2_0:List Zb) (v2_1:List Int) (v2_2:List Int) (v2_3:Int) (v2_4:Int) (v2_5:Int) (v2_6:Int),Zcf e1=some (.agg [I v2_3,.t .nil,.own 0,.own 1,.own 2,I v2_4,I v2_5,I v2_6],[.arr 142 3 true (v2_0.map Zb.c),.arr 3 1 true (v2_1.map ic),.arr 3 1 true (v2_2.map ic)])∧(x.length+1≤68719476736∧(Zer c Clock Clock1 (x++[(⟨(⟨v2_3,[]⟩:Zc),(⟨(⟨v2_0⟩:Plan),(⟨v2_1,v2_2⟩:Box),v2_4⟩:Region),v2_5,v2_6⟩:Zf)]) version (w (i+1))=some r)))∨(∃ (v3_0:List Atom) (v3_1:List Zb) (v3_2:List Int) (v3_3:List Int) (v3_4:Int) (v3_5:Int) (v3_6:Int) (v3_7:Int),Zcf e1=some (.agg [I v3_4,.own 0,.own 1,.own 2,.own 3,I v3_5,I v3_6,I v3_7],[.arr 223 2 true (v3_0.map Atom.c),.arr 142 3 true (v3_1.map Zb.c),.arr 3 1 true (v3_2.map ic),.arr 3 1 true (v3_3.map ic)])∧(x.length+1≤68719476736∧(Zer c Clock Clock1 (x++[(⟨(⟨v3_4,v3_0⟩:Zc),(⟨(⟨v3_1⟩:Plan),(⟨v3_2,v3_3⟩:Box),v3_5⟩:Region),v3_6,v3_7⟩:Zf)]) version (w (i+1))=some r)))) else (Zer c Clock Clock1 x version (w (i+1))=some r)))) else (some (.tup [.agg [I Clock1,.own 0],I (w ((c.Entries.length:Int) - (x.length:Int)))],[.arr 114 8 true (x.map Zf.c)])=some r))):Zer c Clock Clock1 x version i=some r:=by
 unfold Zer
 rw [EvL_eq Zm0.eq_1]
 simp only [Zcf,Box.c_def,Zf.c_def,Plan.c_def,Zc.c_def,Region.c_def,mpl,dfs] at h
 try simp only [itb] at h
 try simp only [itf,gS,kk] at h
 rcases h with ⟨q1,q2,e1,⟨g3,q3⟩,(⟨q4,(⟨v2_0,v2_1,v2_2,v2_3,v2_4,v2_5,v2_6,q6,q7,h⟩ | ⟨v3_0,v3_1,v3_2,v3_3,v3_4,v3_5,v3_6,v3_7,q8,q9,h⟩)⟩ | ⟨q4,h⟩)⟩ | ⟨q1,h⟩
 all_goals (refine Eq.trans ?_ h;clear h;simp +decide [*,kk,Zer,Zug,Zm1])
theorem Zbhh (a:Zd) (a1:Zp) (a2:Int) (r:AV×List Blk) (h:(∃ (v1_0:Bool),Zmn a a1=some (Bo v1_0,[])∧(if v1_0=true then (Zi2 a1 0 a1.Clock a2 0=some r) else ((∃ (v2_0:Int),Zj1 a1=some (.agg [I v2_0,.t .nil],[])∧(some (.tup [.agg [I v2_0,.t .nil],I 0],[])=some r))∨(∃ (v3_0:List Zf) (v3_1:Int),Zj1 a1=some (.agg [I v3_1,.own 0],[.arr 114 8 true (v3_0.map Zf.c)])∧(some (.tup [.agg [I v3_1,.own 0],I 0],[.arr 114 8 true (v3_0.map Zf.c)])=some r)))))):Zpc a a1 a2=some r:=by
 unfold Zpc
 refine run Zbdn rfl ?_
 simp only [Zmn,Zj1,Zd.c_def,Zi.c_def,Zp.c_def,mpl,dfs] at h
 try simp only [itb] at h
 try simp only [itf,gS,kk] at h
 rcases h with ⟨v1_0,q1,(⟨q2,h⟩ | ⟨q2,(⟨v2_0,q4,h⟩ | ⟨v3_0,v3_1,q5,h⟩)⟩)⟩
 all_goals (refine Eq.trans ?_ h;clear h;simp +decide [*,kk,Z1p,Zi2])
@[simp] theorem Zcr (a b c:Int):Zy a b c=some (Bo (inR a b c),[]):=by
 refine Zbdo _ _ _ _ ?_
 by_cases h:b≤a <;> simp [inR,h]
@[simp] theorem Zd9 (a b c:Int):Z1 a b c=some (Bo (inR a b c),[]):=by
 refine Zbe9 _ _ _ _ ?_
 by_cases h:b≤a <;> simp [inR,h]
theorem lIndexI (xs:List Int) (v:Int) (hx:Le xs):∀ i,i≤xs.length →
  Zhp xs v xs.length i=some (I (Zcv (fun x=>decide (v=x)) (xs.drop i) i),[]):=by
 refine down _ ?_ ?_
 ·refine Z1r _ _ _ _ _ ?_
  simp [Zcv]
 ·intro i hi ih
  refine Z1r _ _ _ _ _ ?_
  have h4:=inc64 (i:=i) (by omega)
  rw [Zww _ hi]
  simp at ih
  by_cases e:v=xs[i] <;> simp [hi,h4,e,ih]
@[simp] theorem xIndexI (xs:List Int) (v:Int) (hx:Le xs):Zkt xs v=some (I (Zcv (fun x=>decide (v=x)) xs 0),[]):=by
 refine Zbdq _ _ _ ?_
 have:=lIndexI xs v hx 0 (Nat.zero_le _)
 simpa using this
@[simp] theorem Zm3 (xs:List Int) (v:Int) (hx:Le xs):Zdf xs v=some (Bo (has xs v),[]):=by
 refine Zbdr _ _ _ ?_
 unfold has
 rcases tf (xs.any (fun x=>decide (v=x))) with e | e
 ·simp [hx,Zwx _ _ _ e,e]
 ·have:=Zwy _ _ 0 e
  simp [hx,this,e]
theorem lIndexB (xs:List Bool) (v:Bool) (hx:Le xs):∀ i,i≤xs.length →
  Zhq xs v xs.length i=some (I (Zcv (fun x=>v == x) (xs.drop i) i),[]):=by
 refine down _ ?_ ?_
 ·refine Z1s _ _ _ _ _ ?_
  simp [Zcv]
 ·intro i hi ih
  refine Z1s _ _ _ _ _ ?_
  have h4:=inc64 (i:=i) (by omega)
  rw [Zww _ hi]
  simp at ih
  by_cases e:v=xs[i] <;> simp [hi,h4,e,ih]
@[simp] theorem Zbhi (xs:List Bool) (v:Bool) (hx:Le xs):Zkv xs v=some (Bo (xs.any (fun x=>v == x)),[]):=by
 refine Zbdt _ _ _ ?_
 have q:Zku xs v=some (I (Zcv (fun x=>v == x) xs 0),[]):=by
  refine Zbds _ _ _ ?_
  have:=lIndexB xs v hx 0 (Nat.zero_le _)
  simpa using this
 rcases tf (xs.any (fun x=>v == x)) with e | e
 ·rw [Zwx _ _ _ e] at q
  rw [e];simp [q]
 ·have:=Zwy _ _ 0 e
  rw [e];simp [q,this]
theorem l_l7Has (xs:List Int) (v:Int) (hx:Le xs):∀ i,i≤xs.length→Zib xs v i=some (Bo (has (xs.drop i) v),[]):=by
 unfold has
 refine down _ ?_ ?_
 ·refine Z26 _ _ _ _ ?_
  simp
 ·intro i hi ih
  refine Z26 _ _ _ _ ?_
  have h4:=inc64 (i:=i) (by omega)
  rw [drop_any _ hi]
  simp at ih
  by_cases e:v=xs[i]
  ·simp [hi,h4,← e]
  ·have e':¬ xs[i]=v:=fun hc=>e hc.symm
   simp [hi,h4,e,e',ih]
@[simp] theorem Z4a (xs:List Int) (v:Int) (hx:Le xs):Zia xs v=some (Bo (has xs v),[]):=by
 refine Zbfl _ _ _ ?_
 have:=l_l7Has xs v hx 0 (Nat.zero_le _)
 simpa using this
theorem nm_aux (s:ByteArray) (P:Prop):(if (s.size:Int)=1 then (∃ (b1:UInt8),s[0]?=some b1∧(if 97≤(b1.toNat:Int) then (some (Bo (decide ((b1.toNat:Int)≤122)),[])=some (Bo (nmOk s),([]:List Blk))) else (some (Bo false,[])=some (Bo (nmOk s),([]:List Blk))))) else (some (Bo false,[])=some (Bo (nmOk s),([]:List Blk)))):=by
 by_cases h:s.size=1
 ·obtain ⟨b,hb⟩:=get0 h
  rw [if_pos (by omega)]
  refine ⟨b,hb,?_⟩
  have e:nmOk s=(decide (97≤(b.toNat:Int)) && decide ((b.toNat:Int)≤122)):=by
   unfold nmOk;rw [hb];simp only [h,decide_true,Bool.true_and]
  by_cases h1:(97:Int)≤(b.toNat:Int)
  ·rw [if_pos h1,e,decide_eq_true h1,Bool.true_and]
  ·rw [if_neg h1,e,decide_eq_false h1,Bool.false_and]
 ·have h':¬ (s.size:Int)=1:=by omega
  have:nmOk s=false:=by unfold nmOk;split <;> simp [h]
  simp [h',this]
@[simp] theorem x_nameOk (s:ByteArray):Zks s=some (Bo (nmOk s),[]):=Zbdp _ _ (nm_aux s True)
@[simp] theorem x_l4Name (s:ByteArray):Zlr s=some (Bo (nmOk s),[]):=Zbfk _ _ (nm_aux s True)
def LeQ (q:Zc):Prop:=Le q.Atoms∧∀ a∈q.Atoms,Le a.Vars
def blB (p:Nat→Bool) (n:Nat):List Bool:=(List.range n).map p
theorem blB_set (p:Nat→Bool) (n:Nat) {v:Int} (h:inR v 0 ((n:Int) - 1)=true):(blB p n).set v.toNat true=blB (addV p [v]) n:=by
 simp [inR] at h
 apply List.ext_getElem
 ·simp [blB]
 ·intro i h1 h2
  simp only [blB,List.length_set,List.length_map,List.length_range] at h1
  rw [List.getElem_set]
  simp only [blB,List.getElem_map,List.getElem_range]
  by_cases e:v.toNat=i
  ·have:(i:Int)=v:=by omega
   simp [e,addV,has,this]
  ·have:¬ (i:Int)=v:=by omega
   simp [e,addV,has,this]
theorem Zbhj (q:Zc) (n:Nat) (hn:n≤4) (hq:q.Ze=n) (a:Atom) (qa:List Atom) (l j:Int) (hv:Le a.Vars) (r:AV×List Blk):∀ k,k≤a.Vars.length→∀ p,
  (if Zc7 n (a.Vars.take k) (a.Vars.drop k)=true then Zf2 q (blB (addV p (a.Vars.drop k)) n) qa l (w (j+1))=some r else some (Bo false,[])=some r) →
  Zhr q (blB p n) a qa l j a.Vars a.Vars.length k=some r:=by
 refine down _ ?_ ?_
 ·intro p h
  refine Z1u _ _ _ _ _ _ _ _ _ _ ?_
  simpa [Zc7,Zql] using h
 ·intro k hk ih p h
  have h4:=inc64 (i:=k) (by omega)
  have hw:w (q.Ze - 1)=(n:Int) - 1:=by rw [hq];exact wrap64 (by omega) (by omega)
  have hl:=Zm3 (a.Vars.take k) a.Vars[k] (by simp;omega)
  refine Z1u _ _ _ _ _ _ _ _ _ _ ?_
  rw [Zwz _ hk] at h
  rcases tf (inR a.Vars[k] 0 ((n:Int) - 1)) with e1 | e1
  ·simp [e1] at h
   simp [hk,h4,hw,e1,← h]
  ·rcases tf (has (a.Vars.take k) a.Vars[k]) with e2 | e2
   ·rw [Zqm p hk] at h
    simp only [e1,e2,Bool.true_and,Bool.not_false] at h
    have ih:=ih _ h
    have e0:=e1
    simp [inR] at e0
    have e5:(a.Vars[k]).toNat<(blB p n).length:=by simp [blB];omega
    have e6:=blB_set p n e1
    have e7:k≤a.Vars.length:=by omega
    simp at ih
    simp [hk,h4,hw,e1,e2,hl,e0,e5,e6,e7,ih]
   ·simp [e1,e2] at h
    have e7:k≤a.Vars.length:=by omega
    simp [hk,h4,hw,e1,e2,hl,e7,← h]
theorem Zbhk (q:Zc) (n:Nat) (hn:n≤4) (hq:q.Ze=n) (qa:List Atom) (hl:Le qa) (hv:∀ a∈qa,Le a.Vars):∀ k,k≤qa.length→∀ p,
  Zf2 q (blB p n) qa qa.length k=some (Bo ((qa.drop k).all (Zbw n) && (List.range n).all (addA p (qa.drop k))),[]):=by
 refine down _ ?_ ?_
 ·intro p
  refine Z1t _ _ _ _ _ _ ?_
  have e:addA p []=p:=by funext u;simp [addA]
  have q1:=Zbhi (blB p n) false (by simp [blB];omega)
  have q2:(blB p n).any (fun x=>false == x)=!(List.range n).all p:=bl_any p n
  rw [q2] at q1
  simp [q1,e]
 ·intro k hk ih p
  refine Z1t _ _ _ _ _ _ ?_
  have h4:=inc64 (i:=k) (by omega)
  rw [Zkn _ hk]
  rcases tf (nmOk qa[k].Name) with e1 | e1
  ·simp [hk,e1,Zbw]
  rcases tf (inR qa[k].Vars.length 1 3) with e2 | e2
  ·simp [hk,e1,e2,Zbw]
  have b:=Zbhj q n hn hq qa[k] qa qa.length k (hv _ (List.getElem_mem hk)) (Bo (Zbw n qa[k] && (qa.drop (k+1)).all (Zbw n) && (List.range n).all (addA p (qa.drop k))),[]) 0 (Nat.zero_le _) p ?_
  ·simp at b
   simp [hk,e1,e2,b]
  ·simp only [List.take_zero,List.drop_zero,Zbw,e1,e2,Bool.true_and]
   rcases tf (Zc7 n [] qa[k].Vars) with e3 | e3
   ·simp [e3]
   ·have ih:=ih (addV p qa[k].Vars)
    simp only [e3,if_true,Bool.true_and,Zw0 p hk]
    simp at ih
    rw [show w ((k:Int)+1)=(k:Int)+1 from h4,ih]
@[simp] theorem Zm4 (q:Zc) (h:LeQ q):Zc8 q=some (Bo (Zn q.Ze q.Atoms),[]):=by
 refine Zbdu _ _ ?_
 unfold Zn
 rcases tf (inR q.Ze 1 4) with e1 | e1
 ·simp [e1]
 rcases tf (inR q.Atoms.length 1 4) with e2 | e2
 ·simp [e1,e2]
 have e0:=e1
 simp [inR] at e0
 have hn:q.Ze=(q.Ze.toNat:Int):=by omega
 have b:=Zbhk q q.Ze.toNat (by omega) hn q.Atoms h.1 h.2 0 (Nat.zero_le _) (fun _=>false)
 have r1:q.Ze.toNat≤room:=room2 (by omega)
 have r2:q.Ze≤room:=by
  have:(q.Ze.toNat:Int)≤room:=by exact_mod_cast r1
  omega
 have r3:q.Ze≤140737488355328:=by omega
 have ez:blB (fun _=>false) q.Ze.toNat=List.replicate q.Ze.toNat false:=by
  apply List.ext_getElem <;> simp [blB]
 rw [ez,← hn] at b
 simp at b
 simp [e1,e2,e0,r1,r2,r3,b]
 omega
theorem Zbhl (q:Zc) (n:Nat) (hn1:1≤n) (hn:n≤4) (hq:q.Ze=n) (a:Atom) (j:Int) (hv:Le a.Vars) (r:AV×List Blk):∀ k,k≤a.Vars.length→∀ p,
  (if Zc7 n (a.Vars.take k) (a.Vars.drop k)=true then Zgr q (Z0 (addV p (a.Vars.drop k))) (w (j+1))=some r else some (Bo false,[])=some r) →
  Zic q a (Z0 p) j k=some r:=by
 refine down _ ?_ ?_
 ·intro p h
  refine Z28 _ _ _ _ _ _ ?_
  simpa [Zc7,Zql] using h
 ·intro k hk ih p h
  have h4:=inc64 (i:=k) (by omega)
  have hw:w (q.Ze - 1)=(n:Int) - 1:=by rw [hq];exact wrap64 (by omega) (by omega)
  have hl:=Z4a (a.Vars.take k) a.Vars[k] (by simp;omega)
  have e7:k≤a.Vars.length:=by omega
  refine Z28 _ _ _ _ _ _ ?_
  rw [Zwz _ hk] at h
  rcases tf (inR a.Vars[k] 0 ((n:Int) - 1)) with e1 | e1
  ·simp [e1] at h
   simp [hk,h4,hw,e1,← h]
  ·rcases tf (has (a.Vars.take k) a.Vars[k]) with e2 | e2
   ·rw [Zqm p hk] at h
    simp only [e1,e2,Bool.true_and,Bool.not_false] at h
    have ih:=ih _ h
    have e0:=e1
    simp [inR] at e0
    have e6:=Zny p (v:=a.Vars[k]) (by simp [inR];omega)
    have e8:¬ a.Vars[k]<0:=by omega
    simp at ih
    simp [hk,h4,hw,e1,e2,hl,e0,e6,e7,e8,ih]
   ·simp [e1,e2] at h
    simp [hk,h4,hw,e1,e2,hl,e7,← h]
def Zm5 (n:Int) (p:Nat→Bool):Bool:=decide (Z0 p=w (shlI 1 n - 1))
theorem Zbhm (q:Zc) (n:Nat) (hn1:1≤n) (hn:n≤4) (hq:q.Ze=n) (hl:Le q.Atoms) (hv:∀ a∈q.Atoms,Le a.Vars):∀ k,k≤q.Atoms.length→∀ p,
  Zgr q (Z0 p) k=some (Bo ((q.Atoms.drop k).all (Zbw n) && Zm5 n (addA p (q.Atoms.drop k))),[]):=by
 refine down _ ?_ ?_
 ·intro p
  refine Z27 _ _ _ _ ?_
  have e:addA p []=p:=by funext u;simp [addA]
  have h0:¬ (n:Int)<0:=by omega
  simp [e,hq,h0,Zm5]
 ·intro k hk ih p
  refine Z27 _ _ _ _ ?_
  have h4:=inc64 (i:=k) (by omega)
  rw [Zkn _ hk]
  rcases tf (nmOk q.Atoms[k].Name) with e1 | e1
  ·simp [hk,e1,Zbw]
  rcases tf (inR q.Atoms[k].Vars.length 1 3) with e2 | e2
  ·simp [hk,e1,e2,Zbw]
  have b:=Zbhl q n hn1 hn hq q.Atoms[k] k (hv _ (List.getElem_mem hk)) (Bo (Zbw n q.Atoms[k] && (q.Atoms.drop (k+1)).all (Zbw n) && Zm5 n (addA p (q.Atoms.drop k))),[]) 0 (Nat.zero_le _) p ?_
  ·simp at b
   simp [hk,e1,e2,b]
  ·simp only [List.take_zero,List.drop_zero,Zbw,e1,e2,Bool.true_and]
   rcases tf (Zc7 n [] q.Atoms[k].Vars) with e3 | e3
   ·simp [e3]
   ·have ih:=ih (addV p q.Atoms[k].Vars)
    simp only [e3,if_true,Bool.true_and,Zw0 p hk]
    simp at ih
    rw [show w ((k:Int)+1)=(k:Int)+1 from h4,ih]
@[simp] theorem Zph (q:Zc) (h:LeQ q):Zd2 q=some (Bo (Zn q.Ze q.Atoms),[]):=by
 refine Zbfm _ _ ?_
 unfold Zn
 rcases tf (inR q.Ze 1 4) with e1 | e1
 ·simp [e1]
 rcases tf (inR q.Atoms.length 1 4) with e2 | e2
 ·simp [e1,e2]
 have e0:=e1
 simp [inR] at e0
 obtain ⟨k,hk⟩:∃ k:Nat,q.Ze=k:=⟨q.Ze.toNat,by omega⟩
 have b:=Zbhm q k (by omega) (by omega) hk h.1 h.2 0 (Nat.zero_le _) (fun _=>false)
 have ez:Z0 (fun _=>false)=0:=rfl
 rw [ez] at b
 simp only [List.drop_zero,Int.ofNat_zero] at b
 have e3:(q.Atoms.all (Zbw k) && Zm5 k (addA (fun _=>false) q.Atoms))=(q.Atoms.all (Zbw k) && (List.range k).all (addA (fun _=>false) q.Atoms)):=by
  rcases tf (q.Atoms.all (Zbw k)) with e3 | e3
  ·simp [e3]
  ·have hk':k=1∨k=2∨k=3∨k=4:=by omega
   have hz:=all_in e3
   have hz':∀ u:Nat,k≤u→addA (fun _=>false) q.Atoms u=false:=fun u hu=>by simp only [addA,Bool.false_or];exact hz u (by omega)
   rw [e3,Bool.true_and,Bool.true_and,Bool.eq_iff_iff,Zm5,decide_eq_true_eq,Z0]
   rcases hk' with rfl | rfl | rfl | rfl
   ·simp [shlI,wrap64,Znz,hz' 1 (by omega),hz' 2 (by omega),hz' 3 (by omega),List.range_succ]
   ·simp [shlI,wrap64,Znz,hz' 2 (by omega),hz' 3 (by omega),List.range_succ]
   ·simp [shlI,wrap64,Znz,hz' 3 (by omega),List.range_succ,and_assoc]
   ·simp [shlI,wrap64,Znz,List.range_succ,and_assoc]
 rw [e3] at b
 rw [hk] at e1
 simp only [Zd9,Option.some.injEq,Prod.mk.injEq,AV.t.injEq,T.bool.injEq,and_true,exists_eq_left',e1,e2,if_true,b,hk,Int.toNat_natCast]
 simp
@[simp] theorem Zg8 (q:Zc) (h:LeQ q):Zb5 q=some (I (Zw q.Ze q.Atoms),[]):=by
 refine Zbdy _ _ ?_
 have q1:=Zm4 q h
 unfold Zw
 rcases tf (Zn q.Ze q.Atoms) with e | e
 ·simp [q1,e]
 ·have:=(Zhj e).2.2.1
  have h0:¬ ((q.Atoms.length:Int)<0):=by omega
  simp [q1,e,this,h0]
@[simp] theorem Zm6 (q:Zc) (h:LeQ q):Zc9 q=some (I (Zw q.Ze q.Atoms),[]):=by
 refine Zbfn _ _ ?_
 have q1:=Zph q h
 unfold Zw
 rcases tf (Zn q.Ze q.Atoms) with e | e
 ·simp [q1,e]
 ·have:=(Zhj e).2.2.1
  have h0:¬ ((q.Atoms.length:Int)<0):=by omega
  simp [q1,e,this,h0]
theorem Zbhn (xs:List Int) (hx:Le xs):∀ i,i≤xs.length→Zig xs i=some (Bo (Zbo (xs.drop i) && decide ((xs.length:Int)≤16)),[]):=by
 refine down _ ?_ ?_
 ·refine Z3c _ _ _ ?_
  simp [Zbo]
 ·intro i hi ih
  refine Z3c _ _ _ ?_
  have h4:=inc64 (i:=i) (by omega)
  rw [Zwt hi]
  simp at ih
  rcases tf (inR xs[i] 0 7) with h | h <;> simp [hi,h4,h,ih]
@[simp] theorem Zpi (xs:List Int) (hx:Le xs):Zgt xs=some (Bo (Z9 xs),[]):=by
 refine Zbft _ _ ?_
 have:=Zbhn xs hx 0 (Nat.zero_le _)
 simpa [Z9] using this
theorem Zbho (xs:List Int) (hx:Le xs):∀ i,i≤xs.length→Zhs xs xs xs.length i=some (Bo (Zbo (xs.drop i) && decide ((xs.length:Int)≤16)),[]):=by
 refine down _ ?_ ?_
 ·refine Z1v _ _ _ _ _ ?_
  simp [Zbo]
 ·intro i hi ih
  refine Z1v _ _ _ _ _ ?_
  have h4:=inc64 (i:=i) (by omega)
  rw [Zwt hi]
  simp at ih
  rcases tf (inR xs[i] 0 7) with h | h <;> simp [hi,h4,h,ih]
@[simp] theorem Zpj (xs:List Int) (hx:Le xs):Zf3 xs=some (Bo (Z9 xs),[]):=by
 refine Zbdv _ _ ?_
 have:=Zbho xs hx 0 (Nat.zero_le _)
 simpa [Z9] using this
theorem Zbhp (xs ys:List Int) (hx:Le xs) (hl:ys.length=xs.length):∀ i,i≤xs.length→Zih xs ys i=some (Bo (Z3 (xs.drop i) (ys.drop i)),[]):=by
 refine down _ ?_ ?_
 ·refine Z3d _ _ _ _ ?_
  simp [Z3]
 ·intro i hi ih
  refine Z3d _ _ _ _ ?_
  have hi2:i<ys.length:=by omega
  have h4:=inc64 (i:=i) (by omega)
  rw [Zwu hi hi2]
  simp at ih
  by_cases h:xs[i]<ys[i]
  ·simp [hi,hi2,h4,h,show ¬ ys[i]≤xs[i] by omega]
  ·simp [hi,hi2,h4,h,show ys[i]≤xs[i] by omega,ih]
@[simp] theorem Zur (xs ys:List Int) (hx:Le xs):Zgu xs ys=some (Bo (dom xs ys),[]):=by
 refine Zbfu _ _ _ ?_
 by_cases hl:ys.length=xs.length
 ·have:=Zbhp xs ys hx hl 0 (Nat.zero_le _)
  simp at this
  simp [hl,this,dom]
 ·have h2:¬ ((xs.length:Int)=ys.length):=by omega
  have h1:¬ (xs.length=ys.length):=by omega
  simp [h1,h2,dom]
theorem Zbhq (xs ys:List Int) (hx:Le xs) (hl:ys.length=xs.length):∀ i,i≤xs.length→Zht xs ys xs.length i=some (Bo (Z3 (xs.drop i) (ys.drop i)),[]):=by
 refine down _ ?_ ?_
 ·refine Z1w _ _ _ _ _ ?_
  simp [Z3]
 ·intro i hi ih
  refine Z1w _ _ _ _ _ ?_
  have hi2:i<ys.length:=by omega
  have h4:=inc64 (i:=i) (by omega)
  rw [Zwu hi hi2]
  simp at ih
  by_cases h:xs[i]<ys[i]
  ·simp [hi,hi2,h4,h,show ¬ ys[i]≤xs[i] by omega]
  ·simp [hi,hi2,h4,h,show ys[i]≤xs[i] by omega,ih]
@[simp] theorem Zus (xs ys:List Int) (hx:Le xs):Zf4 xs ys=some (Bo (dom xs ys),[]):=by
 refine Zbdw _ _ _ ?_
 by_cases hl:ys.length=xs.length
 ·have:=Zbhq xs ys hx hl 0 (Nat.zero_le _)
  simp at this
  simp [hl,this,dom]
 ·have h2:¬ ((xs.length:Int)=ys.length):=by omega
  have h1:¬ (xs.length=ys.length):=by omega
  simp [h1,h2,dom]
def LeX (b:Box):Prop:=Le b.Low∧Le b.High
@[simp] theorem Zut (b:Box) (h:LeX b):Ze0 b=some (Bo (Zbf b.Low b.High),[]):=by
 refine Zbdx _ _ ?_
 have q1:=Zpj b.Low h.1
 have q2:=Zpj b.High h.2
 have q3:=Zus b.High b.Low h.2
 unfold Zbf
 rcases tf (Z9 b.Low) with e1 | e1 <;> rcases tf (Z9 b.High) with e2 | e2 <;> by_cases e3:0<b.Low.length <;> simp [q1,q2,q3,e1,e2,e3]
@[simp] theorem Zuu (b:Box) (h:LeX b):Zfn b=some (Bo (Zbf b.Low b.High),[]):=by
 refine Zbfv _ _ ?_
 have q1:=Zpi b.Low h.1
 have q2:=Zpi b.High h.2
 have q3:=Zur b.High b.Low h.2
 unfold Zbf
 rcases tf (Z9 b.Low) with e1 | e1 <;> rcases tf (Z9 b.High) with e2 | e2 <;> by_cases e3:0<b.Low.length <;> simp [q1,q2,q3,e1,e2,e3]
theorem l_volume (b:Box) (hv:Zbf b.Low b.High=true):∀ i,i≤b.Low.length→∀ n:Int,1≤n→n≤8 ^ i →
  Zit b n b.Low.length i=some (I (n*vol (b.Low.drop i) (b.High.drop i)),[]):=by
 obtain ⟨b1,b2,b3,b4⟩:=Zw8 hv
 refine down _ ?_ ?_
 ·intro n _ _
  refine Z3v _ _ _ _ _ ?_
  rw [List.drop_length,← b1,List.drop_length,Zw5]
  simp
 ·intro i hi0 ih n hn1 hn2
  refine Z3v _ _ _ _ _ ?_
  have h5:=inc64 (i:=i) (by omega)
  have hi2:i<b.High.length:=by omega
  obtain ⟨g1,g2,g3⟩:=b4 i hi0 hi2
  have p1:=pow8 (i:=i+1) (by omega)
  have p2:(8:Int) ^ (i+1)=8 ^ i*8:=Int.pow_succ 8 i
  have hd:(b.High[i] - b.Low[i]+1)≤8:=by omega
  have hd1:1≤(b.High[i] - b.Low[i]+1):=by omega
  have m1:n*(b.High[i] - b.Low[i]+1)≤8 ^ i*8:=Int.mul_le_mul hn2 hd (by omega) (by omega)
  have m2:1≤n*(b.High[i] - b.Low[i]+1):=by
   have:=Int.mul_le_mul hn1 hd1 (by omega) (by omega)
   omega
  have w1:IntKind.wrap .i64 (b.High[i] - b.Low[i])=b.High[i] - b.Low[i]:=wrap64 (by omega) (by omega)
  have w2:IntKind.wrap .i64 (b.High[i] - b.Low[i]+1)=b.High[i] - b.Low[i]+1:=wrap64 (by omega) (by omega)
  have w3:IntKind.wrap .i64 (n*(b.High[i] - b.Low[i]+1))=n*(b.High[i] - b.Low[i]+1):=wrap64 (by omega) (by omega)
  have ih:=ih (n*(b.High[i] - b.Low[i]+1)) m2 (by omega)
  rw [Zw6 hi0 hi2,← Int.mul_assoc]
  simp at ih
  simp [hi0,hi2,h5,w1,w2,w3,ih]
@[simp] theorem Zbos (b:Box) (h:LeX b):Zt4 b=some (I (Zjh b.Low b.High),[]):=by
 refine Zbgt _ _ ?_
 have q1:=Zut b h
 unfold Zjh
 rcases tf (Zbf b.Low b.High) with e | e
 ·simp [q1,e]
 ·have q2:=l_volume b e 0 (Nat.zero_le _) 1 (by omega) (by decide)
  have q3:Zml b=some (I (vol b.Low b.High),[]):=Zbgs _ _ (by simpa using q2)
  simp [q1,q3,e,capV]
theorem Zbhr (b:Box) (hv:Zbf b.Low b.High=true):∀ i,i≤b.Low.length→∀ n:Int,1≤n →
  Ziu b (capV n) i=some (I (capV (n*vol (b.Low.drop i) (b.High.drop i))),[]):=by
 obtain ⟨b1,b2,b3,b4⟩:=Zw8 hv
 refine down _ ?_ ?_
 ·intro n _
  refine Z3w _ _ _ _ ?_
  rw [List.drop_length,← b1,List.drop_length,Zw5]
  simp [b1]
 ·intro i hi0 ih n hn1
  refine Z3w _ _ _ _ ?_
  have h5:=inc64 (i:=i) (by omega)
  have hi2:i<b.High.length:=by omega
  obtain ⟨g1,g2,g3⟩:=b4 i hi0 hi2
  have hd:(b.High[i] - b.Low[i]+1)≤8:=by omega
  have hd1:1≤(b.High[i] - b.Low[i]+1):=by omega
  obtain ⟨c1,c2⟩:=cap_le hn1
  have m1:capV n*(b.High[i] - b.Low[i]+1)≤401*8:=Int.mul_le_mul c2 hd (by omega) (by omega)
  have m2:1*1≤capV n*(b.High[i] - b.Low[i]+1):=Int.mul_le_mul c1 hd1 (by omega) (by omega)
  have m3:1*1≤n*(b.High[i] - b.Low[i]+1):=Int.mul_le_mul hn1 hd1 (by omega) (by omega)
  have w1:IntKind.wrap .i64 (b.High[i] - b.Low[i])=b.High[i] - b.Low[i]:=wrap64 (by omega) (by omega)
  have w2:IntKind.wrap .i64 (b.High[i] - b.Low[i]+1)=b.High[i] - b.Low[i]+1:=wrap64 (by omega) (by omega)
  have w3:IntKind.wrap .i64 (capV n*(b.High[i] - b.Low[i]+1))=capV n*(b.High[i] - b.Low[i]+1):=wrap64 (by omega) (by omega)
  have ih:=ih (n*(b.High[i] - b.Low[i]+1)) (by omega)
  rw [← cap_mul hn1 hd1] at ih
  rw [Zw6 hi0 hi2,← Int.mul_assoc]
  simp at ih
  simp [hi0,hi2,h5,w1,w2,w3,cap_flip,ih]
@[simp] theorem Zbot (b:Box) (h:LeX b):Zt7 b=some (I (Zjh b.Low b.High),[]):=by
 refine Zbgu _ _ ?_
 have q1:=Zuu b h
 unfold Zjh
 rcases tf (Zbf b.Low b.High) with e | e
 ·simp [q1,e]
 ·have q2:=Zbhr b e 0 (Nat.zero_le _) 1 (by omega)
  have e1:capV 1=1:=by decide
  rw [e1] at q2
  simp at q2
  simp [q1,e,q2]
theorem l_vars0 (q:Zc) (m:Int) (hl:Le q.Atoms) (hv:∀ a∈q.Atoms,Le a.Vars) (v:Nat) (hv4:v<8) (out:List Int) (ho:out.length≤8) (r:AV×List Blk):∀ i,i≤q.Atoms.length →
  Ze1 q (out++if hasV m (q.Atoms.drop i) i v=true then [(v:Int)] else []) m (w ((v:Int)+1))=some r →
  Zf5 q out m v q.Atoms q.Atoms.length i=some r:=by
 refine down _ ?_ ?_
 ·intro h
  refine Z1y _ _ _ _ _ _ _ _ ?_
  simpa [hasV] using h
 ·intro i hi ih h
  refine Z1y _ _ _ _ _ _ _ _ ?_
  have h4:=inc64 (i:=i) (by omega)
  have c1:=Zm3 q.Atoms[i].Vars v (hv _ (List.getElem_mem hi))
  have h0:¬ (i:Int)<0:=by omega
  rw [Zqo _ hi] at h
  by_cases e1:andI (shrI m i) 1=1
  ·have e2:Zu m i=true:=by simp [Zu,e1]
   rcases tf (has q.Atoms[i].Vars v) with e3 | e3
   ·simp [e2,e3] at h
    have ih:=ih (by simpa using h)
    simp at ih
    simp [hi,h4,h0,e1,c1,e3,ih]
   ·simp [e2,e3] at h
    have e4:out.length+1≤68719476736:=by omega
    simp [hi,h4,h0,e1,c1,e3,e4,h]
  ·have e2:Zu m i=false:=by simp [Zu,e1]
   simp [e2] at h
   have ih:=ih (by simpa using h)
   simp at ih
   simp [hi,h4,h0,e1,ih]
theorem l_vars1 (q:Zc) (m:Int) (hl:Le q.Atoms) (hv:∀ a∈q.Atoms,Le a.Vars) (n:Nat) (hq:q.Ze=n) (hn:n≤4):∀ k,k≤n →
  Ze1 q (varL m q.Atoms k) m k=some (.own 0,[.arr Zx 1 true ((varL m q.Atoms n).map ic)]):=by
 refine down _ ?_ ?_
 ·refine Z1x _ _ _ _ _ ?_
  simp [hq]
 ·intro k hk ih
  refine Z1x _ _ _ _ _ ?_
  have h4:=inc64 (i:=k) (by omega)
  have b:=l_vars0 q m hl hv k (by omega) (varL m q.Atoms k) (by have:=Zjg m q.Atoms k;omega) _ 0 (Nat.zero_le _) (by
   rw [List.drop_zero,← Z8g,show w ((k:Int)+1)=(k:Int)+1 from h4];simpa using ih)
  simp at b
  simp [hq,hk,b]
@[simp] theorem Zm7 (q:Zc) (m:Int) (h:LeQ q) (hv:Zn q.Ze q.Atoms=true):Zdu q m=some (.own 0,[.arr Zx 1 true ((varL m q.Atoms q.Ze.toNat).map ic)]):=by
 refine Zbd0 _ _ _ ?_
 have hn:=Zde hv
 have b:=l_vars1 q m h.1 h.2 q.Ze.toNat (by omega) (by omega) 0 (Nat.zero_le _)
 simpa [varL] using b
theorem l_both (b xs:List Int) (hb:Le b) (hx:xs.length≤1000000):∀ i,i≤xs.length →
  Zf6 ((xs.take i).filter (has b)) b xs xs.length i=some (.own 0,[.arr Zx 1 true ((xs.filter (has b)).map ic)]):=by
 refine down _ ?_ ?_
 ·refine Z1z _ _ _ _ _ _ ?_
  simp
 ·intro i hi ih
  refine Z1z _ _ _ _ _ _ ?_
  have h4:=inc64 (i:=i) (by omega)
  have c1:=Zm3 b xs[i] hb
  have e4:((xs.take i).filter (has b)).length+1≤68719476736:=by
   have:=List.length_filter_le (has b) (xs.take i)
   simp at this
   omega
  rw [Zqp _ hi] at ih
  rcases tf (has b xs[i]) with e | e
  ·simp [e] at ih
   simp [hi,h4,c1,e,ih]
  ·simp [e] at ih
   simp [hi,h4,c1,e,e4,ih]
@[simp] theorem x_both (xs b:List Int) (hb:Le b) (hx:xs.length≤1000000):Ze2 xs b=some (.own 0,[.arr Zx 1 true ((xs.filter (has b)).map ic)]):=by
 refine Zbd1 _ _ _ ?_
 have:=l_both b xs hb hx 0 (Nat.zero_le _)
 simpa using this
theorem l_bits0 (q:Zc) (m:Int) (hv:∀ a∈q.Atoms,Le a.Vars) (h4v:Var4 q.Atoms) (i:Nat) (hi:i<q.Atoms.length) (hm:Zu m i=true) (r:AV×List Blk):∀ k,k≤q.Atoms[i].Vars.length→∀ p,
  Zfl q m (Z0 (addV p (q.Atoms[i].Vars.drop k))) (w ((i:Int)+1))=some r→Zgs q m (Z0 p) i k=some r:=by
 have e1:andI (shrI m i) 1=1:=by simpa [Zu] using hm
 have h0:¬ (i:Int)<0:=by omega
 have ha:=List.getElem_mem hi
 refine down _ ?_ ?_
 ·intro p h
  refine Zul _ _ _ _ _ _ ?_
  rw [List.drop_length,Zql] at h
  simp [hi,h]
 ·intro k hk ih p h
  refine Zul _ _ _ _ _ _ ?_
  have h4:=inc64 (i:=k) (by have:=hv _ ha;omega)
  have e6:=Zny p (v:=q.Atoms[i].Vars[k]) (h4v _ ha _ (List.getElem_mem hk))
  have e7:=h4v _ ha _ (List.getElem_mem hk)
  simp [inR] at e7
  have e8:¬ q.Atoms[i].Vars[k]<0:=by omega
  rw [Zqm p hk] at h
  have ih:=ih _ h
  simp at ih
  simp [hi,hk,h0,e1,h4,e6,e7,e8,ih]
theorem l_bits1 (q:Zc) (m:Int) (hl:Le q.Atoms) (hv:∀ a∈q.Atoms,Le a.Vars) (h4v:Var4 q.Atoms):∀ i,i≤q.Atoms.length→∀ p,
  Zfl q m (Z0 p) i=some (I (Z0 (addM m p q.Atoms i)),[]):=by
 refine down _ ?_ ?_
 ·intro p
  refine Z29 _ _ _ _ _ ?_
  have e:addM m p q.Atoms q.Atoms.length=p:=by funext u;simp [addM,hasV]
  simp [e]
 ·intro i hi ih p
  refine Z29 _ _ _ _ _ ?_
  have h4:=inc64 (i:=i) (by omega)
  have h0:¬ (i:Int)<0:=by omega
  rw [Z8f m p hi]
  rcases tf (Zu m i) with e | e
  ·have e1:¬ andI (shrI m i) 1=1:=by simpa [Zu] using e
   have ih:=ih p
   simp at ih
   have b:Zgs q m (Z0 p) i 0=some (I (Z0 (addM m p q.Atoms (i+1))),[]):=by
    refine Zul _ _ _ _ _ _ ?_
    simp [hi,h0,e1,h4,ih]
   simp [hi,e,b]
  ·have ih:=ih (addV p q.Atoms[i].Vars)
   have b:=l_bits0 q m hv h4v i hi e _ 0 (Nat.zero_le _) p (by rw [List.drop_zero,show w ((i:Int)+1)=(i:Int)+1 from h4];simpa using ih)
   simp at b
   simp [hi,e,b]
@[simp] theorem Zj4 (q:Zc) (m:Int) (h:LeQ q) (h4v:Var4 q.Atoms):Zca q m=some (I (Z0 (pV m q.Atoms)),[]):=by
 refine Zbfp _ _ _ ?_
 have b:=l_bits1 q m h.1 h.2 h4v 0 (Nat.zero_le _) (fun _=>false)
 have ez:Z0 (fun _=>false)=0:=rfl
 have e:addM m (fun _=>false) q.Atoms 0=pV m q.Atoms:=by funext u;simp [addM,pV]
 rw [ez,e] at b
 simpa using b
theorem Zbhs (q:Zc) (hq:LeQ q) (h:Zn q.Ze q.Atoms=true) (x:Zb) (info:List Zh) (st:List Int) (hs:StOk info st) (hil:info.length≤100) (hst:st.length≤100) :
  match Zb9 q.Atoms x info st with
  | some y=>Zhu q x info st=some (.tup [.agg (y.c.map .t),Bo true],[])
  | none=>∃ y:Zh,Zhu q x info st=some (.tup [.agg (y.c.map .t),Bo false],[]):=by
 have hl:=Zbu h
 have wl:w ((q.Atoms.length:Int) - 1)=(q.Atoms.length:Int) - 1:=wrap64 (by omega) (by omega)
 unfold Zb9
 by_cases k1:x.Kind=1
 ·rw [if_pos k1]
  by_cases c1:inR x.Atom 0 (q.Atoms.length - 1)=true∧x.Order=0
  ·rw [if_pos c1]
   have c2:=c1.1
   simp [inR] at c2
   have hlt:x.Atom.toNat<q.Atoms.length:=by omega
   have hv:=Zjf h _ (List.getElem_mem hlt)
   have h0:¬ x.Atom<0:=by omega
   simp only
   refine Zg7 _ _ _ _ _ ?_
   have e:q.Atoms[x.Atom.toNat].Vars.headD 0=q.Atoms[x.Atom.toNat].Vars[0]'(by omega):=by
    rw [List.headD_eq_head?_getD,hd0 (by omega)]
   rw [List.headD_eq_head?_getD] at e
   simp [k1,wl,c1,h0,hlt,c2,e,show 0<q.Atoms[x.Atom.toNat].Vars.length by omega]
  ·rw [if_neg c1]
   refine ⟨⟨0,-1,-1,-1⟩,Zg7 _ _ _ _ _ ?_⟩
   rcases tf (inR x.Atom 0 (q.Atoms.length - 1)) with e | e
   ·simp [k1,wl,e]
   ·have e2:¬ x.Order=0:=fun hc=>c1 ⟨e,hc⟩
    simp [k1,wl,e,e2]
 rw [if_neg k1]
 by_cases k0:x.Atom=0
 rotate_left
 ·rw [if_pos k0]
  exact ⟨⟨0,-1,-1,-1⟩,Zg7 _ _ _ _ _ (by simp [k1,k0])⟩
 rw [if_neg (by simpa using k0)]
 have w1:w ((st.length:Int) - 1)=(st.length:Int) - 1:=wrap64 (by omega) (by omega)
 have w2:w ((st.length:Int) - 2)=(st.length:Int) - 2:=wrap64 (by omega) (by omega)
 by_cases k2:x.Kind=2
 ·rw [if_pos k2]
  by_cases n1:st.length<1
  ·have:Zbh st info 1=none:=by unfold Zbh;rw [if_neg (by omega)]
   rw [this]
   have n1':(st.length:Int)<1:=by omega
   exact ⟨⟨0,-1,-1,-1⟩,Zg7 _ _ _ _ _ (by simp [k1,k2,k0,n1'])⟩
  ·have n1':¬ (st.length:Int)<1:=by omega
   obtain ⟨s,y,t1,t2,t3,t4⟩:=Zhl hs (by omega:1≤1) (by omega:1≤st.length)
   have z1:(0:Int)≤(st.length:Int) - 1:=by omega
   have z5:(1:Int)≤(st.length:Int):=by omega
   have z2:((st.length:Int) - 1).toNat=st.length - 1:=by omega
   have q1:=Zm7 q y.Mask hq h
   have q2:=Zm3 (varL y.Mask q.Atoms q.Ze.toNat) x.Order (by have:=Zjg y.Mask q.Atoms q.Ze.toNat;have:=Zde h;omega)
   rw [Zko h] at q2
   rw [t1]
   simp only
   by_cases c1:vin q.Atoms y.Mask x.Order=true∧y.Order≠x.Order
   ·rw [if_pos c1]
    refine Zg7 _ _ _ _ _ ?_
    simp [k1,k2,k0,n1',w1,z1,z2,z5,t2,t3,t4,q1,q2,c1]
   ·rw [if_neg c1]
    refine ⟨⟨0,-1,-1,-1⟩,Zg7 _ _ _ _ _ ?_⟩
    rcases tf (vin q.Atoms y.Mask x.Order) with e | e
    ·simp [k1,k2,k0,n1',w1,z1,z2,z5,t2,t3,t4,q1,q2,e]
    ·have e2:y.Order=x.Order:=Decidable.byContradiction fun hc=>c1 ⟨e,hc⟩
     simp [k1,k2,k0,n1',w1,z1,z2,z5,t2,t3,t4,q1,q2,e,e2]
 rw [if_neg k2]
 by_cases n2:st.length<2
 ·have:Zbh st info 2=none:=by unfold Zbh;rw [if_neg (by omega)]
  rw [this]
  have n2':(st.length:Int)<2:=by omega
  exact ⟨⟨0,-1,-1,-1⟩,Zg7 _ _ _ _ _ (by simp [k1,k2,k0,n2'])⟩
 have n2':¬ (st.length:Int)<2:=by omega
 obtain ⟨s,y,t1,t2,t3,t4⟩:=Zhl hs (by omega:1≤2) (by omega:2≤st.length)
 obtain ⟨t,z,u1,u2,u3,u4⟩:=Zhl hs (by omega:1≤1) (by omega:1≤st.length)
 have z1:(0:Int)≤(st.length:Int) - 1:=by omega
 have z2:((st.length:Int) - 1).toNat=st.length - 1:=by omega
 have z3:(0:Int)≤(st.length:Int) - 2:=by omega
 have z4:((st.length:Int) - 2).toNat=st.length - 2:=by omega
 have hn:=Zde h
 have q1:=Zm7 q y.Mask hq h
 have q2:=Zm7 q z.Mask hq h
 have l1:=Zjg y.Mask q.Atoms q.Ze.toNat
 have l2:=Zjg z.Mask q.Atoms q.Ze.toNat
 have q3:=x_both (varL y.Mask q.Atoms q.Ze.toNat) (varL z.Mask q.Atoms q.Ze.toNat) (by omega) (by omega)
 have q4:=Zm3 ((varL y.Mask q.Atoms q.Ze.toNat).filter (has (varL z.Mask q.Atoms q.Ze.toNat))) x.Order (by
  have:=List.length_filter_le (has (varL z.Mask q.Atoms q.Ze.toNat)) (varL y.Mask q.Atoms q.Ze.toNat);omega)
 rw [Z8i h] at q4
 have q5:=Z8h h y.Mask z.Mask
 generalize hS:(varL y.Mask q.Atoms q.Ze.toNat).filter (has (varL z.Mask q.Atoms q.Ze.toNat))=S at q3 q4 q5
 rw [t1,u1]
 simp only
 have base:∀ (r:AV×List Blk),(if andI y.Mask z.Mask=0 then
    if ((S.length:Int)=0) then some (.tup [.agg [I (orI y.Mask z.Mask),I (-1),I s,I t],Bo false],[])=some r
    else if x.Kind=3 then some (.tup [.agg [I (orI y.Mask z.Mask),I (-1),I s,I t],Bo (decide (x.Order=0))],[])=some r
    else if x.Kind=5 then some (.tup [.agg [I (orI y.Mask z.Mask),I y.Order,I s,I t],Bo (decide (x.Order=0))],[])=some r
    else if x.Kind=4 then
     if (vin q.Atoms y.Mask x.Order && vin q.Atoms z.Mask x.Order)=true then
      if y.Order=x.Order then some (.tup [.agg [I (orI y.Mask z.Mask),I x.Order,I s,I t],Bo (decide (z.Order=x.Order))],[])=some r
      else some (.tup [.agg [I (orI y.Mask z.Mask),I x.Order,I s,I t],Bo false],[])=some r
     else some (.tup [.agg [I (orI y.Mask z.Mask),I x.Order,I s,I t],Bo false],[])=some r
    else some (.tup [.agg [I (orI y.Mask z.Mask),I (-1),I s,I t],Bo false],[])=some r
   else some (.tup [.agg [I (orI y.Mask z.Mask),I (-1),I s,I t],Bo false],[])=some r)→Zhu q x info st=some r:=by
  intro r hr
  refine Zg7 _ _ _ _ _ ?_
  simp only [k1,k0,k2,if_false,if_true,n2',w1,w2,z1,z2,z3,z4,t2,t3,t4,u2,u3,u4,q1,q2,true_and,Option.some.injEq,exists_eq_left']
  refine ⟨_,rfl,_,rfl,S,?_,?_⟩
  ·simpa using q3
  ·simp only [q4,Option.some.injEq,Prod.mk.injEq,AV.t.injEq,T.bool.injEq,and_true,exists_eq_left']
   simpa using hr
 by_cases c1:andI y.Mask z.Mask=0∧shr q.Atoms y.Mask z.Mask=true
 rotate_left
 ·rw [if_neg c1]
  refine ⟨⟨orI y.Mask z.Mask,-1,s,t⟩,base _ ?_⟩
  by_cases c2:andI y.Mask z.Mask=0
  ·have c3:S.length=0:=q5.2 (by rcases tf (shr q.Atoms y.Mask z.Mask) with e | e;exact e;exact absurd ⟨c2,e⟩ c1)
   have c4:(S.length:Int)=0:=by omega
   rw [if_pos c2,if_pos c4]
   simp
  ·rw [if_neg c2]
   simp
 rw [if_pos c1]
 have c4:¬ (S.length:Int)=0:=fun hc=>by
  have:=q5.1 (by omega)
  rw [c1.2] at this
  cases this
 have c5:¬ S=[]:=fun hc=>c4 (by simp [hc])
 unfold Zby
 by_cases j1:x.Kind=3∧x.Order=0
 ·rw [if_pos j1]
  exact base _ (by simp [c1.1,c4,c5,j1])
 rw [if_neg j1]
 by_cases j2:x.Kind=5∧x.Order=0
 ·rw [if_pos j2]
  exact base _ (by simp [c1.1,c4,c5,j2])
 rw [if_neg j2]
 by_cases j3:x.Kind=4∧vin q.Atoms y.Mask x.Order=true∧vin q.Atoms z.Mask x.Order=true∧y.Order=x.Order∧z.Order=x.Order
 ·rw [if_pos j3]
  exact base _ (by simp [c1.1,c4,c5,j3])
 rw [if_neg j3]
 simp only [Option.map_none]
 by_cases k3:x.Kind=3
 ·have e:¬ x.Order=0:=fun hc=>j1 ⟨k3,hc⟩
  exact ⟨⟨orI y.Mask z.Mask,-1,s,t⟩,base _ (by simp [c1.1,c4,c5,k3,e])⟩
 by_cases k5:x.Kind=5
 ·have e:¬ x.Order=0:=fun hc=>j2 ⟨k5,hc⟩
  exact ⟨⟨orI y.Mask z.Mask,y.Order,s,t⟩,base _ (by simp [c1.1,c4,c5,k5,e])⟩
 by_cases k4:x.Kind=4
 ·refine ⟨⟨orI y.Mask z.Mask,x.Order,s,t⟩,base _ ?_⟩
  rcases tf (vin q.Atoms y.Mask x.Order) with e1 | e1 <;> rcases tf (vin q.Atoms z.Mask x.Order) with e2 | e2 <;> by_cases e3:y.Order=x.Order <;> simp [c1.1,c4,c5,k4,e1,e2,e3]
  exact fun e4=>j3 ⟨k4,e1,e2,e3,e4⟩
 ·exact ⟨⟨orI y.Mask z.Mask,-1,s,t⟩,base _ (by simp [c1.1,c4,c5,k3,k4,k5])⟩
@[simp] theorem Zpk (b v:Int):Zfo b v=some (Bo (inR v 0 3 && decide (andI (shrI b v) 1=1)),[]):=by
 refine Zbfw _ _ _ ?_
 rcases tf (inR v 0 3) with e | e
 ·simp [e]
 ·have e0:=e
  simp [inR] at e0
  have:¬ v<0:=by omega
  simp [e,this]
def Z7 (x:Zb):Option Zh→AV×List Blk
 | some y=>(.tup [.agg (y.c.map .t),I (popsI x)],[])
 | none=>(.tup [.agg [I 0,I 0,I 0,I 0],I (-1)],[])
theorem Zbht (q:Zc) (hq:LeQ q) (h:Zn q.Ze q.Atoms=true) (x:Zb) (info:List Zh) (st:List Int) (hs:StOk info st) (hil:info.length≤100) (hst:st.length≤100) :
  Zgv q x info st=some (Z7 x (Zb9 q.Atoms x info st)):=by
 have hl:=Zbu h
 have wl:w ((q.Atoms.length:Int) - 1)=(q.Atoms.length:Int) - 1:=wrap64 (by omega) (by omega)
 unfold Zb9
 by_cases k1:x.Kind=1
 ·rw [if_pos k1]
  by_cases c1:inR x.Atom 0 (q.Atoms.length - 1)=true∧x.Order=0
  ·rw [if_pos c1]
   have c2:=c1.1
   simp [inR] at c2
   have hlt:x.Atom.toNat<q.Atoms.length:=by omega
   have hv:=Zjf h _ (List.getElem_mem hlt)
   have h0:¬ x.Atom<0:=by omega
   refine Zes _ _ _ _ _ ?_
   have e:q.Atoms[x.Atom.toNat].Vars.headD 0=q.Atoms[x.Atom.toNat].Vars[0]'(by omega):=by
    rw [List.headD_eq_head?_getD,hd0 (by omega)]
   rw [List.headD_eq_head?_getD] at e
   simp [k1,wl,c1,h0,hlt,c2,e,Z7,popsI,show 0<q.Atoms[x.Atom.toNat].Vars.length by omega]
  ·rw [if_neg c1]
   refine Zes _ _ _ _ _ ?_
   rcases tf (inR x.Atom 0 (q.Atoms.length - 1)) with e | e
   ·simp [k1,wl,e,Z7]
   ·have e2:¬ x.Order=0:=fun hc=>c1 ⟨e,hc⟩
    simp [k1,wl,e,e2,Z7]
 rw [if_neg k1]
 have w1:w ((st.length:Int) - 1)=(st.length:Int) - 1:=wrap64 (by omega) (by omega)
 have w2:w ((st.length:Int) - 2)=(st.length:Int) - 2:=wrap64 (by omega) (by omega)
 by_cases k0:x.Atom=0
 rotate_left
 ·rw [if_pos k0]
  refine Zes _ _ _ _ _ ?_
  have j:∀ b,Zii q x ⟨0,0,0,0⟩ info st st.length x.Kind b=some (Z7 x none):=by
   intro b
   refine Zm2 _ _ _ _ _ _ _ _ _ ?_
   cases b <;> simp [k0,Z7]
  by_cases k2:x.Kind=2
  ·simp [k1,k2,k0,Z7]
  ·by_cases k3:x.Kind=3 <;> by_cases k4:x.Kind=4 <;> simp [k1,k2,k0,k3,k4,j] <;> first | (simp only [k3] at j;simp [j,Z7]) | (simp only [k4] at j;simp [j,Z7]) | simp [Z7]
 rw [if_neg (by simpa using k0)]
 by_cases k2:x.Kind=2
 ·rw [if_pos k2]
  refine Zes _ _ _ _ _ ?_
  by_cases n1:st.length<1
  ·have:Zbh st info 1=none:=by unfold Zbh;rw [if_neg (by omega)]
   rw [this]
   have n1':(st.length:Int)<1:=by omega
   simp [k1,k2,k0,n1',Z7]
  ·have n1':¬ (st.length:Int)<1:=by omega
   obtain ⟨s,y,t1,t2,t3,t4⟩:=Zhl hs (by omega:1≤1) (by omega:1≤st.length)
   have z1:(0:Int)≤(st.length:Int) - 1:=by omega
   have z5:(1:Int)≤(st.length:Int):=by omega
   have z2:((st.length:Int) - 1).toNat=st.length - 1:=by omega
   have q1:=Zj4 q y.Mask hq (Zhk h)
   have q2:(inR x.Order 0 3 && decide (andI (shrI (Z0 (pV y.Mask q.Atoms)) x.Order) 1=1))=vin q.Atoms y.Mask x.Order:=by
    unfold vin
    rcases tf (inR x.Order 0 3) with e | e
    ·simp [e]
    ·rw [e,Bool.true_and,Bool.true_and,Bool.eq_iff_iff,decide_eq_true_eq]
     exact at_bit _ e
   rw [t1]
   simp only
   by_cases e2:y.Order=x.Order
   ·simp [k1,k2,k0,n1',w1,z1,z2,z5,t2,t3,t4,e2,Z7]
   ·rcases tf (vin q.Atoms y.Mask x.Order) with e | e
    ·simp only [k1,k2,k0,n1',w1,z1,z2,t2,t3,t4,q1,Zpk,q2,e,e2,if_false,if_true,true_and,Option.some.injEq,exists_eq_left',Prod.mk.injEq,AV.t.injEq,T.int.injEq,T.bool.injEq,and_true]
     simp [Z7]
    ·simp only [k1,k2,k0,n1',w1,z1,z2,t2,t3,t4,q1,Zpk,q2,e,e2,if_false,if_true,true_and,Option.some.injEq,exists_eq_left',Prod.mk.injEq,AV.t.injEq,T.int.injEq,T.bool.injEq,and_true]
     simp [Z7,popsI,k1,k2,e2]
 rw [if_neg k2]
 -- a join
 have q0:∀ (b:Zh) (c:Zh) (y:Zh) (f:Bool),x.Kind=4→∀ m1 m2,Zgw q x ⟨0,0,0,0⟩ b c y (andI (Z0 (pV m1 q.Atoms)) (Z0 (pV m2 q.Atoms))) f =
   if vin q.Atoms m1 x.Order=true∧vin q.Atoms m2 x.Order=true∧b.Order=x.Order∧c.Order=x.Order then some (.tup [.agg [I y.Mask,I x.Order,I y.Left,I y.Right],I 2],[]) else some (Z7 x none):=by
  intro b c y f k4 m1 m2
  have e:(inR x.Order 0 3 && decide (andI (shrI (andI (Z0 (pV m1 q.Atoms)) (Z0 (pV m2 q.Atoms))) x.Order) 1=1))=(vin q.Atoms m1 x.Order && vin q.Atoms m2 x.Order):=by
   unfold vin
   rcases tf (inR x.Order 0 3) with e | e
   ·simp [e]
   ·rw [e,Bool.true_and,Bool.true_and,Bool.true_and,Bool.eq_iff_iff,decide_eq_true_eq,Zwv]
    simpa using at_bit (fun u=>pV m1 q.Atoms u && pV m2 q.Atoms u) e
  split
  ·rename_i hc
   refine Zum _ _ _ _ _ _ _ _ _ ?_
   simp only [Zpk,e,hc]
   simp [k4]
  ·rename_i hc
   refine Zum _ _ _ _ _ _ _ _ _ ?_
   simp only [Zpk,e]
   rcases tf (vin q.Atoms m1 x.Order) with e1 | e1 <;> rcases tf (vin q.Atoms m2 x.Order) with e2 | e2 <;> by_cases e3:b.Order=x.Order <;> by_cases e4:c.Order=x.Order <;> simp [k4,e1,e2,e3,e4,Z7]
   exact hc ⟨e1,e2,e3,e4⟩
 have q3:∀ (b:Zh) (c:Zh) (y:Zh) (v:Int) (f:Bool),x.Kind≠4→Zgw q x ⟨0,0,0,0⟩ b c y v f=some (.tup [.agg (y.c.map .t),I 2],[]):=by
  intro b c y v f k4
  exact Zum _ _ _ _ _ _ _ _ _ (by simp [k4])
 have q5:∀ (b:Zh) (c:Zh) (y:Zh) (v:Int),x.Kind≠4→Zij q x ⟨0,0,0,0⟩ b c y v=some (.tup [.agg (y.c.map .t),I 2],[]):=by
  intro b c y v k4
  exact Zbfx _ _ _ _ _ _ _ _ (by simp [k4])
 by_cases kk:x.Kind=3∨x.Kind=4∨x.Kind=5
 rotate_left
 ·have k3:¬ x.Kind=3:=fun hc=>kk (.inl hc)
  have k4:¬ x.Kind=4:=fun hc=>kk (.inr (.inl hc))
  have k5:¬ x.Kind=5:=fun hc=>kk (.inr (.inr hc))
  have hj:∀ y z,Zby q.Atoms x y z=none:=by intro y z;simp [Zby,k3,k4,k5]
  refine Eq.trans (b:=some (Z7 x none)) (Zes _ _ _ _ _ (by simp [k1,k2,k3,k4,k5,Z7])) ?_
  simp only [hj,Option.map_none,ite_self]
  split <;> rfl
 have k5':x.Kind≠3→x.Kind≠4→x.Kind=5:=fun a b=>by rcases kk with h | h | h;exact absurd h a;exact absurd h b;exact h
 have red:∀ r,Zii q x ⟨0,0,0,0⟩ info st st.length x.Kind true=some r→(x.Kind=5→Zgv q x info st=some r)→Zgv q x info st=some r:=by
  intro r hr h5
  by_cases k5:x.Kind=5
  ·exact h5 k5
  ·refine Zes _ _ _ _ _ ?_
   by_cases k3:x.Kind=3
   ·rw [if_neg k1,if_neg k2,if_pos k3];exact hr
   ·by_cases k4:x.Kind=4
    ·rw [if_neg k1,if_neg k2,if_neg k3,if_pos k4];exact hr
    ·exact absurd (k5' k3 k4) k5
 by_cases n2:st.length<2
 ·have:Zbh st info 2=none:=by unfold Zbh;rw [if_neg (by omega)]
  rw [this]
  have n2':(st.length:Int)<2:=by omega
  refine red _ ?_ ?_
  ·exact Zm2 _ _ _ _ _ _ _ _ _ (by simp [k0,n2',Z7])
  ·intro k5
   exact Zes _ _ _ _ _ (by simp [k5,k0,n2',Z7])
 have n2':¬ (st.length:Int)<2:=by omega
 obtain ⟨s,y,t1,t2,t3,t4⟩:=Zhl hs (by omega:1≤2) (by omega:2≤st.length)
 obtain ⟨t,z,u1,u2,u3,u4⟩:=Zhl hs (by omega:1≤1) (by omega:1≤st.length)
 have z1:(0:Int)≤(st.length:Int) - 1:=by omega
 have z2:((st.length:Int) - 1).toNat=st.length - 1:=by omega
 have z3:(0:Int)≤(st.length:Int) - 2:=by omega
 have z4:((st.length:Int) - 2).toNat=st.length - 2:=by omega
 have b1:=Zj4 q y.Mask hq (Zhk h)
 have b2:=Zj4 q z.Mask hq (Zhk h)
 have b3:=Zqq q.Atoms y.Mask z.Mask
 rw [t1,u1]
 simp only
 by_cases c1:andI y.Mask z.Mask=0
 rotate_left
 ·rw [if_neg (fun hc=>c1 hc.1)]
  refine red _ ?_ ?_
  ·refine Zm2 _ _ _ _ _ _ _ _ _ ?_
   simp only [k0,n2',w1,w2,z1,z2,z3,z4,t2,t3,t4,u2,u3,u4,b1,b2,c1,if_true,if_false,true_and,Option.some.injEq,exists_eq_left',Prod.mk.injEq,AV.t.injEq,T.int.injEq,and_true]
   simp [Z7]
  ·intro k5
   refine Zes _ _ _ _ _ ?_
   simp only [k5,k0,n2',w1,w2,z1,z2,z3,z4,t2,t3,t4,u2,u3,u4,b1,b2,c1,if_true,if_false,true_and,Option.some.injEq,exists_eq_left',Prod.mk.injEq,AV.t.injEq,T.int.injEq,and_true]
   simp [Z7]
 rcases tf (shr q.Atoms y.Mask z.Mask) with c2 | c2
 ·rw [if_neg (fun hc=>by rw [hc.2] at c2;cases c2)]
  have c3:=b3.2 c2
  refine red _ ?_ ?_
  ·refine Zm2 _ _ _ _ _ _ _ _ _ ?_
   simp only [k0,n2',w1,w2,z1,z2,z3,z4,t2,t3,t4,u2,u3,u4,b1,b2,c1,c3,if_true,if_false,true_and,Option.some.injEq,exists_eq_left',Prod.mk.injEq,AV.t.injEq,T.int.injEq,and_true]
   simp [Z7]
  ·intro k5
   refine Zes _ _ _ _ _ ?_
   simp only [k5,k0,n2',w1,w2,z1,z2,z3,z4,t2,t3,t4,u2,u3,u4,b1,b2,c1,c3,if_true,if_false,true_and,Option.some.injEq,exists_eq_left',Prod.mk.injEq,AV.t.injEq,T.int.injEq,and_true]
   simp [Z7]
 rw [if_pos ⟨c1,c2⟩]
 have c3:¬ andI (Z0 (pV y.Mask q.Atoms)) (Z0 (pV z.Mask q.Atoms))=0:=fun hc=>by rw [b3.1 hc] at c2;cases c2
 have p2:popsI x=2:=by unfold popsI;rw [if_neg k1,if_neg k2]
 refine red _ ?_ ?_
 ·refine Zm2 _ _ _ _ _ _ _ _ _ ?_
  simp only [k0,n2',w1,w2,z1,z2,z3,z4,t2,t3,t4,u2,u3,u4,b1,b2,c1,c3,if_true,if_false,true_and,Option.some.injEq,exists_eq_left',Prod.mk.injEq,AV.t.injEq,T.int.injEq,and_true]
  by_cases k4:x.Kind=4
  ·have k3:¬ x.Kind=3:=by omega
   have k5:¬ x.Kind=5:=by omega
   rw [if_pos k4,q0 _ _ _ _ k4]
   simp only [Zby,k3,k4,k5,false_and,true_and,if_false]
   split
   ·rename_i hc;simp [Z7,p2]
   ·rfl
  ·by_cases e:x.Order=0
   ·by_cases k5:x.Kind=5
    ·rw [if_neg k4,if_pos e,if_pos k5,q5 _ _ _ _ k4]
     simp [Zby,k5,e,Z7,p2]
    ·have k3:x.Kind=3:=by omega
     rw [if_neg k4,if_pos e,if_neg k5,q3 _ _ _ _ _ k4]
     simp [Zby,k3,e,Z7,p2]
   ·rw [if_neg k4,if_neg e]
    simp [Zby,k4,e,Z7]
 ·intro k5
  refine Zes _ _ _ _ _ ?_
  have k4:x.Kind≠4:=by omega
  simp only [k5,k0,n2',w1,w2,z1,z2,z3,z4,t2,t3,t4,u2,u3,u4,b1,b2,c1,c3,if_true,if_false,true_and,Option.some.injEq,exists_eq_left',Prod.mk.injEq,AV.t.injEq,T.int.injEq,and_true]
  by_cases e:x.Order=0
  ·simp [e,q5 _ _ _ _ k4,Zby,k5,Z7,p2]
  ·simp [e,Zby,k5,Z7]
theorem Zbhu (q:Zc) (hq:LeQ q) (h:Zn q.Ze q.Atoms=true) (p:Plan) (hl:p.Steps.length≤14):∀ i,i≤p.Steps.length→∀ info st,StOk info st→info.length=i→st.length≤i →
  Zil q p info st i=some (match Zbi q.Atoms (p.Steps.drop i) i info st with
   | some (info',st')=>if st'.length=1 then (.tup [.own 0,Bo true],[.arr Zho 4 true (info'.map Zh.c)]) else (.tup [.own 0,Bo false],[.arr Zho 4 true []])
   | none=>(.tup [.own 0,Bo false],[.arr Zho 4 true []])):=by
 refine down _ ?_ ?_
 ·intro info st _ _ _
  rw [List.drop_length,Zbi]
  refine Z3e _ _ _ _ _ _ ?_
  by_cases c:st.length=1
  ·simp [c]
  ·have c':¬ (st.length:Int)=1:=by omega
   simp [c,c']
 ·intro i hi ih info st hs hil hst
  have h5:=inc64 (i:=i) (by omega)
  have s1:=Zbht q hq h p.Steps[i] info st hs (by omega) (by omega)
  rw [Zw1 q.Atoms hi]
  refine Z3e _ _ _ _ _ _ ?_
  cases he:Zb9 q.Atoms p.Steps[i] info st with
  | none =>
   rw [he,Z7] at s1
   have e0:Zgv q p.Steps[i] info st=some (.tup [.agg ((⟨0,0,0,0⟩:Zh).c.map .t),I (-1)],[]):=s1
   rw [if_pos (by omega)]
   refine ⟨by omega,_,List.getElem?_eq_getElem hi,_,_,e0,?_⟩
   simp
  | some y =>
   rw [he,Z7] at s1
   obtain ⟨f1,f2,f3⟩:=Zqr hs he
   rw [f1] at s1
   have hn:=Zkp hs y (st.length - pops y)
   rw [hil] at hn
   have ih:=ih (info++[y]) (st.take (st.length - pops y)++[(i:Int)]) hn (by simp [hil]) (st_len hst _)
   have w2:w ((st.length:Int) - (pops y:Int))=(st.length:Int) - (pops y:Int):=wrap64 (by omega) (by omega)
   have z2:((st.length:Int) - (pops y:Int)).toNat=st.length - pops y:=by omega
   rw [if_pos (by omega)]
   refine ⟨by omega,_,List.getElem?_eq_getElem hi,_,_,s1,?_⟩
   rw [if_neg (by omega),w2,z2]
   refine ⟨by omega,by omega,by omega,by omega,by omega,?_⟩
   rw [show w ((i:Int)+1)=(i:Int)+1 from h5]
   simpa using ih
@[simp] theorem Z4b (q:Zc) (p:Plan) (hq:LeQ q):Zik q p=some (match Zbj q.Ze q.Atoms p.Steps with
  | some info=>(.tup [.own 0,Bo true],[.arr Zho 4 true (info.map Zh.c)])
  | none=>(.tup [.own 0,Bo false],[.arr Zho 4 true []])):=by
 refine Zbfy _ _ _ ?_
 have q1:=Zph q hq
 unfold Zbj
 rcases tf (Zn q.Ze q.Atoms) with e | e
 ·simp [q1,e]
 rcases tf (inR p.Steps.length 1 14) with e2 | e2
 ·simp [q1,e,e2]
 ·have e3:=e2
  simp [inR] at e3
  have b:=Zbhu q hq e p (by omega) 0 (Nat.zero_le _) [] [] (fun s hs=>by cases hs) rfl (Nat.le_refl _)
  simp only [List.drop_zero] at b
  simp only [q1,e,e2,Zd9,Option.some.injEq,Prod.mk.injEq,AV.t.injEq,T.bool.injEq,and_true,exists_eq_left',if_true,and_self]
  refine Eq.trans b ?_
  cases Zbi q.Atoms p.Steps 0 [] [] with
  | none=>rfl
  | some r=>obtain ⟨a,b⟩:=r;simp only;split <;> rfl
theorem Zbhv (q:Zc) (hq:LeQ q) (h:Zn q.Ze q.Atoms=true) (steps:List Zb) (hl:steps.length≤14):∀ i,i≤steps.length→∀ info st,StOk info st→info.length=i→st.length≤i →
  Ze4 q info st steps steps.length i=some (match Zbi q.Atoms (steps.drop i) i info st with
   | some (info',st')=>if st'.length=1 then (.tup [.own 0,Bo true],[.arr Zho 4 true (info'.map Zh.c)]) else (.tup [.t .nil,Bo false],[])
   | none=>(.tup [.t .nil,Bo false],[])):=by
 refine down _ ?_ ?_
 ·intro info st _ _ _
  rw [List.drop_length,Zbi]
  refine Z10 _ _ _ _ _ _ _ ?_
  by_cases c:st.length=1
  ·simp [c]
  ·have c':¬ (st.length:Int)=1:=by omega
   simp [c,c']
 ·intro i hi ih info st hs hil hst
  have h5:=inc64 (i:=i) (by omega)
  have s1:=Zbhs q hq h steps[i] info st hs (by omega) (by omega)
  rw [Zw1 q.Atoms hi]
  refine Z10 _ _ _ _ _ _ _ ?_
  cases he:Zb9 q.Atoms steps[i] info st with
  | none =>
   rw [he] at s1
   obtain ⟨y,s1⟩:=s1
   rw [if_pos (by omega)]
   refine ⟨by omega,_,List.getElem?_eq_getElem hi,_,_,s1,?_⟩
   simp
  | some y =>
   rw [he] at s1
   obtain ⟨f1,f2,f3⟩:=Zqr hs he
   have hn:=Zkp hs y (st.length - pops y)
   rw [hil] at hn
   have ih:=ih (info++[y]) (st.take (st.length - pops y)++[(i:Int)]) hn (by simp [hil]) (st_len hst _)
   rw [if_pos (by omega)]
   refine ⟨by omega,_,List.getElem?_eq_getElem hi,_,_,s1,?_⟩
   rw [if_pos rfl]
   refine ⟨by omega,?_⟩
   simp only
   unfold pops at ih f2 ⊢
   rw [show w ((i:Int)+1)=(i:Int)+1 from h5]
   by_cases r:0≤y.Right
   ·simp only [if_pos r] at ih f2 ⊢
    have w2:w ((st.length:Int) - 2)=(st.length:Int) - 2:=wrap64 (by omega) (by omega)
    have z2:((st.length:Int) - 2).toNat=st.length - 2:=by omega
    rw [w2,z2]
    refine ⟨by omega,by omega,by omega,by simpa using ih⟩
   ·simp only [if_neg r] at ih f2 ⊢
    by_cases l:0≤y.Left
    ·simp only [if_pos l] at ih f2 ⊢
     have w2:w ((st.length:Int) - 1)=(st.length:Int) - 1:=wrap64 (by omega) (by omega)
     have z2:((st.length:Int) - 1).toNat=st.length - 1:=by omega
     rw [w2,z2]
     refine ⟨by omega,by omega,by omega,by simpa using ih⟩
    ·simp only [if_neg l] at ih f2 ⊢
     exact ⟨by omega,by simpa using ih⟩
@[simp] theorem Z4c (q:Zc) (p:Plan) (hq:LeQ q):Ze3 q p=some (match Zbj q.Ze q.Atoms p.Steps with
  | some info=>(.tup [.own 0,Bo true],[.arr Zho 4 true (info.map Zh.c)])
  | none=>(.tup [.t .nil,Bo false],[])):=by
 refine Zbd2 _ _ _ ?_
 have q1:=Zm4 q hq
 unfold Zbj
 rcases tf (Zn q.Ze q.Atoms) with e | e
 ·simp [q1,e]
 rcases tf (inR p.Steps.length 1 14) with e2 | e2
 ·simp [q1,e,e2]
 ·have e3:=e2
  simp [inR] at e3
  have b:=Zbhv q hq e p.Steps (by omega) 0 (Nat.zero_le _) [] [] (fun s hs=>by cases hs) rfl (Nat.le_refl _)
  simp only [List.drop_zero] at b
  simp only [q1,e,e2,Zcr,Option.some.injEq,Prod.mk.injEq,AV.t.injEq,T.bool.injEq,and_true,exists_eq_left',if_true,and_self]
  refine Eq.trans b ?_
  cases Zbi q.Atoms p.Steps 0 [] [] with
  | none=>rfl
  | some r=>obtain ⟨a,b⟩:=r;simp only;split <;> rfl
@[simp] theorem Zbhw (q:Zc) (p:Plan) (hq:LeQ q):Zkx q p=some (I (Zf0 q.Ze q.Atoms p.Steps),[]):=by
 refine Zbd3 _ _ _ ?_
 have q1:=Z4c q p hq
 unfold Zf0
 cases he:Zbj q.Ze q.Atoms p.Steps with
 | none=>rw [he] at q1;exact .inl ⟨q1,rfl⟩
 | some info =>
  obtain ⟨l1,l2,l3,l4⟩:=Zhm he
  rw [he] at q1
  have hlt:info.length - 1<info.length:=by omega
  have w1:w ((info.length:Int) - 1)=(info.length:Int) - 1:=wrap64 (by omega) (by omega)
  have z2:((info.length:Int) - 1).toNat=info.length - 1:=by omega
  refine .inr ⟨info,q1,?_⟩
  rw [w1,z2]
  refine ⟨by omega,_,List.getElem?_eq_getElem hlt,?_⟩
  simp [List.getElem?_eq_getElem hlt]
@[simp] theorem Zbhx (q:Zc) (p:Plan) (hq:LeQ q):Zlu q p=some (I (Zf0 q.Ze q.Atoms p.Steps),[]):=by
 refine Zbfz _ _ _ ?_
 have q1:=Z4b q p hq
 unfold Zf0
 cases he:Zbj q.Ze q.Atoms p.Steps with
 | none=>rw [he] at q1;exact ⟨[],false,q1,by simp⟩
 | some info =>
  obtain ⟨l1,l2,l3,l4⟩:=Zhm he
  rw [he] at q1
  have hlt:info.length - 1<info.length:=by omega
  have w1:w ((info.length:Int) - 1)=(info.length:Int) - 1:=wrap64 (by omega) (by omega)
  have z2:((info.length:Int) - 1).toNat=info.length - 1:=by omega
  refine ⟨info,true,q1,?_⟩
  rw [if_pos rfl,w1,z2]
  refine ⟨by omega,_,List.getElem?_eq_getElem hlt,?_⟩
  simp [List.getElem?_eq_getElem hlt]
def Zdl:Int→List Zg→Bool
 | _,[]=>true
 | p,s::r=>inR s.From 1 8192 && inR s.Add (-99) 99 && decide (p<s.From) && Zdl s.From r
def Zcg (l:List Zg):Nat→Int
 | 0=>0
 | i+1=>match l[i]? with | some s=>s.From | none=>0
def Zch (n:Int):Bool:=inR n (-99) 99
def Zbc (o:Zi):Bool:=Zch o.Fixed && Zch o.Zj && Zch o.Zk && Zch o.Zm && Zch o.Zl && decide (o.Steps.length≤4) && Zdl 0 o.Steps
theorem Z4d (p:Int) {l:List Zg} {i:Nat} (h:i<l.length):Zdl p (l.drop i)=(inR l[i].From 1 8192 && inR l[i].Add (-99) 99 && decide (p<l[i].From) && Zdl l[i].From (l.drop (i+1))):=by
 rw [List.drop_eq_getElem_cons h,Zdl]
@[simp] theorem Zbhy (n:Int):Zd0 n=some (Bo (Zch n),[]):=by
 refine Zbfa _ _ ?_
 simp [Zch]
theorem Zbhz (o:Zi) (hl:Le o.Steps):∀ i,i≤o.Steps.length→Zfi o i=some (Bo (Zdl (Zcg o.Steps i) (o.Steps.drop i)),[]):=by
 refine down _ ?_ ?_
 ·refine Z2x _ _ _ ?_
  simp [Zdl]
 ·intro i hi ih
  refine Z2x _ _ _ ?_
  have h4:=inc64 (i:=i) (by omega)
  rw [Z4d _ hi]
  have pn:Zcg o.Steps (i+1)=o.Steps[i].From:=by simp [Zcg,List.getElem?_eq_getElem hi]
  rw [pn] at ih
  simp only [Int.natCast_add,Int.cast_ofNat_Int] at ih
  rw [if_pos (by omega)]
  refine ⟨by omega,o.Steps[i],by rw [Int.toNat_natCast];exact List.getElem?_eq_getElem hi,_,Zd9 _ _ _,?_⟩
  rcases tf (inR o.Steps[i].From 1 8192) with e1 | e1
  ·rw [e1];simp
  rw [e1,if_pos rfl]
  refine ⟨_,Zbhy _,?_⟩
  unfold Zch
  rcases tf (inR o.Steps[i].Add (-99) 99) with e2 | e2
  ·rw [e2];simp
  rw [e2,if_pos rfl,show w ((i:Int)+1)=(i:Int)+1 from h4]
  cases i with
  | zero =>
   rw [if_neg (by omega),ih]
   have:Zcg o.Steps 0<o.Steps[0].From:=by simp [inR] at e1;simp [Zcg];omega
   simp [this]
  | succ j =>
   have hj:j<o.Steps.length:=by omega
   have w2:w (((j+1:Nat):Int) - 1)=j:=by rw [show ((j+1:Nat):Int) - 1=j by omega];exact wrap64 (by omega) (by omega)
   have pj:Zcg o.Steps (j+1)=o.Steps[j].From:=by simp [Zcg,List.getElem?_eq_getElem hj]
   rw [if_pos (by omega),w2,pj]
   refine ⟨by omega,o.Steps[j],by rw [Int.toNat_natCast];exact List.getElem?_eq_getElem hj,?_⟩
   by_cases e3:o.Steps[j+1].From≤o.Steps[j].From
   ·rw [if_pos e3,decide_eq_false (by omega)];simp
   ·rw [if_neg e3,decide_eq_true (by omega),ih];simp
@[simp] theorem Zm8 (o:Zi) (hl:Le o.Steps):Zen o=some (Bo (Zbc o),[]):=by
 refine Zbfb _ _ ?_
 have b:=Zbhz o hl 0 (Nat.zero_le _)
 simp only [Zcg,List.drop_zero,Int.ofNat_zero] at b
 have b:Zfi o 0=_:=b
 unfold Zbc
 rcases tf (Zch o.Fixed) with e1 | e1
 ·simp [e1]
 rcases tf (Zch o.Zj) with e2 | e2
 ·simp [e1,e2]
 rcases tf (Zch o.Zk) with e3 | e3
 ·simp [e1,e2,e3]
 rcases tf (Zch o.Zm) with e4 | e4
 ·simp [e1,e2,e3,e4]
 rcases tf (Zch o.Zl) with e5 | e5
 ·simp [e1,e2,e3,e4,e5]
 by_cases e6:o.Steps.length≤4
 ·have e7:¬ (4:Int)<o.Steps.length:=by omega
  simp [e1,e2,e3,e4,e5,e6,e7,b]
 ·have e7:(4:Int)<o.Steps.length:=by omega
  simp [e1,e2,e3,e4,e5,e6,e7]
theorem Zbh0 (o:Zi) (hl:Le o.Steps):∀ i,i≤o.Steps.length→Ze6 o o.Steps o.Steps.length i=some (Bo (Zdl (Zcg o.Steps i) (o.Steps.drop i) && decide (o.Steps.length≤4)),[]):=by
 refine down _ ?_ ?_
 ·refine Z15 _ _ _ _ _ ?_
  rw [if_neg (by omega)]
  by_cases e:o.Steps.length≤4
  ·simp [Zdl,e];omega
  ·simp [Zdl,e];omega
 ·intro i hi ih
  refine Z15 _ _ _ _ _ ?_
  have h4:=inc64 (i:=i) (by omega)
  rw [Z4d _ hi]
  have pn:Zcg o.Steps (i+1)=o.Steps[i].From:=by simp [Zcg,List.getElem?_eq_getElem hi]
  rw [pn] at ih
  simp only [Int.natCast_add,Int.cast_ofNat_Int] at ih
  rw [if_pos (by omega)]
  refine ⟨by omega,o.Steps[i],by rw [Int.toNat_natCast];exact List.getElem?_eq_getElem hi,_,Zcr _ _ _,?_⟩
  rcases tf (inR o.Steps[i].Add (-99) 99) with e2 | e2
  ·rw [e2];simp
  rw [e2,if_pos rfl]
  refine ⟨_,Zcr _ _ _,?_⟩
  rcases tf (inR o.Steps[i].From 1 8192) with e1 | e1
  ·rw [e1];simp
  rw [e1,if_pos rfl,show w ((i:Int)+1)=(i:Int)+1 from h4]
  cases i with
  | zero =>
   rw [if_neg (by omega),ih]
   have:Zcg o.Steps 0<o.Steps[0].From:=by simp [inR] at e1;simp [Zcg];omega
   simp [this]
  | succ j =>
   have hj:j<o.Steps.length:=by omega
   have w2:w (((j+1:Nat):Int) - 1)=j:=by rw [show ((j+1:Nat):Int) - 1=j by omega];exact wrap64 (by omega) (by omega)
   have pj:Zcg o.Steps (j+1)=o.Steps[j].From:=by simp [Zcg,List.getElem?_eq_getElem hj]
   rw [if_pos (by omega),w2,pj]
   refine ⟨by omega,o.Steps[j],by rw [Int.toNat_natCast];exact List.getElem?_eq_getElem hj,?_⟩
   by_cases e3:o.Steps[j+1].From≤o.Steps[j].From
   ·rw [if_pos e3,decide_eq_false (by omega)];simp
   ·rw [if_neg e3,decide_eq_true (by omega),ih];simp
@[simp] theorem Zci (o:Zi) (hl:Le o.Steps):Zbp o=some (Bo (Zbc o),[]):=by
 refine Zbd9 _ _ ?_
 have hc:Zk0 o=some (.bsl 1 5,[.box (o.c.map .t),.box [.ptr 0 0,.ptr 0 1,.ptr 0 2,.ptr 0 3,.ptr 0 4]]):=Zbd8 _ _ rfl
 refine ⟨hc,?_⟩
 have b:=Zbh0 o hl 0 (Nat.zero_le _)
 simp only [Zcg,List.drop_zero] at b
 have b:Ze6 o o.Steps o.Steps.length 0=_:=b
 have w1:w (0+1)=1:=by decide
 have w2:w (1+1)=2:=by decide
 have w3:w (2+1)=3:=by decide
 have w4:w (3+1)=4:=by decide
 have w5:w (4+1)=5:=by decide
 unfold Zbc Zch
 refine Zj2 _ _ _ _ ?_
 rw [if_pos (by omega),if_pos rfl]
 refine ⟨_,Zcr _ _ _,?_⟩
 rcases tf (inR o.Fixed (-99) 99) with e1 | e1
 ·rw [e1];simp
 rw [e1,if_pos rfl,w1]
 refine Zj2 _ _ _ _ ?_
 rw [if_pos (by omega),if_neg (by omega),if_pos rfl]
 refine ⟨_,Zcr _ _ _,?_⟩
 rcases tf (inR o.Zj (-99) 99) with e2 | e2
 ·rw [e2];simp
 rw [e2,if_pos rfl,w2]
 refine Zj2 _ _ _ _ ?_
 rw [if_pos (by omega),if_neg (by omega),if_neg (by omega),if_pos rfl]
 refine ⟨_,Zcr _ _ _,?_⟩
 rcases tf (inR o.Zk (-99) 99) with e3 | e3
 ·rw [e3];simp
 rw [e3,if_pos rfl,w3]
 refine Zj2 _ _ _ _ ?_
 rw [if_pos (by omega),if_neg (by omega),if_neg (by omega),if_neg (by omega),if_pos rfl]
 refine ⟨_,Zcr _ _ _,?_⟩
 rcases tf (inR o.Zm (-99) 99) with e4 | e4
 ·rw [e4];simp
 rw [e4,if_pos rfl,w4]
 refine Zj2 _ _ _ _ ?_
 rw [if_pos (by omega),if_neg (by omega),if_neg (by omega),if_neg (by omega),if_neg (by omega),if_pos rfl]
 refine ⟨_,Zcr _ _ _,?_⟩
 rcases tf (inR o.Zl (-99) 99) with e5 | e5
 ·rw [e5];simp
 rw [e5,if_pos rfl,w5]
 refine Zj2 _ _ _ _ ?_
 rw [if_neg (by omega),b]
 simp [Bool.and_comm]
def Zfv (o:Zi) (l r n:Int):Int:=w (w (w (w (o.Fixed+w (o.Zj*l))+w (o.Zk*r))+w (o.Zm*n))+w (w (o.Zl*l)*r))
def Zdm (l r:Int) (n:Int) (s:Zg):Int:=if s.From≤w (l+r) then w (n+s.Add) else n
def Zj5 (o:Zi) (l r n:Int):Int:=o.Steps.foldl (Zdm l r) (Zfv o l r n)
def Z8 (o:Zi) (l r n:Int):Int:=if (Zbc o && inR l 0 4096 && inR r 0 4096 && inR n 0 4096)=true then Zj5 o l r n else 0
theorem Zbh1 (l r:Int) (st:List Zg) (hl:Le st):∀ i,i≤st.length→∀ n,Zf9 l r n st st.length i=some (I ((st.drop i).foldl (Zdm l r) n),[]):=by
 refine down _ ?_ ?_
 ·intro n
  refine Z19 _ _ _ _ _ _ _ ?_
  simp
 ·intro i hi ih n
  refine Z19 _ _ _ _ _ _ _ ?_
  have h4:=inc64 (i:=i) (by omega)
  rw [List.drop_eq_getElem_cons hi,List.foldl_cons]
  simp only [Int.natCast_add,Int.cast_ofNat_Int] at ih
  by_cases e:st[i].From≤w (l+r)
  ·simp [hi,h4,e,ih,Zdm]
  ·simp [hi,h4,e,ih,Zdm]
@[simp] theorem Zbou (o:Zi) (hl:Le o.Steps) (l r n:Int):Zhy o l r n=some (I (Zj5 o l r n),[]):=by
 refine Zbed _ _ _ _ _ ?_
 have b:=Zbh1 l r o.Steps hl 0 (Nat.zero_le _) (Zfv o l r n)
 simpa [Zj5,Zfv] using b
@[simp] theorem Zet (o:Zi) (hl:Le o.Steps) (l r n:Int):Zbl o l r n=some (I (Z8 o l r n),[]):=by
 refine Zbek _ _ _ _ _ ?_
 unfold Z8
 rcases tf (Zbc o) with e1 | e1 <;> rcases tf (inR l 0 4096) with e2 | e2 <;> rcases tf (inR r 0 4096) with e3 | e3 <;> rcases tf (inR n 0 4096) with e4 | e4 <;> simp [hl,e1,e2,e3,e4]
theorem Zbh2 (o:Zi) (l r:Int) (hl:Le o.Steps):∀ i,i≤o.Steps.length→∀ n,Zfk o l r n i=some (I ((o.Steps.drop i).foldl (Zdm l r) n),[]):=by
 refine down _ ?_ ?_
 ·intro n
  refine Z2y _ _ _ _ _ _ ?_
  simp
 ·intro i hi ih n
  refine Z2y _ _ _ _ _ _ ?_
  have h4:=inc64 (i:=i) (by omega)
  rw [List.drop_eq_getElem_cons hi,List.foldl_cons]
  simp only [Int.natCast_add,Int.cast_ofNat_Int] at ih
  by_cases e:o.Steps[i].From≤w (l+r)
  ·simp [hi,h4,e,ih,Zdm]
  ·simp [hi,h4,e,ih,Zdm]
@[simp] theorem Zea (o:Zi) (hl:Le o.Steps) (l r n:Int):Zbv o l r n=some (I (Z8 o l r n),[]):=by
 refine Zbfe _ _ _ _ _ ?_
 have b:=Zbh2 o l r hl 0 (Nat.zero_le _) (Zfv o l r n)
 simp only [List.drop_zero,Zfv] at b
 have b:Zfk o l r _ 0=_:=b
 unfold Z8
 rcases tf (Zbc o) with e1 | e1 <;> rcases tf (inR l 0 4096) with e2 | e2 <;> rcases tf (inR r 0 4096) with e3 | e3 <;> rcases tf (inR n 0 4096) with e4 | e4 <;> simp [hl,e1,e2,e3,e4,b,Zj5,Zfv]
end Go.Proofs.YtbapkgocloaaeaaGreat
